/- Walks of the graphs, Applies, the helpers of the laws, head; from a contract on representations to the rows. -/
import Derived.Test.YtjenebejjamnjaaGreatDoorE
import Derived.Test.YtjenebejjamnjaaGreatDoorCards
import Derived.Test.YtjenebejjamnjaaGreatDoorTie
import Derived.Lib.LaidTab
import Derived.Stop.LaidErr
import Derived.ProofKit
import Derived.OpenShut
import Derived.Deep.DeepHandedRow
import Derived.Lay
set_option linter.unusedVariables false
set_option linter.unusedSimpArgs false
set_option linter.unusedSectionVars false
namespace Lg
open Go Go.Proofs Go.Proofs.Tryz
theorem oneE_nth {es : List (List Int)} (h : oneE es) {i : Nat} (hi : i < es.length) : i = 0 ∧ Inc (nth es i) ∧ nth es i ≠ [] ∧ (nth es i).length ≤ 6 ∧ ∀ x ∈ nth es i, 0 ≤ x ∧ x < 100 :=
  ⟨by have := h.1; omega, h.2 _ (nth_mem hi)⟩
theorem ne_len {α : Type} {l : List α} (h : l ≠ []) : 0 < l.length := by cases l with | nil => exact absurd rfl h | cons _ _ => simp
set_option maxHeartbeats 1000000 in
theorem MinimalOne_spec (es : List (List Int)) (h : oneE es) : Fun1 prog 67 [tSl (rSl rInt) es] (tSl (rSl rInt) es) := by
 refine Spec.enter func67 rfl rfl fun h0 w0 fr0 => ?_
 have hle := h.1
 refine Jr (Ja rfl (JL_nil (Jr (Ja rfl (JL_nil ?_)))))
 refine J_seq (Jr (Jm rfl (Js rfl (step_len_sl underlying28 Sr) (Jm rfl (JL_nil ?_)))))
 refine J_block ?_
 refine J_loopL (σ := Nat × Value) (fun ⟨i, v⟩ => i ≤ es.length) (fun ⟨i, v⟩ => upd (upd (upd (upd (upd env0 2 (tV (.slice none 0 0))) 3 (rV.ty v)) 10 (tSl (rSl rInt) es)) 11 (tV (.int .i64 es.length))) 12 (tV (.int .i64 i))) (fun ⟨i, v⟩ => [own 27 (rSl rInt) v (es.take i)]) (fun ⟨i, v⟩ => es.length - i) (0, .slice none 0 0) (Nat.zero_le _) (.u (.u (.u (SubE.upd (Sub.rV rfl) (SubE.upd Sr SubE.any))))) (LSub.nilown) ?_
 rintro ⟨i, v⟩ hi
 try dsimp only at hi
 refine Jr (Js rfl (step_lss Sr Sr) (JL_nil (J_seq ?_)))
 refine J_cond Sr (fun h13 => ?_) (fun h13 => ?_)
 ·
  try simp only [NF] at h13
  have hlt : i < es.length := by omega
  obtain ⟨hi0, hinc, hne, hl6, hb⟩ := oneE_nth h hlt
  have hnl := ne_len hne
  refine J_skip (J_seq (J_block (Jr ?_)))
  refine Js rfl (step_indexAddr_sl  underlying28 ty27 Sr Sr rfl (gb (by exact hlt))) ?_
  refine Jl rfl ty27 Sr (Ja rfl (JL_nil (Jr (Jm rfl (Js rfl (step_len_sl underlying27 Sr) ?_)))))
  refine Js rfl (step_gtr Sr Sr) (JL_nil ?_)
  refine J_cond Sr (fun h18 => ?_) (fun h18 => ?_)
  ·
   try simp only [NF] at h18
   refine J_region (Jm rfl (Jm rfl (Js rfl (step_call0 (setL_spec _ hinc zG) ⟨Sr, trivial⟩ call101) ?_)))
   refine Js rfl (step_literal (ys := [_]) underlying28 el27 ⟨rfl, Sr, trivial⟩ rfl (by decide)) ?_
   refine Jx rfl (step_append underlying28 el27 Sr Sr zS (by simp; omega) (by simp; omega)) fun u23 => ?_
   refine Ja rfl (JL_nil (J_region (Js rfl (step_add Sr Sr z6) (Jm rfl (JL_nil ?_)))))
   refine K_againL (σ := Nat × Value) (s := (i, v)) (i + 1, u23) zO (by simp; omega) (.u (.u (.u (.u (SubE.upd Sr SubE.any))))) (LSub.cons zS (SPs.of (by rw [takeB hlt])) (LSub.nil))
  try simp only [NF] at h18
  exfalso; omega
 try simp only [NF] at h13
 refine J_exit (J_seq ?_)
 refine K_lsub (L' := [own 27 (rSl rInt) v es]) (LSub.cons zS (SPs.of (by rw [List.take_of_length_le zG])) (LSub.nil)) ?_
 refine J_region (Jm rfl ?_)
 refine Jx rfl (step_call zS (SortStableOne_spec v _ es hle) ⟨Sr, Sr, trivial⟩ call102) fun v26 => ?_
 refine JL_nil (Jr ?_)
 refine Jx rfl (step_makeMapV (kv := kvS) (R := rBool)) fun v6 => ?_
 refine Ja rfl (JL_nil (Jr (Ja rfl (JL_nil (J_seq ?_)))))
 refine Jr (Jm rfl ?_)
 refine Js rfl (step_len_own underlying28 Sr zS) ?_
 refine Jm rfl (JL_nil (J_block ?_))
 refine J_loopL (σ := Nat × Value × List (ByteArray × Bool)) (fun ⟨i, vo, m⟩ => i ≤ es.length ∧ (i = 0 → m = [])) (fun ⟨i, vo, m⟩ => upd (upd (upd (upd (upd (upd env0 2 (tV (.slice none 0 0))) 6 (rV.ty v6)) 7 (rV.ty vo)) 28 (rV.ty v)) 29 (tV (.int .i64 es.length))) 30 (tV (.int .i64 i))) (fun ⟨i, vo, m⟩ => [own 27 (rSl rInt) v es, mapOwn kvS rBool v6 m, own 27 (rSl rInt) vo (es.take i)]) (fun ⟨i, vo, m⟩ => es.length - i) (0, .slice none 0 0, []) ⟨Nat.zero_le _, fun _ => rfl⟩ (.u (.u (.u (SubE.upd (Sub.rV rfl) (.u (SubE.upd Sr SubE.any)))))) (LSub.trans LSub.nilown (LSub.cons zS (SPs.rfl) (LSub.cons zS (SPs.of rfl) (LSub.cons zS (SPs.rfl) (LSub.nil))))) ?_
 rintro ⟨i, vo, m⟩ ⟨hi, hm⟩
 refine Jr (Js rfl (step_lss Sr Sr) (JL_nil (J_seq ?_)))
 refine J_cond Sr (fun h31 => ?_) (fun h31 => ?_)
 ·
  try simp only [NF] at h31
  have hlt : i < es.length := by omega
  obtain ⟨hi0, hinc, hne, hl6, hb⟩ := oneE_nth h hlt
  have hnl := ne_len hne
  have hm0 := hm hi0
  refine J_skip (J_seq (J_block (Jr ?_)))
  refine Js rfl (step_indexAddr_own  underlying28 ty27 Sr zS Sr rfl (by exact hlt)) ?_
  refine Js rfl (step_load_own ty27 Sr zS (gb (by first | assumption | omega))) ?_
  refine Ja rfl (JL_nil (J_seq ?_))
  refine K_lsub (L' := [own 27 (rSl rInt) v es, mapOwn kvS rBool v6 [], own 27 (rSl rInt) vo (es.take i)]) (LSub.cons zS (SPs.rfl) (LSub.cons zS (SPs.of (by rw [hm0])) (LSub.cons zS (SPs.rfl) (LSub.nil)))) ?_
  refine J_region (Jm rfl (Jm rfl (Jm rfl ?_)))
  refine Jx rfl (step_call zS (above0_spec (nth es i) vo v6 hl6 hb) ⟨Sr, Sr, Sr, trivial⟩ call104) fun v37 => ?_
  refine Js rfl (step_not Sr) (JL_nil ?_)
  refine J_cond Sr (fun hc4 => ?_) (fun hc4 => ?_)
  ·
   try simp only [NF] at hc4
   refine Jr (Jm rfl (Jm rfl (Js rfl (step_call0 (textS_spec _ zG hb) ⟨Sr, trivial⟩ call105) ?_)))
   refine Ju (step_mapUpdate (kv := kvS) (R := rBool) (KeyT.str underlying9) underlying135 Sub.ofRV Sr Sr zS) fun _ => ?_
   refine JL_nil (J_region (Jm rfl (Jm rfl ?_)))
   refine Js rfl (step_literal (ys := [_]) underlying28 el27 ⟨rfl, Sr, trivial⟩ rfl (by decide)) ?_
   refine Jx rfl (step_append underlying28 el27 Sr Sr zS (by simp; omega) (by simp; omega)) fun u45 => ?_
   refine Ja rfl (JL_nil (J_region (Js rfl (step_add Sr Sr z6) (Jm rfl (JL_nil ?_)))))
   refine K_againL (σ := Nat × Value × List (ByteArray × Bool)) (s := (i, vo, m)) (i + 1, u45, _) zO ⟨hlt, fun h => absurd h (Nat.succ_ne_zero _)⟩ (.u (.u (.u (.u (.u (SubE.upd Sr SubE.any)))))) (LSub.cons zS (SPs.rfl) (LSub.cons zS (SPs.rfl) (LSub.cons zS (SPs.of (by rw [takeB hlt])) (LSub.nil))))
  try simp only [NF] at hc4
  exfalso; simp_all
 try simp only [NF] at h31
 refine J_exit (J_seq ?_)
 refine K_lsub (L' := [own 27 (rSl rInt) v es, mapOwn kvS rBool v6 m, own 27 (rSl rInt) vo es]) (LSub.cons zS (SPs.rfl) (LSub.cons zS (SPs.rfl) (LSub.cons zS (SPs.of (by rw [List.take_of_length_le zG])) (LSub.nil)))) ?_
 refine J_region (Jm rfl ?_)
 refine Jx rfl (step_call zS (SortOne_spec vo _ es hle) ⟨Sr, Sr, trivial⟩ call106) fun v48 => ?_
 refine JL_nil (Jr (Jm rfl (Ja rfl (JL_nil (J_ret ?_)))))
 refine K_ret1' (rv := .tmp 2) rfl () (Sel.all _) (.tmp Sr) Frz.own
set_option maxHeartbeats 1000000 in
theorem ValidOne_spec (g : GGraph) (h : oneE g.Edges) (hc : g.Cost.length ≤ 1000000000) : Fun1 prog 39 [rGraph.ty g] (tV (.bool (validG1 g))) := by
 refine Spec.enter func39 rfl rfl fun h0 w0 fr0 => ?_
 have hle := h.1
 refine Jr (Js rfl (step_box (R := rGraph) Sr) (Ja rfl (JL_nil (J_seq (Jr ?_)))))
 refine Js rfl (step_fieldAddr so30 Sr rfl) (Jl rfl ty3 Sr (Js rfl (step_fieldAddr so30 Sr rfl) (Jl rfl ty27 Sr (Js rfl (step_call0 (weighed_spec g.N g.Cost zG) ⟨Sr, Sr, trivial⟩ call64) (Js rfl (step_not Sr) ?_)))))
 refine Jm rfl (Jg rfl Sr rfl (fun hw => step_fieldAddr so30 Sr rfl) (Jg rfl Sr rfl (fun hw => step_load_ptr ty28 (Sub.w hw)) (Jg rfl Sr rfl (fun hw => step_len_sl underlying28 (Sub.w hw)) (Jg rfl Sr rfl (fun hw => step_gtr (Sub.w hw) Sr) (Js rfl (step_pick_or Sr Sr) ?_)))))
 refine JL_nil ?_
 refine J_cond Sr (fun h16 => ?_) (fun h16 => ?_)
 ·
  try simp only [NF] at h16
  refine Jr (Ja rfl (JL_nil (J_ret ?_)))
  refine K_ret1 (t := 2) rfl () ?_
  refine Sub.bool ?_
  rcases h16 with h16 | h16
  ·
   simp [validG1, h16]
  exfalso; omega
 try simp only [NF] at h16
 refine J_skip (J_seq (Jr (Js rfl (step_fieldAddr so30 Sr rfl) (Jl rfl ty28 Sr (Js rfl (step_len_sl underlying28 Sr) ?_)))))
 refine Jm rfl (JL_nil (J_block ?_))
 refine J_loopL (σ := Nat) (fun i => i ≤ g.Edges.length ∧ ∀ k, k < i → (!decide ((nth g.Edges k).length = 0) && isSetM (nth g.Edges k) g.N) = true) (fun i => upd (upd (upd (upd env0 1 (tPtr rGraph g)) 18 (tSl (rSl rInt) g.Edges)) 19 (tV (.int .i64 g.Edges.length))) 20 (tV (.int .i64 i))) (fun i => []) (fun i => g.Edges.length - i) 0 ⟨Nat.zero_le _, fun k hk => by omega⟩ (.u (.u (.u (SubE.upd Sr SubE.any)))) (LSub.rfl) ?_
 rintro i ⟨hi, hv⟩
 refine Jr (Js rfl (step_lss Sr Sr) (JL_nil (J_seq ?_)))
 refine J_cond Sr (fun h21 => ?_) (fun h21 => ?_)
 ·
  try simp only [NF] at h21
  have hlt : i < g.Edges.length := by omega
  obtain ⟨hi0, hinc, hne, hl6, hb⟩ := oneE_nth h hlt
  refine J_skip (J_seq (J_block (Jr ?_)))
  refine Js rfl (step_indexAddr_sl  underlying28 ty27 Sr Sr rfl (gb (by exact hlt))) ?_
  refine Jl rfl ty27 Sr (Ja rfl (JL_nil (Jr (Jm rfl (Js rfl (step_len_sl underlying27 Sr) ?_)))))
  refine Js rfl (step_eql Sr Sr) (Jm rfl (Jg rfl Sr rfl (fun hw => step_move Sr) (Jg rfl Sr rfl (fun hw => step_fieldAddr so30 Sr rfl) (Jg rfl Sr rfl (fun hw => step_load_ptr ty3 (Sub.w hw)) (Jg rfl Sr rfl (fun hw => step_call0 (isSet_spec _ _ zG) ⟨(Sub.w hw), (Sub.w hw), trivial⟩ call65) ?_)))))
  refine Jg rfl Sr rfl (fun hw => step_not (Sub.w hw)) (Js rfl (step_pick_or Sr Sr) (JL_nil ?_))
  refine J_cond Sr (fun h33 => ?_) (fun h33 => ?_)
  ·
   try simp only [NF] at h33
   refine Jr (Ja rfl (JL_nil (J_ret ?_)))
   refine K_ret1 (t := 2) rfl () ?_
   refine Sub.bool ?_
   have h2 := rall_f (f := fun i => (!decide ((nth g.Edges i).length = 0) && isSetM (nth g.Edges i) g.N)) hlt (by rcases h33 with h33 | h33 <;> (first | exact absurd (List.eq_nil_of_length_eq_zero zG) hne | (rw [h33, Bool.and_false])))
   unfold validG1; rw [h2, Bool.and_false]
  try simp only [NF] at h33
  refine J_skip (J_region (Js rfl (step_add Sr Sr z6) (Jm rfl (JL_nil ?_))))
  refine K_againL (σ := Nat) (s := i) (i + 1) zO ?_ (.u (.u (.u (SubE.upd Sr SubE.any)))) (LSub.rfl)
  refine ⟨by omega, fun k hk => ?_⟩
  by_cases e : k = i
  ·
   subst e; simp_all
  exact hv k zG
 try simp only [NF] at h21
 refine J_exit (J_seq ?_)
 refine J_draw [⟨0, [1], true⟩, ⟨1, [35], true⟩, ⟨2, [36], true⟩, ⟨3, [1], true⟩, ⟨4, [38], true⟩, ⟨5, [37, 39], true⟩, ⟨6, [40], true⟩] rfl (by kernel_rfl) ?_
 refine Mf rfl rfl (step_fieldAddr so30 Sr rfl) (Mf rfl rfl (step_load_ptr ty28 Sr) (Mf rfl rfl (step_call0 (MinimalOne_spec _ h) ⟨Sr, trivial⟩ call67) (Mf rfl rfl (step_fieldAddr so30 Sr rfl) (Mf rfl rfl (step_load_ptr ty28 Sr) ?_))))
 refine Mf rfl rfl (step_call0 (EqualFuncL_spec g.Edges g.Edges zG zG (fun e he => by have := (h.2 e he).2.2.1; omega) (fun e he => by have := (h.2 e he).2.2.1; omega)) ⟨Sr, Sr, Sr, trivial⟩ call66) ?_
 refine Mf rfl rfl (step_assign Sr) (JM_nil (J_ret ?_))
 refine K_ret1 (t := 2) rfl () ?_
 refine Sub.bool ?_
 have h2 := rall_t (n := g.Edges.length) (f := fun i => (!decide ((nth g.Edges i).length = 0) && isSetM (nth g.Edges i) g.N)) (fun k hk => hv k zG)
 unfold validG1; rw [h2, h16.1]
 simp
open Go Go.Proofs Go.Proofs.Tryz
theorem ty75M : TyOf prog 75 (rOM kvI rAtom) := ⟨fun w => isAgg75 w, fun w => sizeOf75 w⟩
def tabF (facts : List GFact) (v : Int) : Int := (nth facts v.toNat).Table
def hasT (q : GConj) (facts : List GFact) (v : Int) : Bool := (mget (atomsM q) (tabF facts v)).isSome
def oursM (q : GConj) (facts : List GFact) (e : List Int) : Bool := e.any (hasT q facts)
def keyF (a : GAtom) (facts : List GFact) (v : Int) : ByteArray := keyB a (nth facts v.toNat) a.Key.toNat
def edgeOk (q : GConj) (facts : List GFact) (e : List Int) : Bool := decide (e.length = 2) && (decide (tabF facts (nth e 0) = tabF facts (nth e 1)) && decide (keyF (atomAt q (tabF facts (nth e 0))) facts (nth e 0) = keyF (atomAt q (tabF facts (nth e 0))) facts (nth e 1)))
def pairsM (q : GConj) (facts : List GFact) (es : List (List Int)) : Nat := es.countP (oursM q facts)
def prB (n : Nat) : Nat := n * (n - 1) / 2
def wantB (m : List (ByteArray × List GFact)) : Nat := (m.map fun b => prB b.2.length).sum
def wantA (l : List GAtom) (facts : List GFact) : Nat := (l.map fun a => wantB (blkM a facts)).sum
def appM (vb : Bool) (q : GConj) (facts : List GFact) (g : GGraph) : Bool := fitM q facts && vb && decide (g.N = facts.length) && (List.range g.Edges.length).all (fun i => !oursM q facts (nth g.Edges i) || edgeOk q facts (nth g.Edges i)) && decide (pairsM q facts g.Edges = wantA q.Atoms facts)
theorem countP_take {α : Type} [Inhabited α] {p : α → Bool} {l : List α} {i : Nat} (h : i < l.length) : (l.take (i + 1)).countP p = (l.take i).countP p + if p (nth l i) then 1 else 0 := by
  rw [takeB h, List.countP_append, List.countP_singleton]
theorem wantA_snoc {l : List GAtom} {facts : List GFact} {i : Nat} (h : i < l.length) : wantA (l.take (i + 1)) facts = wantA (l.take i) facts + wantB (blkM (nth l i) facts) := by
  rw [takeB h]; simp [wantA]
theorem prB_le {n : Nat} (h : n ≤ 1000) : prB n ≤ 1000 * n := by
  unfold prB
  have : n * (n - 1) ≤ n * 1000 := Nat.mul_le_mul_left _ (by omega)
  omega
theorem wantB_le {m : List (ByteArray × List GFact)} (h : ∀ b ∈ m, b.2.length ≤ 1000) : wantB m ≤ 1000 * sumL m := by
  induction m with
  | nil => simp [wantB, sumL]
  | cons b m ih =>
    have h1 := prB_le (h b (by simp))
    have h2 := ih fun c hc => h c (by simp [hc])
    simp only [wantB, sumL, List.map_cons, List.sum_cons] at h2 ⊢
    omega
theorem wantA_le (l : List GAtom) {facts : List GFact} (h : facts.length ≤ 1000) : wantA l facts ≤ 1000000 * l.length := by
  induction l with
  | nil => simp [wantA]
  | cons a l ih =>
    have h1 := wantB_le (m := blkM a facts) fun b hb => by have := blk_len a facts b hb; omega
    have h2 := sumL_blk a facts
    simp only [wantA, List.map_cons, List.sum_cons, List.length_cons] at ih ⊢
    have h3 : 1000 * sumL (blkM a facts) ≤ 1000 * 1000 := Nat.mul_le_mul_left _ (by omega)
    omega
/-- The sum over the entries that were visited. -/
def part {α : Type} (f : α → Nat) (m : List α) (dn : List Nat) : Nat := (dn.map fun i => match m[i]? with | some x => f x | none => 0).sum
theorem part_snoc {α : Type} {f : α → Nat} {m : List α} {dn : List Nat} {i : Nat} {x : α} (h : m[i]? = some x) : part f m (dn ++ [i]) = part f m dn + f x := by
  simp [part, h]
theorem part_range {α : Type} (f : α → Nat) : ∀ m : List α, part f m (List.range m.length) = (m.map f).sum
  | [] => rfl
  | a :: m => by
    have ih := part_range f m
    unfold part at ih ⊢
    rw [List.length_cons, List.range_succ_eq_map, List.map_cons, List.map_map, List.sum_cons, List.map_cons, List.sum_cons, ← ih]
    rfl
theorem range_perm {dn : List Nat} {n : Nat} (hd : dn.Nodup) (h1 : ∀ i ∈ dn, i < n) (h2 : ∀ i, i < n → i ∈ dn) : dn.Perm (List.range n) :=
  (List.perm_ext_iff_of_nodup hd List.nodup_range).2 fun a => ⟨fun h => List.mem_range.2 (h1 a h), fun h => h2 a (List.mem_range.1 h)⟩
theorem part_all {α : Type} {f : α → Nat} {m : List α} {dn : List Nat} (hd : dn.Nodup) (h1 : ∀ i ∈ dn, i < m.length) (h2 : ∀ i, i < m.length → i ∈ dn) : part f m dn = (m.map f).sum := by
  rw [← part_range f m]
  exact ((range_perm hd h1 h2).map _).sum_nat
theorem part_le {α : Type} {f : α → Nat} {m : List α} {dn : List Nat} (hd : dn.Nodup) (h1 : ∀ i ∈ dn, i < m.length) : part f m dn ≤ (m.map f).sum := by
  have hp : (dn ++ (List.range m.length).filter fun i => decide (i ∉ dn)).Perm (List.range m.length) := by
    refine range_perm ?_ ?_ ?_
    · refine List.nodup_append.2 ⟨hd, List.nodup_range.filter _, fun a ha b hb e => ?_⟩
      subst e
      have := (List.mem_filter.1 hb).2
      simp at this; exact this ha
    · intro i hi
      rcases List.mem_append.1 hi with h | h
      · exact h1 i h
      · exact List.mem_range.1 (List.mem_filter.1 h).1
    · intro i hi
      rw [List.mem_append]
      by_cases h : i ∈ dn
      · exact .inl h
      · exact .inr (List.mem_filter.2 ⟨List.mem_range.2 hi, by simp [h]⟩)
  have h3 := (hp.map fun i => match m[i]? with | some x => f x | none => 0).sum_nat
  rw [← part_range f m]
  unfold part
  rw [← h3, List.map_append, List.sum_append_nat]
  omega
theorem prB_int (n : Nat) : ((prB n : Nat) : Int) = (n : Int) * ((n : Int) - 1) / 2 := by
  unfold prB
  cases n with
  | zero => rfl
  | succ n => simp
theorem mul_bd {n : Nat} (h : n ≤ 1000) : 0 ≤ (n : Int) * ((n : Int) - 1) ∧ (n : Int) * ((n : Int) - 1) ≤ 1000000 := by
  cases n with
  | zero => simp
  | succ n =>
    have h1 : ((n + 1 : Nat) : Int) * (((n + 1 : Nat) : Int) - 1) = (((n + 1) * n : Nat) : Int) := by simp
    have h2 : (n + 1) * n ≤ 1000 * 1000 := Nat.mul_le_mul h (by omega)
    rw [h1]; omega
theorem edge_key {q : GConj} {facts : List GFact} (hfit : fitM q facts = true) {e : List Int} (hin : ∀ x ∈ e, 0 ≤ x ∧ x < facts.length) (ho : oursM q facts e = true) (h2 : e.length = 2) (ht : tabF facts (nth e 0) = tabF facts (nth e 1)) :
    (1 ≤ (atomAt q (tabF facts (nth e 0))).Key ∧ (atomAt q (tabF facts (nth e 0))).Key ≤ (atomAt q (tabF facts (nth e 0))).Cols.length) ∧ (atomAt q (tabF facts (nth e 0))).Cols.length ≤ 12 ∧ FitF (atomAt q (tabF facts (nth e 0))) (nth facts (nth e 0).toNat) ∧ FitF (atomAt q (tabF facts (nth e 0))) (nth facts (nth e 1).toNat) := by
  match e, h2 with
  | [x, y], _ =>
    have ht : tabF facts x = tabF facts y := ht
    show (1 ≤ (atomAt q (tabF facts x)).Key ∧ (atomAt q (tabF facts x)).Key ≤ (atomAt q (tabF facts x)).Cols.length) ∧ (atomAt q (tabF facts x)).Cols.length ≤ 12 ∧ FitF (atomAt q (tabF facts x)) (nth facts x.toNat) ∧ FitF (atomAt q (tabF facts x)) (nth facts y.toNat)
    have hs : (mget (atomsM q) (tabF facts x)).isSome = true := by
      unfold oursM at ho
      rw [List.any_eq_true] at ho
      obtain ⟨z, hz, h3⟩ := ho
      simp only [List.mem_cons, List.not_mem_nil, or_false] at hz
      rcases hz with rfl | rfl
      · exact h3
      · rw [ht]; exact h3
    obtain ⟨a, ha⟩ := Option.isSome_iff_exists.1 hs
    have hA : atomAt q (tabF facts x) = a := by unfold atomAt; rw [ha]; rfl
    rcases atomsM_get ha with ⟨h3, h4⟩ | h3
    · obtain ⟨j, hj, rfl⟩ := List.getElem_of_mem h3
      rw [← nth_get hj] at h4 hA
      rw [hA]
      have hv := valid_cols (fit_valid hfit) (nth_mem hj)
      have hx := hin x (by simp)
      have hy := hin y (by simp)
      exact ⟨⟨hv.2.2.1, hv.2.2.2.1⟩, hv.1, fit_fact hfit (nth_mem (by omega)) hj h4.symm, fit_fact hfit (nth_mem (by omega)) hj (show tabF facts y = _ by rw [← ht]; exact h4.symm)⟩
    · simp [mget] at h3
theorem oursF_spec (facts : List GFact) (m : List (Int × GAtom)) (v : Int) (hv : 0 ≤ v ∧ v < facts.length) : Fun1 prog 41 [tV (.int .i64 v), tPtr (rOM kvI rAtom) (some m), tPtr (rSl rFact) facts] (tV (.bool (mget m (tabF facts v)).isSome)) := by
 refine Spec.enter func41 rfl rfl fun h0 w0 fr0 => ?_
 refine Jr (Ja rfl (JL_nil (J_seq ?_)))
 refine J_draw [⟨0, [1], true⟩, ⟨1, [2], true⟩, ⟨2, [0], true⟩, ⟨3, [9, 10], true⟩, ⟨4, [11], true⟩, ⟨5, [12], true⟩, ⟨6, [8, 13], true⟩, ⟨7, [14], true⟩, ⟨8, [7], true⟩, ⟨9, [7], true⟩, ⟨10, [], false⟩, ⟨11, [5, 15], false⟩, ⟨12, [16], true⟩] rfl (by kernel_rfl) ?_
 refine Mf rfl rfl (step_load_ptr ty75M Sr) (Mf rfl rfl (step_load_ptr ty26 Sr) (Mv rfl rfl (Mf rfl rfl (step_indexAddr_sl (i := v.toNat) underlying26 ty45 Sr Sr zG (gb zG)) (Mf rfl rfl (step_fieldAddr so45 Sr rfl) (Mf rfl rfl (step_load_ptr ty3 Sr) ?_)))))
 refine Mf rfl rfl (step_lookupI_ok (kv := kvI) (R := rAtom) (z := zAtom) (KeyT.int underlying3) underlying75 (fun w => zeroValue47 w) zr47 Sr Sr) (Mv rfl rfl (Mf rfl rfl (step_extract Sr rfl) (Mf rfl rfl (step_extract Sr rfl) ?_)))
 refine JM_stepX rfl rfl rfl rfl (step_alloc (fun w => zeroValue47 w) zr47) fun v5 => ?_
 refine JM_stepU rfl rfl rfl (step_store_box ty47 Sr Sr zS) fun _ => ?_
 refine Mf rfl rfl (step_assign Sr) (JM_nil (Jr (Jm rfl (Ja rfl (JL_nil ?_)))))
 refine J_ret ?_
 refine K_ret1' (rv := .tmp 4) rfl () (Sel.all _) (.tmp Sr) (Frz.sub Sr)
set_option maxHeartbeats 4000000 in
theorem Applies_spec (q : GConj) (facts : List GFact) (g : GGraph) (vb : Bool) (hV : Fun1 prog 39 [rGraph.ty g] (tV (.bool vb))) (hvb : vb = true → g.Edges.length ≤ 20000 ∧ ∀ e ∈ g.Edges, e.length ≤ 1000000 ∧ ∀ x ∈ e, 0 ≤ x ∧ x < g.N) (hl : facts.length ≤ 1000) : Fun1 prog 16 [rConj.ty q, tSl rFact facts, rGraph.ty g] (tV (.bool (appM vb q facts g))) := by
 refine Spec.enter func16 rfl rfl fun h0 w0 fr0 => ?_
 refine Jr (Js rfl (step_box (R := rConj) Sr) (Js rfl (step_box (R := (rSl rFact)) Sr) (Js rfl (step_box (R := rGraph) Sr) (Ja rfl (JL_nil ?_)))))
 refine J_seq (Jr (Jl rfl ty25 Sr (Jl rfl ty26 Sr (Js rfl (step_call0 (fit_spec q facts zG) ⟨Sr, Sr, trivial⟩ call31) (Js rfl (step_not Sr) ?_)))))
 refine Jm rfl (Jg rfl Sr rfl (fun hw => step_load_ptr ty30 Sr) (Jg rfl Sr rfl (fun hw => step_call0 (hV) ⟨(Sub.w hw), trivial⟩ call39) (Jg rfl Sr rfl (fun hw => step_not (Sub.w hw)) (Js rfl (step_pick_or Sr Sr) (Jm rfl ?_)))))
 refine Jg rfl Sr rfl (fun hw => step_fieldAddr so30 Sr rfl) (Jg rfl Sr rfl (fun hw => step_load_ptr ty3 (Sub.w hw)) (Jg rfl Sr rfl (fun hw => step_load_ptr ty26 Sr) (Jg rfl Sr rfl (fun hw => step_len_sl underlying26 (Sub.w hw)) (Jg rfl Sr rfl (fun hw => step_neq (Sub.w hw) (Sub.w hw)) (Js rfl (step_pick_or Sr Sr) ?_)))))
 refine JL_nil ?_
 refine J_cond Sr (fun h33 => ?_) (fun h33 => ?_)
 ·
  try simp only [NF] at h33
  refine Jr (Ja rfl (JL_nil (J_ret ?_)))
  refine K_ret1' (rv := .tmp 6) rfl () (Sel.all _) (.tmp Sr) (Frz.sub (Sub.bool ?_))
  rcases h33 with (h | h) | h
  ·
   simp [appM, h]
  ·
   simp [appM, h]
  simp [appM, h]
 try simp only [NF] at h33
 obtain ⟨⟨hfit, hvt⟩, hN⟩ := h33
 have hq := fit_valid hfit
 obtain ⟨hel, hev⟩ := hvb hvt
 have hab := (valid_bounds hq).2.2.2
 refine J_skip (Jr (Jl rfl ty25 Sr (Js rfl (step_call0 (atoms_spec q zG) ⟨Sr, trivial⟩ call40) ?_)))
 refine Jx rfl (step_alloc (R := rV) (z := Value.map none) (fun w => zeroValue75 w) (fun _ => ⟨rfl, rfl⟩)) fun v7 => ?_
 refine Ju (step_store_boxR (R := rV) (R' := rOM kvI rAtom) (z := some (atomsM q)) ty75M rfl Sr Sr zS) fun _ => ?_
 refine JL_nil (J_seq ?_)
 refine K_freeze (t := 7) (Sel.take (Sel.none _)) Frz.box ?_
 refine J_region (Js rfl (step_makeFunc (As := [_, _]) ⟨Sr, Sr, trivial⟩) (Ja rfl (JL_nil (Jr (Ja rfl ?_)))))
 refine JL_nil (J_seq (Jr (Js rfl (step_fieldAddr so30 Sr rfl) (Jl rfl ty28 Sr (Js rfl (step_len_sl underlying28 Sr) ?_)))))
 refine Jm rfl (JL_nil (J_block ?_))
 refine J_loopL (σ := Nat) (fun i => i ≤ g.Edges.length ∧ ∀ k, k < i → (!oursM q facts (nth g.Edges k) || edgeOk q facts (nth g.Edges k)) = true) (fun i => upd (upd (upd (upd (upd (upd (upd (upd env0 3 (tPtr rConj q)) 4 (tPtr (rSl rFact) facts)) 7 (tPtr (rOM kvI rAtom) (some (atomsM q)))) 8 (tClo 41 [tPtr (rOM kvI rAtom) (some (atomsM q)), tPtr (rSl rFact) facts])) 9 (tV (.int .i64 (pairsM q facts (g.Edges.take i))))) 38 (tSl (rSl rInt) g.Edges)) 39 (tV (.int .i64 g.Edges.length))) 40 (tV (.int .i64 i))) (fun i => []) (fun i => g.Edges.length - i) 0 ⟨Nat.zero_le _, fun k hk => by omega⟩ (.u (.u (.u (.u (.u (.u (.u (SubE.upd Sr SubE.any)))))))) (LSub.rfl) ?_
 rintro i ⟨hi, hv⟩
 have hpi : pairsM q facts (g.Edges.take i) ≤ i := Nat.le_trans List.countP_le_length (List.length_take_le _ _)
 refine Jr (Js rfl (step_lss Sr Sr) (JL_nil (J_seq ?_)))
 refine J_cond Sr (fun h41 => ?_) (fun h41 => ?_)
 ·
  try simp only [NF] at h41
  have hlt : i < g.Edges.length := by omega
  obtain ⟨hle, hin0⟩ := hev _ (nth_mem hlt)
  have hin : ∀ x ∈ (nth g.Edges i), 0 ≤ x ∧ x < (facts.length : Int) := fun x hx => by have := hin0 x hx; omega
  refine J_skip (J_seq (J_block (Jr ?_)))
  refine Js rfl (step_indexAddr_sl  underlying28 ty27 Sr Sr rfl (gb (by exact hlt))) ?_
  refine Jl rfl ty27 Sr (Ja rfl (JL_nil (J_seq (Jr (Jm rfl ?_)))))
  refine Jm rfl (Js rfl (step_call0 (ContainsFuncI_spec (nth g.Edges i) zG 41 [tPtr (rOM kvI rAtom) (some (atomsM q)), tPtr (rSl rFact) facts] (hasT q facts) (fun x hx => oursF_spec facts (atomsM q) x (hin x hx)) call41) ⟨Sr, Sr, trivial⟩ call42) (Js rfl (step_not Sr) (JL_nil ?_)))
  refine J_cond Sr (fun h47 => ?_) (fun h47 => ?_)
  ·
   try simp only [NF] at h47
   have h47 : oursM q facts (nth g.Edges i) = false := h47
   refine J_exit (J_region (Js rfl (step_add Sr Sr z6) (Jm rfl (JL_nil ?_))))
   refine K_againL (σ := Nat) (s := i) (i + 1) zO ?_ (.u (.u (.u (SubE.upd (Sub.int (by unfold pairsM; rw [countP_take hlt, h47]; simp)) (.u (.u (.u (SubE.upd Sr SubE.any)))))))) (LSub.rfl)
   refine ⟨by omega, fun k hk => ?_⟩
   by_cases e : k = i
   ·
    subst e; rw [h47]; rfl
   exact hv k zG
  try simp only [NF] at h47
  have h47 : oursM q facts (nth g.Edges i) = true := h47
  refine J_skip (J_seq (J_seq ?_))
  refine J_draw [⟨0, [11], true⟩, ⟨1, [48], true⟩, ⟨2, [49], true⟩, ⟨3, [50], true⟩, ⟨4, [4, 51], true⟩, ⟨5, [11, 51], true⟩, ⟨6, [51, 53], true⟩, ⟨7, [51, 54], true⟩, ⟨8, [51, 52, 55], true⟩, ⟨9, [51, 56], true⟩, ⟨10, [51, 57], true⟩, ⟨11, [4, 51], true⟩, ⟨12, [11, 51], true⟩, ⟨13, [51, 60], true⟩, ⟨14, [51, 61], true⟩, ⟨15, [51, 59, 62], true⟩, ⟨16, [51, 63], true⟩, ⟨17, [51, 64], true⟩, ⟨18, [51, 58, 65], true⟩, ⟨19, [51, 66], true⟩] rfl (by kernel_rfl) ?_
  refine Mv rfl rfl (Mf rfl rfl (step_len_sl underlying27 Sr) (Mf rfl rfl (step_neq Sr Sr) (Mv rfl rfl (Mg rfl rfl Sr rfl (fun hw => step_load_ptr ty26 Sr) (Mg rfl rfl Sr rfl (fun hw => step_move Sr) ?_)))))
  refine Mg rfl rfl Sr rfl (fun hw => step_indexAddr_sl (i := 0) underlying27 ty3 (Sub.w hw) Sr (by have hwq := hw; (try simp only [beqB_t, beqB_f, NF] at hwq); have hl2 : (nth g.Edges i).length = 2 := zG; have hb0 := hin (nth (nth g.Edges i) 0) (nth_mem (l := (nth g.Edges i)) (i := 0) zG); have hb1 := hin (nth (nth g.Edges i) 1) (nth_mem (l := (nth g.Edges i)) (i := 1) zG); rfl) (gb (by have hwq := hw; (try simp only [beqB_t, beqB_f, NF] at hwq); have hl2 : (nth g.Edges i).length = 2 := zG; have hb0 := hin (nth (nth g.Edges i) 0) (nth_mem (l := (nth g.Edges i)) (i := 0) zG); have hb1 := hin (nth (nth g.Edges i) 1) (nth_mem (l := (nth g.Edges i)) (i := 1) zG); omega))) ?_
  refine Mg rfl rfl Sr rfl (fun hw => step_load_ptr ty3 (Sub.w hw)) ?_
  refine Mg rfl rfl Sr rfl (fun hw => step_indexAddr_sl (i := (nth (nth g.Edges i) 0).toNat) underlying26 ty45 (Sub.w hw) (Sub.w hw) (by have hwq := hw; (try simp only [beqB_t, beqB_f, NF] at hwq); have hl2 : (nth g.Edges i).length = 2 := zG; have hb0 := hin (nth (nth g.Edges i) 0) (nth_mem (l := (nth g.Edges i)) (i := 0) zG); have hb1 := hin (nth (nth g.Edges i) 1) (nth_mem (l := (nth g.Edges i)) (i := 1) zG); omega) (gb (by have hwq := hw; (try simp only [beqB_t, beqB_f, NF] at hwq); have hl2 : (nth g.Edges i).length = 2 := zG; have hb0 := hin (nth (nth g.Edges i) 0) (nth_mem (l := (nth g.Edges i)) (i := 0) zG); have hb1 := hin (nth (nth g.Edges i) 1) (nth_mem (l := (nth g.Edges i)) (i := 1) zG); omega))) ?_
  refine Mg rfl rfl Sr rfl (fun hw => step_fieldAddr so45 (Sub.w hw) rfl) (Mg rfl rfl Sr rfl (fun hw => step_load_ptr ty3 (Sub.w hw)) (Mg rfl rfl Sr rfl (fun hw => step_load_ptr ty26 Sr) (Mg rfl rfl Sr rfl (fun hw => step_move Sr) ?_)))
  refine Mg rfl rfl Sr rfl (fun hw => step_indexAddr_sl (i := 1) underlying27 ty3 (Sub.w hw) Sr (by have hwq := hw; (try simp only [beqB_t, beqB_f, NF] at hwq); have hl2 : (nth g.Edges i).length = 2 := zG; have hb0 := hin (nth (nth g.Edges i) 0) (nth_mem (l := (nth g.Edges i)) (i := 0) zG); have hb1 := hin (nth (nth g.Edges i) 1) (nth_mem (l := (nth g.Edges i)) (i := 1) zG); rfl) (gb (by have hwq := hw; (try simp only [beqB_t, beqB_f, NF] at hwq); have hl2 : (nth g.Edges i).length = 2 := zG; have hb0 := hin (nth (nth g.Edges i) 0) (nth_mem (l := (nth g.Edges i)) (i := 0) zG); have hb1 := hin (nth (nth g.Edges i) 1) (nth_mem (l := (nth g.Edges i)) (i := 1) zG); omega))) ?_
  refine Mg rfl rfl Sr rfl (fun hw => step_load_ptr ty3 (Sub.w hw)) ?_
  refine Mg rfl rfl Sr rfl (fun hw => step_indexAddr_sl (i := (nth (nth g.Edges i) 1).toNat) underlying26 ty45 (Sub.w hw) (Sub.w hw) (by have hwq := hw; (try simp only [beqB_t, beqB_f, NF] at hwq); have hl2 : (nth g.Edges i).length = 2 := zG; have hb0 := hin (nth (nth g.Edges i) 0) (nth_mem (l := (nth g.Edges i)) (i := 0) zG); have hb1 := hin (nth (nth g.Edges i) 1) (nth_mem (l := (nth g.Edges i)) (i := 1) zG); omega) (gb (by have hwq := hw; (try simp only [beqB_t, beqB_f, NF] at hwq); have hl2 : (nth g.Edges i).length = 2 := zG; have hb0 := hin (nth (nth g.Edges i) 0) (nth_mem (l := (nth g.Edges i)) (i := 0) zG); have hb1 := hin (nth (nth g.Edges i) 1) (nth_mem (l := (nth g.Edges i)) (i := 1) zG); omega))) ?_
  refine Mg rfl rfl Sr rfl (fun hw => step_fieldAddr so45 (Sub.w hw) rfl) (Mg rfl rfl Sr rfl (fun hw => step_load_ptr ty3 (Sub.w hw)) (Mg rfl rfl Sr rfl (fun hw => step_neq (Sub.w hw) (Sub.w hw)) (Mf rfl rfl (step_pick_or Sr Sr) (JM_nil ?_))))
  refine J_cond Sr (fun h67 => ?_) (fun h67 => ?_)
  ·
   try simp only [NF] at h67
   refine Jr (Ja rfl (JL_nil (J_ret ?_)))
   refine K_ret1' (rv := .tmp 6) rfl () (Sel.all _) (.tmp Sr) (Frz.sub (Sub.bool ?_))
   have h1 : (!oursM q facts (nth g.Edges i) || edgeOk q facts (nth g.Edges i)) = false := by
    rw [h47]; unfold edgeOk
    rcases h67 with h | h
    ·
     rw [decide_eq_false zG]; rfl
    rw [decide_eq_false (p := tabF facts (nth (nth g.Edges i) 0) = tabF facts (nth (nth g.Edges i) 1)) h]; simp
   have h2 := rall_f (f := fun i => (!oursM q facts (nth g.Edges i) || edgeOk q facts (nth g.Edges i))) hlt h1
   unfold appM; rw [h2, Bool.and_false, Bool.false_and]
  try simp only [NF] at h67
  obtain ⟨h67a, h67b⟩ := h67
  have hl2 : (nth g.Edges i).length = 2 := zG
  have hb0 := hin (nth (nth g.Edges i) 0) (nth_mem (l := (nth g.Edges i)) (i := 0) zG)
  have hb1 := hin (nth (nth g.Edges i) 1) (nth_mem (l := (nth g.Edges i)) (i := 1) zG)
  have hek := edge_key hfit hin h47 hl2 h67b
  refine J_skip (J_seq (J_seq ?_))
  refine J_draw [⟨0, [7], true⟩, ⟨1, [4], true⟩, ⟨2, [11], true⟩, ⟨3, [70], true⟩, ⟨4, [71], true⟩, ⟨5, [69, 72], true⟩, ⟨6, [73], true⟩, ⟨7, [74], true⟩, ⟨8, [68, 75], true⟩, ⟨9, [], false⟩, ⟨10, [12, 76], false⟩] rfl (by kernel_rfl) ?_
  refine Mf rfl rfl (step_load_ptr ty75M Sr) (Mf rfl rfl (step_load_ptr ty26 Sr) (Mv rfl rfl ?_))
  refine Mf rfl rfl (step_indexAddr_sl (i := 0) underlying27 ty3 Sr Sr (by rfl) (gb zG)) ?_
  refine Mf rfl rfl (step_load_ptr ty3 Sr) (Mf rfl rfl (step_indexAddr_sl (i := (nth (nth g.Edges i) 0).toNat) underlying26 ty45 Sr Sr zG (gb zG)) (Mf rfl rfl (step_fieldAddr so45 Sr rfl) (Mf rfl rfl (step_load_ptr ty3 Sr) (Mf rfl rfl (step_lookupI (kv := kvI) (R := rAtom) (z := zAtom) (KeyT.int underlying3) underlying75 (fun w => zeroValue47 w) zr47 Sr Sr) ?_))))
  refine JM_stepX rfl rfl rfl rfl (step_alloc (fun w => zeroValue47 w) zr47) fun v12 => ?_
  refine JM_stepU rfl rfl rfl (step_store_box ty47 Sr Sr zS) fun _ => ?_
  refine JM_nil (J_seq ?_)
  refine K_freeze (t := 12) (Sel.take (Sel.none _)) Frz.box ?_
  refine J_draw [⟨0, [12], true⟩, ⟨1, [4], true⟩, ⟨2, [11], true⟩, ⟨3, [79], true⟩, ⟨4, [80], true⟩, ⟨5, [78, 81], true⟩, ⟨6, [82], true⟩, ⟨7, [77, 83], true⟩, ⟨8, [12], true⟩, ⟨9, [4], true⟩, ⟨10, [11], true⟩, ⟨11, [87], true⟩, ⟨12, [88], true⟩, ⟨13, [86, 89], true⟩, ⟨14, [90], true⟩, ⟨15, [85, 91], true⟩, ⟨16, [84, 92], true⟩] rfl (by kernel_rfl) ?_
  refine Mf rfl rfl (step_load_ptr ty47 Sr) (Mf rfl rfl (step_load_ptr ty26 Sr) (Mv rfl rfl ?_))
  refine Mf rfl rfl (step_indexAddr_sl (i := 0) underlying27 ty3 Sr Sr (by rfl) (gb zG)) ?_
  refine Mf rfl rfl (step_load_ptr ty3 Sr) (Mf rfl rfl (step_indexAddr_sl (i := (nth (nth g.Edges i) 0).toNat) underlying26 ty45 Sr Sr zG (gb zG)) (Mf rfl rfl (step_load_ptr ty45 Sr) (Mf rfl rfl (step_call0 (key_spec (atomAt q (tabF facts (nth (nth g.Edges i) 0))) (nth facts (nth (nth g.Edges i) 0).toNat) hek.1 hek.2.1 hek.2.2.1) ⟨Sr, Sr, trivial⟩ call43) (Mf rfl rfl (step_load_ptr ty47 Sr) (Mf rfl rfl (step_load_ptr ty26 Sr) ?_)))))
  refine Mv rfl rfl ?_
  refine Mf rfl rfl (step_indexAddr_sl (i := 1) underlying27 ty3 Sr Sr (by rfl) (gb zG)) ?_
  refine Mf rfl rfl (step_load_ptr ty3 Sr) (Mf rfl rfl (step_indexAddr_sl (i := (nth (nth g.Edges i) 1).toNat) underlying26 ty45 Sr Sr zG (gb zG)) (Mf rfl rfl (step_load_ptr ty45 Sr) (Mf rfl rfl (step_call0 (key_spec (atomAt q (tabF facts (nth (nth g.Edges i) 0))) (nth facts (nth (nth g.Edges i) 1).toNat) hek.1 hek.2.1 hek.2.2.2) ⟨Sr, Sr, trivial⟩ call43) (Mf rfl rfl (step_neq_str Sr Sr) (JM_nil ?_)))))
  refine J_cond Sr (fun h93 => ?_) (fun h93 => ?_)
  ·
   try simp only [NF] at h93
   refine Jr (Ja rfl (JL_nil (J_ret ?_)))
   refine K_ret1' (rv := .tmp 6) rfl () (Sel.all _) (.tmp Sr) (Frz.sub (Sub.bool ?_))
   have h1 : (!oursM q facts (nth g.Edges i) || edgeOk q facts (nth g.Edges i)) = false := by
    rw [h47]; unfold edgeOk keyF
    rw [decide_eq_false h93]; simp
   have h2 := rall_f (f := fun i => (!oursM q facts (nth g.Edges i) || edgeOk q facts (nth g.Edges i))) hlt h1
   unfold appM; rw [h2, Bool.and_false, Bool.false_and]
  try simp only [NF] at h93
  refine J_skip (J_region (Jm rfl (Js rfl (step_add Sr Sr z6) (Ja rfl (JL_nil ?_)))))
  refine J_region (Js rfl (step_add Sr Sr z6) (Jm rfl (JL_nil ?_)))
  refine K_againL (σ := Nat) (s := i) (i + 1) zO ?_ (.u (.u (.u (SubE.upd (Sub.int (by unfold pairsM; rw [countP_take hlt, h47]; simp)) (.u (.u (.u (SubE.upd Sr SubE.any)))))))) (LSub.rfl)
  refine ⟨by omega, fun k hk => ?_⟩
  by_cases e : k = i
  ·
   subst e
   have : edgeOk q facts (nth g.Edges k) = true := by
    unfold edgeOk keyF
    rw [decide_eq_true hl2, decide_eq_true (p := tabF facts (nth (nth g.Edges k) 0) = tabF facts (nth (nth g.Edges k) 1)) h67b]
    exact decide_eq_true h93
   rw [this, Bool.or_true]
  exact hv k zG
 try simp only [NF] at h41
 have hpt : pairsM q facts (g.Edges.take i) = pairsM q facts g.Edges := by rw [List.take_of_length_le zG]
 have hall : (List.range g.Edges.length).all (fun i => (!oursM q facts (nth g.Edges i) || edgeOk q facts (nth g.Edges i))) = true := rall_t (fun k hk => hv k zG)
 refine J_exit (Jr (Ja rfl (JL_nil (J_seq (Jr ?_)))))
 refine Js rfl (step_fieldAddr so25 Sr rfl) (Jl rfl ty23 Sr (Js rfl (step_len_sl underlying23 Sr) (Jm rfl (JL_nil (J_block ?_)))))
 refine J_loopL (σ := Nat) (fun i => i ≤ q.Atoms.length) (fun i => upd (upd (upd (upd (upd (upd env0 4 (tPtr (rSl rFact) facts)) 9 (tV (.int .i64 (pairsM q facts g.Edges)))) 13 (tV (.int .i64 (wantA (q.Atoms.take i) facts)))) 98 (tSl rAtom q.Atoms)) 99 (tV (.int .i64 q.Atoms.length))) 100 (tV (.int .i64 i))) (fun i => []) (fun i => q.Atoms.length - i) 0 (Nat.zero_le _) (.u (.u (.u (SubE.upd (Sub.int (by simp [wantA])) (SubE.upd (Sub.int (by rw [hpt])) (SubE.upd Sr SubE.any)))))) (LSub.rfl) ?_
 rintro i hi
 refine Jr (Js rfl (step_lss Sr Sr) (JL_nil (J_seq ?_)))
 refine J_cond Sr (fun h101 => ?_) (fun h101 => ?_)
 ·
  try simp only [NF] at h101
  have hat : i < q.Atoms.length := by omega
  have hbl := blk_len (nth q.Atoms i) facts
  have hsb := sumL_blk (nth q.Atoms i) facts
  have hwl := wantA_le (q.Atoms.take i) hl
  have hwb := wantB_le (m := blkM (nth q.Atoms i) facts) fun b hb => by have := hbl b hb; omega
  have htl : (q.Atoms.take i).length ≤ i := List.length_take_le _ _
  refine J_skip (J_seq (J_block (Jr ?_)))
  refine Js rfl (step_indexAddr_sl  underlying23 ty47 Sr Sr rfl (gb (by exact hat))) ?_
  refine Jl rfl ty47 Sr ?_
  refine Jx rfl (step_alloc (fun w => zeroValue47 w) zr47) fun v15 => ?_
  refine Ju (step_store_box ty47 Sr Sr zS) fun _ => ?_
  refine JL_freeze (t := 15) (Sel.take (Sel.none _)) Frz.box ?_
  refine JL_nil (Jr (Jl rfl ty47 Sr (Jl rfl ty26 Sr ?_)))
  refine Js rfl (step_call0 (blocks_spec (nth q.Atoms i) facts (by have := valid_cols hq (nth_mem hat); omega) (valid_cols hq (nth_mem hat)).1 zG (fun f hf ht => fit_fact hfit hf hat ht)) ⟨Sr, Sr, trivial⟩ call34) ?_
  refine Jx rfl (step_rangeI (kv := kvS) (R := rSl rFact) underlying69 Sr) fun v107 => ?_
  refine JL_nil (J_block ?_)
  refine J_loopL (σ := List Nat) (fun dn => dn.Nodup ∧ (∀ a ∈ dn, a < (blkM (nth q.Atoms i) facts).length)) (fun dn => upd (upd (upd (upd (upd (upd (upd (upd env0 4 (tPtr (rSl rFact) facts)) 9 (tV (.int .i64 (pairsM q facts g.Edges)))) 13 (tV (.int .i64 ((wantA (q.Atoms.take i) facts : Int) + (part (fun b : ByteArray × List GFact => prB b.2.length) (blkM (nth q.Atoms i) facts) dn : Nat))))) 98 (tSl rAtom q.Atoms)) 99 (tV (.int .i64 q.Atoms.length))) 100 (tV (.int .i64 i))) 106 (tMapI kvS (rSl rFact) (blkM (nth q.Atoms i) facts))) 107 (tAt v107 0)) (fun dn => [itI kvS (rSl rFact) v107 (blkM (nth q.Atoms i) facts) dn]) (fun dn => (blkM (nth q.Atoms i) facts).length - dn.length) [] ⟨by simp, by simp⟩ (.u (.u (.u (.u (.u (SubE.upd (Sub.int (by simp [part])) (.u (SubE.upd Sr SubE.any)))))))) (LSub.cons zS (SPs.rfl) (LSub.nil)) ?_
  rintro dn ⟨hnd, hdlt⟩
  refine Jr ?_
  refine Jx rfl (step_nextI rfl Sr LSub.rfl) fun o => ?_
  refine Js rfl (step_extract_next Sr) (JL_nil (J_seq ?_))
  refine J_cond Sr (fun h109 => ?_) (fun h109 => ?_)
  ·
   try simp only [NF] at h109
   obtain ⟨o, ho⟩ := o
   obtain ⟨j, rfl⟩ := Option.isSome_iff_exists.1 h109
   dsimp only at ho
   obtain ⟨hil, hid⟩ := ho
   obtain ⟨⟨bk, bf⟩, hms⟩ : ∃ q2, (blkM (nth q.Atoms i) facts)[j]? = some q2 := ⟨_, List.getElem?_eq_getElem hil⟩
   have hbm := hbl _ (List.mem_of_getElem? hms)
   dsimp only at hbm
   have hnd2 : (dn ++ [j]).Nodup := List.nodup_append.2 ⟨hnd, by simp, by intro a ha b hb e; simp at hb; subst hb; subst e; exact hid ha⟩
   have hlt2 : ∀ a ∈ dn ++ [j], a < (blkM (nth q.Atoms i) facts).length := by intro a ha; rcases List.mem_append.1 ha with h | h; exact hdlt a h; simp at h; subst h; exact hil
   have hdl := nodup_le hnd2 hlt2
   simp only [List.length_append, List.length_cons, List.length_nil] at hdl
   have hpl := part_le (f := fun b : ByteArray × List GFact => prB b.2.length) hnd hdlt
   have hps := part_snoc (f := fun b : ByteArray × List GFact => prB b.2.length) (dn := dn) hms
   have hmb := mul_bd (n := bf.length) zG
   unfold wantB at hwb
   refine J_skip (J_block (Jr (Js rfl (step_entryI Sr LSub.rfl hms) (Js rfl (step_extract Sr rfl) (Ja rfl ?_)))))
   refine JL_nil (J_region (Jm rfl (Jm rfl (Js rfl (step_len_sl underlying26 Sr) (Jm rfl ?_)))))
   refine Js rfl (step_len_sl underlying26 Sr) (Js rfl (step_sub Sr Sr z6) (Js rfl (step_mul Sr Sr z6) ?_))
   refine Js rfl (step_quo Sr Sr (by first | assumption | omega) zG z6) ?_
   refine Js rfl (step_add Sr Sr z6) (Ja rfl (JL_nil ?_))
   refine K_againL (σ := List Nat) (s := dn) (dn ++ [j]) (by simp; omega) ⟨hnd2, hlt2⟩ (.u (.u (.u (.u (.u (SubE.upd (Sub.int (by rw [hps, ← prB_int]; simp; omega)) (.u (SubE.upd Sr SubE.any)))))))) (LSub.cons zS (SPs.rfl) (LSub.nil))
  try simp only [NF] at h109
  obtain ⟨o, ho⟩ := o
  obtain rfl : o = none := by simpa using h109
  dsimp only at ho
  have hpa := part_all (f := fun b : ByteArray × List GFact => prB b.2.length) hnd hdlt ho
  refine J_exit (J_region (Js rfl (step_add Sr Sr z6) (Jm rfl (JL_nil ?_))))
  refine K_drop (Sel.all _) ?_
  refine K_againL (σ := Nat) (s := i) (i + 1) zO hat (.u (.u (.u (SubE.upd (Sub.int (by rw [wantA_snoc hat, hpa]; simp [wantB])) (.u (SubE.upd Sr SubE.any)))))) (LSub.rfl)
 try simp only [NF] at h101
 refine J_exit (Jr (Jm rfl (Jm rfl (Js rfl (step_eql Sr Sr) (Ja rfl ?_)))))
 refine JL_nil (J_ret ?_)
 refine K_ret1' (rv := .tmp 6) rfl () (Sel.all _) (.tmp Sr) (Frz.sub (Sub.bool ?_))
 have hwt : wantA (q.Atoms.take i) facts = wantA q.Atoms facts := by rw [List.take_of_length_le zG]
 unfold appM; rw [hall, hfit, hvt, hN, hwt]
 simp; omega
open Go Go.Proofs Go.Proofs.Tryz
abbrev GByte := { n : Int // 0 ≤ n ∧ n < 256 }
instance : Inhabited GByte := ⟨⟨0, by decide⟩⟩
abbrev rB : Rp GByte := rS (fun n => .int .u8 n.1) (fun _ => rfl)
theorem ty5B : TyOf prog 5 rB := ⟨fun w => isAgg5 w, fun w => sizeOf5 w⟩
def numV (n : Int) : GValue := ⟨2, n, ⟨#[]⟩⟩
def txtV (s : ByteArray) : GValue := ⟨1, 0, s⟩
def mkF (t : Int) (a b : GValue) : GFact := ⟨t, 0, 0, [a, b], 0, []⟩
def chainQ : GConj := ⟨3, [], [⟨0, [0, 1], [0, 1], 1⟩, ⟨1, [0, 1], [1, 2], 1⟩]⟩
/-- Few. -/
def fewM (q : GConj) (n : Int) : Bool := (List.range q.Atoms.length).all (fun i => decide ((nth q.Atoms i).Cols.length ≤ 14) && decide ((nth q.Atoms i).Terms.length ≤ 14)) && decide ((q.Atoms.length : Int) ≤ n) && decide (q.Consts.length ≤ 30) && decide (q.Vars ≤ 40)
def rowOk (f : GFact) : Bool := decide (f.Row.length ≤ 20) && (List.range f.Row.length).all fun k => decide ((nth f.Row k).Text.size ≤ 300)
def smallQ (q : GConj) (facts : List GFact) (n : Int) : Bool := fewM q 4 && decide ((facts.length : Int) ≤ n) && (List.range facts.length).all fun i => rowOk (nth facts i)
/-- Whether two facts lie in one block. -/
def cAt (a : GAtom) (f g : GFact) (k : Nat) : Bool := decide (0 ≤ nth a.Cols k) && decide (nth a.Cols k < f.Row.length) && decide (nth a.Cols k < g.Row.length) && decide (nth f.Row (nth a.Cols k).toNat = nth g.Row (nth a.Cols k).toNat)
def sameA (a : GAtom) (f g : GFact) : Bool := (List.range a.Cols.length).all fun k => !decide ((k : Int) < a.Key) || cAt a f g k
def tabs (f g : GFact) (a : GAtom) : Bool := decide (a.Table = f.Table) && decide (a.Table = g.Table)
def sameL (f g : GFact) : List GAtom → Bool
  | [] => false
  | a :: l => if tabs f g a then sameA a f g else sameL f g l
def sameM (q : GConj) (f g : GFact) : Bool := sameL f g q.Atoms
/-- A choice: one fact of every block. -/
def blkI (q : GConj) (facts : List GFact) (i n : Nat) : List Int := ((List.range n).filter fun j => sameM q (nth facts i) (nth facts j)).map Int.ofNat
def fstB (q : GConj) (facts : List GFact) (i n : Nat) : Bool := (List.range n).all fun j => !sameM q (nth facts i) (nth facts j) || decide (i ≤ j)
def kAt (which : List GByte) (i : Nat) : Int := if i < which.length then (nth which i).1 else 0
def pick (q : GConj) (facts : List GFact) (which : List GByte) (i : Nat) : List Int :=
  if fstB q facts i facts.length && !decide (blkI q facts i facts.length = []) then [nth (blkI q facts i facts.length) (kAt which i % (blkI q facts i facts.length).length).toNat] else []
theorem number_spec (n : Int) : Fun1 prog 27 [tV (.int .i64 n)] (rValue.ty (numV n)) := by
 refine Spec.enter func27 rfl rfl fun h0 w0 fr0 => ?_
 refine Jr ?_
 refine Jx rfl (step_alloc (fun w => zeroValue58 w) zr58) fun v2 => ?_
 refine JL_nil (Jr (Jm rfl (Js rfl (step_build (x := (numV n : GValue)) (zs := [[Value.int .i64 0], [Value.int .i64 0], [Value.string ⟨#[]⟩]]) so58 (fun w => zeroValue58 w) ⟨Sr, Sr, trivial⟩ ⟨⟨Sr, rfl⟩, ⟨Sr, rfl⟩, fun _ => rfl, trivial⟩) ?_)))
 refine Ju (step_store_box ty58 Sr Sr zS) fun _ => ?_
 refine JL_freeze (t := 2) (Sel.take (Sel.none _)) Frz.box ?_
 refine JL_nil (J_ret ?_)
 refine K_ret1' (rv := .cell 2 58) rfl () (Sel.all _) (.imm ty58 Sr Sr) (Frz.sub Sr)
theorem text_spec (s : ByteArray) : Fun1 prog 28 [tV (.string s)] (rValue.ty (txtV s)) := by
 refine Spec.enter func28 rfl rfl fun h0 w0 fr0 => ?_
 refine Jr ?_
 refine Jx rfl (step_alloc (fun w => zeroValue58 w) zr58) fun v2 => ?_
 refine JL_nil (Jr (Jm rfl (Js rfl (step_build (x := (txtV s : GValue)) (zs := [[Value.int .i64 0], [Value.int .i64 0], [Value.string ⟨#[]⟩]]) so58 (fun w => zeroValue58 w) ⟨Sr, Sr, trivial⟩ ⟨⟨Sr, rfl⟩, fun _ => rfl, ⟨Sr, rfl⟩, trivial⟩) ?_)))
 refine Ju (step_store_box ty58 Sr Sr zS) fun _ => ?_
 refine JL_freeze (t := 2) (Sel.take (Sel.none _)) Frz.box ?_
 refine JL_nil (J_ret ?_)
 refine K_ret1' (rv := .cell 2 58) rfl () (Sel.all _) (.imm ty58 Sr Sr) (Frz.sub Sr)
theorem fact_spec (t : Int) (a b : GValue) : Fun1 prog 26 [tV (.int .i64 t), rValue.ty a, rValue.ty b] (rFact.ty (mkF t a b)) := by
 refine Spec.enter func26 rfl rfl fun h0 w0 fr0 => ?_
 refine Jr (Js rfl (step_box (R := rValue) Sr) (Js rfl (step_box (R := rValue) Sr) ?_))
 refine Jx rfl (step_alloc (fun w => zeroValue45 w) zr45) fun v6 => ?_
 refine JL_nil (Jr (Jm rfl (Jl rfl ty58 Sr (Jl rfl ty58 Sr ?_))))
 refine Js rfl (step_literal (ys := [_, _]) underlying22 el58 ⟨rfl, Sr, rfl, Sr, trivial⟩ rfl (by decide)) ?_
 refine Js rfl (step_build (x := (mkF t a b : GFact)) (zs := [[Value.int .i64 0], [Value.int .i64 0], [Value.int .i64 0], [Value.slice none 0 0], [Value.int .i64 0], [Value.slice none 0 0]]) so45 (fun w => zeroValue45 w) ⟨Sr, Sr, trivial⟩ ⟨⟨Sr, rfl⟩, fun _ => rfl, fun _ => rfl, ⟨Sr, rfl⟩, fun _ => rfl, fun _ => ⟨_, rfl, none, ⟨0, Nat.le_refl _⟩, rfl, fun q => absurd rfl q⟩, trivial⟩) ?_
 refine Ju (step_store_box ty45 Sr Sr zS) fun _ => ?_
 refine JL_freeze (t := 6) (Sel.take (Sel.none _)) Frz.box ?_
 refine JL_nil (J_ret ?_)
 refine K_ret1' (rv := .cell 6 45) rfl () (Sel.all _) (.imm ty45 Sr Sr) (Frz.sub Sr)
theorem chain_spec  : Fun1 prog 25 [] (rConj.ty chainQ) := by
 refine Spec.enter func25 rfl rfl fun h0 w0 fr0 => ?_
 refine Jr ?_
 refine Jx rfl (step_alloc (fun w => zeroValue25 w) zr25) fun v0 => ?_
 refine JL_nil (Jr ?_)
 refine Js rfl (step_literal (ys := [_, _]) underlying27 el3 ⟨rfl, Sr, rfl, Sr, trivial⟩ rfl (by decide)) ?_
 refine Js rfl (step_literal (ys := [_, _]) underlying27 el3 ⟨rfl, Sr, rfl, Sr, trivial⟩ rfl (by decide)) ?_
 refine Js rfl (step_build (x := ((⟨0, [0, 1], [0, 1], 1⟩ : GAtom) : GAtom)) (zs := [[Value.int .i64 0], [Value.slice none 0 0], [Value.slice none 0 0], [Value.int .i64 0]]) so47 (fun w => zeroValue47 w) ⟨Sr, Sr, Sr, trivial⟩ ⟨fun _ => rfl, ⟨Sr, rfl⟩, ⟨Sr, rfl⟩, ⟨Sr, rfl⟩, trivial⟩) ?_
 refine Js rfl (step_literal (ys := [_, _]) underlying27 el3 ⟨rfl, Sr, rfl, Sr, trivial⟩ rfl (by decide)) ?_
 refine Js rfl (step_literal (ys := [_, _]) underlying27 el3 ⟨rfl, Sr, rfl, Sr, trivial⟩ rfl (by decide)) ?_
 refine Js rfl (step_build (x := ((⟨1, [0, 1], [1, 2], 1⟩ : GAtom) : GAtom)) (zs := [[Value.int .i64 0], [Value.slice none 0 0], [Value.slice none 0 0], [Value.int .i64 0]]) so47 (fun w => zeroValue47 w) ⟨Sr, Sr, Sr, Sr, trivial⟩ ⟨⟨Sr, rfl⟩, ⟨Sr, rfl⟩, ⟨Sr, rfl⟩, ⟨Sr, rfl⟩, trivial⟩) ?_
 refine Js rfl (step_literal (ys := [_, _]) underlying23 el47 ⟨rfl, Sr, rfl, Sr, trivial⟩ rfl (by decide)) ?_
 refine Js rfl (step_build (x := (chainQ : GConj)) (zs := [[Value.int .i64 0], [Value.slice none 0 0], [Value.slice none 0 0]]) so25 (fun w => zeroValue25 w) ⟨Sr, Sr, trivial⟩ ⟨⟨Sr, rfl⟩, fun _ => ⟨_, rfl, none, ⟨0, Nat.le_refl _⟩, rfl, fun q => absurd rfl q⟩, ⟨Sr, rfl⟩, trivial⟩) ?_
 refine Ju (step_store_box ty25 Sr Sr zS) fun _ => ?_
 refine JL_freeze (t := 0) (Sel.take (Sel.none _)) Frz.box ?_
 refine JL_nil (J_ret ?_)
 refine K_ret1' (rv := .cell 0 25) rfl () (Sel.all _) (.imm ty25 Sr Sr) (Frz.sub Sr)
theorem Few_spec (q : GConj) (n : Int) (hl : q.Atoms.length ≤ 9223372036854775807) : Fun1 prog 29 [rConj.ty q, tV (.int .i64 n)] (tV (.bool (fewM q n))) := by
 refine Spec.enter func29 rfl rfl fun h0 w0 fr0 => ?_
 refine Jr (Js rfl (step_box (R := rConj) Sr) (Ja rfl (JL_nil (J_seq (Jr ?_)))))
 refine Ja rfl (JL_nil (J_block ?_))
 refine J_loopL (σ := Nat) (fun i => i ≤ q.Atoms.length ∧ ∀ i2, i2 < i → (decide ((nth q.Atoms i2).Cols.length ≤ 14) && decide ((nth q.Atoms i2).Terms.length ≤ 14)) = true) (fun i => upd (upd (upd env0 1 (tV (.int .i64 n))) 2 (tPtr rConj q)) 5 (tV (.int .i64 i))) (fun i => []) (fun i => q.Atoms.length - i) 0 ⟨Nat.zero_le _, fun k hk => by omega⟩ (.u (.u (SubE.upd Sr SubE.any))) (LSub.rfl) ?_
 rintro i ⟨hi, hv⟩
 refine J_seq (Jr (Jm rfl (Js rfl (step_fieldAddr so25 Sr rfl) (Jl rfl ty23 Sr (Js rfl (step_len_sl underlying23 Sr) ?_)))))
 refine Js rfl (step_lss Sr Sr) (JL_nil ?_)
 refine J_cond Sr (fun h10 => ?_) (fun h10 => ?_)
 ·
  try simp only [NF] at h10
  have hlt : i < q.Atoms.length := by omega
  refine J_skip (J_seq (J_block (Jr (Js rfl (step_fieldAddr so25 Sr rfl) (Jl rfl ty23 Sr ?_)))))
  refine Jm rfl ?_
  refine Js rfl (step_indexAddr_sl (i := i) underlying23 ty47 Sr Sr (by rfl) (gb (by exact hlt))) ?_
  refine Js rfl (step_fieldAddr so47 Sr rfl) (Jl rfl ty27 Sr (Js rfl (step_len_sl underlying27 Sr) (Js rfl (step_gtr Sr Sr) (Jm rfl (Jg rfl Sr rfl (fun hw => step_fieldAddr so25 Sr rfl) ?_)))))
  refine Jg rfl Sr rfl (fun hw => step_load_ptr ty23 (Sub.w hw)) (Jg rfl Sr rfl (fun hw => step_move Sr) ?_)
  refine Jg rfl Sr rfl (fun hw => step_indexAddr_sl (i := i) underlying23 ty47 (Sub.w hw) (Sub.w hw) (by rfl) (gb (by have hwq := hw; (try simp only [beqB_t, beqB_f, NF] at hwq); exact hlt))) ?_
  refine Jg rfl Sr rfl (fun hw => step_fieldAddr so47 (Sub.w hw) rfl) (Jg rfl Sr rfl (fun hw => step_load_ptr ty27 (Sub.w hw)) (Jg rfl Sr rfl (fun hw => step_len_sl underlying27 (Sub.w hw)) (Jg rfl Sr rfl (fun hw => step_gtr (Sub.w hw) Sr) (Js rfl (step_pick_or Sr Sr) (JL_nil ?_)))))
  refine J_cond Sr (fun h30 => ?_) (fun h30 => ?_)
  ·
   try simp only [NF] at h30
   refine Jr (Ja rfl (JL_nil (J_ret ?_)))
   refine K_ret1 (t := 4) rfl () ?_
   refine Sub.bool ?_
   have h1 : (decide ((nth q.Atoms i).Cols.length ≤ 14) && decide ((nth q.Atoms i).Terms.length ≤ 14)) = false := by
    rcases h30 with h | h
    ·
     rw [decide_eq_false zG]; rfl
    rw [decide_eq_false (p := (nth q.Atoms i).Terms.length ≤ 14) zG, Bool.and_false]
   unfold fewM; rw [rall_f (f := fun i => (decide ((nth q.Atoms i).Cols.length ≤ 14) && decide ((nth q.Atoms i).Terms.length ≤ 14))) hlt h1]; simp
  try simp only [NF] at h30
  refine J_skip (J_region (Jm rfl (Js rfl (step_add Sr Sr z6) (Ja rfl (JL_nil ?_)))))
  refine K_againL (σ := Nat) (s := i) (i + 1) zO ?_ (.u (.u (SubE.upd Sr SubE.any))) (LSub.rfl)
  refine ⟨by omega, fun k hk => ?_⟩
  by_cases e : k = i
  ·
   subst e
   rw [decide_eq_true zG, decide_eq_true zG]; rfl
  exact hv k zG
 try simp only [NF] at h10
 refine J_exit (Jr (Js rfl (step_fieldAddr so25 Sr rfl) (Jl rfl ty23 Sr (Js rfl (step_len_sl underlying23 Sr) (Jm rfl ?_)))))
 refine Js rfl (step_leq Sr Sr) (Jm rfl (Jg rfl Sr rfl (fun hw => step_fieldAddr so25 Sr rfl) (Jg rfl Sr rfl (fun hw => step_load_ptr ty22 (Sub.w hw)) (Jg rfl Sr rfl (fun hw => step_len_sl underlying22 (Sub.w hw)) (Jg rfl Sr rfl (fun hw => step_leq (Sub.w hw) Sr) ?_)))))
 refine Js rfl (step_pick_and Sr Sr) (Jm rfl (Jg rfl Sr rfl (fun hw => step_fieldAddr so25 Sr rfl) (Jg rfl Sr rfl (fun hw => step_load_ptr ty3 (Sub.w hw)) (Jg rfl Sr rfl (fun hw => step_leq (Sub.w hw) Sr) (Js rfl (step_pick_and Sr Sr) ?_)))))
 refine Ja rfl (JL_nil (J_ret ?_))
 refine K_ret1 (t := 4) rfl () ?_
 refine Sub.bool ?_
 have h2 : (List.range q.Atoms.length).all (fun i => (decide ((nth q.Atoms i).Cols.length ≤ 14) && decide ((nth q.Atoms i).Terms.length ≤ 14))) = true := rall_t (fun k hk => hv k zG)
 unfold fewM; rw [h2]
 have e1 : decide ((q.Consts.length : Int) ≤ 30) = decide (q.Consts.length ≤ 30) := by simp; omega
 first | (rw [← e1]; simp [Bool.and_assoc]) | simp [Bool.and_assoc]
theorem Small_spec (q : GConj) (facts : List GFact) (n : Int) (hn : n ≤ 1000) (hq : q.Atoms.length ≤ 9223372036854775807) : Fun1 prog 12 [rConj.ty q, tSl rFact facts, tV (.int .i64 n)] (tV (.bool (smallQ q facts n))) := by
 refine Spec.enter func12 rfl rfl fun h0 w0 fr0 => ?_
 refine Jr (Js rfl (step_box (R := rConj) Sr) (Ja rfl (JL_nil (J_seq (Jr ?_)))))
 refine Jl rfl ty25 Sr (Js rfl (step_call0 (Few_spec q 4 hq) ⟨Sr, Sr, trivial⟩ call29) (Js rfl (step_not Sr) (Jm rfl (Jg rfl Sr rfl (fun hw => step_move Sr) (Jg rfl Sr rfl (fun hw => step_len_sl underlying26 (Sub.w hw)) ?_)))))
 refine Jg rfl Sr rfl (fun hw => step_move Sr) (Jg rfl Sr rfl (fun hw => step_gtr (Sub.w hw) (Sub.w hw)) (Js rfl (step_pick_or Sr Sr) (JL_nil ?_)))
 refine J_cond Sr (fun h17 => ?_) (fun h17 => ?_)
 ·
  try simp only [NF] at h17
  refine Jr (Ja rfl (JL_nil (J_ret ?_)))
  refine K_ret1 (t := 6) rfl () ?_
  refine Sub.bool ?_
  unfold smallQ
  rcases h17 with h | h
  ·
   rw [h]; simp
  rw [decide_eq_false (by omega : ¬ (facts.length : Int) ≤ n)]; simp
 try simp only [NF] at h17
 obtain ⟨h17a, h17b⟩ := h17
 refine J_skip (J_seq (Jr (Ja rfl (JL_nil (J_block ?_)))))
 refine J_loopL (σ := Nat) (fun i => i ≤ facts.length ∧ ∀ k, k < i → rowOk (nth facts k) = true) (fun i => upd (upd env0 1 (tSl rFact facts)) 7 (tV (.int .i64 i))) (fun i => []) (fun i => facts.length - i) 0 ⟨Nat.zero_le _, fun k hk => by omega⟩ (.u (SubE.upd Sr SubE.any)) (LSub.rfl) ?_
 rintro i ⟨hi, hv⟩
 refine J_seq (Jr (Jm rfl (Jm rfl (Js rfl (step_len_sl underlying26 Sr) (Js rfl (step_lss Sr Sr) ?_)))))
 refine JL_nil ?_
 refine J_cond Sr (fun h21 => ?_) (fun h21 => ?_)
 ·
  try simp only [NF] at h21
  have hlt : i < facts.length := by omega
  refine J_skip (J_seq (J_block (J_seq (Jr (Jm rfl ?_)))))
  refine Jm rfl ?_
  refine Js rfl (step_indexAddr_sl (i := i) underlying26 ty45 Sr Sr (by rfl) (gb (by exact hlt))) ?_
  refine Js rfl (step_fieldAddr so45 Sr rfl) (Jl rfl ty22 Sr (Js rfl (step_len_sl underlying22 Sr) (Js rfl (step_gtr Sr Sr) (JL_nil ?_))))
  refine J_cond Sr (fun h30 => ?_) (fun h30 => ?_)
  ·
   try simp only [NF] at h30
   refine Jr (Ja rfl (JL_nil (J_ret ?_)))
   refine K_ret1 (t := 6) rfl () ?_
   refine Sub.bool ?_
   have h1 : rowOk (nth facts i) = false := by
    unfold rowOk; rw [decide_eq_false zG]; rfl
   unfold smallQ; rw [rall_f (f := fun i => rowOk (nth facts i)) hlt h1]; simp
  try simp only [NF] at h30
  refine J_skip (Jr (Ja rfl (JL_nil (J_block ?_))))
  refine J_loopL (σ := Nat) (fun k => k ≤ (nth facts i).Row.length ∧ ∀ j, j < k → decide ((nth (nth facts i).Row j).Text.size ≤ 300) = true) (fun k => upd (upd (upd (upd (upd (upd (upd env0 1 (tSl rFact facts)) 7 (tV (.int .i64 i))) 8 (tV (.int .i64 k))) 18 (tV (.int .i64 i))) 19 (tSl rFact facts)) 24 (tSl rFact facts)) 25 (tV (.int .i64 i))) (fun k => []) (fun k => (nth facts i).Row.length - k) 0 ⟨Nat.zero_le _, fun k hk => by omega⟩ (.u (.u (.u (.u (.u (.u (SubE.upd Sr SubE.any))))))) (LSub.rfl) ?_
  rintro k ⟨hk, hw⟩
  refine J_seq (Jr (Jm rfl (Jm rfl (Jm rfl ?_))))
  refine Js rfl (step_indexAddr_sl (i := i) underlying26 ty45 Sr Sr (by rfl) (gb (by exact hlt))) ?_
  refine Js rfl (step_fieldAddr so45 Sr rfl) (Jl rfl ty22 Sr (Js rfl (step_len_sl underlying22 Sr) (Js rfl (step_lss Sr Sr) (JL_nil ?_))))
  refine J_cond Sr (fun h38 => ?_) (fun h38 => ?_)
  ·
   try simp only [NF] at h38
   have hkt : k < (nth facts i).Row.length := by omega
   refine J_skip (J_seq (J_block (Jr (Jm rfl (Jm rfl ?_)))))
   refine Js rfl (step_indexAddr_sl (i := i) underlying26 ty45 Sr Sr (by rfl) (gb (by exact hlt))) ?_
   refine Js rfl (step_fieldAddr so45 Sr rfl) (Jl rfl ty22 Sr (Jm rfl ?_))
   refine Js rfl (step_indexAddr_sl (i := k) underlying22 ty58 Sr Sr (by rfl) (gb (by exact hkt))) ?_
   refine Js rfl (step_fieldAddr so58 Sr rfl) (Jl rfl ty9 Sr (Js rfl (step_len_str underlying9 Sr) (Js rfl (step_gtr Sr Sr) (JL_nil ?_))))
   refine J_cond Sr (fun h51 => ?_) (fun h51 => ?_)
   ·
    try simp only [NF] at h51
    refine Jr (Ja rfl (JL_nil (J_ret ?_)))
    refine K_ret1 (t := 6) rfl () ?_
    refine Sub.bool ?_
    have h0 : decide ((nth (nth facts i).Row k).Text.size ≤ 300) = false := decide_eq_false zG
    have h1 : rowOk (nth facts i) = false := by
     unfold rowOk; rw [rall_f (f := fun k => decide ((nth (nth facts i).Row k).Text.size ≤ 300)) hkt h0]; simp
    unfold smallQ; rw [rall_f (f := fun i => rowOk (nth facts i)) hlt h1]; simp
   try simp only [NF] at h51
   refine J_skip (J_region (Jm rfl (Js rfl (step_add Sr Sr z6) (Ja rfl (JL_nil ?_)))))
   refine K_againL (σ := Nat) (s := k) (k + 1) zO ?_ (.u (.u (.u (.u (.u (.u (SubE.upd Sr SubE.any))))))) (LSub.rfl)
   refine ⟨by omega, fun j hj => ?_⟩
   by_cases e : j = k
   ·
    subst e; exact decide_eq_true zG
   exact hw j zG
  try simp only [NF] at h38
  refine J_exit (J_region (Jm rfl (Js rfl (step_add Sr Sr z6) (Ja rfl (JL_nil ?_)))))
  refine K_againL (σ := Nat) (s := i) (i + 1) zO ?_ (.u (SubE.upd Sr SubE.any)) (LSub.rfl)
  refine ⟨by omega, fun j hj => ?_⟩
  by_cases e : j = i
  ·
   subst e
   unfold rowOk
   rw [decide_eq_true zG, rall_t (fun k2 hk2 => hw k2 zG)]; rfl
  exact hv j zG
 try simp only [NF] at h21
 refine J_exit (Jr (Ja rfl (JL_nil (J_ret ?_))))
 refine K_ret1 (t := 6) rfl () ?_
 refine Sub.bool ?_
 unfold smallQ; rw [rall_t (fun k hk => hv k zG), h17a, decide_eq_true h17b]; rfl
open Go Go.Proofs Go.Proofs.Tryz
end Lg
namespace Lg
open Go Go.Proofs Go.Proofs.Tryz
/-! Values of the head. -/
def cycQ : GConj := ⟨2, [], [⟨0, [0, 1], [0, 1], 1⟩, ⟨1, [0, 1], [1, 0], 1⟩]⟩
theorem cl_ch0 {t : Int} (h : ClV chainQ 0 [0] t) : t = 0 := by
  induction h with
  | base h => simpa using h
  | @step H t hl hw hk ht ih =>
    have h2 : H = 1 := by
      have : H < 2 := hl
      omega
    subst h2
    have := ih 1 (by decide) (by decide)
    exact absurd this (by decide)
theorem cl_ch1 {t : Int} (h : ClV chainQ 1 [1] t) : t = 1 := by
  induction h with
  | base h => simpa using h
  | @step H t hl hw hk ht ih =>
    have h2 : H = 0 := by
      have : H < 2 := hl
      omega
    subst h2
    have := ih 0 (by decide) (by decide)
    exact absurd this (by decide)
theorem cl_cy0 {t : Int} (h : ClV cycQ 0 [0] t) : t = 0 := by
  induction h with
  | base h => simpa using h
  | @step H t hl hw hk ht ih =>
    have h2 : H = 1 := by
      have : H < 2 := hl
      omega
    subst h2
    have := ih 1 (by decide) (by decide)
    exact absurd this (by decide)
theorem cl_cy1 {t : Int} (h : ClV cycQ 1 [1] t) : t = 1 := by
  induction h with
  | base h => simpa using h
  | @step H t hl hw hk ht ih =>
    have h2 : H = 0 := by
      have : H < 2 := hl
      omega
    subst h2
    have := ih 0 (by decide) (by decide)
    exact absurd this (by decide)
theorem rc_ch1 {k : Nat} (h : RcQ chainQ 1 k) : k = 1 := by
  induction h with
  | refl => rfl
  | @step H K t hr hH hK h1 h2 h0 hn ih =>
    subst ih
    have hK : K < 2 := hK
    rcases (by omega : K = 0 ∨ K = 1) with rfl | rfl
    · have h1 : t ∈ [(1 : Int), 2] := h1
      have h2 : t ∈ [(0 : Int), 1] := h2
      simp at h1 h2
      have : t = 1 := by omega
      subst this
      exact absurd (ClV.base (by decide)) hn
    · rfl
open Classical in
theorem attL_chain : attL chainQ = [[false, true], [false, false]] := by
  have e0 : attB chainQ 0 = [false, true] := by
    have h1 : RcQ chainQ 0 1 := RcQ.step (t := 1) RcQ.refl (by decide) (by decide) (by decide) (by decide) (by decide) (fun h => absurd (cl_ch0 h) (by decide))
    simp [attB, chainQ, List.range_succ] 
    exact h1
  have e1 : attB chainQ 1 = [false, false] := by
    simp [attB, chainQ, List.range_succ]
    intro h; exact absurd (rc_ch1 h) (by decide)
  show [attB chainQ 0, attB chainQ 1] = _
  rw [e0, e1]
open Classical in
theorem attL_cyc : attL cycQ = [[false, true], [true, false]] := by
  have e0 : attB cycQ 0 = [false, true] := by
    have h1 : RcQ cycQ 0 1 := RcQ.step (t := 1) RcQ.refl (by decide) (by decide) (by decide) (by decide) (by decide) (fun h => absurd (cl_cy0 h) (by decide))
    simp [attB, cycQ, List.range_succ]
    exact h1
  have e1 : attB cycQ 1 = [true, false] := by
    have h1 : RcQ cycQ 1 0 := RcQ.step (t := 0) RcQ.refl (by decide) (by decide) (by decide) (by decide) (by decide) (fun h => absurd (cl_cy1 h) (by decide))
    simp [attB, cycQ, List.range_succ]
    exact h1
  show [attB cycQ 0, attB cycQ 1] = _
  rw [e0, e1]
theorem first_chain : firstM chainQ = true := by unfold firstM; rw [attL_chain]; decide +kernel
theorem first_cyc : firstM cycQ = false := by unfold firstM; rw [attL_cyc]; decide +kernel
theorem sorted_chain : sortedM chainQ = chainQ.Atoms := by unfold sortedM sortedI; rw [attL_chain]; rfl
abbrev sA : ByteArray := ⟨#[97]⟩
abbrev sB : ByteArray := ⟨#[98]⟩
def one : GFact := mkF 0 (numV 1) (txtV sA)
def two : GFact := mkF 0 (numV 1) (txtV sB)
def three : GFact := mkF 0 (numV 2) (txtV sA)
def fS : GFact := mkF 1 (txtV sA) (numV 5)
def fT : GFact := mkF 1 (txtV sA) (numV 6)
def fU : GFact := mkF 1 (txtV sB) (numV 7)
def rwC (facts : List GFact) : Grewriting := ⟨chainQ, chainQ.Atoms, chainQ.Atoms.map fun a => some (blkM a facts)⟩
theorem cert_chain (facts : List GFact) : certB chainQ facts = (fitM chainQ facts && certM (rwC facts) 0 []) := by
  unfold certB; rw [first_chain, Bool.and_true]; unfold rwM; rw [sorted_chain]; rfl
theorem v1 : certB chainQ [one, fS] = true := by rw [cert_chain]; decide +kernel
theorem fit1 : fitM chainQ [one, fS] = true := by decide +kernel
theorem e1 : certE chainQ [one, fS] = 0 := by unfold certE; rw [fit1, first_chain]; rfl
theorem v2 : certB chainQ [one, two, fS] = false := by rw [cert_chain]; decide +kernel
theorem v3 : certB chainQ [one, fS, two, fT, fU] = true := by rw [cert_chain]; decide +kernel
theorem v4 : certB chainQ [one, two, three, fS] = true := by rw [cert_chain]; decide +kernel
theorem v5 : certB chainQ [mkF 0 (numV 1) zValue, mkF 1 zValue (numV 5)] = false := by rw [cert_chain]; decide +kernel
theorem fit6 : fitM cycQ [one, fS] = true := by decide +kernel
theorem v6 : certE cycQ [one, fS] = 11 := by unfold certE; rw [fit6, first_cyc]; rfl
abbrev gL : List GFact := [one, fS, two]
def gr1 : GGraph := ⟨3, [0, 0, 0], [[0, 2]]⟩
def gr0 : GGraph := ⟨3, [0, 0, 0], []⟩
theorem vg1 : validG1 gr1 = true := by decide +kernel
theorem vg0 : validG1 gr0 = true := by decide +kernel
theorem v7 : appM (validG1 gr1) chainQ gL gr1 = true := by rw [vg1]; decide +kernel
theorem v8 : appM (validG1 gr0) chainQ gL gr0 = false := by rw [vg0]; decide +kernel
theorem v9 : (fitM chainQ gL && holdB chainQ gL [0, 1] 0 []) = true := by decide +kernel
theorem v10 : (fitM chainQ gL && holdB chainQ gL [1, 2] 0 []) = false := by decide +kernel
theorem oneE1 : oneE gr1.Edges := ⟨by decide, fun e he => by simp [gr1] at he; subst he; refine ⟨?_, by simp, by decide, by decide⟩; unfold Inc; decide⟩
theorem oneE0 : oneE gr0.Edges := ⟨by decide, fun e he => by simp [gr0] at he⟩
theorem hvb1 : validG1 gr1 = true → gr1.Edges.length ≤ 20000 ∧ ∀ e ∈ gr1.Edges, e.length ≤ 1000000 ∧ ∀ x ∈ e, 0 ≤ x ∧ x < gr1.N := fun _ => ⟨by decide, fun e he => by
  have he : e = [0, 2] := by simpa [gr1] using he
  subst he
  exact ⟨by decide, by decide⟩⟩
theorem hvb0 : validG1 gr0 = true → gr0.Edges.length ≤ 20000 ∧ ∀ e ∈ gr0.Edges, e.length ≤ 1000000 ∧ ∀ x ∈ e, 0 ≤ x ∧ x < gr0.N := fun _ => ⟨by decide, fun e he => by simp [gr0] at he⟩
/-! A conjunction whose atoms are one's own. -/
abbrev GCo := Int × List GValue × Value
abbrev fsCo : List (SF GCo) := [⟨Int, 3, rInt, fun x => x.1⟩, ⟨List GValue, 22, rSl rValue, fun x => x.2.1⟩, ⟨Value, 23, rV, fun x => x.2.2⟩]
theorem ty25W : TyOf Tryz.prog 25 (rStruct fsCo) := ⟨fun w => Tryz.isAgg25 w, fun w => Tryz.sizeOf25 w⟩
theorem so25W : StructOf Tryz.prog 25 fsCo := ⟨⟨_, Tryz.underlying25, ⟨rfl, rfl, ty3, by decide, ⟨rfl, rfl, ty22, by decide, ⟨rfl, rfl, ty23V, by decide, trivial⟩⟩⟩⟩, ty25W⟩
abbrev zCo : GCo := (0, [], .slice none 0 0)
theorem zr25W : ∀ h, ((rStruct fsCo).ty zCo).p h (.agg #[Value.int .i64 0, Value.slice none 0 0, Value.slice none 0 0]) := fun _ => ⟨_, ⟨[Value.int .i64 0], _, rfl, rfl, ⟨[Value.slice none 0 0], _, rfl, ⟨_, rfl, none, ⟨0, Nat.le_refl _⟩, rfl, fun q => absurd rfl q⟩, ⟨[Value.slice none 0 0], _, rfl, ⟨rfl, rfl⟩, rfl⟩⟩⟩, rfl⟩
theorem frz_co {v : Value} {n : Int} {cs : List GValue} {l : List GAtom} {q : GConj} (e : q = ⟨n, cs, l⟩) : ∀ (h h' : PH) (c : List Value), PH.le h h' → (tSl rAtom l).p h' v → SF.rel h ((n, cs, v) : GCo) fsCo c → SF.rel h' q fsConj c := fun h h' c le hv r => by
  subst e
  obtain ⟨c0, _, rfl, r0, c1, _, rfl, r1, c2, _, rfl, r2, rz⟩ := r
  exact ⟨c0, _, rfl, rInt.mono le r0, c1, _, rfl, (rSl rValue).mono le r1, c2, _, rfl, ⟨_, r2.1, hv⟩, rz⟩
open Go Go.Proofs Go.Proofs.Tryz
theorem chainO_spec  : Spec (X := Value) prog 25 [] ([]) (fun v => (rStruct fsCo).ty ((3, [], v) : GCo)) (fun v => [own 47 rAtom v chainQ.Atoms]) := by
 refine Spec.enter func25 rfl rfl fun h0 w0 fr0 => ?_
 refine Jr ?_
 refine Jx rfl (step_alloc (R := rStruct fsCo) (z := zCo) (fun w => zeroValue25 w) zr25W) fun b0 => ?_
 refine JL_nil (Jr ?_)
 refine Js rfl (step_literal (ys := [_, _]) underlying27 el3 ⟨rfl, Sr, rfl, Sr, trivial⟩ rfl (by decide)) ?_
 refine Js rfl (step_literal (ys := [_, _]) underlying27 el3 ⟨rfl, Sr, rfl, Sr, trivial⟩ rfl (by decide)) ?_
 refine Js rfl (step_build (x := ((⟨0, [0, 1], [0, 1], 1⟩ : GAtom) : GAtom)) (zs := [[Value.int .i64 0], [Value.slice none 0 0], [Value.slice none 0 0], [Value.int .i64 0]]) so47 (fun w => zeroValue47 w) ⟨Sr, Sr, Sr, trivial⟩ ⟨fun _ => rfl, ⟨Sr, rfl⟩, ⟨Sr, rfl⟩, ⟨Sr, rfl⟩, trivial⟩) ?_
 refine Js rfl (step_literal (ys := [_, _]) underlying27 el3 ⟨rfl, Sr, rfl, Sr, trivial⟩ rfl (by decide)) ?_
 refine Js rfl (step_literal (ys := [_, _]) underlying27 el3 ⟨rfl, Sr, rfl, Sr, trivial⟩ rfl (by decide)) ?_
 refine Js rfl (step_build (x := ((⟨1, [0, 1], [1, 2], 1⟩ : GAtom) : GAtom)) (zs := [[Value.int .i64 0], [Value.slice none 0 0], [Value.slice none 0 0], [Value.int .i64 0]]) so47 (fun w => zeroValue47 w) ⟨Sr, Sr, Sr, Sr, trivial⟩ ⟨⟨Sr, rfl⟩, ⟨Sr, rfl⟩, ⟨Sr, rfl⟩, ⟨Sr, rfl⟩, trivial⟩) ?_
 refine Jx rfl (step_literal_own (ys := [_, _]) underlying23 el47 ⟨rfl, Sr, rfl, Sr, trivial⟩ rfl (by decide)) fun v7 => ?_
 refine Js rfl (step_build (x := ((3, [], v7) : GCo)) (zs := [[Value.int .i64 0], [Value.slice none 0 0], [Value.slice none 0 0]]) so25W (fun w => zeroValue25 w) ⟨Sr, Sr, trivial⟩ ⟨⟨Sr, rfl⟩, fun _ => ⟨_, rfl, none, ⟨0, Nat.le_refl _⟩, rfl, fun q => absurd rfl q⟩, ⟨Sr, rfl⟩, trivial⟩) ?_
 refine Ju (step_store_box (R := rStruct fsCo) ty25W Sr Sr zS) fun _ => ?_
 refine JL_nil (J_ret ?_)
 refine K_ret1' (rv := .cell 0 25) rfl v7 (Sel.take (Sel.none _)) (.cell ty25W Sr (Sel.take (Sel.none _)) Sr) (Frz.sub Sr)
set_option maxHeartbeats 4000000 in
theorem head_spec  : Fun1 prog 11 [] (tV (.bool true)) := by
 refine Spec.enter func11 rfl rfl fun h0 w0 fr0 => ?_
 refine Jr (Ja rfl (JL_nil (Jr (Js rfl (step_call0 (chain_spec) trivial call25) ?_))))
 refine Jx rfl (step_alloc (fun w => zeroValue25 w) zr25) fun v1 => ?_
 refine Ju (step_store_box ty25 Sr Sr zS) fun _ => ?_
 refine JL_freeze (t := 1) (Sel.take (Sel.none _)) Frz.box ?_
 refine JL_nil (Jr (Js rfl (step_call0 (number_spec 1) ⟨Sr, trivial⟩ call27) (Js rfl (step_call0 (text_spec sA) ⟨Sr, trivial⟩ call28) (Js rfl (step_call0 (fact_spec 0 (numV 1) (txtV sA)) ⟨Sr, Sr, Sr, trivial⟩ call26) (Js rfl (step_call0 (number_spec 1) ⟨Sr, trivial⟩ call27) ?_)))))
 refine Js rfl (step_call0 (text_spec sB) ⟨Sr, trivial⟩ call28) (Js rfl (step_call0 (fact_spec 0 (numV 1) (txtV sB)) ⟨Sr, Sr, Sr, trivial⟩ call26) (Js rfl (step_call0 (number_spec 2) ⟨Sr, trivial⟩ call27) (Js rfl (step_call0 (text_spec sA) ⟨Sr, trivial⟩ call28) (Js rfl (step_call0 (fact_spec 0 (numV 2) (txtV sA)) ⟨Sr, Sr, Sr, trivial⟩ call26) ?_))))
 refine Jx rfl (step_alloc (fun w => zeroValue45 w) zr45) fun v2 => ?_
 refine Jx rfl (step_alloc (fun w => zeroValue45 w) zr45) fun v3 => ?_
 refine Jx rfl (step_alloc (fun w => zeroValue45 w) zr45) fun v4 => ?_
 refine Ju (step_store_box ty45 Sr Sr zS) fun _ => ?_
 refine JL_freeze (t := 2) (Sel.take (Sel.none _)) Frz.box ?_
 refine Ju (step_store_box ty45 Sr Sr zS) fun _ => ?_
 refine JL_freeze (t := 3) (Sel.take (Sel.none _)) Frz.box ?_
 refine Ju (step_store_box ty45 Sr Sr zS) fun _ => ?_
 refine JL_freeze (t := 4) (Sel.take (Sel.none _)) Frz.box ?_
 refine JL_nil (Jr (Js rfl (step_call0 (text_spec sA) ⟨Sr, trivial⟩ call28) (Js rfl (step_call0 (number_spec 5) ⟨Sr, trivial⟩ call27) (Js rfl (step_call0 (fact_spec 1 (txtV sA) (numV 5)) ⟨Sr, Sr, Sr, trivial⟩ call26) (Js rfl (step_call0 (text_spec sA) ⟨Sr, trivial⟩ call28) ?_)))))
 refine Js rfl (step_call0 (number_spec 6) ⟨Sr, trivial⟩ call27) (Js rfl (step_call0 (fact_spec 1 (txtV sA) (numV 6)) ⟨Sr, Sr, Sr, trivial⟩ call26) (Js rfl (step_call0 (text_spec sB) ⟨Sr, trivial⟩ call28) (Js rfl (step_call0 (number_spec 7) ⟨Sr, trivial⟩ call27) (Js rfl (step_call0 (fact_spec 1 (txtV sB) (numV 7)) ⟨Sr, Sr, Sr, trivial⟩ call26) ?_))))
 refine Jx rfl (step_alloc (fun w => zeroValue45 w) zr45) fun v5 => ?_
 refine Jx rfl (step_alloc (fun w => zeroValue45 w) zr45) fun v6 => ?_
 refine Jx rfl (step_alloc (fun w => zeroValue45 w) zr45) fun v7 => ?_
 refine Ju (step_store_box ty45 Sr Sr zS) fun _ => ?_
 refine JL_freeze (t := 5) (Sel.take (Sel.none _)) Frz.box ?_
 refine Ju (step_store_box ty45 Sr Sr zS) fun _ => ?_
 refine JL_freeze (t := 6) (Sel.take (Sel.none _)) Frz.box ?_
 refine Ju (step_store_box ty45 Sr Sr zS) fun _ => ?_
 refine JL_freeze (t := 7) (Sel.take (Sel.none _)) Frz.box ?_
 refine JL_nil (Jr (Jl rfl ty25 Sr (Jl rfl ty45 Sr (Jl rfl ty45 Sr ?_))))
 refine Js rfl (step_literal (ys := [one, fS]) underlying26 el45 ⟨rfl, Sr, rfl, Sr, trivial⟩ rfl (by decide)) ?_
 refine Js rfl (step_call0 (Certain_spec chainQ [one, fS] (by decide)) ⟨Sr, Sr, trivial⟩ call14) ?_
 refine Jm rfl (Js rfl (step_extract Sr rfl) (Js rfl (step_extract Sr rfl) (Ja rfl (Ja rfl (JL_nil ?_)))))
 refine Jr (Jl rfl ty25 Sr (Jl rfl ty45 Sr (Jl rfl ty45 Sr (Jl rfl ty45 Sr ?_))))
 refine Js rfl (step_literal (ys := [one, two, fS]) underlying26 el45 ⟨rfl, Sr, rfl, Sr, rfl, Sr, trivial⟩ rfl (by decide)) ?_
 refine Js rfl (step_call0 (Certain_spec chainQ [one, two, fS] (by decide)) ⟨Sr, Sr, trivial⟩ call14) ?_
 refine Jm rfl (Js rfl (step_extract Sr rfl) (Js rfl (step_extract Sr rfl) (Ja rfl (Ja rfl (JL_nil ?_)))))
 refine Jr (Jl rfl ty25 Sr (Jl rfl ty45 Sr (Jl rfl ty45 Sr (Jl rfl ty45 Sr (Jl rfl ty45 Sr ?_)))))
 refine Jl rfl ty45 Sr ?_
 refine Js rfl (step_literal (ys := [one, fS, two, fT, fU]) underlying26 el45 ⟨rfl, Sr, rfl, Sr, rfl, Sr, rfl, Sr, rfl, Sr, trivial⟩ rfl (by decide)) ?_
 refine Js rfl (step_call0 (Certain_spec chainQ [one, fS, two, fT, fU] (by decide)) ⟨Sr, Sr, trivial⟩ call14) ?_
 refine Jm rfl (Js rfl (step_extract Sr rfl) (Js rfl (step_extract Sr rfl) (Ja rfl (Ja rfl (JL_nil ?_)))))
 refine Jr (Jl rfl ty25 Sr (Jl rfl ty45 Sr (Jl rfl ty45 Sr (Jl rfl ty45 Sr (Jl rfl ty45 Sr ?_)))))
 refine Js rfl (step_literal (ys := [one, two, three, fS]) underlying26 el45 ⟨rfl, Sr, rfl, Sr, rfl, Sr, rfl, Sr, trivial⟩ rfl (by decide)) ?_
 refine Js rfl (step_call0 (Certain_spec chainQ [one, two, three, fS] (by decide)) ⟨Sr, Sr, trivial⟩ call14) ?_
 refine Jm rfl (Js rfl (step_extract Sr rfl) (Js rfl (step_extract Sr rfl) (Ja rfl (Ja rfl (JL_nil ?_)))))
 refine J_seq ?_
 refine J_draw [⟨0, [1], true⟩, ⟨1, [], true⟩, ⟨2, [], true⟩, ⟨3, [82, 83], true⟩, ⟨4, [], true⟩, ⟨5, [], true⟩, ⟨6, [85, 86], true⟩, ⟨7, [84, 87], true⟩, ⟨8, [81, 88], true⟩, ⟨9, [89], true⟩, ⟨10, [80], true⟩, ⟨11, [80], true⟩, ⟨12, [90], true⟩, ⟨13, [91], true⟩] rfl (by kernel_rfl) ?_
 refine Mf rfl rfl (step_load_ptr ty25 Sr) (Mf rfl rfl (step_call0 (number_spec 1) ⟨Sr, trivial⟩ call27) (Mf rfl rfl (step_build (x := (zValue : GValue)) (zs := [[Value.int .i64 0], [Value.int .i64 0], [Value.string ⟨#[]⟩]]) so58 (fun w => zeroValue58 w) trivial ⟨fun _ => rfl, fun _ => rfl, fun _ => rfl, trivial⟩) (Mf rfl rfl (step_call0 (fact_spec 0 (numV 1) (zValue)) ⟨Sr, Sr, Sr, trivial⟩ call26) (Mf rfl rfl (step_build (x := (zValue : GValue)) (zs := [[Value.int .i64 0], [Value.int .i64 0], [Value.string ⟨#[]⟩]]) so58 (fun w => zeroValue58 w) trivial ⟨fun _ => rfl, fun _ => rfl, fun _ => rfl, trivial⟩) (Mf rfl rfl (step_call0 (number_spec 5) ⟨Sr, trivial⟩ call27) ?_)))))
 refine Mf rfl rfl (step_call0 (fact_spec 1 (zValue) (numV 5)) ⟨Sr, Sr, Sr, trivial⟩ call26) ?_
 refine Mf rfl rfl (step_literal (ys := [mkF 0 (numV 1) zValue, mkF 1 zValue (numV 5)]) underlying26 el45 ⟨rfl, Sr, rfl, Sr, trivial⟩ rfl (by decide)) ?_
 refine Mf rfl rfl (step_call0 (Certain_spec chainQ [mkF 0 (numV 1) zValue, mkF 1 zValue (numV 5)] (by decide)) ⟨Sr, Sr, trivial⟩ call14) ?_
 refine Mv rfl rfl (Mf rfl rfl (step_extract Sr rfl) (Mf rfl rfl (step_extract Sr rfl) (Mf rfl rfl (step_assign Sr) (Mf rfl rfl (step_assign Sr) (JM_nil ?_)))))
 refine Jr ?_
 refine Jx rfl (step_call (Sel.none _) chainO_spec trivial call25) fun v92 => ?_
 refine Jx rfl (step_alloc (R := rStruct fsCo) (z := zCo) (fun w => zeroValue25 w) zr25W) fun b18 => ?_
 refine Ju (step_store_box (R := rStruct fsCo) ty25W Sr Sr zS) fun _ => ?_
 refine JL_nil (Jr (Js rfl (step_fieldAddr_own so25W Sr rfl) ?_))
 refine Ju (step_store_fld (R := rInt) (z := 2) (y := ((3, [], v92) : GCo)) (y' := ((2, [], v92) : GCo)) ty3 Sr Sr zS ⟨fun h cs r => r, rfl, by intro g hg; simp at hg; rcases hg with rfl | rfl <;> rfl⟩) fun _ => ?_
 refine JL_nil (Jr (Js rfl (step_fieldAddr_own so25W Sr rfl) ?_))
 refine Js rfl (step_load_fld ty23V Sr rfl zS) ?_
 refine Js rfl (step_literal (ys := [_, _]) underlying27 el3 ⟨rfl, Sr, rfl, Sr, trivial⟩ rfl (by decide)) ?_
 refine Js rfl (step_indexAddr_own (i := 1) underlying23 ty47 Sr zS Sr rfl (by decide)) ?_
 refine Js rfl (step_fieldAddr_elem so47 Sr rfl zS (by decide)) ?_
 refine Ju (step_store_elemfld (R := rSl rInt) (z := [1, 0]) (y := (⟨1, [0, 1], [1, 2], 1⟩ : GAtom)) (y' := (⟨1, [0, 1], [1, 0], 1⟩ : GAtom)) ty27 Sr Sr zS rfl ⟨rfl, rfl, fun h cs r => r, rfl, by intro g hg; simp at hg; subst hg; rfl⟩) fun _ => ?_
 refine JL_nil (J_seq ?_)
 refine K_lsub (L' := [box b18 25 (rStruct fsCo) ((2, [], v92) : GCo), own 47 rAtom v92 [(⟨0, [0, 1], [0, 1], 1⟩ : GAtom), ⟨1, [0, 1], [1, 0], 1⟩]]) (LSub.cons zS (SPs.rfl) (LSub.cons zS (SPs.of rfl) (LSub.nil))) ?_
 refine K_freeze (t := 18) (A' := tPtr rConj cycQ) (Sel.take (Sel.take (Sel.none _))) (Frz.up (frz_co rfl)) ?_
 refine J_region (Jl rfl ty25 Sr (Jl rfl ty45 Sr (Jl rfl ty45 Sr ?_)))
 refine Js rfl (step_literal (ys := [one, fS]) underlying26 el45 ⟨rfl, Sr, rfl, Sr, trivial⟩ rfl (by decide)) ?_
 refine Js rfl (step_call0 (Certain_spec cycQ [one, fS] (by decide)) ⟨Sr, Sr, trivial⟩ call14) ?_
 refine Jm rfl (Js rfl (step_extract Sr rfl) (Js rfl (step_extract Sr rfl) (Ja rfl (Ja rfl (JL_nil ?_)))))
 refine Jr (Jl rfl ty45 Sr (Jl rfl ty45 Sr (Jl rfl ty45 Sr ?_)))
 refine Js rfl (step_literal (ys := gL) underlying26 el45 ⟨rfl, Sr, rfl, Sr, rfl, Sr, trivial⟩ rfl (by decide)) ?_
 refine Ja rfl (JL_nil (Jr ?_))
 refine Js rfl (step_literal (ys := [_, _, _]) underlying27 el3 ⟨rfl, Sr, rfl, Sr, rfl, Sr, trivial⟩ rfl (by decide)) ?_
 refine Js rfl (step_literal (ys := [_, _]) underlying27 el3 ⟨rfl, Sr, rfl, Sr, trivial⟩ rfl (by decide)) ?_
 refine Js rfl (step_literal (ys := [_]) underlying28 el27 ⟨rfl, Sr, trivial⟩ rfl (by decide)) ?_
 refine Js rfl (step_build (x := (gr1 : GGraph)) (zs := [[Value.int .i64 0], [Value.slice none 0 0], [Value.slice none 0 0]]) so30 (fun w => zeroValue30 w) ⟨Sr, Sr, Sr, trivial⟩ ⟨⟨Sr, rfl⟩, ⟨Sr, rfl⟩, ⟨Sr, rfl⟩, trivial⟩) ?_
 refine Jx rfl (step_alloc (fun w => zeroValue30 w) zr30) fun v22 => ?_
 refine Ju (step_store_box ty30 Sr Sr zS) fun _ => ?_
 refine JL_freeze (t := 22) (Sel.take (Sel.none _)) Frz.box ?_
 refine JL_nil (Jr (Jm rfl (Jm rfl (Jg rfl Sr rfl (fun hw => step_move Sr) (Jg rfl Sr rfl (fun hw => step_eql (Sub.w hw) Sr) ?_)))))
 refine Js rfl (step_pick_and Sr Sr) (Jm rfl (Jg rfl Sr rfl (fun hw => step_move Sr) (Jg rfl Sr rfl (fun hw => step_not (Sub.w hw)) (Js rfl (step_pick_and Sr Sr) (Jm rfl ?_)))))
 refine Jg rfl Sr rfl (fun hw => step_move Sr) (Js rfl (step_pick_and Sr Sr) (Jm rfl (Jg rfl Sr rfl (fun hw => step_move Sr) (Js rfl (step_pick_and Sr Sr) (Jm rfl ?_)))))
 refine Jg rfl Sr rfl (fun hw => step_move Sr) (Jg rfl Sr rfl (fun hw => step_not (Sub.w hw)) (Js rfl (step_pick_and Sr Sr) (Jm rfl (Jg rfl Sr rfl (fun hw => step_move Sr) (Jg rfl Sr rfl (fun hw => step_eql (Sub.w hw) Sr) ?_)))))
 refine Js rfl (step_pick_and Sr Sr) (Jm rfl (Jg rfl Sr rfl (fun hw => step_load_ptr ty25 Sr) (Jg rfl Sr rfl (fun hw => step_move Sr) (Jg rfl Sr rfl (fun hw => step_load_ptr ty30 Sr) ?_))))
 refine Jg rfl Sr rfl (fun hw => step_call0 (Applies_spec chainQ gL gr1 (validG1 gr1) (ValidOne_spec gr1 oneE1 (by decide)) hvb1 (by decide)) ⟨(Sub.w hw), (Sub.w hw), (Sub.w hw), trivial⟩ call16) ?_
 refine Js rfl (step_pick_and Sr Sr) (Jm rfl (Jg rfl Sr rfl (fun hw => step_load_ptr ty25 Sr) (Jg rfl Sr rfl (fun hw => step_move Sr) ?_)))
 refine Jg rfl Sr rfl (fun hw => step_literal (ys := [_, _, _]) underlying27 el3 ⟨rfl, Sr, rfl, Sr, rfl, Sr, trivial⟩ rfl (by decide)) ?_
 refine Jg rfl Sr rfl (fun hw => step_build (x := (gr0 : GGraph)) (zs := [[Value.int .i64 0], [Value.slice none 0 0], [Value.slice none 0 0]]) so30 (fun w => zeroValue30 w) ⟨Sr, (Sub.w hw), trivial⟩ ⟨⟨Sr, rfl⟩, ⟨(Sub.w hw), rfl⟩, fun _ => ⟨_, rfl, none, ⟨0, Nat.le_refl _⟩, rfl, fun q => absurd rfl q⟩, trivial⟩) ?_
 refine Jg rfl Sr rfl (fun hw => step_call0 (Applies_spec chainQ gL gr0 (validG1 gr0) (ValidOne_spec gr0 oneE0 (by decide)) hvb0 (by decide)) ⟨(Sub.w hw), (Sub.w hw), (Sub.w hw), trivial⟩ call16) ?_
 refine Jg rfl Sr rfl (fun hw => step_not (Sub.w hw)) (Js rfl (step_pick_and Sr Sr) (Jm rfl (Jg rfl Sr rfl (fun hw => step_load_ptr ty25 Sr) (Jg rfl Sr rfl (fun hw => step_move Sr) ?_))))
 refine Jg rfl Sr rfl (fun hw => step_literal (ys := [_, _]) underlying27 el3 ⟨rfl, Sr, rfl, Sr, trivial⟩ rfl (by decide)) ?_
 refine Jg rfl Sr rfl (fun hw => step_call0 (Holds_spec chainQ gL [0, 1] (by decide) (by decide)) ⟨(Sub.w hw), (Sub.w hw), (Sub.w hw), trivial⟩ call18) ?_
 refine Js rfl (step_pick_and Sr Sr) (Jm rfl (Jg rfl Sr rfl (fun hw => step_load_ptr ty25 Sr) (Jg rfl Sr rfl (fun hw => step_move Sr) ?_)))
 refine Jg rfl Sr rfl (fun hw => step_literal (ys := [_, _]) underlying27 el3 ⟨rfl, Sr, rfl, Sr, trivial⟩ rfl (by decide)) ?_
 refine Jg rfl Sr rfl (fun hw => step_call0 (Holds_spec chainQ gL [1, 2] (by decide) (by decide)) ⟨(Sub.w hw), (Sub.w hw), (Sub.w hw), trivial⟩ call18) ?_
 refine Jg rfl Sr rfl (fun hw => step_not (Sub.w hw)) (Js rfl (step_pick_and Sr Sr) (Ja rfl (JL_nil (J_ret ?_))))
 refine K_ret1 (t := 0) rfl () ?_
 refine Sub.bool ?_
 rw [Lg.v1, Lg.e1, Lg.v2, Lg.v3, Lg.v4, Lg.v5, Lg.v6, Lg.v7, Lg.v8, Lg.v9, Lg.v10]; rfl
open Go Go.Proofs Go.Proofs.Tryz
theorem small_bd {q : GConj} {facts : List GFact} {n : Int} (h : smallQ q facts n = true) : fewM q 4 = true ∧ (facts.length : Int) ≤ n ∧ ∀ f ∈ facts, f.Row.length ≤ 20 := by
  unfold smallQ at h
  simp only [Bool.and_eq_true, decide_eq_true_eq] at h
  obtain ⟨⟨h1, h2⟩, h3⟩ := h
  refine ⟨h1, h2, fun f hf => ?_⟩
  obtain ⟨i, hi, rfl⟩ := List.getElem_of_mem hf
  have := rall_iff.1 h3 i hi
  rw [nth_get hi] at this
  unfold rowOk at this
  simp only [Bool.and_eq_true, decide_eq_true_eq] at this
  exact this.1
/-- Holds, as the law asks. -/
def holdsM (q : GConj) (facts : List GFact) (set : List Int) : Bool := fitM q facts && holdB q facts set 0 []
theorem holdL_sub {V : Type} (T : EqT V) {ι : Type} {A B : ι → List (List (Bnd V))} : ∀ {is : List ι} {g : List (Bnd V)}, (∀ i ∈ is, ∀ x ∈ A i, x ∈ B i) → holdL T (is.map A) g = true → holdL T (is.map B) g = true
  | [], _, _, _ => rfl
  | i :: is, g, hs, h => by
    simp only [List.map_cons, holdL, List.any_eq_true] at h ⊢
    obtain ⟨x, hx, h2⟩ := h
    refine ⟨x, hs i (by simp) x hx, ?_⟩
    cases hr : runB T g x with
    | none => rw [hr] at h2; exact h2
    | some g2 =>
      rw [hr] at h2
      exact holdL_sub T (fun j hj => hs j (by simp [hj])) h2
theorem holds_mono {q : GConj} {facts : List GFact} {s t : List Int} (h : ∀ x ∈ s, x ∈ t) (hh : holdsM q facts s = true) : holdsM q facts t = true := by
  unfold holdsM at hh ⊢
  rw [Bool.and_eq_true] at hh ⊢
  refine ⟨hh.1, ?_⟩
  refine holdL_sub (eqT q) (fun i _ x hx => ?_) hh.2
  obtain ⟨f, hf, rfl⟩ := List.mem_map.1 hx
  refine List.mem_map.2 ⟨f, ?_, rfl⟩
  unfold candF at hf ⊢
  obtain ⟨j, hj, h2⟩ := List.mem_filterMap.1 hf
  exact List.mem_filterMap.2 ⟨j, h j hj, h2⟩
theorem sameL_t {f g : GFact} : ∀ {l : List GAtom}, (∀ a ∈ l, tabs f g a = true → sameA a f g = true) → (∃ a ∈ l, tabs f g a = true) → sameL f g l = true
  | [], _, ⟨_, h, _⟩ => by cases h
  | a :: l, h1, ⟨b, hb, h2⟩ => by
    unfold sameL
    by_cases ht : tabs f g a = true
    · rw [if_pos ht]; exact h1 a (by simp) ht
    · rw [if_neg ht]
      rcases List.mem_cons.1 hb with rfl | hb
      · exact absurd h2 ht
      · exact sameL_t (fun c hc => h1 c (by simp [hc])) ⟨b, hb, h2⟩
theorem same_self {q : GConj} {facts : List GFact} (hfit : fitM q facts = true) {f : GFact} (hf : f ∈ facts) {i : Nat} (hi : i < q.Atoms.length) (ht : f.Table = (nth q.Atoms i).Table) : sameM q f f = true := by
  refine sameL_t (fun a ha htb => ?_) ⟨nth q.Atoms i, nth_mem hi, by unfold tabs; rw [ht]; simp⟩
  obtain ⟨j, hj, rfl⟩ := List.getElem_of_mem ha
  unfold tabs at htb
  simp only [Bool.and_eq_true, decide_eq_true_eq] at htb
  rw [← nth_get hj] at htb ⊢
  have h1 := fit_fact hfit hf hj htb.1.symm
  unfold sameA
  refine rall_t fun k hk => ?_
  have h2 := h1 k hk
  unfold cAt
  rw [decide_eq_true h2.1, decide_eq_true h2.2.1]
  simp
open Go Go.Proofs Go.Proofs.Tryz
variable {H : Type} {enc : TypeId × Value → H} {W : World}
theorem rd3 : Rd enc Tryz.prog W 3 rInt := Rd.int ty3 Tryz.underlying3
theorem rd9 : Rd enc Tryz.prog W 9 rStr := Rd.str ty9 Tryz.underlying9
theorem rd27 : Rd enc Tryz.prog W 27 (rSl rInt) := Rd.sl ty27 Tryz.underlying27 rd3 (by decide)
theorem rd58 : Rd enc Tryz.prog W 58 rValue where
  k := ty58.cells W
  rd := fun fuel cs x h => by
    obtain ⟨hl, hf⟩ := readStruct so58 h
    obtain ⟨y0, h0⟩ := Rd.at (t := 58) (i := 0) hf rd3 rfl
    obtain ⟨y1, h1⟩ := Rd.at (t := 58) (i := 1) hf rd3 rfl
    obtain ⟨y2, h2⟩ := Rd.at (t := 58) (i := 2) hf rd9 rfl
    refine ⟨⟨y0, y1, y2⟩, SF.rel_of hl fun i f hi => ?_⟩
    match i, hi with
    | 0, hi => cases hi; exact h0
    | 1, hi => cases hi; exact h1
    | 2, hi => cases hi; exact h2
    | n + 3, hi => simp [fsValue] at hi
theorem rd22 : Rd enc Tryz.prog W 22 (rSl rValue) := Rd.sl ty22 Tryz.underlying22 rd58 (by decide)
theorem rd47 : Rd enc Tryz.prog W 47 rAtom where
  k := ty47.cells W
  rd := fun fuel cs x h => by
    obtain ⟨hl, hf⟩ := readStruct so47 h
    obtain ⟨y0, h0⟩ := Rd.at (t := 47) (i := 0) hf rd3 rfl
    obtain ⟨y1, h1⟩ := Rd.at (t := 47) (i := 1) hf rd27 rfl
    obtain ⟨y2, h2⟩ := Rd.at (t := 47) (i := 2) hf rd27 rfl
    obtain ⟨y3, h3⟩ := Rd.at (t := 47) (i := 3) hf rd3 rfl
    refine ⟨⟨y0, y1, y2, y3⟩, SF.rel_of hl fun i f hi => ?_⟩
    match i, hi with
    | 0, hi => cases hi; exact h0
    | 1, hi => cases hi; exact h1
    | 2, hi => cases hi; exact h2
    | 3, hi => cases hi; exact h3
    | n + 4, hi => simp [fsAtom] at hi
theorem rd23 : Rd enc Tryz.prog W 23 (rSl rAtom) := Rd.sl ty23 Tryz.underlying23 rd47 (by decide)
theorem rd45 : Rd enc Tryz.prog W 45 rFact where
  k := ty45.cells W
  rd := fun fuel cs x h => by
    obtain ⟨hl, hf⟩ := readStruct so45 h
    obtain ⟨y0, h0⟩ := Rd.at (t := 45) (i := 0) hf rd3 rfl
    obtain ⟨y1, h1⟩ := Rd.at (t := 45) (i := 1) hf rd3 rfl
    obtain ⟨y2, h2⟩ := Rd.at (t := 45) (i := 2) hf rd3 rfl
    obtain ⟨y3, h3⟩ := Rd.at (t := 45) (i := 3) hf rd22 rfl
    obtain ⟨y4, h4⟩ := Rd.at (t := 45) (i := 4) hf rd3 rfl
    obtain ⟨y5, h5⟩ := Rd.at (t := 45) (i := 5) hf rd27 rfl
    refine ⟨⟨y0, y1, y2, y3, y4, y5⟩, SF.rel_of hl fun i f hi => ?_⟩
    match i, hi with
    | 0, hi => cases hi; exact h0
    | 1, hi => cases hi; exact h1
    | 2, hi => cases hi; exact h2
    | 3, hi => cases hi; exact h3
    | 4, hi => cases hi; exact h4
    | 5, hi => cases hi; exact h5
    | n + 6, hi => simp [fsFact] at hi
theorem rd26 : Rd enc Tryz.prog W 26 (rSl rFact) := Rd.sl ty26 Tryz.underlying26 rd45 (by decide)
open Go Go.Proofs Go.Proofs.Tryz
theorem run_true {P : Program} {f : Nat} {As : List Ty} {vs : List Value} {W : World} (sp : Fun1 P f As (tV (.bool true))) (hi : Inv (wholeH W)) (ha : Args (wholeH W) As vs) :
    Calls P f vs.toArray W fun e W' => e = .returned (.bool true) ∧ Go.RowKit.Below W.heap.size W W' := by
  have hc := sp vs (wholeH W) PH.emp PH.emp W ha ⟨hi, PH.disj_emp _, PH.disj_emp _, PH.disj_emp _, wholeH_inw W, (fun b o e => by cases e), fun b o e => by cases e⟩ rfl
  refine hc.mono ?_
  rintro e W' ⟨x, v, h', m', rfl, l, s, _, hv⟩
  have hv : v = .bool true := hv
  subst hv
  exact ⟨rfl, below_of l.1 s.hw l.2⟩
section
variable {H : Type} {enc : TypeId × Value → H} {P : Program} {W : World} {base : Nat}
theorem arg_sl {α : Type} {t e : Nat} {R : Rp α} {v : Value} {d : DataW H} {p : List MemPlace} (hu : P.underlying t = some (.slice e)) (hR : Rd enc P W t (rSl R)) (hok : Value.okWide P W .any base t v) (h : DataW.Trod enc P W 0 (fun _ => true) true t v d p) :
    ∃ xs, (tSl R xs).p (wholeH W) v := by
  obtain ⟨a, len, cap, rfl⟩ := Go.WideShapes.okWide_slice hu hok
  obtain ⟨fuel, h⟩ := h
  obtain ⟨xs, u, e1, e2⟩ := hR.rd _ _ _ h
  have : Value.slice a len cap = u := by
    have := (List.cons.inj e1).1
    exact this
  exact ⟨xs, this ▸ e2⟩
theorem sl_len {α : Type} {t e : Nat} {R : Rp α} (hu : P.underlying t = some (.slice e)) {fuel : Nat} {cs : List Value} {x : DataW H × List MemPlace} (h : DataW.trod enc P W 0 (fun _ => true) true fuel t cs = some x) {xs : List α} (r : (rSl R).rel (wholeH W) xs cs) :
    xs.length ≤ 9223372036854775807 ∧ (x.1 = .nil ∧ xs = [] ∨ ∃ el rest, x.1 = .slice el rest ∧ el.length = xs.length) := by
  obtain ⟨u, e1, ao, cap, e2, _⟩ := r
  subst e1; subst e2
  rcases DataW.trod_slice hu h with ⟨h1, h2⟩ | ⟨a, len, cap', elems, rest, n, _, h1, h2, _, hlc, hm, hlen, _⟩
  · have h3 := (Value.slice.inj (List.cons.inj h1).1).2.1
    have h4 : xs = [] := List.eq_nil_of_length_eq_zero h3
    subst h4
    exact ⟨by simp, .inl ⟨by rw [h2], rfl⟩⟩
  · have h3 := (Value.slice.inj (List.cons.inj h1).1).2.1
    refine ⟨?_, .inr ⟨elems.map (·.1), rest.map (·.1), by rw [h2], by rw [List.length_map]; omega⟩⟩
    have : maxLen = 9223372036854775807 := by decide
    omega
/-- A slice that is handed in, and how long what was read is. -/
theorem arg_slL {α : Type} {t e : Nat} {R : Rp α} {v : Value} {d : DataW H} {p : List MemPlace} (hu : P.underlying t = some (.slice e)) (hR : Rd enc P W t (rSl R)) (hok : Value.okWide P W .any base t v) (h : DataW.Trod enc P W 0 (fun _ => true) true t v d p) :
    ∃ xs, (tSl R xs).p (wholeH W) v ∧ (d = .nil ∧ xs = [] ∨ ∃ el rest, d = .slice el rest ∧ el.length = xs.length) := by
  obtain ⟨a, len, cap, rfl⟩ := Go.WideShapes.okWide_slice hu hok
  obtain ⟨fuel, h⟩ := h
  obtain ⟨xs, hr⟩ := hR.rd _ _ _ h
  have hl := (sl_len hu h hr).2
  obtain ⟨u, e1, e2⟩ := hr
  have : Value.slice a len cap = u := (List.cons.inj e1).1
  exact ⟨xs, this ▸ e2, hl⟩
/-- A struct that is handed in. -/
theorem arg_st {α : Type} {t : Nat} {R : Rp α} {v : Value} {d : DataW H} {p : List MemPlace} (hR : Rd enc P W t R) (hg : R.agg = true) (hk : R.k ≠ 1) (h : DataW.Trod enc P W 0 (fun _ => true) true t v d p) :
    ∃ x, (R.ty x).p (wholeH W) v := by
  obtain ⟨fuel, h⟩ := h
  obtain ⟨x, r⟩ := hR.rd _ _ _ h
  refine ⟨x, R.iff.2 ⟨_, r, ?_⟩⟩
  have hl := R.len r
  unfold packV
  rw [hg]
  cases v with
  | agg cs => simp [Value.cells]
  | _ => simp [Value.cells] at hl; exact absurd hl.symm hk
theorem arg_str {t : Nat} {v : Value} {d : DataW H} {p : List MemPlace} (hu : P.underlying t = some .string) (hok : Value.okWide P W .any base t v) (h : DataW.Trod enc P W 0 (fun _ => true) true t v d p) :
    ∃ x : ByteArray, (tV (.string x)).p (wholeH W) v := by
  obtain ⟨x, rfl⟩ := Go.WideShapes.okWide_string hu hok
  exact ⟨x, rfl⟩
end
theorem Rd.byte {t : Nat} {H : Type} {enc : TypeId × Value → H} {W : World} (hT : TyOf Tryz.prog t rB) (hu : Tryz.prog.underlying t = some (.int .u8)) : Rd enc Tryz.prog W t rB where
  k := hT.cells W
  rd := fun _ _ _ h => by
    obtain ⟨n, rfl, _, hw⟩ := DataW.trod_int hu h
    simp only [Lit.wf, Bool.and_eq_true, decide_eq_true_eq] at hw
    exact ⟨⟨n, by simp [IntKind.min, IntKind.max, IntKind.bits, IntKind.signed] at hw; omega⟩, rfl⟩
theorem ty40B : TyOf Tryz.prog 40 (rSl rB) := ⟨fun w => Tryz.isAgg40 w, fun w => Tryz.sizeOf40 w⟩
theorem rd40 {H : Type} {enc : TypeId × Value → H} {W : World} : Rd enc Tryz.prog W 40 (rSl rB) := Rd.sl ty40B Tryz.underlying40 (Rd.byte ty5B Tryz.underlying5) (by decide)
/-- A conjunction that is handed in. -/
theorem arg_cj {H : Type} {enc : TypeId × Value → H} {W : World} {v : Value} {d : DataW H} {p : List MemPlace} (h : DataW.Trod enc Tryz.prog W 0 (fun _ => true) true 25 v d p) :
    ∃ q : GConj, (rConj.ty q).p (wholeH W) v ∧ q.Atoms.length ≤ 9223372036854775807 := by
  obtain ⟨fuel, h⟩ := h
  obtain ⟨hl, hf⟩ := readStruct so25 h
  obtain ⟨y0, h0⟩ := Rd.at (t := 25) (i := 0) hf rd3 rfl
  obtain ⟨y1, h1⟩ := Rd.at (t := 25) (i := 1) hf rd22 rfl
  obtain ⟨n, z, hz⟩ := hf 2 _ rfl
  obtain ⟨y2, h2⟩ := rd23.rd _ _ _ hz
  have hb := (sl_len Tryz.underlying23 hz h2).1
  have hr : rConj.rel (wholeH W) (⟨y0, y1, y2⟩ : GConj) (Value.cells v).toList := SF.rel_of hl fun i f hi => by
    match i, hi with
    | 0, hi => cases hi; exact h0
    | 1, hi => cases hi; exact h1
    | 2, hi => cases hi; exact h2
    | n + 3, hi => simp [fsConj] at hi
  refine ⟨⟨y0, y1, y2⟩, rConj.iff.2 ⟨_, hr, ?_⟩, hb⟩
  have hl2 := rConj.len hr
  unfold packV
  rw [show rConj.agg = true from rfl]
  cases v with
  | agg cs => simp [Value.cells]
  | _ => simp [Value.cells] at hl2; exact absurd hl2.symm (by decide)
theorem inv_of {W : World} (h : Lib.TabIs Tryz.prog W "internal/strconv.uint64pow10" .u64 Lib.pow10Tab) : Inv (wholeH W) := by
  have hg : Tryz.prog.globalNamed "internal/strconv.uint64pow10" = some tabG := by kernel_rfl
  unfold Lib.TabIs World.var? at h
  rw [hg] at h
  simp only [Option.bind_some] at h
  unfold Inv wholeH
  cases hb : W.heap[tabG]? with
  | none => rw [hb] at h; cases h
  | some o =>
    rw [hb] at h
    cases o with
    | cells cs e fz => exact ⟨e, fz, by injection h with h; rw [h]; rfl⟩
    | _ => cases h
end Lg
namespace Go.Proofs.YtjenebejjamnjaaGreatDoor
open Go.ChangeShapes Go.WideShapes Go.ChangeAt Go.RowKit
theorem own : ownKnob Tryz.prog.godebug = none := by kernel_rfl
theorem laidOut : laidOutB Tryz.prog = true := by kernel_rfl
theorem size25 : (25 : Nat) < Tryz.prog.types.size := of_decide_eq_true (by kernel_rfl)
theorem rec25 : Tryz.prog.readableRec 25 = true := by kernel_rfl
theorem want25 : Tryz.prog.wantsStandIn 25 = false := by kernel_rfl
theorem size26 : (26 : Nat) < Tryz.prog.types.size := of_decide_eq_true (by kernel_rfl)
theorem rec26 : Tryz.prog.readableRec 26 = true := by kernel_rfl
theorem want26 : Tryz.prog.wantsStandIn 26 = false := by kernel_rfl
theorem size27 : (27 : Nat) < Tryz.prog.types.size := of_decide_eq_true (by kernel_rfl)
theorem rec27 : Tryz.prog.readableRec 27 = true := by kernel_rfl
theorem want27 : Tryz.prog.wantsStandIn 27 = false := by kernel_rfl
theorem size30 : (30 : Nat) < Tryz.prog.types.size := of_decide_eq_true (by kernel_rfl)
theorem rec30 : Tryz.prog.readableRec 30 = true := by kernel_rfl
theorem want30 : Tryz.prog.wantsStandIn 30 = false := by kernel_rfl
theorem size40 : (40 : Nat) < Tryz.prog.types.size := of_decide_eq_true (by kernel_rfl)
theorem rec40 : Tryz.prog.readableRec 40 = true := by kernel_rfl
theorem want40 : Tryz.prog.wantsStandIn 40 = false := by kernel_rfl
theorem size45 : (45 : Nat) < Tryz.prog.types.size := of_decide_eq_true (by kernel_rfl)
theorem rec45 : Tryz.prog.readableRec 45 = true := by kernel_rfl
theorem want45 : Tryz.prog.wantsStandIn 45 = false := by kernel_rfl
/-- What the rows list. -/
abbrev laidL : List (String × DataW Unit) := [("math/bits.deBruijn32tab", Rows.laid_math_bits_deBruijn32tab), ("math/bits.deBruijn64tab", Rows.laid_math_bits_deBruijn64tab), ("internal/strconv.uint64pow10", Rows.laid_internal_strconv_uint64pow10)]
noncomputable def laidWorld (os : Os) : World := World.laidAll Tryz.prog os laidL
theorem tab_of {W : World} (h : laidMet Tryz.prog laidL W) : Lib.TabIs Tryz.prog W "internal/strconv.uint64pow10" .u64 Lib.pow10Tab :=
  Lib.tabIs_of_head (g := Lg.tabG) (t := 256) (e := 199) (n := 20) (rest := []) (by kernel_rfl) (by kernel_rfl) Tryz.underlying256 Tryz.underlying199 (by kernel_rfl) (by kernel_rfl) h.tail.tail
theorem noLooks : true = Tryz.pinned.checked.prog.looks [] := by kernel_rfl
end Go.Proofs.YtjenebejjamnjaaGreatDoor
