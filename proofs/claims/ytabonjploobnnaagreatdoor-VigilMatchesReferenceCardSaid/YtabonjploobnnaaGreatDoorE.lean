/- A part of the proofs of the laws of cleanselaw26: contracts of functions that the law reaches, and facts about what they compute. -/
import Derived.Test.YtabonjploobnnaaGreatDoorD
import Derived.Test.YtabonjploobnnaaGreatDoorProg
import Derived.Lib.Small
import Derived.Shelf.Abstract
import Derived.Lib.Walk
import Derived.WalkKit
import Derived.Deep.LoopGhost
import Derived.Deep.Draws
import Derived.Sort.Grow
import Derived.Deep.QuietTactic
import Derived.Shelf.SlSortCmp.NoneTotal
set_option linter.unusedVariables false
set_option linter.unusedSimpArgs false
set_option linter.unusedSectionVars false
namespace Lg
open Go Go.Proofs Go.Proofs.Tryz
abbrev keysOf (m : List (Int × Bool)) : List Int := m.map (·.1)
def factAt (s : VS) (n : Int) : GFact := (mget s.facts n).getD zFact
structure KeyP (mo : List (GTri × Bool)) (Q : GTri → Prop) : Prop where
  tr : ∀ p ∈ mo, p.2 = true
  ks : ∀ t, t ∈ mo.map (·.1) ↔ Q t
theorem KeyP.put {mo : List (GTri × Bool)} {Q Q' : GTri → Prop} (h : KeyP mo Q) (t0 : GTri) (hQ : ∀ t, Q' t ↔ Q t ∨ t = t0) : KeyP (mput mo t0 true) Q' where
  tr := by
    have key : ∀ m : List (GTri × Bool), (∀ p ∈ m, p.2 = true) → ∀ p ∈ mput m t0 true, p.2 = true := by
      intro m
      induction m with
      | nil => intro _ p hp; simp [mput] at hp; subst hp; rfl
      | cons a m ih =>
        obtain ⟨k, x⟩ := a
        intro h p hp
        by_cases e : t0 = k
        · simp only [mput, if_pos e, List.mem_cons] at hp
          rcases hp with rfl | hp
          · rfl
          · exact h p (List.mem_cons_of_mem _ hp)
        · simp only [mput, if_neg e, List.mem_cons] at hp
          rcases hp with rfl | hp
          · exact h _ (List.mem_cons_self ..)
          · exact ih (fun q hq => h q (List.mem_cons_of_mem _ hq)) p hp
    exact key mo h.tr
  ks := fun t => by
    rw [hQ, mput_keys, ← h.ks]
    split
    · rename_i hm
      constructor
      · exact .inl
      · rintro (h1 | rfl)
        · exact h1
        · exact hm
    · simp [List.mem_append]
theorem KeyP.iff {mo : List (GTri × Bool)} {Q Q' : GTri → Prop} (h : KeyP mo Q) (hQ : ∀ t, Q t ↔ Q' t) : KeyP mo Q' := ⟨h.tr, fun t => (h.ks t).trans (hQ t)⟩
theorem KeyP.nil : KeyP [] fun _ => False := ⟨fun p h => (by cases h), fun t => (by simp)⟩
def lastV (p : Gpair) : Int := 3 - p.i - p.j
abbrev prV (s : VS) (i : Nat) : Gpair := nth s.pairs i
abbrev rlV (s : VS) (i : Nat) : GRule := nth s.rules (nth s.pairs i).rule.toNat
def i2V (s : VS) (i : Nat) : Nat := ((mget s.pat ⟨(prV s i).rule, (prV s i).i, lastV (prV s i)⟩).getD 0).toNat
def QA (s : VS) (num : Int) (f : GFact) (kd : List (Int × Bool)) (t : GTri) : Prop := ∃ n ∈ keysOf kd, (f.Variant ≠ -1 ∨ (factAt s n).Variant ≠ -1) ∧ t = setM [num, n]
def QB (s : VS) (num : Int) (f : GFact) (i : Nat) (t : GTri) : Prop := ∃ q, q < i ∧ (nth s.rules q).Tables.length = 1 ∧ violV (nth s.rules q) [f] = true ∧ t = setM [num]
def At (s : VS) (f : GFact) (i : Nat) (m : Int) (at_ : List GFact) : Prop := at_.length = (rlV s i).Tables.length ∧ nth at_ (prV s i).i.toNat = f ∧ nth at_ (prV s i).j.toNat = factAt s m
def QM2 (s : VS) (f : GFact) (i : Nat) (m : Int) : Prop := ∃ at_, At s f i m at_ ∧ violV (rlV s i) at_ = true
def QM3 (s : VS) (f : GFact) (i : Nat) (m k : Int) : Prop := ∃ at_, At s f i m at_ ∧ nth at_ (lastV (prV s i)).toNat = factAt s k ∧ violV (rlV s i) at_ = true
def QC2 (s : VS) (num : Int) (f : GFact) (i : Nat) (m : Int) (ks : List Int) (t : GTri) : Prop := ∃ k ∈ ks, m ≠ k ∧ QM3 s f i m k ∧ t = setM [num, m, k]
def Q1 (s : VS) (num : Int) (f : GFact) (i : Nat) (m : Int) (t : GTri) : Prop :=
  ((rlV s i).Tables.length = 2 ∧ QM2 s f i m ∧ t = setM [num, m]) ∨ ((rlV s i).Tables.length ≠ 2 ∧ ¬ lastV (prV s i) < (prV s i).j ∧ QC2 s num f i m (keysOf (meetV s (i2V s i) f).2) t)
def QC1 (s : VS) (num : Int) (f : GFact) (i : Nat) (ms : List Int) (t : GTri) : Prop := ∃ m ∈ ms, Q1 s num f i m t
def QC (s : VS) (num : Int) (f : GFact) (i : Nat) (t : GTri) : Prop := ∃ q, q < i ∧ QC1 s num f q (keysOf (meetV s q f).2) t
def FoundP (s : VS) (num : Int) (f : GFact) (t : GTri) : Prop := QA s num f (sval s.ent f.Entity).2 t ∨ QB s num f s.rules.length t ∨ QC s num f s.pairs.length t
def QAB (s : VS) (num : Int) (f : GFact) (i : Nat) (t : GTri) : Prop := QA s num f (sval s.ent f.Entity).2 t ∨ QB s num f i t
def QABC (s : VS) (num : Int) (f : GFact) (i : Nat) (t : GTri) : Prop := QAB s num f s.rules.length t ∨ QC s num f i t
structure PatOk (s : VS) : Prop where
  at2 : ∀ i, i < s.pairs.length → (rlV s i).Tables.length = 3 → ∃ n : Nat, n < s.pairs.length ∧ n ≠ i ∧ mget s.pat ⟨(prV s i).rule, (prV s i).i, lastV (prV s i)⟩ = some (n : Int) ∧ (prV s n).rule = (prV s i).rule ∧ (prV s n).i = (prV s i).i ∧ (prV s n).j = lastV (prV s i)
theorem QA_snoc {s : VS} {num : Int} {f : GFact} {kd : List (Int × Bool)} {p : Int × Bool} (t : GTri) : QA s num f (kd ++ [p]) t ↔ QA s num f kd t ∨ ((f.Variant ≠ -1 ∨ (factAt s p.1).Variant ≠ -1) ∧ t = setM [num, p.1]) := by
  unfold QA
  simp only [List.map_append, List.map_cons, List.map_nil, List.mem_append, List.mem_singleton]
  constructor
  · rintro ⟨n, h | h, h2⟩
    · exact .inl ⟨n, h, h2⟩
    · subst h; exact .inr h2
  · rintro (⟨n, h, h2⟩ | h2)
    · exact ⟨n, .inl h, h2⟩
    · exact ⟨p.1, .inr rfl, h2⟩
theorem QB_succ {s : VS} {num : Int} {f : GFact} {i : Nat} (t : GTri) : QB s num f (i + 1) t ↔ QB s num f i t ∨ ((nth s.rules i).Tables.length = 1 ∧ violV (nth s.rules i) [f] = true ∧ t = setM [num]) := by
  unfold QB
  constructor
  · rintro ⟨q, h, h2⟩
    by_cases e : q = i
    · subst e; exact .inr h2
    · exact .inl ⟨q, by omega, h2⟩
  · rintro (⟨q, h, h2⟩ | h2)
    · exact ⟨q, by omega, h2⟩
    · exact ⟨i, by omega, h2⟩
theorem QC_succ {s : VS} {num : Int} {f : GFact} {i : Nat} (t : GTri) : QC s num f (i + 1) t ↔ QC s num f i t ∨ QC1 s num f i (keysOf (meetV s i f).2) t := by
  unfold QC
  constructor
  · rintro ⟨q, h, h2⟩
    by_cases e : q = i
    · subst e; exact .inr h2
    · exact .inl ⟨q, by omega, h2⟩
  · rintro (⟨q, h, h2⟩ | h2)
    · exact ⟨q, by omega, h2⟩
    · exact ⟨i, by omega, h2⟩
theorem QC1_snoc {s : VS} {num : Int} {f : GFact} {i : Nat} {kd : List (Int × Bool)} {p : Int × Bool} (t : GTri) : QC1 s num f i (keysOf (kd ++ [p])) t ↔ QC1 s num f i (keysOf kd) t ∨ Q1 s num f i p.1 t := by
  unfold QC1
  simp only [List.map_append, List.map_cons, List.map_nil, List.mem_append, List.mem_singleton]
  constructor
  · rintro ⟨n, h | h, h2⟩
    · exact .inl ⟨n, h, h2⟩
    · subst h; exact .inr h2
  · rintro (⟨n, h, h2⟩ | h2)
    · exact ⟨n, .inl h, h2⟩
    · exact ⟨p.1, .inr rfl, h2⟩
theorem QC2_snoc {s : VS} {num : Int} {f : GFact} {i : Nat} {m : Int} {kd : List (Int × Bool)} {p : Int × Bool} (t : GTri) : QC2 s num f i m (keysOf (kd ++ [p])) t ↔ QC2 s num f i m (keysOf kd) t ∨ (m ≠ p.1 ∧ QM3 s f i m p.1 ∧ t = setM [num, m, p.1]) := by
  unfold QC2
  simp only [List.map_append, List.map_cons, List.map_nil, List.mem_append, List.mem_singleton]
  constructor
  · rintro ⟨n, h | h, h2⟩
    · exact .inl ⟨n, h, h2⟩
    · subst h; exact .inr h2
  · rintro (⟨n, h, h2⟩ | h2)
    · exact ⟨n, .inl h, h2⟩
    · exact ⟨p.1, .inr rfl, h2⟩
theorem QC1_nil {s : VS} {num : Int} {f : GFact} {i : Nat} {t : GTri} : ¬ QC1 s num f i [] t := by rintro ⟨m, h, _⟩; cases h
theorem QC1_keys {s : VS} {num : Int} {f : GFact} {i : Nat} {a b : List (Int × Bool)} (h : ∀ p, p ∈ a ↔ p ∈ b) (t : GTri) : QC1 s num f i (keysOf a) t ↔ QC1 s num f i (keysOf b) t := by
  have e : ∀ m, m ∈ keysOf a ↔ m ∈ keysOf b := fun m => by simp only [List.mem_map, h]
  unfold QC1; simp only [e]
theorem QC2_keys {s : VS} {num : Int} {f : GFact} {i : Nat} {m : Int} {a b : List (Int × Bool)} (h : ∀ p, p ∈ a ↔ p ∈ b) (t : GTri) : QC2 s num f i m (keysOf a) t ↔ QC2 s num f i m (keysOf b) t := by
  have e : ∀ m, m ∈ keysOf a ↔ m ∈ keysOf b := fun m => by simp only [List.mem_map, h]
  unfold QC2; simp only [e]
theorem QA_keys {s : VS} {num : Int} {f : GFact} {a b : List (Int × Bool)} (h : ∀ p, p ∈ a ↔ p ∈ b) (t : GTri) : QA s num f a t ↔ QA s num f b t := by
  have e : ∀ m, m ∈ keysOf a ↔ m ∈ keysOf b := fun m => by simp only [List.mem_map, h]
  unfold QA; simp only [e]
theorem ext_at {a b : List GFact} (hl : a.length = b.length) (h : ∀ i, i < a.length → nth a i = nth b i) : a = b := by
  apply List.ext_getElem hl
  intro i h1 h2
  have := h i h1
  rwa [nth_get h1, nth_get h2] at this
theorem At.two {s : VS} {f : GFact} {i : Nat} {m : Int} {a b : List GFact} (hp : PairOk s.rules (prV s i)) (h2 : (rlV s i).Tables.length = 2) (ha : At s f i m a) (hb : At s f i m b) : a = b := by
  refine ext_at (ha.1.trans hb.1.symm) fun q hq => ?_
  rw [ha.1, h2] at hq
  have h0 := hp.i0; have h1 := hp.i1; have h3 := hp.j0; have h4 := hp.j1; have h5 := hp.ij
  have e : (nth s.rules (prV s i).rule.toNat).Tables.length = 2 := h2
  rw [e] at h1 h4
  by_cases hqi : q = (prV s i).i.toNat
  · rw [hqi, ha.2.1, hb.2.1]
  · have hqj : q = (prV s i).j.toNat := by omega
    rw [hqj, ha.2.2, hb.2.2]
theorem At.three {s : VS} {f : GFact} {i : Nat} {m k : Int} {a b : List GFact} (hp : PairOk s.rules (prV s i)) (h2 : (rlV s i).Tables.length = 3) (ha : At s f i m a) (hb : At s f i m b) (ka : nth a (lastV (prV s i)).toNat = factAt s k) (kb : nth b (lastV (prV s i)).toNat = factAt s k) : a = b := by
  refine ext_at (ha.1.trans hb.1.symm) fun q hq => ?_
  rw [ha.1, h2] at hq
  have h0 := hp.i0; have h1 := hp.i1; have h3 := hp.j0; have h4 := hp.j1; have h5 := hp.ij
  have e : (nth s.rules (prV s i).rule.toNat).Tables.length = 3 := h2
  rw [e] at h1 h4
  by_cases hqi : q = (prV s i).i.toNat
  · rw [hqi, ha.2.1, hb.2.1]
  · by_cases hqj : q = (prV s i).j.toNat
    · rw [hqj, ha.2.2, hb.2.2]
    · have hql : q = (lastV (prV s i)).toNat := by unfold lastV; omega
      rw [hql, ka, kb]
/-- Split off what is held under a key, if there is one. -/
def svalO (q : SetL Gkey) (o : Option Gkey) : Value × List (Int × Bool) := match o with | none => (.map none, []) | some k => sval q k
def hremO (q : SetL Gkey) (o : Option Gkey) : SetL Gkey := match o with | none => q | some k => hrem q k
theorem setsO_split (o : Option Gkey) {q : SetL Gkey} {L : List SP} : LSub (setsO q :: L) (setO (svalO q o).1 (svalO q o).2 :: setsO (hremO q o) :: L) := by
  cases o with
  | none => exact mapD.nil
  | some k => exact sets_split k
theorem setsO_back (o : Option Gkey) {q : SetL Gkey} {L : List SP} : LSub (setO (svalO q o).1 (svalO q o).2 :: setsO (hremO q o) :: L) (setsO q :: L) := by
  cases o with
  | none => exact mapD.unnil
  | some k => exact sets_back k
theorem hval_hrem {k j : Gkey} (h : j ≠ k) : ∀ q : SetL Gkey, sval (hrem q k) j = sval q j
  | [] => rfl
  | (a, v, xs) :: q => by
    by_cases hk : k = a
    · subst hk; simp [hrem, sval, hval, h]
    · by_cases hj : j = a
      · subst hj; simp [hrem, sval, hval, hk]
      · simp only [hrem, if_neg hk, sval, hval, if_neg hj]; exact hval_hrem h q
theorem svalO_hremO {o1 o2 : Option Gkey} (h : ∀ k1 k2, o1 = some k1 → o2 = some k2 → k2 ≠ k1) (q : SetL Gkey) : svalO (hremO q o1) o2 = svalO q o2 := by
  cases o1 with
  | none => rfl
  | some k1 => cases o2 with
    | none => rfl
    | some k2 => exact hval_hrem (h k1 k2 rfl rfl) q
abbrev kO (s : VS) (n : Nat) (f : GFact) : Option Gkey := keyV s.rules s.pairs 0 n f
theorem meetV_eq (s : VS) (n : Nat) (f : GFact) : meetV s n f = svalO s.idx (kO s n f) := by
  unfold meetV kO svalO
  cases keyV s.rules s.pairs 0 n f <;> rfl
theorem keyV_pair {rules : List GRule} {pairs : List Gpair} {z n : Nat} {f : GFact} {k : Gkey} (h : keyV rules pairs z n f = some k) : k.pair = n := by
  unfold keyV at h
  by_cases hc : f.Table = nth (nth rules (nth pairs n).rule.toNat).Tables (if z = 0 then (nth pairs n).i else (nth pairs n).j).toNat ∧ txOk f (nth pairs n).cols z = true
  · rw [if_pos hc] at h
    rw [← Option.some.inj h]
  · rw [if_neg hc] at h; cases h
theorem kO_ne {s : VS} {a b : Nat} {f : GFact} (h : a ≠ b) : ∀ k1 k2, kO s a f = some k1 → kO s b f = some k2 → k2 ≠ k1 := by
  intro k1 k2 h1 h2 e
  have e1 := keyV_pair h1
  have e2 := keyV_pair h2
  rw [e, e1] at e2; omega
theorem QM2_iff {s : VS} {f : GFact} {i : Nat} {m : Int} {a : List GFact} (hp : PairOk s.rules (prV s i)) (h2 : (rlV s i).Tables.length = 2) (ha : At s f i m a) : QM2 s f i m ↔ violV (rlV s i) a = true :=
  ⟨fun ⟨b, hb, hv⟩ => by rw [At.two hp h2 ha hb]; exact hv, fun hv => ⟨a, ha, hv⟩⟩
theorem QM3_iff {s : VS} {f : GFact} {i : Nat} {m k : Int} {a : List GFact} (hp : PairOk s.rules (prV s i)) (h2 : (rlV s i).Tables.length = 3) (ha : At s f i m a) (ka : nth a (lastV (prV s i)).toNat = factAt s k) : QM3 s f i m k ↔ violV (rlV s i) a = true :=
  ⟨fun ⟨b, hb, kb, hv⟩ => by rw [At.three hp h2 ha hb ka kb]; exact hv, fun hv => ⟨a, ha, ka, hv⟩⟩
theorem At.set {s : VS} {f : GFact} {i : Nat} {m : Int} {a : List GFact} (hp : PairOk s.rules (prV s i)) (hl : a.length = (rlV s i).Tables.length) (hi : nth a (prV s i).i.toNat = f) : At s f i m (a.set (prV s i).j.toNat (factAt s m)) := by
  have h0 := hp.i0; have h1 := hp.i1; have h3 := hp.j0; have h4 := hp.j1; have h5 := hp.ij
  have e : a.length = (nth s.rules (prV s i).rule.toNat).Tables.length := hl
  refine ⟨by rw [List.length_set]; exact hl, ?_, ?_⟩
  · rw [nth_set (by omega), if_neg (by omega)]; exact hi
  · rw [nth_set (by omega), if_pos rfl]
theorem At.setL {s : VS} {f : GFact} {i : Nat} {m k : Int} {a : List GFact} (hp : PairOk s.rules (prV s i)) (h3' : (rlV s i).Tables.length = 3) (ha : At s f i m a) : At s f i m (a.set (lastV (prV s i)).toNat (factAt s k)) ∧ nth (a.set (lastV (prV s i)).toNat (factAt s k)) (lastV (prV s i)).toNat = factAt s k := by
  have h0 := hp.i0; have h1 := hp.i1; have h3 := hp.j0; have h4 := hp.j1; have h5 := hp.ij
  have e : (nth s.rules (prV s i).rule.toNat).Tables.length = 3 := h3'
  have hl := ha.1
  rw [h3'] at hl
  have hlast : lastV (prV s i) = 3 - (prV s i).i - (prV s i).j := rfl
  refine ⟨⟨by rw [List.length_set]; exact ha.1, ?_, ?_⟩, ?_⟩
  · rw [nth_set (by omega), if_neg (by omega)]; exact ha.2.1
  · rw [nth_set (by omega), if_neg (by omega)]; exact ha.2.2
  · rw [nth_set (by omega), if_pos rfl]
abbrev row0 (s : VS) (f : GFact) (i : Nat) : List GFact := (List.replicate (rlV s i).Tables.length zFact).set (prV s i).i.toNat f
set_option maxHeartbeats 4000000 in
theorem found_spec (b : Nat) (s : VS) (num : Int) (f : GFact) (ho : RulesOk s.rules s.pairs) (hpt : PatOk s) : Spec (X := { z : Nat × List (GTri × Bool) // KeyP z.2 (FoundP s num f) }) prog 40 [tAt b 0, tV (.int .i64 num), rFact.ty f] ([vB b s, vI s, vP s, vF s, vE s, vS s, vX s]) (fun z => tV (.map (some z.1.1))) (fun z => [vB b s, vI s, vP s, vF s, vE s, vS s, vX s, mapD kvT rBool (.map (some z.1.1)) z.1.2]) := by
 refine Spec.enter func40 rfl rfl fun h0 w0 fr0 => ?_
 have hrl := ho.rl
 have hpl := ho.pl
 refine Jr (Js rfl (step_box (R := rFact) Sr) (Ja rfl (JL_nil (Jr ?_))))
 refine Jx rfl (step_makeMapD (kv := kvT) (R := rBool)) fun v18 => ?_
 refine Ja rfl (JL_nil (J_seq (J_seq ?_)))
 refine K_view (kv := kvI) (R := rV) (A := vE s) zS mapD.view fun _ _ _ => ?_
 refine K_lsub (L' := [setO (sval s.ent f.Entity).1 (sval s.ent f.Entity).2, setsO (hrem s.ent f.Entity), vB b s, vI s, vP s, vF s, vE s, vX s, mapD kvT rBool (.map (some v18)) []]) (LSub.trans (LSub.cons (A := vS s) zS SPs.rfl zL) (sets_split f.Entity)) ?_
 refine K_view (kv := kvI) (R := rBool) (A := setO (sval s.ent f.Entity).1 (sval s.ent f.Entity).2) zS mapD.view fun hkA _ _ => ?_
 refine J_draw [⟨0, [0], true⟩, ⟨1, [19], true⟩, ⟨2, [20], true⟩, ⟨4, [5], true⟩, ⟨5, [23], true⟩, ⟨3, [21], false⟩, ⟨6, [22, 24], false⟩, ⟨7, [25], false⟩] rfl (by kernel_rfl) ?_
 refine Mv rfl rfl (Mf rfl rfl (step_nilCheck Sr) (Mf rfl rfl (step_fieldAddr_own so69 Sr rfl) (Mf rfl rfl (step_fieldAddr so35 Sr rfl) (Mf rfl rfl (step_load_ptr ty3 Sr) ?_))))
 refine JM_look rfl rfl rfl rfl (step_load_fld ty64 Sr rfl zS) ?_
 refine JM_look rfl rfl rfl rfl (step_lookupS (kv := kvI) (q := s.ent) (KeyT.int underlying3) underlying64 (fun w => zeroValue82 w) Sub.ofRV Sr zS) ?_
 refine JM_stepX rfl rfl rfl rfl (step_rangeD (kv := kvI) (R := rBool) underlying82 Sr zS) fun v26 => ?_
 refine JM_nil (J_block ?_)
 refine J_loopL (σ := List (Int × Bool) × List (GTri × Bool)) (fun ⟨kd, mo⟩ => RanI (sval s.ent f.Entity).2 kd ∧ KeyP mo (QA s num f kd)) (fun ⟨kd, mo⟩ => upd (upd (upd (upd (upd env0 0 (tAt b 0)) 1 (tV (.int .i64 num))) 5 (tPtr rFact f)) 7 (tV (.map (some v18)))) 26 (tAt v26 0)) (fun ⟨kd, mo⟩ => [ranD kvI rBool v26 (sval s.ent f.Entity).1 (sval s.ent f.Entity).2 (kd.map (·.1)) none, setsO (hrem s.ent f.Entity), vB b s, vI s, vP s, vF s, vE s, vX s, mapD kvT rBool (.map (some v18)) mo]) (fun ⟨kd, mo⟩ => (sval s.ent f.Entity).2.length - kd.length) ([], []) ⟨RanI.start, KeyP.nil.iff fun t => by simp [QA]⟩ (zU) (zL) ?_
 rintro ⟨kd, mo⟩ ⟨hI, hK⟩
 refine Jr ?_
 refine Jx rfl (step_nextD (kv := kvI) (R := rBool) rfl Sr zS) fun o1 => ?_
 refine Js rfl (step_extract_next Sr) (JL_nil (J_seq ?_))
 refine J_cond Sr (fun h28 => ?_) (fun h28 => ?_)
 ·
  try simp only [NF] at h28
  obtain ⟨o1, hoo1⟩ := o1
  obtain ⟨⟨pko1, pvo1⟩, rfl⟩ : ∃ p, o1 = some p := by cases o1 with | none => simp at h28 | some p => exact ⟨p, rfl⟩
  dsimp only at hoo1
  have hI2 := hI.next hoo1
  have hln := hI2.len
  simp only [List.length_append, List.length_singleton] at hln
  refine J_skip (J_block (Jr ?_))
  refine Js rfl (step_entryD (kv := kvI) (R := rBool) Sr zS) ?_
  refine Js rfl (step_extract Sr rfl) (Ja rfl (JL_nil (Jr (Js rfl (step_fieldAddr so35 Sr rfl) (Jl rfl ty3 Sr ?_)))))
  refine Js rfl (step_neq Sr Sr) (Jm rfl ?_)
  refine Jk rfl Sr rfl (step_move Sr) ?_
  refine Jg rfl Sr rfl (fun hw => step_nilCheck (Sub.w hw)) (Jg rfl Sr rfl (fun hw => step_fieldAddr_own so69 (Sub.w hw) rfl) ?_)
  refine Jg rfl Sr rfl (fun hw => step_load_fld ty63 (Sub.w hw) rfl zS) ?_
  refine Jk rfl Sr rfl (step_move Sr) ?_
  refine Jg rfl Sr rfl (fun hw => step_lookupD (kv := kvI) (R := rFact) (KeyT.int underlying3) underlying63 (fun w => zeroValue35 w) zr35 (Sub.trans (Sub.w hw) Sub.ofRV) (Sub.w hw) mapD.view zS) ?_
  refine Jg rfl Sr rfl (fun hw => step_field so35 (Sub.w hw) rfl) (Jg rfl Sr rfl (fun hw => step_neq (Sub.w hw) Sr) (Js rfl (step_pick_or Sr Sr) (JL_nil ?_)))
  refine J_cond Sr (fun h43 => ?_) (fun h43 => ?_)
  ·
   try simp only [NF] at h43
   refine J_region (Jm rfl (Jm rfl (Jm rfl ?_)))
   refine Jx rfl (step_literal_own (ys := [num, pko1]) underlying33 el3 ⟨rfl, Sr, rfl, Sr, trivial⟩ rfl (by decide)) fun v47 => ?_
   refine Jx rfl (step_call zS (setV_spec v47 [num, pko1] (by simp) (by simp)) ⟨Sr, trivial⟩ call64) fun v48 => ?_
   refine Ju (step_mapUpdateD (kv := kvT) (R := rBool) key77 underlying66 Sr Sub.tri Sr zS) fun _ => ?_
   refine JL_nil ?_
   refine K_drop (Sel.skip (Sel.take (Sel.none _))) ?_
   refine K_againL (σ := List (Int × Bool) × List (GTri × Bool)) (s := (kd, mo)) (kd ++ [(pko1, pvo1)], mput mo (setM [num, pko1]) true) (by simp only [List.length_append, List.length_singleton]; omega) ⟨hI2, hK.put _ fun t => by rw [QA_snoc]; simp only [show (f.Variant ≠ -1 ∨ (factAt s pko1).Variant ≠ -1) from h43, true_and]⟩ (zU) (LSub.cons (A := ranD kvI rBool v26 (sval s.ent f.Entity).1 (sval s.ent f.Entity).2 (kd.map (·.1) ++ [pko1]) (some (pko1, pvo1))) zS (ran_snoc (p := (pko1, pvo1))) zL)
  try simp only [NF] at h43
  refine J_skip ?_
  refine K_againL (σ := List (Int × Bool) × List (GTri × Bool)) (s := (kd, mo)) (kd ++ [(pko1, pvo1)], mo) (by simp only [List.length_append, List.length_singleton]; omega) ⟨hI2, hK.iff fun t => by rw [QA_snoc]; simp only [show ¬ (f.Variant ≠ -1 ∨ (factAt s pko1).Variant ≠ -1) by (rintro (q | q)); exact q h43.1; exact q h43.2, false_and, or_false]⟩ (zU) (LSub.cons (A := ranD kvI rBool v26 (sval s.ent f.Entity).1 (sval s.ent f.Entity).2 (kd.map (·.1) ++ [pko1]) (some (pko1, pvo1))) zS (ran_snoc (p := (pko1, pvo1))) zL)
 try simp only [NF] at h28
 obtain ⟨o1, hoo1⟩ := o1
 obtain rfl : o1 = none := by cases o1 with | none => rfl | some p => simp at h28
 dsimp only at hoo1
 have hKA := hK.iff (QA_keys (hI.all hkA hoo1))
 refine K_lsub (L' := [junk, vB b s, vI s, vP s, vF s, vE s, vS s, vX s, mapD kvT rBool (.map (some v18)) mo]) (LSub.trans ran_end (LSub.trans (B := [setO (sval s.ent f.Entity).1 (sval s.ent f.Entity).2, setsO (hrem s.ent f.Entity), junk, vB b s, vI s, vP s, vF s, vE s, vX s, mapD kvT rBool (.map (some v18)) mo]) zL (LSub.trans (sets_back f.Entity) zL))) ?_
 refine K_drop (Sel.take (Sel.none _)) ?_
 refine J_exit (J_seq (Jr (Jm rfl (Js rfl (step_nilCheck Sr) (Js rfl (step_fieldAddr_own so69 Sr rfl) ?_)))))
 refine Js rfl (step_load_fld ty22 Sr rfl zS) ?_
 refine Js rfl (step_len_sl underlying22 Sr) (Jm rfl (JL_nil (J_block ?_)))
 refine J_loopL (σ := Nat × List (GTri × Bool)) (fun ⟨i, mo⟩ => i ≤ s.rules.length ∧ KeyP mo (QAB s num f i)) (fun ⟨i, mo⟩ => upd (upd (upd (upd (upd (upd (upd env0 0 (tAt b 0)) 1 (tV (.int .i64 num))) 5 (tPtr rFact f)) 7 (tV (.map (some v18)))) 52 (tSl rRule s.rules)) 53 (tV (.int .i64 (s.rules.length : Int)))) 54 (tV (.int .i64 (i : Int)))) (fun ⟨i, mo⟩ => [vB b s, vI s, vP s, vF s, vE s, vS s, vX s, mapD kvT rBool (.map (some v18)) mo]) (fun ⟨i, mo⟩ => s.rules.length - i) (0, mo) ⟨by omega, hKA.iff fun t => by simp [QAB, QB]⟩ (zU) (zL) ?_
 rintro ⟨i, mo⟩ ⟨hi, hK⟩
 refine Jr (Js rfl (step_lss Sr Sr) (JL_nil (J_seq ?_)))
 refine J_cond Sr (fun h55 => ?_) (fun h55 => ?_)
 ·
  try simp only [NF] at h55
  have hlt : i < s.rules.length := by omega
  refine J_skip (J_seq (J_block (Jr ?_)))
  refine Js rfl (step_indexAddr_sl  underlying22 ty59 Sr Sr rfl (gb (by show i < s.rules.length; exact hlt))) ?_
  refine Jl rfl ty59 Sr ?_
  refine Jx rfl (step_alloc (fun w => zeroValue59 w) zr59) fun v10 => ?_
  refine Ju (step_store_box ty59 Sr Sr zS) fun _ => ?_
  refine JL_freeze (t := 10) (Sel.take (Sel.none _)) Frz.box ?_
  refine JL_nil (Jr (Js rfl (step_fieldAddr so59 Sr rfl) (Jl rfl ty33 Sr (Js rfl (step_len_sl underlying33 Sr) (Js rfl (step_eql Sr Sr) ?_)))))
  refine Jm rfl ?_
  refine Jk rfl Sr rfl (step_load_ptr ty59 Sr) ?_
  refine Jk rfl Sr rfl (step_load_ptr ty35 Sr) ?_
  refine Jg rfl Sr rfl (fun hw => step_literal (ys := [f]) underlying41 el35 ⟨rfl, (Sub.w hw), trivial⟩ rfl (by decide)) ?_
  refine Jg rfl Sr rfl (fun hw => step_call0 (violV_spec (nth s.rules i) [f] (by have h67 := bq_true hw; simp only [decide_eq_true_eq] at h67; show 1 ≤ (nth s.rules i).Tables.length; omega) (by simp) (by have := (ho.tab _ (nth_mem hlt)).2.2; omega)) ⟨(Sub.w hw), (Sub.w hw), trivial⟩ call65) ?_
  refine Js rfl (step_pick_and Sr Sr) (JL_nil ?_)
  refine J_cond Sr (fun h67 => ?_) (fun h67 => ?_)
  ·
   try simp only [NF] at h67
   refine J_region (Jm rfl (Jm rfl ?_))
   refine Jx rfl (step_literal_own (ys := [num]) underlying33 el3 ⟨rfl, Sr, trivial⟩ rfl (by decide)) fun v70 => ?_
   refine Jx rfl (step_call zS (setV_spec v70 [num] (by simp) (by simp)) ⟨Sr, trivial⟩ call64) fun v71 => ?_
   refine Ju (step_mapUpdateD (kv := kvT) (R := rBool) key77 underlying66 Sr Sub.tri Sr zS) fun _ => ?_
   refine JL_nil (J_region (Js rfl (step_add Sr Sr z6) (Jm rfl (JL_nil ?_))))
   refine K_drop (Sel.skip (Sel.take (Sel.none _))) ?_
   refine K_againL (σ := Nat × List (GTri × Bool)) (s := (i, mo)) (i + 1, mput mo (setM [num]) true) zO ?_ (SubE.upd (Sub.int (by simp)) (zU)) (zL)
   refine ⟨by omega, hK.put _ fun t => ?_⟩
   have h1 : (nth s.rules i).Tables.length = 1 := by have := h67.1; omega
   simp only [QAB, QB_succ, h1, h67.2, true_and, or_assoc]
  try simp only [NF] at h67
  refine J_skip (J_region (Js rfl (step_add Sr Sr z6) (Jm rfl (JL_nil ?_))))
  refine K_againL (σ := Nat × List (GTri × Bool)) (s := (i, mo)) (i + 1, mo) zO ?_ (SubE.upd (Sub.int (by simp)) (zU)) (zL)
  refine ⟨by omega, hK.iff fun t => ?_⟩
  simp only [QAB, QB_succ]
  rcases h67 with q | q
  ·
   have h1 : ¬ (nth s.rules i).Tables.length = 1 := by intro e; exact q zG
   simp [h1]
  simp [q]
 try simp only [NF] at h55
 obtain rfl : i = s.rules.length := by omega
 refine J_exit (J_seq (Jr (Jm rfl (Js rfl (step_nilCheck Sr) (Js rfl (step_fieldAddr_own so69 Sr rfl) ?_)))))
 refine Js rfl (step_load_fld ty67 Sr rfl zS) ?_
 refine Js rfl (step_len_sl underlying67 Sr) (Jm rfl (JL_nil (J_block ?_)))
 refine J_loopL (σ := Nat × List (GTri × Bool)) (fun ⟨i, mo⟩ => i ≤ s.pairs.length ∧ KeyP mo (QABC s num f i)) (fun ⟨i, mo⟩ => upd (upd (upd (upd (upd (upd (upd env0 0 (tAt b 0)) 1 (tV (.int .i64 num))) 5 (tPtr rFact f)) 7 (tV (.map (some v18)))) 76 (tSl rpair s.pairs)) 77 (tV (.int .i64 (s.pairs.length : Int)))) 78 (tV (.int .i64 (i : Int)))) (fun ⟨i, mo⟩ => [vB b s, vI s, vP s, vF s, vE s, vS s, vX s, mapD kvT rBool (.map (some v18)) mo]) (fun ⟨i, mo⟩ => s.pairs.length - i) (0, mo) ⟨by omega, hK.iff fun t => by simp [QABC, QC]⟩ (zU) (zL) ?_
 rintro ⟨i, mo⟩ ⟨hi, hK⟩
 refine Jr (Js rfl (step_lss Sr Sr) (JL_nil (J_seq ?_)))
 refine J_cond Sr (fun h79 => ?_) (fun h79 => ?_)
 ·
  try simp only [NF] at h79
  have hlt : i < s.pairs.length := by omega
  have hp := ho.prs (prV s i) (nth_mem hlt)
  have hrt : (prV s i).rule.toNat < s.rules.length := by have := hp.r1; have := hp.r0; omega
  have hT := ho.tab (rlV s i) (nth_mem hrt)
  have hpi0 := hp.i0; have hpi1 : (prV s i).i < ((rlV s i).Tables.length : Int) := hp.i1; have hpj0 := hp.j0; have hpj1 : (prV s i).j < ((rlV s i).Tables.length : Int) := hp.j1; have hpij := hp.ij
  refine J_skip (J_seq (J_block (Jr (Jm rfl ?_))))
  refine Js rfl (step_indexAddr_sl  underlying67 ty75 Sr Sr rfl (gb (by show i < s.pairs.length; exact hlt))) ?_
  refine Jl rfl ty75 Sr ?_
  refine Jx rfl (step_alloc (fun w => zeroValue75 w) zr75) fun v12 => ?_
  refine Ja rfl ?_
  refine Ju (step_store_box ty75 Sr Sr zS) fun _ => ?_
  refine JL_freeze (t := 12) (Sel.take (Sel.none _)) Frz.box ?_
  refine JL_nil (J_seq ?_)
  refine J_drawZ [vB b s] [⟨0, [0], 0⟩, ⟨1, [83], 0⟩, ⟨2, [84], 0⟩, ⟨3, [85], 1⟩, ⟨4, [12], 0⟩, ⟨5, [87], 0⟩, ⟨6, [86, 88], 0⟩, ⟨7, [89], 0⟩] [⟨8, [], 13, SP.emp, fun v => tAt (vN v) 0, fun v => box (vN v) 59 rRule zRule⟩] [⟨9, [13, 90], 2⟩] (L := [vI s, vP s, vF s, vE s, vS s, vX s, mapD kvT rBool (.map (some v18)) mo]) (LSub.trans LSub.emp zL) rfl (by kernel_rfl) (Nat.le_of_ble_eq_true rfl) ?_
  refine JF_step rfl rfl rfl rfl (fun _ => step_move Sr) ?_
  refine JF_step rfl rfl rfl rfl (fun _ => step_nilCheck Sr) ?_
  refine JF_step rfl rfl rfl rfl (fun _ => step_fieldAddr_own so69 Sr rfl) ?_
  refine JF_look rfl rfl rfl rfl (fun _ => step_load_fld ty22 Sr rfl zS) ?_
  refine JF_step rfl rfl rfl rfl (fun _ => step_fieldAddr so75 Sr rfl) ?_
  refine JF_step rfl rfl rfl rfl (fun _ => step_load_ptr ty3 Sr) ?_
  refine JF_step rfl rfl rfl rfl (fun _ => step_indexAddr_sl (i := (prV s i).rule.toNat) underlying22 ty59 Sr Sr (by have := hp.r0; show (prV s i).rule = _; omega) (gb (by have := hp.r1; have := hp.r0; show _ < s.rules.length; omega))) ?_
  refine JF_step rfl rfl rfl rfl (fun _ => step_load_ptr ty59 Sr) ?_
  refine JF_nil ?_
  refine ⟨⟨_, rfl, rfl, rfl, rfl, fun _ => by refine Step.empty ?_; exact Step.emb ptrV (step_alloc (fun w => zeroValue59 w) zr59) (fun _ => rfl) (fun _ => rfl)⟩, fun v13 => ?_⟩
  refine upP_in ?_
  refine JX_stepU rfl rfl rfl (step_store_box ty59 Sr Sr zS) fun _ => ?_
  refine JX_nil ?_
  refine K_freeze (S := [box (vN v13) 59 rRule (rlV s i)]) (t := 13) zS Frz.box ?_
  refine Jr (Js rfl (step_fieldAddr so59 Sr rfl) (Jl rfl ty33 Sr (Js rfl (step_len_sl underlying33 Sr) ?_)))
  refine Jx rfl (step_make underlying41 el35 Sr Sr rfl (by have := hT.2.1; show 80 * (rlV s i).Tables.length ≤ _; omega) (by have := hT.2.1; show (rlV s i).Tables.length ≤ _; omega)) fun v94 => ?_
  refine Ja rfl (JL_nil (Jr (Jm rfl (Js rfl (step_fieldAddr so75 Sr rfl) (Jl rfl ty3 Sr ?_)))))
  refine Jl rfl ty35 Sr ?_
  refine Js rfl (step_indexAddr_own (i := (prV s i).i.toNat) underlying41 ty35 Sr zS Sr (by have := hp.i0; show (prV s i).i = _; omega) (by rw [List.length_replicate]; show (prV s i).i.toNat < (rlV s i).Tables.length; omega)) ?_
  refine Ju (step_store_own ty35 Sr Sr zS (by rw [List.length_replicate]; show (prV s i).i.toNat < (rlV s i).Tables.length; omega)) fun _ => ?_
  refine JL_nil ?_
  refine K_view (kv := kvK) (R := rV) (A := vI s) zS mapD.view fun _ _ _ => ?_
  refine K_lsub (L' := [vB b s, vI s, setO (meetV s i f).1 (meetV s i f).2, setsO (hremO s.idx (kO s i f)), vP s, vF s, vE s, vS s, mapD kvT rBool (.map (some v18)) mo, own 35 rFact v94 (row0 s f i)]) (LSub.trans (B := [vX s, vB b s, vI s, vP s, vF s, vE s, vS s, mapD kvT rBool (.map (some v18)) mo, own 35 rFact v94 (row0 s f i)]) zL (LSub.trans (setsO_split (kO s i f)) (LSub.cons zS SPs.rfl (LSub.cons zS SPs.rfl (LSub.cons (A := setO (svalO s.idx (kO s i f)).1 (svalO s.idx (kO s i f)).2) zS (SPs.of (by rw [meetV_eq])) zL))))) ?_
  refine K_view (kv := kvI) (R := rBool) (A := setO (meetV s i f).1 (meetV s i f).2) zS mapD.view fun hkC _ _ => ?_
  refine Jr (Jm rfl (Jm rfl (Jl rfl ty35 Sr ?_)))
  refine Jx rfl (step_call (.take (.take (.none _))) (meeting_spec b s i f hlt ho) ⟨Sr, Sr, Sr, trivial⟩ call39) fun v103 => ?_
  refine Jx rfl (step_rangeD (kv := kvI) (R := rBool) underlying82 Sr zS) fun v104 => ?_
  refine JL_nil (J_block ?_)
  refine J_loopL (σ := List (Int × Bool) × List (GTri × Bool) × List GFact) (fun ⟨kd, mo, at_⟩ => RanI (meetV s i f).2 kd ∧ KeyP mo (fun t => QABC s num f i t ∨ QC1 s num f i (keysOf kd) t) ∧ at_.length = (rlV s i).Tables.length ∧ nth at_ (prV s i).i.toNat = f) (fun ⟨kd, mo, at_⟩ => upd (upd (upd (upd (upd (upd (upd (upd (upd (upd (upd env0 0 (tAt b 0)) 1 (tV (.int .i64 num))) 5 (tPtr rFact f)) 7 (tV (.map (some v18)))) 12 (tPtr rpair (prV s i))) 13 (tPtr rRule (rlV s i))) 14 (rV.ty v94)) 76 (tSl rpair s.pairs)) 77 (tV (.int .i64 (s.pairs.length : Int)))) 78 (tV (.int .i64 (i : Int)))) 104 (tAt v104 0)) (fun ⟨kd, mo, at_⟩ => [ranD kvI rBool v104 (meetV s i f).1 (meetV s i f).2 (kd.map (·.1)) none, setsO (hremO s.idx (kO s i f)), vB b s, vI s, vP s, vF s, vE s, vS s, mapD kvT rBool (.map (some v18)) mo, own 35 rFact v94 at_]) (fun ⟨kd, mo, at_⟩ => (meetV s i f).2.length - kd.length) ([], mo, row0 s f i) ⟨RanI.start, hK.iff fun t => by simp [QC1_nil], by rw [row0, List.length_set, List.length_replicate], by rw [row0, nth_set (by rw [List.length_replicate]; show _ < (rlV s i).Tables.length; omega), if_pos rfl]⟩ (zU) (zL) ?_
  rintro ⟨kd, mo, at_⟩ ⟨hI, hK, hal, hai⟩
  refine Jr ?_
  refine Jx rfl (step_nextD (kv := kvI) (R := rBool) rfl Sr zS) fun o3 => ?_
  refine Js rfl (step_extract_next Sr) (JL_nil (J_seq ?_))
  refine J_cond Sr (fun h106 => ?_) (fun h106 => ?_)
  ·
   try simp only [NF] at h106
   obtain ⟨o3, hoo3⟩ := o3
   obtain ⟨⟨pko3, pvo3⟩, rfl⟩ : ∃ p, o3 = some p := by cases o3 with | none => simp at h106 | some p => exact ⟨p, rfl⟩
   dsimp only at hoo3
   have hI2 := hI.next hoo3
   have hln := hI2.len
   simp only [List.length_append, List.length_singleton] at hln
   have hat := At.set (m := pko3) hp hal hai
   refine J_skip (J_block (Jr ?_))
   refine Js rfl (step_entryD (kv := kvI) (R := rBool) Sr zS) ?_
   refine Js rfl (step_extract Sr rfl) (Ja rfl (JL_nil (J_seq ?_)))
   refine J_draw [⟨0, [14], true⟩, ⟨1, [12], true⟩, ⟨2, [110], true⟩, ⟨3, [0], true⟩, ⟨4, [112], true⟩, ⟨5, [113], true⟩, ⟨7, [15], true⟩, ⟨6, [114], false⟩, ⟨8, [115, 116], false⟩, ⟨9, [109, 111], false⟩, ⟨10, [117, 118], false⟩] rfl (by kernel_rfl) ?_
   refine Mv rfl rfl (Mf rfl rfl (step_fieldAddr so75 Sr rfl) (Mf rfl rfl (step_load_ptr ty3 Sr) (Mv rfl rfl (Mf rfl rfl (step_nilCheck Sr) (Mf rfl rfl (step_fieldAddr_own so69 Sr rfl) ?_)))))
   refine Mv rfl rfl ?_
   refine JM_look rfl rfl rfl rfl (step_load_fld ty63 Sr rfl zS) ?_
   refine JM_look rfl rfl rfl rfl (step_lookupD (kv := kvI) (R := rFact) (KeyT.int underlying3) underlying63 (fun w => zeroValue35 w) zr35 Sub.ofRV Sr mapD.view zS) ?_
   refine JM_look rfl rfl rfl rfl (step_indexAddr_own (i := (prV s i).j.toNat) underlying41 ty35 Sr zS Sr (by have := hp.j0; show (prV s i).j = _; omega) (by rw [hal]; omega)) ?_
   refine JM_stepU rfl rfl rfl (step_store_own ty35 Sr Sr zS (by rw [hal]; omega)) fun _ => ?_
   refine JM_nil (J_seq (Jr (Jm rfl ?_)))
   refine Js rfl (step_len_own underlying41 Sr zS) ?_
   refine Js rfl (step_eql Sr Sr) (JL_nil ?_)
   refine J_cond Sr (fun h121 => ?_) (fun h121 => ?_)
   ·
    try simp only [NF] at h121
    have h2T : (rlV s i).Tables.length = 2 := by rw [List.length_set, hal] at h121; omega
    refine J_seq (Jr (Jl rfl ty59 Sr (Jm rfl ?_)))
    refine Js rfl (step_call_look zS (violV_spec (rlV s i) (at_.set (prV s i).j.toNat (factAt s pko3)) (by rw [List.length_set, hal]; exact Nat.le_refl _) (by rw [List.length_set, hal]; have := hT.2.1; omega) (by have := hT.2.2; omega)) (fun _ => Flat.v _) ⟨(Frz.sub Sr), (Frz.own), trivial⟩ call65) ?_
    refine JL_nil ?_
    refine J_cond Sr (fun h124 => ?_) (fun h124 => ?_)
    ·
     try simp only [NF] at h124
     refine J_region (Jm rfl (Jm rfl (Jm rfl ?_)))
     refine Jx rfl (step_literal_own (ys := [num, pko3]) underlying33 el3 ⟨rfl, Sr, rfl, Sr, trivial⟩ rfl (by decide)) fun v128 => ?_
     refine Jx rfl (step_call zS (setV_spec v128 [num, pko3] (by simp) (by simp)) ⟨Sr, trivial⟩ call64) fun v129 => ?_
     refine Ju (step_mapUpdateD (kv := kvT) (R := rBool) key77 underlying66 Sr Sub.tri Sr zS) fun _ => ?_
     refine JL_nil (J_exit ?_)
     refine K_drop (S := [own 3 rInt v128 (sortI [num, pko3])]) zS ?_
     have hq : ∀ t, Q1 s num f i pko3 t ↔ t = setM [num, pko3] := fun t => by simp only [Q1, h2T, (QM2_iff hp h2T hat).2 h124, true_and, ne_eq, not_true, false_and, or_false]
     refine K_againL (σ := List (Int × Bool) × List (GTri × Bool) × List GFact) (s := (kd, mo, at_)) (kd ++ [(pko3, pvo3)], mput mo (setM [num, pko3]) true, (at_.set (prV s i).j.toNat (factAt s pko3))) (by simp only [List.length_append, List.length_singleton]; omega) ⟨hI2, hK.put _ fun t => by rw [QC1_snoc, hq, or_assoc], hat.1, hat.2.1⟩ (zU) (LSub.cons (A := ranD kvI rBool v104 (meetV s i f).1 (meetV s i f).2 (kd.map (·.1) ++ [pko3]) (some (pko3, pvo3))) zS (ran_snoc (p := (pko3, pvo3))) zL)
    try simp only [NF] at h124
    refine J_skip (J_exit ?_)
    have hq : ∀ t, ¬ Q1 s num f i pko3 t := by
     rintro t (⟨_, q, _⟩ | ⟨q, _⟩)
     ·
      rw [(QM2_iff hp h2T hat).1 q] at h124; cases h124
     exact q h2T
    refine K_againL (σ := List (Int × Bool) × List (GTri × Bool) × List GFact) (s := (kd, mo, at_)) (kd ++ [(pko3, pvo3)], mo, (at_.set (prV s i).j.toNat (factAt s pko3))) (by simp only [List.length_append, List.length_singleton]; omega) ⟨hI2, hK.iff fun t => by rw [QC1_snoc]; simp only [hq, or_false], hat.1, hat.2.1⟩ (zU) (LSub.cons (A := ranD kvI rBool v104 (meetV s i f).1 (meetV s i f).2 (kd.map (·.1) ++ [pko3]) (some (pko3, pvo3))) zS (ran_snoc (p := (pko3, pvo3))) zL)
   try simp only [NF] at h121
   have h3T : (rlV s i).Tables.length = 3 := by rw [List.length_set, hal] at h121; have := hT.1; have := hT.2.1; have h1 := hp.i1; have h2 := hp.j1; have h5 : (nth s.rules (prV s i).rule.toNat).Tables.length = (rlV s i).Tables.length := rfl; omega
   refine J_skip (Jr (Js rfl (step_fieldAddr so75 Sr rfl) (Jl rfl ty3 Sr ?_)))
   refine Js rfl (step_sub Sr Sr (by unfold in64; show -9223372036854775808 ≤ 3 - (prV s i).i ∧ 3 - (prV s i).i ≤ 9223372036854775807; omega)) ?_
   refine Js rfl (step_fieldAddr so75 Sr rfl) (Jl rfl ty3 Sr ?_)
   refine Js rfl (step_sub Sr Sr (by unfold in64; show -9223372036854775808 ≤ 3 - (prV s i).i - (prV s i).j ∧ 3 - (prV s i).i - (prV s i).j ≤ 9223372036854775807; omega)) ?_
   refine Ja rfl (JL_nil (J_seq (Jr (Jm rfl (Js rfl (step_fieldAddr so75 Sr rfl) ?_)))))
   refine Jl rfl ty3 Sr (Js rfl (step_lss Sr Sr) (JL_nil ?_))
   refine J_cond Sr (fun h139 => ?_) (fun h139 => ?_)
   ·
    try simp only [NF] at h139
    have h139 : lastV (prV s i) < (prV s i).j := h139
    refine J_exit (J_region (Js rfl (step_add Sr Sr z6) (Jm rfl (JL_nil ?_))))
    refine K_lsub (L' := [junk, vB b s, vI s, vP s, vF s, vE s, vS s, vX s, mapD kvT rBool (.map (some v18)) mo, own 35 rFact v94 (at_.set (prV s i).j.toNat (factAt s pko3))]) (LSub.trans (B := [ranD kvI rBool v104 (meetV s i f).1 (meetV s i f).2 ((kd ++ [(pko3, pvo3)]).map (·.1)) none, setsO (hremO s.idx (kO s i f)), vB b s, vI s, vP s, vF s, vE s, vS s, mapD kvT rBool (.map (some v18)) mo, own 35 rFact v94 (at_.set (prV s i).j.toNat (factAt s pko3))]) (LSub.cons (A := ranD kvI rBool v104 (meetV s i f).1 (meetV s i f).2 (kd.map (·.1) ++ [pko3]) (some (pko3, pvo3))) zS (ran_snoc (p := (pko3, pvo3))) zL) (LSub.trans ran_end (LSub.trans (B := [setO (svalO s.idx (kO s i f)).1 (svalO s.idx (kO s i f)).2, setsO (hremO s.idx (kO s i f)), junk, vB b s, vI s, vP s, vF s, vE s, vS s, mapD kvT rBool (.map (some v18)) mo, own 35 rFact v94 (at_.set (prV s i).j.toNat (factAt s pko3))]) (LSub.cons (A := setO (meetV s i f).1 (meetV s i f).2) zS (SPs.of (by rw [meetV_eq])) zL) (LSub.trans (setsO_back (kO s i f)) zL)))) ?_
    refine K_drop (Sel.take (Sel.none _)) ?_
    refine K_drop (S := [own 35 rFact v94 (at_.set (prV s i).j.toNat (factAt s pko3))]) zS ?_
    refine K_againL (σ := Nat × List (GTri × Bool)) (s := (i, mo)) (i + 1, mo) zO ?_ (SubE.upd (Sub.int (by simp)) (zU)) (zL)
    refine ⟨by omega, hK.iff fun t => ?_⟩
    have hno : ∀ m, ¬ Q1 s num f i m t := by
     rintro m (⟨q, _⟩ | ⟨_, q, _⟩)
     ·
      omega
     exact q h139
    have hn1 : ∀ ms, ¬ QC1 s num f i ms t := fun ms ⟨m, _, q⟩ => hno m q
    simp only [QABC, QC_succ, hn1, or_false]
   try simp only [NF] at h139
   have h139 : ¬ lastV (prV s i) < (prV s i).j := by show ¬ (3 - (prV s i).i - (prV s i).j < (prV s i).j); exact Int.not_lt.2 h139
   obtain ⟨n2, hn2l, hn2i, hn2, _, _, _⟩ := hpt.at2 i hlt h3T
   have hi2 : (mget s.pat ⟨(prV s i).rule, (prV s i).i, lastV (prV s i)⟩).getD 0 = (((i2V s i) : Nat) : Int) := by rw [i2V, hn2]; simp
   have hi2e : (i2V s i) = n2 := by rw [i2V, hn2]; simp
   have hi2l : (i2V s i) < s.pairs.length := by omega
   refine J_skip (J_seq ?_)
   refine K_view (kv := kvK) (R := rV) (A := vI s) zS mapD.view fun _ _ _ => ?_
   refine K_lsub (L' := [vB b s, vI s, setO (meetV s (i2V s i) f).1 (meetV s (i2V s i) f).2, setsO (hremO (hremO s.idx (kO s i f)) (kO s (i2V s i) f)), ranD kvI rBool v104 (meetV s i f).1 (meetV s i f).2 ((kd ++ [(pko3, pvo3)]).map (·.1)) none, vP s, vF s, vE s, vS s, mapD kvT rBool (.map (some v18)) mo, own 35 rFact v94 (at_.set (prV s i).j.toNat (factAt s pko3))]) (LSub.trans (B := [setsO (hremO s.idx (kO s i f)), ranD kvI rBool v104 (meetV s i f).1 (meetV s i f).2 ((kd ++ [(pko3, pvo3)]).map (·.1)) none, vB b s, vI s, vP s, vF s, vE s, vS s, mapD kvT rBool (.map (some v18)) mo, own 35 rFact v94 (at_.set (prV s i).j.toNat (factAt s pko3))]) (LSub.cons zS SPs.rfl (LSub.cons (A := ranD kvI rBool v104 (meetV s i f).1 (meetV s i f).2 (kd.map (·.1) ++ [pko3]) (some (pko3, pvo3))) zS (ran_snoc (p := (pko3, pvo3))) zL)) (LSub.trans (setsO_split (kO s (i2V s i) f)) (LSub.cons zS SPs.rfl (LSub.cons zS SPs.rfl (LSub.cons (A := setO (svalO (hremO s.idx (kO s i f)) (kO s (i2V s i) f)).1 (svalO (hremO s.idx (kO s i f)) (kO s (i2V s i) f)).2) zS (SPs.of (by rw [meetV_eq, svalO_hremO (kO_ne (fun e => hn2i (hi2e.symm.trans e.symm)))])) zL))))) ?_
   refine K_view (kv := kvI) (R := rBool) (A := setO (meetV s (i2V s i) f).1 (meetV s (i2V s i) f).2) zS mapD.view fun hkD _ _ => ?_
   refine J_draw [⟨0, [0], true⟩, ⟨1, [0], true⟩, ⟨2, [141], true⟩, ⟨3, [142], true⟩, ⟨5, [12], true⟩, ⟨6, [145], true⟩, ⟨7, [12], true⟩, ⟨8, [147], true⟩, ⟨9, [16], true⟩, ⟨10, [146, 148, 149], true⟩, ⟨12, [5], true⟩, ⟨4, [143], false⟩, ⟨11, [144, 150], false⟩, ⟨13, [140, 151, 152], false⟩, ⟨14, [153], false⟩] rfl (by kernel_rfl) ?_
   refine Mv rfl rfl (Mv rfl rfl (Mf rfl rfl (step_nilCheck Sr) (Mf rfl rfl (step_fieldAddr_own so69 Sr rfl) (Mf rfl rfl (step_fieldAddr so75 Sr rfl) (Mf rfl rfl (step_load_ptr ty3 Sr) ?_)))))
   refine Mf rfl rfl (step_fieldAddr so75 Sr rfl) (Mf rfl rfl (step_load_ptr ty3 Sr) (Mv rfl rfl (Mf rfl rfl (step_build_tri underlying71 (fun w => zeroValue71 w) Sr Sr Sr) (Mf rfl rfl (step_load_ptr ty35 Sr) ?_))))
   refine JM_look rfl rfl rfl rfl (step_load_fld ty62 Sr rfl zS) ?_
   refine JM_look rfl rfl rfl rfl (step_lookupD (kv := kvT) (R := rInt) key71 underlying62 (fun w => zeroValue3 w) zr3 Sub.ofRV Sub.tri mapD.view zS) ?_
   refine JM_stepX rfl rfl rfl rfl (step_call (.take (.take (.none _))) (meeting_spec b s (i2V s i) f hi2l ho) ⟨Sr, Sub.int hi2, Sr, trivial⟩ call39) fun v153 => ?_
   refine JM_stepX rfl rfl rfl rfl (step_rangeD (kv := kvI) (R := rBool) underlying82 Sr zS) fun v154 => ?_
   refine JM_nil (J_block ?_)
   refine J_loopL (σ := List (Int × Bool) × List (GTri × Bool) × List GFact) (fun ⟨kd2, mo, at2_⟩ => RanI (meetV s (i2V s i) f).2 kd2 ∧ KeyP mo (fun t => (QABC s num f i t ∨ QC1 s num f i (keysOf kd) t) ∨ QC2 s num f i pko3 (keysOf kd2) t) ∧ At s f i pko3 at2_) (fun ⟨kd2, mo, at2_⟩ => upd (upd (upd (upd (upd (upd (upd (upd (upd (upd (upd (upd (upd (upd env0 0 (tAt b 0)) 1 (tV (.int .i64 num))) 5 (tPtr rFact f)) 7 (tV (.map (some v18)))) 12 (tPtr rpair (prV s i))) 13 (tPtr rRule (rlV s i))) 14 (rV.ty v94)) 15 (tV (.int .i64 pko3))) 16 (tV (.int .i64 (lastV (prV s i))))) 76 (tSl rpair s.pairs)) 77 (tV (.int .i64 (s.pairs.length : Int)))) 78 (tV (.int .i64 (i : Int)))) 104 (tAt v104 0)) 154 (tAt v154 0)) (fun ⟨kd2, mo, at2_⟩ => [ranD kvI rBool v154 (meetV s (i2V s i) f).1 (meetV s (i2V s i) f).2 (kd2.map (·.1)) none, setsO (hremO (hremO s.idx (kO s i f)) (kO s (i2V s i) f)), ranD kvI rBool v104 (meetV s i f).1 (meetV s i f).2 ((kd ++ [(pko3, pvo3)]).map (·.1)) none, vB b s, vI s, vP s, vF s, vE s, vS s, mapD kvT rBool (.map (some v18)) mo, own 35 rFact v94 at2_]) (fun ⟨kd2, mo, at2_⟩ => (meetV s (i2V s i) f).2.length - kd2.length) ([], mo, (at_.set (prV s i).j.toNat (factAt s pko3))) ⟨RanI.start, hK.iff fun t => by simp [QC2], hat⟩ (zU) (zL) ?_
   rintro ⟨kd2, mo, at2_⟩ ⟨hI3, hK2, hat2⟩
   refine Jr ?_
   refine Jx rfl (step_nextD (kv := kvI) (R := rBool) rfl Sr zS) fun o4 => ?_
   refine Js rfl (step_extract_next Sr) (JL_nil (J_seq ?_))
   refine J_cond Sr (fun h156 => ?_) (fun h156 => ?_)
   ·
    try simp only [NF] at h156
    obtain ⟨o4, hoo4⟩ := o4
    obtain ⟨⟨pko4, pvo4⟩, rfl⟩ : ∃ p, o4 = some p := by cases o4 with | none => simp at h156 | some p => exact ⟨p, rfl⟩
    dsimp only at hoo4
    have hI4 := hI3.next hoo4
    have hln4 := hI4.len
    simp only [List.length_append, List.length_singleton] at hln4
    have hal2 : at2_.length = 3 := by have := hat2.1; rw [h3T] at this; exact this
    have hatL := At.setL (k := pko4) hp h3T hat2
    refine J_skip (J_block (Jr ?_))
    refine Js rfl (step_entryD (kv := kvI) (R := rBool) Sr zS) ?_
    refine Js rfl (step_extract Sr rfl) (Ja rfl (JL_nil (Jr (Jm rfl (Jm rfl ?_)))))
    refine Jm rfl (Js rfl (step_nilCheck Sr) (Js rfl (step_fieldAddr_own so69 Sr rfl) ?_))
    refine Js rfl (step_load_fld ty63 Sr rfl zS) ?_
    refine Jm rfl ?_
    refine Js rfl (step_lookupD (kv := kvI) (R := rFact) (KeyT.int underlying3) underlying63 (fun w => zeroValue35 w) zr35 Sub.ofRV Sr mapD.view zS) ?_
    refine Js rfl (step_indexAddr_own (i := (lastV (prV s i)).toNat) underlying41 ty35 Sr zS Sr (by show lastV (prV s i) = _; omega) (by rw [hal2]; have hlv : lastV (prV s i) = 3 - (prV s i).i - (prV s i).j := rfl; omega)) ?_
    refine Ju (step_store_own ty35 Sr Sr zS (by rw [hal2]; have hlv : lastV (prV s i) = 3 - (prV s i).i - (prV s i).j := rfl; omega)) fun _ => ?_
    refine JL_nil (Jr (Jm rfl (Jm rfl (Js rfl (step_neq Sr Sr) (Jm rfl ?_)))))
    refine Jk rfl Sr rfl (step_load_ptr ty59 Sr) ?_
    refine Jk rfl Sr rfl (step_move Sr) ?_
    refine Jg rfl Sr rfl (fun hw => step_call_look zS (violV_spec (rlV s i) (at2_.set (lastV (prV s i)).toNat (factAt s pko4)) (by rw [List.length_set, hal2, h3T]; exact Nat.le_refl _) (by rw [List.length_set, hal2]; omega) (by have := hT.2.2; omega)) (fun _ => Flat.v _) ⟨(Frz.sub (Sub.w hw)), (Frz.w hw Frz.own), trivial⟩ call65) ?_
    refine Js rfl (step_pick_and Sr Sr) (JL_nil ?_)
    refine J_cond Sr (fun h175 => ?_) (fun h175 => ?_)
    ·
     try simp only [NF] at h175
     refine J_region (Jm rfl (Jm rfl (Jm rfl (Jm rfl ?_))))
     refine Jx rfl (step_literal_own (ys := [num, pko3, pko4]) underlying33 el3 ⟨rfl, Sr, rfl, Sr, rfl, Sr, trivial⟩ rfl (by decide)) fun v180 => ?_
     refine Jx rfl (step_call zS (setV_spec v180 [num, pko3, pko4] (by simp) (by simp)) ⟨Sr, trivial⟩ call64) fun v181 => ?_
     refine Ju (step_mapUpdateD (kv := kvT) (R := rBool) key77 underlying66 Sr Sub.tri Sr zS) fun _ => ?_
     refine JL_nil ?_
     refine K_drop (S := [own 3 rInt v180 (sortI [num, pko3, pko4])]) zS ?_
     have h3q := (QM3_iff hp h3T hatL.1 hatL.2).2 h175.2
     refine K_againL (σ := List (Int × Bool) × List (GTri × Bool) × List GFact) (s := (kd2, mo, at2_)) (kd2 ++ [(pko4, pvo4)], mput mo (setM [num, pko3, pko4]) true, (at2_.set (lastV (prV s i)).toNat (factAt s pko4))) (by simp only [List.length_append, List.length_singleton]; omega) ⟨hI4, hK2.put _ fun t => by rw [QC2_snoc]; simp only [ne_eq, h175.1, not_false_iff, h3q, true_and, or_assoc], hatL.1⟩ (zU) (LSub.cons (A := ranD kvI rBool v154 (meetV s (i2V s i) f).1 (meetV s (i2V s i) f).2 (kd2.map (·.1) ++ [pko4]) (some (pko4, pvo4))) zS (ran_snoc (p := (pko4, pvo4))) zL)
    try simp only [NF] at h175
    refine J_skip ?_
    have h3q : ¬ (pko3 ≠ pko4 ∧ QM3 s f i pko3 pko4) := by
     rintro ⟨q1, q2⟩
     rcases h175 with q | q
     ·
      exact q1 q
     rw [(QM3_iff hp h3T hatL.1 hatL.2).1 q2] at q; cases q
    refine K_againL (σ := List (Int × Bool) × List (GTri × Bool) × List GFact) (s := (kd2, mo, at2_)) (kd2 ++ [(pko4, pvo4)], mo, (at2_.set (lastV (prV s i)).toNat (factAt s pko4))) (by simp only [List.length_append, List.length_singleton]; omega) ⟨hI4, hK2.iff fun t => by rw [QC2_snoc]; simp only [← and_assoc, h3q, false_and, or_false], hatL.1⟩ (zU) (LSub.cons (A := ranD kvI rBool v154 (meetV s (i2V s i) f).1 (meetV s (i2V s i) f).2 (kd2.map (·.1) ++ [pko4]) (some (pko4, pvo4))) zS (ran_snoc (p := (pko4, pvo4))) zL)
   try simp only [NF] at h156
   obtain ⟨o4, hoo4⟩ := o4
   obtain rfl : o4 = none := by cases o4 with | none => rfl | some p => simp at h156
   dsimp only at hoo4
   have hkall2 := hI3.all hkD hoo4
   refine J_exit ?_
   refine K_lsub (L' := [junk, ranD kvI rBool v104 (meetV s i f).1 (meetV s i f).2 ((kd ++ [(pko3, pvo3)]).map (·.1)) none, setsO (hremO s.idx (kO s i f)), vB b s, vI s, vP s, vF s, vE s, vS s, mapD kvT rBool (.map (some v18)) mo, own 35 rFact v94 at2_]) (LSub.trans ran_end (LSub.trans (B := [setO (svalO (hremO s.idx (kO s i f)) (kO s (i2V s i) f)).1 (svalO (hremO s.idx (kO s i f)) (kO s (i2V s i) f)).2, setsO (hremO (hremO s.idx (kO s i f)) (kO s (i2V s i) f)), junk, ranD kvI rBool v104 (meetV s i f).1 (meetV s i f).2 ((kd ++ [(pko3, pvo3)]).map (·.1)) none, vB b s, vI s, vP s, vF s, vE s, vS s, mapD kvT rBool (.map (some v18)) mo, own 35 rFact v94 at2_]) (LSub.cons (A := setO (meetV s (i2V s i) f).1 (meetV s (i2V s i) f).2) zS (SPs.of (by rw [meetV_eq, svalO_hremO (kO_ne (fun e => hn2i (hi2e.symm.trans e.symm)))])) zL) (LSub.trans (setsO_back (kO s (i2V s i) f)) zL))) ?_
   refine K_drop (Sel.take (Sel.none _)) ?_
   have hq : ∀ t, Q1 s num f i pko3 t ↔ QC2 s num f i pko3 (keysOf (meetV s (i2V s i) f).2) t := fun t => by simp only [Q1, h3T, h139, ne_eq, not_false_iff, true_and]; simp
   refine K_againL (σ := List (Int × Bool) × List (GTri × Bool) × List GFact) (s := (kd, mo, at_)) (kd ++ [(pko3, pvo3)], mo, at2_) (by simp only [List.length_append, List.length_singleton]; omega) ⟨hI2, hK2.iff fun t => by rw [QC1_snoc, hq, QC2_keys hkall2, or_assoc], hat2.1, hat2.2.1⟩ (zU) (zL)
  try simp only [NF] at h106
  obtain ⟨o3, hoo3⟩ := o3
  obtain rfl : o3 = none := by cases o3 with | none => rfl | some p => simp at h106
  dsimp only at hoo3
  have hkall := hI.all hkC hoo3
  refine K_lsub (L' := [junk, vB b s, vI s, vP s, vF s, vE s, vS s, vX s, mapD kvT rBool (.map (some v18)) mo, own 35 rFact v94 at_]) (LSub.trans ran_end (LSub.trans (B := [setO (svalO s.idx (kO s i f)).1 (svalO s.idx (kO s i f)).2, setsO (hremO s.idx (kO s i f)), junk, vB b s, vI s, vP s, vF s, vE s, vS s, mapD kvT rBool (.map (some v18)) mo, own 35 rFact v94 at_]) (LSub.cons (A := setO (meetV s i f).1 (meetV s i f).2) zS (SPs.of (by rw [meetV_eq])) zL) (LSub.trans (setsO_back (kO s i f)) zL))) ?_
  refine J_exit (J_region (Js rfl (step_add Sr Sr z6) (Jm rfl (JL_nil ?_))))
  refine K_drop (Sel.take (Sel.none _)) ?_
  refine K_drop (S := [own 35 rFact v94 at_]) zS ?_
  refine K_againL (σ := Nat × List (GTri × Bool)) (s := (i, mo)) (i + 1, mo) zO ?_ (SubE.upd (Sub.int (by simp)) (zU)) (zL)
  refine ⟨by omega, hK.iff fun t => ?_⟩
  rw [QC1_keys hkall]
  simp only [QABC, QC_succ, or_assoc]
 try simp only [NF] at h79
 obtain rfl : i = s.pairs.length := by omega
 refine J_exit (Jr (Jm rfl (Ja rfl (JL_nil (J_ret ?_)))))
 refine K_lsub (L' := [vB b s, vI s, vP s, vF s, vE s, vS s, vX s, mapD kvT rBool (.map (some v18)) mo]) zL ?_
 exact K_retv (X := { z : Nat × List (GTri × Bool) // KeyP z.2 (FoundP s num f) }) (rv := .tmp 6) rfl ⟨(v18, mo), hK.iff fun t => by simp only [QABC, QAB, FoundP, or_assoc]⟩ (.tmp Sr) Sr
open Go Go.Proofs Go.Proofs.Tryz
section
variable {C : Cx} {E : Env} {L : List SP} {d : Option Nat} {ty : Nat} {pos : String} {af : Array Edge} {g : Option (Nat × Bool)}
theorem step_callL {A : SP} {S : List SP} {f : Nat} {xs : Array Operand} {ts : Array Nat} {aT : List Ty} {res : Ty}
    (sel : Sel L [A] S) (sp : Spec (X := Unit) C.P f aT [A] (fun _ => res) (fun _ => [A])) (ha : ArgsE E xs.toList aT) (he : ∀ args w, (callFunc f args).run C.P w = .ok (.enter f args) w) :
    Step1 C ⟨d, .call { callee := .value (.func f), args := xs, argTypes := ts }, ty, pos, af, g⟩ E L res := fun a w h m n l se st fr next Q hk => by
  refine step_call sel sp ha he a w h m n l se st fr next Q fun x v w' h' m' l' se' st' hv => ?_
  exact hk x v w' h' m' l' se' (sel.stars.2 (stars_append.1 st')) hv
end
instance : Inhabited GTri := ⟨zTri⟩
def minT (vio fr : List (GTri × Bool)) (l : List GTri) : List GTri := l.filter fun t => !contV vio t && !contV fr t
theorem minT_snoc (vio fr : List (GTri × Bool)) (l : List GTri) (t : GTri) : minT vio fr (l ++ [t]) = minT vio fr l ++ (if (!contV vio t && !contV fr t) = true then [t] else []) := by
  unfold minT
  rw [List.filter_append]
  congr 1
  cases h : (!contV vio t && !contV fr t) <;> simp [List.filter, h]
theorem minT_len (vio fr : List (GTri × Bool)) (l : List GTri) : (minT vio fr l).length ≤ l.length := List.length_filter_le _ _
def addT (vio : List (GTri × Bool)) (l : List GTri) : List (GTri × Bool) := l.foldl (fun m t => mput m t true) vio
theorem addT_succ (vio : List (GTri × Bool)) {l : List GTri} {i : Nat} (h : i < l.length) : addT vio (l.take (i + 1)) = mput (addT vio (l.take i)) (nth l i) true := by
  have e : l.take (i + 1) = l.take i ++ [nth l i] := by rw [nth_get h]; simp
  rw [e]; simp [addT]
def Cand (s : VS) (f : GFact) (k : Nat) (n : Int) : Prop := hasS s.ent f.Entity n ∨ ∃ i, i < k ∧ n ∈ keysOf (meetV s i f).2
theorem copM_keys (md kd : List (Int × Bool)) (n : Int) : n ∈ keysOf (copM md kd) ↔ n ∈ keysOf md ∨ n ∈ keysOf kd := by
  unfold copM
  induction kd generalizing md with
  | nil => simp
  | cons p kd ih =>
    rw [List.foldl_cons, ih, keysOf, mput_keys]
    simp only [List.map_cons, List.mem_cons]
    split
    · rename_i h
      constructor
      · rintro (h1 | h1)
        · exact .inl h1
        · exact .inr (.inr h1)
      · rintro (h1 | h1 | h1)
        · exact .inl h1
        · subst h1; exact .inl h
        · exact .inr h1
    · simp only [List.mem_append, List.mem_singleton]
      constructor
      · rintro ((h1 | h1) | h1)
        · exact .inl h1
        · exact .inr (.inl h1)
        · exact .inr (.inr h1)
      · rintro (h1 | h1 | h1)
        · exact .inl (.inl h1)
        · exact .inl (.inr h1)
        · exact .inr h1
theorem copM_nd {md kd : List (Int × Bool)} (h : KN md) : KN (copM md kd) := by
  unfold copM
  induction kd generalizing md with
  | nil => exact h
  | cons p kd ih => rw [List.foldl_cons]; exact ih (mput_nodup h _ _)
theorem Cand_succ {s : VS} {f : GFact} {k : Nat} {n : Int} : Cand s f (k + 1) n ↔ Cand s f k n ∨ n ∈ keysOf (meetV s k f).2 := by
  unfold Cand
  constructor
  · rintro (h | ⟨i, h1, h2⟩)
    · exact .inl (.inl h)
    · by_cases e : i = k
      · subst e; exact .inr h2
      · exact .inl (.inr ⟨i, by omega, h2⟩)
  · rintro ((h | ⟨i, h1, h2⟩) | h)
    · exact .inl h
    · exact .inr ⟨i, by omega, h2⟩
    · exact .inr ⟨k, by omega, h⟩
theorem keysOf_iff {a b : List (Int × Bool)} (h : ∀ p, p ∈ a ↔ p ∈ b) (n : Int) : n ∈ keysOf a ↔ n ∈ keysOf b := by simp only [List.mem_map, h]
theorem mem_minT {vio fr : List (GTri × Bool)} {l : List GTri} {t : GTri} : t ∈ minT vio fr l ↔ t ∈ l ∧ contV vio t = false ∧ contV fr t = false := by
  simp [minT, List.mem_filter]
inductive PutR (s : VS) (num : Int) (f : GFact) : VS → Int → Prop
  | arg : (num < 0 ∨ 1000000 ≤ num) → PutR s num f s 1
  | twice : 0 ≤ num → num < 1000000 → (mget s.facts num).isSome = true → PutR s num f s 9
  | limit (ml : List GTri) : 0 ≤ num → num < 1000000 → (mget s.facts num).isSome = false → ml.Nodup → (∀ t ∈ ml, FoundP s num f t) → (4000 ≤ s.facts.length ∨ 20000 < s.vio.length + ml.length) → PutR s num f s 3
  | ok (fr : List (GTri × Bool)) (ml : List GTri) (md : List (Int × Bool)) (q : SetL Gkey) (w : Nat) : 0 ≤ num → num < 1000000 → (mget s.facts num).isSome = false → KeyP fr (FoundP s num f) → (∀ t, t ∈ ml ↔ t ∈ fr.map (·.1) ∧ contV s.vio t = false ∧ contV fr t = false) →
      ml.Nodup → KN md → (∀ n, n ∈ keysOf md ↔ Cand s f s.pairs.length n) → IdxR s.idx (keysV s.rules s.pairs f s.pairs.length) num q →
      PutR s num f { s with facts := mput s.facts num f, ent := sput s.ent f.Entity (.map (some w)) num, idx := q, vio := addT s.vio ml, work := s.work + md.length } 0
theorem CloneV_spec (l : List GValue) (hl : l.length ≤ 1000000000) : Spec (X := Value) prog 42 [tSl rValue l] ([]) (fun v => rV.ty v) (fun v => [own 91 rValue v l]) := by
 refine Spec.enter func42 rfl rfl fun h0 w0 fr0 => ?_
 refine Jr (Ja rfl (JL_nil (J_seq (Jr (Jm rfl ?_)))))
 refine Jx rfl (step_eql_slnil underlying32 Sr) fun v4 => ?_
 refine JL_nil ?_
 refine J_cond Sr (fun h4 => ?_) (fun h4 => ?_)
 ·
  try simp only [NF] at h4
  refine Jr (Ja rfl (JL_nil (J_ret ?_)))
  have hl0 := v4.2 h4
  subst hl0
  refine K_lsub (LSub.nilown (e := 91) (R := rValue)) ?_
  refine K_ret1' (rv := .tmp 2) rfl (.slice none 0 0) (Sel.none _) (.tmp (Sub.rV rfl)) (Frz.sub Sr)
 try simp only [NF] at h4
 refine J_skip (Jr ?_)
 refine Jx rfl (step_literal_own (ys := []) underlying32 el91 trivial rfl (by decide)) fun v5 => ?_
 refine Jm rfl ?_
 refine Jx rfl (step_append underlying32 el91 Sr Sr zS (by simp; omega) (by simp; omega)) fun v7 => ?_
 refine Ja rfl (JL_nil (J_ret ?_))
 refine K_ret1' (rv := .tmp 2) rfl v7 (Sel.none _) (.tmp Sr) (Frz.sub Sr)
set_option maxHeartbeats 4000000 in
theorem Put_spec (b : Nat) (s : VS) (num : Int) (f : GFact) (ho : RulesOk s.rules s.pairs) (hpt : PatOk s) (hrow : f.Row.length ≤ 1000000) (hc : ∀ n, Cand s f s.pairs.length n → n ∈ s.facts.map (·.1)) (hfl : s.facts.length ≤ 1000000) (hw : 0 ≤ s.work ∧ s.work ≤ 1000000000000) (hvl : s.vio.length ≤ 1000000) (hfr : ∀ l : List GTri, l.Nodup → (∀ t ∈ l, FoundP s num f t) → l.length ≤ 1000000) : Spec (X := { z : VS × Int // PutR s num f z.1 z.2 }) prog 21 [tAt b 0, tV (.int .i64 num), rFact.ty f] ([vB b s, vI s, vP s, vF s, vE s, vS s, vX s, vV s]) (fun z => tV (.int .i64 z.1.2)) (fun z => [vB b z.1.1, vI z.1.1, vP z.1.1, vF z.1.1, vE z.1.1, vS z.1.1, vX z.1.1, vV z.1.1]) := by
 refine Spec.enter func21 rfl rfl fun h0 w0 fr0 => ?_
 have hpl := ho.pl
 refine Jr (Js rfl (step_box (R := rPt) Sr) (Js rfl (step_box (R := rInt) Sr) ?_))
 refine Jx rfl (step_box_own (R := rFact) Sr) fun v5 => ?_
 refine Ja rfl (JL_nil (J_seq (Jr (Jl rfl ty26 Sr ?_))))
 refine Js rfl (step_eqlptr (by kernel_rfl) Sr) ?_
 refine Jm rfl ?_
 refine Jk rfl Sr rfl (step_load_ptr ty3 Sr) ?_
 refine Jg rfl Sr rfl (fun hw => step_lss (Sub.w hw) Sr) (Js rfl (step_pick_or Sr Sr) (Jm rfl ?_))
 refine Jk rfl Sr rfl (step_load_ptr ty3 Sr) ?_
 refine Jg rfl Sr rfl (fun hw => step_geq (Sub.w hw) Sr) (Js rfl (step_pick_or Sr Sr) (JL_nil ?_))
 refine J_cond Sr (fun h25 => ?_) (fun h25 => ?_)
 ·
  try simp only [NF] at h25
  have hbad : num < 0 ∨ 1000000 ≤ num := by
   rcases h25 with (q | q) | q
   ·
    simp at q
   ·
    exact .inl q
   exact .inr q
  refine Jr (Ja rfl (JL_nil (J_ret ?_)))
  refine K_drop (S := [box v5 35 rFact f]) zS ?_
  refine K_lsub (L' := [vB b s, vI s, vP s, vF s, vE s, vS s, vX s, vV s]) zL ?_
  exact K_retv (X := { z : VS × Int // PutR s num f z.1 z.2 }) (rv := .tmp 6) rfl ⟨(s, 1), .arg hbad⟩ (.tmp Sr) Sr
 try simp only [NF] at h25
 have hin : 0 ≤ num ∧ num < 1000000 := by omega
 refine J_skip (J_seq (J_seq ?_))
 refine J_drawZ [vB b s, vF s] [⟨0, [3], 0⟩, ⟨1, [27], 0⟩, ⟨2, [28], 0⟩, ⟨3, [29], 1⟩, ⟨4, [4], 0⟩, ⟨5, [30, 31], 1⟩, ⟨6, [32], 0⟩, ⟨7, [26], 0⟩, ⟨8, [26], 0⟩] [⟨9, [], 7, SP.emp, fun v => tAt (vN v) 0, fun v => box (vN v) 35 rFact zFact⟩] [⟨10, [7, 33], 2⟩, ⟨11, [34], 0⟩] (L := [vI s, vP s, vE s, vS s, vX s, vV s, box v5 35 rFact f]) (LSub.trans LSub.emp zL) rfl (by kernel_rfl) (Nat.le_of_ble_eq_true rfl) ?_
 refine JF_step rfl rfl rfl rfl (fun _ => step_load_ptr ty26 Sr) ?_
 refine JF_step rfl rfl rfl rfl (fun _ => step_nilCheck Sr) ?_
 refine JF_step rfl rfl rfl rfl (fun _ => step_fieldAddr_own so69 Sr rfl) ?_
 refine JF_look rfl rfl rfl rfl (fun _ => step_load_fld ty63 Sr rfl zS) ?_
 refine JF_step rfl rfl rfl rfl (fun _ => step_load_ptr ty3 Sr) ?_
 refine JF_look rfl rfl rfl rfl (fun _ => step_lookupD_ok (kv := kvI) (R := rFact) (KeyT.int underlying3) underlying63 (fun w => zeroValue35 w) zr35 Sub.ofRV Sr mapD.view zS) ?_
 refine JF_step rfl rfl rfl rfl (fun _ => step_move Sr) ?_
 refine JF_step rfl rfl rfl rfl (fun _ => step_extract Sr rfl) ?_
 refine JF_step rfl rfl rfl rfl (fun _ => step_extract Sr rfl) ?_
 refine JF_nil ?_
 refine ⟨⟨_, rfl, rfl, rfl, rfl, fun _ => by refine Step.empty ?_; exact Step.emb ptrV (step_alloc (fun w => zeroValue35 w) zr35) (fun _ => rfl) (fun _ => rfl)⟩, fun v7 => ?_⟩
 refine upP_in ?_
 refine JX_stepU rfl rfl rfl (step_store_box ty35 Sr Sr zS) fun _ => ?_
 refine JX_step rfl rfl rfl rfl (fun _ => step_assign Sr) ?_
 refine JX_nil ?_
 refine K_drop (S := [box (vN v7) 35 rFact ((mget s.facts num).getD zFact)]) zS ?_
 refine Jr (Jm rfl (JL_nil ?_))
 refine J_cond Sr (fun h35 => ?_) (fun h35 => ?_)
 ·
  try simp only [NF] at h35
  refine Jr (Ja rfl (JL_nil (J_ret ?_)))
  refine K_drop (S := [box v5 35 rFact f]) zS ?_
  refine K_lsub (L' := [vB b s, vI s, vP s, vF s, vE s, vS s, vX s, vV s]) zL ?_
  exact K_retv (X := { z : VS × Int // PutR s num f z.1 z.2 }) (rv := .tmp 6) rfl ⟨(s, 9), .twice hin.1 hin.2 h35⟩ (.tmp Sr) Sr
 try simp only [NF] at h35
 refine J_skip (J_seq ?_)
 refine K_lsub (L' := [setO (sval s.ent f.Entity).1 (sval s.ent f.Entity).2, setsO (hrem s.ent f.Entity), vB b s, vI s, vP s, vF s, vE s, vX s, vV s, box v5 35 rFact f]) (LSub.trans (LSub.cons (A := vS s) zS SPs.rfl zL) (sets_split f.Entity)) ?_
 refine J_drawX [⟨0, [3], 0⟩, ⟨1, [36], 0⟩, ⟨2, [37], 0⟩, ⟨4, [5], 0⟩, ⟨3, [38], 1⟩, ⟨5, [40], 1⟩, ⟨6, [39, 41], 1⟩, ⟨7, [42], 2⟩, ⟨8, [43], 0⟩] rfl (by kernel_rfl) ?_
 refine JX_step rfl rfl rfl rfl (fun _ => step_load_ptr ty26 Sr) ?_
 refine JX_step rfl rfl rfl rfl (fun _ => step_nilCheck Sr) ?_
 refine JX_step rfl rfl rfl rfl (fun _ => step_fieldAddr_own so69 Sr rfl) ?_
 refine JX_step rfl rfl rfl rfl (fun _ => step_fieldAddr_own so35 Sr rfl) ?_
 refine JX_look rfl rfl rfl rfl (step_load_fld ty64 Sr rfl zS) ?_
 refine JX_look rfl rfl rfl rfl (step_load_fld ty3 Sr rfl zS) ?_
 refine JX_look rfl rfl rfl rfl (step_lookupS (kv := kvI) (q := s.ent) (KeyT.int underlying3) underlying64 (fun w => zeroValue82 w) Sub.ofRV Sr zS) ?_
 refine JX_stepX rfl rfl rfl rfl (step_call (.take (.none _)) (cloneD_spec (sval s.ent f.Entity).1 (sval s.ent f.Entity).2) ⟨Sr, trivial⟩ call37) fun v43 => ?_
 refine JX_step rfl rfl rfl rfl (fun _ => step_assign Sr) ?_
 refine JX_nil ?_
 refine K_view (kv := kvI) (R := rBool) (A := setO v43.1 (sval s.ent f.Entity).2) zS mapD.view fun hnc hvc hnlc => ?_
 refine J_seq (Jr (Jm rfl ?_))
 refine Js rfl (step_eqnilD (kv := kvI) (R := rBool) underlying82 Sr mapD.view zS) ?_
 refine JL_nil ?_
 refine J_cut (X := Nat) (fun c => upd (upd (upd (upd (upd (upd (upd (upd env0 0 (tAt b 0)) 1 (tV (.int .i64 num))) 2 (rFact.ty f)) 3 (tPtr rPt b)) 4 (tPtr rInt num)) 5 (tAt v5 0)) 6 (tV (.int .i64 0))) 9 (tV (.map (some c)))) (fun c => [setO (.map (some c)) (sval s.ent f.Entity).2, vB b s, vI s, vP s, vF s, vE s, vS s, vX s, vV s, box v5 35 rFact f]) ?_ ?_
 ·
  skip
  refine J_cond Sr (fun h45 => ?_) (fun h45 => ?_)
  ·
   try simp only [NF] at h45
   refine J_region ?_
   refine Jx rfl (step_makeMapD (kv := kvI) (R := rBool)) fun v46 => ?_
   refine Ja rfl (JL_nil ?_)
   have hv0 := (isNilM_iff hvc).1.1 h45
   have hm0 := hnlc hv0
   refine K_cut (E := fun _ => env0) v46 (zU) (LSub.trans (B := [setO (.map none) [], setO (sval s.ent f.Entity).1 (sval s.ent f.Entity).2, setsO (hrem s.ent f.Entity), setO (.map (some v46)) (sval s.ent f.Entity).2, vB b s, vI s, vP s, vF s, vE s, vX s, vV s, box v5 35 rFact f]) (LSub.cons (A := setO v43.1 (sval s.ent f.Entity).2) zS (setO_eq hv0 hm0) (LSub.cons (A := setO (sval s.ent f.Entity).1 (sval s.ent f.Entity).2) zS SPs.rfl (LSub.cons zS SPs.rfl (LSub.cons (A := setO (.map (some v46)) []) zS (setO_eq rfl hm0.symm) zL)))) (LSub.trans mapD.unnil (LSub.trans (sets_back f.Entity) zL)))
  try simp only [NF] at h45
  refine J_skip ?_
  obtain ⟨wc, hwc⟩ := (isNilM_iff hvc).2.1 h45
  refine K_cut (E := fun _ => env0) wc (SubE.upd (Sub.v hwc) (zU)) (LSub.trans (B := [setO (sval s.ent f.Entity).1 (sval s.ent f.Entity).2, setsO (hrem s.ent f.Entity), setO (.map (some wc)) (sval s.ent f.Entity).2, vB b s, vI s, vP s, vF s, vE s, vX s, vV s, box v5 35 rFact f]) (LSub.cons (A := setO (sval s.ent f.Entity).1 (sval s.ent f.Entity).2) zS SPs.rfl (LSub.cons zS SPs.rfl (LSub.cons (A := setO v43.1 (sval s.ent f.Entity).2) zS (setO_eq hwc rfl) zL))) (LSub.trans (sets_back f.Entity) zL))
 rintro c
 refine J_seq (Jr (Jl rfl ty26 Sr (Js rfl (step_nilCheck Sr) (Js rfl (step_fieldAddr_own so69 Sr rfl) ?_))))
 refine Js rfl (step_load_fld ty67 Sr rfl zS) ?_
 refine Js rfl (step_len_sl underlying67 Sr) (Jm rfl (JL_nil (J_block ?_)))
 refine J_loopL (σ := Nat × List (Int × Bool)) (fun ⟨i, md⟩ => i ≤ s.pairs.length ∧ KN md ∧ ∀ n, n ∈ keysOf md ↔ Cand s f i n) (fun ⟨i, md⟩ => upd (upd (upd (upd (upd (upd (upd env0 3 (tPtr rPt b)) 4 (tPtr rInt num)) 5 (tAt v5 0)) 6 (tV (.int .i64 0))) 9 (tV (.map (some c)))) 51 (tV (.int .i64 (s.pairs.length : Int)))) 52 (tV (.int .i64 (i : Int)))) (fun ⟨i, md⟩ => [setO (.map (some c)) md, vB b s, vI s, vP s, vF s, vE s, vS s, vX s, vV s, box v5 35 rFact f]) (fun ⟨i, md⟩ => s.pairs.length - i) (0, (sval s.ent f.Entity).2) ⟨by omega, hnc, fun n => by simp [Cand, hasS]⟩ (zU) (zL) ?_
 rintro ⟨i, md⟩ ⟨hi, hkn, hcm⟩
 refine Jr (Js rfl (step_lss Sr Sr) (JL_nil (J_seq ?_)))
 refine J_cond Sr (fun h53 => ?_) (fun h53 => ?_)
 ·
  try simp only [NF] at h53
  have hlt : i < s.pairs.length := by omega
  refine J_skip (J_seq (J_block (Jr (Jm rfl (Ja rfl ?_)))))
  refine JL_nil (J_region (Jm rfl (Jl rfl ty26 Sr (Jm rfl ?_))))
  refine Js rfl (step_load_box ty35 Sr zS) ?_
  refine JL_lsub (L' := [vB b s, vI s, setO (.map (some c)) md, vP s, vF s, vE s, vS s, vX s, vV s, box v5 35 rFact f]) zL ?_
  refine Jx rfl (step_call (.take (.take (.none _))) (meeting_spec b s i f hlt ho) ⟨Sr, Sr, Sr, trivial⟩ call39) fun v59 => ?_
  refine JL_lsub (L' := [setO (.map (some c)) md, setO (meetV s i f).1 (meetV s i f).2, setsO (hremO s.idx (kO s i f)), vB b s, vI s, vP s, vF s, vE s, vS s, vV s, box v5 35 rFact f]) (LSub.trans (B := [vX s, setO (.map (some c)) md, vB b s, vI s, vP s, vF s, vE s, vS s, vV s, box v5 35 rFact f]) zL (LSub.trans (setsO_split (kO s i f)) (LSub.cons zS SPs.rfl (LSub.cons (A := setO (svalO s.idx (kO s i f)).1 (svalO s.idx (kO s i f)).2) zS (SPs.of (by rw [meetV_eq])) zL)))) ?_
  refine Jx rfl (step_call (.take (.take (.none _))) (copy_spec c md (meetV s i f).1 (meetV s i f).2) ⟨Sr, Sr, trivial⟩ call38) fun v60 => ?_
  refine JL_nil (J_region (Js rfl (step_add Sr Sr z6) (Jm rfl (JL_nil ?_))))
  refine K_againL (σ := Nat × List (Int × Bool)) (s := (i, md)) (i + 1, copM md v60.1) zO ?_ (SubE.upd (Sub.int (by simp)) (zU)) (LSub.trans (B := [setO (svalO s.idx (kO s i f)).1 (svalO s.idx (kO s i f)).2, setsO (hremO s.idx (kO s i f)), setO (.map (some c)) (copM md v60.1), vB b s, vI s, vP s, vF s, vE s, vS s, vV s, box v5 35 rFact f]) (LSub.cons (A := setO (meetV s i f).1 (meetV s i f).2) zS (SPs.of (by rw [meetV_eq])) zL) (LSub.trans (setsO_back (kO s i f)) zL))
  refine ⟨by omega, copM_nd hkn, fun n => ?_⟩
  rw [copM_keys, hcm, Cand_succ, keysOf_iff v60.2]
 try simp only [NF] at h53
 obtain rfl : i = s.pairs.length := by omega
 have hmdl : md.length ≤ s.facts.length := by
  have q := nodup_lenV (l := keysOf md) (r := s.facts.map (·.1)) hkn (fun n hn => hc n ((hcm n).1 hn))
  simpa using q
 refine J_exit (Jr (Jl rfl ty26 Sr (Jl rfl ty3 Sr ?_)))
 refine Js rfl (step_load_box ty35 Sr zS) ?_
 refine JL_lsub (L' := [vB b s, vI s, vP s, vF s, vE s, vS s, vX s, setO (.map (some c)) md, vV s, box v5 35 rFact f]) zL ?_
 refine Jx rfl (step_call (.take (.take (.take (.take (.take (.take (.take (.none _)))))))) (found_spec b s num f ho hpt) ⟨Sr, Sr, Sr, trivial⟩ call40) fun zf => ?_
 refine Ja rfl (JL_nil (Jr (Ja rfl (JL_nil (J_seq ?_)))))
 refine J_seq ?_
 refine K_view (kv := kvT) (R := rBool) (A := mapD kvT rBool (.map (some zf.1.1)) zf.1.2) zS mapD.view fun hkF _ _ => ?_
 refine J_region (Jm rfl ?_)
 refine Jx rfl (step_rangeD (kv := kvT) (R := rBool) underlying66 Sr zS) fun v67 => ?_
 refine JL_nil (J_block ?_)
 refine J_loopL (σ := List (GTri × Bool) × Value) (fun ⟨kd, u⟩ => RanI zf.1.2 kd) (fun ⟨kd, u⟩ => upd (upd (upd (upd (upd (upd (upd (upd env0 3 (tPtr rPt b)) 4 (tPtr rInt num)) 5 (tAt v5 0)) 6 (tV (.int .i64 0))) 9 (tV (.map (some c)))) 11 (tV (.map (some zf.1.1)))) 12 (rV.ty u)) 67 (tAt v67 0)) (fun ⟨kd, u⟩ => [ranD kvT rBool v67 (.map (some zf.1.1)) zf.1.2 (kd.map (·.1)) none, own 77 rTri u (minT s.vio zf.1.2 (kd.map (·.1))), setO (.map (some c)) md, vB b s, vI s, vP s, vF s, vE s, vS s, vX s, vV s, box v5 35 rFact f]) (fun ⟨kd, u⟩ => zf.1.2.length - kd.length) ([], .slice none 0 0) RanI.start (.u (SubE.upd (Sub.rV rfl) (zU))) (LSub.trans (LSub.nilown (e := 77) (R := rTri)) zL) ?_
 rintro ⟨kd, u⟩ hI
 try dsimp only at hI
 refine Jr ?_
 refine Jx rfl (step_nextD (kv := kvT) (R := rBool) rfl Sr zS) fun o1 => ?_
 refine Js rfl (step_extract_next Sr) (JL_nil (J_seq ?_))
 refine J_cond Sr (fun h69 => ?_) (fun h69 => ?_)
 ·
  try simp only [NF] at h69
  obtain ⟨o1, hoo1⟩ := o1
  obtain ⟨⟨pko1, pvo1⟩, rfl⟩ : ∃ p, o1 = some p := by cases o1 with | none => simp at h69 | some p => exact ⟨p, rfl⟩
  dsimp only at hoo1
  have hkl : kd.length ≤ 1000000 := by
   have q := hfr (kd.map (·.1)) hI.nd (fun t ht => (zf.2.ks t).1 (by obtain ⟨p, hp, rfl⟩ := List.mem_map.1 ht; exact List.mem_map.2 ⟨p, hI.sub p hp, rfl⟩))
   simpa using q
  have hI2 := hI.next hoo1
  have hln := hI2.len
  simp only [List.length_append, List.length_singleton] at hln
  refine J_skip (J_block (Jr ?_))
  refine Js rfl (step_entryD (kv := kvT) (R := rBool) Sr zS) ?_
  refine Js rfl (step_extract Sr rfl) ?_
  refine Jx rfl (step_alloc (fun w => zeroValue77 w) zr77) fun v13 => ?_
  refine Ju (step_store_box ty77 Sr Sub.tri' zS) fun _ => ?_
  refine JL_freeze (t := 13) (Sel.take (Sel.none _)) Frz.box ?_
  refine JL_nil (J_seq ?_)
  refine J_drawX [⟨0, [3], 0⟩, ⟨1, [72], 0⟩, ⟨2, [73], 0⟩, ⟨4, [13], 0⟩, ⟨3, [74], 1⟩, ⟨5, [75, 76], 1⟩, ⟨6, [77], 0⟩, ⟨7, [78], 0⟩, ⟨8, [11, 79], 0⟩, ⟨9, [13, 79], 0⟩, ⟨10, [79, 80, 81], 1⟩, ⟨11, [79, 82], 0⟩, ⟨12, [79, 83], 0⟩] rfl (by kernel_rfl) ?_
  refine JX_step rfl rfl rfl rfl (fun _ => step_load_ptr ty26 Sr) ?_
  refine JX_step rfl rfl rfl rfl (fun _ => step_nilCheck Sr) ?_
  refine JX_step rfl rfl rfl rfl (fun _ => step_fieldAddr_own so69 Sr rfl) ?_
  refine JX_step rfl rfl rfl rfl (fun _ => step_load_ptr ty77 Sr) ?_
  refine JX_look rfl rfl rfl rfl (step_load_fld ty66 Sr rfl zS) ?_
  refine JX_look rfl rfl rfl rfl (step_callL zS (contV_spec (vV s) s.nV s.vio mapD.view pko1) ⟨Sub.ofRV, Sr, trivial⟩ call41) ?_
  refine JX_step rfl rfl rfl rfl (fun _ => step_not Sr) ?_
  refine JX_step rfl rfl rfl rfl (fun _ => step_move Sr) ?_
  refine JX_stepG rfl rfl rfl rfl (Gd.plain Sr) rfl rfl (fun hw _ => step_move Sr) ?_
  refine JX_stepG rfl rfl rfl rfl (Gd.plain Sr) rfl rfl (fun hw _ => step_load_ptr ty77 Sr) ?_
  refine JX_lookG rfl rfl rfl rfl (Gd.plain Sr) rfl rfl (fun hw => step_callL zS (contV_spec (ranD kvT rBool v67 (.map (some zf.1.1)) zf.1.2 (kd.map (·.1) ++ [pko1]) (some (pko1, pvo1))) zf.1.1 zf.1.2 ranD.view pko1) ⟨Sub.w hw, Sub.w hw, trivial⟩ call41) ?_
  refine JX_stepG rfl rfl rfl rfl (Gd.plain Sr) rfl rfl (fun hw _ => step_not (Sub.w hw)) ?_
  refine JX_step rfl rfl rfl rfl (fun _ => step_pick_and Sr Sr) ?_
  refine JX_nil ?_
  refine J_cond Sr (fun h84 => ?_) (fun h84 => ?_)
  ·
   try simp only [NF] at h84
   refine J_region (Jm rfl (Jl rfl ty77 Sr ?_))
   refine Js rfl (step_literal (ys := [_]) underlying87 el77 ⟨rfl, Sr, trivial⟩ rfl (by decide)) ?_
   refine Jx rfl (step_append underlying87 el77 Sr Sr zS (by have := minT_len s.vio zf.1.2 (kd.map (·.1)); rw [List.length_map] at this; simp; omega) (by have := minT_len s.vio zf.1.2 (kd.map (·.1)); rw [List.length_map] at this; simp; omega)) fun v88 => ?_
   refine Ja rfl (JL_nil ?_)
   refine K_againL (σ := List (GTri × Bool) × Value) (s := (kd, u)) (kd ++ [(pko1, pvo1)], v88) (by simp only [List.length_append, List.length_singleton]; omega) hI2 (zU) (LSub.cons (A := ranD kvT rBool v67 (.map (some zf.1.1)) zf.1.2 (kd.map (·.1) ++ [pko1]) (some (pko1, pvo1))) zS (ran_snoc (p := (pko1, pvo1))) (LSub.cons (A := own 77 rTri v88 ((minT s.vio zf.1.2 (kd.map (·.1))) ++ [pko1])) zS (own_eq (by rw [List.map_append]; show _ = minT _ _ (_ ++ [pko1]); rw [minT_snoc, if_pos (by simp [h84.1, h84.2])])) zL))
  try simp only [NF] at h84
  refine J_skip ?_
  refine K_againL (σ := List (GTri × Bool) × Value) (s := (kd, u)) (kd ++ [(pko1, pvo1)], u) (by simp only [List.length_append, List.length_singleton]; omega) hI2 (zU) (LSub.cons (A := ranD kvT rBool v67 (.map (some zf.1.1)) zf.1.2 (kd.map (·.1) ++ [pko1]) (some (pko1, pvo1))) zS (ran_snoc (p := (pko1, pvo1))) (LSub.cons (A := own 77 rTri u (minT s.vio zf.1.2 (kd.map (·.1)))) zS (own_eq (by rw [List.map_append]; show _ = minT _ _ (_ ++ [pko1]); rw [minT_snoc, if_neg (by rcases h84 with q | q <;> simp [q]), List.append_nil])) zL))
 try simp only [NF] at h69
 obtain ⟨o1, hoo1⟩ := o1
 obtain rfl : o1 = none := by cases o1 with | none => rfl | some p => simp at h69
 dsimp only at hoo1
 have hall := hI.all hkF hoo1
 obtain ⟨ml, hml⟩ : ∃ ml, ml = (minT s.vio zf.1.2 (kd.map (·.1))) := ⟨_, rfl⟩
 have hmem : ∀ t, t ∈ ml ↔ t ∈ zf.1.2.map (·.1) ∧ contV s.vio t = false ∧ contV zf.1.2 t = false := by
  intro t
  rw [hml, mem_minT]
  have e : t ∈ kd.map (·.1) ↔ t ∈ zf.1.2.map (·.1) := by simp only [List.mem_map, hall]
  rw [e]
 have hnd : ml.Nodup := by rw [hml]; exact hI.nd.filter _
 have hmf : ∀ t ∈ ml, FoundP s num f t := fun t ht => (zf.2.ks t).1 ((hmem t).1 ht).1
 have hmll := hfr ml hnd hmf
 refine K_lsub (L' := [mapD kvT rBool (.map (some zf.1.1)) zf.1.2, junk, own 77 rTri u ml, setO (.map (some c)) md, vB b s, vI s, vP s, vF s, vE s, vS s, vX s, vV s, box v5 35 rFact f]) (LSub.trans ran_end (LSub.cons zS SPs.rfl (LSub.cons zS SPs.rfl (LSub.cons (A := own 77 rTri u (minT s.vio zf.1.2 (kd.map (·.1)))) zS (own_eq hml.symm) zL)))) ?_
 refine K_drop (Sel.take (Sel.take (Sel.none _))) ?_
 refine J_exit (J_seq (Jr (Jl rfl ty26 Sr (Js rfl (step_nilCheck Sr) (Js rfl (step_fieldAddr_own so69 Sr rfl) ?_)))))
 refine Js rfl (step_load_fld ty63 Sr rfl zS) ?_
 refine Js rfl (step_lenD (kv := kvI) (R := rFact) underlying63 Sub.ofRV mapD.view zS) ?_
 refine Js rfl (step_geq Sr Sr) (Jm rfl ?_)
 refine Jk rfl Sr rfl (step_load_ptr ty26 Sr) ?_
 refine Jg rfl Sr rfl (fun hw => step_nilCheck (Sub.w hw)) (Jg rfl Sr rfl (fun hw => step_fieldAddr_own so69 (Sub.w hw) rfl) ?_)
 refine Jg rfl Sr rfl (fun hw => step_load_fld ty66 (Sub.w hw) rfl zS) ?_
 refine Jg rfl Sr rfl (fun hw => step_lenD (kv := kvT) (R := rBool) underlying66 (Sub.trans (Sub.w hw) Sub.ofRV) mapD.view zS) ?_
 refine Jk rfl Sr rfl (step_move Sr) ?_
 refine Jg rfl Sr rfl (fun hw => step_len_own underlying87 (Sub.w hw) zS) ?_
 refine Jg rfl Sr rfl (fun hw => step_add (Sub.w hw) (Sub.w hw) (by have hwq := hw; (try simp only [beqB_t, beqB_f, NF] at hwq); unfold in64; omega)) ?_
 refine Jg rfl Sr rfl (fun hw => step_gtr (Sub.w hw) Sr) (Js rfl (step_pick_or Sr Sr) (JL_nil ?_))
 refine J_cond Sr (fun h105 => ?_) (fun h105 => ?_)
 ·
  try simp only [NF] at h105
  refine Jr (Ja rfl (JL_nil (J_ret ?_)))
  refine K_drop (S := [setO (.map (some c)) md]) zS ?_
  refine K_drop (S := [own 77 rTri u ml]) zS ?_
  refine K_drop (S := [box v5 35 rFact f]) zS ?_
  refine K_lsub (L' := [vB b s, vI s, vP s, vF s, vE s, vS s, vX s, vV s]) zL ?_
  exact K_retv (X := { z : VS × Int // PutR s num f z.1 z.2 }) (rv := .tmp 6) rfl ⟨(s, 3), .limit ml hin.1 hin.2 h35 hnd hmf (by rcases h105 with q | q; exact .inl zG; exact .inr zG)⟩ (.tmp Sr) Sr
 try simp only [NF] at h105
 refine J_skip (J_seq (Jr (Jm rfl ?_)))
 refine Js rfl (step_len_own underlying87 Sr zS) ?_
 refine Jm rfl (JL_nil (J_block ?_))
 refine J_loopL (σ := Nat) (fun i => i ≤ ml.length) (fun i => upd (upd (upd (upd (upd (upd (upd (upd env0 3 (tPtr rPt b)) 4 (tPtr rInt num)) 5 (tAt v5 0)) 6 (tV (.int .i64 0))) 9 (tV (.map (some c)))) 106 (rV.ty u)) 107 (tV (.int .i64 (ml.length : Int)))) 108 (tV (.int .i64 (i : Int)))) (fun i => [mapD kvT rBool (.map (some s.nV)) (addT s.vio (ml.take i)), own 77 rTri u ml, setO (.map (some c)) md, vB b s, vI s, vP s, vF s, vE s, vS s, vX s, box v5 35 rFact f]) (fun i => ml.length - i) 0 zG (zU) (zL) ?_
 rintro i hi
 refine Jr (Js rfl (step_lss Sr Sr) (JL_nil (J_seq ?_)))
 refine J_cond Sr (fun h109 => ?_) (fun h109 => ?_)
 ·
  try simp only [NF] at h109
  have hlt : i < ml.length := by omega
  refine J_skip (J_seq (J_block (Jr ?_)))
  refine Js rfl (step_indexAddr_own  underlying87 ty77 Sr zS Sr rfl (by exact hlt)) ?_
  refine Js rfl (step_load_own ty77 Sr zS (gb (by exact hlt))) ?_
  refine Jx rfl (step_alloc (fun w => zeroValue77 w) zr77) fun v15 => ?_
  refine Ju (step_store_box ty77 Sr Sr zS) fun _ => ?_
  refine JL_freeze (t := 15) (Sel.take (Sel.none _)) Frz.box ?_
  refine JL_nil ?_
  refine J_draw [⟨0, [3], true⟩, ⟨1, [112], true⟩, ⟨2, [113], true⟩, ⟨4, [15], true⟩, ⟨3, [114], false⟩, ⟨5, [115, 116], false⟩] rfl (by kernel_rfl) ?_
  refine Mf rfl rfl (step_load_ptr ty26 Sr) (Mf rfl rfl (step_nilCheck Sr) (Mf rfl rfl (step_fieldAddr_own so69 Sr rfl) (Mf rfl rfl (step_load_ptr ty77 Sr) ?_)))
  refine JM_look rfl rfl rfl rfl (step_load_fld ty66 Sr rfl zS) ?_
  refine JM_stepU rfl rfl rfl (step_mapUpdateD (kv := kvT) (R := rBool) key77 underlying66 Sub.ofRV Sub.tri Sr zS) fun _ => ?_
  refine JM_nil (J_region (Js rfl (step_add Sr Sr z6) (Jm rfl (JL_nil ?_))))
  refine K_againL (σ := Nat) (s := i) (i + 1) zO zG (SubE.upd (Sub.int (by simp)) (zU)) (LSub.cons (A := mapD kvT rBool (.map (some s.nV)) (mput (addT s.vio (ml.take i)) (nth ml i) true)) zS (mapD_eq (addT_succ s.vio hlt).symm) zL)
 try simp only [NF] at h109
 obtain rfl : i = ml.length := by omega
 skip
 refine K_lsub (L' := [mapD kvT rBool (.map (some s.nV)) (addT s.vio ml), own 77 rTri u ml, setO (.map (some c)) md, vB b s, vI s, vP s, vF s, vE s, vS s, vX s, box v5 35 rFact f]) (LSub.cons (A := mapD kvT rBool (.map (some s.nV)) (addT s.vio (ml.take ml.length))) zS (mapD_eq (by rw [List.take_length])) zL) ?_
 refine J_exit (Jr (Js rfl (step_fieldAddr_own so35 Sr rfl) ?_))
 refine Js rfl (step_load_fld ty32 Sr rfl zS) ?_
 refine Jx rfl (step_call (Sel.none _) (CloneV_spec f.Row zG) ⟨Sr, trivial⟩ call42) fun v120 => ?_
 refine Js rfl (step_fieldAddr_own so35 Sr rfl) ?_
 refine JL_freeze (S := [own 91 rValue v120 f.Row]) (t := 120) zS Frz.own ?_
 refine Ju (step_store_fld (R := rSl rValue) (y' := f) ty32 Sr Sr zS ⟨rfl, rfl, rfl, fun _ _ q => q, rfl, by intro g hg; simp only [List.mem_cons, List.not_mem_nil, or_false] at hg; rcases hg with rfl | rfl <;> rfl⟩) fun _ => ?_
 refine JL_nil (J_seq ?_)
 refine J_drawX [⟨0, [3], 0⟩, ⟨1, [122], 0⟩, ⟨2, [123], 0⟩, ⟨4, [4], 0⟩, ⟨3, [124], 1⟩, ⟨5, [5], 1⟩, ⟨6, [125, 126, 127], 2⟩] rfl (by kernel_rfl) ?_
 refine JX_step rfl rfl rfl rfl (fun _ => step_load_ptr ty26 Sr) ?_
 refine JX_step rfl rfl rfl rfl (fun _ => step_nilCheck Sr) ?_
 refine JX_step rfl rfl rfl rfl (fun _ => step_fieldAddr_own so69 Sr rfl) ?_
 refine JX_step rfl rfl rfl rfl (fun _ => step_load_ptr ty3 Sr) ?_
 refine JX_look rfl rfl rfl rfl (step_load_fld ty63 Sr rfl zS) ?_
 refine JX_look rfl rfl rfl rfl (step_load_box ty35 Sr zS) ?_
 refine JX_stepU rfl rfl rfl (step_mapUpdateD (kv := kvI) (R := rFact) (KeyT.int underlying3) underlying63 Sub.ofRV Sr Sr zS) fun _ => ?_
 refine JX_nil (J_seq ?_)
 refine K_lsub (L' := [vE s, vS s, vB b s, vI s, vP s, mapD kvI rFact (.map (some s.nF)) (mput s.facts num f), vX s, mapD kvT rBool (.map (some s.nV)) (addT s.vio ml), own 77 rTri u ml, setO (.map (some c)) md, box v5 35 rFact f]) zL ?_
 refine J_drawX [⟨0, [3], 0⟩, ⟨1, [128], 0⟩, ⟨2, [129], 0⟩, ⟨4, [5], 0⟩, ⟨6, [4], 0⟩, ⟨3, [130], 1⟩, ⟨5, [132], 1⟩, ⟨7, [131, 133, 134], 2⟩] rfl (by kernel_rfl) ?_
 refine JX_step rfl rfl rfl rfl (fun _ => step_load_ptr ty26 Sr) ?_
 refine JX_step rfl rfl rfl rfl (fun _ => step_nilCheck Sr) ?_
 refine JX_step rfl rfl rfl rfl (fun _ => step_fieldAddr_own so69 Sr rfl) ?_
 refine JX_step rfl rfl rfl rfl (fun _ => step_fieldAddr_own so35 Sr rfl) ?_
 refine JX_step rfl rfl rfl rfl (fun _ => step_load_ptr ty3 Sr) ?_
 refine JX_look rfl rfl rfl rfl (step_load_fld ty64 Sr rfl zS) ?_
 refine JX_look rfl rfl rfl rfl (step_load_fld ty3 Sr rfl zS) ?_
 refine JX_stepX rfl rfl rfl rfl (step_call (.take (.take (.none _))) (putI_spec s.nE s.ent f.Entity num) ⟨Sub.ofRV, Sr, Sr, trivial⟩ call43) fun v135 => ?_
 refine JX_nil (J_seq ?_)
 refine K_lsub (L' := [vB b s, putM s num [], mapD kvI rV (.map (some s.nE)) (hvals (sput s.ent f.Entity (.map (some v135.1)) num)), setsO (sput s.ent f.Entity (.map (some v135.1)) num), vP s, mapD kvI rFact (.map (some s.nF)) (mput s.facts num f), mapD kvT rBool (.map (some s.nV)) (addT s.vio ml), own 77 rTri u ml, setO (.map (some c)) md, box v5 35 rFact f]) (LSub.trans (B := [vI s, vX s, vB b s, mapD kvI rV (.map (some s.nE)) (hvals (sput s.ent f.Entity (.map (some v135.1)) num)), setsO (sput s.ent f.Entity (.map (some v135.1)) num), vP s, mapD kvI rFact (.map (some s.nF)) (mput s.facts num f), mapD kvT rBool (.map (some s.nV)) (addT s.vio ml), own 77 rTri u ml, setO (.map (some c)) md, box v5 35 rFact f]) zL (LSub.trans (B := [putM s num [], vB b s, mapD kvI rV (.map (some s.nE)) (hvals (sput s.ent f.Entity (.map (some v135.1)) num)), setsO (sput s.ent f.Entity (.map (some v135.1)) num), vP s, mapD kvI rFact (.map (some s.nF)) (mput s.facts num f), mapD kvT rBool (.map (some s.nV)) (addT s.vio ml), own 77 rTri u ml, setO (.map (some c)) md, box v5 35 rFact f]) (LSub.ex s.idx (LSub.stars (LSub.pure (IdxR.start s.idx num) LSub.rfl))) zL)) ?_
 refine J_region (Jl rfl ty26 Sr ?_)
 refine Js rfl (step_load_box ty35 Sr zS) ?_
 refine Js rfl (step_makeFunc (As := [_, _]) ⟨Sr, Sr, trivial⟩) ?_
 refine Jx rfl (step_call (.take (.take (.none _))) (places_spec b s f ho (putM s num) 45 [tPtr rPt b, tPtr rInt num] call45 (fun pre k => putClo2_spec b s num pre k)) ⟨Sr, Sr, Sr, trivial⟩ call44) fun v139 => ?_
 refine JL_nil (J_seq ?_)
 refine J_drawX [⟨0, [3], 0⟩, ⟨1, [140], 0⟩, ⟨2, [141], 0⟩, ⟨4, [9], 0⟩, ⟨3, [142], 1⟩, ⟨5, [144], 1⟩, ⟨6, [143, 145], 0⟩, ⟨7, [140], 0⟩, ⟨8, [147], 0⟩, ⟨9, [146, 148], 2⟩] rfl (by kernel_rfl) ?_
 refine JX_step rfl rfl rfl rfl (fun _ => step_load_ptr ty26 Sr) ?_
 refine JX_step rfl rfl rfl rfl (fun _ => step_nilCheck Sr) ?_
 refine JX_step rfl rfl rfl rfl (fun _ => step_fieldAddr_own so69 Sr rfl) ?_
 refine JX_step rfl rfl rfl rfl (fun _ => step_move Sr) ?_
 refine JX_look rfl rfl rfl rfl (step_load_fld ty3 Sr rfl zS) ?_
 refine JX_look rfl rfl rfl rfl (step_lenD (kv := kvI) (R := rBool) underlying82 Sr mapD.view zS) ?_
 refine JX_step rfl rfl rfl rfl (fun _ => step_add Sr Sr (show in64 (s.work + (md.length : Int)) by unfold in64; omega)) ?_
 refine JX_step rfl rfl rfl rfl (fun _ => step_nilCheck Sr) ?_
 refine JX_step rfl rfl rfl rfl (fun _ => step_fieldAddr_own so69 Sr rfl) ?_
 refine JX_stepU rfl rfl rfl (step_store_fld (R := rInt) (y' := ({ s with work := s.work + md.length } : VS).g) ty3 Sr Sr zS (by exact ⟨rfl, rfl, rfl, rfl, rfl, rfl, rfl, fun _ _ q => q, rfl, by intro g hg; cases hg⟩)) fun _ => ?_
 refine JX_nil (Jr (Ja rfl (JL_nil (J_ret ?_))))
 refine K_drop (S := [setO (.map (some c)) md]) zS ?_
 refine K_drop (S := [own 77 rTri u ml]) zS ?_
 refine K_drop (S := [box v5 35 rFact f]) zS ?_
 refine K_lsub (L' := [(putM s num (keysV s.rules s.pairs f s.pairs.length)), vB b { s with work := s.work + md.length }, mapD kvI rV (.map (some s.nE)) (hvals (sput s.ent f.Entity (.map (some v135.1)) num)), setsO (sput s.ent f.Entity (.map (some v135.1)) num), vP s, mapD kvI rFact (.map (some s.nF)) (mput s.facts num f), mapD kvT rBool (.map (some s.nV)) (addT s.vio ml)]) zL ?_
 refine K_ex fun q => ?_
 refine K_stars ?_
 refine K_pure fun hR => ?_
 refine K_lsub (L' := [vB b { s with facts := mput s.facts num f, ent := sput s.ent f.Entity (.map (some v135.1)) num, idx := q, vio := addT s.vio ml, work := s.work + md.length }, vI { s with facts := mput s.facts num f, ent := sput s.ent f.Entity (.map (some v135.1)) num, idx := q, vio := addT s.vio ml, work := s.work + md.length }, vP { s with facts := mput s.facts num f, ent := sput s.ent f.Entity (.map (some v135.1)) num, idx := q, vio := addT s.vio ml, work := s.work + md.length }, vF { s with facts := mput s.facts num f, ent := sput s.ent f.Entity (.map (some v135.1)) num, idx := q, vio := addT s.vio ml, work := s.work + md.length }, vE { s with facts := mput s.facts num f, ent := sput s.ent f.Entity (.map (some v135.1)) num, idx := q, vio := addT s.vio ml, work := s.work + md.length }, vS { s with facts := mput s.facts num f, ent := sput s.ent f.Entity (.map (some v135.1)) num, idx := q, vio := addT s.vio ml, work := s.work + md.length }, vX { s with facts := mput s.facts num f, ent := sput s.ent f.Entity (.map (some v135.1)) num, idx := q, vio := addT s.vio ml, work := s.work + md.length }, vV { s with facts := mput s.facts num f, ent := sput s.ent f.Entity (.map (some v135.1)) num, idx := q, vio := addT s.vio ml, work := s.work + md.length }]) zL ?_
 exact K_retv (X := { z : VS × Int // PutR s num f z.1 z.2 }) (rv := .tmp 6) rfl ⟨({ s with facts := mput s.facts num f, ent := sput s.ent f.Entity (.map (some v135.1)) num, idx := q, vio := addT s.vio ml, work := s.work + md.length }, 0), .ok zf.1.2 ml md q v135.1 hin.1 hin.2 h35 zf.2 hmem hnd hkn hcm hR⟩ (.tmp Sr) Sr
open Go Go.Proofs Go.Proofs.Tryz
theorem Collect_spec {gf : Nat} {As : List Ty} {A : List SP} {Ok Fin : List Int → Prop} (it : ItSpec prog gf As A (fun x : Int => [tV (.int .i64 x)]) Ok Fin) (he : ∀ args w, (callFunc gf args).run prog w = .ok (.enter gf args) w) (hb : ∀ p, Ok p → p.length ≤ 1000000) : Spec (X := Value × { xs : List Int // Fin xs }) prog 123 [tClo gf As] (A) (fun z => rV.ty z.1) (fun z => own 3 rInt z.1 z.2.1 :: A) := by
 refine Spec.enter func123 rfl rfl fun h0 w0 fr0 => ?_
 refine Jr (Ja rfl (JL_nil (Jr (Jm rfl ?_))))
 refine Jx rfl (step_call (Sel.all _) (AppendSeq_spec it he hb) ⟨Sr, Sr, trivial⟩ call148) fun z => ?_
 refine Ja rfl (JL_nil (J_ret ?_))
 refine K_lsub (LSub.of (L' := own 3 rInt z.1 z.2.1 :: A) (by simp)) ?_
 refine K_retv (rv := .tmp 2) rfl z (.tmp Sr) Sr
theorem Sorted_spec {gf : Nat} {As : List Ty} {A : List SP} {Ok Fin : List Int → Prop} (it : ItSpec prog gf As A (fun x : Int => [tV (.int .i64 x)]) Ok Fin) (he : ∀ args w, (callFunc gf args).run prog w = .ok (.enter gf args) w) (hb : ∀ p, Ok p → p.length ≤ 1000000) (hf : ∀ p, Fin p → p.length ≤ 1000000) : Spec (X := { xs : List Int // Fin xs }) prog 100 [tClo gf As] (A) (fun z => tSlE 3 rInt (sortI z.1)) (fun z => A) := by
 refine Spec.enter func100 rfl rfl fun h0 w0 fr0 => ?_
 refine Jr (Ja rfl (JL_nil (Jr (Jm rfl ?_))))
 refine Jx rfl (step_call (Sel.all _) (Collect_spec it he hb) ⟨Sr, trivial⟩ call123) fun z => ?_
 refine Ja rfl (JL_nil (Jr (Jm rfl ?_)))
 refine Jx rfl (step_call zS (Sort_spec _ _ (by have := hf _ z.2.2; omega)) ⟨Sr, trivial⟩ call92) fun v7 => ?_
 refine JL_nil (Jr (Jm rfl (Ja rfl (JL_nil (J_ret ?_)))))
 refine K_lsub (LSub.of (L' := own 3 rInt z.1 (sortI z.2.1) :: A) (by simp)) ?_
 refine K_ret1' (rv := .tmp 2) rfl z.2 (S := [own 3 rInt z.1 (sortI z.2.1)]) (Sel.take (Sel.none _)) (.tmp Sr) ?_
 exact Frz.ownE
open Go Go.Proofs Go.Proofs.Tryz
theorem Values1o_spec (v : Value) (l : List Int) (hl : l.length ≤ 1000000000000) : ItSpec prog 124 [tPtr rV v] [own 3 rInt v l] (fun x : Int => [tV (.int .i64 x)]) (fun p => p <+: l) (fun p => p = l) := by
 intro M Mx
 refine Spec.enter func124 rfl rfl fun h0 w0 fr0 => ?_
 refine Jr (Jl rfl ty33V Sr ?_)
 refine Js rfl (step_len_own underlying33 Sr zS) ?_
 refine Jm rfl (JL_nil (J_block ?_))
 refine J_loopL (σ := Nat) (fun i => i ≤ l.length) (fun i => upd (upd (upd (upd env0 0 (tYield prog (fun x : Int => [tV (.int .i64 x)]) (fun p => p <+: l) M Mx)) 5 (rV.ty v)) 6 (tV (.int .i64 l.length))) 7 (tV (.int .i64 i))) (fun i => [M (l.take i), own 3 rInt v l]) (fun i => l.length - i) 0 zG (zU) (LSub.rfl) ?_
 rintro i hi
 refine Jr (Js rfl (step_lss Sr Sr) (JL_nil (J_seq ?_)))
 refine J_cond Sr (fun hc1 => ?_) (fun hc1 => ?_)
 ·
  try simp only [NF] at hc1
  have hlt : i < l.length := by omega
  refine J_skip (J_seq (J_block (Jr ?_)))
  refine Js rfl (step_indexAddr_own  underlying33 ty3 Sr zS Sr rfl (by first | assumption | omega)) ?_
  refine Js rfl (step_load_own ty3 Sr zS (gb (by first | assumption | omega))) ?_
  refine Ja rfl (JL_nil (Jr (Jm rfl (Jm rfl ?_))))
  refine Jx rfl (step_yield (T := fun x : Int => [tV (.int .i64 x)]) (Ok := fun p => p <+: l) (M := M) (Mx := Mx) (pre := l.take i) (y := nth l i) Sr (by exact takeB hlt ▸ List.take_prefix _ _) (by exact ⟨Sr, trivial⟩) zS) fun v13 => ?_
  refine Js rfl (step_not Sr) (JL_nil ?_)
  refine J_cond Sr (fun hb => ?_) (fun hb => ?_)
  ·
   try simp only [NF] at hb
   subst hb
   refine J_ret ?_
   refine K_itStop (Fin := fun p => p = l) (M := M) (Mx := Mx) (A := [own 3 rInt v l]) ?_ (l.take i ++ [nth l i]) ?_
   ·
    rfl
   exact LSub.of rfl
  try simp only [NF] at hb
  subst hb
  refine J_skip (J_region (Js rfl (step_add Sr Sr z6) (Jm rfl (JL_nil ?_))))
  refine K_againL (σ := Nat) (s := i) (i + 1) zO zG (zU) (LSub.of (by rw [takeB hlt]; rfl))
 try simp only [NF] at hc1
 refine J_exit ?_
 refine K_endRet (K_itDone (Fin := fun p => p = l) (M := M) (Mx := Mx) (A := [own 3 rInt v l]) ?_ l rfl ?_)
 ·
  rfl
 exact LSub.of (by obtain rfl : i = l.length := zG; rw [List.take_length])
theorem Valueso_spec (v : Value) : Fun1 prog 101 [rV.ty v] (tClo 124 [tPtr rV v]) := by
 refine Spec.enter func101 rfl rfl fun h0 w0 fr0 => ?_
 refine Jr (Js rfl (step_box (R := rV) Sr) (Ja rfl (JL_nil (Jr (Js rfl (step_makeFunc (As := [_]) ⟨Sr, trivial⟩) ?_)))))
 refine Ja rfl (JL_nil (J_ret ?_))
 exact K_ret1 (t := 2) rfl () Sr
theorem ty129Y {α : Type} {T : α → List Ty} {Ok : List α → Prop} {M Mx : List α → SP} : TyOf prog 129 (rY prog T Ok M Mx) := ⟨fun w => isAgg129 w, fun w => sizeOf129 w⟩
theorem ty24C {g : Nat} {As : List Ty} : TyOf prog 24 (rC g As) := ⟨fun w => isAgg24 w, fun w => sizeOf24 w⟩
def okT (d : GRule) (facts : List GFact) (at_ : List Int) : Bool := d.Tests.all fun t => holdsV t d.Tables.length facts at_
def cand (d : GRule) (facts : List GFact) (at_ : List Int) (c : Int) : Bool := decide ((nth facts c.toNat).Table = nth d.Tables at_.length) && !at_.contains c && okT d facts (at_ ++ [c])
/-- The sets that n more variables make, in order. -/
def asg (d : GRule) (facts : List GFact) (cands : List Int) : Nat → List Int → List (List Int)
  | 0, at_ => [sortI at_]
  | n + 1, at_ => cands.flatMap fun c => if cand d facts at_ c then asg d facts cands n (at_ ++ [c]) else []
def asgN (d : GRule) (facts : List GFact) (cands : List Int) (n : Nat) (at_ l : List Int) : List (List Int) := l.flatMap fun c => if cand d facts at_ c then asg d facts cands n (at_ ++ [c]) else []
theorem asgN_succ {d : GRule} {facts : List GFact} {cands : List Int} {n : Nat} {at_ : List Int} {i : Nat} (h : i < cands.length) :
    asgN d facts cands n at_ (cands.take (i + 1)) = asgN d facts cands n at_ (cands.take i) ++ (if cand d facts at_ (nth cands i) then asg d facts cands n (at_ ++ [nth cands i]) else []) := by rw [takeB h]; simp [asgN]
theorem asgN_pre {d : GRule} {facts : List GFact} {cands : List Int} {n : Nat} {at_ : List Int} (i : Nat) : asgN d facts cands n at_ (cands.take i) <+: asg d facts cands (n + 1) at_ := by
  have : asg d facts cands (n + 1) at_ = asgN d facts cands n at_ (cands.take i) ++ asgN d facts cands n at_ (cands.drop i) := by
    show asgN d facts cands n at_ cands = _
    simp only [asgN]
    rw [← List.flatMap_append, List.take_append_drop]
  rw [this]; exact List.prefix_append _ _
theorem take_all {α : Type} [Inhabited α] (p : α → Bool) {l : List α} {j : Nat} (h : j < l.length) : (l.take (j + 1)).all p = ((l.take j).all p && p (nth l j)) := by rw [takeB h, List.all_append]; simp
structure PutX where
  b : Bool
  v : Value
  a : List Int
  ys : List (List Int)
def putL (bat : Nat) (M Mx : List (List Int) → SP) (at_ : List Int) (done : List (List Int)) (z : PutX) : List SP :=
  match z.b with
  | true => [box bat 33 rV z.v, own 3 rInt z.v at_, M done]
  | false => [box bat 33 rV z.v, own 3 rInt z.v z.a, Mx z.ys]
abbrev rI2 : Rp (List Int) := rSlE 3 rInt
abbrev tI2 : List Int → List Ty := fun x => [tSlE 3 rInt x]
theorem ty33E : TyOf prog 33 rI2 := ⟨fun w => isAgg33 w, fun w => sizeOf33 w⟩
theorem zr33E : ∀ h, (rI2.ty []).p h (Value.slice none 0 0) := fun h => Sub.nilslE h _ rfl
theorem el33E : ElT prog 33 rI2 24 [] := ⟨ty33E, by decide, t33, (Value.slice none 0 0), by kernel_rfl, by kernel_rfl, by kernel_rfl, by kernel_rfl, zr33E⟩
abbrev okP (tot : List (List Int)) : List (List Int) → Prop := fun p => p <+: tot
abbrev putAs (bat : Nat) (d : GRule) (facts : List GFact) (cands : List Int) (tot : List (List Int)) (M Mx : List (List Int) → SP) : List Ty :=
  [tAt bat 0, tPtr rRule d, tPtr (rY prog tI2 (okP tot) M Mx) (), tPtr (rSl rInt) cands, tPtr (rSl rFact) facts]
def PutSpec (bat : Nat) (d : GRule) (facts : List GFact) (cands : List Int) (tot : List (List Int)) (M Mx : List (List Int) → SP) (n : Nat) (at_ : List Int) (v : Value) (pre : List (List Int)) : Prop :=
  Spec (X := PutX) prog 99 (putAs bat d facts cands tot M Mx ++ [tPut 99 (putAs bat d facts cands tot M Mx)]) [box bat 33 rV v, own 3 rInt v at_, M pre] (fun z => tV (.bool z.b)) (fun z => putL bat M Mx at_ (pre ++ asg d facts cands n at_) z)
theorem InB_snoc {l : List Int} {n : Nat} {c : Int} (h : InB l n) (h0 : 0 ≤ c) (h1 : c < (n : Int)) : InB (l ++ [c]) n := fun a ha => by
  rcases List.mem_append.1 ha with ha | ha
  · exact h a ha
  · simp at ha; subst ha; exact ⟨h0, h1⟩
theorem put0_spec (bat : Nat) (d : GRule) (facts : List GFact) (cands : List Int) (tot : List (List Int)) (M Mx : List (List Int) → SP) (hc : InB cands facts.length) (hcl : cands.length ≤ 1000000) (hfl : facts.length ≤ 1000000) (htl : d.Tables.length ≤ 1000) (hte : d.Tests.length ≤ 4000000) (n : Nat) (at_ : List Int) (v : Value) (pre : List (List Int)) (hn : at_.length + 0 = d.Tables.length) (hat : InB at_ facts.length) (hok : pre ++ asg d facts cands 0 at_ <+: tot) : PutSpec bat d facts cands tot M Mx 0 at_ v pre := by
 unfold PutSpec
 refine Spec.enter func99 rfl rfl fun h0 w0 fr0 => ?_
 refine Jr (Ja rfl (JL_nil (J_seq (Jr ?_))))
 refine Js rfl (step_load_box ty33V Sr zS) ?_
 refine Js rfl (step_len_own underlying33 Sr zS) ?_
 refine Js rfl (step_fieldAddr so59 Sr rfl) (Jl rfl ty33 Sr (Js rfl (step_len_sl underlying33 Sr) (Js rfl (step_eql Sr Sr) (JL_nil ?_))))
 refine J_cond Sr (fun hc1 => ?_) (fun hc1 => ?_)
 ·
  try simp only [NF] at hc1
  refine J_seq ?_
  refine J_draw [⟨0, [2], true⟩, ⟨1, [0], false⟩, ⟨2, [19], true⟩, ⟨3, [20], false⟩, ⟨4, [18, 21], false⟩, ⟨5, [22], true⟩] rfl (by kernel_rfl) ?_
  refine Mf rfl rfl (step_load_ptr ty129Y Sr) ?_
  refine JM_look rfl rfl rfl rfl (step_load_box ty33V Sr zS) ?_
  refine Mf rfl rfl (step_call0 (Valueso_spec _) ⟨Sr, trivial⟩ call101) ?_
  refine JM_stepX rfl rfl rfl rfl (step_call zS (Sorted_spec (Values1o_spec v at_ zG) call124 (fun p hp => by have := hp.length_le; omega) (fun p hp => by rw [hp]; omega)) ⟨Sr, trivial⟩ call100) fun z => ?_
  refine JM_stepX rfl rfl rfl rfl (step_yield (T := tI2) (Ok := okP tot) (M := M) (Mx := Mx) (pre := pre) (y := sortI at_) Sr (by exact hok) (by exact ⟨Sub.slE (by rw [z.2]), trivial⟩) zS) fun b => ?_
  refine Mf rfl rfl (step_assign Sr) (JM_nil (J_ret ?_))
  refine K_lsub (L' := putL bat M Mx at_ (pre ++ asg d facts cands 0 at_) ⟨b, v, at_, pre ++ [sortI at_]⟩) ?_ ?_
  ·
   cases b
   ·
    exact .r zS (.r zS (.c zS (SPs.rfl) LSub.nil))
   exact .r zS (.r zS (.c zS (SPs.rfl) LSub.nil))
  exact K_ret1 (t := 6) rfl (⟨b, v, at_, pre ++ [sortI at_]⟩ : PutX) Sr
 try simp only [NF] at hc1
 exfalso; omega
theorem putS_spec (bat : Nat) (d : GRule) (facts : List GFact) (cands : List Int) (tot : List (List Int)) (M Mx : List (List Int) → SP) (hc : InB cands facts.length) (hcl : cands.length ≤ 1000000) (hfl : facts.length ≤ 1000000) (htl : d.Tables.length ≤ 1000) (hte : d.Tests.length ≤ 4000000) (n : Nat) (IH : ∀ (at_ : List Int) (v : Value) (pre : List (List Int)), at_.length + n = d.Tables.length → InB at_ facts.length → pre ++ asg d facts cands n at_ <+: tot → PutSpec bat d facts cands tot M Mx n at_ v pre) (at_ : List Int) (v : Value) (pre : List (List Int)) (hn : at_.length + (n + 1) = d.Tables.length) (hat : InB at_ facts.length) (hok : pre ++ asg d facts cands (n + 1) at_ <+: tot) : PutSpec bat d facts cands tot M Mx (n + 1) at_ v pre := by
 unfold PutSpec
 refine Spec.enter func99 rfl rfl fun h0 w0 fr0 => ?_
 refine Jr (Ja rfl (JL_nil (J_seq (Jr ?_))))
 refine Js rfl (step_load_box ty33V Sr zS) ?_
 refine Js rfl (step_len_own underlying33 Sr zS) ?_
 refine Js rfl (step_fieldAddr so59 Sr rfl) (Jl rfl ty33 Sr (Js rfl (step_len_sl underlying33 Sr) (Js rfl (step_eql Sr Sr) (JL_nil ?_))))
 refine J_cond Sr (fun hc1 => ?_) (fun hc1 => ?_)
 ·
  try simp only [NF] at hc1
  exfalso; omega
 try simp only [NF] at hc1
 refine J_skip (J_seq (Jr (Jl rfl ty33 Sr (Js rfl (step_len_sl underlying33 Sr) (Jm rfl ?_)))))
 refine JL_nil (J_block ?_)
 refine J_loopL (σ := Nat × Value) (fun ⟨i, u⟩ => i ≤ cands.length) (fun ⟨i, u⟩ => upd (upd (upd (upd (upd (upd (upd env0 0 (tAt bat 0)) 1 (tPtr rRule d)) 4 (tPtr (rSl rFact) facts)) 5 (tPut 99 (putAs bat d facts cands tot M Mx))) 23 (tSl rInt cands)) 24 (tV (.int .i64 cands.length))) 25 (tV (.int .i64 i))) (fun ⟨i, u⟩ => [box bat 33 rV u, own 3 rInt u at_, M (pre ++ asgN d facts cands n at_ (cands.take i))]) (fun ⟨i, u⟩ => cands.length - i) (0, v) (by simp) (zU) (.r zS (.r zS (.c zS (SPs.of (by simp [asgN])) LSub.nil))) ?_
 rintro ⟨i, u⟩ hi
 try dsimp only at hi
 refine Jr (Js rfl (step_lss Sr Sr) (JL_nil (J_seq ?_)))
 refine J_cond Sr (fun hc2 => ?_) (fun hc2 => ?_)
 ·
  try simp only [NF] at hc2
  have hlt : i < cands.length := by omega
  obtain ⟨hc0, hc1⟩ := hc _ (nth_mem hlt)
  refine J_skip (J_seq (J_block (Jr ?_)))
  refine Js rfl (step_indexAddr_sl  underlying33 ty3 Sr Sr rfl (gb (by first | assumption | omega))) ?_
  refine Jl rfl ty3 Sr (Ja rfl (JL_nil (J_seq (J_seq ?_))))
  refine J_draw [⟨0, [4], true⟩, ⟨1, [8], true⟩, ⟨2, [29, 30], true⟩, ⟨3, [31], true⟩, ⟨4, [32], true⟩, ⟨5, [1], true⟩, ⟨6, [34], true⟩, ⟨7, [0], false⟩, ⟨8, [36], false⟩, ⟨9, [35, 37], true⟩, ⟨10, [38], true⟩, ⟨11, [33, 39], true⟩, ⟨12, [40], true⟩, ⟨14, [8, 41], true⟩, ⟨13, [0, 41], false⟩, ⟨15, [41, 42, 43], false⟩, ⟨16, [41, 44], true⟩] rfl (by kernel_rfl) ?_
  refine Mf rfl rfl (step_load_ptr ty41 Sr) (Mv rfl rfl ?_)
  refine Mf rfl rfl (step_indexAddr_sl (i := (nth cands i).toNat) underlying41 ty35 Sr Sr (by show nth cands i = _; omega) (gb zG)) ?_
  refine Mf rfl rfl (step_fieldAddr so35 Sr rfl) (Mf rfl rfl (step_load_ptr ty3 Sr) (Mf rfl rfl (step_fieldAddr so59 Sr rfl) (Mf rfl rfl (step_load_ptr ty33 Sr) ?_)))
  refine JM_look rfl rfl rfl rfl (step_load_box ty33V Sr zS) ?_
  refine JM_look rfl rfl rfl rfl (step_len_own underlying33 Sr zS) ?_
  refine Mf rfl rfl (step_indexAddr_sl  underlying33 ty3 Sr Sr rfl (gb (by show at_.length < d.Tables.length; omega))) ?_
  refine Mf rfl rfl (step_load_ptr ty3 Sr) (Mf rfl rfl (step_neq Sr Sr) (Mv rfl rfl ?_))
  refine Mk rfl rfl Sr rfl (step_move Sr) ?_
  refine JM_lookG rfl rfl rfl rfl (Gd.plain Sr) rfl rfl (fun hw => step_load_box ty33V Sr zS) ?_
  refine JM_lookG rfl rfl rfl rfl (Gd.plain Sr) rfl rfl (fun hw => step_call_look zS (Contains__spec _ _ zG) (fun _ => Flat.v _) ⟨(Frz.w hw Frz.own), (Frz.sub (Sub.w hw)), trivial⟩ call50) ?_
  refine Mf rfl rfl (step_pick_or Sr Sr) (JM_nil ?_)
  refine J_cond Sr (fun h45 => ?_) (fun h45 => ?_)
  ·
   try simp only [NF] at h45
   have hcd : cand d facts at_ (nth cands i) = false := by simp only [cand]; rcases h45 with h | h <;> simp_all
   refine J_exit (J_region (Js rfl (step_add Sr Sr z6) (Jm rfl (JL_nil ?_))))
   refine K_againL (σ := Nat × Value) (s := (i, u)) (i + 1, u) zO (by simp; omega) (zU) (.r zS (.r zS (.c zS (SPs.of (by rw [asgN_succ hlt, hcd]; simp)) LSub.nil)))
  try simp only [NF] at h45
  have hat2 : InB (at_ ++ [nth cands i]) facts.length := InB_snoc hat hc0 hc1
  refine J_skip (Jr ?_)
  refine Js rfl (step_load_box ty33V Sr zS) ?_
  refine Jm rfl ?_
  refine Js rfl (step_literal (ys := [_]) underlying33 el3 ⟨rfl, Sr, trivial⟩ rfl (by decide)) ?_
  refine Jx rfl (step_append underlying33 el3 Sr Sr zS (by simp; omega) (by simp; omega)) fun u2 => ?_
  refine Ju (step_store_box (R := rV) ty33V Sr Sr zS) fun _ => ?_
  refine JL_nil (Jr (Ja rfl (JL_nil (J_seq (Jr ?_)))))
  refine Js rfl (step_fieldAddr so59 Sr rfl) (Jl rfl ty57 Sr (Js rfl (step_len_sl underlying57 Sr) (Jm rfl (JL_nil (J_block ?_)))))
  refine J_loopL (σ := Nat) (fun j => j ≤ d.Tests.length) (fun j => upd (upd (upd (upd (upd (upd (upd (upd (upd (upd (upd (upd (upd (upd (upd (upd env0 0 (tAt bat 0)) 1 (tPtr rRule d)) 4 (tPtr (rSl rFact) facts)) 5 (tPut 99 (putAs bat d facts cands tot M Mx))) 8 (tV (.int .i64 (nth cands i)))) 9 (tV (.bool ((d.Tests.take j).all fun t => holdsV t d.Tables.length facts (at_ ++ [nth cands i]))))) 23 (tSl rInt cands)) 24 (tV (.int .i64 cands.length))) 25 (tV (.int .i64 i))) 28 (tV (.int .i64 (nth cands i)))) 30 (tV (.int .i64 (nth cands i)))) 47 (tV (.int .i64 (nth cands i)))) 49 (rV.ty u2)) 51 (tSl rTest d.Tests)) 52 (tV (.int .i64 d.Tests.length))) 53 (tV (.int .i64 j))) (fun j => [box bat 33 rV u2, own 3 rInt u2 (at_ ++ [nth cands i]), M (pre ++ asgN d facts cands n at_ (cands.take i))]) (fun j => d.Tests.length - j) 0 zG (.u (.u (.u (.u (.u (.u (.u (.u (.u (.u (SubE.upd (Sub.bool (by simp)) (zU)))))))))))) (LSub.rfl) ?_
  rintro j hj
  refine Jr (Js rfl (step_lss Sr Sr) (JL_nil (J_seq ?_)))
  refine J_cond Sr (fun hc4 => ?_) (fun hc4 => ?_)
  ·
   try simp only [NF] at hc4
   have hltj : j < d.Tests.length := by omega
   refine J_skip (J_seq (J_block (Jr ?_)))
   refine Js rfl (step_indexAddr_sl  underlying57 ty107 Sr Sr rfl (gb (by first | assumption | omega))) ?_
   refine Jl rfl ty107 Sr ?_
   refine Jx rfl (step_alloc (fun w => zeroValue107 w) zr107) fun v11 => ?_
   refine Ju (step_store_box ty107 Sr Sr zS) fun _ => ?_
   refine JL_freeze (t := 11) (Sel.take (Sel.none _)) Frz.box ?_
   refine JL_nil (J_region (Jm rfl (Jm rfl ?_)))
   refine Jk rfl Sr rfl (step_load_ptr ty107 Sr) ?_
   refine Jk rfl Sr rfl (step_fieldAddr so59 Sr rfl) ?_
   refine Jg rfl Sr rfl (fun hw => step_load_ptr ty33 (Sub.w hw)) (Jg rfl Sr rfl (fun hw => step_len_sl underlying33 (Sub.w hw)) ?_)
   refine Jk rfl Sr rfl (step_load_ptr ty41 Sr) ?_
   refine Jk rfl Sr rfl (step_load_box ty33V Sr zS) ?_
   refine Jg rfl Sr rfl (fun hw => step_call_look zS (holds_spec _ _ _ _ hat2) (fun _ => Flat.v _) ⟨(Frz.sub (Sub.w hw)), (Frz.sub (Sub.w hw)), (Frz.sub (Sub.w hw)), (Frz.w hw Frz.own), trivial⟩ call102) ?_
   refine Js rfl (step_pick_and Sr Sr) (Ja rfl (JL_nil (J_region (Js rfl (step_add Sr Sr z6) (Jm rfl ?_)))))
   refine JL_nil ?_
   refine K_againL (σ := Nat) (s := j) (j + 1) zO zG (.u (.u (.u (.u (.u (.u (.u (.u (.u (.u (SubE.upd (Sub.bool (take_all _ hltj).symm) (zU)))))))))))) (LSub.rfl)
  try simp only [NF] at hc4
  obtain rfl : j = d.Tests.length := by omega
  have hok2 : ((d.Tests.take d.Tests.length).all fun t => holdsV t d.Tables.length facts (at_ ++ [nth cands i])) = true → (pre ++ asgN d facts cands n at_ (cands.take i)) ++ asg d facts cands n (at_ ++ [nth cands i]) <+: tot := by
   intro hq
   rw [List.take_length] at hq
   have hcd : cand d facts at_ (nth cands i) = true := by simp only [cand, okT, Bool.and_eq_true, decide_eq_true_eq, Bool.not_eq_true']; exact ⟨⟨h45.1, h45.2⟩, hq⟩
   have h1 := asgN_pre (d := d) (facts := facts) (n := n) (at_ := at_) (cands := cands) (i + 1)
   rw [asgN_succ hlt, hcd] at h1
   rw [List.append_assoc]
   exact List.IsPrefix.trans (List.prefix_append_right_inj pre |>.2 (by simpa using h1)) hok
  refine J_exit (J_seq (Jr (Jm rfl (Jm rfl ?_))))
  refine Jk rfl Sr rfl (step_load_put ty24 Sr) ?_
  refine JL_stepGX (tV (.bool false)) rfl rfl rfl (Gd.plain Sr) rfl rfl (fun hw => step_callv (aT := []) (Sub.w hw) (Sel.all _) (IH (at_ ++ [nth cands i]) u2 (pre ++ asgN d facts cands n at_ (cands.take i)) (by simp; omega) hat2 (hok2 (bq_true hw))) trivial call99) (fun hw z => ?_) (fun hw => ?_)
  ·
   skip
   obtain ⟨zb, zv, za, zy⟩ := z
   cases zb
   ·
    skip
    refine Jg rfl Sr rfl (fun hw => step_not (Sub.w hw)) (Js rfl (step_pick_and Sr Sr) (JL_nil ?_))
    refine J_cond Sr (fun h73 => ?_) (fun h73 => ?_)
    ·
     try simp only [NF] at h73
     refine Jr (Ja rfl (JL_nil (J_ret ?_)))
     refine K_lsub (L' := putL bat M Mx at_ (pre ++ asg d facts cands (n + 1) at_) ⟨false, zv, za, zy⟩) ?_ ?_
     ·
      exact .r zS (.r zS (.c zS (SPs.rfl) LSub.nil))
     exact K_ret1 (t := 6) rfl (⟨false, zv, za, zy⟩ : PutX) Sr
    try simp only [NF] at h73
    rw [bq_true hw] at h73; simp at h73
   skip
   have hcd : cand d facts at_ (nth cands i) = true := by simp only [cand, okT, Bool.and_eq_true, decide_eq_true_eq, Bool.not_eq_true']; exact ⟨⟨h45.1, h45.2⟩, by have := bq_true hw; rwa [List.take_length] at this⟩
   refine Jg rfl Sr rfl (fun hw => step_not (Sub.w hw)) (Js rfl (step_pick_and Sr Sr) (JL_nil ?_))
   refine J_cond Sr (fun h73 => ?_) (fun h73 => ?_)
   ·
    try simp only [NF] at h73
    first | exact absurd h73.1 (beqB_no.1 hw) | (exfalso; simp at h73)
   try simp only [NF] at h73
   refine J_skip (J_region ?_)
   refine Js rfl (step_load_box ty33V Sr zS) ?_
   refine Js rfl (step_load_box ty33V Sr zS) ?_
   refine Js rfl (step_len_own underlying33 Sr zS) ?_
   refine Js rfl (step_sub Sr Sr (by unfold in64; simp; omega)) ?_
   refine Jx rfl (step_slice_own (n := at_.length) underlying33 ty3 Sr Sr (by simp) zS (by simp)) fun u3 => ?_
   refine Ju (step_store_box (R := rV) ty33V Sr Sr zS) fun _ => ?_
   refine JL_nil (J_region (Js rfl (step_add Sr Sr z6) (Jm rfl (JL_nil ?_))))
   refine K_againL (σ := Nat × Value) (s := (i, u)) (i + 1, u3) zO (by simp; omega) (zU) (.r zS (.c zS (own_eq (by simp)) (.c zS (SPs.of (by rw [asgN_succ hlt, hcd]; simp)) LSub.nil)))
  skip
  have hcd : cand d facts at_ (nth cands i) = false := by have hq := beqB_no.1 hw; rw [List.take_length] at hq; simp only [cand, okT]; simp_all
  refine Jg rfl Sr rfl (fun hw => step_not (Sub.w hw)) (Js rfl (step_pick_and Sr Sr) (JL_nil ?_))
  refine J_cond Sr (fun h73 => ?_) (fun h73 => ?_)
  ·
   try simp only [NF] at h73
   first | exact absurd h73.1 (beqB_no.1 hw) | (exfalso; simp at h73)
  try simp only [NF] at h73
  refine J_skip (J_region ?_)
  refine Js rfl (step_load_box ty33V Sr zS) ?_
  refine Js rfl (step_load_box ty33V Sr zS) ?_
  refine Js rfl (step_len_own underlying33 Sr zS) ?_
  refine Js rfl (step_sub Sr Sr (by unfold in64; simp; omega)) ?_
  refine Jx rfl (step_slice_own (n := at_.length) underlying33 ty3 Sr Sr (by simp) zS (by simp)) fun u3 => ?_
  refine Ju (step_store_box (R := rV) ty33V Sr Sr zS) fun _ => ?_
  refine JL_nil (J_region (Js rfl (step_add Sr Sr z6) (Jm rfl (JL_nil ?_))))
  refine K_againL (σ := Nat × Value) (s := (i, u)) (i + 1, u3) zO (by simp; omega) (zU) (.r zS (.c zS (own_eq (by simp)) (.c zS (SPs.of (by rw [asgN_succ hlt, hcd]; simp)) LSub.nil)))
 try simp only [NF] at hc2
 refine J_exit (Jr (Ja rfl (JL_nil (J_ret ?_))))
 refine K_lsub (L' := putL bat M Mx at_ (pre ++ asg d facts cands (n + 1) at_) ⟨true, u, at_, []⟩) ?_ ?_
 ·
  exact .r zS (.r zS (.c zS (SPs.of (by obtain rfl : i = cands.length := zG; rw [List.take_length]; rfl)) LSub.nil))
 exact K_ret1 (t := 6) rfl (⟨true, u, at_, []⟩ : PutX) Sr
open Go Go.Proofs Go.Proofs.Tryz
theorem put_spec (bat : Nat) (d : GRule) (facts : List GFact) (cands : List Int) (tot : List (List Int)) (M Mx : List (List Int) → SP) (hc : InB cands facts.length) (hcl : cands.length ≤ 1000000) (hfl : facts.length ≤ 1000000) (htl : d.Tables.length ≤ 1000) (hte : d.Tests.length ≤ 4000000) (n : Nat) :
    ∀ (at_ : List Int) (v : Value) (pre : List (List Int)), at_.length + n = d.Tables.length → InB at_ facts.length → pre ++ asg d facts cands n at_ <+: tot → PutSpec bat d facts cands tot M Mx n at_ v pre := by
  induction n with
  | zero => exact fun at_ v pre h1 h2 h3 => put0_spec bat d facts cands tot M Mx hc hcl hfl htl hte 0 at_ v pre h1 h2 h3
  | succ n ih => exact fun at_ v pre h1 h2 h3 => putS_spec bat d facts cands tot M Mx hc hcl hfl htl hte n ih at_ v pre h1 h2 h3
abbrev asgs (d : GRule) (facts : List GFact) (cands : List Int) : List (List Int) := asg d facts cands d.Tables.length []
theorem assignments1_spec (d : GRule) (facts : List GFact) (cands : List Int) (hc : InB cands facts.length) (hcl : cands.length ≤ 1000000) (hfl : facts.length ≤ 1000000) (htl : d.Tables.length ≤ 1000) (hte : d.Tests.length ≤ 4000000) : ItSpec prog 98 [tPtr rRule d, tPtr (rSl rInt) cands, tPtr (rSl rFact) facts] [] (tI2) (okP (asgs d facts cands)) (fun p => p = (asgs d facts cands)) := by
 intro M Mx
 refine Spec.enter func98 rfl rfl fun h0 w0 fr0 => ?_
 refine Jr (Js rfl (step_box (R := rY prog tI2 (okP (asgs d facts cands)) M Mx) (y := ()) Sr) (JL_nil (Jr ?_)))
 refine Jx rfl (step_alloc (R := rV) (z := Value.slice none 0 0) (fun w => zeroValue33 w) (fun _ => ⟨rfl, rfl⟩)) fun bat => ?_
 refine JL_nil ?_
 refine K_lsub (LSub.nilown (e := 3) (R := rInt)) ?_
 refine Jr ?_
 refine Jx rfl (step_alloc (R := rV) (z := .nilFunc) (fun w => zeroValue24 w) (fun _ => ⟨rfl, rfl⟩)) fun bp => ?_
 refine JL_nil (Jr (Js rfl (step_makeFunc (As := [_, _, _, _, _, _]) ⟨Sr, Sr, Sr, Sr, Sr, Sr, trivial⟩) ?_))
 refine Ju (step_store_boxR (R := rV) (R' := rC 99 (putAs bat d facts cands (asgs d facts cands) M Mx ++ [tAt bp 0])) (z := ()) ty24C rfl Sr Sr zS) fun _ => ?_
 refine JL_nil ?_
 refine K_freeze (t := 6) (Sel.take (Sel.none _)) Frz.put ?_
 refine K_lsub (L' := [box bat 33 rV (.slice none 0 0), own 3 rInt (.slice none 0 0) [], M []]) (LSub.cons zS SPs.rfl (LSub.cons zS SPs.rfl (LSub.cons zS SPs.rfl LSub.nil))) ?_
 refine J_region (Js rfl (step_load_put ty24 Sr) ?_)
 refine Jx rfl (step_callv (aT := []) Sr (Sel.all _) (put_spec bat d facts cands (asgs d facts cands) M Mx hc hcl hfl htl hte d.Tables.length [] (.slice none 0 0) [] (by simp) (fun a h => (by cases h)) (by exact List.prefix_refl _)) trivial call99) fun z => ?_
 refine JL_nil ?_
 obtain ⟨zb, zv, za, zy⟩ := z
 cases zb
 ·
  refine K_drop (Sel.take (Sel.take (Sel.none _))) ?_
  refine K_endRet (K_itStop (Fin := fun p => p = (asgs d facts cands)) (M := M) (Mx := Mx) (A := []) ?_ zy ?_)
  ·
   rfl
  exact LSub.of rfl
 refine K_drop (Sel.take (Sel.take (Sel.none _))) ?_
 refine K_endRet (K_itDone (Fin := fun p => p = (asgs d facts cands)) (M := M) (Mx := Mx) (A := []) ?_ (asgs d facts cands) rfl ?_)
 ·
  rfl
 exact LSub.of rfl
theorem assignments_spec (d : GRule) (facts : List GFact) (cands : List Int) : Fun1 prog 73 [rRule.ty d, tSl rFact facts, tSl rInt cands] (tClo 98 [tPtr rRule d, tPtr (rSl rInt) cands, tPtr (rSl rFact) facts]) := by
 refine Spec.enter func73 rfl rfl fun h0 w0 fr0 => ?_
 refine Jr (Js rfl (step_box (R := rRule) Sr) (Js rfl (step_box (R := (rSl rFact)) Sr) (Js rfl (step_box (R := (rSl rInt)) Sr) (Ja rfl (JL_nil ?_)))))
 refine Jr (Js rfl (step_makeFunc (As := [_, _, _]) ⟨Sr, Sr, Sr, trivial⟩) (Ja rfl (JL_nil (J_ret ?_))))
 exact K_ret1 (t := 6) rfl () Sr
open Go Go.Proofs Go.Proofs.Tryz
def exP (facts : List GFact) (b c : Int) : Bool := !decide ((nth facts c.toNat).Variant = -1) || !decide ((nth facts b.toNat).Variant = -1)
def ent (facts : List GFact) (c : Int) : Int := (nth facts c.toNat).Entity
/-- The pairs that c makes with earlier ones l of its entity. -/
def exRow (facts : List GFact) (c : Int) (l : List Int) : List (List Int) := (l.filter fun b => exP facts b c).map fun b => [b, c]
def exOf (facts : List GFact) (done : List Int) (c : Int) : List Int := done.filter fun b => decide (ent facts b = ent facts c)
def excl (facts : List GFact) : List Int → List Int → List (List Int)
  | _, [] => []
  | done, c :: cs => exRow facts c (exOf facts done c) ++ excl facts (done ++ [c]) cs
theorem excl_snoc (facts : List GFact) (l : List Int) (c : Int) : ∀ done, excl facts done (l ++ [c]) = excl facts done l ++ exRow facts c (exOf facts (done ++ l) c) := by
  induction l with
  | nil => intro done; simp [excl]
  | cons a l ih => intro done; simp only [List.cons_append, excl, ih, List.append_assoc]; simp
theorem excl_succ {facts : List GFact} {cands : List Int} {i : Nat} (h : i < cands.length) : excl facts [] (cands.take (i + 1)) = excl facts [] (cands.take i) ++ exRow facts (nth cands i) (exOf facts (cands.take i) (nth cands i)) := by
  rw [takeB h, excl_snoc]; simp
theorem excl_app (facts : List GFact) (l l2 : List Int) : ∀ done, excl facts done (l ++ l2) = excl facts done l ++ excl facts (done ++ l) l2 := by
  induction l with
  | nil => intro done; simp [excl]
  | cons a l ih => intro done; simp only [List.cons_append, excl, ih, List.append_assoc]; simp
theorem excl_pre (facts : List GFact) (cands : List Int) (i : Nat) : excl facts [] (cands.take i) <+: excl facts [] cands := by
  have := excl_app facts (cands.take i) (cands.drop i) []
  rw [List.take_append_drop] at this
  rw [this]; exact List.prefix_append _ _
theorem exRow_succ {facts : List GFact} {c : Int} {l : List Int} {j : Nat} (h : j < l.length) : exRow facts c (l.take (j + 1)) = exRow facts c (l.take j) ++ (if exP facts (nth l j) c then [[nth l j, c]] else []) := by
  rw [takeB h]
  simp only [exRow, List.filter_append, List.map_append]
  congr 1
  by_cases hp : exP facts (nth l j) c = true
  · simp [hp]
  · simp [hp]
theorem exRow_pre (facts : List GFact) (c : Int) (l : List Int) (j : Nat) : exRow facts c (l.take j) <+: exRow facts c l := by
  have : exRow facts c l = exRow facts c (l.take j) ++ exRow facts c (l.drop j) := by
    simp only [exRow]; rw [← List.map_append, ← List.filter_append, List.take_append_drop]
  rw [this]; exact List.prefix_append _ _
def entOk (facts : List GFact) (m : Ent) (done : List Int) : Prop := ∀ e, (entAt m e).2 = done.filter fun b => decide (ent facts b = e)
theorem entOk_put {facts : List GFact} {m : Ent} {done : List Int} (h : entOk facts m done) (c : Int) (u : Value) : entOk facts (mput m (ent facts c) (u, (entAt m (ent facts c)).2 ++ [c])) (done ++ [c]) := fun e => by
  unfold entAt
  rw [mget_mput, List.filter_append]
  by_cases he : e = ent facts c
  · subst he
    have h1 := h (ent facts c)
    unfold entAt at h1
    simp [h1]
  · have := h e
    unfold entAt at this
    rw [if_neg he, this]
    simp [Ne.symm he]
theorem exclusions1_spec (facts : List GFact) (cands : List Int) (hc : InB cands facts.length) (hcl : cands.length ≤ 1000000) (hfl : facts.length ≤ 1000000) : ItSpec prog 97 [tPtr (rSl rInt) cands, tPtr (rSl rFact) facts] [] (tI2) (okP (excl facts [] cands)) (fun p => p = (excl facts [] cands)) := by
 intro M Mx
 refine Spec.enter func97 rfl rfl fun h0 w0 fr0 => ?_
 refine Jr ?_
 refine Jx rfl (step_makeMap (kv := kvI) (R := rV)) fun v10 => ?_
 refine Ja rfl (JL_nil (Jr (Jl rfl ty33 Sr (Js rfl (step_len_sl underlying33 Sr) (Jm rfl ?_)))))
 refine JL_nil (J_block ?_)
 refine J_loopL (σ := Nat × Ent) (fun ⟨i, m⟩ => i ≤ cands.length ∧ entOk facts m (cands.take i)) (fun ⟨i, m⟩ => upd (upd (upd (upd (upd (upd env0 0 (tYield prog tI2 (okP (excl facts [] cands)) M Mx)) 2 (tPtr (rSl rFact) facts)) 4 (tV v10)) 11 (tSl rInt cands)) 12 (tV (.int .i64 cands.length))) 13 (tV (.int .i64 i))) (fun ⟨i, m⟩ => [mapOwn kvI rV v10 (hdr m), stars (rows m), M (excl facts [] (cands.take i))]) (fun ⟨i, m⟩ => cands.length - i) (0, []) ⟨by simp, fun e => by simp [entAt, mget]⟩ (zU) (LSub.cons zS SPs.rfl (LSub.stars (LSub.cons zS SPs.rfl LSub.nil))) ?_
 rintro ⟨i, m⟩ ⟨hi, hm⟩
 refine Jr (Js rfl (step_lss Sr Sr) (JL_nil (J_seq ?_)))
 refine J_cond Sr (fun hc1 => ?_) (fun hc1 => ?_)
 ·
  try simp only [NF] at hc1
  have hlt : i < cands.length := by omega
  obtain ⟨hc0, hc1⟩ := hc _ (nth_mem hlt)
  refine J_skip (J_seq (J_block (Jr ?_)))
  refine Js rfl (step_indexAddr_sl  underlying33 ty3 Sr Sr rfl (gb (by first | assumption | omega))) ?_
  refine Jl rfl ty3 Sr (Ja rfl (JL_nil (Jr (Jl rfl ty41 Sr (Jm rfl ?_)))))
  refine Js rfl (step_indexAddr_sl (i := (nth cands i).toNat) underlying41 ty35 Sr Sr (by show nth cands i = _; omega) (gb zG)) ?_
  refine Jl rfl ty35 Sr ?_
  refine Jx rfl (step_alloc (fun w => zeroValue35 w) zr35) fun v7 => ?_
  refine Ju (step_store_box ty35 Sr Sr zS) fun _ => ?_
  refine JL_freeze (t := 7) (Sel.take (Sel.none _)) Frz.box ?_
  refine JL_nil (J_seq (J_seq ?_))
  refine K_lsub (L' := [own 3 rInt (entAt m (ent facts (nth cands i))).1 (entAt m (ent facts (nth cands i))).2, stars (rows (mdel m (ent facts (nth cands i)))), mapOwn kvI rV v10 (hdr m), M (excl facts [] (cands.take i))]) (LSub.trans (zL) (rows_take (q := ent facts (nth cands i)))) ?_
  have hes : (entAt m (ent facts (nth cands i))).2 = exOf facts (cands.take i) (nth cands i) := hm _
  have hsub : ∀ x ∈ (entAt m (ent facts (nth cands i))).2, x ∈ cands.take i := by rw [hes]; intro x hx; exact (List.mem_filter.1 hx).1
  have hxl : (entAt m (ent facts (nth cands i))).2.length ≤ 1000000 := by rw [hes]; have := List.length_filter_le (fun b => decide (ent facts b = ent facts (nth cands i))) (cands.take i); simp only [exOf]; simp at this; omega
  refine J_region (Jm rfl (Js rfl (step_fieldAddr so35 Sr rfl) (Jl rfl ty3 Sr ?_)))
  refine Js rfl (step_eqT (congrArg rV.ty (mget_hdr m (ent facts (nth cands i)))) (step_lookup (R := rV) (kv := kvI) (z := nilSl) (KeyT.int underlying3) underlying164 (fun w => zeroValue33 w) (fun _ => ⟨rfl, rfl⟩) Sr Sr zS)) ?_
  refine Js rfl (step_len_own underlying33 Sr zS) ?_
  refine Jm rfl (JL_nil (J_block ?_))
  refine J_loopL (σ := Nat) (fun j => j ≤ (entAt m (ent facts (nth cands i))).2.length) (fun j => upd (upd (upd (upd (upd (upd (upd (upd (upd (upd (upd (upd (upd (upd (upd env0 0 (tYield prog tI2 (okP (excl facts [] cands)) M Mx)) 2 (tPtr (rSl rFact) facts)) 4 (tV v10)) 6 (tV (.int .i64 (nth cands i)))) 7 (tPtr rFact (nth facts (nth cands i).toNat))) 11 (tSl rInt cands)) 12 (tV (.int .i64 cands.length))) 13 (tV (.int .i64 i))) 16 (tV (.int .i64 (nth cands i)))) 18 (tV (.int .i64 (nth cands i)))) 20 (rFact.ty (nth facts (nth cands i).toNat))) 21 (tV v10)) 24 (rV.ty (entAt m (ent facts (nth cands i))).1)) 25 (tV (.int .i64 (entAt m (ent facts (nth cands i))).2.length))) 26 (tV (.int .i64 j))) (fun j => [own 3 rInt (entAt m (ent facts (nth cands i))).1 (entAt m (ent facts (nth cands i))).2, stars (rows (mdel m (ent facts (nth cands i)))), mapOwn kvI rV v10 (hdr m), M ((excl facts [] (cands.take i)) ++ exRow facts (nth cands i) ((entAt m (ent facts (nth cands i))).2.take j))]) (fun j => (entAt m (ent facts (nth cands i))).2.length - j) 0 zG (zU) (.r zS (.r zS (.r zS (.c zS (SPs.of (by simp [exRow])) (LSub.nil))))) ?_
  rintro j hj
  refine Jr (Js rfl (step_lss Sr Sr) (JL_nil (J_seq ?_)))
  refine J_cond Sr (fun h27 => ?_) (fun h27 => ?_)
  ·
   try simp only [NF] at h27
   have hltj : j < (entAt m (ent facts (nth cands i))).2.length := by omega
   have hb1 := hsub _ (nth_mem hltj)
   obtain ⟨hb0, hb2⟩ := hc _ (List.mem_of_mem_take hb1)
   have hok2 : exP facts (nth (entAt m (ent facts (nth cands i))).2 j) (nth cands i) = true → (excl facts [] (cands.take i)) ++ exRow facts (nth cands i) ((entAt m (ent facts (nth cands i))).2.take j) ++ [[nth (entAt m (ent facts (nth cands i))).2 j, (nth cands i)]] <+: (excl facts [] cands) := by
    intro hq
    have h1 := exRow_pre facts (nth cands i) (entAt m (ent facts (nth cands i))).2 (j + 1)
    rw [exRow_succ hltj, if_pos hq] at h1
    have h2 := excl_pre facts cands (i + 1)
    rw [excl_succ hlt, ← hes] at h2
    rw [List.append_assoc]
    exact List.IsPrefix.trans ((List.prefix_append_right_inj _).2 h1) h2
   refine J_skip (J_seq (J_block (Jr ?_)))
   refine Js rfl (step_indexAddr_own  underlying33 ty3 Sr zS Sr rfl (by first | assumption | omega)) ?_
   refine Js rfl (step_load_own ty3 Sr zS (gb (by first | assumption | omega))) ?_
   refine Ja rfl (JL_nil (Jr (Js rfl (step_fieldAddr so35 Sr rfl) (Jl rfl ty3 Sr (Js rfl (step_neq Sr Sr) ?_)))))
   refine Jm rfl ?_
   refine Jk rfl Sr rfl (step_load_ptr ty41 Sr) ?_
   refine Jk rfl Sr rfl (step_move Sr) ?_
   refine Jg rfl Sr rfl (fun hw => step_indexAddr_sl (i := (nth (entAt m (ent facts (nth cands i))).2 j).toNat) underlying41 ty35 (Sub.w hw) (Sub.w hw) (by have hwq := hw; (try simp only [beqB_t, beqB_f, NF] at hwq); show nth (entAt m (ent facts (nth cands i))).2 j = _; omega) (gb (by have hwq := hw; (try simp only [beqB_t, beqB_f, NF] at hwq); omega))) ?_
   refine Jg rfl Sr rfl (fun hw => step_fieldAddr so35 (Sub.w hw) rfl) (Jg rfl Sr rfl (fun hw => step_load_ptr ty3 (Sub.w hw)) (Jg rfl Sr rfl (fun hw => step_neq (Sub.w hw) Sr) (Js rfl (step_pick_or Sr Sr) (Jm rfl ?_))))
   refine Jk rfl Sr rfl (step_move Sr) ?_
   refine Jk rfl Sr rfl (step_move Sr) ?_
   refine Jk rfl Sr rfl (step_move Sr) ?_
   refine Jg rfl Sr rfl (fun hw => step_literalE (ys := [_, _]) underlying33 el3 ⟨rfl, (Sub.w hw), rfl, (Sub.w hw), trivial⟩ rfl (by decide)) ?_
   refine JL_stepGX (tV (.bool false)) rfl rfl rfl (Gd.plain Sr) rfl rfl (fun hw => step_yield (T := tI2) (Ok := okP (excl facts [] cands)) (M := M) (Mx := Mx) (pre := (excl facts [] (cands.take i)) ++ exRow facts (nth cands i) ((entAt m (ent facts (nth cands i))).2.take j)) (y := [nth (entAt m (ent facts (nth cands i))).2 j, (nth cands i)]) (Sub.w hw) (by have hwq := hw; (try simp only [beqB_t, beqB_f, NF] at hwq); exact hok2 (bq_true hw)) (by have hwq := hw; (try simp only [beqB_t, beqB_f, NF] at hwq); exact ⟨(Sub.w hw), trivial⟩) zS) (fun hw b46 => ?_) (fun hw => ?_)
   ·
    skip
    cases b46
    ·
     skip
     refine Jg rfl Sr rfl (fun hw => step_not (Sub.w hw)) (Js rfl (step_pick_and Sr Sr) (JL_nil ?_))
     refine J_cond Sr (fun h48 => ?_) (fun h48 => ?_)
     ·
      try simp only [NF] at h48
      refine J_ret ?_
      refine K_drop (Sel.skip (Sel.all _)) ?_
      refine K_itStop (Fin := fun p => p = (excl facts [] cands)) (M := M) (Mx := Mx) (A := []) ?_ ((excl facts [] (cands.take i)) ++ exRow facts (nth cands i) ((entAt m (ent facts (nth cands i))).2.take j) ++ [[nth (entAt m (ent facts (nth cands i))).2 j, (nth cands i)]]) ?_
      ·
       rfl
      exact LSub.of rfl
     try simp only [NF] at h48
     exfalso; have := bq_true hw; simp_all
    skip
    have hx : exP facts (nth (entAt m (ent facts (nth cands i))).2 j) (nth cands i) = true := bq_true hw
    refine Jg rfl Sr rfl (fun hw => step_not (Sub.w hw)) (Js rfl (step_pick_and Sr Sr) (JL_nil ?_))
    refine J_cond Sr (fun h48 => ?_) (fun h48 => ?_)
    ·
     try simp only [NF] at h48
     first | (exfalso; simp at h48; done) | (exfalso; have hq := beqB_no.1 hw; simp at hq; omega)
    try simp only [NF] at h48
    refine J_skip (J_region (Js rfl (step_add Sr Sr z6) (Jm rfl (JL_nil ?_))))
    refine K_againL (σ := Nat) (s := j) (j + 1) zO zG (zU) (.r zS (.r zS (.r zS (.c zS (SPs.of (by rw [exRow_succ hltj, hx]; simp)) (LSub.nil)))))
   skip
   have hx : exP facts (nth (entAt m (ent facts (nth cands i))).2 j) (nth cands i) = false := by have hq := beqB_no.1 hw; simpa [exP] using hq
   refine Jg rfl Sr rfl (fun hw => step_not (Sub.w hw)) (Js rfl (step_pick_and Sr Sr) (JL_nil ?_))
   refine J_cond Sr (fun h48 => ?_) (fun h48 => ?_)
   ·
    try simp only [NF] at h48
    first | (exfalso; simp at h48; done) | (exfalso; have hq := beqB_no.1 hw; simp at hq; omega)
   try simp only [NF] at h48
   refine J_skip (J_region (Js rfl (step_add Sr Sr z6) (Jm rfl (JL_nil ?_))))
   refine K_againL (σ := Nat) (s := j) (j + 1) zO zG (zU) (.r zS (.r zS (.r zS (.c zS (SPs.of (by rw [exRow_succ hltj, hx]; simp)) (LSub.nil)))))
  try simp only [NF] at h27
  obtain hj2 : j = (entAt m (ent facts (nth cands i))).2.length := by omega
  refine J_exit ?_
  refine J_draw [⟨0, [4], true⟩, ⟨1, [7], true⟩, ⟨2, [51], true⟩, ⟨3, [4], true⟩, ⟨4, [7], true⟩, ⟨5, [54], true⟩, ⟨7, [6], true⟩, ⟨8, [57], true⟩, ⟨6, [53, 55], false⟩, ⟨9, [56, 58], false⟩, ⟨10, [50, 52, 59], false⟩] rfl (by kernel_rfl) ?_
  refine Mv rfl rfl (Mf rfl rfl (step_fieldAddr so35 Sr rfl) (Mf rfl rfl (step_load_ptr ty3 Sr) (Mv rfl rfl (Mf rfl rfl (step_fieldAddr so35 Sr rfl) (Mf rfl rfl (step_load_ptr ty3 Sr) ?_)))))
  refine Mv rfl rfl ?_
  refine Mf rfl rfl (step_literal (ys := [_]) underlying33 el3 ⟨rfl, Sr, trivial⟩ rfl (by decide)) ?_
  refine JM_look rfl rfl rfl rfl (step_eqT (congrArg rV.ty (mget_hdr m (ent facts (nth cands i)))) (step_lookup (R := rV) (kv := kvI) (z := nilSl) (KeyT.int underlying3) underlying164 (fun w => zeroValue33 w) (fun _ => ⟨rfl, rfl⟩) Sr Sr zS)) ?_
  refine JM_stepX rfl rfl rfl rfl (step_append underlying33 el3 Sr Sr zS (by have h1 := List.length_filter_le (fun b => decide (ent facts b = ent facts (nth cands i))) (cands.take i); have h2 := hm (ent facts (nth cands i)); simp [h2] at *; omega) (by have h1 := List.length_filter_le (fun b => decide (ent facts b = ent facts (nth cands i))) (cands.take i); have h2 := hm (ent facts (nth cands i)); simp [h2] at *; omega)) fun u59 => ?_
  refine JM_stepU rfl rfl rfl (step_mapUpdate (kv := kvI) (R := rV) (KeyT.int underlying3) underlying164 Sr Sr Sr zS) fun _ => ?_
  refine JM_nil (J_region (Js rfl (step_add Sr Sr z6) (Jm rfl (JL_nil ?_))))
  refine K_againL (σ := Nat × Ent) (s := (i, m)) (i + 1, mput m (ent facts (nth cands i)) (u59, (entAt m (ent facts (nth cands i))).2 ++ [(nth cands i)])) zO ⟨by omega, by rw [takeB hlt]; exact entOk_put hm _ _⟩ (zU) (LSub.trans (B := [own 3 rInt u59 ((entAt m (ent facts (nth cands i))).2 ++ [(nth cands i)]), stars (rows (mdel m (ent facts (nth cands i)))), mapOwn kvI rV v10 (mput (hdr m) (ent facts (nth cands i)) u59), M ((excl facts [] (cands.take i)) ++ exRow facts (nth cands i) (entAt m (ent facts (nth cands i))).2)]) (.r zS (.r zS (.r zS (.c zS (SPs.of (by rw [hj2, List.take_length])) (LSub.nil))))) (LSub.trans rows_put (.c zS (SPs.of (A := mapOwn kvI rV v10 (mput (hdr m) (ent facts (nth cands i)) u59)) (by rw [mput_hdr])) (.r zS (.c zS (SPs.of (by rw [excl_succ hlt, ← hes])) (LSub.nil))))))
 try simp only [NF] at hc1
 refine J_exit ?_
 refine K_lsub (L' := [M (excl facts [] (cands.take i)), mapOwn kvI rV v10 (hdr m), stars (rows m)]) (zL) ?_
 refine K_drop (Sel.skip (Sel.all _)) ?_
 refine K_endRet (K_itDone (Fin := fun p => p = (excl facts [] cands)) (M := M) (Mx := Mx) (A := []) ?_ (excl facts [] cands) rfl ?_)
 ·
  rfl
 exact LSub.of (by obtain rfl : i = cands.length := zG; rw [List.take_length])
theorem exclusions_spec (facts : List GFact) (cands : List Int) : Fun1 prog 71 [tSl rFact facts, tSl rInt cands] (tClo 97 [tPtr (rSl rInt) cands, tPtr (rSl rFact) facts]) := by
 refine Spec.enter func71 rfl rfl fun h0 w0 fr0 => ?_
 refine Jr (Js rfl (step_box (R := (rSl rFact)) Sr) (Js rfl (step_box (R := (rSl rInt)) Sr) (Ja rfl (JL_nil (Jr ?_)))))
 refine Js rfl (step_makeFunc (As := [_, _]) ⟨Sr, Sr, trivial⟩) (Ja rfl (JL_nil (J_ret ?_)))
 exact K_ret1 (t := 4) rfl () Sr
open Go Go.Proofs Go.Proofs.Tryz
def wits (rules : List GRule) (facts : List GFact) (cands : List Int) : List (List Int) := excl facts [] cands ++ (loweredR rules).flatMap fun d => asgs d facts cands
theorem wits_pre {rules : List GRule} {facts : List GFact} {cands : List Int} {i : Nat} (h : i < (loweredR rules).length) :
    (excl facts [] cands ++ ((loweredR rules).take i).flatMap fun d => asgs d facts cands) ++ asgs (nth (loweredR rules) i) facts cands <+: wits rules facts cands := by
  unfold wits
  rw [List.append_assoc]
  refine (List.prefix_append_right_inj _).2 ?_
  have e : (loweredR rules) = (loweredR rules).take i ++ (nth (loweredR rules) i :: (loweredR rules).drop (i + 1)) := by rw [← dropB h, List.take_append_drop]
  have : (loweredR rules).flatMap (fun d => asgs d facts cands) = (((loweredR rules).take i).flatMap fun d => asgs d facts cands) ++ (asgs (nth (loweredR rules) i) facts cands ++ ((loweredR rules).drop (i + 1)).flatMap fun d => asgs d facts cands) := by
    conv => lhs; rw [e]
    simp only [List.flatMap_append, List.flatMap_cons]
  rw [this, ← List.append_assoc]
  exact List.prefix_append _ _
theorem wits_succ {rules : List GRule} {facts : List GFact} {cands : List Int} {i : Nat} (h : i < (loweredR rules).length) :
    ((loweredR rules).take (i + 1)).flatMap (fun d => asgs d facts cands) = ((loweredR rules).take i).flatMap (fun d => asgs d facts cands) ++ asgs (nth (loweredR rules) i) facts cands := by rw [takeB h]; simp
theorem lowered_ok {rules : List GRule} (hr : ∀ r ∈ rules, r.Fixed.length ≤ 1000000 ∧ r.Cols.length ≤ 1000000) (ht : ∀ r ∈ rules, r.Tests.length ≤ 4000000) : ∀ d ∈ loweredR rules, d.Tables.length ≤ 1000 ∧ d.Tests.length ≤ 4000000 := by
  intro d hd
  obtain ⟨r, hr1, hr2⟩ := List.mem_flatMap.1 hd
  obtain ⟨hl, ho⟩ := List.mem_filter.1 hr2
  simp only [okD3, Bool.and_eq_true, decide_eq_true_eq] at ho
  refine ⟨by omega, ?_⟩
  obtain ⟨b1, b2⟩ := hr _ hr1
  have b3 := ht _ hr1
  unfold lowerR at hl
  split at hl
  · simp at hl; subst hl; omega
  · split at hl
    · simp at hl; subst hl
      have := preT_len r
      simp only [lowT, List.length_append, List.length_map]
      split <;> simp <;> omega
    · simp at hl
abbrev InRules (rules : List GRule) : Prop := rules.length ≤ 1000000 ∧ (∀ r ∈ rules, r.Fixed.length ≤ 1000000 ∧ r.Cols.length ≤ 1000000) ∧ ∀ r ∈ rules, r.Tests.length ≤ 4000000
theorem witnesses1_spec (rules : List GRule) (facts : List GFact) (cands : List Int) (hc : InB cands facts.length) (hcl : cands.length ≤ 1000000) (hfl : facts.length ≤ 1000000) (hru : InRules rules) : ItSpec prog 70 [tPtr (rSl rFact) facts, tPtr (rSl rInt) cands, tPtr (rSl rRule) rules] [] (tI2) (okP (wits rules facts cands)) (fun p => p = (wits rules facts cands)) := by
 intro M Mx
 refine Spec.enter func70 rfl rfl fun h0 w0 fr0 => ?_
 refine Jr (Js rfl (step_box (R := rY prog tI2 (okP (wits rules facts cands)) M Mx) (y := ()) Sr) (JL_nil (J_seq (Jr (Jl rfl ty41 Sr ?_)))))
 refine Jl rfl ty33 Sr (Js rfl (step_call0 (exclusions_spec _ _) ⟨Sr, Sr, trivial⟩ call71) (JL_nil (J_block ?_)))
 refine J_range (A := []) (T := tI2) (Ok := okP (excl facts [] cands)) (Fin := fun p => p = (excl facts [] cands)) (R := []) (fun xs => M xs) (fun c xs => stars [SP.pure (c = .ret), Mx (xs)]) rfl (fun _ => rfl) rfl (exclusions1_spec facts cands hc hcl hfl) Sr call97 (LSub.of rfl) ?round1 ?done1 ?stop1
 case round1 =>
  intro l1 rec1 h2 w2 fr2 pre y hle1 hst1 hpd1 hdj1 hok
  refine J_region (Ja rfl (JL_nil ?_))
  refine K_begin hst1 hdj1 ?_
  refine J_block (Jr (Jl rfl ty129Y Sr (Jm rfl ?_)))
  refine Jx rfl (step_yield (T := tI2) (Ok := okP (wits rules facts cands)) (M := M) (Mx := Mx) (pre := pre) (y := y) Sr (by exact List.IsPrefix.trans hok (List.prefix_append _ _)) (by exact ⟨Sr, trivial⟩) zS) fun v15 => ?_
  cases v15
  ·
   skip
   refine Js rfl (step_not Sr) (JL_nil ?_)
   refine J_cond Sr (fun hc1 => ?_) (fun hc1 => ?_)
   ·
    try simp only [NF] at hc1
    refine J_ret ?_
    refine K_roundR ?_
    exact LSub.cons zS SPs.rfl (LSub.stars (LSub.pure rfl (.c zS (SPs.rfl) LSub.nil)))
   try simp only [NF] at hc1
   exfalso; simp_all
  skip
  refine Js rfl (step_not Sr) (JL_nil ?_)
  refine J_cond Sr (fun hc2 => ?_) (fun hc2 => ?_)
  ·
   try simp only [NF] at hc2
   exfalso; simp_all
  try simp only [NF] at hc2
  refine J_skip ?_
  refine K_roundN hst1 hpd1 ?_
  exact zL
 case done1 =>
  intro D1 xs hfin
  subst hfin
  refine J_seq ?_
  have hlo := lowered_ok hru.2.1 hru.2.2
  have hll := loweredR_len rules
  have hrl := hru.1
  refine J_region (Jl rfl ty22 Sr (Js rfl (step_call0 (lowered_spec rules hru.1 hru.2.1) ⟨Sr, trivial⟩ call72) (Js rfl (step_len_sl underlying22 Sr) (Jm rfl (JL_nil ?_)))))
  refine J_block ?_
  refine J_loopD (σ := Nat × List Nat) (fun ⟨i, Ds⟩ => i ≤ (loweredR rules).length) (fun ⟨i, Ds⟩ => upd (upd (upd (upd (upd (upd env0 1 (tPtr (rSl rFact) facts)) 2 (tPtr (rSl rInt) cands)) 4 (tPtr (rY prog tI2 (okP (wits rules facts cands)) M Mx) ())) 18 (tSl rRule (loweredR rules))) 19 (tV (.int .i64 (loweredR rules).length))) 20 (tV (.int .i64 i))) (fun ⟨i, Ds⟩ => [M ((excl facts [] cands) ++ ((loweredR rules).take i).flatMap fun d => asgs d facts cands), stars (Ds.map dfB)]) (fun ⟨i, Ds⟩ => (loweredR rules).length - i) (fun ⟨i, Ds⟩ => Ds.map markD) (0, [D1]) (by simp) (zU) (.c zS (SPs.of (by simp)) (fun h m p => ⟨m, PH.emp, PH.disj_emp _, (PH.join_emp _).symm, p, rfl⟩)) rfl ?_
  rintro ⟨i, Ds⟩ hi
  try dsimp only at hi
  refine Jr (Js rfl (step_lss Sr Sr) (JL_nil (J_seq ?_)))
  refine J_cond Sr (fun hc3 => ?_) (fun hc3 => ?_)
  ·
   try simp only [NF] at hc3
   have hlt : i < (loweredR rules).length := by omega
   refine J_skip (J_seq (J_block (Jr ?_)))
   refine Js rfl (step_indexAddr_sl  underlying22 ty59 Sr Sr rfl (gb (by first | assumption | omega))) ?_
   refine Jl rfl ty59 Sr ?_
   refine Jx rfl (step_alloc (fun w => zeroValue59 w) zr59) fun v7 => ?_
   refine Ju (step_store_box ty59 Sr Sr zS) fun _ => ?_
   refine JL_freeze (t := 7) (Sel.take (Sel.none _)) Frz.box ?_
   refine JL_nil (Jr (Jl rfl ty59 Sr (Jl rfl ty41 Sr (Jl rfl ty33 Sr (Js rfl (step_call0 (assignments_spec _ _ _) ⟨Sr, Sr, Sr, trivial⟩ call73) ?_)))))
   refine JL_nil (J_block ?_)
   refine J_range (A := []) (T := tI2) (Ok := okP (asgs (nth (loweredR rules) i) facts cands)) (Fin := fun p => p = (asgs (nth (loweredR rules) i) facts cands)) (R := [stars (Ds.map dfB)]) (fun xs => M (((excl facts [] cands) ++ ((loweredR rules).take i).flatMap fun d => asgs d facts cands) ++ xs)) (fun c xs => stars [SP.pure (c = .ret), Mx (((excl facts [] cands) ++ ((loweredR rules).take i).flatMap fun d => asgs d facts cands) ++ xs)]) rfl (fun _ => rfl) rfl (assignments1_spec (nth (loweredR rules) i) facts cands hc hcl hfl (hlo _ (nth_mem hlt)).1 (hlo _ (nth_mem hlt)).2) Sr call98 (.c zS (SPs.of (by simp)) (zL)) ?round2 ?done2 ?stop2
   case round2 =>
    intro l2 rec2 h3 w3 fr3 pre y hle2 hst2 hpd2 hdj2 hok
    refine J_region (Ja rfl (JL_nil ?_))
    refine K_begin hst2 hdj2 ?_
    refine J_block (Jr (Jl rfl ty129Y Sr (Jm rfl ?_)))
    refine Jx rfl (step_yield (T := tI2) (Ok := okP (wits rules facts cands)) (M := M) (Mx := Mx) (pre := ((excl facts [] cands) ++ ((loweredR rules).take i).flatMap fun d => asgs d facts cands) ++ pre) (y := y) Sr (by rw [List.append_assoc]; exact List.IsPrefix.trans ((List.prefix_append_right_inj _).2 hok) (wits_pre hlt)) (by exact ⟨Sr, trivial⟩) zS) fun v31 => ?_
    cases v31
    ·
     skip
     refine Js rfl (step_not Sr) (JL_nil ?_)
     refine J_cond Sr (fun hc4 => ?_) (fun hc4 => ?_)
     ·
      try simp only [NF] at hc4
      refine J_ret ?_
      refine K_roundR ?_
      exact LSub.cons zS SPs.rfl (LSub.stars (LSub.pure rfl (.c zS (SPs.of (by simp)) LSub.nil)))
     try simp only [NF] at hc4
     exfalso; simp_all
    skip
    refine Js rfl (step_not Sr) (JL_nil ?_)
    refine J_cond Sr (fun hc5 => ?_) (fun hc5 => ?_)
    ·
     try simp only [NF] at hc5
     exfalso; simp_all
    try simp only [NF] at hc5
    refine J_skip ?_
    refine K_roundN hst2 hpd2 ?_
    exact .r zS (.c zS (SPs.of (by simp)) (LSub.nil))
   case done2 =>
    intro D2 xs hfin
    subst hfin
    refine J_region (Js rfl (step_add Sr Sr z6) (Jm rfl (JL_nil ?_)))
    refine K_againD (σ := Nat × List Nat) (s := (i, Ds)) (i + 1, D2 :: Ds) zO zG (zU) (LSub.trans (B := [dfB D2, stars (Ds.map dfB), M (((excl facts [] cands) ++ ((loweredR rules).take i).flatMap fun d => asgs d facts cands) ++ asgs (nth (loweredR rules) i) facts cands)]) (zL) (LSub.trans LSub.push (.c zS (SPs.of (A := M (((excl facts [] cands) ++ ((loweredR rules).take i).flatMap fun d => asgs d facts cands) ++ asgs (nth (loweredR rules) i) facts cands)) (by rw [wits_succ hlt, List.append_assoc])) (zL)))) rfl
   case stop2 =>
    intro D2 c2 xs
    refine K_stars (K_pure fun hcc => ?_)
    subst hcc
    refine J_ret ?_
    refine K_unmarks (Ds := D2 :: Ds) (L' := [Mx (((excl facts [] cands) ++ ((loweredR rules).take i).flatMap fun d => asgs d facts cands) ++ xs)]) ?_ ?_
    ·
     exact LSub.trans (B := [dfB D2, stars (Ds.map dfB), Mx (((excl facts [] cands) ++ ((loweredR rules).take i).flatMap fun d => asgs d facts cands) ++ xs)]) (zL) LSub.push
    refine K_itStop (Fin := fun p => p = (wits rules facts cands)) (M := M) (Mx := Mx) (A := []) ?_ (((excl facts [] cands) ++ ((loweredR rules).take i).flatMap fun d => asgs d facts cands) ++ xs) ?_
    ·
     rfl
    exact LSub.of rfl
  try simp only [NF] at hc3
  refine J_exit ?_
  refine K_endRet (K_unmarks (L' := [M ((excl facts [] cands) ++ ((loweredR rules).take i).flatMap fun d => asgs d facts cands)]) (zL) (K_itDone (Fin := fun p => p = (wits rules facts cands)) (M := M) (Mx := Mx) (A := []) ?_ (wits rules facts cands) rfl ?_))
  ·
   rfl
  exact LSub.of (by obtain rfl : i = (loweredR rules).length := zG; rw [List.take_length]; rfl)
 case stop1 =>
  intro D1 c1 xs
  refine K_stars (K_pure fun hcc => ?_)
  subst hcc
  refine J_ret ?_
  refine K_unmark (LSub.cons zS SPs.rfl LSub.rfl) ?_
  refine K_itStop (Fin := fun p => p = (wits rules facts cands)) (M := M) (Mx := Mx) (A := []) ?_ xs ?_
  ·
   rfl
  exact LSub.of rfl
theorem witnesses_spec (rules : List GRule) (facts : List GFact) (cands : List Int) : Fun1 prog 52 [tSl rRule rules, tSl rFact facts, tSl rInt cands] (tClo 70 [tPtr (rSl rFact) facts, tPtr (rSl rInt) cands, tPtr (rSl rRule) rules]) := by
 refine Spec.enter func52 rfl rfl fun h0 w0 fr0 => ?_
 refine Jr (Js rfl (step_box (R := (rSl rRule)) Sr) (Js rfl (step_box (R := (rSl rFact)) Sr) (Js rfl (step_box (R := (rSl rInt)) Sr) (Ja rfl (JL_nil ?_)))))
 refine Jr (Js rfl (step_makeFunc (As := [_, _, _]) ⟨Sr, Sr, Sr, trivial⟩) (Ja rfl (JL_nil (J_ret ?_))))
 exact K_ret1 (t := 6) rfl () Sr
open Go Go.Proofs Go.Proofs.Tryz
def cmpL : List Int → List Int → Int
  | [], [] => 0
  | [], _ :: _ => -1
  | _ :: _, [] => 1
  | a :: x, b :: y => if ordI a b = 0 then cmpL x y else ordI a b
theorem ordI_zero {a b : Int} : ordI a b = 0 ↔ a = b := by unfold ordI; (repeat' split) <;> simp <;> omega
def smallB (n : Nat) : ByteArray := if n < 10 then (⟨#[48, 49, 50, 51, 52, 53, 54, 55, 56, 57, 97, 98, 99, 100, 101, 102, 103, 104, 105, 106, 107, 108, 109, 110, 111, 112, 113, 114, 115, 116, 117, 118, 119, 120, 121, 122]⟩ : ByteArray).extract n (n + 1) else (⟨#[48, 48, 48, 49, 48, 50, 48, 51, 48, 52, 48, 53, 48, 54, 48, 55, 48, 56, 48, 57, 49, 48, 49, 49, 49, 50, 49, 51, 49, 52, 49, 53, 49, 54, 49, 55, 49, 56, 49, 57, 50, 48, 50, 49, 50, 50, 50, 51, 50, 52, 50, 53, 50, 54, 50, 55, 50, 56, 50, 57, 51, 48, 51, 49, 51, 50, 51, 51, 51, 52, 51, 53, 51, 54, 51, 55, 51, 56, 51, 57, 52, 48, 52, 49, 52, 50, 52, 51, 52, 52, 52, 53, 52, 54, 52, 55, 52, 56, 52, 57, 53, 48, 53, 49, 53, 50, 53, 51, 53, 52, 53, 53, 53, 54, 53, 55, 53, 56, 53, 57, 54, 48, 54, 49, 54, 50, 54, 51, 54, 52, 54, 53, 54, 54, 54, 55, 54, 56, 54, 57, 55, 48, 55, 49, 55, 50, 55, 51, 55, 52, 55, 53, 55, 54, 55, 55, 55, 56, 55, 57, 56, 48, 56, 49, 56, 50, 56, 51, 56, 52, 56, 53, 56, 54, 56, 55, 56, 56, 56, 57, 57, 48, 57, 49, 57, 50, 57, 51, 57, 52, 57, 53, 57, 54, 57, 55, 57, 56, 57, 57]⟩ : ByteArray).extract (n * 2) (n * 2 + 2)
set_option maxRecDepth 100000 in
theorem smallB_digits : ∀ n : Nat, n < 100 → bytesOf (smallB n) = if n < 10 then [48 + (n : Int)] else [48 + ((n / 10 : Nat) : Int), 48 + ((n % 10 : Nat) : Int)] := by decide
theorem smallB_pos {n : Nat} (h : n < 100) : 0 < (smallB n).size ∧ (smallB n).size ≤ 2 := by
  have := smallB_digits n h
  have hl := bytesOf_len (smallB n)
  rw [this] at hl
  split at hl <;> simp at hl <;> omega
/-- The bytes of a set's name. -/
def nameL (l : List Int) : List Int := l.flatMap fun x => bytesOf (smallB x.toNat) ++ [32]
def nameB (l : List Int) : ByteArray := ofBytes (nameL l)
theorem nameL_len {l : List Int} (h : ∀ x ∈ l, 0 ≤ x ∧ x < 100) : (nameL l).length ≤ 3 * l.length := by
  induction l with
  | nil => simp [nameL]
  | cons a l ih =>
    have h1 := ih fun x hx => h x (by simp [hx])
    have h2 := smallB_pos (n := a.toNat) (by have := h a (by simp); omega)
    have h3 := bytesOf_len (smallB a.toNat)
    simp only [nameL, List.flatMap_cons, List.length_append, List.length_cons, List.length_nil] at h1 ⊢
    omega
theorem small_spec (n : Nat) (hn : n < 100) : Fun1 prog 156 [tV (.int .i64 n)] (tV (.string (smallB n))) := by
 refine Spec.enter func156 rfl rfl fun h0 w0 fr0 => ?_
 refine Jr (Ja rfl (JL_nil (J_seq (Jr (Jm rfl ?_)))))
 refine Js rfl (step_lss Sr Sr) (JL_nil ?_)
 refine J_cond Sr (fun h4 => ?_) (fun h4 => ?_)
 ·
  try simp only [NF] at h4
  refine Jr (Jm rfl (Jm rfl (Js rfl (step_add Sr Sr z6) ?_)))
  refine Js rfl (step_slice_str (i := n) (j := n + 1) underlying9 Sr Sr Sr (by rfl) (by rfl) zG (by show n + 1 ≤ 36; omega)) ?_
  refine Ja rfl (JL_nil (J_ret ?_))
  refine K_ret1 (t := 2) rfl () ?_
  refine Sub.v ?_
  unfold smallB; rw [if_pos zG]
 try simp only [NF] at h4
 refine J_skip (Jr (Jm rfl (Js rfl (step_mul Sr Sr z6) (Jm rfl (Js rfl (step_mul Sr Sr z6) ?_)))))
 refine Js rfl (step_add Sr Sr z6) ?_
 refine Js rfl (step_slice_str (i := n * 2) (j := n * 2 + 2) underlying9 Sr Sr Sr zG zG zG (by show n * 2 + 2 ≤ 200; omega)) ?_
 refine Ja rfl (JL_nil (J_ret ?_))
 refine K_ret1 (t := 2) rfl () ?_
 refine Sub.v ?_
 unfold smallB; rw [if_neg zG]
 rfl
theorem AppendUint_spec (v : Value) (xs : List Int) (n : Nat) (hn : n < 100) (hx : xs.length ≤ 100000000000) : Spec (X := Value) prog 147 [rV.ty v, tV (.int .u64 n), tV (.int .i64 10)] ([own 5 rU8 v xs]) (fun z => rV.ty z) (fun z => [own 5 rU8 z (xs ++ bytesOf (smallB n))]) := by
 refine Spec.enter func147 rfl rfl fun h0 w0 fr0 => ?_
 refine Jr (Ja rfl (JL_nil (J_seq (Jr (Jm rfl ?_)))))
 refine Js rfl (step_eql Sr Sr) (JL_nil ?_)
 refine J_cond Sr (fun hc1 => ?_) (fun hc1 => ?_)
 ·
  try simp only [NF] at hc1
  refine J_seq (Jr (Jm rfl (Js rfl (step_lss Sr Sr) (JL_nil ?_))))
  refine J_cond Sr (fun hc2 => ?_) (fun hc2 => ?_)
  ·
   try simp only [NF] at hc2
   refine Jr (Jm rfl (Jm rfl ?_))
   refine Js rfl (step_convert_int (m := (n : Int)) underlying146 underlying3 Sr (by simp [IntKind.wrap, IntKind.bits, IntKind.signed]; omega)) ?_
   refine Js rfl (step_call0 (small_spec n hn) ⟨Sr, trivial⟩ call156) ?_
   refine Jx rfl (step_append_str underlying149 underlying9 el5 Sr Sr zS (by exact (smallB_pos hn).1) (by have := (smallB_pos hn).2; omega)) fun u => ?_
   refine Ja rfl (JL_nil (J_ret ?_))
   refine K_retv (rv := .tmp 6) rfl u (.tmp Sr) Sr
  try simp only [NF] at hc2
  exfalso; omega
 try simp only [NF] at hc1
 simp at hc1
theorem AppendInt_spec (v : Value) (xs : List Int) (n : Nat) (hn : n < 100) (hx : xs.length ≤ 100000000000) : Spec (X := Value) prog 122 [rV.ty v, tV (.int .i64 n), tV (.int .i64 10)] ([own 5 rU8 v xs]) (fun z => rV.ty z) (fun z => [own 5 rU8 z (xs ++ bytesOf (smallB n))]) := by
 refine Spec.enter func122 rfl rfl fun h0 w0 fr0 => ?_
 refine Jr (Ja rfl (JL_nil (Jr (Jm rfl ?_))))
 refine Js rfl (step_convert_int (m := (n : Int)) underlying2 underlying146 Sr (by simp [IntKind.wrap, IntKind.bits, IntKind.signed]; omega)) ?_
 refine Ja rfl (JL_nil (J_seq (Jr (Jm rfl (Js rfl (step_lss Sr Sr) ?_)))))
 refine JL_nil ?_
 refine J_cond Sr (fun hc1 => ?_) (fun hc1 => ?_)
 ·
  try simp only [NF] at hc1
  exfalso; omega
 try simp only [NF] at hc1
 refine J_skip (Jr (Jm rfl (Jm rfl (Jm rfl ?_))))
 refine Jx rfl (step_call zS (AppendUint_spec _ _ n hn hx) ⟨Sr, Sr, Sr, trivial⟩ call147) fun u => ?_
 refine Ja rfl (JL_nil (J_ret ?_))
 refine K_retv (rv := .tmp 6) rfl u (.tmp Sr) Sr
theorem AppendInt__spec (v : Value) (xs : List Int) (n : Nat) (hn : n < 100) (hx : xs.length ≤ 100000000000) : Spec (X := Value) prog 96 [rV.ty v, tV (.int .i64 n), tV (.int .i64 10)] ([own 5 rU8 v xs]) (fun z => rV.ty z) (fun z => [own 5 rU8 z (xs ++ bytesOf (smallB n))]) := by
 refine Spec.enter func96 rfl rfl fun h0 w0 fr0 => ?_
 refine Jr (Ja rfl (JL_nil (Jr (Jm rfl (Jm rfl ?_)))))
 refine Jm rfl ?_
 refine Jx rfl (step_call zS (AppendInt_spec _ _ n hn hx) ⟨Sr, Sr, Sr, trivial⟩ call122) fun u => ?_
 refine Ja rfl (JL_nil (J_ret ?_))
 refine K_retv (rv := .tmp 6) rfl u (.tmp Sr) Sr
theorem name_spec (l : List Int) (hl : l.length ≤ 1000000) (hb : ∀ x ∈ l, 0 ≤ x ∧ x < 100) : Fun1 prog 69 [tSl rInt l] (tV (.string (nameB l))) := by
 refine Spec.enter func69 rfl rfl fun h0 w0 fr0 => ?_
 refine Jr (Ja rfl (JL_nil (Jr (Ja rfl (JL_nil ?_)))))
 refine J_seq (Jr (Jm rfl (Js rfl (step_len_sl underlying33 Sr) (Jm rfl (JL_nil ?_)))))
 refine J_block ?_
 refine J_loopL (σ := Nat × Value) (fun ⟨i, v⟩ => i ≤ l.length) (fun ⟨i, v⟩ => upd (upd (upd (upd env0 3 (rV.ty v)) 6 (tSl rInt l)) 7 (tV (.int .i64 l.length))) 8 (tV (.int .i64 i))) (fun ⟨i, v⟩ => [own 5 rU8 v (nameL (l.take i))]) (fun ⟨i, v⟩ => l.length - i) (0, .slice none 0 0) (by simp) (.u (.u (.u (SubE.upd (Sub.rV rfl) SubE.any)))) (LSub.nilown) ?_
 rintro ⟨i, v⟩ hi
 try dsimp only at hi
 refine Jr (Js rfl (step_lss Sr Sr) (JL_nil (J_seq ?_)))
 refine J_cond Sr (fun hc1 => ?_) (fun hc1 => ?_)
 ·
  try simp only [NF] at hc1
  have hlt : i < l.length := by omega
  obtain ⟨hb0, hb1⟩ := hb _ (nth_mem hlt)
  have hnl := nameL_len (l := l.take i) fun x hx => hb x (List.mem_of_mem_take hx)
  have hsp := smallB_pos (n := (nth l i).toNat) zG
  have hsl := bytesOf_len (smallB (nth l i).toNat)
  have htl : (l.take i).length ≤ i := List.length_take_le _ _
  have hni : nth l i = ((nth l i).toNat : Int) := by omega
  refine J_skip (J_seq (J_block (Jr ?_)))
  refine Js rfl (step_indexAddr_sl  underlying33 ty3 Sr Sr rfl (gb (by first | assumption | omega))) ?_
  refine Jl rfl ty3 Sr (Ja rfl (JL_nil (J_region (Jm rfl (Jm rfl ?_)))))
  refine Jx rfl (step_call zS (AppendInt__spec _ _ (nth l i).toNat zG zG) ⟨Sr, Sub.int hni, Sr, trivial⟩ call96) fun u14 => ?_
  refine Js rfl (step_literal (ys := [_]) underlying149 el5 ⟨rfl, Sr, trivial⟩ rfl (by decide)) ?_
  refine Jx rfl (step_append underlying149 el5 Sr Sr zS (by simp; omega) (by simp; omega)) fun u16 => ?_
  refine Ja rfl (JL_nil (J_region (Js rfl (step_add Sr Sr z6) (Jm rfl (JL_nil ?_)))))
  refine K_againL (σ := Nat × Value) (s := (i, v)) (i + 1, u16) zO (by simp; omega) (zU) (.c zS (own_eq (by rw [takeB hlt]; simp [nameL])) LSub.nil)
 try simp only [NF] at hc1
 refine J_exit (Jr (Jm rfl ?_))
 refine Js rfl (step_convert_str underlying149 underlying5 underlying9 Sr zS) ?_
 refine Ja rfl (JL_nil (J_ret ?_))
 refine K_drop (Sel.all _) ?_
 refine K_ret1 (t := 2) rfl () ?_
 refine Sub.v ?_
 obtain rfl : i = l.length := by omega
 rw [List.take_length]; rfl
end Lg
namespace Lg
abbrev cmpN (x y : Int) : Int := ordI x y
theorem cmpL_drop {l m : List Int} {i : Nat} (hi : i < l.length) (hj : i < m.length) : cmpL (l.drop i) (m.drop i) = if cmpN (nth l i) (nth m i) ≠ 0 then cmpN (nth l i) (nth m i) else cmpL (l.drop (i + 1)) (m.drop (i + 1)) := by
  rw [dropB hi, dropB hj]
  simp only [cmpL]
  by_cases h : ordI (nth l i) (nth m i) = 0
  · rw [if_pos h, if_neg (by simpa using h)]
  · rw [if_neg h, if_pos h]
theorem cmpL_long {l m : List Int} {i : Nat} (hi : i < l.length) (hj : m.length ≤ i) : cmpL (l.drop i) (m.drop i) = 1 := by
  rw [dropB hi, List.drop_of_length_le hj]; rfl
theorem cmpL_end {l m : List Int} {i : Nat} (hi : l.length ≤ i) : cmpL (l.drop i) (m.drop i) = if i < m.length then -1 else 0 := by
  rw [List.drop_of_length_le hi]
  by_cases h : i < m.length
  · rw [if_pos h, dropB h]; rfl
  · rw [if_neg h, List.drop_of_length_le (by omega)]; rfl
end Lg
namespace Go.Proofs
open Go.Lib
theorem kNaN (x : Int) (w : World) : Calls Tryz.prog 87 #[.int .i64 x] w fun e w' => e = .returned (.bool false) ∧ w' = w := by
  go_enter Tryz.func87, Tryz.ntmps87
  go_wp2
  go_ret
  exact ⟨by simp, rfl⟩
theorem kCmp (x y : Int) (w : World) : Calls Tryz.prog 61 #[.int .i64 x, .int .i64 y] w fun e w' => e = .returned (.int .i64 (Lg.cmpN x y)) ∧ w' = w := by
  go_enter Tryz.func61, Tryz.ntmps61
  go_wp2_with (go_at_call 87; refine (kNaN _ _).mono ?_; rintro e w' ⟨rfl, hw⟩; rw [hw])
  all_goals (go_ret; refine ⟨?_, rfl⟩; unfold Lg.cmpN Lg.ordI; (repeat' split) <;> first | rfl | (exfalso; omega))
theorem kRow (xs ys : List Int) (a a' : Option Addr) (c c' : Nat) (w : World) (hbx : xs.length ≤ 1000000) (hby : ys.length ≤ 1000000) (hx : ∀ i, i < xs.length → ∃ b o, a = some ⟨b, o, none⟩ ∧ w.cell? ⟨b, o + i, none⟩ = some (.int .i64 (Lg.nth xs i))) (hy : ∀ i, i < ys.length → ∃ b o, a' = some ⟨b, o, none⟩ ∧ w.cell? ⟨b, o + i, none⟩ = some (.int .i64 (Lg.nth ys i))) :
    Calls Tryz.prog 36 #[.slice a xs.length c, .slice a' ys.length c'] w fun e w' => e = .returned (.int .i64 (Lg.cmpL xs ys)) ∧ ∃ q, w' = w.drewN q := by
  generalize hn : xs.length = n
  generalize hm : ys.length = m
  rw [hn] at hx hbx
  rw [hm] at hy hby
  go_enter Tryz.func36, Tryz.ntmps36
  go_wp2
  go_loopg [5, 6, 7, 8, 11] n (fun gg _ _ _ _ s8 wr => ∃ kk q : Nat, kk ≤ n ∧ n - kk ≤ gg ∧ s8 = .int .i64 kk ∧ wr = w.drewN q ∧ Aside (kk ≤ m ∧ Lg.cmpL xs ys = Lg.cmpL (xs.drop kk) (ys.drop kk)))
  case atStart => exact ⟨0, 0, Nat.zero_le _, by omega, rfl, rfl, Nat.zero_le _, rfl⟩
  case round =>
    obtain ⟨kk, q, hkk, hg, rfl, rfl, A⟩ := hrel
    have hcall := kCmp
    by_cases h1 : kk < n
    · obtain ⟨b, o, ea, gx⟩ := hx kk h1
      by_cases h2 : kk < m
      · obtain ⟨b', o', ea', gy⟩ := hy kk h2
        have hd : Lg.cmpL (xs.drop kk) (ys.drop kk) = _ := Lg.cmpL_drop (l := xs) (m := ys) (i := kk) (by omega) (by omega)
        clear hx hy
        subst ea; subst ea'
        generalize Lg.nth xs kk = x at gx hd
        generalize Lg.nth ys kk = y at gy hd
        have hc := hcall x y
        by_cases h0 : Lg.cmpN x y = 0
        · rw [h0] at hc
          rw [if_neg (by simpa using h0)] at hd
          go_wp2_with (go_at_call 61; refine (hc _).mono ?_; rintro e w' ⟨rfl, hw⟩; rw [hw])
          go_roundg (n - (kk + 1))
          case measure => omega
          case rel => exact ⟨kk + 1, _, by omega, by omega, by go_num, rfl, (show Aside _ from ⟨by omega, A.out.2.trans hd⟩)⟩
        · rw [if_pos h0] at hd
          generalize hz : Lg.cmpN x y = z at hc h0 hd
          go_wp2_with (go_at_call 61; refine (hc _).mono ?_; rintro e w' ⟨rfl, hw⟩; rw [hw])
          go_ret
          refine ⟨?_, _, rfl⟩
          rw [A.out.2, hd]
          rfl
      · clear hx hy
        subst ea
        go_wp2
        go_ret
        refine ⟨?_, _, rfl⟩
        rw [A.out.2, Lg.cmpL_long (by omega) (by omega)]
        rfl
    · clear hx hy
      by_cases h3 : n < m
      · go_wp2
        go_ret
        refine ⟨?_, _, rfl⟩
        rw [A.out.2, Lg.cmpL_end (by omega), if_pos (by omega)]
        rfl
      · go_wp2
        go_ret
        refine ⟨?_, _, rfl⟩
        rw [A.out.2, Lg.cmpL_end (by omega), if_neg (by omega)]
        rfl
theorem cmpL_calls (x y : List Int) (hbx : x.length ≤ 1000000) (hby : y.length ≤ 1000000) (u u' : Value) (h : Lg.PH) (W : World) (hw : h.inw W) (hu : ((Lg.rSl Lg.rInt).ty x).p h u) (hu' : ((Lg.rSl Lg.rInt).ty y).p h u') :
    Calls Tryz.prog 36 #[u, u'] W fun e' w' => e' = .returned (.int .i64 (Lg.cmpL x y)) ∧ ∃ q os, w' = Sort.grow (W.drewN q) os := by
  have key : ∀ (l : List Int) (ao : Option Addr), (l ≠ [] → ∃ b off, ao = some ⟨b, off, none⟩ ∧ ∀ (i : Nat) x, l[i]? = some x → ∃ cs, Lg.Holds h b (off + i * Lg.rInt.k) cs ∧ Lg.rInt.rel h x cs) → ∀ i, i < l.length → ∃ b o, ao = some ⟨b, o, none⟩ ∧ W.cell? ⟨b, o + i, none⟩ = some (.int .i64 (Lg.nth l i)) := by
    intro l ao H i hi
    obtain ⟨b, off, rfl, H'⟩ := H (fun e => by rw [e] at hi; exact absurd hi (Nat.not_lt_zero _))
    obtain ⟨cs, Hc, r⟩ := H' i _ (Lg.gb hi)
    have r : cs = [.int .i64 (Lg.nth l i)] := r
    subst r
    refine ⟨b, off, rfl, ?_⟩
    have := Hc.cell hw (i := 0) (v := .int .i64 (Lg.nth l i)) rfl
    rw [show off + i * Lg.rInt.k + 0 = off + i from by show off + i * 1 + 0 = _; omega] at this
    exact this
  obtain ⟨ao, cap, rfl, H⟩ := hu
  obtain ⟨ao', cap', rfl, H'⟩ := hu'
  refine (kRow x y ao ao' cap cap' W hbx hby (key x ao H) (key y ao' H')).mono ?_
  rintro e w' ⟨he, q, hq⟩
  exact ⟨he, q, #[], by rw [Sort.grow_empty]; exact hq⟩
end Go.Proofs
namespace Lg
open Go
open Go.Sort (SWO SortedIn PermIn)
section
variable {β : Type} (R : Rp β)
/-- An element: its cell, its datum. -/
abbrev El (p : β → Prop) (h : PH) : Type := { q : Value × β // (R.ty q.2).p h q.1 ∧ p q.2 }
variable {R}
theorem El.of_relAll {p : β → Prop} {h : PH} (hR : R.agg = false) : ∀ {xs : List β} {cs : List Value}, (∀ x ∈ xs, p x) → relAll R h xs cs → ∃ ds : List (El R p h), ds.map (fun x => x.1.2) = xs ∧ ds.map (fun x => x.1.1) = cs
  | [], _, _, r => by cases r; exact ⟨[], rfl, rfl⟩
  | x :: xs, _, hp, ⟨c1, c2, e, r1, r2⟩ => by
    subst e
    obtain ⟨ds, h1, h2⟩ := El.of_relAll hR (fun x hx => hp x (by simp [hx])) r2
    have hl := R.len r1
    rw [R.scalar hR] at hl
    match c1, hl with
    | [v], _ =>
      have hv : (R.ty x).p h v := by have := R.pack r1; rw [hR] at this; exact this
      exact ⟨⟨(v, x), hv, hp x (by simp)⟩ :: ds, by simp [h1], by simp [h2]⟩
theorem El.relAll {p : β → Prop} {h : PH} (hR : R.agg = false) : ∀ (ds : List (El R p h)), Lg.relAll R h (ds.map fun x => x.1.2) (ds.map fun x => x.1.1)
  | [] => rfl
  | ⟨(v, x), hv, _⟩ :: ds => by
    refine ⟨[v], ds.map (fun x => x.1.1), rfl, ?_, El.relAll hR ds⟩
    obtain ⟨cs, r, e⟩ := R.iff.1 hv
    have hl := R.len r
    rw [R.scalar hR] at hl
    match cs, hl with
    | [u], _ =>
      simp only [packV, hR, Bool.false_eq_true, if_false, List.headD_cons] at e
      subst e; exact r
end
/-- slices.SortFunc, at elements of one cell, in own memory. -/
theorem sortFunc_spec {P : Program} {ρ : Shelf.Ren} (LL : Go.Proofs.SlLaysF.n6 P ρ) {β : Type} {R : Rp β} (hR : R.agg = false) (cf : β → β → Int) (hO : SWO (Go.Proofs.ltOf cf)) {gf e : Nat} (eg : ∀ args w, (callFunc gf args).run P w = .ok (.enter gf args) w)
    (p : β → Prop) (hc : ∀ x y, p x → p y → ∀ (u u' : Value) (h : PH) (W : World), h.inw W → (R.ty x).p h u → (R.ty y).p h u' → Calls P gf #[u, u'] W fun e' w' => e' = .returned (.int .i64 (cf x y)) ∧ ∃ q os, w' = Sort.grow (W.drewN q) os) (v : Value) (xs : List β) (hpx : ∀ x ∈ xs, p x) (hn : xs.length < 4611686018427387904) :
    Spec (X := { ys : List β // ys.Perm xs ∧ ys.Pairwise fun a b => Go.Proofs.ltOf cf b a = false }) P (ρ.f 6) [rV.ty v, tV (.func (.func gf) #[] #[])] [own e R v xs] (fun _ => tTup []) (fun ys => [own e R v ys.1]) := by
  intro vs h m r w ha sp st
  match vs, ha with
  | [u1, u2], ⟨a1, a2, _⟩ =>
  obtain ⟨e1, _⟩ := a1
  have e2 : u2 = .func (.func gf) #[] #[] := a2
  subst e1; subst e2
  obtain ⟨m1, m2, d12, rfl, ho, e3⟩ := st
  rw [stars_nil] at e3; subst e3
  rw [PH.join_emp] at sp
  have none_case : ∀ (p : Option Addr) (cap : Nat), u1 = .slice p 0 cap → xs = [] → Calls P (ρ.f 6) [u1, .func (.func gf) #[] #[]].toArray w (Ret (X := { ys : List β // ys.Perm xs ∧ ys.Pairwise fun a b => Go.Proofs.ltOf cf b a = false }) h w r (fun _ => tTup []) (fun ys => [own e R u1 ys.1])) := by
    intro p cap hu hx
    subst hu; subst hx
    refine (Go.Proofs.AnyF.slices_SortFunc_none (P := P) (ρ := ρ) { LL with } p cap _ w).mono ?_
    rintro e' w' ⟨rfl, rfl⟩
    refine ⟨⟨[], List.Perm.refl _, List.Pairwise.nil⟩, _, h, m1, rfl, HL.refl, sp, ⟨m1, PH.emp, PH.disj_emp _, (PH.join_emp _).symm, ho, rfl⟩, ⟨[], rfl, trivial⟩⟩
  rcases ho with ⟨rfl, rfl, rfl⟩ | ⟨g, cap, cur, rfl, rfl, hl, hm, hs, hr⟩
  · exact none_case none 0 rfl rfl
  · by_cases hx : xs = []
    · subst hx; exact none_case _ cap rfl rfl
    · obtain ⟨ds, hd1, hd2⟩ := El.of_relAll (p := p) hR hpx hr
      have hk := R.scalar hR
      rw [hk, Nat.mul_one] at hd2 hs
      have hlen : ds.length = xs.length := by rw [← hd1]; simp
      have hne : ds ≠ [] := fun q => hx (by rw [← hd1, q]; rfl)
      haveI : Inhabited (El R p h) := ⟨ds.head hne⟩
      have hb := sp.mw g _ (PH.one_same _ _)
      have hgh : h g = none := PH.disj_one_iff.1 sp.hm
      have hget : ∀ j, j < ds.toArray.size → cur[j]? = some (ds.toArray[j]!).1.1 := fun j hj => by
        have hj' : j < ds.length := by simpa using hj
        have : (cur.toList.take xs.length)[j]? = some (ds[j]).1.1 := by rw [← hd2]; simp [hj']
        rw [List.getElem?_take, if_pos (by omega)] at this
        rw [getElem!_pos _ j hj]
        simpa using this
      have hH : Sort.Holds (fun x : El R p h => x.1.1) w g 0 ds.toArray := fun j hj => ⟨by
        rw [Nat.zero_add]; simp only [World.cell?, hb]
        exact hget j hj, by simp [World.frozen?, hb]⟩
      have hcell : ∀ x : El R p h, x.1.1.oneCell' = true := fun x => by
        obtain ⟨cs, rx, ex⟩ := R.iff.1 x.2.1
        have hlx := R.len rx
        rw [hk] at hlx
        match cs, hlx with
        | [u], _ => simp only [packV, hR, Bool.false_eq_true, if_false, List.headD_cons] at ex; rw [ex]; exact R.one rx u (by simp)
      have hblk : g < w.heap.size := (Array.getElem?_eq_some_iff.1 hb).1
      have hcmp : Go.Proofs.CmpLays1 P gf #[] (fun x : El R p h => x.1.1) (fun x y => cf x.1.2 y.1.2) g 0 ds.toArray.size w := by
        intro n os dk hdk x y
        have hw : h.inw (Go.Proofs.sortWorld (fun x : El R p h => x.1.1) w g 0 n dk os) := fun b o eb => by
          have hne' : b ≠ g := fun q => by rw [q, hgh] at eb; cases eb
          rw [sortWorld_other (PH.inw_lt sp.hw eb) hne']; exact sp.hw b o eb
        refine (hc x.1.2 y.1.2 x.2.2 y.2.2 x.1.1 y.1.1 h _ hw x.2.1 y.2.1).mono ?_
        rintro e' w' ⟨he, q, os', hq⟩
        exact ⟨he, q, os', hq⟩
      have hO' : SWO (Go.Proofs.ltOf fun x y : El R p h => cf x.1.2 y.1.2) := ⟨fun x => hO.irrefl _, fun x y z => hO.trans _ _ _, fun x y z => hO.ntrans _ _ _⟩
      have hS := Go.Proofs.Any.slices_SortFunc LL (fun x : El R p h => x.1.1) hcell (fun x y => cf x.1.2 y.1.2) hO' gf #[] g 0 cap ds.toArray w eg hcmp hH hblk (by simpa [hlen] using hn)
      have hsz : ds.toArray.size = xs.length := by simp [hlen]
      rw [hsz] at hS
      refine hS.mono ?_
      rintro e' w' ⟨rfl, d', n, os, ⟨p1, _, p3⟩, hso, rfl⟩
      have hd's : d'.size = xs.length := by rw [p1, hsz]
      have hperm : d'.toList.Perm ds := by
        have q1 : (d'.extract 0 xs.length) = d' := by rw [← hd's]; simp
        have q2 : (ds.toArray.extract 0 xs.length) = ds.toArray := by rw [← hsz]; simp
        rw [q1, q2] at p3
        simpa using p3
      have hcur : (Sort.putCells (fun x : El R p h => x.1.1) 0 d' cur).toList.take xs.length = d'.toList.map (fun x => x.1.1) := by
        apply List.ext_getElem?
        intro j
        rw [List.getElem?_take]
        split
        · rename_i hj
          have hjc : j < cur.size := by omega
          have hjd : j < d'.size := by omega
          simp [Sort.putCells, hjc, hjd, hj, hd's]
        · rw [List.getElem?_eq_none (by simp; omega)]
      refine ⟨⟨d'.toList.map (fun x => x.1.2), ?_, ?_⟩, _, h, PH.one g (.cells (Sort.putCells (fun x : El R p h => x.1.1) 0 d' cur) e (0, 0)), rfl, HL.same ⟨rfl, rfl, rfl⟩, ?_, ⟨_, PH.emp, PH.disj_emp _, (PH.join_emp _).symm, .inr ⟨g, cap, _, by simp [hd's], rfl, by simpa [hd's] using hl, hm, ?_, ?_⟩, rfl⟩, ⟨[], rfl, trivial⟩⟩
      · have := hperm.map (fun x : El R p h => x.1.2)
        rw [hd1] at this; exact this
      · rw [List.pairwise_map]
        rw [List.pairwise_iff_getElem]
        intro i j hi hj hij
        have hi' : i < d'.size := by simpa using hi
        have hj' : j < d'.size := by simpa using hj
        have := hso i j (by omega) hij (by omega)
        rw [getElem!_pos d' i hi', getElem!_pos d' j hj'] at this
        simp only [Array.getElem_toList]
        exact this
      · have sp' : Sep h ((PH.one g (.cells cur e (0, 0))).join PH.emp) r w := by rw [PH.join_emp]; exact sp
        have := Sep.write (o' := .cells (Sort.putCells (fun x : El R p h => x.1.1) 0 d' cur) e (0, 0)) (PH.disj_emp _) sp' (fun b hne' hb' => sortWorld_other (enc := fun x : El R p h => x.1.1) (off := 0) (m := n) (dk := d') (os := os) hb' hne') (sortWorld_row hb)
        rw [PH.join_emp] at this; exact this
      · simp [Sort.putCells, hs, hk]
      · have e5 : (d'.toList.map (fun x : El R p h => x.1.2)).length = xs.length := by simp [hd's]
        rw [e5, hk, Nat.mul_one, hcur]
        exact El.relAll hR d'.toList
open Go Go.Proofs Go.Proofs.Tryz
theorem ordI_anti (a b : Int) : ordI b a = - ordI a b := by unfold ordI; (repeat' split) <;> omega
theorem cmpL_anti : ∀ a b : List Int, cmpL b a = - cmpL a b
  | [], [] => rfl
  | [], _ :: _ => rfl
  | _ :: _, [] => rfl
  | a :: x, b :: y => by
    simp only [cmpL]
    rw [ordI_anti a b, cmpL_anti x y]
    by_cases h : ordI a b = 0
    · rw [if_pos h, if_pos (by omega)]
    · rw [if_neg h, if_neg (by omega)]
theorem cmpL_trans : ∀ a b c : List Int, cmpL a b ≤ 0 → cmpL b c ≤ 0 → cmpL a c ≤ 0 ∧ (cmpL a c = 0 → cmpL a b = 0 ∧ cmpL b c = 0)
  | [], [], [], _, _ => by simp [cmpL]
  | [], [], _ :: _, _, _ => by simp [cmpL]
  | [], _ :: _, [], _, h => by simp [cmpL] at h
  | [], _ :: _, _ :: _, _, _ => by simp [cmpL]
  | _ :: _, [], _, h, _ => by simp [cmpL] at h
  | _ :: _, _ :: _, [], _, h => by simp [cmpL] at h
  | a :: x, b :: y, c :: z, h1, h2 => by
    have ih := cmpL_trans x y z
    simp only [cmpL] at h1 h2 ⊢
    unfold ordI at h1 h2 ⊢
    by_cases e1 : a < b <;> by_cases e2 : b < c <;> by_cases e3 : a < c <;> by_cases e4 : b < a <;> by_cases e5 : c < b <;> by_cases e6 : c < a <;> simp only [e1, e2, e3, e4, e5, e6, if_true, if_false] at h1 h2 ⊢ <;> first | omega | (simp at h1 h2 ⊢; done) | (simp at h1 h2 ⊢; exact ih h1 h2)
theorem cmpL_swo : Go.Sort.SWO (ltOf cmpL) where
  irrefl x := by
    have := cmpL_anti x x
    have h : cmpL x x = 0 := by omega
    simp [ltOf, h]
  trans x y z h1 h2 := by
    simp only [ltOf, decide_eq_true_eq] at h1 h2 ⊢
    have := cmpL_trans x y z (by omega) (by omega)
    omega
  ntrans x y z h1 h2 := by
    simp only [ltOf, decide_eq_false_iff_not] at h1 h2 ⊢
    have a1 := cmpL_anti x y
    have a2 := cmpL_anti y z
    have a3 := cmpL_anti x z
    have := cmpL_trans z y x (by omega) (by omega)
    omega
theorem SortL_spec (v : Value) (xs : List (List Int)) (hpx : ∀ x ∈ xs, x.length ≤ 1000000) (hn : xs.length < 4611686018427387904) :
    Spec (X := { ys : List (List Int) // ys.Perm xs ∧ ys.Pairwise fun a b => ltOf cmpL b a = false }) prog 35 [rV.ty v, tV (.func (.func 36) #[] #[])] [own 33 rI2 v xs] (fun _ => tTup []) (fun ys => [own 33 rI2 v ys.1]) :=
  sortFunc_spec Tryz.sortK rfl cmpL cmpL_swo call36 (fun x => x.length ≤ 1000000) (fun x y hx hy u u' h W hw hu hu' => Go.Proofs.cmpL_calls x y hx hy u u' h W hw (Sub.ofE _ _ hu) (Sub.ofE _ _ hu')) v xs hpx hn
abbrev KM := List (ByteArray × List Int)
def knownM (xs : List (List Int)) : KM := xs.foldl (fun m s => mput m (nameB s) s) []
theorem knownM_snoc (xs : List (List Int)) (s : List Int) : knownM (xs ++ [s]) = mput (knownM xs) (nameB s) s := by simp [knownM]
theorem mput_vals {m : KM} {q : ByteArray} {y : List Int} : ∀ {p : ByteArray × List Int}, p ∈ mput m q y → p = (q, y) ∨ p ∈ m := by
  induction m with
  | nil => intro p h; simp [mput] at h; exact .inl h
  | cons a m ih =>
    intro p h
    simp only [mput] at h
    split at h
    · rcases List.mem_cons.1 h with rfl | h
      · rename_i he; exact .inl (by simp_all)
      · exact .inr (List.mem_cons_of_mem _ h)
    · rcases List.mem_cons.1 h with rfl | h
      · exact .inr (by simp)
      · rcases ih h with h | h
        · exact .inl h
        · exact .inr (List.mem_cons_of_mem _ h)
def partT (b : Nat) (s : List Int) (i : Nat) : List Int := ((List.range i).filter fun j => decide (b / 2 ^ j % 2 = 1)).map (nth s)
theorem partT_succ (b : Nat) (s : List Int) (i : Nat) : partT b s (i + 1) = partT b s i ++ if b / 2 ^ i % 2 = 1 then [nth s i] else [] := by
  unfold partT
  rw [List.range_succ, List.filter_append, List.map_append]
  by_cases h : b / 2 ^ i % 2 = 1 <;> simp [h]
theorem partT_len (b : Nat) (s : List Int) (i : Nat) : (partT b s i).length ≤ i := by
  unfold partT
  rw [List.length_map]
  exact Nat.le_trans (List.length_filter_le _ _) (by simp)
theorem partT_mem {b : Nat} {s : List Int} {i : Nat} (h : i ≤ s.length) : ∀ x ∈ partT b s i, x ∈ s := by
  intro x hx
  simp only [partT, List.mem_map, List.mem_filter, List.mem_range] at hx
  obtain ⟨j, ⟨hj, _⟩, rfl⟩ := hx
  exact nth_mem (by omega)
def okN (m : KM) (s : List Int) (k : Nat) : Bool := (List.range k).all fun b => (mget m (nameB (partT (b + 1) s s.length))).isNone
theorem okN_succ (m : KM) (s : List Int) (k : Nat) : okN m s (k + 1) = (okN m s k && (mget m (nameB (partT (k + 1) s s.length))).isNone) := by simp [okN, List.range_succ]
def minOk (m : KM) (s : List Int) : Bool := okN m s (2 ^ s.length - 2)
def outL (m : KM) (dn : List Nat) : List (List Int) := ((dn.filterMap fun i => m[i]?).map (·.2)).filter (minOk m)
theorem outL_snoc {m : KM} {dn : List Nat} {i : Nat} {k : ByteArray} {s : List Int} (h : m[i]? = some (k, s)) : outL m (dn ++ [i]) = outL m dn ++ if minOk m s then [s] else [] := by
  simp [outL, h]
  by_cases hs : minOk m s = true <;> simp [hs]
def minL (m : KM) : List (List Int) := (m.map (·.2)).filter (minOk m)
theorem nodup_sub_len : ∀ {l : List Nat}, l.Nodup → ∀ {r : List Nat}, (∀ a ∈ l, a ∈ r) → l.length ≤ r.length
  | [], _, r, _ => Nat.zero_le _
  | a :: l, hd, r, hs => by
    have hd' := List.nodup_cons.1 hd
    have ha := hs a (by simp)
    have := nodup_sub_len hd'.2 (r := r.erase a) (fun b hb => (List.mem_erase_of_ne (by intro e; subst e; exact hd'.1 hb)).2 (hs b (by simp [hb])))
    rw [List.length_erase_of_mem ha] at this
    have hp : 0 < r.length := List.length_pos_of_mem ha
    simp only [List.length_cons]
    omega
theorem nodup_lt_len {n : Nat} {l : List Nat} (hd : l.Nodup) (hl : ∀ a ∈ l, a < n) : l.length ≤ n := by
  have := nodup_sub_len hd (r := List.range n) (fun a ha => List.mem_range.2 (hl a ha))
  simpa using this
theorem range_get (m : KM) : ((List.range m.length).filterMap fun i => m[i]?) = m := by
  have h : ∀ k (l : KM), k = l.length → ((List.range k).filterMap fun i => (l)[i]?) = l := by
    intro k
    induction k with
    | zero => intro l e; have := List.eq_nil_of_length_eq_zero e.symm; subst this; rfl
    | succ k ih =>
      intro l e
      obtain ⟨l', a, rfl⟩ : ∃ l' a, l = l' ++ [a] := ⟨l.dropLast, l.getLast (by intro h; rw [h] at e; simp at e), (List.dropLast_concat_getLast _).symm⟩
      have e' : k = l'.length := by simp at e; exact e
      rw [List.range_succ, List.filterMap_append]
      have := ih l' e'
      have h2 : ((List.range k).filterMap fun i => (l' ++ [a])[i]?) = (List.range k).filterMap fun i => l'[i]? := by
        have h3 : ∀ (r : List Nat), (∀ i ∈ r, i < l'.length) → (r.filterMap fun i => (l' ++ [a])[i]?) = r.filterMap fun i => l'[i]? := by
          intro r
          induction r with
          | nil => intro _; rfl
          | cons i r ihr =>
            intro hr
            simp only [List.filterMap_cons]
            rw [List.getElem?_append_left (hr i (by simp)), ihr (fun j hj => hr j (by simp [hj]))]
        exact h3 _ (fun i hi => by have := List.mem_range.1 hi; omega)
      rw [h2, this]
      simp [e']
  exact h _ m rfl
theorem outL_perm {m : KM} {dn : List Nat} (hd : dn.Nodup) (hl : ∀ a ∈ dn, a < m.length) (hc : ∀ i, i < m.length → i ∈ dn) : (outL m dn).Perm (minL m) := by
  have hp : dn.Perm (List.range m.length) := (List.perm_ext_iff_of_nodup hd List.nodup_range).2 fun a => ⟨fun h => List.mem_range.2 (hl a h), fun h => hc a (List.mem_range.1 h)⟩
  have := ((hp.filterMap fun i => m[i]?).map (·.2)).filter (minOk m)
  rw [range_get] at this
  exact this
theorem outL_len (m : KM) (dn : List Nat) : (outL m dn).length ≤ dn.length := by
  unfold outL
  refine Nat.le_trans (List.length_filter_le _ _) ?_
  rw [List.length_map]
  exact List.length_filterMap_le _ _
theorem outL_mem {m : KM} {dn : List Nat} : ∀ x ∈ outL m dn, ∃ p ∈ m, p.2 = x := by
  intro x hx
  simp only [outL, List.mem_filter, List.mem_map, List.mem_filterMap] at hx
  obtain ⟨⟨p, ⟨i, _, hi⟩, rfl⟩, _⟩ := hx
  exact ⟨p, List.mem_of_getElem? hi, rfl⟩
theorem knownM_mem {xs : List (List Int)} : ∀ p ∈ knownM xs, p.2 ∈ xs ∧ p.1 = nameB p.2 := by
  have h : ∀ (ys : List (List Int)) (m : KM), (∀ p ∈ m, p.2 ∈ xs ∧ p.1 = nameB p.2) → (∀ y ∈ ys, y ∈ xs) → ∀ p ∈ ys.foldl (fun m s => mput m (nameB s) s) m, p.2 ∈ xs ∧ p.1 = nameB p.2 := by
    intro ys
    induction ys with
    | nil => intro m hm _ p hp; exact hm p hp
    | cons y ys ih =>
      intro m hm hy p hp
      refine ih (mput m (nameB y) y) (fun q hq => ?_) (fun z hz => hy z (by simp [hz])) p hp
      rcases mput_vals hq with rfl | hq
      · exact ⟨hy y (by simp), rfl⟩
      · exact hm q hq
  exact h xs [] (by simp) (fun y hy => hy)
theorem knownM_len (xs : List (List Int)) : (knownM xs).length ≤ xs.length := by
  have h : ∀ (ys : List (List Int)) (m : KM), (ys.foldl (fun m s => mput m (nameB s) s) m).length ≤ m.length + ys.length := by
    intro ys
    induction ys with
    | nil => intro m; simp
    | cons y ys ih =>
      intro m
      have h1 := ih (mput m (nameB y) y)
      have h2 := mput_length_le m (nameB y) y
      simp only [List.foldl_cons, List.length_cons]
      omega
  have := h xs []
  simpa [knownM] using this
theorem pw_wrap {n : Nat} (h : n ≤ 3) : IntKind.i64.wrap (1 * 2 ^ n) = ((2 ^ n : Nat) : Int) ∧ 2 ^ n ≤ 8 ∧ 1 ≤ 2 ^ n := by
  have : n = 0 ∨ n = 1 ∨ n = 2 ∨ n = 3 := by omega
  rcases this with rfl | rfl | rfl | rfl <;> decide
theorem minimal_spec (tot : List (List Int)) (ht : ∀ s ∈ tot, s.length ≤ 3 ∧ ∀ x ∈ s, 0 ≤ x ∧ x < 100) (htl : tot.length ≤ 1000000) (gi : Nat) (As : List Ty) (it : ItSpec prog gi As [] tI2 (okP tot) (fun p => p = tot)) (he : ∀ args w, (callFunc gi args).run prog w = .ok (.enter gi args) w) : Spec (X := { ys : List (List Int) // ys.Perm (minL (knownM tot)) ∧ ys.Pairwise fun a b => ltOf cmpL b a = false }) prog 51 [tClo gi As] ([]) (fun ys => tSlE 33 rI2 ys.1) (fun ys => []) := by
 refine Spec.enter func51 rfl rfl fun h0 w0 fr0 => ?_
 refine Jr (Ja rfl (JL_nil (Jr ?_)))
 refine Jx rfl (step_makeMapV (kv := kvS) (R := rI2)) fun v15 => ?_
 refine Jx rfl (step_alloc (fun w => zeroValue126 w) zr126) fun v3 => ?_
 refine Ju (step_store_box ty126 Sr Sr zS) fun _ => ?_
 refine JL_freeze (t := 3) (Sel.take (Sel.none _)) Frz.box ?_
 refine JL_nil (J_seq (Jr (Jm rfl (JL_nil (J_block ?_)))))
 refine J_range (A := []) (T := tI2) (Ok := okP tot) (Fin := fun p => p = tot) (R := []) (fun xs => mapOwn kvS rI2 v15 (knownM xs)) (fun _ _ => SP.pure False) rfl (fun _ => rfl) rfl it Sr he (LSub.rfl) ?round1 ?done1 ?stop1
 case round1 =>
  intro l1 rec1 h2 w2 fr2 pre y hle1 hst1 hpd1 hdj1 hok
  obtain ⟨hy3, hyb⟩ := ht y (hok.subset (by simp))
  have hy3 : y.length ≤ 1000000 := by omega
  refine J_region (Ja rfl (JL_nil ?_))
  refine K_begin hst1 hdj1 ?_
  refine J_block ?_
  refine J_draw [⟨0, [3], true⟩, ⟨1, [4], true⟩, ⟨2, [19], true⟩, ⟨3, [4], true⟩, ⟨4, [18, 20, 21], false⟩] rfl (by kernel_rfl) ?_
  refine Mf rfl rfl (step_load_ptr ty126 Sr) (Mv rfl rfl (Mf rfl rfl (step_call0 (name_spec y hy3 hyb) ⟨Sub.ofE, trivial⟩ call69) (Mv rfl rfl ?_)))
  refine JM_stepU rfl rfl rfl (step_mapUpdate (kv := kvS) (R := rI2) (KeyT.str underlying9) underlying126 Sub.ofRV Sr Sr zS) fun _ => ?_
  refine JM_nil ?_
  refine K_roundN hst1 hpd1 ?_
  exact .r zS (.c zS (SPs.of (by rw [knownM_snoc])) (LSub.nil))
 case done1 =>
  intro D1 xs hfin
  have hfin : xs = tot := hfin
  subst xs
  refine Jr (Ja rfl (JL_nil ?_))
  refine K_lsub (LSub.nilown (e := 33) (R := rI2)) ?_
  refine J_seq (Jr (Jl rfl ty126 Sr ?_))
  refine Jx rfl (step_range_map (kv := kvS) (R := rI2) underlying126 Sub.ofRV zS) fun v23 => ?_
  refine JL_nil (J_block ?_)
  refine J_loopL (σ := List Nat × Value) (fun ⟨dn, vo⟩ => dn.Nodup ∧ ∀ a ∈ dn, a < (knownM tot).length) (fun ⟨dn, vo⟩ => upd (upd (upd (upd env0 2 (tV (.slice none 0 0))) 3 (tPtr rV v15)) 5 (rV.ty vo)) 23 (tAt v23 0)) (fun ⟨dn, vo⟩ => [itOwn v23 v15 (knownM tot).length dn, mapOwn kvS rI2 v15 (knownM tot), own 33 rI2 vo (outL (knownM tot) dn), dfB D1]) (fun ⟨dn, vo⟩ => (knownM tot).length - dn.length) ([], .slice none 0 0) ⟨by simp, by simp⟩ (.u (SubE.upd (Sub.rV rfl) (zU))) (zL) ?_
  rintro ⟨dn, vo⟩ ⟨hnd, hdlt⟩
  refine Jr ?_
  refine Jx rfl (step_next rfl Sr LSub.rfl) fun o => ?_
  refine Js rfl (step_extract_next Sr) (JL_nil (J_seq ?_))
  refine J_cond Sr (fun h25 => ?_) (fun h25 => ?_)
  ·
   try simp only [NF] at h25
   obtain ⟨o, ho⟩ := o
   obtain ⟨i, rfl⟩ := Option.isSome_iff_exists.1 h25
   dsimp only at ho
   obtain ⟨hil, hid⟩ := ho
   obtain ⟨⟨nm, s⟩, hms⟩ : ∃ q, (knownM tot)[i]? = some q := ⟨_, List.getElem?_eq_getElem hil⟩
   obtain ⟨hs3, hsb⟩ := ht s (knownM_mem _ (List.mem_of_getElem? hms)).1
   obtain ⟨hpw, hT8, hT1⟩ := pw_wrap hs3
   have hmo : minOk (knownM tot) s = okN (knownM tot) s (2 ^ s.length - 2) := rfl
   generalize 2 ^ s.length = T at hpw hT8 hT1 hmo
   have hnd2 : (dn ++ [i]).Nodup := List.nodup_append.2 ⟨hnd, by simp, by intro a ha b hb e; simp at hb; subst hb; subst e; exact hid ha⟩
   have hlt2 : ∀ a ∈ dn ++ [i], a < (knownM tot).length := by intro a ha; rcases List.mem_append.1 ha with h | h; exact hdlt a h; simp at h; subst h; exact hil
   have hdl := nodup_lt_len hnd2 hlt2
   simp only [List.length_append, List.length_cons, List.length_nil] at hdl
   have hol := outL_len (knownM tot) dn
   have hkl := knownM_len tot
   refine J_skip (J_block (Jr (Js rfl (step_entry Sr LSub.rfl hms) (Js rfl (step_extract Sr rfl) (Ja rfl ?_)))))
   refine JL_nil (Jr (Ja rfl (JL_nil (J_seq (Jr ?_)))))
   refine Ja rfl (JL_nil (J_block ?_))
   refine J_loopL (σ := Nat) (fun n => n ≤ T - 2) (fun n => upd (upd (upd (upd (upd (upd (upd (upd env0 2 (tV (.slice none 0 0))) 3 (tPtr rV v15)) 5 (rV.ty vo)) 7 (tSlE 3 rInt s)) 8 (tV (.bool (okN (knownM tot) s n)))) 9 (tV (.int .i64 ((n : Int) + 1)))) 23 (tAt v23 0)) 27 (tSlE 3 rInt s)) (fun n => [itOwn v23 v15 (knownM tot).length (dn ++ [i]), mapOwn kvS rI2 v15 (knownM tot), own 33 rI2 vo (outL (knownM tot) dn), dfB D1]) (fun n => T - 2 - n) 0 (Nat.zero_le _) (.u (.u (SubE.upd (Sub.int (by simp)) (SubE.upd (Sub.bool (by simp [okN])) (zU))))) (LSub.rfl) ?_
   rintro n hi
   refine J_seq (Jr (Jm rfl (Jm rfl (Js rfl (step_len_sl underlying33 Sub.ofE) (Js rfl (step_shl (n := s.length) (m := (T : Int)) Sr Sr rfl zG hpw) ?_)))))
   refine Js rfl (step_sub Sr Sr z6) (Js rfl (step_lss Sr Sr) (JL_nil ?_))
   refine J_cond Sr (fun h33 => ?_) (fun h33 => ?_)
   ·
    try simp only [NF] at h33
    have hnT : n < T - 2 := by omega
    refine J_skip (J_seq (J_block (Jr (Ja rfl (JL_nil ?_)))))
    refine J_seq (Jr (Jm rfl (Js rfl (step_len_sl underlying33 Sub.ofE) (Jm rfl (JL_nil ?_)))))
    refine J_block ?_
    refine J_loopL (σ := Nat × Value) (fun ⟨j, vp⟩ => j ≤ s.length) (fun ⟨j, vp⟩ => upd (upd (upd (upd (upd (upd (upd (upd (upd (upd (upd (upd (upd (upd env0 2 (tV (.slice none 0 0))) 3 (tPtr rV v15)) 5 (rV.ty vo)) 7 (tSlE 3 rInt s)) 8 (tV (.bool (okN (knownM tot) s n)))) 9 (tV (.int .i64 ((n : Int) + 1)))) 10 (rV.ty vp)) 23 (tAt v23 0)) 27 (tSlE 3 rInt s)) 28 (tV (.int .i64 ((n : Int) + 1)))) 29 (tSlE 3 rInt s)) 36 (tSlE 3 rInt s)) 37 (tV (.int .i64 s.length))) 38 (tV (.int .i64 j))) (fun ⟨j, vp⟩ => [own 3 rInt vp (partT (n + 1) s j), itOwn v23 v15 (knownM tot).length (dn ++ [i]), mapOwn kvS rI2 v15 (knownM tot), own 33 rI2 vo (outL (knownM tot) dn), dfB D1]) (fun ⟨j, vp⟩ => s.length - j) (0, .slice none 0 0) (by simp) (.u (.u (.u (.u (.u (.u (.u (SubE.upd (Sub.rV rfl) (zU))))))))) (LSub.nilown) ?_
    rintro ⟨j, vp⟩ hj
    try dsimp only at hj
    refine Jr (Js rfl (step_lss Sr Sr) (JL_nil (J_seq ?_)))
    refine J_cond Sr (fun h39 => ?_) (fun h39 => ?_)
    ·
     try simp only [NF] at h39
     have hlj : j < s.length := by omega
     have hpl := partT_len (n + 1) s j
     refine J_skip (J_seq (J_block (Jr (Jm rfl ?_))))
     refine Js rfl (step_indexAddr_sl  underlying33 ty3 Sub.ofE Sr rfl (gb (by first | assumption | omega))) ?_
     refine Jl rfl ty3 Sr (Ja rfl (Ja rfl (JL_nil (Jr (Jm rfl ?_)))))
     refine Jm rfl (Js rfl (step_shr (n := j) Sr Sr rfl zG) ?_)
     refine Js rfl (step_and1 (n := (n + 1) / 2 ^ j) Sr Sr (by simp) rfl (Nat.lt_of_le_of_lt (Nat.div_le_self _ _) zG)) ?_
     refine Js rfl (step_eql Sr Sr) (JL_nil ?_)
     refine J_cond Sr (fun h47 => ?_) (fun h47 => ?_)
     ·
      try simp only [NF] at h47
      have hbit : (n + 1) / 2 ^ j % 2 = 1 := by exact_mod_cast h47
      refine J_region (Jm rfl (Jm rfl ?_))
      refine Js rfl (step_literal (ys := [_]) underlying33 el3 ⟨rfl, Sr, trivial⟩ rfl (by decide)) ?_
      refine Jx rfl (step_append underlying33 el3 Sr Sr zS (by simp; omega) (by simp; omega)) fun u51 => ?_
      refine Ja rfl (JL_nil (J_region (Js rfl (step_add Sr Sr z6) (Jm rfl (JL_nil ?_)))))
      refine K_againL (σ := Nat × Value) (s := (j, vp)) (j + 1, u51) zO zG (zU) (.c zS (own_eq (by rw [partT_succ, if_pos hbit])) (zL))
     try simp only [NF] at h47
     have hbit : ¬ (n + 1) / 2 ^ j % 2 = 1 := by intro h; apply h47; exact_mod_cast h
     refine J_skip (J_region (Js rfl (step_add Sr Sr z6) (Jm rfl (JL_nil ?_))))
     refine K_againL (σ := Nat × Value) (s := (j, vp)) (j + 1, vp) zO zG (zU) (.c zS (own_eq (by rw [partT_succ, if_neg hbit, List.append_nil])) (zL))
    try simp only [NF] at h39
    obtain rfl : j = s.length := by omega
    have hpl := partT_len (n + 1) s s.length
    have hpb : ∀ x ∈ (partT (n + 1) s s.length), 0 ≤ x ∧ x < 100 := fun x hx => hsb x (partT_mem (Nat.le_refl _) x hx)
    refine J_exit (J_seq ?_)
    refine J_draw [⟨0, [3], true⟩, ⟨1, [10], true⟩, ⟨2, [55], false⟩, ⟨3, [54, 56], false⟩, ⟨4, [57], true⟩, ⟨5, [53], true⟩, ⟨6, [53], true⟩, ⟨7, [58], true⟩, ⟨8, [59], true⟩] rfl (by kernel_rfl) ?_
    refine Mf rfl rfl (step_load_ptr ty126 Sr) (Mv rfl rfl ?_)
    refine JM_look rfl rfl rfl rfl (step_call_look zS (name_spec (partT (n + 1) s s.length) zG hpb) (fun _ => Flat.v _) ⟨(Frz.own), trivial⟩ call69) ?_
    refine JM_look rfl rfl rfl rfl (step_lookup_ok (kv := kvS) (R := rI2) (z := []) (KeyT.str underlying9) underlying126 (fun w => zeroValue33 w) zr33E Sub.ofRV Sr zS) ?_
    refine Mv rfl rfl (Mf rfl rfl (step_extract Sr rfl) (Mf rfl rfl (step_extract Sr rfl) (Mf rfl rfl (step_assign Sr) (Mf rfl rfl (step_assign Sr) (JM_nil ?_)))))
    refine Jr (Jm rfl (JL_nil ?_))
    refine J_cond Sr (fun h60 => ?_) (fun h60 => ?_)
    ·
     try simp only [NF] at h60
     refine J_region (Ja rfl (JL_nil (J_region (Jm rfl (Js rfl (step_add Sr Sr z6) ?_)))))
     refine Ja rfl (JL_nil ?_)
     refine K_drop (Sel.take (Sel.none _)) ?_
     refine K_againL (σ := Nat) (s := n) (n + 1) zO zG (.u (.u (SubE.upd (Sub.int (by simp)) (SubE.upd (Sub.bool (by rw [okN_succ]; cases hq : mget (knownM tot) (nameB (partT (n + 1) s s.length)) <;> simp_all)) (zU))))) (LSub.rfl)
    try simp only [NF] at h60
    refine J_skip (J_region (Jm rfl (Js rfl (step_add Sr Sr z6) (Ja rfl (JL_nil ?_)))))
    refine K_drop (Sel.take (Sel.none _)) ?_
    refine K_againL (σ := Nat) (s := n) (n + 1) zO zG (.u (.u (SubE.upd (Sub.int (by simp)) (SubE.upd (Sub.bool (by rw [okN_succ]; cases hq : mget (knownM tot) (nameB (partT (n + 1) s s.length)) <;> simp_all)) (zU))))) (LSub.rfl)
   try simp only [NF] at h33
   obtain rfl : n = T - 2 := by omega
   skip
   refine J_exit (Jr (Jm rfl (JL_nil ?_)))
   refine J_cond Sr (fun h61 => ?_) (fun h61 => ?_)
   ·
    try simp only [NF] at h61
    refine J_region (Jm rfl (Jm rfl ?_))
    refine Js rfl (step_literal (ys := [_]) underlying45 el33E ⟨rfl, Sr, trivial⟩ rfl (by decide)) ?_
    refine Jx rfl (step_append underlying45 el33E Sr Sr zS (by simp; omega) (by simp; omega)) fun u65 => ?_
    refine Ja rfl (JL_nil ?_)
    refine K_againL (σ := List Nat × Value) (s := (dn, vo)) (dn ++ [i], u65) (by simp; omega) ⟨hnd2, hlt2⟩ (zU) (.r zS (.r zS (.c zS (own_eq (by rw [outL_snoc hms, hmo, if_pos h61])) (zL))))
   try simp only [NF] at h61
   refine J_skip ?_
   refine K_againL (σ := List Nat × Value) (s := (dn, vo)) (dn ++ [i], vo) (by simp; omega) ⟨hnd2, hlt2⟩ (zU) (.r zS (.r zS (.c zS (own_eq (by rw [outL_snoc hms, hmo, if_neg (by simp [h61])]; simp)) (zL))))
  try simp only [NF] at h25
  obtain ⟨o, ho⟩ := o
  obtain rfl : o = none := by simpa using h25
  dsimp only at ho
  have hperm := outL_perm hnd hdlt ho
  have hol := outL_len (knownM tot) dn
  have hkl := knownM_len tot
  have hdl := nodup_lt_len hnd hdlt
  have hpx : ∀ x ∈ outL (knownM tot) dn, x.length ≤ 1000000 := by intro x hx; obtain ⟨p, hp, rfl⟩ := outL_mem x hx; have := (ht _ (knownM_mem _ hp).1).1; omega
  refine J_exit (Jr (Jm rfl ?_))
  refine Jx rfl (step_call zS (SortL_spec _ _ hpx zG) ⟨Sr, Sr, trivial⟩ call35) fun ys => ?_
  refine JL_nil (Jr (Jm rfl (Ja rfl (JL_nil (J_ret ?_)))))
  refine K_unmark (LSub.cons zS SPs.rfl LSub.rfl) ?_
  refine K_ret1' (rv := .tmp 2) rfl ⟨ys.1, ys.2.1.trans hperm, ys.2.2⟩ (Sel.all _) (.tmp Sr) Frz.ownE
 case stop1 =>
  intro D1 c1 xs
  refine K_pure fun h => h.elim
open Go Go.Proofs Go.Proofs.Tryz
theorem cmpL_zero : ∀ a b : List Int, cmpL a b = 0 → a = b
  | [], [], _ => rfl
  | [], _ :: _, h => by simp [cmpL] at h
  | _ :: _, [], h => by simp [cmpL] at h
  | a :: x, b :: y, h => by
    simp only [cmpL] at h
    by_cases e : ordI a b = 0
    · rw [if_pos e] at h
      rw [ordI_zero.1 e, cmpL_zero x y h]
    · rw [if_neg e] at h; exact absurd h e
theorem sortedL_unique : ∀ {ys zs : List (List Int)}, ys.Perm zs → (ys.Pairwise fun a b => ltOf cmpL b a = false) → (zs.Pairwise fun a b => ltOf cmpL b a = false) → ys = zs
  | [], zs, hp, _, _ => (List.nil_perm.1 hp).symm ▸ rfl
  | y :: ys, [], hp, _, _ => absurd hp.length_eq (by simp)
  | y :: ys, z :: zs, hp, h1, h2 => by
    have h1' := List.pairwise_cons.1 h1
    have h2' := List.pairwise_cons.1 h2
    have e : y = z := by
      rcases List.mem_cons.1 (hp.mem_iff.1 (by simp : y ∈ y :: ys)) with e | hy
      · exact e
      rcases List.mem_cons.1 (hp.mem_iff.2 (by simp : z ∈ z :: zs)) with e | hz
      · exact e.symm
      have q1 := h2'.1 y hy
      have q2 := h1'.1 z hz
      simp only [ltOf, decide_eq_false_iff_not] at q1 q2
      have := cmpL_anti y z
      exact cmpL_zero y z (by omega)
    subst e
    rw [sortedL_unique hp.cons_inv h1'.2 h2'.2]
def sortL (l : List (List Int)) : List (List Int) := l.mergeSort fun a b => !ltOf cmpL b a
theorem sortL_perm (l : List (List Int)) : (sortL l).Perm l := List.mergeSort_perm _ _
theorem sortL_sorted (l : List (List Int)) : (sortL l).Pairwise fun a b => ltOf cmpL b a = false := by
  have := List.pairwise_mergeSort (le := fun a b : List Int => !ltOf cmpL b a) (fun a b c h1 h2 => by
    simp only [Bool.not_eq_true'] at h1 h2 ⊢
    exact cmpL_swo.ntrans _ _ _ h2 h1) (fun a b => by
    have := cmpL_anti a b
    simp only [ltOf, Bool.or_eq_true, Bool.not_eq_true', decide_eq_false_iff_not]
    omega) l
  exact this.imp fun h => by simpa using h
def minM (tot : List (List Int)) : List (List Int) := sortL (minL (knownM tot))
theorem minimal1 (tot : List (List Int)) (ht : ∀ s ∈ tot, s.length ≤ 3 ∧ ∀ x ∈ s, 0 ≤ x ∧ x < 100) (htl : tot.length ≤ 1000000) (gi : Nat) (As : List Ty) (it : ItSpec prog gi As [] tI2 (okP tot) (fun p => p = tot)) (he : ∀ args w, (callFunc gi args).run prog w = .ok (.enter gi args) w) :
    Fun1 prog 51 [tClo gi As] (tSlE 33 rI2 (minM tot)) := fun vs h m r w ha sp st => by
  refine (minimal_spec tot ht htl gi As it he vs h m r w ha sp st).mono ?_
  rintro e w' ⟨ys, v, h', m', q1, q2, q3, q4, q5⟩
  have : ys.1 = minM tot := sortedL_unique (ys.2.1.trans (sortL_perm _).symm) ys.2.2 (sortL_sorted _)
  exact ⟨(), v, h', m', q1, q2, q3, q4, by rw [← this]; exact q5⟩
abbrev vioM (rules : List GRule) (facts : List GFact) : List (List Int) := minM (wits rules facts (iota facts.length))
theorem iota_InB (n : Nat) : InB (iota n) n := fun a ha => by
  obtain ⟨k, hk, rfl⟩ := List.mem_map.1 ha
  have := List.mem_range.1 hk
  omega
def intsB (a b : List Int) : Bool := !ltL a b && !ltL b a
def setsB : List (List Int) → List (List Int) → Bool
  | [], [] => true
  | x :: a, y :: b => intsB x y && setsB a b
  | _, _ => false
theorem setsB_len : ∀ {a b : List (List Int)}, a.length ≠ b.length → setsB a b = false
  | [], [], h => absurd rfl h
  | [], _ :: _, _ => rfl
  | _ :: _, [], _ => rfl
  | x :: a, y :: b, h => by simp only [setsB]; rw [setsB_len (by simpa using h)]; simp
theorem Violations_spec (rules : List GRule) (facts : List GFact) (hfl : facts.length ≤ 100) (hru : InRules rules) (hw : ∀ s ∈ (wits rules facts (iota facts.length)), s.length ≤ 3 ∧ ∀ x ∈ s, 0 ≤ x ∧ x < 100) (hwl : (wits rules facts (iota facts.length)).length ≤ 1000000) (hml : (vioM rules facts).length ≤ 20000) : Fun1 prog 26 [tSl rRule rules, tSl rFact facts] (tTup [tSlE 33 rI2 (vioM rules facts), tV (.int .i64 0)]) := by
 refine Spec.enter func26 rfl rfl fun h0 w0 fr0 => ?_
 refine Jr (Ja rfl (Ja rfl (JL_nil (J_seq (Jr ?_)))))
 refine Jm rfl (Js rfl (step_len_sl underlying41 Sr) (Js rfl (step_gtr Sr Sr) (JL_nil ?_)))
 refine J_cond Sr (fun hc1 => ?_) (fun hc1 => ?_)
 ·
  try simp only [NF] at hc1
  exfalso; omega
 try simp only [NF] at hc1
 refine J_skip (Jr (Jm rfl (Jm rfl (Jm rfl (Js rfl (step_call0 (all_spec _ zG) ⟨Sr, trivial⟩ call53) ?_)))))
 refine Js rfl (step_call0 (witnesses_spec _ _ _) ⟨Sr, Sr, Sr, trivial⟩ call52) ?_
 refine Js rfl (step_call0 (minimal1 (wits rules facts (iota facts.length)) hw hwl 70 _ (witnesses1_spec rules facts (iota facts.length) (iota_InB _) (by simp [iota]; omega) zG hru) call70) ⟨Sr, trivial⟩ call51) ?_
 refine Ja rfl (JL_nil (J_seq (Jr (Jm rfl (Js rfl (step_len_sl underlying45 Sub.ofE) ?_)))))
 refine Js rfl (step_gtr Sr Sr) (JL_nil ?_)
 refine J_cond Sr (fun hc2 => ?_) (fun hc2 => ?_)
 ·
  try simp only [NF] at hc2
  exfalso; have hml : (minM (wits rules facts (iota facts.length))).length ≤ 20000 := hml; omega
 try simp only [NF] at hc2
 refine J_skip (Jr (Jm rfl (Ja rfl (Ja rfl (JL_nil ?_)))))
 refine J_ret ?_
 refine K_ret2' (rv := .tmp 4) (rv' := .tmp 5) rfl () (Sel.all _) (.tmp Sr) (.tmp Sr) (Frz.sub Sr) (Frz.sub Sr) Sr
theorem Contains_spec (a b : List Int) (ha : a.length ≤ 1000000000000) (hb : b.length ≤ 1000000000000) : Fun1 prog 74 [tSl rInt a, tSl rInt b] (tV (.bool (b.all fun x => a.contains x))) := by
 refine Spec.enter func74 rfl rfl fun h0 w0 fr0 => ?_
 refine Jr (Ja rfl (JL_nil (J_seq (Jr (Ja rfl ?_)))))
 refine JL_nil (J_block ?_)
 refine J_loopL (σ := Nat) (fun i => i ≤ b.length ∧ (b.all fun x => a.contains x) = (b.drop i).all fun x => a.contains x) (fun i => upd (upd (upd env0 0 (tSl rInt a)) 1 (tSl rInt b)) 5 (tV (.int .i64 i))) (fun i => []) (fun i => b.length - i) 0 ⟨by omega, by simp⟩ (zU) (LSub.rfl) ?_
 rintro i ⟨hi, hv⟩
 refine J_seq (Jr (Jm rfl (Jm rfl (Js rfl (step_len_sl underlying33 Sr) (Js rfl (step_lss Sr Sr) ?_)))))
 refine JL_nil ?_
 refine J_cond Sr (fun h9 => ?_) (fun h9 => ?_)
 ·
  try simp only [NF] at h9
  have hlt : i < b.length := by omega
  have hd := dropB hlt
  refine J_skip (J_seq (J_block (Jr (Jm rfl (Jm rfl ?_)))))
  refine Jm rfl ?_
  refine Js rfl (step_indexAddr_sl  underlying33 ty3 Sr Sr rfl (gb (by first | assumption | omega))) ?_
  refine Jl rfl ty3 Sr (Js rfl (step_call0 (In_spec _ _ ha) ⟨Sr, Sr, trivial⟩ call24) (Js rfl (step_not Sr) (JL_nil ?_)))
  refine J_cond Sr (fun h18 => ?_) (fun h18 => ?_)
  ·
   try simp only [NF] at h18
   refine Jr (Ja rfl (JL_nil (J_ret ?_)))
   refine K_ret1 (t := 4) rfl () ?_
   refine Sub.bool ?_
   rw [hv, hd, List.all_cons, h18]; simp
  try simp only [NF] at h18
  refine J_skip (J_region (Jm rfl (Js rfl (step_add Sr Sr z6) (Ja rfl (JL_nil ?_)))))
  refine K_againL (σ := Nat) (s := i) (i + 1) zO ?_ (zU) (LSub.rfl)
  refine ⟨by omega, ?_⟩
  rw [hv, hd, List.all_cons, h18]; simp
 try simp only [NF] at h9
 refine J_exit (Jr (Ja rfl (JL_nil (J_ret ?_))))
 refine K_ret1 (t := 4) rfl () ?_
 refine Sub.bool ?_
 rw [hv, List.drop_of_length_le zG]; rfl
theorem Sets_spec (a b : List (List Int)) (ha : a.length ≤ 1000000000000) (hb : b.length ≤ 1000000000000) (hae : ∀ x ∈ a, x.length ≤ 1000000000000) (hbe : ∀ x ∈ b, x.length ≤ 1000000000000) : Fun1 prog 17 [tSl (rSl rInt) a, tSl (rSl rInt) b] (tV (.bool (setsB a b))) := by
 refine Spec.enter func17 rfl rfl fun h0 w0 fr0 => ?_
 refine Jr (Ja rfl (JL_nil (J_seq (Jr (Jm rfl ?_)))))
 refine Js rfl (step_len_sl underlying45 Sr) (Jm rfl (Js rfl (step_len_sl underlying45 Sr) (Js rfl (step_neq Sr Sr) (JL_nil ?_))))
 refine J_cond Sr (fun h10 => ?_) (fun h10 => ?_)
 ·
  try simp only [NF] at h10
  have hne : a.length ≠ b.length := by omega
  refine Jr (Ja rfl (JL_nil (J_ret ?_)))
  refine K_ret1 (t := 4) rfl () ?_
  refine Sub.bool ?_
  exact (setsB_len hne).symm ▸ rfl
 try simp only [NF] at h10
 have hle : a.length = b.length := by omega
 refine J_skip (J_seq (Jr (Ja rfl (JL_nil (J_block ?_)))))
 refine J_loopL (σ := Nat) (fun i => i ≤ a.length ∧ setsB a b = setsB (a.drop i) (b.drop i)) (fun i => upd (upd (upd env0 0 (tSl (rSl rInt) a)) 1 (tSl (rSl rInt) b)) 5 (tV (.int .i64 i))) (fun i => []) (fun i => a.length - i) 0 ⟨by omega, by simp⟩ (zU) (LSub.rfl) ?_
 rintro i ⟨hi, hv⟩
 refine J_seq (Jr (Jm rfl (Jm rfl (Js rfl (step_len_sl underlying45 Sr) (Js rfl (step_lss Sr Sr) ?_)))))
 refine JL_nil ?_
 refine J_cond Sr (fun h14 => ?_) (fun h14 => ?_)
 ·
  try simp only [NF] at h14
  have hlt : i < a.length := by omega
  have hlu : i < b.length := by omega
  have hd := dropB hlt
  have he := dropB hlu
  refine J_skip (J_seq (J_block (J_seq ?_)))
  refine J_draw [⟨0, [0], true⟩, ⟨1, [5], true⟩, ⟨2, [17, 18], true⟩, ⟨3, [19], true⟩, ⟨4, [1], true⟩, ⟨5, [5], true⟩, ⟨6, [21, 22], true⟩, ⟨7, [23], true⟩, ⟨8, [20, 24], true⟩, ⟨9, [25], true⟩, ⟨10, [1, 26], true⟩, ⟨11, [5, 26], true⟩, ⟨12, [26, 27, 28], true⟩, ⟨13, [26, 29], true⟩, ⟨14, [0, 26], true⟩, ⟨15, [5, 26], true⟩, ⟨16, [26, 31, 32], true⟩, ⟨17, [26, 33], true⟩, ⟨18, [26, 30, 34], true⟩, ⟨19, [26, 35], true⟩] rfl (by kernel_rfl) ?_
  refine Mv rfl rfl (Mv rfl rfl ?_)
  refine Mf rfl rfl (step_indexAddr_sl  underlying45 ty33 Sr Sr rfl (gb (by first | assumption | omega))) ?_
  refine Mf rfl rfl (step_load_ptr ty33 Sr) (Mv rfl rfl (Mv rfl rfl ?_))
  refine Mf rfl rfl (step_indexAddr_sl  underlying45 ty33 Sr Sr rfl (gb (by first | assumption | omega))) ?_
  refine Mf rfl rfl (step_load_ptr ty33 Sr) (Mf rfl rfl (step_call0 (Less_spec _ _ (hae _ (nth_mem hlt)) (hbe _ (nth_mem hlu))) ⟨Sr, Sr, trivial⟩ call33) (Mv rfl rfl ?_))
  refine Mk rfl rfl Sr rfl (step_move Sr) ?_
  refine Mk rfl rfl Sr rfl (step_move Sr) ?_
  refine Mg rfl rfl Sr rfl (fun hw => step_indexAddr_sl  underlying45 ty33 (Sub.w hw) (Sub.w hw) rfl (gb (by have hwq := hw; (try simp only [beqB_t, beqB_f, NF] at hwq); first | assumption | omega))) ?_
  refine Mg rfl rfl Sr rfl (fun hw => step_load_ptr ty33 (Sub.w hw)) ?_
  refine Mk rfl rfl Sr rfl (step_move Sr) ?_
  refine Mk rfl rfl Sr rfl (step_move Sr) ?_
  refine Mg rfl rfl Sr rfl (fun hw => step_indexAddr_sl  underlying45 ty33 (Sub.w hw) (Sub.w hw) rfl (gb (by have hwq := hw; (try simp only [beqB_t, beqB_f, NF] at hwq); first | assumption | omega))) ?_
  refine Mg rfl rfl Sr rfl (fun hw => step_load_ptr ty33 (Sub.w hw)) (Mg rfl rfl Sr rfl (fun hw => step_call0 (Less_spec _ _ (hbe _ (nth_mem hlu)) (hae _ (nth_mem hlt))) ⟨(Sub.w hw), (Sub.w hw), trivial⟩ call33) (Mf rfl rfl (step_pick_or Sr Sr) (JM_nil ?_)))
  refine J_cond Sr (fun h36 => ?_) (fun h36 => ?_)
  ·
   try simp only [NF] at h36
   refine Jr (Ja rfl (JL_nil (J_ret ?_)))
   refine K_ret1 (t := 4) rfl () ?_
   refine Sub.bool ?_
   rw [hv, hd, he]; simp only [setsB, intsB]; rcases h36 with h | h <;> rw [h] <;> simp
  try simp only [NF] at h36
  refine J_skip (J_region (Jm rfl (Js rfl (step_add Sr Sr z6) (Ja rfl (JL_nil ?_)))))
  refine K_againL (σ := Nat) (s := i) (i + 1) zO ?_ (zU) (LSub.rfl)
  refine ⟨by omega, ?_⟩
  rw [hv, hd, he]; simp only [setsB, intsB]; rw [h36.1, h36.2]; rfl
 try simp only [NF] at h14
 refine J_exit (Jr (Ja rfl (JL_nil (J_ret ?_))))
 refine K_ret1 (t := 4) rfl () ?_
 refine Sub.bool ?_
 rw [hv, List.drop_of_length_le zG, List.drop_of_length_le zG]; rfl
end Lg
