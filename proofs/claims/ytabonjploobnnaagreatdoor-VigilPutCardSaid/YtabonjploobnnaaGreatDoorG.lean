/- A part of the proofs of the laws of cleanselaw26: contracts of functions that the law reaches, and facts about what they compute. -/
import Derived.Test.YtabonjploobnnaaGreatDoorF
import Derived.Laws.Strings
set_option linter.unusedVariables false
set_option linter.unusedSimpArgs false
set_option linter.unusedSectionVars false
namespace Lg
open Go Go.Proofs Go.Proofs.Tryz
/-- The facts that a fact meets. -/
noncomputable def metL (rules : List GRule) (ps : PS) (f : GFact) : PS := ps.filter fun p => @decide (MeetsP rules f p.2) (Classical.propDecidable _)
theorem mem_metL {rules : List GRule} {ps : PS} {f : GFact} {p : Int × GFact} : p ∈ metL rules ps f ↔ p ∈ ps ∧ MeetsP rules f p.2 := by simp [metL]
noncomputable def metN (rules : List GRule) (ps : PS) (f : GFact) : Int := ((metL rules ps f).length : Nat)
theorem metN_le (rules : List GRule) (ps : PS) (f : GFact) : 0 ≤ metN rules ps f ∧ metN rules ps f ≤ (ps.length : Int) := by
  have := List.length_filter_le (fun p : Int × GFact => @decide (MeetsP rules f p.2) (Classical.propDecidable _)) ps
  unfold metN metL; omega
def putE (ps : PS) (num : Int) : Int := if num < 0 ∨ 1000000 ≤ num then 1 else if num ∈ nsP ps then 9 else 0
def putP (ps : PS) (num : Int) (f : GFact) : PS := if putE ps num = 0 then insP ps num f else ps
noncomputable def putW (rules : List GRule) (ps : PS) (num : Int) (f : GFact) : Int := if putE ps num = 0 then metN rules ps f else 0
def dropE (ps : PS) (num : Int) : Int := if num ∈ nsP ps then 0 else 11
theorem putE_0 {ps : PS} {num : Int} : putE ps num = 0 ↔ 0 ≤ num ∧ num < 1000000 ∧ num ∉ nsP ps := by
  unfold putE
  split
  · constructor
    · intro h; omega
    · intro h; omega
  · split
    · rename_i h; simp [h]
    · rename_i h1 h2; simp [h2]; omega
theorem remP_len (ps : PS) (n : Int) : (remP ps n).length ≤ ps.length := List.length_filter_le _ _
theorem remP_no {ps : PS} {n : Int} (h : n ∉ nsP ps) : remP ps n = ps := List.filter_eq_self.2 fun p hp => by
  have : p.1 ≠ n := fun e => h (List.mem_map.2 ⟨p, hp, e⟩)
  simp [this]
/-- All triples of some numbers. -/
def allT (l : List Int) : List GTri := l.flatMap fun a => l.flatMap fun b => l.map fun c => (⟨a, b, c⟩ : GTri)
theorem sum_const {α : Type} (n : Nat) : ∀ l : List α, (l.map fun _ => n).sum = l.length * n
  | [] => by simp
  | a :: l => by simp [sum_const n l, Nat.succ_mul]; omega
theorem allT_len (l : List Int) : (allT l).length = l.length * (l.length * l.length) := by
  simp only [allT, List.length_flatMap, List.length_map, sum_const]
theorem tri_all {s l : List Int} (h : ∀ x ∈ s, x ∈ l) : triOf s ∈ allT ((-1) :: l) := by
  have key : ∀ k, s.getD k (-1) ∈ (-1) :: l := fun k => by
    rw [List.getD_eq_getElem?_getD]
    cases e : s[k]? with
    | none => simp
    | some x => exact List.mem_cons_of_mem _ (h x (List.mem_of_getElem? e))
  simp only [allT, List.mem_flatMap, List.mem_map]
  exact ⟨_, key 0, _, key 1, _, key 2, rfl⟩
theorem tri_bound {ts : List GTri} {l : List Int} (hn : ts.Nodup) (hl : l.length ≤ 13) (h : ∀ t ∈ ts, ∃ s, t = triOf s ∧ ∀ x ∈ s, x ∈ l) : ts.length ≤ 2744 := by
  have := nodup_lenV hn (r := allT ((-1) :: l)) fun t ht => by
    obtain ⟨s, rfl, hs⟩ := h t ht
    exact tri_all hs
  rw [allT_len] at this
  have h2 : ((-1) :: l).length ≤ 14 := by simp; omega
  have h3 := Nat.mul_le_mul h2 (Nat.mul_le_mul h2 h2)
  omega
theorem addT_nd : ∀ {ml : List GTri} {vio : List (GTri × Bool)}, KN vio → KN (addT vio ml)
  | [], _, h => h
  | t :: ml, vio, h => addT_nd (ml := ml) (vio := mput vio t true) (mput_nodup h _ _)
theorem addT_keys : ∀ {ml : List GTri} {vio : List (GTri × Bool)} {t : GTri}, t ∈ (addT vio ml).map (·.1) ↔ t ∈ vio.map (·.1) ∨ t ∈ ml
  | [], _, t => by simp [addT]
  | a :: ml, vio, t => by
    have h : addT vio (a :: ml) = addT (mput vio a true) ml := rfl
    rw [h, addT_keys, mput_keys]
    split
    · rename_i q
      simp only [List.mem_cons]
      constructor
      · rintro (h | h)
        · exact .inl h
        · exact .inr (.inr h)
      · rintro (h | rfl | h)
        · exact .inl h
        · exact .inl q
        · exact .inr h
    · simp only [List.mem_append, List.mem_cons, List.not_mem_nil, or_false]
      constructor
      · rintro ((h | h) | h)
        · exact .inl h
        · exact .inr (.inl h)
        · exact .inr (.inr h)
      · rintro (h | h | h)
        · exact .inl (.inl h)
        · exact .inl (.inr h)
        · exact .inr h
theorem addT_tr : ∀ {ml : List GTri} {vio : List (GTri × Bool)}, KN vio → (∀ p ∈ vio, p.2 = true) → ∀ p ∈ addT vio ml, p.2 = true
  | [], _, _, h => h
  | a :: ml, vio, hk, h => addT_tr (ml := ml) (vio := mput vio a true) (mput_nodup hk _ _) fun p hp => by
    rcases (mput_mem hk).1 hp with rfl | ⟨q, _⟩
    · rfl
    · exact h p q
section
variable {rules : List GRule} {s : VS} {ps : PS} {w : Int} (I : VInv rules s ps w) (hp : POk ps)
include I hp
theorem VInv.flen : s.facts.length = ps.length :=
  ((List.perm_ext_iff_of_nodup (nodup_of_map I.fn) (nodup_of_map hp.nd)).2 I.fm).length_eq
theorem VInv.vlen (hl : ps.length ≤ 13) : s.vio.length ≤ 2744 := by
  have := tri_bound (ts := s.vio.map (·.1)) (l := nsP ps) I.vn (by rw [nsP_len]; exact hl) fun t ht => by
    obtain ⟨l, h1, rfl⟩ := (I.vm t).1 ht
    exact ⟨l, rfl, (h1.1.ok (lowT3 rules)).2.2.2⟩
  rwa [List.length_map] at this
theorem VInv.cand {f : GFact} {n : Int} : Cand s f s.pairs.length n ↔ ∃ y, (n, y) ∈ ps ∧ MeetsP rules f y := by
  unfold Cand MeetsP
  constructor
  · rintro (h | ⟨q, hq, h⟩)
    · obtain ⟨y, h1, h2⟩ := (I.en _ _).1 h
      exact ⟨y, h1, .inl h2.symm⟩
    · obtain ⟨y, h1, h2⟩ := (I.meet hp hq).1 h
      obtain ⟨r, i, j, g1, g2, g3, g4, g5, g6⟩ := I.pair hp hq
      rw [g5, g6] at h2
      exact ⟨y, h1, .inr ⟨_, nth_mem g1, i, j, g2, g3, g4, h2⟩⟩
  · rintro ⟨y, h1, h2 | ⟨d, hd, i, j, g2, g3, g4, h2⟩⟩
    · exact .inl ((I.en _ _).2 ⟨y, h1, h2.symm⟩)
    · obtain ⟨r, hr, rfl⟩ := mem_nthV hd
      obtain ⟨q, hq, e1, e2⟩ := I.at hr g2 g3 g4
      exact .inr ⟨q, hq, (I.meet hp hq).2 ⟨y, h1, by rw [e1, e2]; exact h2⟩⟩
theorem VInv.candIn {f : GFact} : ∀ n, Cand s f s.pairs.length n → n ∈ s.facts.map (·.1) := fun n h => by
  obtain ⟨y, h1, _⟩ := (I.cand hp).1 h
  exact List.mem_map.2 ⟨_, (I.fm _).2 h1, rfl⟩
theorem VInv.clen {f : GFact} {md : List (Int × Bool)} (hn : KN md) (h : ∀ n, n ∈ keysOf md ↔ Cand s f s.pairs.length n) : (md.length : Int) = metN rules ps f := by
  have : (keysOf md).Perm ((metL rules ps f).map (·.1)) := by
    refine (List.perm_ext_iff_of_nodup hn (List.Nodup.sublist ((List.filter_sublist).map _) hp.nd)).2 fun n => ?_
    rw [h, I.cand hp, List.mem_map]
    constructor
    · rintro ⟨y, h1, h2⟩; exact ⟨(n, y), mem_metL.2 ⟨h1, h2⟩, rfl⟩
    · rintro ⟨p, h1, rfl⟩; exact ⟨p.2, (mem_metL.1 h1).1, (mem_metL.1 h1).2⟩
  have := this.length_eq
  simp only [List.length_map] at this
  unfold metN; omega
theorem VInv.foundIn {num : Int} {f : GFact} {t : GTri} (h : FoundP s num f t) : ∃ l, t = triOf l ∧ ∀ x ∈ l, x ∈ num :: nsP ps := by
  have mem_f : ∀ m y, (m, y) ∈ ps → m ∈ nsP ps := fun m y h => List.mem_map.2 ⟨_, h, rfl⟩
  rcases h with ⟨n, hm, hv, rfl⟩ | ⟨q, hq, hl, hv, rfl⟩ | ⟨q, hq, m, hm, h⟩
  · obtain ⟨y, hy, he⟩ := (I.en _ _).1 hm
    refine ⟨_, rfl, fun x hx => ?_⟩
    have hx := sortI_mem.1 hx
    simp only [List.mem_cons, List.not_mem_nil, or_false] at hx
    rcases hx with rfl | rfl
    · simp
    · exact List.mem_cons_of_mem _ (mem_f _ _ hy)
  · refine ⟨_, rfl, fun x hx => ?_⟩
    have hx := sortI_mem.1 hx
    simp only [List.mem_cons, List.not_mem_nil, or_false] at hx
    simp [hx]
  · obtain ⟨r, i, j, g1, g2, g3, g4, g5, g6⟩ := I.pair hp hq
    obtain ⟨y, hy, _⟩ := (I.meet hp hq).1 hm
    rcases h with ⟨hl, _, rfl⟩ | ⟨hl, hlt, k, hk, hmk, _, rfl⟩
    · refine ⟨_, rfl, fun x hx => ?_⟩
      have hx := sortI_mem.1 hx
      simp only [List.mem_cons, List.not_mem_nil, or_false] at hx
      rcases hx with rfl | rfl
      · simp
      · exact List.mem_cons_of_mem _ (mem_f _ _ hy)
    · have hdm : rlV s q ∈ loweredR rules := by rw [g6]; exact nth_mem g1
      have hd3 := lowT3 rules _ hdm
      have hl3 : (rlV s q).Tables.length = 3 := by
        have : i < (rlV s q).Tables.length ∧ j < (rlV s q).Tables.length := by rw [g6]; exact ⟨g2, g3⟩
        omega
      obtain ⟨c1, c2, c3, c4⟩ := I.i2 hp hq hl3
      obtain ⟨z, hz, _⟩ := (I.meet hp c1).1 hk
      refine ⟨_, rfl, fun x hx => ?_⟩
      have hx := sortI_mem.1 hx
      simp only [List.mem_cons, List.not_mem_nil, or_false] at hx
      rcases hx with rfl | rfl | rfl
      · simp
      · exact List.mem_cons_of_mem _ (mem_f _ _ hy)
      · exact List.mem_cons_of_mem _ (mem_f _ _ hz)
theorem VInv.flimit {num : Int} {f : GFact} (hl : ps.length ≤ 12) {ts : List GTri} (hd : ts.Nodup) (h : ∀ t ∈ ts, FoundP s num f t) : ts.length ≤ 2744 :=
  tri_bound (l := num :: nsP ps) hd (by rw [List.length_cons, nsP_len]; omega) fun t ht => I.foundIn hp (h t ht)
theorem VInv.put {num : Int} {f : GFact} (hl : ps.length ≤ 12) {s' : VS} {e : Int} (h : PutR s num f s' e) : e = putE ps num ∧ VInv rules s' (putP ps num f) (w + putW rules ps num f) := by
  cases h with
  | arg h =>
    have e0 : putE ps num = 1 := by rw [putE, if_pos h]
    refine ⟨e0.symm, ?_⟩
    rw [putP, putW, e0, if_neg (by decide), if_neg (by decide), Int.add_zero]; exact I
  | twice h0 h1 h2 =>
    have e0 : putE ps num = 9 := by rw [putE, if_neg (by omega), if_pos ((I.some_iff hp).1 h2)]
    refine ⟨e0.symm, ?_⟩
    rw [putP, putW, e0, if_neg (by decide), if_neg (by decide), Int.add_zero]; exact I
  | limit ml h0 h1 h2 h3 h4 h5 =>
    exfalso
    have hn : num ∉ nsP ps := fun q => by rw [(I.some_iff hp).2 q] at h2; cases h2
    have q1 := I.flimit hp hl h3 h4
    have q2 := I.vlen hp (by omega)
    have q3 := I.flen hp
    omega
  | ok fr ml md q wn h0 h1 h2 hK hm hnd hmd hc hI =>
    have hn : num ∉ nsP ps := fun q => by rw [(I.some_iff hp).2 q] at h2; cases h2
    have e0 : putE ps num = 0 := putE_0.2 ⟨h0, h1, hn⟩
    have hps := hp.ins (f := f) hn h0 h1
    have L1 := Less1.ins (f := f) hp hn h0 h1
    refine ⟨e0.symm, ?_⟩
    rw [putP, putW, if_pos e0, if_pos e0]
    have kin : ∀ k n, hasS q k n ↔ ∃ y, (n, y) ∈ insP ps num f ∧ k ∈ keysV s.rules s.pairs y s.pairs.length := fun k n => by
      rw [hI.mem, I.ix]
      constructor
      · rintro (⟨y, a, b⟩ | ⟨a, rfl⟩)
        · exact ⟨y, mem_insP.2 (.inr a), b⟩
        · exact ⟨f, mem_insP.2 (.inl rfl), a⟩
      · rintro ⟨y, a, b⟩
        rcases mem_insP.1 a with e | a
        · cases e; exact .inr ⟨b, rfl⟩
        · exact .inl ⟨y, a, b⟩
    refine { rl := I.rl, pr := I.pr, pt := I.pt, fn := mput_nodup I.fn _ _, fm := fun p => ?_, en := fun e n => ?_, ix := kin, vn := addT_nd I.vn, vt := addT_tr I.vn I.vt, vm := fun t => ?_, wk := by rw [← I.clen hp hmd hc, ← I.wk] }
    · rw [mput_mem I.fn, mem_insP, I.fm]
      constructor
      · rintro (h | ⟨h, _⟩)
        · exact .inl h
        · exact .inr h
      · rintro (h | h)
        · exact .inl h
        · exact .inr ⟨h, fun e => hn (List.mem_map.2 ⟨p, h, e⟩)⟩
    · rw [hasS_sput, I.en]
      constructor
      · rintro (⟨y, a, b⟩ | ⟨rfl, rfl⟩)
        · exact ⟨y, mem_insP.2 (.inr a), b⟩
        · exact ⟨f, mem_insP.2 (.inl rfl), rfl⟩
      · rintro ⟨y, a, b⟩
        rcases mem_insP.1 a with e | a
        · cases e; exact .inr ⟨b.symm, rfl⟩
        · exact .inl ⟨y, a, b⟩
    · have hT := lowT3 rules
      have pos : ∀ {l : List Int}, WS (loweredR rules) (insP ps num f) l → l.length ≤ 3 ∧ (∀ x ∈ l, 0 ≤ x) ∧ Srt l := fun {l} h => ⟨(h.ok hT).2.2.1, fun x hx => (hps.rng x ((h.ok hT).2.2.2 x hx)).1, (h.ok hT).1⟩
      have frn : KN fr ∨ True := .inr trivial
      have hcf : ∀ {l : List Int}, WS (loweredR rules) (insP ps num f) l → (contV fr (triOf l) = true ↔ ∃ t, t.Sublist l ∧ t ≠ [] ∧ t ≠ l ∧ triOf t ∈ fr.map (·.1)) := fun {l} h => cont_iff hK.tr (pos h).1 (pos h).2.2 (pos h).2.1
      rw [addT_keys, I.vm, hm]
      constructor
      · rintro (⟨l, a, rfl⟩ | ⟨a, b, c⟩)
        · exact ⟨l, (L1.min.1 a).1, rfl⟩
        · obtain ⟨l, q1, q2, rfl⟩ := (I.found hp hn h0 h1 t).1 ((hK.ks t).1 a)
          refine ⟨l, ⟨q1, fun u hu hs => Classical.byContradiction fun hne => ?_⟩, rfl⟩
          have hsub := srt_sub (pos hu).2.2 (pos q1).2.2 hs
          have hu1 : u ≠ [] := fun e => by have := (hu.ok hT).2.1; rw [e] at this; simp at this
          by_cases hnu : num ∈ u
          · have := (hcf q1).2 ⟨u, hsub, hu1, hne, (hK.ks _).2 ((I.found hp hn h0 h1 _).2 ⟨u, hu, hnu, rfl⟩)⟩
            rw [c] at this; cases this
          · obtain ⟨v, v1, v2⟩ := min_below hT u.length (Nat.le_refl _) (L1.ws.2 ⟨hu, hnu⟩)
            have v3 := L1.min.1 v1
            have hsub2 := srt_sub (pos v3.1.1).2.2 (pos q1).2.2 fun x hx => hs x (v2 x hx)
            have := (cont_iff I.vt (pos q1).1 (pos q1).2.2 (pos q1).2.1).2 ⟨v, hsub2, fun e => by have := (v1.1.ok hT).2.1; rw [e] at this; simp at this, fun e => v3.2 (e ▸ q2), (I.vm _).2 ⟨v, v1, rfl⟩⟩
            rw [b] at this; cases this
      · rintro ⟨l, q1, rfl⟩
        by_cases hnl : num ∈ l
        · right
          refine ⟨(hK.ks _).2 ((I.found hp hn h0 h1 _).2 ⟨l, q1.1, hnl, rfl⟩), ?_, ?_⟩
          · rw [← Bool.not_eq_true, cont_iff I.vt (pos q1.1).1 (pos q1.1).2.2 (pos q1.1).2.1]
            rintro ⟨u, u1, u2, u3, u4⟩
            obtain ⟨v, v1, v2⟩ := (I.vm _).1 u4
            have hv := (L1.min.1 v1).1.1
            have e : u = v := tri_inj (Nat.le_trans u1.length_le (pos q1.1).1) (fun x hx => (pos q1.1).2.1 x (u1.subset hx)) (pos hv).1 (pos hv).2.1 v2
            exact u3 (q1.2 u (e ▸ hv) fun x hx => u1.subset hx)
          · rw [← Bool.not_eq_true, hcf q1.1]
            rintro ⟨u, u1, u2, u3, u4⟩
            obtain ⟨v, v1, _, v2⟩ := (I.found hp hn h0 h1 _).1 ((hK.ks _).1 u4)
            have e : u = v := tri_inj (Nat.le_trans u1.length_le (pos q1.1).1) (fun x hx => (pos q1.1).2.1 x (u1.subset hx)) (pos v1).1 (pos v1).2.1 v2
            exact u3 (q1.2 u (e ▸ v1) fun x hx => u1.subset hx)
        · exact .inl ⟨l, L1.min.2 ⟨q1, hnl⟩, rfl⟩
omit I hp in
theorem hrem_keys {m : List (Int × Bool)} {num n : Int} (hk : KN m) : n ∈ (mrem m num).map (·.1) ↔ n ∈ m.map (·.1) ∧ n ≠ num := by
  simp only [List.mem_map]
  constructor
  · rintro ⟨p, a, rfl⟩; exact ⟨⟨p, ((mem_mrem hk).1 a).1, rfl⟩, ((mem_mrem hk).1 a).2⟩
  · rintro ⟨⟨p, a, rfl⟩, b⟩; exact ⟨p, (mem_mrem hk).2 ⟨a, b⟩, rfl⟩
omit I hp in
theorem hasS_del {κ : Type} [DecidableEq κ] {q : SetL κ} {k j : κ} {num n : Int} (hk : ∀ k, KN (sval q k).2) : hasS (hupd q k fun m => mrem m num) j n ↔ hasS q j n ∧ ¬ (j = k ∧ n = num) := by
  unfold hasS
  have := hval_hupd (dv := .map none) (dg := ([] : List (Int × Bool))) k j (fun m => mrem m num) rfl q
  rw [sval, this]
  by_cases e : j = k
  · subst e
    rw [if_pos rfl]
    simp only [true_and]
    exact hrem_keys (hk j)
  · rw [if_neg e]; simp [e]
omit I hp in
theorem del_KN {κ : Type} [DecidableEq κ] {q : SetL κ} {k : κ} {num : Int} (hk : ∀ k, KN (sval q k).2) (j : κ) : KN (sval (hupd q k fun m => mrem m num) j).2 := by
  have := hval_hupd (dv := .map none) (dg := ([] : List (Int × Bool))) k j (fun m => mrem m num) rfl q
  rw [sval, this]
  by_cases e : j = k
  · rw [if_pos e]; exact mrem_nodup (hk k) _
  · rw [if_neg e]; exact hk j
omit I hp in
theorem hasS_delS {num n : Int} {k : Gkey} : ∀ {pre : List Gkey} {q : SetL Gkey}, (∀ k, KN (sval q k).2) → (hasS (delS q pre num) k n ↔ hasS q k n ∧ ¬ (k ∈ pre ∧ n = num))
  | [], q, _ => by simp [delS]
  | a :: pre, q, hk => by
    have e : delS q (a :: pre) num = delS (hupd q a fun m => mrem m num) pre num := rfl
    rw [e, hasS_delS (del_KN hk), hasS_del hk]
    simp only [List.mem_cons]
    constructor
    · rintro ⟨⟨h1, h2⟩, h3⟩
      refine ⟨h1, ?_⟩
      rintro ⟨h | h, h4⟩
      · exact h2 ⟨h, h4⟩
      · exact h3 ⟨h, h4⟩
    · rintro ⟨h1, h2⟩
      exact ⟨⟨h1, fun q => h2 ⟨.inl q.1, q.2⟩⟩, fun q => h2 ⟨.inr q.1, q.2⟩⟩
theorem VInv.drop (hke : ∀ e, KN (sval s.ent e).2) (hki : ∀ k, KN (sval s.idx k).2) {num : Int} {s' : VS} {e : Int} (h : DropR s num s' e) : e = dropE ps num ∧ VInv rules s' (remP ps num) w := by
  cases h with
  | none h =>
    have hn : num ∉ nsP ps := fun q => by rw [(I.some_iff hp).2 q] at h; cases h
    refine ⟨by rw [dropE, if_neg hn], ?_⟩
    rw [remP_no hn]; exact I
  | ok vio h hk hm =>
    have hn := (I.some_iff hp).1 h
    refine ⟨by rw [dropE, if_pos hn], ?_⟩
    have hf : (num, factAt s num) ∈ ps := by
      rw [I.fact hp]
      rcases ns_some hn with q | q
      · exact q
      · exact q.elim
    have uniq : ∀ {y}, (num, y) ∈ ps → y = factAt s num := fun {y} hy => by rw [I.fact hp, fO_iff hp hy]
    have L1 := Less1.rem (n := num) hp
    have h0 := (hp.rng num hn).1
    have hT := lowT3 rules
    have hmn : ∀ {l : List Int}, MinW (loweredR rules) ps l → (num ∈ (triOf l).l ↔ num ∈ l) := fun {l} hl => tri_mem (hl.1.ok hT).2.2.1 h0
    refine { rl := I.rl, pr := I.pr, pt := I.pt, fn := mrem_nodup I.fn _, fm := fun p => ?_, en := fun e n => ?_, ix := fun k n => ?_, vn := hk, vt := fun p hp' => I.vt p ((hm p).1 hp').1, vm := fun t => ?_, wk := I.wk }
    · rw [mem_mrem I.fn, mem_remP, I.fm]
    · rw [hasS_del hke, I.en]
      constructor
      · rintro ⟨⟨y, a, b⟩, c⟩
        refine ⟨y, mem_remP.2 ⟨a, fun q => c ⟨?_, q⟩⟩, b⟩
        have q : n = num := q
        subst q
        rw [← uniq a]; exact b.symm
      · rintro ⟨y, a, b⟩
        obtain ⟨a1, a2⟩ := mem_remP.1 a
        exact ⟨⟨y, a1, b⟩, fun q => a2 q.2⟩
    · show hasS (delS s.idx _ num) k n ↔ _
      rw [hasS_delS hki, I.ix]
      constructor
      · rintro ⟨⟨y, a, b⟩, c⟩
        refine ⟨y, mem_remP.2 ⟨a, fun q => c ⟨?_, q⟩⟩, b⟩
        have q : n = num := q
        subst q
        rw [← uniq a]; exact b
      · rintro ⟨y, a, b⟩
        obtain ⟨a1, a2⟩ := mem_remP.1 a
        exact ⟨⟨y, a1, b⟩, fun q => a2 q.2⟩
    · have e : t ∈ vio.map (·.1) ↔ t ∈ s.vio.map (·.1) ∧ num ∉ t.l := by
        simp only [List.mem_map]
        constructor
        · rintro ⟨p, a, rfl⟩; exact ⟨⟨p, ((hm p).1 a).1, rfl⟩, ((hm p).1 a).2⟩
        · rintro ⟨⟨p, a, rfl⟩, b⟩; exact ⟨p, (hm p).2 ⟨a, b⟩, rfl⟩
      show t ∈ vio.map (·.1) ↔ _
      rw [e, I.vm]
      constructor
      · rintro ⟨⟨l, a, rfl⟩, b⟩
        exact ⟨l, L1.min.2 ⟨a, fun q => b ((hmn a).2 q)⟩, rfl⟩
      · rintro ⟨l, a, rfl⟩
        obtain ⟨a1, a2⟩ := L1.min.1 a
        exact ⟨⟨l, a1, rfl⟩, fun q => a2 ((hmn a1).1 q)⟩
/-- What Violations returns. -/
theorem VInv.list (H : VHyp rules (gsP ps)) {ys : List (List Int)} (h1 : ys.Perm (s.vio.map fun p => memM p.1)) (h2 : ys.Pairwise fun a b => ltOf cmpL b a = false) : ys = vioN rules ps := by
  have hT := lowT3 rules
  have pos : ∀ {l : List Int}, MinW (loweredR rules) ps l → l.length ≤ 3 ∧ (∀ x ∈ l, 0 ≤ x) := fun {l} h => ⟨(h.1.ok hT).2.2.1, fun x hx => (hp.rng x ((h.1.ok hT).2.2.2 x hx)).1⟩
  have hmem : ∀ l, l ∈ (s.vio.map fun p => memM p.1) ↔ MinW (loweredR rules) ps l := fun l => by
    have e : (s.vio.map fun p => memM p.1) = (s.vio.map (·.1)).map memM := by rw [List.map_map]; rfl
    rw [e, List.mem_map]
    constructor
    · rintro ⟨t, a, rfl⟩
      obtain ⟨m, b, rfl⟩ := (I.vm t).1 a
      rw [memM_tri (pos b).1 (pos b).2]; exact b
    · intro a
      exact ⟨_, (I.vm _).2 ⟨l, a, rfl⟩, memM_tri (pos a).1 (pos a).2⟩
  have hnd : (s.vio.map fun p => memM p.1).Nodup := by
    have e : (s.vio.map fun p => memM p.1) = (s.vio.map (·.1)).map memM := by rw [List.map_map]; rfl
    rw [e]
    refine List.pairwise_map.2 (List.Pairwise.imp_of_mem ?_ I.vn)
    intro a b ha hb hab he
    obtain ⟨m, m1, rfl⟩ := (I.vm a).1 ha
    obtain ⟨k, k1, rfl⟩ := (I.vm b).1 hb
    rw [memM_tri (pos m1).1 (pos m1).2, memM_tri (pos k1).1 (pos k1).2] at he
    exact hab (he ▸ rfl)
  have hyn := h1.nodup_iff.2 hnd
  have hst : Strict ys := (h2.and hyn).imp fun {a b} h => by
    have h3 := h.1
    simp only [ltOf, decide_eq_false_iff_not] at h3
    have := cmpL_anti a b
    have h5 : cmpL a b ≠ 0 := fun e => h.2 (cmpL_zero a b e)
    omega
  exact strict_ext hst (vioN_strict hp H) fun l => by rw [h1.mem_iff, hmem, mem_vioN hp H]
end
open Go Go.Proofs Go.Proofs.Tryz
section
variable {C : Cx} {E : Env} {L : List SP} {d : Option Nat} {ty : Nat} {pos : String} {af : Array Edge} {g : Option (Nat × Bool)}
end
theorem vio_len {rules : List GRule} {facts : List GFact} (H : VHyp rules facts) : (vioM rules facts).length ≤ 20000 := Nat.le_trans (minM_len _) H.hwl
open Go Go.Proofs Go.Proofs.Tryz
theorem Spec.frame {X : Type} {P : Program} {f : Nat} {As : List Ty} {L : List SP} {res : X → Ty} {Lo : X → List SP} {B : SP} (h : Spec P f As L res Lo) : Spec P f As (B :: L) res (fun x => B :: Lo x) := fun vs h0 m r w ha sp st => by
  obtain ⟨m1, m2, d12, rfl, s1, s2⟩ := st
  have hm := PH.disj_join'.1 sp.hm
  have hr := PH.disj_join.1 sp.mr
  have s' : Sep h0 m2 (m1.join r) w := ⟨sp.inv, hm.2, PH.disj_join'.2 ⟨hm.1, sp.hr⟩, PH.disj_join'.2 ⟨PH.disj_symm d12, hr.2⟩, sp.hw, fun b o e => sp.mw _ _ (PH.le_join_right d12 _ _ e), PH.join_inw (fun b o e => sp.mw _ _ (PH.le_join_left _ _ _ _ e)) sp.rw⟩
  refine (h vs h0 m2 (m1.join r) w ha s' s2).mono ?_
  rintro e w' ⟨x', v, h', m', he, l, s, st', hv⟩
  have e1 := PH.disj_join'.1 s.hr
  have e2 := PH.disj_join'.1 s.mr
  refine ⟨x', v, h', m1.join m', he, l, ⟨s.inv, PH.disj_join'.2 ⟨e1.1, s.hm⟩, e1.2, PH.disj_join.2 ⟨hr.1, e2.2⟩, s.hw, PH.join_inw (fun b o e => s.rw _ _ (PH.le_join_left _ _ _ _ e)) s.mw, fun b o e => s.rw _ _ (PH.le_join_right hr.1 _ _ e)⟩, ⟨m1, m', PH.disj_symm e2.1, rfl, B.mono l.1 s1, st'⟩, hv⟩
structure RFew (rules : List GRule) : Prop where
  rl : rules.length ≤ 6
  rr : ∀ r ∈ rules, r.Cols.length ≤ 12 ∧ r.Fixed.length ≤ 12 ∧ r.Tables.length ≤ 12 ∧ r.Tests.length ≤ 12
theorem lowered_len : ∀ m : List GRule, (loweredR m).length ≤ m.length
  | [] => by simp [loweredR]
  | a :: m => by
    have h1 := lowerR_len a
    have h2 := List.length_filter_le okD3 (lowerR a)
    have h3 := lowered_len m
    have e : loweredR (a :: m) = (lowerR a).filter okD3 ++ loweredR m := rfl
    rw [e, List.length_append, List.length_cons]; omega
theorem RFew.tests {rules : List GRule} (h : RFew rules) : ∀ d ∈ loweredR rules, d.Tests.length ≤ 49 := fun d hd => by
  obtain ⟨r, hr, hd⟩ := List.mem_flatMap.1 hd
  have h1 := lowerR_deny (List.mem_filter.1 hd).1
  have h2 := h.rr r hr
  omega
theorem RFew.hyp {rules : List GRule} (h : RFew rules) {facts : List GFact} (hf : facts.length ≤ 12) : VHyp rules facts := VHyp.of h.rl hf fun r hr => by have := h.rr r hr; omega
theorem VInv.ok {rules : List GRule} {s : VS} {ps : PS} {w : Int} (I : VInv rules s ps w) (hp : POk ps) (h : RFew rules) : RulesOk s.rules s.pairs where
  rl := by rw [I.rl]; have := lowered_len rules; have := h.rl; omega
  pl := by
    rw [I.pr]; show (prN _ _).length ≤ _
    have h1 := prN_len (loweredR rules) (fun d hd => (lowT3 rules d hd).2) (loweredR rules).length (Nat.le_refl _)
    have := lowered_len rules; have := h.rl; omega
  tab := fun d hd => by
    rw [I.rl] at hd
    have h1 := lowT3 rules d hd
    have := h.tests d hd
    omega
  prs := fun p hpm => by
    obtain ⟨q, hq, e⟩ := mem_nthV hpm
    obtain ⟨n, i, j, h1, h2, h3, h4, h5, _⟩ := I.pair hp hq
    rw [← e, show nth s.pairs q = _ from h5, I.rl]
    have h6 : (eqsV (nth (loweredR rules) n) i j).length ≤ 1000 := by
      have h7 := eqsK_len (nth (loweredR rules) n) i j (nth (loweredR rules) n).Tests.length
      have h8 := h.tests _ (nth_mem h1)
      have e2 : eqsK (nth (loweredR rules) n) i j (nth (loweredR rules) n).Tests.length = eqsV (nth (loweredR rules) n) i j := by rw [eqsK, List.take_length]; rfl
      rw [e2] at h7; omega
    exact { r0 := by simp, r1 := by simpa using h1, i0 := by simp, i1 := by simpa using h2, j0 := by simp, j1 := by simpa using h3, ij := fun e => h4 (by simp only at e; omega), cl := h6 }
/-- A vigil: its rules, where it lies, the facts that are present, its work. -/
def vigO (rules : List GRule) (b : Nat) (ps : PS) (w : Int) : SP := SP.ex fun s : VS => stars [SP.pure (VInv rules s ps w), vB b s, vI s, vP s, vF s, vE s, vS s, vX s, vV s]
theorem vigO.to {rules : List GRule} {b : Nat} {ps : PS} {w : Int} {s : VS} {L : List SP} (I : VInv rules s ps w) : LSub ([vB b s, vI s, vP s, vF s, vE s, vS s, vX s, vV s] ++ L) (vigO rules b ps w :: L) :=
  LSub.ex s (LSub.stars (LSub.pure I LSub.rfl))
theorem vigO.spec {X : Type} {rules : List GRule} {b : Nat} {ps : PS} {w : Int} {f : Nat} {As : List Ty} {res : X → Ty} {Lo : X → List SP}
    (h : ∀ s, VInv rules s ps w → Spec Tryz.prog f As [vB b s, vI s, vP s, vF s, vE s, vS s, vX s, vV s] res Lo) : Spec Tryz.prog f As [vigO rules b ps w] res Lo :=
  Spec.exL fun s => Spec.lsub (LSub.starsL LSub.rfl) (Spec.pure0 fun I => h s I)
section
variable {rules : List GRule} (hr : RFew rules)
include hr
theorem NewV_spec : Spec (X := Nat) Tryz.prog 11 [tSl rRule rules] ([]) (fun b => tAt b 0) (fun b => [vigO rules b [] 0]) := by
  refine Spec.post (fun z : { z : Nat × VS // NewR rules z.2 } => z.1.1) (fun z => Sub.rfl) (fun z => vigO.to (L := []) (VInv.new z.2)) (New_spec rules (by have := hr.rl; omega) (fun r h => by have := hr.rr r h; omega) fun d hd => by have := hr.tests d hd; omega)
variable {ps : PS} (hp : POk ps) {w : Int}
include hp
theorem PutV_spec (b : Nat) (num : Int) (f : GFact) (hl : ps.length ≤ 12) (hrow : f.Row.length ≤ 1000000) (hw : 0 ≤ w ∧ w ≤ 1000000) : Spec (X := Unit) Tryz.prog 21 [tAt b 0, tV (.int .i64 num), rFact.ty f] [vigO rules b ps w] (fun _ => tV (.int .i64 (putE ps num))) (fun _ => [vigO rules b (putP ps num f) (w + putW rules ps num f)]) :=
  vigO.spec fun s I => Spec.post (fun _ => ()) (fun z => by rw [(I.put hp hl z.2).1]; exact Sub.rfl) (fun z => vigO.to (L := []) (I.put hp hl z.2).2)
    (Put_spec b s num f (I.ok hp hr) (I.patOk hp) hrow (I.candIn hp) (by rw [I.flen hp]; omega) (by rw [I.wk]; omega) (by have := I.vlen hp (by omega); omega) fun l h1 h2 => by have := I.flimit hp hl h1 h2; omega)
omit hr hp in
theorem setsO_KN {κ : Type} [DecidableEq κ] : ∀ {q : SetL κ} {h m : PH}, (setsO q).p h m → ∀ k, KN (sval q k).2
  | [], h, m, _, k => List.nodup_nil
  | (a, v, xs) :: q, h, m, ⟨m1, m2, d, e, ha, hb⟩, k => by
    show KN (hval (.map none) [] ((a, v, xs) :: q) k).2
    rw [hval]
    split
    · exact ha.1
    · exact setsO_KN hb k
theorem DropV_spec (b : Nat) (num : Int) : Spec (X := Unit) Tryz.prog 25 [tAt b 0, tV (.int .i64 num)] [vigO rules b ps w] (fun _ => tV (.int .i64 (dropE ps num))) (fun _ => [vigO rules b (remP ps num) w]) :=
  vigO.spec fun s I => Spec.lsub (L1 := [vS s, vX s, vB b s, vI s, vP s, vF s, vE s, vV s]) zL <| Spec.pureL (fun h m => setsO_KN) fun hke =>
    Spec.lsub (L1 := [vX s, vS s, vB b s, vI s, vP s, vF s, vE s, vV s]) zL <| Spec.pureL (fun h m => setsO_KN) fun hki =>
    Spec.lsub (L1 := [vB b s, vI s, vP s, vF s, vE s, vS s, vX s, vV s]) zL <|
    Spec.post (fun _ => ()) (fun z => by rw [(I.drop hp hke hki z.2).1]; exact Sub.rfl) (fun z => vigO.to (L := []) (I.drop hp hke hki z.2).2) (Drop_spec b s num (I.ok hp hr))
theorem ListV_spec (b : Nat) (hl : ps.length ≤ 12) : Spec (X := Unit) Tryz.prog 18 [tAt b 0] [vigO rules b ps w] (fun _ => tSlE 33 rI2 (vioN rules ps)) (fun _ => [vigO rules b ps w]) :=
  vigO.spec fun s I => Spec.lsub (L1 := [vI s, vP s, vF s, vE s, vS s, vX s, vB b s, vV s]) zL <|
    Spec.post (fun _ => ()) (fun z => by rw [I.list hp (hr.hyp (by rw [gsP_len]; exact hl)) z.2.1 z.2.2]; exact Sub.rfl) (fun z => LSub.trans (B := [vB b s, vI s, vP s, vF s, vE s, vS s, vX s, vV s]) zL (vigO.to (L := []) I))
      (Spec.frame (Spec.frame (Spec.frame (Spec.frame (Spec.frame (Spec.frame (Vlist_spec b s (by have := I.vlen hp (by omega); omega))))))))
omit hr hp in
theorem WorkV_spec (b : Nat) : Spec (X := Unit) Tryz.prog 16 [tAt b 0] [vigO rules b ps w] (fun _ => tV (.int .i64 w)) (fun _ => [vigO rules b ps w]) :=
  vigO.spec fun s I => Spec.lsub (L1 := [vI s, vP s, vF s, vE s, vS s, vX s, vV s, vB b s]) zL <|
    Spec.post (fun _ => ()) (fun z => by rw [I.wk]; exact Sub.rfl) (fun z => LSub.trans (B := [vB b s, vI s, vP s, vF s, vE s, vS s, vX s, vV s]) zL (vigO.to (L := []) I))
      (Spec.frame (Spec.frame (Spec.frame (Spec.frame (Spec.frame (Spec.frame (Spec.frame (Work_spec b s))))))))
end
open Go Go.Proofs Go.Proofs.Tryz
theorem vigO_eq {rules : List GRule} {b : Nat} {ps ps' : PS} {w w' : Int} (e1 : ps = ps') (e2 : w = w') : SPs (vigO rules b ps w) (vigO rules b ps' w') := e1 ▸ e2 ▸ SPs.rfl
def opE (ps : PS) (x : GOp) : Int := if x.Drop = true then dropE ps x.Number else putE ps x.Number
def opP (ps : PS) (x : GOp) : PS := if x.Drop = true then remP ps x.Number else putP ps x.Number x.Fact
noncomputable def opW (rules : List GRule) (ps : PS) (x : GOp) : Int := if x.Drop = true then 0 else putW rules ps x.Number x.Fact
theorem putP_ok {ps : PS} (h : POk ps) (n : Int) (f : GFact) : POk (putP ps n f) := by
  unfold putP
  split
  · rename_i e
    obtain ⟨a, b, c⟩ := putE_0.1 e
    exact h.ins c a b
  · exact h
theorem opP_ok {ps : PS} (h : POk ps) (x : GOp) : POk (opP ps x) := by
  unfold opP
  split
  · exact h.rem
  · exact putP_ok h _ _
theorem putP_len (ps : PS) (n : Int) (f : GFact) : (putP ps n f).length ≤ ps.length + 1 := by
  unfold putP; split
  · rw [insP_len]; omega
  · omega
theorem opP_len (ps : PS) (x : GOp) : (opP ps x).length ≤ ps.length + 1 := by
  unfold opP
  split
  · have := remP_len ps x.Number; omega
  · exact putP_len _ _ _
/-- The facts that are present after operations. -/
def presM (l : List GOp) : PS := l.foldl opP []
theorem presM_snoc (l : List GOp) (x : GOp) : presM (l ++ [x]) = opP (presM l) x := by simp [presM]
theorem presM_ok (l : List GOp) : POk (presM l) := by
  have : ∀ (l : List GOp) (ps : PS), POk ps → POk (l.foldl opP ps) := by
    intro l
    induction l with
    | nil => exact fun ps h => h
    | cons x l ih => exact fun ps h => ih _ (opP_ok h x)
  exact this l [] ⟨List.Pairwise.nil, fun n h => by cases h⟩
theorem presM_len (l : List GOp) : (presM l).length ≤ l.length := by
  have : ∀ (l : List GOp) (ps : PS), (l.foldl opP ps).length ≤ ps.length + l.length := by
    intro l
    induction l with
    | nil => exact fun ps => Nat.le_refl _
    | cons x l ih =>
      intro ps
      have h1 := ih (opP ps x)
      have h2 := opP_len ps x
      simp only [List.foldl_cons, List.length_cons]; omega
  have h := this l []
  simpa [presM] using h
theorem presM_succ {l : List GOp} {i : Nat} (h : i < l.length) : presM (l.take (i + 1)) = opP (presM (l.take i)) (nth l i) := by rw [takeV h, presM_snoc]
/-- Where a number is, or would be. -/
structure AtP (ps : PS) (n : Int) (a : Nat) : Prop where
  le : a ≤ ps.length
  lt : ∀ q, q < a → nth (nsP ps) q < n
  ge : ∀ q, a ≤ q → q < ps.length → n ≤ nth (nsP ps) q
theorem ns_sorted {ps : PS} (h : POk ps) {q r : Nat} (h1 : q < r) (h2 : r < ps.length) : nth (nsP ps) q < nth (nsP ps) r := by
  have := List.pairwise_iff_getElem.1 h.srt q r (by rw [nsP_len]; omega) (by rw [nsP_len]; omega) h1
  rw [nth_get (by rw [nsP_len]; omega), nth_get (by rw [nsP_len]; omega)]; exact this
theorem AtP.of {ps : PS} (h : POk ps) {n : Int} {a : Nat} (hl : a ≤ ps.length) (hlt : ∀ q, q < a → nth (nsP ps) q < n) (hs : ¬ (a < ps.length ∧ nth (nsP ps) a < n)) : AtP ps n a :=
  ⟨hl, hlt, fun q h1 h2 => by
    rcases Nat.lt_or_eq_of_le h1 with e | e
    · have := ns_sorted h e h2
      have := Int.not_lt.1 (fun q' => hs ⟨by omega, q'⟩)
      omega
    · subst e; exact Int.not_lt.1 fun q' => hs ⟨h2, q'⟩⟩
theorem AtP.is {ps : PS} (h : POk ps) {n : Int} {a : Nat} (ha : AtP ps n a) : n ∈ nsP ps ↔ a < ps.length ∧ nth (nsP ps) a = n := by
  constructor
  · intro hm
    obtain ⟨q, hq, e⟩ := mem_nthV hm
    rw [nsP_len] at hq
    have hqa : ¬ q < a := fun q' => by have := ha.lt q q'; omega
    have h1 := ha.ge a (Nat.le_refl _)
    rcases Nat.lt_or_eq_of_le (Nat.not_lt.1 hqa) with r | r
    · have := ns_sorted h r hq
      have := h1 (by omega)
      omega
    · subst r; exact ⟨hq, e⟩
  · rintro ⟨h1, rfl⟩
    exact nth_mem (by rw [nsP_len]; exact h1)
theorem insP_at {n : Int} {f : GFact} : ∀ {ps : PS} {a : Nat}, POk ps → AtP ps n a → n ∉ nsP ps → insP ps n f = ps.take a ++ (n, f) :: ps.drop a
  | [], a, _, ha, _ => by simp [insP]
  | (m, g) :: ps, 0, h, ha, hn => by
    have h1 := ha.ge 0 (Nat.le_refl _) (by simp)
    have h1 : n ≤ m := h1
    have h2 : n ≠ m := fun e => hn (by simp [nsP, e])
    rw [insP, if_pos (by omega)]; rfl
  | (m, g) :: ps, a + 1, h, ha, hn => by
    have h1 : m < n := ha.lt 0 (by omega)
    have h' : POk ps := ⟨(List.pairwise_cons.1 h.srt).2, fun k hk => h.rng k (List.mem_cons_of_mem _ hk)⟩
    have ha' : AtP ps n a := ⟨by have := ha.le; simp at this; omega, fun q hq => ha.lt (q + 1) (by omega), fun q h1 h2 => ha.ge (q + 1) (by omega) (by simp; omega)⟩
    rw [insP, if_neg (by omega), insP_at h' ha' fun q => hn (List.mem_cons_of_mem _ q)]; rfl
theorem remP_at {n : Int} : ∀ {ps : PS} {a : Nat}, POk ps → a < ps.length → nth (nsP ps) a = n → remP ps n = ps.take a ++ ps.drop (a + 1)
  | [], a, _, h, _ => by simp at h
  | (m, g) :: ps, 0, h, _, e => by
    have e : m = n := e
    subst e
    have hh := List.pairwise_cons.1 h.srt
    have : remP ps m = ps := remP_no fun q => by have := hh.1 m q; simp at this
    show List.filter _ _ = ps
    rw [List.filter_cons, if_neg (by simp)]; exact this
  | (m, g) :: ps, a + 1, h, hl, e => by
    have hl : a < ps.length := by simpa using hl
    have e : nth (nsP ps) a = n := e
    have h' : POk ps := ⟨(List.pairwise_cons.1 h.srt).2, fun k hk => h.rng k (List.mem_cons_of_mem _ hk)⟩
    have hne : m ≠ n := by
      have := (List.pairwise_cons.1 h.srt).1 n (by rw [← e]; exact nth_mem (by simpa using hl))
      simp only at this; omega
    have ih := remP_at h' hl e
    show List.filter _ _ = (m, g) :: (ps.take a ++ ps.drop (a + 1))
    rw [List.filter_cons, if_pos (by simp [hne])]; exact congrArg (List.cons _) ih
theorem opP_ins {ps : PS} {x : GOp} {a : Nat} (hp : POk ps) (hat : AtP ps x.Number a) (h : ((x.Drop = false ∧ (((nsP ps).length : Int) ≤ (a : Int) ∨ ¬ nth (nsP ps) a = x.Number)) ∧ 0 ≤ x.Number) ∧ x.Number < 1000000) : opP ps x = ps.take a ++ (x.Number, x.Fact) :: ps.drop a := by
  obtain ⟨⟨⟨h1, h2⟩, h3⟩, h4⟩ := h
  have hn : x.Number ∉ nsP ps := by
    rw [hat.is hp]
    rintro ⟨q1, q2⟩
    rw [nsP_len] at h2
    rcases h2 with r | r
    · omega
    · exact r q2
  rw [opP, if_neg (by simp [h1]), putP, if_pos (putE_0.2 ⟨h3, h4, hn⟩)]; exact insP_at hp hat hn
theorem opP_same {ps : PS} {x : GOp} {a : Nat} (hp : POk ps) (hat : AtP ps x.Number a) (h1 : x.Drop = false ∨ ((nsP ps).length : Int) ≤ (a : Int) ∨ ¬ nth (nsP ps) a = x.Number) (h : ((x.Drop = true ∨ (a : Int) < ((nsP ps).length : Int) ∧ nth (nsP ps) a = x.Number) ∨ x.Number < 0) ∨ 1000000 ≤ x.Number) : opP ps x = ps := by
  have his := hat.is hp
  rw [← nsP_len] at his
  unfold opP
  by_cases hd : x.Drop = true
  · rw [if_pos hd]
    refine remP_no fun q => ?_
    obtain ⟨q1, q2⟩ := his.1 q
    rcases h1 with r | r | r
    · rw [hd] at r; cases r
    · omega
    · exact r q2
  · rw [if_neg hd, putP, if_neg]
    rw [putE_0]
    rintro ⟨q1, q2, q3⟩
    rcases h with ((h | h) | h) | h
    · exact hd h
    · exact q3 (his.2 ⟨by omega, h.2⟩)
    · omega
    · omega
theorem ns_app (a b : PS) : nsP (a ++ b) = nsP a ++ nsP b := List.map_append
theorem gs_app (a b : PS) : gsP (a ++ b) = gsP a ++ gsP b := List.map_append
theorem ns_take (a : PS) (k : Nat) : nsP (a.take k) = (nsP a).take k := List.map_take
theorem gs_take (a : PS) (k : Nat) : gsP (a.take k) = (gsP a).take k := List.map_take
theorem ns_drop (a : PS) (k : Nat) : nsP (a.drop k) = (nsP a).drop k := List.map_drop
theorem gs_drop (a : PS) (k : Nat) : gsP (a.drop k) = (gsP a).drop k := List.map_drop
section
variable {C : Cx} {E : Env} {L : List SP} {d : Option Nat} {ty : Nat} {pos : String} {af : Array Edge} {g : Option (Nat × Bool)}
/-- s[n:] of a slice that may not change. -/
theorem step_slice_fromN {α : Type} {T e n : Nat} {R : Rp α} {x y : Operand} {xs : List α} {k : IntKind} {i : Int} (hu : C.P.underlying T = some (.slice e)) (hR : TyOf C.P e R)
    (hx : Sub (opTy E x) (tSl R xs)) (hy : Sub (opTy E y) (tV (.int k i))) (hi : i = n) (hn : n ≤ xs.length) :
    Step1 C ⟨d, .slice T x (some y) none none, ty, pos, af, g⟩ E L (tSl R (xs.drop n)) :=
  Step.of_run (by intro c h; cases h) fun a w h m l sp st fr => by
    obtain ⟨ao, ⟨cap, hlc⟩, hv, H⟩ := fr.get hx
    have hv : a.eval x = .slice ao xs.length cap := hv
    have h2 : a.eval y = .int k i := fr.get hy
    subst hi
    refine ⟨(), .slice (if cap = n then ao else ao.map (·.add (n * R.k))) (xs.length - n) (cap - n), w, h, _, ?_, HL.refl, sp, st, ⟨_, ⟨cap - n, by rw [List.length_drop]; omega⟩, by show Value.slice _ (xs.length - n) (cap - n) = Value.slice _ (xs.drop n).length (cap - n); rw [List.length_drop], fun hne => ?_⟩⟩
    · simp [execOp, Instr.sliceAt, run_underlying hu, hv, h2, Instr.slice, Instr.sliceBounds, Instr.sliceBound, asIntOf, hR.size, hn]
    · have hlt : n < xs.length := by
        rcases Nat.lt_or_ge n xs.length with q | q
        · exact q
        · exact absurd (List.drop_of_length_le q) hne
      obtain ⟨b, off, ea, H'⟩ := H (fun e => by rw [e] at hlt; simp at hlt)
      refine ⟨b, off + n * R.k, by rw [if_neg (by omega), ea]; simp [addr_add], fun j z hz => ?_⟩
      obtain ⟨cs, q1, q2⟩ := H' (n + j) z (by simpa [List.getElem?_drop] using hz)
      exact ⟨cs, by rw [show off + n * R.k + j * R.k = off + (n + j) * R.k by rw [Nat.add_mul]; omega]; exact q1, q2⟩
end
theorem few_spec (rules : List GRule) (l : List GOp) (hl : l.length * 96 ≤ 140737488355328) : Fun1 prog 10 [tSl rRule rules, tSl rOp l] (tV (.bool (fewB rules (l.map GOp.Fact) 12))) := by
 refine Spec.enter func10 rfl rfl fun h0 w0 fr0 => ?_
 refine Jr (Ja rfl (JL_nil (Jr (Ja rfl (JL_nil ?_)))))
 refine J_seq (Jr (Ja rfl (JL_nil (J_block ?_))))
 refine J_loopL (σ := Nat × Value) (fun ⟨i, u⟩ => i ≤ l.length) (fun ⟨i, u⟩ => upd (upd (upd (upd (upd env0 0 (tSl rRule rules)) 1 (tSl rOp l)) 4 (tV (.bool false))) 5 (rV.ty u)) 6 (tV (.int .i64 (i : Int)))) (fun ⟨i, u⟩ => [own 35 rFact u ((l.take i).map GOp.Fact)]) (fun ⟨i, u⟩ => l.length - i) (0, .slice none 0 0) (by exact Nat.zero_le _) (.u (SubE.upd (Sub.rV rfl) (zU))) (LSub.trans (LSub.nilown (e := 35) (R := rFact)) zL) ?_
 rintro ⟨i, u⟩ hi
 try dsimp only at hi
 refine J_seq (Jr (Jm rfl (Jm rfl (Js rfl (step_len_sl underlying23 Sr) (Js rfl (step_lss Sr Sr) ?_)))))
 refine JL_nil ?_
 refine J_cond Sr (fun h10 => ?_) (fun h10 => ?_)
 ·
  try simp only [NF] at h10
  have hlt : i < l.length := by omega
  refine J_skip (J_seq (J_block (J_region (Jm rfl (Jm rfl ?_)))))
  refine Jm rfl ?_
  refine Js rfl (step_indexAddr_sl  underlying23 ty37 Sr Sr rfl (gb (by exact hlt))) ?_
  refine Js rfl (step_fieldAddr so37 Sr rfl) (Jl rfl ty35 Sr ?_)
  refine Js rfl (step_literal (ys := [_]) underlying41 el35 ⟨rfl, Sr, trivial⟩ rfl (by decide)) ?_
  refine Jx rfl (step_append underlying41 el35 Sr Sr zS (by simp; omega) (by simp; omega)) fun v20 => ?_
  refine Ja rfl (JL_nil (J_region (Jm rfl (Js rfl (step_add Sr Sr z6) (Ja rfl ?_)))))
  refine JL_nil ?_
  refine K_againL (σ := Nat × Value) (s := (i, u)) (i + 1, v20) zO (by show i + 1 ≤ _; omega) (zU) (LSub.cons (A := own 35 rFact v20 ((l.take i).map GOp.Fact ++ [(nth l i).Fact])) zS (own_eq (by rw [takeV hlt, List.map_append]; rfl)) zL)
 try simp only [NF] at h10
 obtain rfl : i = l.length := by omega
 refine J_exit (J_seq ?_)
 refine K_freeze (S := [own 35 rFact u ((l.take l.length).map GOp.Fact)]) (t := 5) zS Frz.own ?_
 refine J_region (Jm rfl (Jm rfl ?_))
 refine Js rfl (step_call0 (Few_spec _ _ _ (by decide)) ⟨Sr, Sr, Sr, trivial⟩ call28) ?_
 refine Ja rfl (JL_nil (J_ret ?_))
 rw [List.take_length]
 refine K_retv (rv := .tmp 4) rfl () (.tmp Sr) Sr
theorem do_spec {rules : List GRule} (hr : RFew rules) {ps : PS} (hp : POk ps) {w : Int} (b : Nat) (x : GOp) (hl : ps.length ≤ 12) (hrow : x.Fact.Row.length ≤ 1000000) (hw : 0 ≤ w ∧ w ≤ 1000000) : Spec (X := Unit) prog 13 [tAt b 0, rOp.ty x] ([vigO rules b ps w]) (fun _ => tV (.int .i64 (opE ps x))) (fun _ => [vigO rules b (opP ps x) (w + opW rules ps x)]) := by
 refine Spec.enter func13 rfl rfl fun h0 w0 fr0 => ?_
 refine Jr (Js rfl (step_box (R := rOp) Sr) (Ja rfl (JL_nil (J_seq (Jr ?_)))))
 refine Js rfl (step_fieldAddr so37 Sr rfl) (Jl rfl ty4 Sr (JL_nil ?_))
 refine J_cond Sr (fun h6 => ?_) (fun h6 => ?_)
 ·
  try simp only [NF] at h6
  refine Jr (Jm rfl (Js rfl (step_fieldAddr so37 Sr rfl) (Jl rfl ty3 Sr ?_)))
  refine Jx rfl (step_call zS (DropV_spec hr hp b x.Number) ⟨Sr, Sr, trivial⟩ call25) fun v10 => ?_
  refine Ja rfl (JL_nil (J_ret ?_))
  refine K_lsub (L' := [vigO rules b (opP ps x) (w + opW rules ps x)]) (LSub.cons (A := vigO rules b (remP ps x.Number) w) zS (vigO_eq (by rw [opP, if_pos h6]) (by rw [opW, if_pos h6]; omega)) zL) ?_
  refine K_retv (rv := .tmp 4) rfl () (.tmp Sr) (by rw [opE, if_pos h6]; exact Sr)
 try simp only [NF] at h6
 refine J_skip (Jr (Jm rfl (Js rfl (step_fieldAddr so37 Sr rfl) (Jl rfl ty3 Sr (Js rfl (step_fieldAddr so37 Sr rfl) ?_)))))
 refine Jl rfl ty35 Sr ?_
 refine Jx rfl (step_call zS (PutV_spec hr hp b x.Number x.Fact hl hrow hw) ⟨Sr, Sr, Sr, trivial⟩ call21) fun v16 => ?_
 refine Ja rfl (JL_nil (J_ret ?_))
 refine K_lsub (L' := [vigO rules b (opP ps x) (w + opW rules ps x)]) (LSub.cons (A := vigO rules b (putP ps x.Number x.Fact) (w + putW rules ps x.Number x.Fact)) zS (vigO_eq (by rw [opP, if_neg (by simp [h6])]) (by rw [opW, if_neg (by simp [h6])])) zL) ?_
 refine K_retv (rv := .tmp 4) rfl () (.tmp Sr) (by rw [opE, if_neg (by simp [h6])]; exact Sr)
set_option maxHeartbeats 2000000 in
theorem present_spec (l : List GOp) (hl : l.length ≤ 100000) : Fun1 prog 20 [tSl rOp l] (tTup [tSl rInt (nsP (presM l)), tSl rFact (gsP (presM l))]) := by
 refine Spec.enter func20 rfl rfl fun h0 w0 fr0 => ?_
 have hpl : ∀ i, (presM (l.take i)).length ≤ l.length := fun i => Nat.le_trans (presM_len _) (by rw [List.length_take]; omega)
 refine Jr (Ja rfl (Ja rfl (JL_nil (Jr (Ja rfl ?_)))))
 refine JL_nil (Jr (Ja rfl (JL_nil (J_seq (Jr ?_)))))
 refine Ja rfl (JL_nil (J_block ?_))
 refine J_loopL (σ := Nat) (fun i => i ≤ l.length) (fun i => upd (upd (upd (upd (upd (upd env0 0 (tSl rOp l)) 2 (tV (.slice none 0 0))) 3 (tV (.slice none 0 0))) 4 (tSl rInt (nsP (presM (l.take i))))) 5 (tSl rFact (gsP (presM (l.take i))))) 6 (tV (.int .i64 (i : Int)))) (fun i => []) (fun i => l.length - i) 0 (by exact Nat.zero_le _) (.u (SubE.upd Sub.nilsl (SubE.upd Sub.nilsl (zU)))) (LSub.rfl) ?_
 rintro i hi
 refine J_seq (Jr (Jm rfl (Jm rfl (Js rfl (step_len_sl underlying23 Sr) (Js rfl (step_lss Sr Sr) ?_)))))
 refine JL_nil ?_
 refine J_cond Sr (fun h12 => ?_) (fun h12 => ?_)
 ·
  try simp only [NF] at h12
  have hlt : i < l.length := by omega
  have hps := presM_ok (l.take i)
  have hpi := hpl i
  have hnl := nsP_len (presM (l.take i))
  have hgl := gsP_len (presM (l.take i))
  refine J_skip (J_seq (J_block (Jr (Ja rfl (JL_nil ?_)))))
  refine J_seq (J_block ?_)
  refine J_loopL (σ := Nat) (fun a => a ≤ (presM (l.take i)).length ∧ ∀ q, q < a → nth (nsP (presM (l.take i))) q < (nth l i).Number) (fun a => upd (upd (upd (upd (upd (upd (upd env0 0 (tSl rOp l)) 2 (tV (.slice none 0 0))) 3 (tV (.slice none 0 0))) 4 (tSl rInt (nsP (presM (l.take i))))) 5 (tSl rFact (gsP (presM (l.take i))))) 6 (tV (.int .i64 (i : Int)))) 7 (tV (.int .i64 (a : Int)))) (fun a => []) (fun a => (presM (l.take i)).length - a) 0 ⟨by omega, fun q hq => by omega⟩ (zU) (LSub.rfl) ?_
  rintro a ⟨ha1, hav⟩
  refine J_seq (J_seq ?_)
  refine J_draw [⟨0, [7], true⟩, ⟨1, [4], true⟩, ⟨2, [16], true⟩, ⟨3, [15, 17], true⟩, ⟨4, [18], true⟩, ⟨5, [4, 19], true⟩, ⟨6, [7, 19], true⟩, ⟨7, [19, 20, 21], true⟩, ⟨8, [19, 22], true⟩, ⟨9, [0, 19], true⟩, ⟨10, [6, 19], true⟩, ⟨11, [19, 24, 25], true⟩, ⟨12, [19, 26], true⟩, ⟨13, [19, 27], true⟩, ⟨14, [19, 23, 28], true⟩, ⟨15, [19, 29], true⟩] rfl (by kernel_rfl) ?_
  refine Mv rfl rfl (Mv rfl rfl (Mf rfl rfl (step_len_sl underlying33 Sr) (Mf rfl rfl (step_lss Sr Sr) (Mv rfl rfl ?_))))
  refine Mk rfl rfl Sr rfl (step_move Sr) ?_
  refine Mk rfl rfl Sr rfl (step_move Sr) ?_
  refine Mg rfl rfl Sr rfl (fun hw => step_indexAddr_sl  underlying33 ty3 (Sub.w hw) (Sub.w hw) rfl (gb (by have hwq := hw; (try simp only [beqB_t, beqB_f, NF] at hwq); show a < (nsP (presM (l.take i))).length; rw [nsP_len]; omega))) ?_
  refine Mg rfl rfl Sr rfl (fun hw => step_load_ptr ty3 (Sub.w hw)) ?_
  refine Mk rfl rfl Sr rfl (step_move Sr) ?_
  refine Mk rfl rfl Sr rfl (step_move Sr) ?_
  refine Mg rfl rfl Sr rfl (fun hw => step_indexAddr_sl  underlying23 ty37 (Sub.w hw) (Sub.w hw) rfl (gb (by have hwq := hw; (try simp only [beqB_t, beqB_f, NF] at hwq); exact hlt))) ?_
  refine Mg rfl rfl Sr rfl (fun hw => step_fieldAddr so37 (Sub.w hw) rfl) (Mg rfl rfl Sr rfl (fun hw => step_load_ptr ty3 (Sub.w hw)) (Mg rfl rfl Sr rfl (fun hw => step_lss (Sub.w hw) (Sub.w hw)) (Mf rfl rfl (step_pick_and Sr Sr) (JM_nil ?_))))
  refine J_cond Sr (fun h30 => ?_) (fun h30 => ?_)
  ·
   try simp only [NF] at h30
   have ha2 : a < (presM (l.take i)).length := by simp [nsP_len] at h30; omega
   have ha3 : nth (nsP (presM (l.take i))) a < (nth l i).Number := by simp at h30; exact h30.2
   refine J_skip (J_block (J_region (Jm rfl (Js rfl (step_add Sr Sr z6) (Ja rfl ?_)))))
   refine JL_nil ?_
   refine K_againL (σ := Nat) (s := a) (a + 1) zO ⟨by omega, fun q hq => by rcases Nat.lt_or_eq_of_le (Nat.lt_succ_iff.1 hq) with e | e; exact hav q e; rw [e]; exact ha3⟩ (zU) (LSub.rfl)
  try simp only [NF] at h30
  have hat : AtP (presM (l.take i)) (nth l i).Number a := AtP.of hps ha1 hav (fun q => by simp [nsP_len] at h30; rcases h30 with r | r <;> omega)
  have his := hat.is hps
  refine J_exit (J_seq ?_)
  refine J_draw [⟨0, [7], true⟩, ⟨1, [4], true⟩, ⟨2, [34], true⟩, ⟨3, [33, 35], true⟩, ⟨4, [36], true⟩, ⟨5, [4, 37], true⟩, ⟨6, [7, 37], true⟩, ⟨7, [37, 38, 39], true⟩, ⟨8, [37, 40], true⟩, ⟨9, [0, 37], true⟩, ⟨10, [6, 37], true⟩, ⟨11, [37, 42, 43], true⟩, ⟨12, [37, 44], true⟩, ⟨13, [37, 45], true⟩, ⟨14, [37, 41, 46], true⟩, ⟨15, [37, 47], true⟩, ⟨16, [48], true⟩] rfl (by kernel_rfl) ?_
  refine Mv rfl rfl (Mv rfl rfl (Mf rfl rfl (step_len_sl underlying33 Sr) (Mf rfl rfl (step_lss Sr Sr) (Mv rfl rfl ?_))))
  refine Mk rfl rfl Sr rfl (step_move Sr) ?_
  refine Mk rfl rfl Sr rfl (step_move Sr) ?_
  refine Mg rfl rfl Sr rfl (fun hw => step_indexAddr_sl  underlying33 ty3 (Sub.w hw) (Sub.w hw) rfl (gb (by have hwq := hw; (try simp only [beqB_t, beqB_f, NF] at hwq); show a < (nsP (presM (l.take i))).length; rw [nsP_len]; omega))) ?_
  refine Mg rfl rfl Sr rfl (fun hw => step_load_ptr ty3 (Sub.w hw)) ?_
  refine Mk rfl rfl Sr rfl (step_move Sr) ?_
  refine Mk rfl rfl Sr rfl (step_move Sr) ?_
  refine Mg rfl rfl Sr rfl (fun hw => step_indexAddr_sl  underlying23 ty37 (Sub.w hw) (Sub.w hw) rfl (gb (by have hwq := hw; (try simp only [beqB_t, beqB_f, NF] at hwq); exact hlt))) ?_
  refine Mg rfl rfl Sr rfl (fun hw => step_fieldAddr so37 (Sub.w hw) rfl) (Mg rfl rfl Sr rfl (fun hw => step_load_ptr ty3 (Sub.w hw)) (Mg rfl rfl Sr rfl (fun hw => step_eql (Sub.w hw) (Sub.w hw)) (Mf rfl rfl (step_pick_and Sr Sr) (Mf rfl rfl (step_assign Sr) (JM_nil ?_)))))
  refine J_seq (Jr (Jm rfl (Jm rfl ?_)))
  refine Js rfl (step_indexAddr_sl  underlying23 ty37 Sr Sr rfl (gb (by exact hlt))) ?_
  refine Js rfl (step_fieldAddr so37 Sr rfl) (Jl rfl ty4 Sr (Jm rfl ?_))
  refine Jk rfl Sr rfl (step_move Sr) ?_
  refine Js rfl (step_pick_and Sr Sr) (JL_nil ?_)
  refine J_cond Sr (fun h56 => ?_) (fun h56 => ?_)
  ·
   try simp only [NF] at h56
   have hd : presM (l.take (i + 1)) = (presM (l.take i)).take a ++ (presM (l.take i)).drop (a + 1) := (presM_succ hlt).trans (by rw [opP, if_pos h56.1]; exact remP_at hps zG h56.2.2)
   refine J_seq ?_
   refine J_draw [⟨1, [4], true⟩, ⟨2, [7], true⟩, ⟨3, [58, 59], true⟩, ⟨5, [4], true⟩, ⟨6, [7], true⟩, ⟨7, [63], true⟩, ⟨8, [62, 64], true⟩, ⟨0, [], false⟩, ⟨4, [57, 60], false⟩, ⟨9, [61, 65], false⟩, ⟨10, [66], true⟩] rfl (by kernel_rfl) ?_
   refine Mv rfl rfl (Mv rfl rfl ?_)
   refine Mf rfl rfl (step_slice_toI (n := a) underlying33 ty3 Sr Sr zG (by show a ≤ (nsP (presM (l.take i))).length; rw [nsP_len]; omega)) ?_
   refine Mv rfl rfl (Mv rfl rfl (Mf rfl rfl (step_add Sr Sr z6) ?_))
   refine Mf rfl rfl (step_slice_fromI (n := (a + 1)) underlying33 ty3 rfl Sr Sr zG (by show a + 1 ≤ (nsP (presM (l.take i))).length; rw [nsP_len]; omega)) ?_
   refine JM_stepX rfl rfl rfl rfl (step_literal_own (ys := []) underlying33 el3 trivial rfl (by decide)) fun v57 => ?_
   refine JM_stepX rfl rfl rfl rfl (step_append underlying33 el3 Sr Sr zS (by simp [nsP_len, gsP_len]; omega) (by simp [nsP_len, gsP_len]; omega)) fun v61 => ?_
   refine JM_stepX rfl rfl rfl rfl (step_append underlying33 el3 Sr Sr zS (by simp [nsP_len, gsP_len]; omega) (by simp [nsP_len, gsP_len]; omega)) fun v66 => ?_
   refine Mf rfl rfl (step_assign Sr) (JM_nil ?_)
   refine K_freeze (S := [own 3 rInt v66 ((nsP (presM (l.take i))).take a ++ (nsP (presM (l.take i))).drop (a + 1))]) (t := 4) zS Frz.own ?_
   refine J_draw [⟨1, [5], true⟩, ⟨2, [7], true⟩, ⟨3, [68, 69], true⟩, ⟨5, [5], true⟩, ⟨6, [7], true⟩, ⟨7, [73], true⟩, ⟨8, [72, 74], true⟩, ⟨0, [], false⟩, ⟨4, [67, 70], false⟩, ⟨9, [71, 75], false⟩, ⟨10, [76], true⟩] rfl (by kernel_rfl) ?_
   refine Mv rfl rfl (Mv rfl rfl ?_)
   refine Mf rfl rfl (step_slice_toI (n := a) underlying41 ty35 Sr Sr zG (by show a ≤ (gsP (presM (l.take i))).length; rw [gsP_len]; omega)) ?_
   refine Mv rfl rfl (Mv rfl rfl (Mf rfl rfl (step_add Sr Sr z6) ?_))
   refine Mf rfl rfl (step_slice_fromN (n := (a + 1)) underlying41 ty35 Sr Sr zG (by show a + 1 ≤ (gsP (presM (l.take i))).length; rw [gsP_len]; omega)) ?_
   refine JM_stepX rfl rfl rfl rfl (step_literal_own (ys := []) underlying41 el35 trivial rfl (by decide)) fun v67 => ?_
   refine JM_stepX rfl rfl rfl rfl (step_append underlying41 el35 Sr Sr zS (by simp [nsP_len, gsP_len]; omega) (by simp [nsP_len, gsP_len]; omega)) fun v71 => ?_
   refine JM_stepX rfl rfl rfl rfl (step_append underlying41 el35 Sr Sr zS (by simp [nsP_len, gsP_len]; omega) (by simp [nsP_len, gsP_len]; omega)) fun v76 => ?_
   refine Mf rfl rfl (step_assign Sr) (JM_nil ?_)
   refine K_freeze (S := [own 35 rFact v76 ((gsP (presM (l.take i))).take a ++ (gsP (presM (l.take i))).drop (a + 1))]) (t := 5) zS Frz.own ?_
   refine Jr (Jm rfl (Jm rfl ?_))
   refine Js rfl (step_indexAddr_sl  underlying23 ty37 Sr Sr rfl (gb (by exact hlt))) ?_
   refine Js rfl (step_fieldAddr so37 Sr rfl) (Jl rfl ty4 Sr (Js rfl (step_not Sr) (Jm rfl ?_)))
   refine Jk rfl Sr rfl (step_move Sr) ?_
   refine Jg rfl Sr rfl (fun hw => step_not (Sub.w hw)) (Js rfl (step_pick_and Sr Sr) (Jm rfl ?_))
   refine Jk rfl Sr rfl (step_move Sr) ?_
   refine Jk rfl Sr rfl (step_move Sr) ?_
   refine Jg rfl Sr rfl (fun hw => step_indexAddr_sl  underlying23 ty37 (Sub.w hw) (Sub.w hw) rfl (gb (by have hwq := hw; (try simp only [beqB_t, beqB_f, NF] at hwq); exact hlt))) ?_
   refine Jg rfl Sr rfl (fun hw => step_fieldAddr so37 (Sub.w hw) rfl) (Jg rfl Sr rfl (fun hw => step_load_ptr ty3 (Sub.w hw)) (Jg rfl Sr rfl (fun hw => step_geq (Sub.w hw) Sr) (Js rfl (step_pick_and Sr Sr) (Jm rfl ?_))))
   refine Jk rfl Sr rfl (step_move Sr) ?_
   refine Jk rfl Sr rfl (step_move Sr) ?_
   refine Jg rfl Sr rfl (fun hw => step_indexAddr_sl  underlying23 ty37 (Sub.w hw) (Sub.w hw) rfl (gb (by have hwq := hw; (try simp only [beqB_t, beqB_f, NF] at hwq); exact hlt))) ?_
   refine Jg rfl Sr rfl (fun hw => step_fieldAddr so37 (Sub.w hw) rfl) (Jg rfl Sr rfl (fun hw => step_load_ptr ty3 (Sub.w hw)) (Jg rfl Sr rfl (fun hw => step_lss (Sub.w hw) Sr) (Js rfl (step_pick_and Sr Sr) (JL_nil ?_))))
   refine J_cond Sr (fun h102 => ?_) (fun h102 => ?_)
   ·
    try simp only [NF] at h102
    have hd : presM (l.take (i + 1)) = (presM (l.take i)).take a ++ ((nth l i).Number, (nth l i).Fact) :: (presM (l.take i)).drop a := (presM_succ hlt).trans (opP_ins hps hat h102)
    exfalso; simp_all
   try simp only [NF] at h102
   first | (have hd : presM (l.take (i + 1)) = presM (l.take i) := (presM_succ hlt).trans (opP_same hps hat h56 h102)) | skip
   refine J_skip (J_region (Jm rfl (Js rfl (step_add Sr Sr z6) (Ja rfl (JL_nil ?_)))))
   refine K_againL (σ := Nat) (s := i) (i + 1) zO (by show i + 1 ≤ _; omega) (.u (SubE.upd (Sub.sl (by rw [hd, gs_app, gs_take, gs_drop])) (SubE.upd (Sub.sl (by rw [hd, ns_app, ns_take, ns_drop])) (zU)))) (LSub.rfl)
  try simp only [NF] at h56
  refine J_skip (Jr (Jm rfl (Jm rfl ?_)))
  refine Js rfl (step_indexAddr_sl  underlying23 ty37 Sr Sr rfl (gb (by exact hlt))) ?_
  refine Js rfl (step_fieldAddr so37 Sr rfl) (Jl rfl ty4 Sr (Js rfl (step_not Sr) (Jm rfl ?_)))
  refine Jk rfl Sr rfl (step_move Sr) ?_
  refine Jg rfl Sr rfl (fun hw => step_not (Sub.w hw)) (Js rfl (step_pick_and Sr Sr) (Jm rfl ?_))
  refine Jk rfl Sr rfl (step_move Sr) ?_
  refine Jk rfl Sr rfl (step_move Sr) ?_
  refine Jg rfl Sr rfl (fun hw => step_indexAddr_sl  underlying23 ty37 (Sub.w hw) (Sub.w hw) rfl (gb (by have hwq := hw; (try simp only [beqB_t, beqB_f, NF] at hwq); exact hlt))) ?_
  refine Jg rfl Sr rfl (fun hw => step_fieldAddr so37 (Sub.w hw) rfl) (Jg rfl Sr rfl (fun hw => step_load_ptr ty3 (Sub.w hw)) (Jg rfl Sr rfl (fun hw => step_geq (Sub.w hw) Sr) (Js rfl (step_pick_and Sr Sr) (Jm rfl ?_))))
  refine Jk rfl Sr rfl (step_move Sr) ?_
  refine Jk rfl Sr rfl (step_move Sr) ?_
  refine Jg rfl Sr rfl (fun hw => step_indexAddr_sl  underlying23 ty37 (Sub.w hw) (Sub.w hw) rfl (gb (by have hwq := hw; (try simp only [beqB_t, beqB_f, NF] at hwq); exact hlt))) ?_
  refine Jg rfl Sr rfl (fun hw => step_fieldAddr so37 (Sub.w hw) rfl) (Jg rfl Sr rfl (fun hw => step_load_ptr ty3 (Sub.w hw)) (Jg rfl Sr rfl (fun hw => step_lss (Sub.w hw) Sr) (Js rfl (step_pick_and Sr Sr) (JL_nil ?_))))
  refine J_cond Sr (fun h102 => ?_) (fun h102 => ?_)
  ·
   try simp only [NF] at h102
   have hd : presM (l.take (i + 1)) = (presM (l.take i)).take a ++ ((nth l i).Number, (nth l i).Fact) :: (presM (l.take i)).drop a := (presM_succ hlt).trans (opP_ins hps hat h102)
   refine J_seq ?_
   refine J_draw [⟨1, [4], true⟩, ⟨2, [7], true⟩, ⟨3, [104, 105], true⟩, ⟨5, [0], true⟩, ⟨6, [6], true⟩, ⟨7, [108, 109], true⟩, ⟨8, [110], true⟩, ⟨9, [111], true⟩, ⟨10, [112], true⟩, ⟨12, [4], true⟩, ⟨13, [7], true⟩, ⟨14, [115, 116], true⟩, ⟨0, [], false⟩, ⟨4, [103, 106], false⟩, ⟨11, [107, 113], false⟩, ⟨15, [114, 117], false⟩, ⟨16, [118], true⟩] rfl (by kernel_rfl) ?_
   refine Mv rfl rfl (Mv rfl rfl ?_)
   refine Mf rfl rfl (step_slice_toI (n := a) underlying33 ty3 Sr Sr zG (by show a ≤ (nsP (presM (l.take i))).length; rw [nsP_len]; omega)) ?_
   refine Mv rfl rfl (Mv rfl rfl ?_)
   refine Mf rfl rfl (step_indexAddr_sl  underlying23 ty37 Sr Sr rfl (gb (by exact hlt))) ?_
   refine Mf rfl rfl (step_fieldAddr so37 Sr rfl) (Mf rfl rfl (step_load_ptr ty3 Sr) ?_)
   refine Mf rfl rfl (step_literal (ys := [_]) underlying33 el3 ⟨rfl, Sr, trivial⟩ rfl (by decide)) ?_
   refine Mv rfl rfl (Mv rfl rfl ?_)
   refine Mf rfl rfl (step_slice_fromI (n := a) underlying33 ty3 rfl Sr Sr zG (by show a ≤ (nsP (presM (l.take i))).length; rw [nsP_len]; omega)) ?_
   refine JM_stepX rfl rfl rfl rfl (step_literal_own (ys := []) underlying33 el3 trivial rfl (by decide)) fun v103 => ?_
   refine JM_stepX rfl rfl rfl rfl (step_append underlying33 el3 Sr Sr zS (by simp [nsP_len, gsP_len]; omega) (by simp [nsP_len, gsP_len]; omega)) fun v107 => ?_
   refine JM_stepX rfl rfl rfl rfl (step_append underlying33 el3 Sr Sr zS (by simp [nsP_len, gsP_len]; omega) (by simp [nsP_len, gsP_len]; omega)) fun v114 => ?_
   refine JM_stepX rfl rfl rfl rfl (step_append underlying33 el3 Sr Sr zS (by simp [nsP_len, gsP_len]; omega) (by simp [nsP_len, gsP_len]; omega)) fun v118 => ?_
   refine Mf rfl rfl (step_assign Sr) (JM_nil ?_)
   refine K_freeze (S := [own 3 rInt v118 (((nsP (presM (l.take i))).take a ++ [(nth l i).Number]) ++ (nsP (presM (l.take i))).drop a)]) (t := 4) zS Frz.own ?_
   refine J_draw [⟨1, [5], true⟩, ⟨2, [7], true⟩, ⟨3, [120, 121], true⟩, ⟨5, [0], true⟩, ⟨6, [6], true⟩, ⟨7, [124, 125], true⟩, ⟨8, [126], true⟩, ⟨9, [127], true⟩, ⟨10, [128], true⟩, ⟨12, [5], true⟩, ⟨13, [7], true⟩, ⟨14, [131, 132], true⟩, ⟨0, [], false⟩, ⟨4, [119, 122], false⟩, ⟨11, [123, 129], false⟩, ⟨15, [130, 133], false⟩, ⟨16, [134], true⟩] rfl (by kernel_rfl) ?_
   refine Mv rfl rfl (Mv rfl rfl ?_)
   refine Mf rfl rfl (step_slice_toI (n := a) underlying41 ty35 Sr Sr zG (by show a ≤ (gsP (presM (l.take i))).length; rw [gsP_len]; omega)) ?_
   refine Mv rfl rfl (Mv rfl rfl ?_)
   refine Mf rfl rfl (step_indexAddr_sl  underlying23 ty37 Sr Sr rfl (gb (by exact hlt))) ?_
   refine Mf rfl rfl (step_fieldAddr so37 Sr rfl) (Mf rfl rfl (step_load_ptr ty35 Sr) ?_)
   refine Mf rfl rfl (step_literal (ys := [_]) underlying41 el35 ⟨rfl, Sr, trivial⟩ rfl (by decide)) ?_
   refine Mv rfl rfl (Mv rfl rfl ?_)
   refine Mf rfl rfl (step_slice_fromN (n := a) underlying41 ty35 Sr Sr zG (by show a ≤ (gsP (presM (l.take i))).length; rw [gsP_len]; omega)) ?_
   refine JM_stepX rfl rfl rfl rfl (step_literal_own (ys := []) underlying41 el35 trivial rfl (by decide)) fun v119 => ?_
   refine JM_stepX rfl rfl rfl rfl (step_append underlying41 el35 Sr Sr zS (by simp [nsP_len, gsP_len]; omega) (by simp [nsP_len, gsP_len]; omega)) fun v123 => ?_
   refine JM_stepX rfl rfl rfl rfl (step_append underlying41 el35 Sr Sr zS (by simp [nsP_len, gsP_len]; omega) (by simp [nsP_len, gsP_len]; omega)) fun v130 => ?_
   refine JM_stepX rfl rfl rfl rfl (step_append underlying41 el35 Sr Sr zS (by simp [nsP_len, gsP_len]; omega) (by simp [nsP_len, gsP_len]; omega)) fun v134 => ?_
   refine Mf rfl rfl (step_assign Sr) (JM_nil ?_)
   refine K_freeze (S := [own 35 rFact v134 (((gsP (presM (l.take i))).take a ++ [(nth l i).Fact]) ++ (gsP (presM (l.take i))).drop a)]) (t := 5) zS Frz.own ?_
   refine J_region (Jm rfl (Js rfl (step_add Sr Sr z6) (Ja rfl (JL_nil ?_))))
   refine K_againL (σ := Nat) (s := i) (i + 1) zO (by show i + 1 ≤ _; omega) (.u (SubE.upd (Sub.sl (by rw [hd, gs_app, gs_take, List.append_assoc]; exact congrArg (fun z => _ ++ _ :: z) (gs_drop _ _).symm)) (SubE.upd (Sub.sl (by rw [hd, ns_app, ns_take, List.append_assoc]; exact congrArg (fun z => _ ++ _ :: z) (ns_drop _ _).symm)) (zU)))) (LSub.rfl)
  try simp only [NF] at h102
  first | (have hd : presM (l.take (i + 1)) = presM (l.take i) := (presM_succ hlt).trans (opP_same hps hat h56 h102)) | skip
  refine J_skip (J_region (Jm rfl (Js rfl (step_add Sr Sr z6) (Ja rfl (JL_nil ?_)))))
  refine K_againL (σ := Nat) (s := i) (i + 1) zO (by show i + 1 ≤ _; omega) (.u (SubE.upd (Sub.sl (by rw [hd])) (SubE.upd (Sub.sl (by rw [hd])) (zU)))) (LSub.rfl)
 try simp only [NF] at h12
 obtain rfl : i = l.length := by omega
 refine J_exit (Jr (Jm rfl (Jm rfl (Ja rfl (Ja rfl ?_)))))
 refine JL_nil (J_ret ?_)
 rw [List.take_length]
 refine K_ret2' (rv := .tmp 2) (rv' := .tmp 3) rfl () (Sel.none _) (.tmp Sr) (.tmp Sr) (Frz.sub Sr) (Frz.sub Sr) Sr
open Go Go.Proofs Go.Proofs.Tryz
def rUnq : GRule := { zRule with Kind := 1, Cols := [0] }
/-! The same, so that it can be reckoned. -/
def insI (x : Int) : List Int → List Int
  | [] => [x]
  | y :: l => if x ≤ y then x :: y :: l else y :: insI x l
def insS : List Int → List Int
  | [] => []
  | x :: l => insI x (insS l)
theorem insI_perm (x : Int) : ∀ l, (insI x l).Perm (x :: l)
  | [] => List.Perm.refl _
  | y :: l => by
    unfold insI
    split
    · exact List.Perm.refl _
    · exact ((insI_perm x l).cons y).trans (List.Perm.swap x y l)
theorem insI_sorted (x : Int) : ∀ l : List Int, l.Pairwise (fun a b => a ≤ b) → (insI x l).Pairwise (fun a b => a ≤ b)
  | [], _ => by simp [insI]
  | y :: l, h => by
    have h' := List.pairwise_cons.1 h
    unfold insI
    split
    · refine List.pairwise_cons.2 ⟨fun z hz => ?_, h⟩
      rcases List.mem_cons.1 hz with rfl | hz
      · assumption
      · have := h'.1 z hz; omega
    · refine List.pairwise_cons.2 ⟨fun z hz => ?_, insI_sorted x l h'.2⟩
      rcases List.mem_cons.1 ((insI_perm x l).mem_iff.1 hz) with rfl | hz
      · omega
      · exact h'.1 z hz
theorem insS_perm : ∀ l, (insS l).Perm l
  | [] => List.Perm.refl _
  | x :: l => (insI_perm x _).trans ((insS_perm l).cons x)
theorem insS_sorted : ∀ l, (insS l).Pairwise (fun a b => a ≤ b)
  | [] => List.Pairwise.nil
  | x :: l => insI_sorted x _ (insS_sorted l)
theorem sortI_ins : sortI = insS := funext fun l => sortI_eq (insS_perm l).symm (insS_sorted l)
def ordSC (a b : ByteArray) : Int := if Op.bytesLess a.data.toList b.data.toList then -1 else if Op.bytesLess a.data.toList b.data.toList || a.data.toList == b.data.toList then 0 else 1
theorem ordS_C : ordS = ordSC := funext fun a => funext fun b => by unfold ordS ordSC; simp only [ByteArray.toList_eq]
def cmpVC (a b : GValue) : Int := if ordI a.Kind b.Kind ≠ 0 then ordI a.Kind b.Kind else if ordI a.N b.N ≠ 0 then ordI a.N b.N else ordSC a.Text b.Text
def testVC (a : GValue) (op : Int) (b : GValue) (add : Int) : Bool :=
  if validV a = false ∨ validV b = false ∨ a.Kind ≠ b.Kind then false
  else if a.Kind = 2 ∨ a.Kind = 3 then opHolds op (ordI (a.N - b.N) add)
  else if a.Kind = 1 ∨ a.Kind = 4 then (if add ≠ 0 then false else opHolds op (cmpVC a b))
  else false
theorem testV_C : testV = testVC := funext fun a => funext fun op => funext fun b => funext fun add => by
  unfold testV testVC cmpV cmpVC; rw [ordS_C]
def holdsVC (t : GTest) (n : Int) (facts : List GFact) (at_ : List Int) : Bool :=
  (sideV t.Left n at_ facts).2.1 && (sideV t.Right n at_ facts).2.1 &&
  (((sideV t.Left n at_ facts).2.2 || (sideV t.Right n at_ facts).2.2) || testVC (sideV t.Left n at_ facts).1 t.Op (sideV t.Right n at_ facts).1 t.Add)
theorem holdsV_C : holdsV = holdsVC := funext fun t => funext fun n => funext fun f => funext fun at_ => by unfold holdsV holdsVC; rw [testV_C]
def candC (d : GRule) (facts : List GFact) (at_ : List Int) (c : Int) : Bool := decide ((nth facts c.toNat).Table = nth d.Tables at_.length) && !at_.contains c && d.Tests.all fun t => holdsVC t d.Tables.length facts (at_ ++ [c])
theorem cand_C : cand = candC := funext fun d => funext fun f => funext fun at_ => funext fun c => by unfold cand candC okT; rw [holdsV_C]
def asgC (d : GRule) (facts : List GFact) (cands : List Int) : Nat → List Int → List (List Int)
  | 0, at_ => [insS at_]
  | n + 1, at_ => cands.flatMap fun c => if candC d facts at_ c then asgC d facts cands n (at_ ++ [c]) else []
theorem asg_C (d : GRule) (facts : List GFact) (cands : List Int) : ∀ n at_, asg d facts cands n at_ = asgC d facts cands n at_
  | 0, at_ => by rw [asg, asgC, sortI_ins]
  | n + 1, at_ => by
    rw [asg, asgC, cand_C]
    congr 1
    funext c
    rw [asg_C d facts cands n]
def witsC (rules : List GRule) (facts : List GFact) (cands : List Int) : List (List Int) := excl facts [] cands ++ (loweredR rules).flatMap fun d => asgC d facts cands d.Tables.length []
theorem wits_C (rules : List GRule) (facts : List GFact) (cands : List Int) : wits rules facts cands = witsC rules facts cands := by
  unfold wits witsC
  congr 2
  funext d
  exact asg_C _ _ _ _ _
theorem minM_eq {W l : List (List Int)} (hW : ∀ s ∈ W, s.length ≤ 3 ∧ ∀ x ∈ s, 0 ≤ x ∧ x < 100) (hl : Strict l) (h1 : ∀ s ∈ l, s ∈ W ∧ ∀ t ∈ W, t.Sublist s → t = [] ∨ t = s) (h2 : ∀ s ∈ W, s ∈ l ∨ ∃ t ∈ W, t.Sublist s ∧ t ≠ [] ∧ t ≠ s) : minM W = l := by
  refine strict_ext (minM_strict W) hl fun s => ?_
  rw [minM_iff hW]
  constructor
  · rintro ⟨q1, q2⟩
    rcases h2 s q1 with h | ⟨t, a, b, c, d⟩
    · exact h
    · exact absurd a (q2 t b c d)
  · intro hs
    refine ⟨(h1 s hs).1, fun t q1 q2 q3 q4 => ?_⟩
    rcases (h1 s hs).2 t q4 q1 with h | h
    · exact q2 h
    · exact q3 h
/-! ### Who is met, so that it can be reckoned -/
def meetB (d : GRule) (i j : Int) (x y : GFact) : Bool := decide (x.Table = nth d.Tables i.toNat) && decide (y.Table = nth d.Tables j.toNat) && (eqsV d i j).all fun c => colEq x c.1 y c.2
def metB (rules : List GRule) (x y : GFact) : Bool := decide (x.Entity = y.Entity) || (loweredR rules).any fun d => (List.range d.Tables.length).any fun i => (List.range d.Tables.length).any fun j => decide (i ≠ j) && meetB d i j x y
theorem meetB_iff {d : GRule} {i j : Int} {x y : GFact} : meetB d i j x y = true ↔ meetP d i j x y := by
  simp only [meetB, meetP, Bool.and_eq_true, decide_eq_true_eq, List.all_eq_true, and_assoc]
theorem metB_iff {rules : List GRule} {x y : GFact} : metB rules x y = true ↔ MeetsP rules x y := by
  simp only [metB, MeetsP, Bool.or_eq_true, Bool.and_eq_true, decide_eq_true_eq, List.any_eq_true, List.mem_range, meetB_iff]
  constructor
  · rintro (h | ⟨d, hd, i, hi, j, hj, hij, h⟩)
    · exact .inl h
    · exact .inr ⟨d, hd, i, j, hi, hj, hij, h⟩
  · rintro (h | ⟨d, hd, i, j, hi, hj, hij, h⟩)
    · exact .inl h
    · exact .inr ⟨d, hd, i, hi, j, hj, hij, h⟩
theorem metL_eq (rules : List GRule) (ps : PS) (f : GFact) : metL rules ps f = ps.filter fun p => metB rules f p.2 := by
  unfold metL
  refine List.filter_congr fun p _ => ?_
  rw [Bool.eq_iff_iff, metB_iff]; simp
def colEqC (x : GFact) (a : Int) (y : GFact) (b : Int) : Bool := ((decide (0 ≤ a) && decide (a < (x.Row.length : Int))) && (decide (0 ≤ b) && decide (b < (y.Row.length : Int)))) && testVC (nth x.Row a.toNat) 1 (nth y.Row b.toNat) 0
theorem colEq_C : colEq = colEqC := funext fun x => funext fun a => funext fun y => funext fun b => by unfold colEq colEqC; rw [testV_C]
def meetC (d : GRule) (i j : Int) (x y : GFact) : Bool := decide (x.Table = nth d.Tables i.toNat) && decide (y.Table = nth d.Tables j.toNat) && (eqsV d i j).all fun c => colEqC x c.1 y c.2
def metC (rules : List GRule) (x y : GFact) : Bool := decide (x.Entity = y.Entity) || (loweredR rules).any fun d => (List.range d.Tables.length).any fun i => (List.range d.Tables.length).any fun j => decide (i ≠ j) && meetC d i j x y
theorem metN_C (rules : List GRule) (ps : PS) (f : GFact) : metN rules ps f = (((ps.filter fun p => metC rules f p.2).length : Nat) : Int) := by
  unfold metN
  rw [metL_eq]
  have : metB = metC := funext fun r => funext fun x => funext fun y => by unfold metB metC meetB meetC; rw [colEq_C]
  rw [this]
/-! ### The example -/
def hxF (e : Int) (s : ByteArray) : GFact := ⟨0, e, 0, [⟨1, 0, s⟩], 0, []⟩
def xB : ByteArray := ⟨#[120]⟩
def yB : ByteArray := ⟨#[121]⟩
def rH : List GRule := [rUnq]
def hp1 : PS := [(5, hxF 0 xB)]
def hp2 : PS := [(3, hxF 1 yB), (5, hxF 0 xB)]
def hp3 : PS := [(3, hxF 1 yB), (5, hxF 0 xB), (9, hxF 2 xB)]
def hp4 : PS := [(1, hxF 3 xB), (3, hxF 1 yB), (5, hxF 0 xB), (9, hxF 2 xB)]
def hp5 : PS := [(1, hxF 3 xB), (3, hxF 1 yB), (9, hxF 2 xB)]
theorem rH_few : RFew rH := ⟨by decide, by decide⟩
theorem pe1 : putE [] 5 = 0 := by decide
theorem pe2 : putE hp1 3 = 0 := by decide
theorem pe3 : putE hp2 9 = 0 := by decide
theorem pe4 : putE hp3 1 = 0 := by decide
theorem pe6 : putE hp5 1 = 9 := by decide
theorem pe7 : putE hp5 (-1) = 1 := by decide
theorem de5 : dropE hp4 5 = 0 := by decide
theorem de6 : dropE hp5 5 = 11 := by decide
theorem pp1 : putP [] 5 (hxF 0 xB) = hp1 := rfl
theorem pp2 : putP hp1 3 (hxF 1 yB) = hp2 := rfl
theorem pp3 : putP hp2 9 (hxF 2 xB) = hp3 := rfl
theorem pp4 : putP hp3 1 (hxF 3 xB) = hp4 := rfl
theorem pd5 : remP hp4 5 = hp5 := rfl
theorem pp6 (f : GFact) : putP hp5 1 f = hp5 := rfl
theorem pp7 (f : GFact) : putP hp5 (-1) f = hp5 := rfl
theorem pd6 : remP hp5 5 = hp5 := rfl
theorem pw1 : putW rH [] 5 (hxF 0 xB) = 0 := by rw [putW, if_pos pe1, metN_C]; decide +kernel
theorem pw2 : putW rH hp1 3 (hxF 1 yB) = 0 := by rw [putW, if_pos pe2, metN_C]; decide +kernel
theorem pw3 : putW rH hp2 9 (hxF 2 xB) = 1 := by rw [putW, if_pos pe3, metN_C]; decide +kernel
theorem pw4 : putW rH hp3 1 (hxF 3 xB) = 2 := by rw [putW, if_pos pe4, metN_C]; decide +kernel
theorem pw6 (f : GFact) : putW rH hp5 1 f = 0 := by rw [putW, pe6]; rfl
theorem pw7 (f : GFact) : putW rH hp5 (-1) f = 0 := by rw [putW, pe7]; rfl
theorem vw2 : allW rH (gsP hp2) = [] := by rw [allW, wits_C]; decide +kernel
theorem vw3 : allW rH (gsP hp3) = [[1, 2], [1, 2]] := by rw [allW, wits_C]; decide +kernel
theorem vw4 : allW rH (gsP hp4) = [[0, 2], [0, 3], [0, 2], [2, 3], [0, 3], [2, 3]] := by rw [allW, wits_C]; decide +kernel
theorem vw5 : allW rH (gsP hp5) = [[0, 2], [0, 2]] := by rw [allW, wits_C]; decide +kernel
theorem vv2 : vioN rH hp2 = [] := by
  have : vioM rH (gsP hp2) = [] := by rw [vioM, show wits rH (gsP hp2) (iota (gsP hp2).length) = _ from vw2]; exact minM_eq (by decide) (by decide) (by decide) (by decide)
  rw [vioN, this]; rfl
theorem vv3 : vioN rH hp3 = [[5, 9]] := by
  have : vioM rH (gsP hp3) = [[1, 2]] := by rw [vioM, show wits rH (gsP hp3) (iota (gsP hp3).length) = _ from vw3]; exact minM_eq (by decide) (by decide) (by decide) (by decide)
  rw [vioN, this]; rfl
theorem vv4 : vioN rH hp4 = [[1, 5], [1, 9], [5, 9]] := by
  have : vioM rH (gsP hp4) = [[0, 2], [0, 3], [2, 3]] := by rw [vioM, show wits rH (gsP hp4) (iota (gsP hp4).length) = _ from vw4]; exact minM_eq (by decide) (by decide) (by decide) (by decide)
  rw [vioN, this]; rfl
theorem vv5 : vioN rH hp5 = [[1, 9]] := by
  have : vioM rH (gsP hp5) = [[0, 2]] := by rw [vioM, show wits rH (gsP hp5) (iota (gsP hp5).length) = _ from vw5]; exact minM_eq (by decide) (by decide) (by decide) (by decide)
  rw [vioN, this]; rfl
open Go Go.Proofs Go.Proofs.Tryz
theorem Spec.cst {P : Program} {f : Nat} {As : List Ty} {L : List SP} {R R' : Ty} {L1 L2 : List SP} (e1 : R = R') (e2 : L1 = L2) (h : Spec (X := Unit) P f As L (fun _ => R) (fun _ => L1)) : Spec (X := Unit) P f As L (fun _ => R') (fun _ => L2) := by subst e1 e2; exact h
theorem vg_eq {rules : List GRule} {b : Nat} {ps ps' : PS} {w w' : Int} (e1 : ps = ps') (e2 : w = w') : [vigO rules b ps w] = [vigO rules b ps' w'] := by rw [e1, e2]
theorem ti_eq {x y : Int} (e : x = y) : tV (.int .i64 x) = tV (.int .i64 y) := by rw [e]
theorem hk0 : POk [] := ⟨List.Pairwise.nil, fun n h => by cases h⟩
theorem hk1 : POk hp1 := putP_ok hk0 5 (hxF 0 xB)
theorem hk2 : POk hp2 := putP_ok hk1 3 (hxF 1 yB)
theorem hk3 : POk hp3 := putP_ok hk2 9 (hxF 2 xB)
theorem hk4 : POk hp4 := putP_ok hk3 1 (hxF 3 xB)
theorem hk5 : POk hp5 := hk4.rem (n := 5)
theorem put1_spec (b : Nat) : Spec (X := Unit) prog 21 [tAt b 0, tV (.int .i64 5), rFact.ty (hxF 0 xB)] [vigO rH b [] 0] (fun _ => tV (.int .i64 0)) (fun _ => [vigO rH b hp1 0]) := Spec.cst (ti_eq pe1) (vg_eq pp1 (by rw [pw1]; rfl)) (PutV_spec rH_few hk0 b 5 (hxF 0 xB) (by decide) (by decide) (by decide))
theorem put2_spec (b : Nat) : Spec (X := Unit) prog 21 [tAt b 0, tV (.int .i64 3), rFact.ty (hxF 1 yB)] [vigO rH b hp1 0] (fun _ => tV (.int .i64 0)) (fun _ => [vigO rH b hp2 0]) := Spec.cst (ti_eq pe2) (vg_eq pp2 (by rw [pw2]; rfl)) (PutV_spec rH_few hk1 b 3 (hxF 1 yB) (by decide) (by decide) (by decide))
theorem put3_spec (b : Nat) : Spec (X := Unit) prog 21 [tAt b 0, tV (.int .i64 9), rFact.ty (hxF 2 xB)] [vigO rH b hp2 0] (fun _ => tV (.int .i64 0)) (fun _ => [vigO rH b hp3 1]) := Spec.cst (ti_eq pe3) (vg_eq pp3 (by rw [pw3]; rfl)) (PutV_spec rH_few hk2 b 9 (hxF 2 xB) (by decide) (by decide) (by decide))
theorem put4_spec (b : Nat) : Spec (X := Unit) prog 21 [tAt b 0, tV (.int .i64 1), rFact.ty (hxF 3 xB)] [vigO rH b hp3 1] (fun _ => tV (.int .i64 0)) (fun _ => [vigO rH b hp4 3]) := Spec.cst (ti_eq pe4) (vg_eq pp4 (by rw [pw4]; rfl)) (PutV_spec rH_few hk3 b 1 (hxF 3 xB) (by decide) (by decide) (by decide))
theorem put6_spec (b : Nat) (f : GFact) (hf : f.Row.length ≤ 1000000) : Spec (X := Unit) prog 21 [tAt b 0, tV (.int .i64 1), rFact.ty f] [vigO rH b hp5 3] (fun _ => tV (.int .i64 9)) (fun _ => [vigO rH b hp5 3]) := Spec.cst (ti_eq pe6) (vg_eq (pp6 f) (by rw [pw6 f]; rfl)) (PutV_spec rH_few hk5 b 1 f (by decide) hf (by decide))
theorem put7_spec (b : Nat) (f : GFact) (hf : f.Row.length ≤ 1000000) : Spec (X := Unit) prog 21 [tAt b 0, tV (.int .i64 (-1)), rFact.ty f] [vigO rH b hp5 3] (fun _ => tV (.int .i64 1)) (fun _ => [vigO rH b hp5 3]) := Spec.cst (ti_eq pe7) (vg_eq (pp7 f) (by rw [pw7 f]; rfl)) (PutV_spec rH_few hk5 b (-1) f (by decide) hf (by decide))
theorem drop5_spec (b : Nat) : Spec (X := Unit) prog 25 [tAt b 0, tV (.int .i64 5)] [vigO rH b hp4 3] (fun _ => tV (.int .i64 0)) (fun _ => [vigO rH b hp5 3]) := Spec.cst (ti_eq de5) (vg_eq pd5 rfl) (DropV_spec rH_few hk4 b 5)
theorem drop6_spec (b : Nat) : Spec (X := Unit) prog 25 [tAt b 0, tV (.int .i64 5)] [vigO rH b hp5 3] (fun _ => tV (.int .i64 11)) (fun _ => [vigO rH b hp5 3]) := Spec.cst (ti_eq de6) (vg_eq pd6 rfl) (DropV_spec rH_few hk5 b 5)
theorem lst2_spec (b : Nat) : Spec (X := Unit) prog 18 [tAt b 0] [vigO rH b hp2 0] (fun _ => tSlE 33 rI2 []) (fun _ => [vigO rH b hp2 0]) := Spec.cst (by rw [vv2]) rfl (ListV_spec rH_few hk2 b (by decide))
theorem lst3_spec (b : Nat) : Spec (X := Unit) prog 18 [tAt b 0] [vigO rH b hp3 1] (fun _ => tSlE 33 rI2 [[5, 9]]) (fun _ => [vigO rH b hp3 1]) := Spec.cst (by rw [vv3]) rfl (ListV_spec rH_few hk3 b (by decide))
theorem lst4_spec (b : Nat) : Spec (X := Unit) prog 18 [tAt b 0] [vigO rH b hp4 3] (fun _ => tSlE 33 rI2 [[1, 5], [1, 9], [5, 9]]) (fun _ => [vigO rH b hp4 3]) := Spec.cst (by rw [vv4]) rfl (ListV_spec rH_few hk4 b (by decide))
theorem lst5_spec (b : Nat) : Spec (X := Unit) prog 18 [tAt b 0] [vigO rH b hp5 3] (fun _ => tSlE 33 rI2 [[1, 9]]) (fun _ => [vigO rH b hp5 3]) := Spec.cst (by rw [vv5]) rfl (ListV_spec rH_few hk5 b (by decide))
theorem sS (l : List (List Int)) : setsB l l = true := setsB_iff.2 rfl
theorem text_spec (e : Int) (s : ByteArray) : Fun1 prog 27 [tV (.int .i64 e), tV (.string s)] (rFact.ty (hxF e s)) := by
 refine Spec.enter func27 rfl rfl fun h0 w0 fr0 => ?_
 refine Jr ?_
 refine Jx rfl (step_alloc (fun w => zeroValue35 w) zr35) fun v4 => ?_
 refine JL_nil (Jr (Jm rfl (Jm rfl (Js rfl (step_build (x := (⟨1, 0, s⟩ : GValue)) (zs := [[Value.int .i64 0], [Value.int .i64 0], [Value.string ⟨#[]⟩]]) so91 (fun w => zeroValue91 w) ⟨Sr, Sr, trivial⟩ ⟨⟨Sr, rfl⟩, fun _ => rfl, ⟨Sr, rfl⟩, trivial⟩) ?_))))
 refine Js rfl (step_literal (ys := [_]) underlying32 el91 ⟨rfl, Sr, trivial⟩ rfl (by decide)) ?_
 refine Js rfl (step_build (x := (hxF e s : GFact)) (zs := [[Value.int .i64 0], [Value.int .i64 0], [Value.int .i64 0], [Value.slice none 0 0], [Value.int .i64 0], [Value.slice none 0 0]]) so35 (fun w => zeroValue35 w) ⟨Sr, Sr, trivial⟩ ⟨fun _ => rfl, ⟨Sr, rfl⟩, fun _ => rfl, ⟨Sr, rfl⟩, fun _ => rfl, fun _ => ⟨_, rfl, none, ⟨0, Nat.le_refl _⟩, rfl, fun q => absurd rfl q⟩, trivial⟩) ?_
 refine Ju (step_store_box ty35 Sr Sr zS) fun _ => ?_
 refine JL_freeze (t := 4) (Sel.take (Sel.none _)) Frz.box ?_
 refine JL_nil (J_ret ?_)
 refine K_retv (rv := .cell 4 35) rfl () (.imm ty35 Sr Sr) Sr
set_option maxHeartbeats 2000000 in
theorem head_spec  : Fun1 prog 9 [] (tV (.bool true)) := by
 refine Spec.enter func9 rfl rfl fun h0 w0 fr0 => ?_
 refine Jr (Ja rfl (JL_nil (Jr ?_)))
 refine Js rfl (step_literal (ys := [_]) underlying33 el3 ⟨rfl, Sr, trivial⟩ rfl (by decide)) ?_
 refine Js rfl (step_build (x := (rUnq : GRule)) (zs := [[Value.int .i64 0], [Value.string ⟨#[]⟩], [Value.int .i64 0], [Value.slice none 0 0], [Value.int .i64 0], [Value.slice none 0 0], [Value.int .i64 0], [Value.int .i64 0], [Value.slice none 0 0], [Value.slice none 0 0]]) so59 (fun w => zeroValue59 w) ⟨Sr, Sr, trivial⟩ ⟨⟨Sr, rfl⟩, fun _ => rfl, fun _ => rfl, ⟨Sr, rfl⟩, fun _ => rfl, fun _ => ⟨_, rfl, none, ⟨0, Nat.le_refl _⟩, rfl, fun q => absurd rfl q⟩, fun _ => rfl, fun _ => rfl, fun _ => ⟨_, rfl, none, ⟨0, Nat.le_refl _⟩, rfl, fun q => absurd rfl q⟩, fun _ => ⟨_, rfl, none, ⟨0, Nat.le_refl _⟩, rfl, fun q => absurd rfl q⟩, trivial⟩) ?_
 refine Js rfl (step_literal (ys := [_]) underlying22 el59 ⟨rfl, Sr, trivial⟩ rfl (by decide)) ?_
 refine Jx rfl (step_call (Sel.none _) (NewV_spec rH_few) ⟨Sr, trivial⟩ call11) fun b1 => ?_
 refine Ja rfl (JL_nil (Jr (Jm rfl (Js rfl (step_call0 (text_spec 0 xB) ⟨Sr, Sr, trivial⟩ call27) ?_))))
 refine Jx rfl (step_call zS (put1_spec b1) ⟨Sr, Sr, Sr, trivial⟩ call21) fun v18 => ?_
 refine Ja rfl (JL_nil (Jr (Jm rfl (Js rfl (step_call0 (text_spec 1 yB) ⟨Sr, Sr, trivial⟩ call27) ?_))))
 refine Jx rfl (step_call zS (put2_spec b1) ⟨Sr, Sr, Sr, trivial⟩ call21) fun v21 => ?_
 refine Ja rfl (JL_nil (Jr (Jm rfl ?_)))
 refine Jx rfl (step_call zS (lst2_spec b1) ⟨Sr, trivial⟩ call18) fun v23 => ?_
 refine Js rfl (step_len_sl underlying45 Sub.ofE) (Js rfl (step_eql Sr Sr) (Jm rfl ?_))
 refine Jk rfl Sr rfl (step_move Sr) ?_
 refine JL_stepGX (tV (.bool false)) rfl rfl rfl (Gd.plain Sr) rfl rfl (fun hw => step_call zS (WorkV_spec (rules := rH) (ps := hp2) (w := 0) b1) ⟨Sub.w hw, trivial⟩ call16) (fun hw v28 => ?_) (fun hw => (by exfalso; simp [sS] at hw))
 refine Jg rfl Sr rfl (fun hw => step_eql (Sub.w hw) Sr) (Js rfl (step_pick_and Sr Sr) (Ja rfl (JL_nil (Jr (Jm rfl ?_)))))
 refine Js rfl (step_call0 (text_spec 2 xB) ⟨Sr, Sr, trivial⟩ call27) ?_
 refine Jx rfl (step_call zS (put3_spec b1) ⟨Sr, Sr, Sr, trivial⟩ call21) fun v33 => ?_
 refine Ja rfl (JL_nil (Jr (Jm rfl ?_)))
 refine Jx rfl (step_call zS (lst3_spec b1) ⟨Sr, trivial⟩ call18) fun v35 => ?_
 refine Js rfl (step_literal (ys := [_, _]) underlying33 el3 ⟨rfl, Sr, rfl, Sr, trivial⟩ rfl (by decide)) ?_
 refine Js rfl (step_literal (ys := [_]) underlying45 el33 ⟨rfl, Sr, trivial⟩ rfl (by decide)) ?_
 refine Js rfl (step_call0 (Sets_spec _ _ (by decide) (by decide) (by decide) (by decide)) ⟨Sub.ofEE, Sr, trivial⟩ call17) ?_
 refine Jm rfl ?_
 refine Jk rfl Sr rfl (step_move Sr) ?_
 refine JL_stepGX (tV (.bool false)) rfl rfl rfl (Gd.plain Sr) rfl rfl (fun hw => step_call zS (WorkV_spec (rules := rH) (ps := hp3) (w := 1) b1) ⟨Sub.w hw, trivial⟩ call16) (fun hw v41 => ?_) (fun hw => (by exfalso; simp [sS] at hw))
 refine Jg rfl Sr rfl (fun hw => step_eql (Sub.w hw) Sr) (Js rfl (step_pick_and Sr Sr) (Ja rfl (JL_nil (Jr (Jm rfl ?_)))))
 refine Js rfl (step_call0 (text_spec 3 xB) ⟨Sr, Sr, trivial⟩ call27) ?_
 refine Jx rfl (step_call zS (put4_spec b1) ⟨Sr, Sr, Sr, trivial⟩ call21) fun v46 => ?_
 refine Ja rfl (JL_nil (Jr (Jm rfl ?_)))
 refine Jx rfl (step_call zS (lst4_spec b1) ⟨Sr, trivial⟩ call18) fun v48 => ?_
 refine Js rfl (step_literal (ys := [_, _]) underlying33 el3 ⟨rfl, Sr, rfl, Sr, trivial⟩ rfl (by decide)) ?_
 refine Js rfl (step_literal (ys := [_, _]) underlying33 el3 ⟨rfl, Sr, rfl, Sr, trivial⟩ rfl (by decide)) ?_
 refine Js rfl (step_literal (ys := [_, _]) underlying33 el3 ⟨rfl, Sr, rfl, Sr, trivial⟩ rfl (by decide)) ?_
 refine Js rfl (step_literal (ys := [_, _, _]) underlying45 el33 ⟨rfl, Sr, rfl, Sr, rfl, Sr, trivial⟩ rfl (by decide)) ?_
 refine Js rfl (step_call0 (Sets_spec _ _ (by decide) (by decide) (by decide) (by decide)) ⟨Sub.ofEE, Sr, trivial⟩ call17) ?_
 refine Jm rfl ?_
 refine Jk rfl Sr rfl (step_move Sr) ?_
 refine JL_stepGX (tV (.bool false)) rfl rfl rfl (Gd.plain Sr) rfl rfl (fun hw => step_call zS (WorkV_spec (rules := rH) (ps := hp4) (w := 3) b1) ⟨Sub.w hw, trivial⟩ call16) (fun hw v56 => ?_) (fun hw => (by exfalso; simp [sS] at hw))
 refine Jg rfl Sr rfl (fun hw => step_eql (Sub.w hw) Sr) (Js rfl (step_pick_and Sr Sr) (Ja rfl (JL_nil (Jr (Jm rfl ?_)))))
 refine Jx rfl (step_call zS (drop5_spec b1) ⟨Sr, Sr, trivial⟩ call25) fun v60 => ?_
 refine Ja rfl (JL_nil (Jr (Jm rfl ?_)))
 refine Jx rfl (step_call zS (lst5_spec b1) ⟨Sr, trivial⟩ call18) fun v62 => ?_
 refine Js rfl (step_literal (ys := [_, _]) underlying33 el3 ⟨rfl, Sr, rfl, Sr, trivial⟩ rfl (by decide)) ?_
 refine Js rfl (step_literal (ys := [_]) underlying45 el33 ⟨rfl, Sr, trivial⟩ rfl (by decide)) ?_
 refine Js rfl (step_call0 (Sets_spec _ _ (by decide) (by decide) (by decide) (by decide)) ⟨Sub.ofEE, Sr, trivial⟩ call17) ?_
 refine Jm rfl ?_
 refine Jk rfl Sr rfl (step_move Sr) ?_
 refine JL_stepGX (tV (.bool false)) rfl rfl rfl (Gd.plain Sr) rfl rfl (fun hw => step_call zS (WorkV_spec (rules := rH) (ps := hp5) (w := 3) b1) ⟨Sub.w hw, trivial⟩ call16) (fun hw v68 => ?_) (fun hw => (by exfalso; simp [sS] at hw))
 refine Jg rfl Sr rfl (fun hw => step_eql (Sub.w hw) Sr) (Js rfl (step_pick_and Sr Sr) (Ja rfl (JL_nil (Jr (Ja rfl ?_)))))
 refine JL_nil (Jr (Jm rfl (Jm rfl ?_)))
 refine Jk rfl Sr rfl (step_move Sr) ?_
 refine Js rfl (step_pick_and Sr Sr) (Jm rfl ?_)
 refine Jk rfl Sr rfl (step_move Sr) ?_
 refine Js rfl (step_pick_and Sr Sr) (Jm rfl ?_)
 refine Jk rfl Sr rfl (step_move Sr) ?_
 refine Js rfl (step_pick_and Sr Sr) (Jm rfl ?_)
 refine Jk rfl Sr rfl (step_move Sr) ?_
 refine Jg rfl Sr rfl (fun hw => step_eql (Sub.w hw) Sr) (Js rfl (step_pick_and Sr Sr) (Jm rfl ?_))
 refine Jk rfl Sr rfl (step_move Sr) ?_
 refine Jg rfl Sr rfl (fun hw => step_eql (Sub.w hw) Sr) (Js rfl (step_pick_and Sr Sr) (Jm rfl ?_))
 refine Jk rfl Sr rfl (step_move Sr) ?_
 refine Jg rfl Sr rfl (fun hw => step_eql (Sub.w hw) Sr) (Js rfl (step_pick_and Sr Sr) (Jm rfl ?_))
 refine Jk rfl Sr rfl (step_move Sr) ?_
 refine Jg rfl Sr rfl (fun hw => step_eql (Sub.w hw) Sr) (Js rfl (step_pick_and Sr Sr) (Jm rfl ?_))
 refine Jk rfl Sr rfl (step_move Sr) ?_
 refine Jg rfl Sr rfl (fun hw => step_eql (Sub.w hw) Sr) (Js rfl (step_pick_and Sr Sr) (Jm rfl ?_))
 refine Jk rfl Sr rfl (step_move Sr) ?_
 refine Jk rfl Sr rfl (step_call0 (text_spec 0 _) ⟨Sr, Sr, trivial⟩ call27) ?_
 refine JL_stepGX (tV (.bool false)) rfl rfl rfl (Gd.plain Sr) rfl rfl (fun hw => step_call zS (put6_spec b1 _ (by decide)) ⟨Sub.w hw, Sr, Sub.w hw, trivial⟩ call21) (fun hw v104 => ?_) (fun hw => (by exfalso; simp [sS] at hw))
 refine Jg rfl Sr rfl (fun hw => step_eql (Sub.w hw) Sr) (Js rfl (step_pick_and Sr Sr) (Jm rfl ?_))
 refine Jk rfl Sr rfl (step_move Sr) ?_
 refine JL_stepGX (tV (.bool false)) rfl rfl rfl (Gd.plain Sr) rfl rfl (fun hw => step_call zS (drop6_spec b1) ⟨Sub.w hw, Sr, trivial⟩ call25) (fun hw v109 => ?_) (fun hw => (by exfalso; simp [sS] at hw))
 refine Jg rfl Sr rfl (fun hw => step_eql (Sub.w hw) Sr) (Js rfl (step_pick_and Sr Sr) (Jm rfl ?_))
 refine Jk rfl Sr rfl (step_move Sr) ?_
 refine Jk rfl Sr rfl (step_call0 (text_spec 0 _) ⟨Sr, Sr, trivial⟩ call27) ?_
 refine JL_stepGX (tV (.bool false)) rfl rfl rfl (Gd.plain Sr) rfl rfl (fun hw => step_call zS (put7_spec b1 _ (by decide)) ⟨Sub.w hw, Sr, Sub.w hw, trivial⟩ call21) (fun hw v115 => ?_) (fun hw => (by exfalso; simp [sS] at hw))
 refine Jg rfl Sr rfl (fun hw => step_eql (Sub.w hw) Sr) (Js rfl (step_pick_and Sr Sr) (Jm rfl ?_))
 refine Jk rfl Sr rfl (step_move Sr) ?_
 refine Jg rfl Sr rfl (fun hw => step_call0 (Drop0_spec 1) ⟨Sub.w hw, Sr, trivial⟩ call25) (Jg rfl Sr rfl (fun hw => step_eql (Sub.w hw) Sr) (Js rfl (step_pick_and Sr Sr) (Jm rfl ?_)))
 refine Jk rfl Sr rfl (step_move Sr) ?_
 refine Jg rfl Sr rfl (fun hw => step_call0 Work0_spec ⟨Sub.w hw, trivial⟩ call16) (Jg rfl Sr rfl (fun hw => step_eql (Sub.w hw) Sr) (Js rfl (step_pick_and Sr Sr) (Ja rfl (JL_nil (J_ret ?_)))))
 refine K_drop (S := [vigO rH b1 hp5 3]) zS ?_
 refine K_retv (rv := .tmp 0) rfl () (.tmp Sr) (Sub.bool (by simp [sS]))
open Go Go.Proofs Go.Proofs.Tryz
/-- How much was done. -/
noncomputable def workF (rules : List GRule) : PS → List GOp → Int
  | _, [] => 0
  | ps, x :: l => opW rules ps x + workF rules (opP ps x) l
theorem workF_snoc (rules : List GRule) (x : GOp) : ∀ (l : List GOp) (ps : PS), workF rules ps (l ++ [x]) = workF rules ps l + opW rules (l.foldl opP ps) x
  | [], ps => by simp [workF]
  | y :: l, ps => by
    show opW rules ps y + workF rules (opP ps y) (l ++ [x]) = opW rules ps y + workF rules (opP ps y) l + _
    rw [workF_snoc rules x l, Int.add_assoc]; rfl
theorem opW_bd (rules : List GRule) (ps : PS) (x : GOp) : 0 ≤ opW rules ps x ∧ opW rules ps x ≤ (ps.length : Int) := by
  have := metN_le rules ps x.Fact
  unfold opW putW
  split
  · omega
  · split <;> omega
theorem workF_bd (rules : List GRule) (m : Nat) : ∀ (l : List GOp) (ps : PS), ps.length + l.length ≤ m → 0 ≤ workF rules ps l ∧ workF rules ps l ≤ ((l.length * m : Nat) : Int)
  | [], ps, _ => by simp [workF]
  | x :: l, ps, h => by
    have h1 := opW_bd rules ps x
    have h2 := opP_len ps x
    simp only [List.length_cons] at h
    have h3 := workF_bd rules m l (opP ps x) (by omega)
    show 0 ≤ opW rules ps x + workF rules (opP ps x) l ∧ opW rules ps x + workF rules (opP ps x) l ≤ (((l.length + 1) * m : Nat) : Int)
    rw [Nat.succ_mul]
    constructor
    · omega
    · push_cast at h3 ⊢; omega
noncomputable def workM (rules : List GRule) (l : List GOp) : Int := workF rules [] l
theorem workM_succ (rules : List GRule) {l : List GOp} {i : Nat} (h : i < l.length) : workM rules (l.take (i + 1)) = workM rules (l.take i) + opW rules (presM (l.take i)) (nth l i) := by rw [takeV h]; exact workF_snoc _ _ _ _
theorem workM_bd (rules : List GRule) {l : List GOp} (h : l.length ≤ 12) : 0 ≤ workM rules l ∧ workM rules l ≤ 144 := by
  have := workF_bd rules 12 l [] (by simpa using h)
  have h2 : l.length * 12 ≤ 144 := by omega
  unfold workM; omega
theorem take_len12 {l : List GOp} {i : Nat} (h : l.length ≤ 12) : (l.take i).length ≤ 12 := by rw [List.length_take]; omega
theorem pres12 {l : List GOp} {i : Nat} (h : l.length ≤ 12) : (presM (l.take i)).length ≤ 12 := Nat.le_trans (presM_len _) (take_len12 h)
structure FewO (rules : List GRule) (l : List GOp) : Prop where
  rf : RFew rules
  ll : l.length ≤ 12
  row : ∀ x ∈ l, x.Fact.Row.length ≤ 1000000
theorem FewO.of {rules : List GRule} {l : List GOp} (h : fewB rules (l.map GOp.Fact) 12 = true) : FewO rules l := by
  have h2 := FewP.of h
  refine ⟨⟨h2.rl, h2.rr⟩, by have := h2.fl; rwa [List.length_map] at this, fun x hx => ?_⟩
  simp only [fewB, Bool.and_eq_true, List.all_eq_true, fewF, decide_eq_true_eq] at h
  have := (h.2 _ (List.mem_map.2 ⟨x, hx, rfl⟩)).1
  omega
theorem Sub.tup2 {A B A' B' : Ty} (s1 : Sub A A') (s2 : Sub B B') : Sub (tTup [A, B]) (tTup [A', B']) := fun h v ⟨vs, e, a⟩ => by
  match vs, a with
  | [x, y], ⟨a, b, _⟩ => exact ⟨[x, y], e, s1 h x a, s2 h y b, trivial⟩
theorem ViolP_spec {rules : List GRule} {facts : List GFact} (H : VHyp rules facts) : Fun1 prog 26 [tSl rRule rules, tSl rFact facts] (tTup [tSl (rSl rInt) (vioM rules facts), tV (.int .i64 0)]) :=
  Spec.post (fun _ => ()) (fun _ => Sub.tup2 Sub.ofEE Sr) (fun _ => LSub.rfl) (Violations_spec rules facts H.fl H.ru H.hw (Nat.le_trans H.hwl (by omega)) (Nat.le_trans (minM_len _) H.hwl))
theorem FewO.step {rules : List GRule} {l : List GOp} (h : FewO rules l) (b : Nat) {i : Nat} (hi : i < l.length) : Spec (X := Unit) prog 13 [tAt b 0, rOp.ty (nth l i)] [vigO rules b (presM (l.take i)) (workM rules (l.take i))] (fun _ => tV (.int .i64 (opE (presM (l.take i)) (nth l i)))) (fun _ => [vigO rules b (presM (l.take (i + 1))) (workM rules (l.take (i + 1)))]) := by
  rw [presM_succ hi, workM_succ rules hi]
  have hw := workM_bd rules (l := l.take i) (take_len12 h.ll)
  exact do_spec h.rf (presM_ok _) b (nth l i) (pres12 h.ll) (h.row _ (nth_mem hi)) (by omega)
theorem vioN_len {rules : List GRule} {ps : PS} (hr : RFew rules) (hl : ps.length ≤ 12) : (vioN rules ps).length ≤ 20000 := by
  rw [vioN, List.length_map]; exact vio_len (hr.hyp (by rw [gsP_len]; exact hl))
theorem vioN_el {rules : List GRule} {ps : PS} (hr : RFew rules) (hl : ps.length ≤ 12) : ∀ x ∈ vioN rules ps, x.length ≤ 3 := fun x hx => by
  obtain ⟨s, hs, rfl⟩ := List.mem_map.1 hx
  rw [List.length_map]; exact (vio_w (hr.hyp (by rw [gsP_len]; exact hl)) hs).2.2.1
theorem SetsN_spec {a b : List (List Int)} (ha : a.length ≤ 20000 ∧ ∀ x ∈ a, x.length ≤ 3) (hb : b.length ≤ 20000 ∧ ∀ x ∈ b, x.length ≤ 3) : Fun1 prog 17 [tSl (rSl rInt) a, tSl (rSl rInt) b] (tV (.bool (setsB a b))) :=
  Sets_spec a b (by omega) (by omega) (fun x hx => by have := ha.2 x hx; omega) (fun x hx => by have := hb.2 x hx; omega)
theorem vioN_ok {rules : List GRule} {ps : PS} (hr : RFew rules) (hl : ps.length ≤ 12) : (vioN rules ps).length ≤ 20000 ∧ ∀ x ∈ vioN rules ps, x.length ≤ 3 := ⟨vioN_len hr hl, vioN_el hr hl⟩
set_option maxHeartbeats 4000000 in
theorem lawScratch_spec (rules : List GRule) (l : List GOp) (hl : l.length * 96 ≤ 140737488351232) : Fun1 prog 8 [tSl rRule rules, tSl rOp l] (tV (.bool true)) := by
 refine Spec.enter func8 rfl rfl fun h0 w0 fr0 => ?_
 refine Jr (Ja rfl (JL_nil (Jr (Js rfl (step_call0 (head_spec) trivial call9) (Ja rfl ?_)))))
 refine JL_nil (J_seq (Jr (Jm rfl (Jm rfl (Js rfl (step_call0 (few_spec _ _ zG) ⟨Sr, Sr, trivial⟩ call10) ?_)))))
 refine Js rfl (step_not Sr) (JL_nil ?_)
 refine J_cond Sr (fun h20 => ?_) (fun h20 => ?_)
 ·
  try simp only [NF] at h20
  refine Jr (Jm rfl (Ja rfl (JL_nil (J_ret ?_))))
  refine K_retv (rv := .tmp 4) rfl () (.tmp Sr) Sr
 try simp only [NF] at h20
 have hF := FewO.of (by simpa using h20)
 have hR := hF.rf
 have h12 := pres12 (i := l.length) hF.ll
 rw [List.take_length] at h12
 have hok := presM_ok l
 have hV := hR.hyp (facts := gsP (presM l)) (by rw [gsP_len]; exact h12)
 refine J_skip (Jr (Jm rfl ?_))
 refine Jx rfl (step_call (Sel.none _) (NewV_spec hR) ⟨Sr, trivial⟩ call11) fun b1 => ?_
 refine Ja rfl (JL_nil (J_seq (Jr (Ja rfl (JL_nil ?_)))))
 refine J_block ?_
 refine J_loopL (σ := Nat) (fun i => i ≤ l.length) (fun i => upd (upd (upd (upd (upd (upd env0 0 (tSl rRule rules)) 1 (tSl rOp l)) 4 (tV (.bool false))) 5 (tV (.bool true))) 6 (tAt b1 0)) 7 (tV (.int .i64 (i : Int)))) (fun i => [vigO rules b1 (presM (l.take i)) (workM rules (l.take i))]) (fun i => l.length - i) 0 (by exact Nat.zero_le _) (zU) (LSub.rfl) ?_
 rintro i hi
 refine J_seq (Jr (Jm rfl (Jm rfl (Js rfl (step_len_sl underlying23 Sr) (Js rfl (step_lss Sr Sr) ?_)))))
 refine JL_nil ?_
 refine J_cond Sr (fun h27 => ?_) (fun h27 => ?_)
 ·
  try simp only [NF] at h27
  have hlt : i < l.length := by omega
  refine J_skip (J_seq (J_block (J_region (Jm rfl (Jm rfl ?_)))))
  refine Jm rfl ?_
  refine Js rfl (step_indexAddr_sl  underlying23 ty37 Sr Sr rfl (gb (by exact hlt))) ?_
  refine Jl rfl ty37 Sr ?_
  refine Jx rfl (step_call zS (hF.step b1 hlt) ⟨Sr, Sr, trivial⟩ call13) fun v35 => ?_
  refine JL_nil (J_region (Jm rfl (Js rfl (step_add Sr Sr z6) (Ja rfl (JL_nil ?_)))))
  refine K_againL (σ := Nat) (s := i) (i + 1) zO (by show i + 1 ≤ _; omega) (zU) (LSub.rfl)
 try simp only [NF] at h27
 obtain rfl : i = l.length := by omega
 rw [List.take_length]
 refine J_exit (Jr (Jm rfl ?_))
 refine Js rfl (step_call0 (present_spec _ (Nat.le_trans hF.ll (by decide))) ⟨Sr, trivial⟩ call20) ?_
 refine Jm rfl (Js rfl (step_extract Sr rfl) (Js rfl (step_extract Sr rfl) (Ja rfl (Ja rfl (JL_nil ?_)))))
 refine Jr (Jm rfl (Jm rfl (Js rfl (step_call0 (ViolP_spec hV) ⟨Sr, Sr, trivial⟩ call26) (Jm rfl (Js rfl (step_extract Sr rfl) ?_)))))
 refine Js rfl (step_extract Sr rfl) (Ja rfl (Ja rfl (JL_nil (J_seq (Jr ?_)))))
 refine Jm rfl (Js rfl (step_neq Sr Sr) (JL_nil ?_))
 refine J_cond Sr (fun h48 => ?_) (fun h48 => ?_)
 ·
  try simp only [NF] at h48
  exfalso; simp at h48
 try simp only [NF] at h48
 refine J_skip (Jr (Ja rfl (JL_nil (J_seq (Jr ?_)))))
 refine Ja rfl (JL_nil (J_block ?_))
 refine J_loopL (σ := Nat × Value) (fun ⟨j, u⟩ => j ≤ (vioM rules (gsP (presM l))).length) (fun ⟨j, u⟩ => upd (upd (upd (upd (upd (upd env0 5 (tV (.bool true))) 6 (tAt b1 0)) 8 (tSl rInt (nsP (presM l)))) 10 (tSl (rSl rInt) (vioM rules (gsP (presM l))))) 12 (rV.ty u)) 13 (tV (.int .i64 (j : Int)))) (fun ⟨j, u⟩ => [own 33 (rSl rInt) u (((vioM rules (gsP (presM l))).take j).map fun s => s.map (noP (presM l))), vigO rules b1 (presM l) (workM rules l)]) (fun ⟨j, u⟩ => (vioM rules (gsP (presM l))).length - j) (0, .slice none 0 0) (by exact Nat.zero_le _) (.u (SubE.upd (Sub.rV rfl) (zU))) (LSub.trans (LSub.nilown (e := 33) (R := rSl rInt)) zL) ?_
 rintro ⟨j, u⟩ hj
 try dsimp only at hj
 refine J_seq (Jr (Jm rfl (Jm rfl (Js rfl (step_len_sl underlying45 Sr) (Js rfl (step_lss Sr Sr) ?_)))))
 refine JL_nil ?_
 refine J_cond Sr (fun h52 => ?_) (fun h52 => ?_)
 ·
  try simp only [NF] at h52
  have hjt : j < (vioM rules (gsP (presM l))).length := by omega
  have hjm := vio_w hV (nth_mem hjt)
  have hjr := vio_InR hok hV (nth_mem hjt)
  have hvl := vio_len hV
  refine J_skip (J_seq (J_block (Jr (Ja rfl (JL_nil ?_)))))
  refine J_seq (Jr (Ja rfl (JL_nil (J_block ?_))))
  refine J_loopL (σ := Nat × Value) (fun ⟨k, z⟩ => k ≤ (nth (vioM rules (gsP (presM l))) j).length) (fun ⟨k, z⟩ => upd (upd (upd (upd (upd (upd (upd (upd env0 5 (tV (.bool true))) 6 (tAt b1 0)) 8 (tSl rInt (nsP (presM l)))) 10 (tSl (rSl rInt) (vioM rules (gsP (presM l))))) 12 (rV.ty u)) 13 (tV (.int .i64 (j : Int)))) 14 (rV.ty z)) 15 (tV (.int .i64 (k : Int)))) (fun ⟨k, z⟩ => [own 3 rInt z (((nth (vioM rules (gsP (presM l))) j).take k).map (noP (presM l))), own 33 (rSl rInt) u (((vioM rules (gsP (presM l))).take j).map fun s => s.map (noP (presM l))), vigO rules b1 (presM l) (workM rules l)]) (fun ⟨k, z⟩ => (nth (vioM rules (gsP (presM l))) j).length - k) (0, .slice none 0 0) (by exact Nat.zero_le _) (.u (SubE.upd (Sub.rV rfl) (zU))) (LSub.trans (LSub.nilown (e := 3) (R := rInt)) zL) ?_
  rintro ⟨k, z⟩ hk
  try dsimp only at hk
  refine J_seq (Jr (Jm rfl (Jm rfl (Jm rfl ?_))))
  refine Js rfl (step_indexAddr_sl  underlying45 ty33 Sr Sr rfl (gb (by exact hjt))) ?_
  refine Jl rfl ty33 Sr (Js rfl (step_len_sl underlying33 Sr) (Js rfl (step_lss Sr Sr) (JL_nil ?_)))
  refine J_cond Sr (fun h61 => ?_) (fun h61 => ?_)
  ·
   try simp only [NF] at h61
   have hkt : k < (nth (vioM rules (gsP (presM l))) j).length := by omega
   have hkr := hjr _ (nth_mem hkt)
   refine J_skip (J_seq (J_block (J_seq (Jr (Jm rfl ?_)))))
   refine Jm rfl ?_
   refine Js rfl (step_indexAddr_sl  underlying45 ty33 Sr Sr rfl (gb (by exact hjt))) ?_
   refine Jl rfl ty33 Sr (Jm rfl ?_)
   refine Js rfl (step_indexAddr_sl  underlying33 ty3 Sr Sr rfl (gb (by exact hkt))) ?_
   refine Jl rfl ty3 Sr (Js rfl (step_lss Sr Sr) (Jm rfl ?_))
   refine Jk rfl Sr rfl (step_move Sr) ?_
   refine Jk rfl Sr rfl (step_move Sr) ?_
   refine Jg rfl Sr rfl (fun hw => step_indexAddr_sl  underlying45 ty33 (Sub.w hw) (Sub.w hw) rfl (gb (by have hwq := hw; (try simp only [beqB_t, beqB_f, NF] at hwq); exact hjt))) ?_
   refine Jg rfl Sr rfl (fun hw => step_load_ptr ty33 (Sub.w hw)) ?_
   refine Jk rfl Sr rfl (step_move Sr) ?_
   refine Jg rfl Sr rfl (fun hw => step_indexAddr_sl  underlying33 ty3 (Sub.w hw) (Sub.w hw) rfl (gb (by have hwq := hw; (try simp only [beqB_t, beqB_f, NF] at hwq); exact hkt))) ?_
   refine Jg rfl Sr rfl (fun hw => step_load_ptr ty3 (Sub.w hw)) ?_
   refine Jk rfl Sr rfl (step_move Sr) ?_
   refine Jg rfl Sr rfl (fun hw => step_len_sl underlying33 (Sub.w hw)) (Jg rfl Sr rfl (fun hw => step_geq (Sub.w hw) (Sub.w hw)) (Js rfl (step_pick_or Sr Sr) (JL_nil ?_)))
   refine J_cond Sr (fun h83 => ?_) (fun h83 => ?_)
   ·
    try simp only [NF] at h83
    exfalso; simp [nsP_len] at h83; omega
   try simp only [NF] at h83
   refine J_skip (J_region (Jm rfl (Jm rfl (Jm rfl (Jm rfl ?_)))))
   refine Js rfl (step_indexAddr_sl  underlying45 ty33 Sr Sr rfl (gb (by exact hjt))) ?_
   refine Jl rfl ty33 Sr (Jm rfl ?_)
   refine Js rfl (step_indexAddr_sl  underlying33 ty3 Sr Sr rfl (gb (by exact hkt))) ?_
   refine Jl rfl ty3 Sr ?_
   refine Js rfl (step_indexAddr_sl (i := (nth (nth (vioM rules (gsP (presM l))) j) k).toNat) underlying33 ty3 Sr Sr (by show nth (nth (vioM rules (gsP (presM l))) j) k = _; omega) (gb (by show _ < (nsP (presM l)).length; rw [nsP_len]; omega))) ?_
   refine Jl rfl ty3 Sr ?_
   refine Js rfl (step_literal (ys := [_]) underlying33 el3 ⟨rfl, Sr, trivial⟩ rfl (by decide)) ?_
   refine Jx rfl (step_append underlying33 el3 Sr Sr zS (by simp; omega) (by simp; omega)) fun v96 => ?_
   refine Ja rfl (JL_nil (J_region (Jm rfl (Js rfl (step_add Sr Sr z6) (Ja rfl ?_)))))
   refine JL_nil ?_
   refine K_againL (σ := Nat × Value) (s := (k, z)) (k + 1, v96) zO (by show k + 1 ≤ _; omega) (zU) (LSub.cons (A := own 3 rInt v96 (((nth (vioM rules (gsP (presM l))) j).take k).map (noP (presM l)) ++ [nth (nsP (presM l)) (nth (nth (vioM rules (gsP (presM l))) j) k).toNat])) zS (own_eq (by rw [takeV hkt, List.map_append]; rfl)) zL)
  try simp only [NF] at h61
  obtain rfl : k = (nth (vioM rules (gsP (presM l))) j).length := by omega
  refine J_exit ?_
  refine K_freeze (S := [own 3 rInt z (((nth (vioM rules (gsP (presM l))) j).take (nth (vioM rules (gsP (presM l))) j).length).map (noP (presM l)))]) (t := 14) zS Frz.own ?_
  refine J_region (Jm rfl (Jm rfl ?_))
  refine Js rfl (step_literal (ys := [_]) underlying45 el33 ⟨rfl, Sr, trivial⟩ rfl (by decide)) ?_
  refine Jx rfl (step_append underlying45 el33 Sr Sr zS (by simp; omega) (by simp; omega)) fun v100 => ?_
  refine Ja rfl (JL_nil (J_region (Jm rfl (Js rfl (step_add Sr Sr z6) (Ja rfl ?_)))))
  refine JL_nil ?_
  refine K_againL (σ := Nat × Value) (s := (j, u)) (j + 1, v100) zO (by show j + 1 ≤ _; omega) (zU) (LSub.cons (A := own 33 (rSl rInt) v100 ((((vioM rules (gsP (presM l))).take j).map fun s => s.map (noP (presM l))) ++ [((nth (vioM rules (gsP (presM l))) j).take (nth (vioM rules (gsP (presM l))) j).length).map (noP (presM l))])) zS (own_eq (by rw [takeV hjt, List.map_append]; congr 1; simp [List.take_length])) zL)
 try simp only [NF] at h52
 obtain rfl : j = (vioM rules (gsP (presM l))).length := by omega
 refine J_exit (J_seq ?_)
 refine K_freeze (S := [own 33 (rSl rInt) u (((vioM rules (gsP (presM l))).take (vioM rules (gsP (presM l))).length).map fun s => s.map (noP (presM l)))]) (t := 12) zS Frz.own ?_
 refine J_region (Jm rfl (Jm rfl ?_))
 refine Jk rfl Sr rfl (step_move Sr) ?_
 refine JL_stepGX (tV (.bool false)) rfl rfl rfl (Gd.plain Sr) rfl rfl (fun hw => step_call zS (ListV_spec hR hok b1 h12) ⟨Sub.w hw, trivial⟩ call18) (fun hw v104 => ?_) (fun hw => (by exfalso; simp at hw))
 refine Jk rfl Sr rfl (step_move Sr) ?_
 refine Jg rfl Sr rfl (fun hw => step_call0 (SetsN_spec (vioN_ok hR h12) (vioN_ok hR h12)) ⟨Sub.trans (Sub.w hw) Sub.ofEE, Sub.trans (Sub.w hw) (Sub.sl (by rw [List.take_length]; rfl)), trivial⟩ call17) ?_
 refine Js rfl (step_pick_and Sr Sr) (Ja rfl (JL_nil (J_ret ?_)))
 refine K_drop (S := [vigO rules b1 (presM l) (workM rules l)]) zS ?_
 refine K_retv (rv := .tmp 4) rfl () (.tmp Sr) (Sub.bool (by simp [sS]))
open Go Go.Proofs Go.Proofs.Tryz
theorem ListW_spec {rules : List GRule} (hr : RFew rules) {ps : PS} (hp : POk ps) {w : Int} (b : Nat) (hl : ps.length ≤ 12) : Spec (X := Unit) prog 18 [tAt b 0] [vigO rules b ps w] (fun _ => tSl (rSl rInt) (vioN rules ps)) (fun _ => [vigO rules b ps w]) :=
  Spec.post (fun _ => ()) (fun _ => Sub.ofEE) (fun _ => LSub.rfl) (ListV_spec hr hp b hl)
/-! ### What an operation returns -/
def wn1 (ps : PS) (x : GOp) : Int := if x.Drop = true ∧ x.Number ∉ nsP ps then 11 else 0
def wn2 (ps : PS) (x : GOp) : Int := if x.Drop = false ∧ x.Number ∈ nsP ps then 9 else wn1 ps x
def wn3 (ps : PS) (x : GOp) : Int := if x.Drop = false ∧ (x.Number < 0 ∨ 999999 < x.Number) then 1 else wn2 ps x
theorem wn3_eq {ps : PS} (hp : POk ps) (x : GOp) : wn3 ps x = opE ps x := by
  unfold wn3 wn2 wn1 opE dropE putE
  cases hd : x.Drop with
  | true =>
    by_cases hn : x.Number ∈ nsP ps <;> simp [hn]
  | false =>
    by_cases hr : x.Number < 0 ∨ 999999 < x.Number
    · rw [if_pos ⟨rfl, hr⟩, if_neg (by simp), if_pos (by omega)]
    · rw [if_neg (by rintro ⟨_, q⟩; exact hr q), if_neg (show ¬ (false = true) by simp), if_neg (show ¬ (x.Number < 0 ∨ 1000000 ≤ x.Number) by omega)]
      by_cases hn : x.Number ∈ nsP ps <;> simp [hn]
theorem op_same {rules : List GRule} {ps : PS} {x : GOp} (h : opE ps x ≠ 0) : opP ps x = ps ∧ opW rules ps x = 0 := by
  unfold opE opP opW at *
  split at h
  · rename_i hd
    rw [if_pos hd, if_pos hd]
    refine ⟨remP_no fun q => h ?_, rfl⟩
    rw [dropE, if_pos q]
  · rename_i hd
    rw [if_neg hd, if_neg hd, putP, if_neg h, putW, if_neg h]; exact ⟨rfl, rfl⟩
theorem step_same {rules : List GRule} {l : List GOp} {i : Nat} (hi : i < l.length) (h : opE (presM (l.take i)) (nth l i) ≠ 0) : presM (l.take (i + 1)) = presM (l.take i) ∧ workM rules (l.take (i + 1)) = workM rules (l.take i) := by
  obtain ⟨a, b⟩ := op_same (rules := rules) h
  rw [presM_succ hi, workM_succ rules hi, a, b]; exact ⟨rfl, Int.add_zero _⟩
/-! ### Putting what is present from its end -/
theorem drop_step {ps : PS} (hp : POk ps) {k : Nat} (hk : k < ps.length) : putE (ps.drop (k + 1)) (nth (nsP ps) k) = 0 ∧ putP (ps.drop (k + 1)) (nth (nsP ps) k) (nth (gsP ps) k) = ps.drop k := by
  have e0 : ps.drop k = (nth (nsP ps) k, nth (gsP ps) k) :: ps.drop (k + 1) := by
    rw [List.drop_eq_getElem_cons hk, nth_get (by rw [nsP_len]; exact hk), nth_get (by rw [gsP_len]; exact hk)]
    simp only [nsP, gsP, List.getElem_map]
  have hlt : ∀ m ∈ nsP (ps.drop (k + 1)), nth (nsP ps) k < m := by
    have h1 : Srt (nsP (ps.drop k)) := by rw [ns_drop]; exact List.Pairwise.sublist (List.drop_sublist _ _) hp.srt
    rw [e0] at h1
    exact (List.pairwise_cons.1 h1).1
  have hn : nth (nsP ps) k ∉ nsP (ps.drop (k + 1)) := fun q => by have := hlt _ q; omega
  have hr := hp.rng _ (nth_mem (show k < (nsP ps).length by rw [nsP_len]; exact hk))
  have e1 : putE (ps.drop (k + 1)) (nth (nsP ps) k) = 0 := putE_0.2 ⟨hr.1, hr.2, hn⟩
  refine ⟨e1, ?_⟩
  rw [putP, if_pos e1, e0]
  match h : ps.drop (k + 1), hlt with
  | [], _ => rfl
  | (m, g) :: qs, hlt =>
    have := hlt m (by simp [nsP])
    rw [insP, if_pos this]
theorem drop_ok {ps : PS} (hp : POk ps) (k : Nat) : POk (ps.drop k) :=
  ⟨by rw [ns_drop]; exact List.Pairwise.sublist (List.drop_sublist _ _) hp.srt, fun n hn => hp.rng n (by rw [ns_drop] at hn; exact List.mem_of_mem_drop hn)⟩
theorem putW_bd (rules : List GRule) (ps : PS) (n : Int) (f : GFact) : 0 ≤ putW rules ps n f ∧ putW rules ps n f ≤ (ps.length : Int) := by
  have := metN_le rules ps f
  unfold putW; split <;> omega
theorem back_spec {rules : List GRule} (hr : RFew rules) {ps : PS} (hp : POk ps) {w : Int} (b k : Nat) (hk : k < ps.length) (hl : ps.length ≤ 12) (hrow : ∀ f ∈ gsP ps, f.Row.length ≤ 1000000) (hw : 0 ≤ w ∧ w ≤ 1000000) :
    Spec (X := Unit) prog 21 [tAt b 0, tV (.int .i64 (nth (nsP ps) k)), rFact.ty (nth (gsP ps) k)] [vigO rules b (ps.drop (k + 1)) w] (fun _ => tV (.int .i64 0)) (fun _ => [vigO rules b (ps.drop k) (w + putW rules (ps.drop (k + 1)) (nth (nsP ps) k) (nth (gsP ps) k))]) := by
  obtain ⟨a, c⟩ := drop_step hp hk
  exact Spec.cst (ti_eq a) (vg_eq c rfl) (PutV_spec hr (drop_ok hp _) b _ _ (by rw [List.length_drop]; omega) (hrow _ (nth_mem (by rw [gsP_len]; exact hk))) hw)
theorem mem_opP {ps : PS} {x : GOp} {p : Int × GFact} (h : p ∈ opP ps x) : p ∈ ps ∨ p = (x.Number, x.Fact) := by
  unfold opP at h
  split at h
  · exact .inl (mem_remP.1 h).1
  · unfold putP at h
    split at h
    · rcases mem_insP.1 h with h | h
      · exact .inr h
      · exact .inl h
    · exact .inl h
theorem mem_presM {p : Int × GFact} : ∀ {l : List GOp}, p ∈ presM l → ∃ x ∈ l, p = (x.Number, x.Fact) := by
  have key : ∀ (l : List GOp) (ps : PS), p ∈ l.foldl opP ps → p ∈ ps ∨ ∃ x ∈ l, p = (x.Number, x.Fact) := by
    intro l
    induction l with
    | nil => exact fun ps h => .inl h
    | cons x l ih =>
      intro ps h
      rcases ih _ h with h | ⟨y, hy, e⟩
      · rcases mem_opP h with h | h
        · exact .inl h
        · exact .inr ⟨x, by simp, h⟩
      · exact .inr ⟨y, by simp [hy], e⟩
  intro l h
  rcases key l [] h with h | h
  · cases h
  · exact h
theorem FewO.rows {rules : List GRule} {l : List GOp} (h : FewO rules l) : ∀ f ∈ gsP (presM l), f.Row.length ≤ 1000000 := fun f hf => by
  obtain ⟨p, hp, rfl⟩ := List.mem_map.1 hf
  obtain ⟨x, hx, rfl⟩ := mem_presM hp
  exact h.row x hx
set_option maxHeartbeats 4000000 in
theorem lawRefuses_spec (rules : List GRule) (l : List GOp) (hl : l.length * 96 ≤ 140737488351232) : Fun1 prog 7 [tSl rRule rules, tSl rOp l] (tV (.bool true)) := by
 refine Spec.enter func7 rfl rfl fun h0 w0 fr0 => ?_
 refine Jr (Ja rfl (JL_nil (Jr (Js rfl (step_call0 (head_spec) trivial call9) (Ja rfl ?_)))))
 refine JL_nil (J_seq (Jr (Jm rfl (Jm rfl (Js rfl (step_call0 (few_spec _ _ zG) ⟨Sr, Sr, trivial⟩ call10) ?_)))))
 refine Js rfl (step_not Sr) (JL_nil ?_)
 refine J_cond Sr (fun h18 => ?_) (fun h18 => ?_)
 ·
  try simp only [NF] at h18
  refine Jr (Jm rfl (Ja rfl (JL_nil (J_ret ?_))))
  refine K_retv (rv := .tmp 4) rfl () (.tmp Sr) Sr
 try simp only [NF] at h18
 have hF := FewO.of (by simpa using h18)
 have hR := hF.rf
 refine J_skip (Jr (Jm rfl ?_))
 refine Jx rfl (step_call (Sel.none _) (NewV_spec hR) ⟨Sr, trivial⟩ call11) fun b1 => ?_
 refine Ja rfl (JL_nil (J_seq (Jr (Ja rfl (JL_nil ?_)))))
 refine J_block ?_
 refine J_loopL (σ := Nat) (fun i => i ≤ l.length) (fun i => upd (upd (upd (upd env0 1 (tSl rOp l)) 5 (tV (.bool true))) 6 (tAt b1 0)) 7 (tV (.int .i64 (i : Int)))) (fun i => [vigO rules b1 (presM (l.take i)) (workM rules (l.take i))]) (fun i => l.length - i) 0 (by exact Nat.zero_le _) (zU) (LSub.rfl) ?_
 rintro i hi
 refine J_seq (Jr (Jm rfl (Jm rfl (Js rfl (step_len_sl underlying23 Sr) (Js rfl (step_lss Sr Sr) ?_)))))
 refine JL_nil ?_
 refine J_cond Sr (fun h25 => ?_) (fun h25 => ?_)
 ·
  try simp only [NF] at h25
  have hlt : i < l.length := by omega
  have hok := presM_ok (l.take i)
  have hok2 := presM_ok (l.take (i + 1))
  have h12 := pres12 (i := i) hF.ll
  have h122 := pres12 (i := i + 1) hF.ll
  have hsm := step_same (rules := rules) hlt
  refine J_skip (J_seq (J_block (Jr (Jm rfl (Jm rfl ?_)))))
  refine Js rfl (step_slice_toI (n := i) underlying23 ty37 Sr Sr zG (by show i ≤ l.length; omega)) ?_
  refine Js rfl (step_call0 (present_spec (l.take i) (by rw [List.length_take]; have := hF.ll; omega)) ⟨Sr, trivial⟩ call20) ?_
  refine Jm rfl (Js rfl (step_extract Sr rfl) (Js rfl (step_extract Sr rfl) (Ja rfl (Ja rfl (JL_nil ?_)))))
  refine Jr (Jm rfl (Jm rfl (Jm rfl ?_)))
  refine Js rfl (step_indexAddr_sl  underlying23 ty37 Sr Sr rfl (gb (by exact hlt))) ?_
  refine Js rfl (step_fieldAddr so37 Sr rfl) (Jl rfl ty3 Sr ?_)
  refine Js rfl (step_call0 (In_spec _ _ (by rw [nsP_len]; omega)) ⟨Sr, Sr, trivial⟩ call24) ?_
  refine Ja rfl (JL_nil (Jr (Ja rfl (JL_nil (J_seq ?_)))))
  refine Jr (Jm rfl (Jm rfl ?_))
  refine Js rfl (step_indexAddr_sl  underlying23 ty37 Sr Sr rfl (gb (by exact hlt))) ?_
  refine Js rfl (step_fieldAddr so37 Sr rfl) (Jl rfl ty4 Sr (Jm rfl ?_))
  refine Jk rfl Sr rfl (step_move Sr) ?_
  refine Jg rfl Sr rfl (fun hw => step_not (Sub.w hw)) (Js rfl (step_pick_and Sr Sr) (JL_nil ?_))
  refine J_cut (X := Unit) (fun _ => upd (upd (upd (upd (upd (upd (upd (upd (upd (upd (upd (upd (upd (upd (upd (upd (upd (upd (upd (upd (upd env0 1 (tSl rOp l)) 5 (tV (.bool true))) 6 (tAt b1 0)) 7 (tV (.int .i64 (i : Int)))) 8 (tSl rInt (nsP (presM (l.take i))))) 9 (tSl rFact (gsP (presM (l.take i))))) 10 (tV (.bool ((nsP (presM (l.take i))).contains ((nth l i).Number))))) 11 (tV (.int .i64 (wn1 (presM (l.take i)) (nth l i))))) 22 (tV (.int .i64 (i : Int)))) 23 (tSl rOp l)) 28 (tTup [tSl rInt (nsP (presM (l.take i))), tSl rFact (gsP (presM (l.take i)))])) 29 (tSl rOp l)) 30 (tV (.int .i64 (i : Int)))) 33 (tSl rInt (nsP (presM (l.take i))))) 34 (tSl rFact (gsP (presM (l.take i))))) 35 (tSl rInt (nsP (presM (l.take i))))) 36 (tSl rOp l)) 37 (tV (.int .i64 (i : Int)))) 41 (tV (.bool ((nsP (presM (l.take i))).contains ((nth l i).Number))))) 42 (tSl rOp l)) 43 (tV (.int .i64 (i : Int)))) (fun _ => [vigO rules b1 (presM (l.take i)) (workM rules (l.take i))]) ?_ ?_
  ·
   skip
   refine J_cond Sr (fun h50 => ?_) (fun h50 => ?_)
   ·
    try simp only [NF] at h50
    refine J_region (Ja rfl (JL_nil ?_))
    refine K_cut (E := fun _ => env0) () (.u (.u (.u (.u (.u (.u (.u (.u (.u (.u (.u (.u (.u (SubE.upd (Sub.int (by rw [wn1, if_pos (by simpa using h50)])) (zU))))))))))))))) (LSub.rfl)
   try simp only [NF] at h50
   refine J_skip ?_
   refine K_cut (E := fun _ => env0) () (.u (.u (.u (.u (.u (.u (.u (.u (.u (.u (.u (.u (.u (SubE.upd (Sub.int (by rw [wn1, if_neg (by rintro ⟨q1, q2⟩; simp_all; try omega)])) (zU))))))))))))))) (LSub.rfl)
  rintro _
  refine J_seq (Jr (Jm rfl (Jm rfl ?_)))
  refine Js rfl (step_indexAddr_sl  underlying23 ty37 Sr Sr rfl (gb (by exact hlt))) ?_
  refine Js rfl (step_fieldAddr so37 Sr rfl) (Jl rfl ty4 Sr (Js rfl (step_not Sr) (Jm rfl ?_)))
  refine Jk rfl Sr rfl (step_move Sr) ?_
  refine Js rfl (step_pick_and Sr Sr) (JL_nil ?_)
  refine J_cut (X := Unit) (fun _ => upd (upd (upd (upd (upd (upd (upd (upd (upd (upd (upd (upd (upd (upd (upd (upd (upd (upd (upd (upd (upd (upd (upd env0 1 (tSl rOp l)) 5 (tV (.bool true))) 6 (tAt b1 0)) 7 (tV (.int .i64 (i : Int)))) 8 (tSl rInt (nsP (presM (l.take i))))) 9 (tSl rFact (gsP (presM (l.take i))))) 10 (tV (.bool ((nsP (presM (l.take i))).contains ((nth l i).Number))))) 11 (tV (.int .i64 (wn2 (presM (l.take i)) (nth l i))))) 22 (tV (.int .i64 (i : Int)))) 23 (tSl rOp l)) 28 (tTup [tSl rInt (nsP (presM (l.take i))), tSl rFact (gsP (presM (l.take i)))])) 29 (tSl rOp l)) 30 (tV (.int .i64 (i : Int)))) 33 (tSl rInt (nsP (presM (l.take i))))) 34 (tSl rFact (gsP (presM (l.take i))))) 35 (tSl rInt (nsP (presM (l.take i))))) 36 (tSl rOp l)) 37 (tV (.int .i64 (i : Int)))) 41 (tV (.bool ((nsP (presM (l.take i))).contains ((nth l i).Number))))) 42 (tSl rOp l)) 43 (tV (.int .i64 (i : Int)))) 51 (tSl rOp l)) 52 (tV (.int .i64 (i : Int)))) (fun _ => [vigO rules b1 (presM (l.take i)) (workM rules (l.take i))]) ?_ ?_
  ·
   skip
   refine J_cond Sr (fun h59 => ?_) (fun h59 => ?_)
   ·
    try simp only [NF] at h59
    refine J_region (Ja rfl (JL_nil ?_))
    refine K_cut (E := fun _ => env0) () (.u (.u (.u (.u (.u (.u (.u (.u (.u (.u (.u (.u (.u (.u (.u (SubE.upd (Sub.int (by rw [wn2, if_pos (by simpa using h59)])) (zU))))))))))))))))) (LSub.rfl)
   try simp only [NF] at h59
   refine J_skip ?_
   refine K_cut (E := fun _ => env0) () (.u (.u (.u (.u (.u (.u (.u (.u (.u (.u (.u (.u (.u (.u (.u (SubE.upd (Sub.int (by rw [wn2, if_neg (by rintro ⟨q1, q2⟩; simp_all; try omega)])) (zU))))))))))))))))) (LSub.rfl)
  rintro _
  refine J_seq (Jr (Jm rfl (Jm rfl ?_)))
  refine Js rfl (step_indexAddr_sl  underlying23 ty37 Sr Sr rfl (gb (by exact hlt))) ?_
  refine Js rfl (step_fieldAddr so37 Sr rfl) (Jl rfl ty4 Sr (Js rfl (step_not Sr) (Jm rfl ?_)))
  refine Jk rfl Sr rfl (step_move Sr) ?_
  refine Jk rfl Sr rfl (step_move Sr) ?_
  refine Jg rfl Sr rfl (fun hw => step_indexAddr_sl  underlying23 ty37 (Sub.w hw) (Sub.w hw) rfl (gb (by have hwq := hw; (try simp only [beqB_t, beqB_f, NF] at hwq); exact hlt))) ?_
  refine Jg rfl Sr rfl (fun hw => step_fieldAddr so37 (Sub.w hw) rfl) (Jg rfl Sr rfl (fun hw => step_load_ptr ty3 (Sub.w hw)) (Jg rfl Sr rfl (fun hw => step_lss (Sub.w hw) Sr) (Jg rfl Sr rfl (fun hw => step_move (Sub.w hw)) ?_)))
  refine Ji rfl Sr rfl (step_move Sr) ?_
  refine Ji rfl Sr rfl (step_move Sr) ?_
  refine Jh rfl Sr rfl (fun hw => step_indexAddr_sl  underlying23 ty37 (Sub.w hw) (Sub.w hw) rfl (gb (by have hwq := hw; (try simp only [beqB_t, beqB_f, NF] at hwq); exact hlt))) ?_
  refine Jh rfl Sr rfl (fun hw => step_fieldAddr so37 (Sub.w hw) rfl) (Jh rfl Sr rfl (fun hw => step_load_ptr ty3 (Sub.w hw)) (Jh rfl Sr rfl (fun hw => step_gtr (Sub.w hw) Sr) (Jg rfl Sr rfl (fun hw => step_pick_or (Sub.w hw) (Sub.ww hw)) (Js rfl (step_pick_and Sr Sr) (JL_nil ?_)))))
  refine J_cut (X := Unit) (fun _ => upd (upd (upd (upd (upd (upd (upd (upd (upd (upd (upd (upd (upd (upd (upd (upd (upd (upd (upd (upd (upd (upd (upd (upd (upd env0 1 (tSl rOp l)) 5 (tV (.bool true))) 6 (tAt b1 0)) 7 (tV (.int .i64 (i : Int)))) 8 (tSl rInt (nsP (presM (l.take i))))) 9 (tSl rFact (gsP (presM (l.take i))))) 10 (tV (.bool ((nsP (presM (l.take i))).contains ((nth l i).Number))))) 11 (tV (.int .i64 (wn3 (presM (l.take i)) (nth l i))))) 22 (tV (.int .i64 (i : Int)))) 23 (tSl rOp l)) 28 (tTup [tSl rInt (nsP (presM (l.take i))), tSl rFact (gsP (presM (l.take i)))])) 29 (tSl rOp l)) 30 (tV (.int .i64 (i : Int)))) 33 (tSl rInt (nsP (presM (l.take i))))) 34 (tSl rFact (gsP (presM (l.take i))))) 35 (tSl rInt (nsP (presM (l.take i))))) 36 (tSl rOp l)) 37 (tV (.int .i64 (i : Int)))) 41 (tV (.bool ((nsP (presM (l.take i))).contains ((nth l i).Number))))) 42 (tSl rOp l)) 43 (tV (.int .i64 (i : Int)))) 51 (tSl rOp l)) 52 (tV (.int .i64 (i : Int)))) 60 (tSl rOp l)) 61 (tV (.int .i64 (i : Int)))) (fun _ => [vigO rules b1 (presM (l.take i)) (workM rules (l.take i))]) ?_ ?_
  ·
   skip
   refine J_cond Sr (fun h81 => ?_) (fun h81 => ?_)
   ·
    try simp only [NF] at h81
    refine J_region (Ja rfl (JL_nil ?_))
    refine K_cut (E := fun _ => env0) () (.u (.u (.u (.u (.u (.u (.u (.u (.u (.u (.u (.u (.u (.u (.u (.u (.u (SubE.upd (Sub.int (by rw [wn3, if_pos (by simpa using h81)])) (zU))))))))))))))))))) (LSub.rfl)
   try simp only [NF] at h81
   refine J_skip ?_
   refine K_cut (E := fun _ => env0) () (.u (.u (.u (.u (.u (.u (.u (.u (.u (.u (.u (.u (.u (.u (.u (.u (.u (SubE.upd (Sub.int (by rw [wn3, if_neg (by rintro ⟨q1, q2⟩; simp_all; try omega)])) (zU))))))))))))))))))) (LSub.rfl)
  rintro _
  refine Jr (Jm rfl ?_)
  refine Jx rfl (step_call zS (ListW_spec hR hok b1 h12) ⟨Sr, trivial⟩ call18) fun v83 => ?_
  refine Ja rfl (JL_nil (Jr (Jm rfl ?_)))
  refine Jx rfl (step_call zS (WorkV_spec b1) ⟨Sr, trivial⟩ call16) fun v85 => ?_
  refine Ja rfl (JL_nil (J_seq (Jr (Jm rfl (Jm rfl ?_)))))
  refine Jm rfl ?_
  refine Js rfl (step_indexAddr_sl  underlying23 ty37 Sr Sr rfl (gb (by exact hlt))) ?_
  refine Jl rfl ty37 Sr ?_
  refine Jx rfl (step_call zS (hF.step b1 hlt) ⟨Sr, Sr, trivial⟩ call13) fun v91 => ?_
  refine Jm rfl (Js rfl (step_neq Sr Sr) (JL_nil ?_))
  refine J_cond Sr (fun h93 => ?_) (fun h93 => ?_)
  ·
   try simp only [NF] at h93
   exfalso; rw [wn3_eq hok] at h93; simp at h93
  try simp only [NF] at h93
  refine J_skip (Jr (Jm rfl (Js rfl (step_neq Sr Sr) (Jm rfl ?_))))
  refine Jk rfl Sr rfl (step_move Sr) ?_
  refine JL_stepGX (tV (.int .i64 0)) rfl rfl rfl (Gd.plain Sr) rfl rfl (fun hw => step_call zS (WorkV_spec b1) ⟨Sub.w hw, trivial⟩ call16) (fun hw v98 => ?_) (fun hw => ?_)
  ·
   skip
   refine Jk rfl Sr rfl (step_move Sr) ?_
   refine Jg rfl Sr rfl (fun hw => step_neq (Sub.w hw) (Sub.w hw)) (Jg rfl Sr rfl (fun hw => step_move (Sub.w hw)) ?_)
   refine Ji rfl Sr rfl (step_move Sr) ?_
   refine JL_stepGX (tSl (rSl rInt) (vioN rules (presM (l.take (i + 1))))) rfl rfl rfl (Gd.nest Sr) rfl rfl (fun hw => step_call zS (ListW_spec hR hok2 b1 h122) ⟨Sub.w hw, trivial⟩ call18) (fun hw v103 => ?_) (fun hw => ?_)
   ·
    skip
    refine Ji rfl Sr rfl (step_move Sr) ?_
    refine Jh rfl Sr rfl (fun hw => step_call0 (SetsN_spec (vioN_ok hR h122) (vioN_ok hR h12)) ⟨Sub.w hw, Sub.w hw, trivial⟩ call17) (Jh rfl Sr rfl (fun hw => step_not (Sub.w hw)) (Jg rfl Sr rfl (fun hw => step_pick_or (Sub.w hw) (Sub.ww hw)) (Js rfl (step_pick_and Sr Sr) (JL_nil ?_))))
    refine J_cond Sr (fun h108 => ?_) (fun h108 => ?_)
    ·
     try simp only [NF] at h108
     exfalso; simp only [wn3_eq hok] at *; by_cases hz : opE (presM (l.take i)) (nth l i) = 0 <;> first | (simp_all [sS]; done) | (obtain ⟨e1, e2⟩ := hsm hz; simp_all [sS]; done)
    try simp only [NF] at h108
    refine J_skip (J_region (Jm rfl (Js rfl (step_add Sr Sr z6) (Ja rfl (JL_nil ?_)))))
    refine K_againL (σ := Nat) (s := i) (i + 1) zO (by show i + 1 ≤ _; omega) (zU) (LSub.rfl)
   skip
   refine Ji rfl Sr rfl (step_move Sr) ?_
   refine Jh rfl Sr rfl (fun hw => step_call0 (SetsN_spec (vioN_ok hR h122) (vioN_ok hR h12)) ⟨Sub.w hw, Sub.w hw, trivial⟩ call17) (Jh rfl Sr rfl (fun hw => step_not (Sub.w hw)) (Jg rfl Sr rfl (fun hw => step_pick_or (Sub.w hw) (Sub.ww hw)) (Js rfl (step_pick_and Sr Sr) (JL_nil ?_))))
   refine J_cond Sr (fun h108 => ?_) (fun h108 => ?_)
   ·
    try simp only [NF] at h108
    exfalso; simp only [wn3_eq hok] at *; by_cases hz : opE (presM (l.take i)) (nth l i) = 0 <;> first | (simp_all [sS]; done) | (obtain ⟨e1, e2⟩ := hsm hz; simp_all [sS]; done)
   try simp only [NF] at h108
   refine J_skip (J_region (Jm rfl (Js rfl (step_add Sr Sr z6) (Ja rfl (JL_nil ?_)))))
   refine K_againL (σ := Nat) (s := i) (i + 1) zO (by show i + 1 ≤ _; omega) (zU) (LSub.rfl)
  skip
  refine Jk rfl Sr rfl (step_move Sr) ?_
  refine Jg rfl Sr rfl (fun hw => step_neq (Sub.w hw) (Sub.w hw)) (Jg rfl Sr rfl (fun hw => step_move (Sub.w hw)) ?_)
  refine Ji rfl Sr rfl (step_move Sr) ?_
  refine JL_stepGX (tSl (rSl rInt) (vioN rules (presM (l.take (i + 1))))) rfl rfl rfl (Gd.nest Sr) rfl rfl (fun hw => step_call zS (ListW_spec hR hok2 b1 h122) ⟨Sub.w hw, trivial⟩ call18) (fun hw v103 => ?_) (fun hw => ?_)
  ·
   skip
   refine Ji rfl Sr rfl (step_move Sr) ?_
   refine Jh rfl Sr rfl (fun hw => step_call0 (SetsN_spec (vioN_ok hR h122) (vioN_ok hR h12)) ⟨Sub.w hw, Sub.w hw, trivial⟩ call17) (Jh rfl Sr rfl (fun hw => step_not (Sub.w hw)) (Jg rfl Sr rfl (fun hw => step_pick_or (Sub.w hw) (Sub.ww hw)) (Js rfl (step_pick_and Sr Sr) (JL_nil ?_))))
   refine J_cond Sr (fun h108 => ?_) (fun h108 => ?_)
   ·
    try simp only [NF] at h108
    exfalso; simp only [wn3_eq hok] at *; by_cases hz : opE (presM (l.take i)) (nth l i) = 0 <;> first | (simp_all [sS]; done) | (obtain ⟨e1, e2⟩ := hsm hz; simp_all [sS]; done)
   try simp only [NF] at h108
   refine J_skip (J_region (Jm rfl (Js rfl (step_add Sr Sr z6) (Ja rfl (JL_nil ?_)))))
   refine K_againL (σ := Nat) (s := i) (i + 1) zO (by show i + 1 ≤ _; omega) (zU) (LSub.rfl)
  skip
  refine Ji rfl Sr rfl (step_move Sr) ?_
  refine Jh rfl Sr rfl (fun hw => step_call0 (SetsN_spec (vioN_ok hR h122) (vioN_ok hR h12)) ⟨Sub.w hw, Sub.w hw, trivial⟩ call17) (Jh rfl Sr rfl (fun hw => step_not (Sub.w hw)) (Jg rfl Sr rfl (fun hw => step_pick_or (Sub.w hw) (Sub.ww hw)) (Js rfl (step_pick_and Sr Sr) (JL_nil ?_))))
  refine J_cond Sr (fun h108 => ?_) (fun h108 => ?_)
  ·
   try simp only [NF] at h108
   exfalso; simp only [wn3_eq hok] at *; by_cases hz : opE (presM (l.take i)) (nth l i) = 0 <;> first | (simp_all [sS]; done) | (obtain ⟨e1, e2⟩ := hsm hz; simp_all [sS]; done)
  try simp only [NF] at h108
  refine J_skip (J_region (Jm rfl (Js rfl (step_add Sr Sr z6) (Ja rfl (JL_nil ?_)))))
  refine K_againL (σ := Nat) (s := i) (i + 1) zO (by show i + 1 ≤ _; omega) (zU) (LSub.rfl)
 try simp only [NF] at h25
 obtain rfl : i = l.length := by omega
 refine J_exit (Jr (Jm rfl (Ja rfl (JL_nil (J_ret ?_)))))
 refine K_drop (S := [vigO rules b1 (presM (l.take l.length)) (workM rules (l.take l.length))]) zS ?_
 refine K_retv (rv := .tmp 4) rfl () (.tmp Sr) Sr
set_option maxHeartbeats 4000000 in
theorem lawOrder_spec (rules : List GRule) (l : List GOp) (hl : l.length * 96 ≤ 140737488351232) : Fun1 prog 4 [tSl rRule rules, tSl rOp l] (tV (.bool true)) := by
 refine Spec.enter func4 rfl rfl fun h0 w0 fr0 => ?_
 refine Jr (Ja rfl (JL_nil (Jr (Js rfl (step_call0 (head_spec) trivial call9) (Ja rfl ?_)))))
 refine JL_nil (J_seq (Jr (Jm rfl (Jm rfl (Js rfl (step_call0 (few_spec _ _ zG) ⟨Sr, Sr, trivial⟩ call10) ?_)))))
 refine Js rfl (step_not Sr) (JL_nil ?_)
 refine J_cond Sr (fun h16 => ?_) (fun h16 => ?_)
 ·
  try simp only [NF] at h16
  refine Jr (Jm rfl (Ja rfl (JL_nil (J_ret ?_))))
  refine K_retv (rv := .tmp 4) rfl () (.tmp Sr) Sr
 try simp only [NF] at h16
 have hF := FewO.of (by simpa using h16)
 have hR := hF.rf
 have h12 := pres12 (i := l.length) hF.ll
 rw [List.take_length] at h12
 have hok := presM_ok l
 have hnl := nsP_len (presM l)
 have hgl := gsP_len (presM l)
 refine J_skip (Jr (Jm rfl ?_))
 refine Jx rfl (step_call (Sel.none _) (NewV_spec hR) ⟨Sr, trivial⟩ call11) fun b1 => ?_
 refine Ja rfl (JL_nil (J_seq (Jr (Ja rfl (JL_nil ?_)))))
 refine J_block ?_
 refine J_loopL (σ := Nat) (fun i => i ≤ l.length) (fun i => upd (upd (upd (upd (upd (upd env0 0 (tSl rRule rules)) 1 (tSl rOp l)) 4 (tV (.bool false))) 5 (tV (.bool true))) 6 (tAt b1 0)) 7 (tV (.int .i64 (i : Int)))) (fun i => [vigO rules b1 (presM (l.take i)) (workM rules (l.take i))]) (fun i => l.length - i) 0 (by exact Nat.zero_le _) (zU) (LSub.rfl) ?_
 rintro i hi
 refine J_seq (Jr (Jm rfl (Jm rfl (Js rfl (step_len_sl underlying23 Sr) (Js rfl (step_lss Sr Sr) ?_)))))
 refine JL_nil ?_
 refine J_cond Sr (fun h23 => ?_) (fun h23 => ?_)
 ·
  try simp only [NF] at h23
  have hlt : i < l.length := by omega
  refine J_skip (J_seq (J_block (J_region (Jm rfl (Jm rfl ?_)))))
  refine Jm rfl ?_
  refine Js rfl (step_indexAddr_sl  underlying23 ty37 Sr Sr rfl (gb (by exact hlt))) ?_
  refine Jl rfl ty37 Sr ?_
  refine Jx rfl (step_call zS (hF.step b1 hlt) ⟨Sr, Sr, trivial⟩ call13) fun v31 => ?_
  refine JL_nil (J_region (Jm rfl (Js rfl (step_add Sr Sr z6) (Ja rfl (JL_nil ?_)))))
  refine K_againL (σ := Nat) (s := i) (i + 1) zO (by show i + 1 ≤ _; omega) (zU) (LSub.rfl)
 try simp only [NF] at h23
 obtain rfl : i = l.length := by omega
 rw [List.take_length]
 refine J_exit (Jr (Jm rfl ?_))
 refine Js rfl (step_call0 (present_spec _ (by have := hF.ll; omega)) ⟨Sr, trivial⟩ call20) ?_
 refine Jm rfl (Js rfl (step_extract Sr rfl) (Js rfl (step_extract Sr rfl) (Ja rfl (Ja rfl (JL_nil ?_)))))
 refine Jr (Jm rfl ?_)
 refine Jx rfl (step_call (Sel.none _) (NewV_spec hR) ⟨Sr, trivial⟩ call11) fun b2 => ?_
 refine Ja rfl (JL_nil (J_seq (Jr (Jm rfl (Js rfl (step_len_sl underlying33 Sr) ?_)))))
 refine Js rfl (step_sub Sr Sr z6) (Ja rfl (JL_nil (J_block ?_)))
 refine J_loopL (σ := Nat × Int) (fun ⟨k, w⟩ => k ≤ (presM l).length ∧ 0 ≤ w ∧ w ≤ 12 * (12 - k : Int)) (fun ⟨k, w⟩ => upd (upd (upd (upd (upd (upd env0 5 (tV (.bool true))) 6 (tAt b1 0)) 8 (tSl rInt (nsP (presM l)))) 9 (tSl rFact (gsP (presM l)))) 10 (tAt b2 0)) 11 (tV (.int .i64 ((k : Int) - 1)))) (fun ⟨k, w⟩ => [vigO rules b2 ((presM l).drop k) w, vigO rules b1 (presM l) (workM rules l)]) (fun ⟨k, w⟩ => k) ((presM l).length, 0) ⟨Nat.le_refl _, by omega, by omega⟩ (SubE.upd (Sub.int (by rw [nsP_len])) (zU)) (LSub.cons (A := vigO rules b2 [] 0) zS (vigO_eq (by rw [List.drop_length]) rfl) zL) ?_
 rintro ⟨k, w⟩ ⟨hk, hw0, hw1⟩
 refine J_seq (Jr (Jm rfl (Js rfl (step_geq Sr Sr) (JL_nil ?_))))
 refine J_cond Sr (fun h43 => ?_) (fun h43 => ?_)
 ·
  try simp only [NF] at h43
  obtain ⟨q, rfl⟩ : ∃ q, k = q + 1 := ⟨k - 1, by omega⟩
  have hq : q < (presM l).length := by omega
  have hpb := putW_bd rules ((presM l).drop (q + 1)) (nth (nsP (presM l)) q) (nth (gsP (presM l)) q)
  have hdl := List.length_drop (i := q + 1) (l := (presM l))
  refine J_skip (J_seq (J_block (J_seq ?_)))
  refine J_draw [⟨0, [10], true⟩, ⟨1, [8], true⟩, ⟨2, [11], true⟩, ⟨3, [47, 48], true⟩, ⟨4, [49], true⟩, ⟨5, [9], true⟩, ⟨6, [11], true⟩, ⟨7, [51, 52], true⟩, ⟨8, [53], true⟩, ⟨9, [46, 50, 54], false⟩, ⟨10, [55], true⟩] rfl (by kernel_rfl) ?_
  refine Mv rfl rfl (Mv rfl rfl (Mv rfl rfl ?_))
  refine Mf rfl rfl (step_indexAddr_sl (i := q) underlying33 ty3 Sr Sr zG (gb (by show q < (nsP (presM l)).length; rw [nsP_len]; exact hq))) ?_
  refine Mf rfl rfl (step_load_ptr ty3 Sr) (Mv rfl rfl (Mv rfl rfl ?_))
  refine Mf rfl rfl (step_indexAddr_sl (i := q) underlying41 ty35 Sr Sr zG (gb (by show q < (gsP (presM l)).length; rw [gsP_len]; exact hq))) ?_
  refine Mf rfl rfl (step_load_ptr ty35 Sr) ?_
  refine JM_stepX rfl rfl rfl rfl (step_call zS (back_spec hR hok b2 q hq h12 hF.rows zG) ⟨Sr, Sr, Sr, trivial⟩ call21) fun v55 => ?_
  refine Mf rfl rfl (step_neq Sr Sr) (JM_nil ?_)
  refine J_cond Sr (fun h56 => ?_) (fun h56 => ?_)
  ·
   try simp only [NF] at h56
   exfalso; simp at h56
  try simp only [NF] at h56
  refine J_skip (J_region (Jm rfl (Js rfl (step_sub Sr Sr z6) (Ja rfl (JL_nil ?_)))))
  refine K_againL (σ := Nat × Int) (s := (q + 1, w)) (q, w + putW rules ((presM l).drop (q + 1)) (nth (nsP (presM l)) q) (nth (gsP (presM l)) q)) zO ⟨by omega, by omega, by push_cast at *; omega⟩ (SubE.upd (Sub.int (by push_cast; omega)) (zU)) (LSub.rfl)
 try simp only [NF] at h43
 obtain rfl : k = 0 := by omega
 refine J_exit (Jr (Jm rfl (Jm rfl ?_)))
 refine Jk rfl Sr rfl (step_move Sr) ?_
 refine JL_stepGX (tV (.bool false)) rfl rfl rfl (Gd.plain Sr) rfl rfl (fun hw => step_call zS (ListW_spec hR hok b1 h12) ⟨Sub.w hw, trivial⟩ call18) (fun hw v60 => ?_) (fun hw => (by exfalso; simp at hw))
 refine Jk rfl Sr rfl (step_move Sr) ?_
 refine JL_stepGX (tV (.bool false)) rfl rfl rfl (Gd.plain Sr) rfl rfl (fun hw => step_call zS (ListW_spec hR hok b2 h12) ⟨Sub.w hw, trivial⟩ call18) (fun hw v62 => ?_) (fun hw => (by exfalso; simp at hw))
 refine Jg rfl Sr rfl (fun hw => step_call0 (SetsN_spec (vioN_ok hR h12) (vioN_ok hR h12)) ⟨Sub.w hw, Sub.w hw, trivial⟩ call17) (Js rfl (step_pick_and Sr Sr) (Ja rfl (JL_nil (J_ret ?_))))
 refine K_drop (S := [vigO rules b2 (presM l) w]) zS ?_
 refine K_drop (S := [vigO rules b1 (presM l) (workM rules l)]) zS ?_
 refine K_retv (rv := .tmp 4) rfl () (.tmp Sr) (Sub.bool (by simp [sS]))
open Go Go.Proofs Go.Proofs.Tryz
theorem insP_rem {n : Int} {f : GFact} : ∀ {ps : PS}, POk ps → (n, f) ∈ ps → insP (remP ps n) n f = ps
  | [], _, h => by cases h
  | (m, g) :: ps, hp, h => by
    have hs := List.pairwise_cons.1 hp.srt
    have h' : POk ps := ⟨hs.2, fun k hk => hp.rng k (List.mem_cons_of_mem _ hk)⟩
    by_cases e : m = n
    · subst e
      have hn : m ∉ nsP ps := fun q => by have := hs.1 m q; simp at this
      have hg : f = g := by
        rcases List.mem_cons.1 h with h | h
        · exact (Prod.mk.inj h).2
        · exact absurd (List.mem_map.2 ⟨_, h, rfl⟩) hn
      subst hg
      have e1 : remP ((m, f) :: ps) m = ps := by
        show List.filter _ _ = _
        rw [List.filter_cons, if_neg (by simp)]; exact remP_no hn
      rw [e1]
      match ps, hs with
      | [], _ => rfl
      | (k, x) :: qs, hs =>
        have := hs.1 k (by simp)
        rw [insP, if_pos this]
    · have hm : (n, f) ∈ ps := by
        rcases List.mem_cons.1 h with h | h
        · exact absurd (Prod.mk.inj h).1.symm e
        · exact h
      have hlt := hs.1 n (List.mem_map.2 ⟨_, hm, rfl⟩)
      have e1 : remP ((m, g) :: ps) n = (m, g) :: remP ps n := by
        show List.filter _ _ = _
        rw [List.filter_cons, if_pos (by simp [e])]; rfl
      have hlt : m < n := hlt
      rw [e1, insP, if_neg (by omega), insP_rem h' hm]
theorem back1 {ps : PS} (hp : POk ps) {a : Nat} (ha : a < ps.length) : nth (nsP ps) a ∈ nsP ps ∧ putE (remP ps (nth (nsP ps) a)) (nth (nsP ps) a) = 0 ∧ putP (remP ps (nth (nsP ps) a)) (nth (nsP ps) a) (nth (gsP ps) a) = ps := by
  have h1 : nth (nsP ps) a ∈ nsP ps := nth_mem (by rw [nsP_len]; exact ha)
  have h2 : (nth (nsP ps) a, nth (gsP ps) a) ∈ ps := by
    rw [nth_get (by rw [nsP_len]; exact ha), nth_get (by rw [gsP_len]; exact ha)]
    simp only [nsP, gsP, List.getElem_map]
    exact List.getElem_mem ha
  have h3 := hp.rng _ h1
  have e : putE (remP ps (nth (nsP ps) a)) (nth (nsP ps) a) = 0 := putE_0.2 ⟨h3.1, h3.2, fun q => (ns_remP.1 q).2 rfl⟩
  exact ⟨h1, e, by rw [putP, if_pos e]; exact insP_rem hp h2⟩
theorem drop1_spec {rules : List GRule} (hr : RFew rules) {ps : PS} (hp : POk ps) {w : Int} (b : Nat) {a : Nat} (ha : a < ps.length) : Spec (X := Unit) prog 25 [tAt b 0, tV (.int .i64 (nth (nsP ps) a))] [vigO rules b ps w] (fun _ => tV (.int .i64 0)) (fun _ => [vigO rules b (remP ps (nth (nsP ps) a)) w]) :=
  Spec.cst (ti_eq (by rw [dropE, if_pos (back1 hp ha).1])) rfl (DropV_spec hr hp b _)
theorem put1b_spec {rules : List GRule} (hr : RFew rules) {ps : PS} (hp : POk ps) {w : Int} (b : Nat) {a : Nat} (ha : a < ps.length) (hl : ps.length ≤ 12) (hrow : ∀ f ∈ gsP ps, f.Row.length ≤ 1000000) (hw : 0 ≤ w ∧ w ≤ 1000000) :
    Spec (X := Unit) prog 21 [tAt b 0, tV (.int .i64 (nth (nsP ps) a)), rFact.ty (nth (gsP ps) a)] [vigO rules b (remP ps (nth (nsP ps) a)) w] (fun _ => tV (.int .i64 0)) (fun _ => [vigO rules b ps (w + putW rules (remP ps (nth (nsP ps) a)) (nth (nsP ps) a) (nth (gsP ps) a))]) :=
  Spec.cst (ti_eq (back1 hp ha).2.1) (vg_eq (back1 hp ha).2.2 rfl) (PutV_spec hr hp.rem b _ _ (by have := remP_len ps (nth (nsP ps) a); omega) (hrow _ (nth_mem (by rw [gsP_len]; exact ha))) hw)
/-- The violations without a number. -/
theorem rest_eq {rules : List GRule} (hr : RFew rules) {ps : PS} (hp : POk ps) (hl : ps.length ≤ 12) (n : Int) : (vioN rules ps).filter (fun s => !s.contains n) = vioN rules (remP ps n) := by
  have H := hr.hyp (facts := gsP ps) (by rw [gsP_len]; exact hl)
  have H2 := hr.hyp (facts := gsP (remP ps n)) (by rw [gsP_len]; have := remP_len ps n; omega)
  refine strict_ext (List.Pairwise.sublist List.filter_sublist (vioN_strict hp H)) (vioN_strict hp.rem H2) fun s => ?_
  rw [List.mem_filter, mem_vioN hp H, mem_vioN hp.rem H2, (Less1.rem hp).min]
  simp
set_option maxHeartbeats 4000000 in
theorem lawDrop_spec (rules : List GRule) (l : List GOp) (raw : Int) (hl : l.length * 96 ≤ 140737488351232) (hf : 0 ≤ raw ∧ raw < 256) : Fun1 prog 6 [tSl rRule rules, tSl rOp l, tV (.int .u8 raw)] (tV (.bool true)) := by
 refine Spec.enter func6 rfl rfl fun h0 w0 fr0 => ?_
 refine Jr (Ja rfl (JL_nil (Jr (Js rfl (step_call0 (head_spec) trivial call9) (Ja rfl ?_)))))
 refine JL_nil (J_seq (Jr (Jm rfl (Jm rfl (Js rfl (step_call0 (few_spec _ _ zG) ⟨Sr, Sr, trivial⟩ call10) ?_)))))
 refine Js rfl (step_not Sr) (JL_nil ?_)
 refine J_cond Sr (fun h25 => ?_) (fun h25 => ?_)
 ·
  try simp only [NF] at h25
  refine Jr (Jm rfl (Ja rfl (JL_nil (J_ret ?_))))
  refine K_retv (rv := .tmp 6) rfl () (.tmp Sr) Sr
 try simp only [NF] at h25
 have hF := FewO.of (by simpa using h25)
 have hR := hF.rf
 have h12 := pres12 (i := l.length) hF.ll
 rw [List.take_length] at h12
 have hok := presM_ok l
 have hnl := nsP_len (presM l)
 have hgl := gsP_len (presM l)
 have hvo := vioN_ok hR h12
 refine J_skip (Jr (Jm rfl ?_))
 refine Js rfl (step_call0 (present_spec _ (by have := hF.ll; omega)) ⟨Sr, trivial⟩ call20) ?_
 refine Jm rfl (Js rfl (step_extract Sr rfl) (Js rfl (step_extract Sr rfl) (Ja rfl (Ja rfl (JL_nil ?_)))))
 refine J_seq (Jr (Jm rfl (Js rfl (step_len_sl underlying33 Sr) (Js rfl (step_eql Sr Sr) (JL_nil ?_)))))
 refine J_cond Sr (fun h34 => ?_) (fun h34 => ?_)
 ·
  try simp only [NF] at h34
  refine Jr (Jm rfl (Ja rfl (JL_nil (J_ret ?_))))
  refine K_retv (rv := .tmp 6) rfl () (.tmp Sr) Sr
 try simp only [NF] at h34
 have hwb := workM_bd rules hF.ll
 have hn0 : 0 < ((nsP (presM l)).length : Int) := by omega
 have hm1 := Int.emod_nonneg raw (show ((nsP (presM l)).length : Int) ≠ 0 by omega)
 have hm2 := Int.emod_lt_of_pos raw hn0
 obtain ⟨a, ha⟩ : ∃ a : Nat, raw % ((nsP (presM l)).length : Int) = (a : Int) := ⟨(raw % ((nsP (presM l)).length : Int)).toNat, by omega⟩
 have hal : a < (presM l).length := by omega
 have hpb := putW_bd rules (remP (presM l) (nth (nsP (presM l)) a)) (nth (nsP (presM l)) a) (nth (gsP (presM l)) a)
 have hrl := remP_len (presM l) (nth (nsP (presM l)) a)
 have hrk := hok.rem (n := (nth (nsP (presM l)) a))
 refine J_skip (Jr (Jm rfl ?_))
 refine Js rfl (step_convert_int (m := raw) underlying5 underlying3 Sr (by exact wrap64_in ⟨by omega, by omega⟩)) ?_
 refine Jm rfl (Js rfl (step_len_sl underlying33 Sr) (Js rfl (step_rem Sr Sr zG zG) (Ja rfl (JL_nil (Jr ?_)))))
 refine Jm rfl ?_
 refine Jx rfl (step_call (Sel.none _) (NewV_spec hR) ⟨Sr, trivial⟩ call11) fun b1 => ?_
 refine Ja rfl (JL_nil (J_seq (Jr (Ja rfl (JL_nil ?_)))))
 refine J_block ?_
 refine J_loopL (σ := Nat) (fun i => i ≤ l.length) (fun i => upd (upd (upd (upd (upd (upd (upd (upd env0 1 (tSl rOp l)) 6 (tV (.bool false))) 7 (tV (.bool true))) 8 (tSl rInt (nsP (presM l)))) 9 (tSl rFact (gsP (presM l)))) 10 (tV (.int .i64 (raw % ((nsP (presM l)).length : Int))))) 11 (tAt b1 0)) 12 (tV (.int .i64 (i : Int)))) (fun i => [vigO rules b1 (presM (l.take i)) (workM rules (l.take i))]) (fun i => l.length - i) 0 (by exact Nat.zero_le _) (zU) (LSub.rfl) ?_
 rintro i hi
 refine J_seq (Jr (Jm rfl (Jm rfl (Js rfl (step_len_sl underlying23 Sr) (Js rfl (step_lss Sr Sr) ?_)))))
 refine JL_nil ?_
 refine J_cond Sr (fun h46 => ?_) (fun h46 => ?_)
 ·
  try simp only [NF] at h46
  have hlt : i < l.length := by omega
  refine J_skip (J_seq (J_block (J_region (Jm rfl (Jm rfl ?_)))))
  refine Jm rfl ?_
  refine Js rfl (step_indexAddr_sl  underlying23 ty37 Sr Sr rfl (gb (by exact hlt))) ?_
  refine Jl rfl ty37 Sr ?_
  refine Jx rfl (step_call zS (hF.step b1 hlt) ⟨Sr, Sr, trivial⟩ call13) fun v54 => ?_
  refine JL_nil (J_region (Jm rfl (Js rfl (step_add Sr Sr z6) (Ja rfl (JL_nil ?_)))))
  refine K_againL (σ := Nat) (s := i) (i + 1) zO (by show i + 1 ≤ _; omega) (zU) (LSub.rfl)
 try simp only [NF] at h46
 obtain rfl : i = l.length := by omega
 rw [List.take_length]
 refine J_exit (Jr (Jm rfl ?_))
 refine Jx rfl (step_call zS (ListW_spec hR hok b1 h12) ⟨Sr, trivial⟩ call18) fun v56 => ?_
 refine Ja rfl (JL_nil (Jr (Jm rfl ?_)))
 refine Jx rfl (step_call zS (WorkV_spec b1) ⟨Sr, trivial⟩ call16) fun v58 => ?_
 refine Ja rfl (JL_nil (Jr (Jm rfl (Jm rfl (Jm rfl ?_)))))
 refine Js rfl (step_indexAddr_sl (i := a) underlying33 ty3 Sr Sr (by show raw % _ = _; omega) (gb zG)) ?_
 refine Jl rfl ty3 Sr ?_
 refine Jx rfl (step_call zS (drop1_spec hR hok b1 hal) ⟨Sr, Sr, trivial⟩ call25) fun v64 => ?_
 refine Ja rfl (JL_nil (Jr (Jm rfl ?_)))
 refine Jx rfl (step_call zS (ListW_spec hR hrk b1 zG) ⟨Sr, trivial⟩ call18) fun v66 => ?_
 refine Ja rfl (JL_nil (Jr (Jm rfl ?_)))
 refine Jx rfl (step_call zS (WorkV_spec b1) ⟨Sr, trivial⟩ call16) fun v68 => ?_
 refine Jm rfl (Js rfl (step_eql Sr Sr) (Ja rfl (JL_nil (J_seq ?_))))
 refine J_draw [⟨0, [11], true⟩, ⟨1, [8], true⟩, ⟨2, [10], true⟩, ⟨3, [72, 73], true⟩, ⟨4, [74], true⟩, ⟨5, [9], true⟩, ⟨6, [10], true⟩, ⟨7, [76, 77], true⟩, ⟨8, [78], true⟩, ⟨9, [71, 75, 79], false⟩, ⟨10, [80], true⟩] rfl (by kernel_rfl) ?_
 refine Mv rfl rfl (Mv rfl rfl (Mv rfl rfl ?_))
 refine Mf rfl rfl (step_indexAddr_sl (i := a) underlying33 ty3 Sr Sr (by show raw % _ = _; omega) (gb zG)) ?_
 refine Mf rfl rfl (step_load_ptr ty3 Sr) (Mv rfl rfl (Mv rfl rfl ?_))
 refine Mf rfl rfl (step_indexAddr_sl (i := a) underlying41 ty35 Sr Sr (by show raw % _ = _; omega) (gb zG)) ?_
 refine Mf rfl rfl (step_load_ptr ty35 Sr) ?_
 refine JM_stepX rfl rfl rfl rfl (step_call zS (put1b_spec hR hok b1 hal h12 hF.rows zG) ⟨Sr, Sr, Sr, trivial⟩ call21) fun v80 => ?_
 refine Mf rfl rfl (step_assign Sr) (JM_nil (Jr (Ja rfl (JL_nil (J_seq ?_)))))
 refine Jr (Ja rfl (JL_nil (J_block ?_)))
 refine J_loopL (σ := Nat × Value) (fun ⟨j, u⟩ => j ≤ (vioN rules (presM l)).length) (fun ⟨j, u⟩ => upd (upd (upd (upd (upd (upd (upd (upd (upd (upd (upd (upd (upd env0 6 (tV (.bool false))) 7 (tV (.bool true))) 8 (tSl rInt (nsP (presM l)))) 10 (tV (.int .i64 (raw % ((nsP (presM l)).length : Int))))) 11 (tAt b1 0)) 13 (tSl (rSl rInt) (vioN rules (presM l)))) 14 (tV (.int .i64 (workM rules l)))) 15 (tV (.int .i64 0))) 16 (tSl (rSl rInt) (vioN rules (remP (presM l) (nth (nsP (presM l)) a))))) 17 (tV (.bool (decide ((workM rules l) = (workM rules l)))))) 18 (tV (.int .i64 0))) 19 (rV.ty u)) 20 (tV (.int .i64 (j : Int)))) (fun ⟨j, u⟩ => [own 33 (rSl rInt) u (((vioN rules (presM l)).take j).filter fun s => !s.contains (nth (nsP (presM l)) a)), vigO rules b1 (presM l) ((workM rules l) + putW rules (remP (presM l) (nth (nsP (presM l)) a)) (nth (nsP (presM l)) a) (nth (gsP (presM l)) a))]) (fun ⟨j, u⟩ => (vioN rules (presM l)).length - j) (0, .slice none 0 0) (by exact Nat.zero_le _) (.u (SubE.upd (Sub.rV rfl) (zU))) (LSub.trans (LSub.nilown (e := 33) (R := rSl rInt)) zL) ?_
 rintro ⟨j, u⟩ hj
 try dsimp only at hj
 refine J_seq (Jr (Jm rfl (Jm rfl (Js rfl (step_len_sl underlying45 Sr) (Js rfl (step_lss Sr Sr) ?_)))))
 refine JL_nil ?_
 refine J_cond Sr (fun h84 => ?_) (fun h84 => ?_)
 ·
  try simp only [NF] at h84
  have hjt : j < (vioN rules (presM l)).length := by omega
  have hje := hvo.2 _ (nth_mem hjt)
  refine J_skip (J_seq (J_block (J_seq ?_)))
  refine J_draw [⟨0, [13], true⟩, ⟨1, [20], true⟩, ⟨2, [87, 88], true⟩, ⟨3, [89], true⟩, ⟨4, [8], true⟩, ⟨5, [10], true⟩, ⟨6, [91, 92], true⟩, ⟨7, [93], true⟩, ⟨8, [90, 94], true⟩, ⟨9, [95], true⟩] rfl (by kernel_rfl) ?_
  refine Mv rfl rfl (Mv rfl rfl ?_)
  refine Mf rfl rfl (step_indexAddr_sl  underlying45 ty33 Sr Sr rfl (gb (by exact hjt))) ?_
  refine Mf rfl rfl (step_load_ptr ty33 Sr) (Mv rfl rfl (Mv rfl rfl ?_))
  refine Mf rfl rfl (step_indexAddr_sl (i := a) underlying33 ty3 Sr Sr (by show raw % _ = _; omega) (gb zG)) ?_
  refine Mf rfl rfl (step_load_ptr ty3 Sr) (Mf rfl rfl (step_call0 (In_spec _ _ zG) ⟨Sr, Sr, trivial⟩ call24) (Mf rfl rfl (step_not Sr) (JM_nil ?_)))
  refine J_cond Sr (fun h96 => ?_) (fun h96 => ?_)
  ·
   try simp only [NF] at h96
   refine J_region (Jm rfl (Jm rfl (Jm rfl ?_)))
   refine Js rfl (step_indexAddr_sl  underlying45 ty33 Sr Sr rfl (gb (by exact hjt))) ?_
   refine Jl rfl ty33 Sr ?_
   refine Js rfl (step_literal (ys := [_]) underlying45 el33 ⟨rfl, Sr, trivial⟩ rfl (by decide)) ?_
   refine Jx rfl (step_append underlying45 el33 Sr Sr zS (by have := List.length_filter_le (fun s : List Int => !s.contains (nth (nsP (presM l)) a)) ((vioN rules (presM l)).take j); rw [List.length_take] at this; simp only [List.length_cons, List.length_nil]; omega) (by have := List.length_filter_le (fun s : List Int => !s.contains (nth (nsP (presM l)) a)) ((vioN rules (presM l)).take j); rw [List.length_take] at this; simp only [List.length_cons, List.length_nil]; omega)) fun v103 => ?_
   refine Ja rfl (JL_nil (J_region (Jm rfl (Js rfl (step_add Sr Sr z6) (Ja rfl ?_)))))
   refine JL_nil ?_
   refine K_againL (σ := Nat × Value) (s := (j, u)) (j + 1, v103) zO (by show j + 1 ≤ _; omega) (zU) (LSub.cons (A := own 33 (rSl rInt) v103 ((((vioN rules (presM l)).take j).filter fun s => !s.contains (nth (nsP (presM l)) a)) ++ [nth (vioN rules (presM l)) j])) zS (own_eq (by rw [takeV hjt, List.filter_append, List.filter_cons, if_pos (by simpa using h96)]; rfl)) zL)
  try simp only [NF] at h96
  refine J_skip (J_region (Jm rfl (Js rfl (step_add Sr Sr z6) (Ja rfl (JL_nil ?_)))))
  refine K_againL (σ := Nat × Value) (s := (j, u)) (j + 1, u) zO (by show j + 1 ≤ _; omega) (zU) (LSub.cons (A := own 33 (rSl rInt) u (((vioN rules (presM l)).take j).filter fun s => !s.contains (nth (nsP (presM l)) a))) zS (own_eq (by rw [takeV hjt, List.filter_append, List.filter_cons, if_neg (by simpa using h96)]; simp)) zL)
 try simp only [NF] at h84
 obtain rfl : j = (vioN rules (presM l)).length := by omega
 refine J_exit (J_seq ?_)
 refine K_lsub (L' := [own 33 (rSl rInt) u (vioN rules (remP (presM l) (nth (nsP (presM l)) a))), vigO rules b1 (presM l) ((workM rules l) + putW rules (remP (presM l) (nth (nsP (presM l)) a)) (nth (nsP (presM l)) a) (nth (gsP (presM l)) a))]) (LSub.cons (A := own 33 (rSl rInt) u (((vioN rules (presM l)).take (vioN rules (presM l)).length).filter fun s => !s.contains (nth (nsP (presM l)) a))) zS (own_eq (by rw [List.take_length]; exact rest_eq hR hok h12 _)) zL) ?_
 refine K_freeze (S := [own 33 (rSl rInt) u (vioN rules (remP (presM l) (nth (nsP (presM l)) a)))]) (t := 19) zS Frz.own ?_
 refine J_region (Jm rfl (Jm rfl ?_))
 refine Jk rfl Sr rfl (step_move Sr) ?_
 refine Jg rfl Sr rfl (fun hw => step_eql (Sub.w hw) Sr) (Js rfl (step_pick_and Sr Sr) (Jm rfl ?_))
 refine Jk rfl Sr rfl (step_move Sr) ?_
 refine Jg rfl Sr rfl (fun hw => step_eql (Sub.w hw) Sr) (Js rfl (step_pick_and Sr Sr) (Jm rfl ?_))
 refine Jk rfl Sr rfl (step_move Sr) ?_
 refine Js rfl (step_pick_and Sr Sr) (Jm rfl ?_)
 refine Jk rfl Sr rfl (step_move Sr) ?_
 refine JL_stepGX (tV (.bool false)) rfl rfl rfl (Gd.plain Sr) rfl rfl (fun hw => step_call zS (WorkV_spec b1) ⟨Sub.w hw, trivial⟩ call16) (fun hw v118 => ?_) (fun hw => (by exfalso; simp at hw))
 refine Jk rfl Sr rfl (step_move Sr) ?_
 refine Jg rfl Sr rfl (fun hw => step_geq (Sub.w hw) (Sub.w hw)) (Js rfl (step_pick_and Sr Sr) (Jm rfl ?_))
 refine Jk rfl Sr rfl (step_move Sr) ?_
 refine Jk rfl Sr rfl (step_move Sr) ?_
 refine Jg rfl Sr rfl (fun hw => step_call0 (SetsN_spec (vioN_ok hR zG) (vioN_ok hR zG)) ⟨Sub.w hw, Sub.w hw, trivial⟩ call17) (Js rfl (step_pick_and Sr Sr) (Jm rfl ?_))
 refine Jk rfl Sr rfl (step_move Sr) ?_
 refine JL_stepGX (tV (.bool false)) rfl rfl rfl (Gd.plain Sr) rfl rfl (fun hw => step_call zS (ListW_spec hR hok b1 h12) ⟨Sub.w hw, trivial⟩ call18) (fun hw v129 => ?_) (fun hw => (by exfalso; simp [sS] at hw; omega))
 refine Jk rfl Sr rfl (step_move Sr) ?_
 refine Jg rfl Sr rfl (fun hw => step_call0 (SetsN_spec hvo hvo) ⟨Sub.w hw, Sub.w hw, trivial⟩ call17) (Js rfl (step_pick_and Sr Sr) (Ja rfl (JL_nil (J_ret ?_))))
 refine K_drop (S := [vigO rules b1 (presM l) ((workM rules l) + putW rules (remP (presM l) (nth (nsP (presM l)) a)) (nth (nsP (presM l)) a) (nth (gsP (presM l)) a))]) zS ?_
 refine K_retv (rv := .tmp 6) rfl () (.tmp Sr) (Sub.bool (by simp [sS]; omega))
open Go Go.Proofs Go.Proofs.Tryz
def colP (f : GFact) (c : Int) : GValue × Bool := if c < 0 ∨ (f.Row.length : Int) ≤ c then (zValue, false) else (nth f.Row c.toNat, true)
theorem colP_eq (x : GFact) (a : Int) (y : GFact) (b : Int) : ((colP x a).2 && (colP y b).2 && testV (colP x a).1 1 (colP y b).1 0) = colEq x a y b := by
  unfold colP colEq
  by_cases h1 : a < 0 ∨ (x.Row.length : Int) ≤ a
  · rw [if_pos h1]
    have : (decide (0 ≤ a) && decide (a < (x.Row.length : Int))) = false := by simp; omega
    simp [this]
  · rw [if_neg h1]
    have e1 : (decide (0 ≤ a) && decide (a < (x.Row.length : Int))) = true := by simp; omega
    by_cases h2 : b < 0 ∨ (y.Row.length : Int) ≤ b
    · rw [if_pos h2]
      have : (decide (0 ≤ b) && decide (b < (y.Row.length : Int))) = false := by simp; omega
      simp [this]
    · rw [if_neg h2]
      have e2 : (decide (0 ≤ b) && decide (b < (y.Row.length : Int))) = true := by simp; omega
      rw [e1, e2]; first | done | rfl
/-- What a test says of two facts that are to meet. -/
def tstM (i j : Int) (x y : GFact) (t : GTest) : Bool := (eqT i j t).all fun c => colEq x c.1 y c.2
theorem eqs_all (d : GRule) (i j : Int) (x y : GFact) : ((eqsV d i j).all fun c => colEq x c.1 y c.2) = d.Tests.all (tstM i j x y) := by
  unfold eqsV tstM; rw [List.all_flatMap]
theorem colEq_comm (x : GFact) (a : Int) (y : GFact) (b : Int) : colEq x a y b = colEq y b x a := by
  rw [Bool.eq_iff_iff]; exact ⟨colEq_symm, colEq_symm⟩
theorem tstM_skip {i j : Int} {x y : GFact} {t : GTest} (h : ¬ t.Op = 1 ∨ ¬ t.Add = 0) : tstM i j x y t = true := by
  unfold tstM eqT; rw [if_pos (by simpa using h)]; rfl
theorem tstM_a {i j : Int} {x y : GFact} {t : GTest} (h : t.Op = 1 ∧ t.Add = 0) (h1 : t.Left.Var = i ∧ t.Right.Var = j) : tstM i j x y t = colEq x t.Left.Col y t.Right.Col := by
  unfold tstM eqT; rw [if_neg (by omega), if_pos h1]; simp
theorem tstM_b {i j : Int} {x y : GFact} {t : GTest} (h : t.Op = 1 ∧ t.Add = 0) (hij : i ≠ j) (h1 : t.Left.Var = j ∧ t.Right.Var = i) : tstM i j x y t = colEq y t.Left.Col x t.Right.Col := by
  unfold tstM eqT; rw [if_neg (by omega), if_neg (by omega), if_pos h1]; simp [colEq_comm]
theorem tstM_c {i j : Int} {x y : GFact} {t : GTest} (h1 : ¬ (t.Left.Var = i ∧ t.Right.Var = j)) (h2 : ¬ (t.Left.Var = j ∧ t.Right.Var = i)) : tstM i j x y t = true := by
  unfold tstM eqT
  split
  · rfl
  · first | rfl | (rw [if_neg h1, if_neg h2]; rfl)
theorem tstM_ok {i j : Int} {x y : GFact} {t : GTest} (hij : i ≠ j) (h1 : (t.Left.Var = i ∧ t.Right.Var = j) → colEq x t.Left.Col y t.Right.Col = true) (h2 : (t.Left.Var = j ∧ t.Right.Var = i) → colEq y t.Left.Col x t.Right.Col = true) : tstM i j x y t = true := by
  by_cases h : t.Op = 1 ∧ t.Add = 0
  · by_cases a : t.Left.Var = i ∧ t.Right.Var = j
    · rw [tstM_a h a]; exact h1 a
    · by_cases b : t.Left.Var = j ∧ t.Right.Var = i
      · rw [tstM_b h hij b]; exact h2 b
      · exact tstM_c a b
  · exact tstM_skip (by omega)
/-- Meeting for a denial. -/
def metD (d : GRule) (x y : GFact) (i : Nat) : Bool := (List.range d.Tables.length).any fun j => decide (i ≠ j) && meetB d i j x y
def metR (r : GRule) (x y : GFact) : Bool := ((lowerR r).filter okD3).any fun d => (List.range d.Tables.length).any (metD d x y)
theorem metB_eq (rules : List GRule) (x y : GFact) : metB rules x y = (decide (x.Entity = y.Entity) || rules.any fun r => metR r x y) := by
  unfold metB loweredR metR metD; rw [List.any_flatMap]
theorem metR_no {r : GRule} {x y : GFact} (h : ¬ (((lowerR r).length : Int) = 1) ∨ (((nth (lowerR r) 0).Tables.length : Int)) > 3) : metR r x y = false := by
  unfold metR
  have hl := lowerR_len r
  match e : lowerR r, hl with
  | [], _ => rfl
  | [d], _ =>
    rw [e] at h
    have h2 : (d.Tables.length : Int) > 3 := by
      rcases h with h | h
      · simp at h
      · exact h
    have : okD3 d = false := by
      rw [← Bool.not_eq_true]; simp only [okD3, Bool.and_eq_true, decide_eq_true_eq]; omega
    simp [List.filter, this]
theorem metR_at {r : GRule} {x y : GFact} (h1 : ((lowerR r).length : Int) = 1) (h2 : ((nth (lowerR r) 0).Tables.length : Int) ≤ 3) : metR r x y = (List.range (nth (lowerR r) 0).Tables.length).any (metD (nth (lowerR r) 0) x y) := by
  unfold metR
  have hl := lowerR_len r
  match e : lowerR r, hl with
  | [], _ => rw [e] at h1; simp at h1
  | [d], _ =>
    rw [e] at h2
    have h2 : (d.Tables.length : Int) ≤ 3 := h2
    show _ = (List.range d.Tables.length).any (metD d x y)
    by_cases h0 : d.Tables.length = 0
    · rw [h0]
      cases ho : okD3 d <;> simp [List.filter, ho, h0]
    · have : okD3 d = true := by simp only [okD3, Bool.and_eq_true, decide_eq_true_eq]; omega
      simp [List.filter, this]
theorem any_rg {n : Nat} {p : Nat → Bool} (h : ∀ q, q < n → p q = false) : (List.range n).any p = false := by
  rw [← Bool.not_eq_true, List.any_eq_true]
  rintro ⟨q, hq, e⟩
  rw [h q (List.mem_range.1 hq)] at e; cases e
theorem any_rg1 {n i : Nat} {p : Nat → Bool} (hi : i < n) (h : p i = true) : (List.range n).any p = true := List.any_eq_true.2 ⟨i, List.mem_range.2 hi, h⟩
theorem any_no {rules : List GRule} {x y : GFact} (h : ∀ q, q < rules.length → metR (nth rules q) x y = false) : (rules.any fun r => metR r x y) = false := by
  rw [← Bool.not_eq_true, List.any_eq_true]
  rintro ⟨r, hr, e⟩
  obtain ⟨q, hq, rfl⟩ := mem_nthV hr
  rw [h q hq] at e; cases e
theorem colP_spec (f : GFact) (c : Int) : Fun1 prog 94 [rFact.ty f, tV (.int .i64 c)] (tTup [rValue.ty (colP f c).1, tV (.bool (colP f c).2)]) := by
 refine Spec.enter func94 rfl rfl fun h0 w0 fr0 => ?_
 refine Jr (Js rfl (step_box (R := rFact) Sr) ?_)
 refine Jx rfl (step_alloc (fun w => zeroValue91 w) zr91) fun v4 => ?_
 refine Ja rfl (JL_nil (J_seq (Jr (Jm rfl (Js rfl (step_lss Sr Sr) ?_)))))
 refine Jm rfl ?_
 refine Jk rfl Sr rfl (step_move Sr) ?_
 refine Jk rfl Sr rfl (step_fieldAddr so35 Sr rfl) ?_
 refine Jg rfl Sr rfl (fun hw => step_load_ptr ty32 (Sub.w hw)) (Jg rfl Sr rfl (fun hw => step_len_sl underlying32 (Sub.w hw)) (Jg rfl Sr rfl (fun hw => step_geq (Sub.w hw) (Sub.w hw)) (Js rfl (step_pick_or Sr Sr) (JL_nil ?_))))
 refine J_cond Sr (fun h14 => ?_) (fun h14 => ?_)
 ·
  try simp only [NF] at h14
  refine Jr (Js rfl (step_build (x := (zValue : GValue)) (zs := [[Value.int .i64 0], [Value.int .i64 0], [Value.string ⟨#[]⟩]]) so91 (fun w => zeroValue91 w) trivial ⟨fun _ => rfl, fun _ => rfl, fun _ => rfl, trivial⟩) ?_)
  refine Ju (step_store_box ty91 Sr Sr zS) fun _ => ?_
  refine Ja rfl (JL_nil (J_ret ?_))
  refine K_ret2' (rv := .cell 4 91) (rv' := .tmp 5) rfl () (Sel.all _) (.cell ty91 Sr zS Sr) (.tmp Sr) (Frz.sub ?_) (Frz.sub ?_) Sr
  ·
   rw [colP, if_pos h14]; exact Sr
  rw [colP, if_pos h14]; exact Sr
 try simp only [NF] at h14
 have hn : ¬ (c < 0 ∨ (f.Row.length : Int) ≤ c) := by omega
 refine J_skip (Jr (Js rfl (step_fieldAddr so35 Sr rfl) (Jl rfl ty32 Sr (Jm rfl ?_))))
 refine Js rfl (step_indexAddr_sl (i := c.toNat) underlying32 ty91 Sr Sr (by show c = _; omega) (gb (by show c.toNat < f.Row.length; omega))) ?_
 refine Jl rfl ty91 Sr ?_
 refine Ju (step_store_box ty91 Sr Sr zS) fun _ => ?_
 refine Ja rfl (JL_nil (J_ret ?_))
 refine K_ret2' (rv := .cell 4 91) (rv' := .tmp 5) rfl () (Sel.all _) (.cell ty91 Sr zS Sr) (.tmp Sr) (Frz.sub ?_) (Frz.sub ?_) Sr
 ·
  rw [colP, if_neg hn]; exact Sr
 rw [colP, if_neg hn]; exact Sr
theorem equalP_spec (x : GFact) (a : Int) (y : GFact) (b : Int) : Fun1 prog 67 [rFact.ty x, tV (.int .i64 a), rFact.ty y, tV (.int .i64 b)] (tV (.bool (colEq x a y b))) := by
 refine Spec.enter func67 rfl rfl fun h0 w0 fr0 => ?_
 refine Jr (Js rfl (step_box (R := rFact) Sr) (Js rfl (step_box (R := rFact) Sr) (Ja rfl (JL_nil (Jr ?_)))))
 refine Jl rfl ty35 Sr (Jm rfl (Js rfl (step_call0 (colP_spec _ _) ⟨Sr, Sr, trivial⟩ call94) (Jm rfl (Js rfl (step_extract Sr rfl) (Js rfl (step_extract Sr rfl) ?_)))))
 refine Jx rfl (step_alloc (fun w => zeroValue91 w) zr91) fun v9 => ?_
 refine Ju (step_store_box ty91 Sr Sr zS) fun _ => ?_
 refine JL_freeze (t := 9) (Sel.take (Sel.none _)) Frz.box ?_
 refine Ja rfl (JL_nil (Jr (Jl rfl ty35 Sr (Jm rfl (Js rfl (step_call0 (colP_spec _ _) ⟨Sr, Sr, trivial⟩ call94) ?_)))))
 refine Jm rfl (Js rfl (step_extract Sr rfl) (Js rfl (step_extract Sr rfl) ?_))
 refine Jx rfl (step_alloc (fun w => zeroValue91 w) zr91) fun v11 => ?_
 refine Ju (step_store_box ty91 Sr Sr zS) fun _ => ?_
 refine JL_freeze (t := 11) (Sel.take (Sel.none _)) Frz.box ?_
 refine Ja rfl (JL_nil (Jr (Jm rfl (Jm rfl ?_))))
 refine Jk rfl Sr rfl (step_move Sr) ?_
 refine Js rfl (step_pick_and Sr Sr) (Jm rfl ?_)
 refine Jk rfl Sr rfl (step_load_ptr ty91 Sr) ?_
 refine Jk rfl Sr rfl (step_load_ptr ty91 Sr) ?_
 refine Jg rfl Sr rfl (fun hw => step_call0 (TestR_spec _ _ _ _) ⟨(Sub.w hw), Sr, (Sub.w hw), Sr, trivial⟩ call95) (Js rfl (step_pick_and Sr Sr) (Ja rfl (JL_nil (J_ret ?_))))
 refine K_retv (rv := .tmp 8) rfl () (.tmp Sr) (Sub.bool ?_)
 exact (colP_eq x a y b)
set_option maxHeartbeats 2000000 in
theorem meetR_spec (d : GRule) (i j : Nat) (x y : GFact) (hi : i < d.Tables.length) (hj : j < d.Tables.length) (hij : i ≠ j) (hd : d.Tables.length ≤ 1000000) (hte : d.Tests.length ≤ 1000000) : Fun1 prog 48 [rRule.ty d, tV (.int .i64 (i : Int)), tV (.int .i64 (j : Int)), rFact.ty x, rFact.ty y] (tV (.bool (meetB d i j x y))) := by
 refine Spec.enter func48 rfl rfl fun h0 w0 fr0 => ?_
 have hij2 : (i : Int) ≠ (j : Int) := by omega
 refine Jr (Js rfl (step_box (R := rRule) Sr) (Js rfl (step_box (R := rFact) Sr) (Js rfl (step_box (R := rFact) Sr) (Ja rfl (JL_nil ?_)))))
 refine J_seq (J_seq ?_)
 refine J_draw [⟨0, [8], true⟩, ⟨1, [13], true⟩, ⟨2, [5], true⟩, ⟨3, [15], true⟩, ⟨4, [1], true⟩, ⟨5, [16, 17], true⟩, ⟨6, [18], true⟩, ⟨7, [14, 19], true⟩, ⟨8, [20], true⟩, ⟨9, [9, 21], true⟩, ⟨10, [21, 22], true⟩, ⟨11, [5, 21], true⟩, ⟨12, [21, 24], true⟩, ⟨13, [2, 21], true⟩, ⟨14, [21, 25, 26], true⟩, ⟨15, [21, 27], true⟩, ⟨16, [21, 23, 28], true⟩, ⟨17, [21, 29], true⟩] rfl (by kernel_rfl) ?_
 refine Mf rfl rfl (step_fieldAddr so35 Sr rfl) (Mf rfl rfl (step_load_ptr ty3 Sr) (Mf rfl rfl (step_fieldAddr so59 Sr rfl) (Mf rfl rfl (step_load_ptr ty33 Sr) (Mv rfl rfl ?_))))
 refine Mf rfl rfl (step_indexAddr_sl  underlying33 ty3 Sr Sr rfl (gb (by show i < d.Tables.length; exact hi))) ?_
 refine Mf rfl rfl (step_load_ptr ty3 Sr) (Mf rfl rfl (step_neq Sr Sr) (Mv rfl rfl ?_))
 refine Mk rfl rfl Sr rfl (step_fieldAddr so35 Sr rfl) ?_
 refine Mg rfl rfl Sr rfl (fun hw => step_load_ptr ty3 (Sub.w hw)) ?_
 refine Mk rfl rfl Sr rfl (step_fieldAddr so59 Sr rfl) ?_
 refine Mg rfl rfl Sr rfl (fun hw => step_load_ptr ty33 (Sub.w hw)) ?_
 refine Mk rfl rfl Sr rfl (step_move Sr) ?_
 refine Mg rfl rfl Sr rfl (fun hw => step_indexAddr_sl  underlying33 ty3 (Sub.w hw) (Sub.w hw) rfl (gb (by have hwq := hw; (try simp only [beqB_t, beqB_f, NF] at hwq); show j < d.Tables.length; exact hj))) ?_
 refine Mg rfl rfl Sr rfl (fun hw => step_load_ptr ty3 (Sub.w hw)) (Mg rfl rfl Sr rfl (fun hw => step_neq (Sub.w hw) (Sub.w hw)) (Mf rfl rfl (step_pick_or Sr Sr) (JM_nil ?_)))
 refine J_cond Sr (fun h30 => ?_) (fun h30 => ?_)
 ·
  try simp only [NF] at h30
  refine Jr (Ja rfl (JL_nil (J_ret ?_)))
  refine K_retv (rv := .tmp 10) rfl () (.tmp Sr) (Sub.bool ?_)
  rw [meetB, eq_comm, Bool.and_eq_false_iff, Bool.and_eq_false_iff]; left; simpa using h30
 try simp only [NF] at h30
 refine J_skip (J_seq (Jr (Ja rfl (JL_nil (J_block ?_)))))
 refine J_loopL (σ := Nat) (fun k => k ≤ d.Tests.length ∧ ∀ q, q < k → tstM i j x y (nth d.Tests q) = true) (fun k => upd (upd (upd (upd (upd (upd env0 1 (tV (.int .i64 (i : Int)))) 2 (tV (.int .i64 (j : Int)))) 5 (tPtr rRule d)) 8 (tPtr rFact x)) 9 (tPtr rFact y)) 11 (tV (.int .i64 (k : Int)))) (fun k => []) (fun k => d.Tests.length - k) 0 ⟨by omega, fun q hq => by omega⟩ (zU) (LSub.rfl) ?_
 rintro k ⟨hk, hv⟩
 refine J_seq (Jr (Jm rfl (Js rfl (step_fieldAddr so59 Sr rfl) (Jl rfl ty57 Sr (Js rfl (step_len_sl underlying57 Sr) ?_)))))
 refine Js rfl (step_lss Sr Sr) (JL_nil ?_)
 refine J_cond Sr (fun h35 => ?_) (fun h35 => ?_)
 ·
  try simp only [NF] at h35
  have hk2 : k < d.Tests.length := by omega
  refine J_skip (J_seq (J_block (Jr (Js rfl (step_fieldAddr so59 Sr rfl) (Jl rfl ty57 Sr ?_)))))
  refine Jm rfl ?_
  refine Js rfl (step_indexAddr_sl  underlying57 ty107 Sr Sr rfl (gb (by show k < d.Tests.length; exact hk2))) ?_
  refine Jl rfl ty107 Sr ?_
  refine Jx rfl (step_alloc (fun w => zeroValue107 w) zr107) fun v12 => ?_
  refine Ju (step_store_box ty107 Sr Sr zS) fun _ => ?_
  refine JL_freeze (t := 12) (Sel.take (Sel.none _)) Frz.box ?_
  refine JL_nil (J_seq (Jr (Js rfl (step_fieldAddr so107 Sr rfl) (Jl rfl ty3 Sr (Js rfl (step_neq Sr Sr) ?_)))))
  refine Jm rfl ?_
  refine Jk rfl Sr rfl (step_fieldAddr so107 Sr rfl) ?_
  refine Jg rfl Sr rfl (fun hw => step_load_ptr ty3 (Sub.w hw)) (Jg rfl Sr rfl (fun hw => step_neq (Sub.w hw) Sr) (Js rfl (step_pick_or Sr Sr) (JL_nil ?_)))
  refine J_cond Sr (fun h50 => ?_) (fun h50 => ?_)
  ·
   try simp only [NF] at h50
   refine J_exit (J_region (Jm rfl (Js rfl (step_add Sr Sr z6) (Ja rfl (JL_nil ?_)))))
   refine K_againL (σ := Nat) (s := k) (k + 1) zO ?_ (zU) (LSub.rfl)
   refine ⟨by omega, fun q hq => ?_⟩
   by_cases e : q = k
   ·
    subst e; exact tstM_skip (by simpa using h50)
   exact hv q zG
  try simp only [NF] at h50
  refine J_skip (J_seq (Jr (Js rfl (step_fieldAddr so107 Sr rfl) (Js rfl (step_fieldAddr so105 Sr rfl) (Jl rfl ty3 Sr ?_)))))
  refine Jm rfl (Js rfl (step_eql Sr Sr) (Jm rfl ?_))
  refine Jk rfl Sr rfl (step_fieldAddr so107 Sr rfl) ?_
  refine Jg rfl Sr rfl (fun hw => step_fieldAddr so105 (Sub.w hw) rfl) (Jg rfl Sr rfl (fun hw => step_load_ptr ty3 (Sub.w hw)) ?_)
  refine Jk rfl Sr rfl (step_move Sr) ?_
  refine Jg rfl Sr rfl (fun hw => step_eql (Sub.w hw) (Sub.w hw)) (Js rfl (step_pick_and Sr Sr) (Jm rfl ?_))
  refine Jk rfl Sr rfl (step_load_ptr ty35 Sr) ?_
  refine Jk rfl Sr rfl (step_fieldAddr so107 Sr rfl) ?_
  refine Jg rfl Sr rfl (fun hw => step_fieldAddr so105 (Sub.w hw) rfl) (Jg rfl Sr rfl (fun hw => step_load_ptr ty3 (Sub.w hw)) ?_)
  refine Jk rfl Sr rfl (step_load_ptr ty35 Sr) ?_
  refine Jk rfl Sr rfl (step_fieldAddr so107 Sr rfl) ?_
  refine Jg rfl Sr rfl (fun hw => step_fieldAddr so105 (Sub.w hw) rfl) (Jg rfl Sr rfl (fun hw => step_load_ptr ty3 (Sub.w hw)) (Jg rfl Sr rfl (fun hw => step_call0 (equalP_spec _ _ _ _) ⟨(Sub.w hw), (Sub.w hw), (Sub.w hw), (Sub.w hw), trivial⟩ call67) (Jg rfl Sr rfl (fun hw => step_not (Sub.w hw)) (Js rfl (step_pick_and Sr Sr) (JL_nil ?_)))))
  refine J_cond Sr (fun h74 => ?_) (fun h74 => ?_)
  ·
   try simp only [NF] at h74
   refine Jr (Ja rfl (JL_nil (J_ret ?_)))
   refine K_retv (rv := .tmp 10) rfl () (.tmp Sr) (Sub.bool ?_)
   have hb : tstM i j x y (nth d.Tests k) = false := by rw [tstM_a (by simpa using h50) (by simp_all)]; simp_all
   rw [meetB, eqs_all, all_dropV _ hk2 hb, Bool.and_false]
  try simp only [NF] at h74
  refine J_skip (Jr (Js rfl (step_fieldAddr so107 Sr rfl) (Js rfl (step_fieldAddr so105 Sr rfl) (Jl rfl ty3 Sr (Jm rfl ?_)))))
  refine Js rfl (step_eql Sr Sr) (Jm rfl ?_)
  refine Jk rfl Sr rfl (step_fieldAddr so107 Sr rfl) ?_
  refine Jg rfl Sr rfl (fun hw => step_fieldAddr so105 (Sub.w hw) rfl) (Jg rfl Sr rfl (fun hw => step_load_ptr ty3 (Sub.w hw)) ?_)
  refine Jk rfl Sr rfl (step_move Sr) ?_
  refine Jg rfl Sr rfl (fun hw => step_eql (Sub.w hw) (Sub.w hw)) (Js rfl (step_pick_and Sr Sr) (Jm rfl ?_))
  refine Jk rfl Sr rfl (step_load_ptr ty35 Sr) ?_
  refine Jk rfl Sr rfl (step_fieldAddr so107 Sr rfl) ?_
  refine Jg rfl Sr rfl (fun hw => step_fieldAddr so105 (Sub.w hw) rfl) (Jg rfl Sr rfl (fun hw => step_load_ptr ty3 (Sub.w hw)) ?_)
  refine Jk rfl Sr rfl (step_load_ptr ty35 Sr) ?_
  refine Jk rfl Sr rfl (step_fieldAddr so107 Sr rfl) ?_
  refine Jg rfl Sr rfl (fun hw => step_fieldAddr so105 (Sub.w hw) rfl) (Jg rfl Sr rfl (fun hw => step_load_ptr ty3 (Sub.w hw)) (Jg rfl Sr rfl (fun hw => step_call0 (equalP_spec _ _ _ _) ⟨(Sub.w hw), (Sub.w hw), (Sub.w hw), (Sub.w hw), trivial⟩ call67) (Jg rfl Sr rfl (fun hw => step_not (Sub.w hw)) (Js rfl (step_pick_and Sr Sr) (JL_nil ?_)))))
  refine J_cond Sr (fun h98 => ?_) (fun h98 => ?_)
  ·
   try simp only [NF] at h98
   refine Jr (Ja rfl (JL_nil (J_ret ?_)))
   refine K_retv (rv := .tmp 10) rfl () (.tmp Sr) (Sub.bool ?_)
   have hb : tstM i j x y (nth d.Tests k) = false := by rw [tstM_b (by simpa using h50) hij2 (by simp_all)]; simp_all
   rw [meetB, eqs_all, all_dropV _ hk2 hb, Bool.and_false]
  try simp only [NF] at h98
  refine J_skip (J_region (Jm rfl (Js rfl (step_add Sr Sr z6) (Ja rfl (JL_nil ?_)))))
  refine K_againL (σ := Nat) (s := k) (k + 1) zO ?_ (zU) (LSub.rfl)
  refine ⟨by omega, fun q hq => ?_⟩
  by_cases e : q = k
  ·
   subst e; exact tstM_ok hij2 (fun r => by simp_all) (fun r => by simp_all)
  exact hv q zG
 try simp only [NF] at h35
 obtain rfl : k = d.Tests.length := by omega
 refine J_exit (Jr (Ja rfl (JL_nil (J_ret ?_))))
 refine K_retv (rv := .tmp 10) rfl () (.tmp Sr) (Sub.bool ?_)
 have h2 : d.Tests.all (tstM i j x y) = true := by
  rw [List.all_eq_true]
  intro t ht
  obtain ⟨q, hq, rfl⟩ := mem_nthV ht
  exact hv q hq
 rw [meetB, eqs_all, h2]; simp [h30]
set_option maxHeartbeats 2000000 in
theorem Meets_spec (rules : List GRule) (hr : RFew rules) (x y : GFact) : Fun1 prog 22 [tSl rRule rules, rFact.ty x, rFact.ty y] (tV (.bool (metB rules x y))) := by
 refine Spec.enter func22 rfl rfl fun h0 w0 fr0 => ?_
 have hrl := hr.rl
 refine Jr (Js rfl (step_box (R := rFact) Sr) (Js rfl (step_box (R := rFact) Sr) (Ja rfl (JL_nil (J_seq ?_)))))
 refine Jr (Js rfl (step_fieldAddr so35 Sr rfl) (Jl rfl ty3 Sr (Js rfl (step_fieldAddr so35 Sr rfl) (Jl rfl ty3 Sr (Js rfl (step_eql Sr Sr) ?_)))))
 refine JL_nil ?_
 refine J_cond Sr (fun h15 => ?_) (fun h15 => ?_)
 ·
  try simp only [NF] at h15
  refine Jr (Ja rfl (JL_nil (J_ret ?_)))
  refine K_retv (rv := .tmp 6) rfl () (.tmp Sr) (Sub.bool ?_)
  rw [metB_eq, decide_eq_true h15]; rfl
 try simp only [NF] at h15
 refine J_skip (J_seq (Jr (Ja rfl (JL_nil (J_block ?_)))))
 refine J_loopL (σ := Nat) (fun n => n ≤ rules.length ∧ ∀ q, q < n → metR (nth rules q) x y = false) (fun n => upd (upd (upd (upd env0 0 (tSl rRule rules)) 4 (tPtr rFact x)) 5 (tPtr rFact y)) 7 (tV (.int .i64 (n : Int)))) (fun n => []) (fun n => rules.length - n) 0 ⟨by omega, fun q hq => by omega⟩ (zU) (LSub.rfl) ?_
 rintro n ⟨hn, hv⟩
 refine J_seq (Jr (Jm rfl (Jm rfl (Js rfl (step_len_sl underlying22 Sr) (Js rfl (step_lss Sr Sr) ?_)))))
 refine JL_nil ?_
 refine J_cond Sr (fun h19 => ?_) (fun h19 => ?_)
 ·
  try simp only [NF] at h19
  have hn2 : n < rules.length := by omega
  have hrr := hr.rr _ (nth_mem hn2)
  have hll := lowerR_len (nth rules n)
  refine J_skip (J_seq (J_block (Jr (Jm rfl (Jm rfl ?_)))))
  refine Js rfl (step_indexAddr_sl  underlying22 ty59 Sr Sr rfl (gb (by exact hn2))) ?_
  refine Jl rfl ty59 Sr (Js rfl (step_call0 (LowerR_spec _ zG zG) ⟨Sr, trivial⟩ call47) (Ja rfl (JL_nil (J_seq (Jr ?_)))))
  refine Jm rfl (Js rfl (step_len_sl underlying22 Sr) (Js rfl (step_neq Sr Sr) (Jm rfl ?_)))
  refine Jk rfl Sr rfl (step_move Sr) ?_
  refine Jg rfl Sr rfl (fun hw => step_indexAddr_sl (i := 0) underlying22 ty59 (Sub.w hw) Sr (by rfl) (gb (by have hwq := hw; (try simp only [beqB_t, beqB_f, NF] at hwq); show 0 < (lowerR (nth rules n)).length; (try simp at hwq); omega))) ?_
  refine Jg rfl Sr rfl (fun hw => step_fieldAddr so59 (Sub.w hw) rfl) (Jg rfl Sr rfl (fun hw => step_load_ptr ty33 (Sub.w hw)) (Jg rfl Sr rfl (fun hw => step_len_sl underlying33 (Sub.w hw)) (Jg rfl Sr rfl (fun hw => step_gtr (Sub.w hw) Sr) (Js rfl (step_pick_or Sr Sr) (JL_nil ?_)))))
  refine J_cond Sr (fun h37 => ?_) (fun h37 => ?_)
  ·
   try simp only [NF] at h37
   refine J_exit (J_region (Jm rfl (Js rfl (step_add Sr Sr z6) (Ja rfl (JL_nil ?_)))))
   refine K_againL (σ := Nat) (s := n) (n + 1) zO ?_ (zU) (LSub.rfl)
   refine ⟨by omega, fun q hq => ?_⟩
   by_cases e : q = n
   ·
    subst e; exact metR_no zG
   exact hv q zG
  try simp only [NF] at h37
  have hl1 : ((lowerR (nth rules n)).length : Int) = 1 := by simp_all
  have hd3 : ((nth (lowerR (nth rules n)) 0).Tables.length : Int) ≤ 3 := by simp_all
  have hdt := lowerR_deny (nth_mem (show 0 < (lowerR (nth rules n)).length by omega))
  refine J_skip (Jr (Ja rfl (JL_nil (J_block ?_))))
  refine J_loopL (σ := Nat) (fun i => i ≤ (nth (lowerR (nth rules n)) 0).Tables.length ∧ ∀ q, q < i → metD (nth (lowerR (nth rules n)) 0) x y q = false) (fun i => upd (upd (upd (upd (upd (upd env0 0 (tSl rRule rules)) 4 (tPtr rFact x)) 5 (tPtr rFact y)) 7 (tV (.int .i64 (n : Int)))) 8 (tSl rRule (lowerR (nth rules n)))) 9 (tV (.int .i64 (i : Int)))) (fun i => []) (fun i => (nth (lowerR (nth rules n)) 0).Tables.length - i) 0 ⟨by omega, fun q hq => by omega⟩ (zU) (LSub.rfl) ?_
  rintro i ⟨hi, hvi⟩
  refine J_seq (Jr (Jm rfl (Jm rfl ?_)))
  refine Js rfl (step_indexAddr_sl (i := 0) underlying22 ty59 Sr Sr (by rfl) (gb (by show 0 < (lowerR (nth rules n)).length; omega))) ?_
  refine Js rfl (step_fieldAddr so59 Sr rfl) (Jl rfl ty33 Sr (Js rfl (step_len_sl underlying33 Sr) (Js rfl (step_lss Sr Sr) (JL_nil ?_))))
  refine J_cond Sr (fun h44 => ?_) (fun h44 => ?_)
  ·
   try simp only [NF] at h44
   have hi2 : i < (nth (lowerR (nth rules n)) 0).Tables.length := by omega
   refine J_skip (J_seq (J_block (Jr (Ja rfl (JL_nil ?_)))))
   refine J_block ?_
   refine J_loopL (σ := Nat) (fun j => j ≤ (nth (lowerR (nth rules n)) 0).Tables.length ∧ ∀ q, q < j → (decide (i ≠ q) && meetB (nth (lowerR (nth rules n)) 0) i q x y) = false) (fun j => upd (upd (upd (upd (upd (upd (upd env0 0 (tSl rRule rules)) 4 (tPtr rFact x)) 5 (tPtr rFact y)) 7 (tV (.int .i64 (n : Int)))) 8 (tSl rRule (lowerR (nth rules n)))) 9 (tV (.int .i64 (i : Int)))) 10 (tV (.int .i64 (j : Int)))) (fun j => []) (fun j => (nth (lowerR (nth rules n)) 0).Tables.length - j) 0 ⟨by omega, fun q hq => by omega⟩ (zU) (LSub.rfl) ?_
   rintro j ⟨hj, hvj⟩
   refine J_seq (Jr (Jm rfl (Jm rfl ?_)))
   refine Js rfl (step_indexAddr_sl (i := 0) underlying22 ty59 Sr Sr (by rfl) (gb (by show 0 < (lowerR (nth rules n)).length; omega))) ?_
   refine Js rfl (step_fieldAddr so59 Sr rfl) (Jl rfl ty33 Sr (Js rfl (step_len_sl underlying33 Sr) (Js rfl (step_lss Sr Sr) (JL_nil ?_))))
   refine J_cond Sr (fun h53 => ?_) (fun h53 => ?_)
   ·
    try simp only [NF] at h53
    have hj2 : j < (nth (lowerR (nth rules n)) 0).Tables.length := by omega
    refine J_skip (J_seq (J_block (J_seq ?_)))
    refine J_draw [⟨0, [9], true⟩, ⟨1, [10], true⟩, ⟨2, [56, 57], true⟩, ⟨3, [58], true⟩, ⟨4, [8, 59], true⟩, ⟨5, [59, 60], true⟩, ⟨6, [59, 61], true⟩, ⟨7, [9, 59], true⟩, ⟨8, [10, 59], true⟩, ⟨9, [4, 59], true⟩, ⟨10, [5, 59], true⟩, ⟨11, [59, 62, 63, 64, 65, 66], true⟩, ⟨12, [59, 67], true⟩] rfl (by kernel_rfl) ?_
    refine Mv rfl rfl (Mv rfl rfl (Mf rfl rfl (step_neq Sr Sr) (Mv rfl rfl ?_)))
    refine Mk rfl rfl Sr rfl (step_move Sr) ?_
    refine Mg rfl rfl Sr rfl (fun hw => step_indexAddr_sl (i := 0) underlying22 ty59 (Sub.w hw) Sr (by rfl) (gb (by have hwq := hw; (try simp only [beqB_t, beqB_f, NF] at hwq); show 0 < (lowerR (nth rules n)).length; omega))) ?_
    refine Mg rfl rfl Sr rfl (fun hw => step_load_ptr ty59 (Sub.w hw)) ?_
    refine Mk rfl rfl Sr rfl (step_move Sr) ?_
    refine Mk rfl rfl Sr rfl (step_move Sr) ?_
    refine Mk rfl rfl Sr rfl (step_load_ptr ty35 Sr) ?_
    refine Mk rfl rfl Sr rfl (step_load_ptr ty35 Sr) ?_
    refine Mg rfl rfl Sr rfl (fun hw => step_call0 (meetR_spec (nth (lowerR (nth rules n)) 0) i j x y hi2 hj2 (by simp at hw; omega) zG zG) ⟨(Sub.w hw), (Sub.w hw), (Sub.w hw), (Sub.w hw), (Sub.w hw), trivial⟩ call48) ?_
    refine Mf rfl rfl (step_pick_and Sr Sr) (JM_nil ?_)
    refine J_cond Sr (fun h68 => ?_) (fun h68 => ?_)
    ·
     try simp only [NF] at h68
     refine Jr (Ja rfl (JL_nil (J_ret ?_)))
     refine K_retv (rv := .tmp 6) rfl () (.tmp Sr) (Sub.bool ?_)
     have hb : metR (nth rules n) x y = true := by
      rw [metR_at hl1 hd3]
      exact any_rg1 hi2 (any_rg1 hj2 (by simp only [Bool.and_eq_true, decide_eq_true_eq]; exact ⟨by omega, h68.2⟩))
     rw [metB_eq, any_hit (p := fun r => metR r x y) hn2 hb, Bool.or_true]
    try simp only [NF] at h68
    refine J_skip (J_region (Jm rfl (Js rfl (step_add Sr Sr z6) (Ja rfl (JL_nil ?_)))))
    refine K_againL (σ := Nat) (s := j) (j + 1) zO ?_ (zU) (LSub.rfl)
    refine ⟨by omega, fun q hq => ?_⟩
    by_cases e : q = j
    ·
     subst e
     rcases h68 with r | r
     ·
      have r2 : i = q := by omega
      simp [r2]
     simp [r]
    exact hvj q zG
   try simp only [NF] at h53
   obtain rfl : j = (nth (lowerR (nth rules n)) 0).Tables.length := by omega
   refine J_exit (J_region (Jm rfl (Js rfl (step_add Sr Sr z6) (Ja rfl (JL_nil ?_)))))
   refine K_againL (σ := Nat) (s := i) (i + 1) zO ?_ (zU) (LSub.rfl)
   refine ⟨by omega, fun q hq => ?_⟩
   by_cases e : q = i
   ·
    subst e; exact any_rg hvj
   exact hvi q zG
  try simp only [NF] at h44
  obtain rfl : i = (nth (lowerR (nth rules n)) 0).Tables.length := by omega
  refine J_exit (J_region (Jm rfl (Js rfl (step_add Sr Sr z6) (Ja rfl (JL_nil ?_)))))
  refine K_againL (σ := Nat) (s := n) (n + 1) zO ?_ (zU) (LSub.rfl)
  refine ⟨by omega, fun q hq => ?_⟩
  by_cases e : q = n
  ·
   subst e; rw [metR_at hl1 hd3]; exact any_rg hvi
  exact hv q zG
 try simp only [NF] at h19
 obtain rfl : n = rules.length := by omega
 refine J_exit (Jr (Ja rfl (JL_nil (J_ret ?_))))
 refine K_retv (rv := .tmp 6) rfl () (.tmp Sr) (Sub.bool ?_)
 rw [metB_eq, any_no hv, decide_eq_false h15]; rfl
open Go Go.Proofs Go.Proofs.Tryz
theorem old_eq {rules : List GRule} (hr : RFew rules) {ps : PS} (hp : POk ps) {n : Int} {f : GFact} (hl : ps.length ≤ 11) (he : putE ps n = 0) : (vioN rules (insP ps n f)).filter (fun s => !s.contains n) = vioN rules ps := by
  obtain ⟨h0, h1, hn⟩ := putE_0.1 he
  have hp2 := hp.ins (f := f) hn h0 h1
  have H := hr.hyp (facts := gsP ps) (by rw [gsP_len]; omega)
  have H2 := hr.hyp (facts := gsP (insP ps n f)) (by rw [gsP_len, insP_len]; omega)
  refine strict_ext (List.Pairwise.sublist List.filter_sublist (vioN_strict hp2 H2)) (vioN_strict hp H) fun s => ?_
  rw [List.mem_filter, mem_vioN hp2 H2, mem_vioN hp H, (Less1.ins (f := f) hp hn h0 h1).min]
  simp
/-- A new violation has only facts that the new one meets. -/
theorem new_meet {rules : List GRule} (hr : RFew rules) {ps : PS} (hp : POk ps) {n : Int} {f : GFact} (hl : ps.length ≤ 11) (he : putE ps n = 0) {s : List Int} (hs : s ∈ vioN rules (insP ps n f)) (hns : n ∈ s) {m : Nat} (hm : m < ps.length) (hms : nth (nsP ps) m ∈ s) : metB rules f (nth (gsP ps) m) = true := by
  obtain ⟨h0, h1, hn⟩ := putE_0.1 he
  have hp2 := hp.ins (f := f) hn h0 h1
  have H2 := hr.hyp (facts := gsP (insP ps n f)) (by rw [gsP_len, insP_len]; omega)
  obtain ⟨⟨l, hnd, hin, hb, rfl⟩, _⟩ := (mem_vioN hp2 H2).1 hs
  have hns := sortI_mem.1 hns
  have hms := sortI_mem.1 hms
  have hmin : nth (nsP ps) m ∈ nsP ps := nth_mem (by rw [nsP_len]; exact hm)
  have hne : nth (nsP ps) m ≠ n := fun e => hn (e ▸ hmin)
  have fn : fO (insP ps n f) n = f := fO_iff hp2 (mem_insP.2 (.inl rfl))
  have fm : fO (insP ps n f) (nth (nsP ps) m) = nth (gsP ps) m := by
    rw [← (Less1.ins (f := f) hp hn h0 h1).eq _ hne]
    have := fO_no hp (i := (m : Int)) (by omega)
    simpa [noP] using this
  rw [metB_iff]
  obtain ⟨i, hi, ei⟩ := mem_nthV hns
  obtain ⟨j, hj, ej⟩ := mem_nthV hms
  have hij : i ≠ j := fun e => by rw [← e, ei] at ej; exact hne ej.symm
  have ni : nth (l.map (fO (insP ps n f))) i = f := by rw [nth_mapV _ hi, ei, fn]
  have nj : nth (l.map (fO (insP ps n f))) j = nth (gsP ps) m := by rw [nth_mapV _ hj, ej, fm]
  rcases hb with ⟨a, b, e, hx⟩ | ⟨d, hd, hle, hv⟩
  · left
    have hl2 : l.length = 2 := by have := congrArg List.length e; simpa using this
    rw [e] at ni nj
    have : (i = 0 ∧ j = 1) ∨ (i = 1 ∧ j = 0) := by omega
    rcases this with ⟨rfl, rfl⟩ | ⟨rfl, rfl⟩
    · have ni : a = f := ni
      have nj : b = nth (gsP ps) m := nj
      rw [← ni, ← nj]; exact hx.1
    · have ni : b = f := ni
      have nj : a = nth (gsP ps) m := nj
      rw [← ni, ← nj]; exact hx.1.symm
  · right
    have hmt := viol_meet hv (i := i) (j := j) (by rw [List.length_map]; exact hi) (by rw [List.length_map]; exact hj)
    rw [ni, nj] at hmt
    rw [List.length_map] at hle
    exact ⟨d, hd, i, j, by omega, by omega, hij, hmt⟩
theorem grd {α : Type} [Inhabited α] {B A : List α} {P : α → Bool} (h : B.filter P = A) {i : Nat} (hi : i < B.length) (hp : P (nth B i) = true) : ((B.take i).filter P).length < A.length ∧ nth A ((B.take i).filter P).length = nth B i := by
  have e : A = (B.take i).filter P ++ nth B i :: (B.drop (i + 1)).filter P := by
    rw [← h]
    conv => lhs; rw [← List.take_append_drop i B]
    rw [List.filter_append, List.drop_eq_getElem_cons hi, List.filter_cons, nth_get hi]
    rw [nth_get hi] at hp
    rw [if_pos hp]
  rw [e]
  refine ⟨by simp, ?_⟩
  rw [nth_get (by simp)]; simp
theorem grd_succ {α : Type} [Inhabited α] {B : List α} {P : α → Bool} {i : Nat} (hi : i < B.length) : ((B.take (i + 1)).filter P).length = ((B.take i).filter P).length + (if P (nth B i) = true then 1 else 0) := by
  rw [takeV hi, List.filter_append, List.length_append]
  cases h : P (nth B i) <;> simp [List.filter, h]
def cntM (rules : List GRule) (f : GFact) (qs : PS) : Nat := (qs.filter fun p => metB rules f p.2).length
theorem cnt_le (rules : List GRule) (f : GFact) (qs : PS) : cntM rules f qs ≤ qs.length := List.length_filter_le _ _
theorem nth_gs {ps : PS} {m : Nat} (h : m < ps.length) : (nth ps m).2 = nth (gsP ps) m := (nth_mapV (fun p : Int × GFact => p.2) h).symm
theorem cnt_succ {rules : List GRule} {f : GFact} {ps : PS} {m : Nat} (h : m < ps.length) : cntM rules f (ps.take (m + 1)) = cntM rules f (ps.take m) + (if metB rules f (nth (gsP ps) m) = true then 1 else 0) := by
  unfold cntM
  rw [grd_succ h, nth_gs h]
theorem cnt_met (rules : List GRule) (f : GFact) (ps : PS) : (cntM rules f ps : Int) = metN rules ps f := by
  unfold cntM metN; rw [metL_eq]
theorem FewO.app {rules : List GRule} {l : List GOp} {x : GOp} (h : FewO rules (l ++ [x])) : FewO rules l ∧ l.length ≤ 11 ∧ x.Fact.Row.length ≤ 1000000 :=
  have hl := h.ll
  ⟨⟨h.rf, by simp at hl; omega, fun y hy => h.row y (by simp [hy])⟩, by simp at hl; omega, h.row x (by simp)⟩
set_option maxHeartbeats 8000000 in
theorem lawPut_spec (rules : List GRule) (l : List GOp) (num : Int) (f : GFact) (hl : l.length * 96 ≤ 140737488351232) : Fun1 prog 5 [tSl rRule rules, tSl rOp l, tV (.int .i64 num), rFact.ty f] (tV (.bool true)) := by
 refine Spec.enter func5 rfl rfl fun h0 w0 fr0 => ?_
 refine Jr (Js rfl (step_box (R := rFact) Sr) (Ja rfl (JL_nil (Jr (Js rfl (step_call0 (head_spec) trivial call9) ?_)))))
 refine Ja rfl (JL_nil (J_seq (J_seq ?_)))
 refine J_draw [⟨0, [0], true⟩, ⟨2, [1], true⟩, ⟨4, [7], true⟩, ⟨5, [29], true⟩, ⟨6, [30], true⟩, ⟨1, [], false⟩, ⟨3, [26, 27], false⟩, ⟨7, [28, 31], false⟩, ⟨8, [25, 32], false⟩, ⟨9, [33], true⟩] rfl (by kernel_rfl) ?_
 refine Mv rfl rfl (Mv rfl rfl (Mf rfl rfl (step_load_ptr ty35 Sr) (Mf rfl rfl (step_build (x := (⟨false, 0, f⟩ : GOp)) (zs := [[Value.bool false], [Value.int .i64 0], [Value.int .i64 0, Value.int .i64 0, Value.int .i64 0, Value.slice none 0 0, Value.int .i64 0, Value.slice none 0 0]]) so37 (fun w => zeroValue37 w) ⟨Sr, trivial⟩ ⟨fun _ => rfl, fun _ => rfl, ⟨Sr, rfl⟩, trivial⟩) ?_)))
 refine Mf rfl rfl (step_literal (ys := [_]) underlying23 el37 ⟨rfl, Sr, trivial⟩ rfl (by decide)) ?_
 refine JM_stepX rfl rfl rfl rfl (step_literal_own (ys := []) underlying23 el37 trivial rfl (by decide)) fun v26 => ?_
 refine JM_stepX rfl rfl rfl rfl (step_append underlying23 el37 Sr Sr zS (by simp; omega) (by simp; omega)) fun v28 => ?_
 refine JM_stepX rfl rfl rfl rfl (step_append underlying23 el37 Sr Sr zS (by simp; omega) (by simp; omega)) fun v32 => ?_
 refine JM_look rfl rfl rfl rfl (step_call_look (Sel.take (Sel.none _)) (few_spec rules (l ++ [⟨false, 0, f⟩]) (by simp; omega)) (fun _ => Flat.v _) ⟨Frz.sub Sr, Frz.own' (by simp), trivial⟩ call10) ?_
 refine Mf rfl rfl (step_not Sr) (JM_nil ?_)
 refine J_cond Sr (fun h34 => ?_) (fun h34 => ?_)
 ·
  try simp only [NF] at h34
  refine K_drop (Sel.all _) ?_
  refine Jr (Jm rfl (Ja rfl (JL_nil (J_ret ?_))))
  refine K_retv (rv := .tmp 8) rfl () (.tmp Sr) Sr
 try simp only [NF] at h34
 refine K_drop (Sel.all _) ?_
 obtain ⟨hF, hl11, hrow⟩ := FewO.app (x := ⟨false, 0, f⟩) (FewO.of (l := l ++ [⟨false, 0, f⟩]) (by simpa using h34))
 have hR := hF.rf
 have hpl := presM_len l
 have h12 := pres12 (i := l.length) hF.ll
 rw [List.take_length] at h12
 have hok := presM_ok l
 have hnl := nsP_len (presM l)
 have hgl := gsP_len (presM l)
 have hwb := workM_bd rules hF.ll
 have hpk := putP_ok hok num f
 have hpn := putP_len (presM l) num f
 have hva := vioN_ok hR h12
 have hvb := vioN_ok (ps := (putP (presM l) num f)) hR zG
 have hpb := putW_bd rules (presM l) num f
 refine J_skip (Jr (Jm rfl ?_))
 refine Jx rfl (step_call (Sel.none _) (NewV_spec hR) ⟨Sr, trivial⟩ call11) fun b1 => ?_
 refine Ja rfl (JL_nil (J_seq (Jr (Ja rfl (JL_nil ?_)))))
 refine J_block ?_
 refine J_loopL (σ := Nat) (fun i => i ≤ l.length) (fun i => upd (upd (upd (upd (upd (upd (upd (upd env0 0 (tSl rRule rules)) 1 (tSl rOp l)) 2 (tV (.int .i64 num))) 7 (tPtr rFact f)) 8 (tV (.bool false))) 9 (tV (.bool true))) 10 (tAt b1 0)) 11 (tV (.int .i64 (i : Int)))) (fun i => [vigO rules b1 (presM (l.take i)) (workM rules (l.take i))]) (fun i => l.length - i) 0 (by exact Nat.zero_le _) (zU) (LSub.rfl) ?_
 rintro i hi
 refine J_seq (Jr (Jm rfl (Jm rfl (Js rfl (step_len_sl underlying23 Sr) (Js rfl (step_lss Sr Sr) ?_)))))
 refine JL_nil ?_
 refine J_cond Sr (fun h41 => ?_) (fun h41 => ?_)
 ·
  try simp only [NF] at h41
  have hlt : i < l.length := by omega
  refine J_skip (J_seq (J_block (J_region (Jm rfl (Jm rfl ?_)))))
  refine Jm rfl ?_
  refine Js rfl (step_indexAddr_sl  underlying23 ty37 Sr Sr rfl (gb (by exact hlt))) ?_
  refine Jl rfl ty37 Sr ?_
  refine Jx rfl (step_call zS (hF.step b1 hlt) ⟨Sr, Sr, trivial⟩ call13) fun v49 => ?_
  refine JL_nil (J_region (Jm rfl (Js rfl (step_add Sr Sr z6) (Ja rfl (JL_nil ?_)))))
  refine K_againL (σ := Nat) (s := i) (i + 1) zO (by show i + 1 ≤ _; omega) (zU) (LSub.rfl)
 try simp only [NF] at h41
 obtain rfl : i = l.length := by omega
 rw [List.take_length]
 refine J_exit (Jr (Jm rfl (Js rfl (step_call0 (present_spec _ zG) ⟨Sr, trivial⟩ call20) (Jm rfl (Js rfl (step_extract Sr rfl) ?_)))))
 refine Js rfl (step_extract Sr rfl) (Ja rfl (Ja rfl (JL_nil (Jr (Jm rfl ?_)))))
 refine Jx rfl (step_call zS (ListW_spec hR hok b1 h12) ⟨Sr, trivial⟩ call18) fun v56 => ?_
 refine Ja rfl (JL_nil (Jr (Jm rfl ?_)))
 refine Jx rfl (step_call zS (WorkV_spec b1) ⟨Sr, trivial⟩ call16) fun v58 => ?_
 refine Ja rfl (JL_nil (Jr (Jm rfl (Jm rfl (Jl rfl ty35 Sr ?_)))))
 refine Jx rfl (step_call zS (PutV_spec hR hok b1 num f h12 hrow zG) ⟨Sr, Sr, Sr, trivial⟩ call21) fun v62 => ?_
 refine Ja rfl (JL_nil (Jr (Jm rfl ?_)))
 refine Jx rfl (step_call zS (ListW_spec hR hpk b1 zG) ⟨Sr, trivial⟩ call18) fun v64 => ?_
 refine Ja rfl (JL_nil (J_seq (Jr (Jm rfl (Js rfl (step_neq Sr Sr) ?_)))))
 refine JL_nil ?_
 refine J_cond Sr (fun h66 => ?_) (fun h66 => ?_)
 ·
  try simp only [NF] at h66
  have hpp : (putP (presM l) num f) = (presM l) := by rw [putP, if_neg h66]
  have hww : (putW rules (presM l) num f) = 0 := by rw [putW, if_neg h66]
  refine Jr (Jm rfl (Jm rfl ?_))
  refine Jk rfl Sr rfl (step_move Sr) ?_
  refine JL_stepGX (tV (.bool false)) rfl rfl rfl (Gd.plain Sr) rfl rfl (fun hw => step_call zS (WorkV_spec b1) ⟨Sub.w hw, trivial⟩ call16) (fun hw v70 => ?_) (fun hw => (by exfalso; simp at hw))
  refine Jk rfl Sr rfl (step_move Sr) ?_
  refine Jg rfl Sr rfl (fun hw => step_eql (Sub.w hw) (Sub.w hw)) (Js rfl (step_pick_and Sr Sr) (Jm rfl ?_))
  refine Jk rfl Sr rfl (step_move Sr) ?_
  refine Jk rfl Sr rfl (step_move Sr) ?_
  refine Jg rfl Sr rfl (fun hw => step_call0 (SetsN_spec hva hvb) ⟨Sub.w hw, Sub.w hw, trivial⟩ call17) (Js rfl (step_pick_and Sr Sr) (Ja rfl (JL_nil (J_ret ?_))))
  refine K_drop (S := [vigO rules b1 (putP (presM l) num f) ((workM rules l) + (putW rules (presM l) num f))]) zS ?_
  refine K_retv (rv := .tmp 8) rfl () (.tmp Sr) (Sub.bool (by rw [hpp, hww]; simp [sS]))
 try simp only [NF] at h66
 have he0 : putE (presM l) num = 0 := by simpa using h66
 have hpp : (putP (presM l) num f) = insP (presM l) num f := by rw [putP, if_pos he0]
 have hww : (putW rules (presM l) num f) = metN rules (presM l) f := by rw [putW, if_pos he0]
 have hold : (vioN rules (putP (presM l) num f)).filter (fun s : List Int => !s.contains num) = (vioN rules (presM l)) := by rw [hpp]; exact old_eq hR hok zG he0
 refine J_skip (Jr (Ja rfl (JL_nil (J_seq (Jr ?_)))))
 refine Ja rfl (JL_nil (J_block ?_))
 refine J_loopL (σ := Nat) (fun q => q ≤ (presM l).length) (fun q => upd (upd (upd (upd (upd (upd (upd (upd (upd (upd (upd (upd (upd env0 0 (tSl rRule rules)) 2 (tV (.int .i64 num))) 7 (tPtr rFact f)) 8 (tV (.bool false))) 9 (tV (.bool true))) 10 (tAt b1 0)) 12 (tSl rInt (nsP (presM l)))) 13 (tSl rFact (gsP (presM l)))) 14 (tSl (rSl rInt) (vioN rules (presM l)))) 15 (tV (.int .i64 (workM rules l)))) 17 (tSl (rSl rInt) (vioN rules (putP (presM l) num f)))) 18 (tV (.int .i64 ((cntM rules f ((presM l).take q)) : Int)))) 19 (tV (.int .i64 (q : Int)))) (fun q => [vigO rules b1 (putP (presM l) num f) ((workM rules l) + (putW rules (presM l) num f))]) (fun q => (presM l).length - q) 0 (by exact Nat.zero_le _) (zU) (LSub.rfl) ?_
 rintro q hq
 refine J_seq (Jr (Jm rfl (Jm rfl (Js rfl (step_len_sl underlying41 Sr) (Js rfl (step_lss Sr Sr) ?_)))))
 refine JL_nil ?_
 refine J_cond Sr (fun h82 => ?_) (fun h82 => ?_)
 ·
  try simp only [NF] at h82
  have hqt : q < (presM l).length := by omega
  have hcb := cnt_le rules f ((presM l).take q)
  rw [List.length_take] at hcb
  refine J_skip (J_seq (J_block (J_seq ?_)))
  refine J_draw [⟨0, [0], true⟩, ⟨1, [7], true⟩, ⟨2, [13], true⟩, ⟨3, [19], true⟩, ⟨4, [87, 88], true⟩, ⟨5, [89], true⟩, ⟨6, [85, 86, 90], true⟩] rfl (by kernel_rfl) ?_
  refine Mv rfl rfl (Mf rfl rfl (step_load_ptr ty35 Sr) (Mv rfl rfl (Mv rfl rfl ?_)))
  refine Mf rfl rfl (step_indexAddr_sl  underlying41 ty35 Sr Sr rfl (gb (by show q < (gsP (presM l)).length; omega))) ?_
  refine Mf rfl rfl (step_load_ptr ty35 Sr) (Mf rfl rfl (step_call0 (Meets_spec _ hR _ _) ⟨Sr, Sr, Sr, trivial⟩ call22) (JM_nil ?_))
  refine J_cond Sr (fun h91 => ?_) (fun h91 => ?_)
  ·
   try simp only [NF] at h91
   refine J_region (Jm rfl (Js rfl (step_add Sr Sr z6) (Ja rfl (JL_nil (J_region ?_)))))
   refine Jm rfl (Js rfl (step_add Sr Sr z6) (Ja rfl (JL_nil ?_)))
   refine K_againL (σ := Nat) (s := q) (q + 1) zO (by show q + 1 ≤ _; omega) (.u (SubE.upd (Sub.int (by rw [cnt_succ hqt, if_pos h91]; push_cast; rfl)) (zU))) (LSub.rfl)
  try simp only [NF] at h91
  refine J_skip (J_region (Jm rfl (Js rfl (step_add Sr Sr z6) (Ja rfl (JL_nil ?_)))))
  refine K_againL (σ := Nat) (s := q) (q + 1) zO (by show q + 1 ≤ _; omega) (.u (SubE.upd (Sub.int (by rw [cnt_succ hqt, if_neg (by simpa using h91)]; rfl)) (zU))) (LSub.rfl)
 try simp only [NF] at h82
 obtain rfl : q = (presM l).length := by omega
 have hcm := cnt_met rules f (presM l)
 have hmb := metN_le rules (presM l) f
 rw [List.take_length]
 refine J_exit (J_seq (Jr (Jm rfl ?_)))
 refine Jx rfl (step_call zS (WorkV_spec b1) ⟨Sr, trivial⟩ call16) fun v95 => ?_
 refine Jm rfl (Jm rfl (Js rfl (step_add Sr Sr z6) (Js rfl (step_neq Sr Sr) (Jm rfl ?_))))
 refine Jk rfl Sr rfl (step_move Sr) ?_
 refine Jk rfl Sr rfl (step_move Sr) ?_
 refine Jg rfl Sr rfl (fun hw => step_len_sl underlying41 (Sub.w hw)) (Jg rfl Sr rfl (fun hw => step_gtr (Sub.w hw) (Sub.w hw)) (Js rfl (step_pick_or Sr Sr) (JL_nil ?_)))
 refine J_cond Sr (fun h105 => ?_) (fun h105 => ?_)
 ·
  try simp only [NF] at h105
  exfalso; omega
 try simp only [NF] at h105
 refine J_skip (Jr (Ja rfl (JL_nil (J_seq (Jr ?_)))))
 refine Ja rfl (JL_nil (J_block ?_))
 refine J_loopL (σ := Nat) (fun i => i ≤ (vioN rules (putP (presM l) num f)).length) (fun i => upd (upd (upd (upd (upd (upd (upd (upd (upd (upd env0 0 (tSl rRule rules)) 2 (tV (.int .i64 num))) 7 (tPtr rFact f)) 9 (tV (.bool true))) 12 (tSl rInt (nsP (presM l)))) 13 (tSl rFact (gsP (presM l)))) 14 (tSl (rSl rInt) (vioN rules (presM l)))) 17 (tSl (rSl rInt) (vioN rules (putP (presM l) num f)))) 20 (tV (.int .i64 ((((vioN rules (putP (presM l) num f)).take i).filter (fun s : List Int => !s.contains num)).length : Int)))) 21 (tV (.int .i64 (i : Int)))) (fun i => [vigO rules b1 (putP (presM l) num f) ((workM rules l) + (putW rules (presM l) num f))]) (fun i => (vioN rules (putP (presM l) num f)).length - i) 0 (by exact Nat.zero_le _) (zU) (LSub.rfl) ?_
 rintro i hi4
 refine J_seq (Jr (Jm rfl (Jm rfl (Js rfl (step_len_sl underlying45 Sr) (Js rfl (step_lss Sr Sr) ?_)))))
 refine JL_nil ?_
 refine J_cond Sr (fun h109 => ?_) (fun h109 => ?_)
 ·
  try simp only [NF] at h109
  have hit : i < (vioN rules (putP (presM l) num f)).length := by omega
  have hBm := nth_mem hit
  have hBl := hvb.2 _ hBm
  refine J_skip (J_seq (J_block (J_seq (J_seq ?_))))
  refine J_draw [⟨0, [20], true⟩, ⟨1, [14], true⟩, ⟨2, [113], true⟩, ⟨3, [112, 114], true⟩, ⟨4, [115], true⟩, ⟨5, [14, 116], true⟩, ⟨6, [20, 116], true⟩, ⟨7, [116, 117, 118], true⟩, ⟨8, [116, 119], true⟩, ⟨9, [17, 116], true⟩, ⟨10, [21, 116], true⟩, ⟨11, [116, 121, 122], true⟩, ⟨12, [116, 123], true⟩, ⟨13, [116, 120, 124], true⟩, ⟨14, [116, 125], true⟩] rfl (by kernel_rfl) ?_
  refine Mv rfl rfl (Mv rfl rfl (Mf rfl rfl (step_len_sl underlying45 Sr) (Mf rfl rfl (step_lss Sr Sr) (Mv rfl rfl ?_))))
  refine Mk rfl rfl Sr rfl (step_move Sr) ?_
  refine Mk rfl rfl Sr rfl (step_move Sr) ?_
  refine Mg rfl rfl Sr rfl (fun hw => step_indexAddr_sl  underlying45 ty33 (Sub.w hw) (Sub.w hw) rfl (gb (by have hwq := hw; (try simp only [beqB_t, beqB_f, NF] at hwq); omega))) ?_
  refine Mg rfl rfl Sr rfl (fun hw => step_load_ptr ty33 (Sub.w hw)) ?_
  refine Mk rfl rfl Sr rfl (step_move Sr) ?_
  refine Mk rfl rfl Sr rfl (step_move Sr) ?_
  refine Mg rfl rfl Sr rfl (fun hw => step_indexAddr_sl  underlying45 ty33 (Sub.w hw) (Sub.w hw) rfl (gb (by have hwq := hw; (try simp only [beqB_t, beqB_f, NF] at hwq); exact hit))) ?_
  refine Mg rfl rfl Sr rfl (fun hw => step_load_ptr ty33 (Sub.w hw)) ?_
  refine Mg rfl rfl Sr rfl (fun hw => step_call0 (Ints_spec _ _ (by have := hva.2 _ (nth_mem (show (((vioN rules (putP (presM l) num f)).take i).filter (fun s : List Int => !s.contains num)).length < (vioN rules (presM l)).length by have hw9 := hw; simp only [beqB_t, beqB_f, decide_eq_true_eq] at hw9; omega)); omega) zG) ⟨(Sub.w hw), (Sub.w hw), trivial⟩ call23) ?_
  refine Mf rfl rfl (step_pick_and Sr Sr) (JM_nil ?_)
  refine J_cond Sr (fun h126 => ?_) (fun h126 => ?_)
  ·
   try simp only [NF] at h126
   have hk2 : nth (vioN rules (presM l)) (((vioN rules (putP (presM l) num f)).take i).filter (fun s : List Int => !s.contains num)).length = (nth (vioN rules (putP (presM l) num f)) i) := intsB_iff.1 h126.2
   have hkl : (((vioN rules (putP (presM l) num f)).take i).filter (fun s : List Int => !s.contains num)).length < (vioN rules (presM l)).length := by omega
   have hP : (fun s : List Int => !s.contains num) (nth (vioN rules (putP (presM l) num f)) i) = true := (by have h9 := nth_mem hkl; rw [hk2, ← hold] at h9; exact (List.mem_filter.1 h9).2)
   refine Jr (Jm rfl (Js rfl (step_add Sr Sr z6) (Ja rfl (JL_nil (J_exit ?_)))))
   refine J_region (Jm rfl (Js rfl (step_add Sr Sr z6) (Ja rfl (JL_nil ?_))))
   refine K_againL (σ := Nat) (s := i) (i + 1) zO (by show i + 1 ≤ _; omega) (.u (SubE.upd (Sub.int (by rw [grd_succ hit, if_pos hP]; push_cast; rfl)) (zU))) (LSub.rfl)
  try simp only [NF] at h126
  have hnP : num ∈ (nth (vioN rules (putP (presM l) num f)) i) := Classical.byContradiction fun hc => (by obtain ⟨g1, g2⟩ := grd hold hit (show (fun s : List Int => !s.contains num) (nth (vioN rules (putP (presM l) num f)) i) = true by simpa using hc); rcases h126 with r | r; omega; rw [g2, intsB_iff.2 rfl] at r; cases r)
  refine J_skip (J_seq (Jr (Jm rfl (Jm rfl ?_))))
  refine Js rfl (step_indexAddr_sl  underlying45 ty33 Sr Sr rfl (gb (by exact hit))) ?_
  refine Jl rfl ty33 Sr (Jm rfl (Js rfl (step_call0 (In_spec _ _ zG) ⟨Sr, Sr, trivial⟩ call24) (Js rfl (step_not Sr) (JL_nil ?_))))
  refine J_cond Sr (fun h135 => ?_) (fun h135 => ?_)
  ·
   try simp only [NF] at h135
   exfalso; simp at h135; exact h135 hnP
  try simp only [NF] at h135
  refine J_skip (Jr (Ja rfl (JL_nil (J_block ?_))))
  refine J_loopL (σ := Nat) (fun x => x ≤ (nth (vioN rules (putP (presM l) num f)) i).length) (fun x => upd (upd (upd (upd (upd (upd (upd (upd (upd (upd (upd env0 0 (tSl rRule rules)) 2 (tV (.int .i64 num))) 7 (tPtr rFact f)) 9 (tV (.bool true))) 12 (tSl rInt (nsP (presM l)))) 13 (tSl rFact (gsP (presM l)))) 14 (tSl (rSl rInt) (vioN rules (presM l)))) 17 (tSl (rSl rInt) (vioN rules (putP (presM l) num f)))) 20 (tV (.int .i64 ((((vioN rules (putP (presM l) num f)).take i).filter (fun s : List Int => !s.contains num)).length : Int)))) 21 (tV (.int .i64 (i : Int)))) 22 (tV (.int .i64 (x : Int)))) (fun x => [vigO rules b1 (putP (presM l) num f) ((workM rules l) + (putW rules (presM l) num f))]) (fun x => (nth (vioN rules (putP (presM l) num f)) i).length - x) 0 (by exact Nat.zero_le _) (zU) (LSub.rfl) ?_
  rintro x hx6
  refine J_seq (Jr (Jm rfl (Jm rfl (Jm rfl ?_))))
  refine Js rfl (step_indexAddr_sl  underlying45 ty33 Sr Sr rfl (gb (by exact hit))) ?_
  refine Jl rfl ty33 Sr (Js rfl (step_len_sl underlying33 Sr) (Js rfl (step_lss Sr Sr) (JL_nil ?_)))
  refine J_cond Sr (fun h142 => ?_) (fun h142 => ?_)
  ·
   try simp only [NF] at h142
   have hxt : x < (nth (vioN rules (putP (presM l) num f)) i).length := by omega
   refine J_skip (J_seq (J_block (Jr (Ja rfl (JL_nil ?_)))))
   refine J_block ?_
   refine J_loopL (σ := Nat) (fun m => m ≤ (presM l).length) (fun m => upd (upd (upd (upd (upd (upd (upd (upd (upd (upd (upd (upd env0 0 (tSl rRule rules)) 2 (tV (.int .i64 num))) 7 (tPtr rFact f)) 9 (tV (.bool true))) 12 (tSl rInt (nsP (presM l)))) 13 (tSl rFact (gsP (presM l)))) 14 (tSl (rSl rInt) (vioN rules (presM l)))) 17 (tSl (rSl rInt) (vioN rules (putP (presM l) num f)))) 20 (tV (.int .i64 ((((vioN rules (putP (presM l) num f)).take i).filter (fun s : List Int => !s.contains num)).length : Int)))) 21 (tV (.int .i64 (i : Int)))) 22 (tV (.int .i64 (x : Int)))) 23 (tV (.int .i64 (m : Int)))) (fun m => [vigO rules b1 (putP (presM l) num f) ((workM rules l) + (putW rules (presM l) num f))]) (fun m => (presM l).length - m) 0 (by exact Nat.zero_le _) (zU) (LSub.rfl) ?_
   rintro m hm8
   refine J_seq (Jr (Jm rfl (Jm rfl (Js rfl (step_len_sl underlying33 Sr) (Js rfl (step_lss Sr Sr) ?_)))))
   refine JL_nil ?_
   refine J_cond Sr (fun h148 => ?_) (fun h148 => ?_)
   ·
    try simp only [NF] at h148
    have hmt : m < (presM l).length := by omega
    refine J_skip (J_seq (J_block (J_seq ?_)))
    refine J_draw [⟨0, [12], true⟩, ⟨1, [23], true⟩, ⟨2, [151, 152], true⟩, ⟨3, [153], true⟩, ⟨4, [17], true⟩, ⟨5, [21], true⟩, ⟨6, [155, 156], true⟩, ⟨7, [157], true⟩, ⟨8, [22], true⟩, ⟨9, [158, 159], true⟩, ⟨10, [160], true⟩, ⟨11, [154, 161], true⟩, ⟨12, [162], true⟩, ⟨13, [0, 163], true⟩, ⟨14, [7, 163], true⟩, ⟨15, [13, 163], true⟩, ⟨16, [23, 163], true⟩, ⟨17, [163, 166, 167], true⟩, ⟨18, [163, 168], true⟩, ⟨19, [163, 164, 165, 169], true⟩, ⟨20, [163, 170], true⟩, ⟨21, [163, 171], true⟩] rfl (by kernel_rfl) ?_
    refine Mv rfl rfl (Mv rfl rfl ?_)
    refine Mf rfl rfl (step_indexAddr_sl  underlying33 ty3 Sr Sr rfl (gb (by show m < (nsP (presM l)).length; omega))) ?_
    refine Mf rfl rfl (step_load_ptr ty3 Sr) (Mv rfl rfl (Mv rfl rfl ?_))
    refine Mf rfl rfl (step_indexAddr_sl  underlying45 ty33 Sr Sr rfl (gb (by exact hit))) ?_
    refine Mf rfl rfl (step_load_ptr ty33 Sr) (Mv rfl rfl ?_)
    refine Mf rfl rfl (step_indexAddr_sl  underlying33 ty3 Sr Sr rfl (gb (by exact hxt))) ?_
    refine Mf rfl rfl (step_load_ptr ty3 Sr) (Mf rfl rfl (step_eql Sr Sr) (Mv rfl rfl ?_))
    refine Mk rfl rfl Sr rfl (step_move Sr) ?_
    refine Mk rfl rfl Sr rfl (step_load_ptr ty35 Sr) ?_
    refine Mk rfl rfl Sr rfl (step_move Sr) ?_
    refine Mk rfl rfl Sr rfl (step_move Sr) ?_
    refine Mg rfl rfl Sr rfl (fun hw => step_indexAddr_sl  underlying41 ty35 (Sub.w hw) (Sub.w hw) rfl (gb (by have hwq := hw; (try simp only [beqB_t, beqB_f, NF] at hwq); show m < (gsP (presM l)).length; omega))) ?_
    refine Mg rfl rfl Sr rfl (fun hw => step_load_ptr ty35 (Sub.w hw)) (Mg rfl rfl Sr rfl (fun hw => step_call0 (Meets_spec _ hR _ _) ⟨(Sub.w hw), (Sub.w hw), (Sub.w hw), trivial⟩ call22) (Mg rfl rfl Sr rfl (fun hw => step_not (Sub.w hw)) (Mf rfl rfl (step_pick_and Sr Sr) (JM_nil ?_))))
    refine J_cond Sr (fun h172 => ?_) (fun h172 => ?_)
    ·
     try simp only [NF] at h172
     exfalso; have hbm := hBm; rw [hpp] at hbm; have := new_meet hR hok zG he0 (s := (nth (vioN rules (putP (presM l) num f)) i)) (by rw [← hpp] at hbm ⊢; exact hbm) hnP hmt (by rw [h172.1]; exact nth_mem hxt); simp_all
    try simp only [NF] at h172
    refine J_skip (J_region (Jm rfl (Js rfl (step_add Sr Sr z6) (Ja rfl (JL_nil ?_)))))
    refine K_againL (σ := Nat) (s := m) (m + 1) zO (by show m + 1 ≤ _; omega) (zU) (LSub.rfl)
   try simp only [NF] at h148
   obtain rfl : m = (presM l).length := by omega
   refine J_exit (J_region (Jm rfl (Js rfl (step_add Sr Sr z6) (Ja rfl (JL_nil ?_)))))
   refine K_againL (σ := Nat) (s := x) (x + 1) zO (by show x + 1 ≤ _; omega) (zU) (LSub.rfl)
  try simp only [NF] at h142
  obtain rfl : x = (nth (vioN rules (putP (presM l) num f)) i).length := by omega
  refine J_exit (J_region (Jm rfl (Js rfl (step_add Sr Sr z6) (Ja rfl (JL_nil ?_)))))
  refine K_againL (σ := Nat) (s := i) (i + 1) zO (by show i + 1 ≤ _; omega) (.u (SubE.upd (Sub.int (by rw [grd_succ hit, if_neg (by simpa using hnP)]; rfl)) (zU))) (LSub.rfl)
 try simp only [NF] at h109
 obtain rfl : i = (vioN rules (putP (presM l) num f)).length := by omega
 refine J_exit (Jr (Jm rfl (Jm rfl ?_)))
 refine Jk rfl Sr rfl (step_move Sr) ?_
 refine Jk rfl Sr rfl (step_move Sr) ?_
 refine Jg rfl Sr rfl (fun hw => step_len_sl underlying45 (Sub.w hw)) (Jg rfl Sr rfl (fun hw => step_eql (Sub.w hw) (Sub.w hw)) (Js rfl (step_pick_and Sr Sr) (Ja rfl (JL_nil (J_ret ?_)))))
 refine K_drop (S := [vigO rules b1 (putP (presM l) num f) ((workM rules l) + (putW rules (presM l) num f))]) zS ?_
 refine K_retv (rv := .tmp 8) rfl () (.tmp Sr) (Sub.bool (by rw [List.take_length, hold]; simp))
end Lg
