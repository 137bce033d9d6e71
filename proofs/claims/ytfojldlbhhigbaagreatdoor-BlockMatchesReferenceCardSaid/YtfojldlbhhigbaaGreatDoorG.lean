/- Walks of block: Keys, places, Near, Pairs; the plain law of pairs. -/
import Derived.Test.YtfojldlbhhigbaaGreatDoorE
set_option linter.unusedVariables false
set_option linter.unusedSimpArgs false
set_option linter.unusedSectionVars false
/- The order of strings; lists sorted and cut. -/
namespace Lg
open Go Go.Proofs
open Go.Sort (SWO)
theorem cb_lt : ∀ (a b : List UInt8), Lib.compareBytes a b < 0 ↔ a < b
  | [], [] => by simp [Lib.compareBytes]
  | [], _ :: _ => by simp [Lib.compareBytes]
  | _ :: _, [] => by simp [Lib.compareBytes]
  | a :: ra, b :: rb => by
    have ih := cb_lt ra rb
    simp only [Lib.compareBytes, List.cons_lt_cons_iff]
    by_cases h1 : a < b
    · simp [h1]
    · by_cases h2 : b < a
      · have : a ≠ b := fun e => by subst e; exact h1 h2
        simp [h1, h2, this]
      · have : a = b := UInt8.le_antisymm (UInt8.not_lt.1 h2) (UInt8.not_lt.1 h1)
        subst this
        simp [h1, ih]
def cbB (x y : ByteArray) : Int := Lib.compareBytes (ofB x) (ofB y)
theorem lt_cbB {x y : ByteArray} : ltOf cbB x y = decide (ofB x < ofB y) := by
  unfold ltOf cbB
  rw [decide_eq_decide]; exact cb_lt _ _
theorem swo_of_lt {α β : Type} [LT β] (f : α → β) (le_tot : ∀ a b : β, ¬ a < b → ¬ b < a → a = b) (irr : ∀ a : β, ¬ a < a) (tr : ∀ a b c : β, a < b → b < c → a < c) [DecidableRel (fun a b : β => a < b)] : SWO fun x y => decide (f x < f y) where
  irrefl x := by simp [irr]
  trans x y z h1 h2 := by simp only [decide_eq_true_eq] at *; exact tr _ _ _ h1 h2
  ntrans x y z h1 h2 := by
    simp only [decide_eq_false_iff_not] at *
    intro h3
    by_cases h4 : f y < f x
    · exact h2 (tr _ _ _ h4 h3)
    · rw [le_tot _ _ h1 h4] at h3; exact h2 h3
theorem swo_cbB : SWO (ltOf cbB) := by
  have : (ltOf cbB) = fun x y => decide (ofB x < ofB y) := by funext x y; exact lt_cbB
  rw [this]
  exact swo_of_lt ofB (fun a b h1 h2 => List.le_antisymm (List.not_lt.1 h2) (List.not_lt.1 h1)) (fun a => List.lt_irrefl a) (fun a b c => List.lt_trans)
theorem ofB_inj {x y : ByteArray} (h : ofB x = ofB y) : x = y := by rw [← toB_ofB x, h, toB_ofB]
theorem sortS_of {xs ys : List ByteArray} (hp : ys.Perm xs) (hs : ys.Pairwise fun a b => ltOf cbB b a = false) : ys = sortS xs := by
  have p : (ys.map ofB).Perm ((xs.map ofB).mergeSort fun x y => decide (x ≤ y)) := (hp.map ofB).trans (List.mergeSort_perm _ _).symm
  have s1 : (ys.map ofB).Pairwise fun a b => decide (a ≤ b) = true := by
    rw [List.pairwise_map]
    refine hs.imp fun {a b} h => ?_
    rw [lt_cbB] at h
    simp only [decide_eq_false_iff_not] at h
    simp only [decide_eq_true_eq]
    exact List.not_lt.1 h
  have s2 := List.pairwise_mergeSort leL_trans leL_tot (xs.map ofB)
  have := p.eq_of_pairwise (le := fun a b => decide (a ≤ b) = true) (fun a b _ _ h1 h2 => by
    simp only [decide_eq_true_eq] at h1 h2
    exact List.le_antisymm h1 h2) s1 s2
  unfold sortS
  rw [← this, map_toB]
/-- What a record's texts become: without empty ones, in order, each once. -/
def finM (l : List ByteArray) : List ByteArray := compS (sortS (l.filter fun x => !decide (ofB x = [])))
/-- Strictly increasing. -/
def incB (l : List ByteArray) : Prop := l.Pairwise fun a b => ofB a < ofB b
theorem compact_of (d : Array (List UInt8)) (hs : ∀ i j, i < j → j < d.size → d[i]! ≤ d[j]!) : ∀ m, m ≤ d.size → ((Lib.compactUpTo d m).Pairwise (· < ·)) ∧ ∀ x, x ∈ Lib.compactUpTo d m ↔ ∃ j, j < m ∧ d[j]! = x
  | 0, _ => by simp [Lib.compactUpTo]
  | m + 1, hm => by
    obtain ⟨ih1, ih2⟩ := compact_of d hs m (by omega)
    rw [Lib.compactUpTo_succ]
    by_cases hk : Lib.keeps d m = true
    · rw [if_pos hk]
      refine ⟨List.pairwise_append.2 ⟨ih1, by simp, fun a ha b hb => ?_⟩, fun x => ?_⟩
      · simp only [List.mem_singleton] at hb
        subst hb
        obtain ⟨j, hj, rfl⟩ := (ih2 a).1 ha
        have h0 : m ≠ 0 := by omega
        have hne : d[m - 1]! ≠ d[m]! := by
          simp only [Lib.keeps] at hk
          intro e
          simp [h0, e] at hk
        have h1 : d[j]! ≤ d[m - 1]! := by
          by_cases e : j = m - 1
          · rw [e]; exact List.le_refl _
          · exact hs _ _ (by omega) (by omega)
        have h2 := hs (m - 1) m (by omega) (by omega)
        exact List.not_le.1 fun h3 => hne (List.le_antisymm h2 (List.le_trans h3 h1))
      · rw [List.mem_append, ih2, List.mem_singleton]
        constructor
        · rintro (⟨j, hj, rfl⟩ | rfl)
          · exact ⟨j, by omega, rfl⟩
          · exact ⟨m, by omega, rfl⟩
        · rintro ⟨j, hj, rfl⟩
          by_cases e : j = m
          · exact .inr (by rw [e])
          · exact .inl ⟨j, by omega, rfl⟩
    · rw [if_neg hk, List.append_nil]
      refine ⟨ih1, fun x => ?_⟩
      rw [ih2]
      have h0 : m ≠ 0 ∧ d[m - 1]! = d[m]! := by
        simp only [Lib.keeps] at hk
        by_cases e0 : m = 0
        · simp [e0] at hk
        · refine ⟨e0, ?_⟩
          simp [e0] at hk
          first | exact hk | exact hk.symm
      constructor
      · rintro ⟨j, hj, rfl⟩; exact ⟨j, by omega, rfl⟩
      · rintro ⟨j, hj, rfl⟩
        by_cases e : j = m
        · exact ⟨m - 1, by omega, by rw [e, h0.2]⟩
        · exact ⟨j, by omega, rfl⟩
theorem mem_sortS {x : ByteArray} {l : List ByteArray} : x ∈ sortS l ↔ x ∈ l := by
  unfold sortS
  rw [List.mem_map]
  constructor
  · rintro ⟨a, ha, rfl⟩
    rw [List.mem_mergeSort, List.mem_map] at ha
    obtain ⟨b, hb, rfl⟩ := ha
    rw [toB_ofB]; exact hb
  · intro h
    exact ⟨ofB x, by rw [List.mem_mergeSort]; exact List.mem_map_of_mem h, toB_ofB x⟩
theorem compS_sortS (l : List ByteArray) : incB (compS (sortS l)) ∧ ∀ x, x ∈ compS (sortS l) ↔ x ∈ l := by
  have e0 : ((sortS l).map ofB) = (l.map ofB).mergeSort fun x y => decide (x ≤ y) := by
    unfold sortS
    rw [List.map_map]
    conv => rhs; rw [← List.map_id ((l.map ofB).mergeSort fun x y => decide (x ≤ y))]
    exact List.map_congr_left fun x _ => ofB_toB x
  have s2 := List.pairwise_mergeSort leL_trans leL_tot (l.map ofB)
  rw [← e0] at s2
  have hs : ∀ i j, i < j → j < ((sortS l).map ofB).toArray.size → ((sortS l).map ofB).toArray[i]! ≤ ((sortS l).map ofB).toArray[j]! := fun i j hij hj => by
    rw [List.pairwise_iff_getElem] at s2
    have hj' : j < ((sortS l).map ofB).length := by simpa using hj
    have := s2 i j (by omega) hj' hij
    rw [getElem!_pos _ i (by simpa using Nat.lt_trans hij hj'), getElem!_pos _ j (by simpa using hj')]
    simpa using this
  obtain ⟨h1, h2⟩ := compact_of _ hs ((sortS l).map ofB).length (by simp)
  unfold compS Lib.compact
  refine ⟨?_, fun x => ?_⟩
  · unfold incB
    rw [List.pairwise_map]
    refine h1.imp fun {a b} h => ?_
    rw [ofB_toB, ofB_toB]; exact h
  · rw [List.mem_map]
    constructor
    · rintro ⟨a, ha, rfl⟩
      obtain ⟨j, hj, rfl⟩ := (h2 a).1 ha
      rw [← mem_sortS (l := l)]
      rw [getElem!_pos _ j (by simpa using hj)]
      simp only [List.getElem_toArray, List.getElem_map]
      rw [toB_ofB]
      exact List.getElem_mem _
    · intro hx
      have hx' := mem_sortS.2 hx
      obtain ⟨j, hj, rfl⟩ := List.getElem_of_mem hx'
      refine ⟨ofB (sortS l)[j], (h2 _).2 ⟨j, by simpa using hj, ?_⟩, toB_ofB _⟩
      rw [getElem!_pos _ j (by simpa using hj)]
      simp
theorem incB_nodup {l : List ByteArray} (h : incB l) : l.Nodup := h.imp fun {a b} q e => by subst e; exact List.lt_irrefl _ q
theorem incB_ext : ∀ {a b : List ByteArray}, incB a → incB b → (∀ x, x ∈ a ↔ x ∈ b) → a = b := fun {a b} ha hb h =>
  ((List.perm_ext_iff_of_nodup (incB_nodup ha) (incB_nodup hb)).2 h).eq_of_pairwise (le := fun x y => ofB x ≤ ofB y) (fun x y _ _ h1 h2 => ofB_inj (List.le_antisymm h1 h2)) (ha.imp fun h => List.le_of_lt h) (hb.imp fun h => List.le_of_lt h)
theorem finM_inc (l : List ByteArray) : incB (finM l) := (compS_sortS _).1
theorem mem_finM {l : List ByteArray} {x : ByteArray} : x ∈ finM l ↔ x ∈ l ∧ x ≠ ⟨#[]⟩ := by
  unfold finM
  rw [(compS_sortS _).2, List.mem_filter]
  simp only [Bool.not_eq_true', decide_eq_false_iff_not]
  refine and_congr Iff.rfl (not_congr ⟨fun h => ofB_inj h, fun h => by rw [h]⟩)
end Lg

namespace Lg
open Go Go.Proofs


theorem tok_mem {s t : ByteArray} (h : t ∈ tokM s) : t ∈ wordsM s := by
  unfold tokM at h
  rw [mem_sortS] at h
  have key : ∀ (ys : List ByteArray) (m : List (ByteArray × Bool)) (x : ByteArray), x ∈ (ys.foldl (fun m s => mput m s true) m).map (·.1) → x ∈ m.map (·.1) ∨ x ∈ ys := by
    intro ys
    induction ys with
    | nil => intro m x h; exact .inl h
    | cons y ys ih =>
      intro m x h
      rcases ih _ _ h with h | h
      · have : ∀ (m : List (ByteArray × Bool)), x ∈ (mput m y true).map (·.1) → x ∈ m.map (·.1) ∨ x = y := by
          intro m
          induction m with
          | nil => intro h; simp [mput] at h; exact .inr h
          | cons a m ihm =>
            obtain ⟨k, z⟩ := a
            intro h
            by_cases hk : y = k
            · simp only [mput, if_pos hk, List.map_cons, List.mem_cons] at h ⊢
              rcases h with h | h
              · exact .inl (.inl (by first | exact h | exact h.trans hk))
              · exact .inl (.inr h)
            · simp only [mput, if_neg hk, List.map_cons, List.mem_cons] at h ⊢
              rcases h with h | h
              · exact .inl (.inl h)
              · rcases ihm h with h | h
                · exact .inl (.inr h)
                · exact .inr h
        rcases this m h with h | h
        · exact .inl h
        · exact .inr (by simp [h])
      · exact .inr (by simp [h])
  rcases key _ _ _ h with h | h
  · simp at h
  · exact h
theorem tok_len (s : ByteArray) : (tokM s).length ≤ (wordsM s).length := by
  unfold tokM
  rw [sortS_len, List.length_map]; exact setM_len _
theorem mem_sizes {x : ByteArray} : ∀ {l : List ByteArray}, x ∈ l → x.size ≤ sizes l
  | y :: l, h => by
    simp only [List.mem_cons] at h
    have e : sizes (y :: l) = y.size + sizes l := by simp [sizes]
    rcases h with rfl | h
    · omega
    · have := mem_sizes h; omega
theorem tok_ok {s : ByteArray} (h : s.size ≤ 100000000) : (∀ t ∈ tokM s, t.size ≤ 1000000000) ∧ (tokM s).length ≤ 1000000000 := by
  have hw := words_sizes s
  refine ⟨fun t ht => ?_, ?_⟩
  · have := mem_sizes (tok_mem ht); omega
  · have := tok_len s; omega
/-- folded[:max(0, min(n, len(folded)))] -/
def cutN (n k : Int) : Int := if (if k < n then k else n) > 0 then (if k < n then k else n) else 0
theorem cut_rng {n k : Int} (h : 0 ≤ k) : 0 ≤ cutN n k ∧ cutN n k ≤ k := by
  unfold cutN
  (repeat' split) <;> omega
def prefM (f : ByteArray) (n : Int) : ByteArray := f.extract 0 (cutN n f.size).toNat
theorem mkM_len (t : List ByteArray) (n : Int) : (mkM t n).length ≤ 64 := by
  unfold mkM
  split
  · simp
  · rename_i h; unfold badN at h; simp; omega
def sketchM (b : GBlock) (t : ByteArray) : List ByteArray := if mkE b.N ≠ 0 then [] else if bandsE (mkM (tokM t) b.N) b.M ≠ 0 then [] else bandsM (mkM (tokM t) b.N) b.M
/-- The keys of a text, as the makers make them. -/
def rawM (b : GBlock) (t : ByteArray) : List ByteArray := if b.By = 1 then [foldB t] else if b.By = 2 then tokM t else if b.By = 3 then [prefM (foldB t) b.N] else sketchM b t
def makersM : List (Int × Gmaker) := mput (mput (mput (mput [] 1 ⟨.func (.func 53) #[] #[]⟩) 2 ⟨.func (.func 54) #[] #[]⟩) 3 ⟨.func (.func 55) #[] #[]⟩) 4 ⟨.func (.func 56) #[] #[]⟩
theorem mget_makers (k : Int) : mget makersM k = if k = 1 then some ⟨.func (.func 53) #[] #[]⟩ else if k = 2 then some ⟨.func (.func 54) #[] #[]⟩ else if k = 3 then some ⟨.func (.func 55) #[] #[]⟩ else if k = 4 then some ⟨.func (.func 56) #[] #[]⟩ else none := by
  simp [makersM, mput, mget]
def byOk (k : Int) : Bool := decide (1 ≤ k) && decide (k ≤ 4)
theorem makers_some (k : Int) : (mget makersM k).isSome = byOk k := by
  rw [mget_makers]
  unfold byOk
  rw [Bool.eq_iff_iff]
  (repeat' split) <;> simp <;> omega
def txtM (v : GValue) : ByteArray := if v.Kind = 1 then v.Text else textV v
/-- Do a block and a record go together? -/
def fitsB (b : GBlock) (r : GRecord) : Bool := byOk b.By && (decide (r.Table = b.Table) && (decide (0 ≤ b.Col) && decide (b.Col < (r.Cells.length : Int))))
def cellV (b : GBlock) (r : GRecord) : GValue := (nth r.Cells b.Col.toNat).Value
/-- The keys of a record by a block. -/
def keysM (b : GBlock) (r : GRecord) : List ByteArray := if fitsB b r = false then [] else if (cellV b r).Kind = 0 then [] else finM (rawM b (txtM (cellV b r)))

theorem Clone_spec (xs : List ByteArray) (hn : xs.length ≤ 1000000000) : Spec (X := Value) Tryz.prog 31 [tSl rStr xs] ([]) (fun z => rV.ty z) (fun z => [own 9 rStr z xs]) := by
  refine Spec.enter Tryz.func31 rfl rfl fun h0 w0 fr0 => ?_
  refine J_seq ?_
  refine J_region ?_
  refine JL_step rfl rfl rfl (step_assign Sub.rfl) ?_
  refine JL_nil ?_
  refine J_seq ?_
  refine J_seq ?_
  refine J_region ?_
  refine JL_step rfl rfl rfl (step_move Sub.rfl) ?_
  refine JL_stepX rfl rfl rfl (step_eql_slnil Tryz.underlying32 Sub.rfl) fun b4 => ?_
  refine JL_nil ?_
  refine J_cond Sub.rfl (fun h4 => ?_) (fun h4 => ?_)
  · try simp only [decide_eq_true_eq, decide_eq_false_iff_not, Bool.and_eq_true, Bool.or_eq_true, Bool.and_eq_false_iff, Bool.or_eq_false_iff, Bool.not_eq_true', Bool.not_eq_false', Int.not_lt, Int.not_le, Bool.not_true, Bool.not_false] at h4
    have hx : xs = [] := b4.2 h4
    subst hx
    refine J_seq ?_
    refine J_region ?_
    refine JL_step rfl rfl rfl (step_assign Sub.rfl) ?_
    refine JL_nil ?_
    refine J_ret ?_
    refine K_lsub (LSub.nilown (e := 9) (R := rStr)) ?_
    refine K_ret1 (t := 2) rfl (Value.slice none 0 0) (Sub.rV rfl)
  · try simp only [decide_eq_true_eq, decide_eq_false_iff_not, Bool.and_eq_true, Bool.or_eq_true, Bool.and_eq_false_iff, Bool.or_eq_false_iff, Bool.not_eq_true', Bool.not_eq_false', Int.not_lt, Int.not_le, Bool.not_true, Bool.not_false] at h4
    refine J_skip ?_
    refine J_seq ?_
    refine J_region ?_
    refine JL_stepX rfl rfl rfl (step_literal_own (ys := ([] : List ByteArray)) Tryz.underlying32 el9 trivial rfl (by decide)) fun v5 => ?_
    refine JL_step rfl rfl rfl (step_move Sub.rfl) ?_
    refine JL_stepX rfl rfl rfl (step_append Tryz.underlying32 el9 Sub.rfl Sub.rfl (by first | exact Sel.take (Sel.none _) | exact Sel.skip (Sel.take (Sel.none _)) | exact Sel.skip (Sel.skip (Sel.take (Sel.none _))) | exact Sel.skip (Sel.skip (Sel.skip (Sel.take (Sel.none _)))) | exact Sel.skip (Sel.skip (Sel.skip (Sel.skip (Sel.take (Sel.none _)))))) (by simp; omega) (by simp; omega)) fun v7 => ?_
    refine JL_step rfl rfl rfl (step_assign Sub.rfl) ?_
    refine JL_nil ?_
    refine J_ret ?_
    refine K_ret1 (t := 2) rfl v7 Sub.rfl
theorem makers_spec  : Fun1 Tryz.prog 28 [] (tMapI kvI rmaker makersM) := by
  refine Spec.enter Tryz.func28 rfl rfl fun h0 w0 fr0 => ?_
  refine J_seq ?_
  refine J_region ?_
  refine JL_step rfl rfl rfl (step_assign Sub.rfl) ?_
  refine JL_nil ?_
  refine J_seq ?_
  refine J_region ?_
  refine JL_stepX rfl rfl rfl (step_makeMap (kv := kvI) (R := rmaker)) fun v1 => ?_
  refine JL_step rfl rfl rfl (step_build (x := (⟨.func (.func 53) #[] #[]⟩ : Gmaker)) (zs := [[Value.nilFunc]]) so65 (fun w => Tryz.zeroValue65 w) ⟨(by first | exact Sub.rfl | exact Sub.rV rfl), trivial⟩ ⟨⟨(by first | exact Sub.rfl | exact Sub.rV rfl), rfl⟩, trivial⟩) ?_
  refine JL_stepU rfl rfl (step_insert (kv := kvI) (R := rmaker) (KeyT.int Tryz.underlying3) Tryz.underlying67 Sub.rfl Sub.rfl Sub.rfl (by first | exact Sel.take (Sel.none _) | exact Sel.skip (Sel.take (Sel.none _)) | exact Sel.skip (Sel.skip (Sel.take (Sel.none _))) | exact Sel.skip (Sel.skip (Sel.skip (Sel.take (Sel.none _)))) | exact Sel.skip (Sel.skip (Sel.skip (Sel.skip (Sel.take (Sel.none _))))))) fun _ => ?_
  refine JL_step rfl rfl rfl (step_build (x := (⟨.func (.func 54) #[] #[]⟩ : Gmaker)) (zs := [[Value.nilFunc]]) so65 (fun w => Tryz.zeroValue65 w) ⟨(by first | exact Sub.rfl | exact Sub.rV rfl), trivial⟩ ⟨⟨(by first | exact Sub.rfl | exact Sub.rV rfl), rfl⟩, trivial⟩) ?_
  refine JL_stepU rfl rfl (step_insert (kv := kvI) (R := rmaker) (KeyT.int Tryz.underlying3) Tryz.underlying67 Sub.rfl Sub.rfl Sub.rfl (by first | exact Sel.take (Sel.none _) | exact Sel.skip (Sel.take (Sel.none _)) | exact Sel.skip (Sel.skip (Sel.take (Sel.none _))) | exact Sel.skip (Sel.skip (Sel.skip (Sel.take (Sel.none _)))) | exact Sel.skip (Sel.skip (Sel.skip (Sel.skip (Sel.take (Sel.none _))))))) fun _ => ?_
  refine JL_step rfl rfl rfl (step_build (x := (⟨.func (.func 55) #[] #[]⟩ : Gmaker)) (zs := [[Value.nilFunc]]) so65 (fun w => Tryz.zeroValue65 w) ⟨(by first | exact Sub.rfl | exact Sub.rV rfl), trivial⟩ ⟨⟨(by first | exact Sub.rfl | exact Sub.rV rfl), rfl⟩, trivial⟩) ?_
  refine JL_stepU rfl rfl (step_insert (kv := kvI) (R := rmaker) (KeyT.int Tryz.underlying3) Tryz.underlying67 Sub.rfl Sub.rfl Sub.rfl (by first | exact Sel.take (Sel.none _) | exact Sel.skip (Sel.take (Sel.none _)) | exact Sel.skip (Sel.skip (Sel.take (Sel.none _))) | exact Sel.skip (Sel.skip (Sel.skip (Sel.take (Sel.none _)))) | exact Sel.skip (Sel.skip (Sel.skip (Sel.skip (Sel.take (Sel.none _))))))) fun _ => ?_
  refine JL_step rfl rfl rfl (step_build (x := (⟨.func (.func 56) #[] #[]⟩ : Gmaker)) (zs := [[Value.nilFunc]]) so65 (fun w => Tryz.zeroValue65 w) ⟨(by first | exact Sub.rfl | exact Sub.rV rfl), trivial⟩ ⟨⟨(by first | exact Sub.rfl | exact Sub.rV rfl), rfl⟩, trivial⟩) ?_
  refine JL_stepU rfl rfl (step_insert (kv := kvI) (R := rmaker) (KeyT.int Tryz.underlying3) Tryz.underlying67 Sub.rfl Sub.rfl Sub.rfl (by first | exact Sel.take (Sel.none _) | exact Sel.skip (Sel.take (Sel.none _)) | exact Sel.skip (Sel.skip (Sel.take (Sel.none _))) | exact Sel.skip (Sel.skip (Sel.skip (Sel.take (Sel.none _)))) | exact Sel.skip (Sel.skip (Sel.skip (Sel.skip (Sel.take (Sel.none _))))))) fun _ => ?_
  refine JL_step rfl rfl rfl (step_move Sub.rfl) ?_
  refine JL_step rfl rfl rfl (step_assign Sub.rfl) ?_
  refine JL_nil ?_
  refine J_ret ?_
  refine K_ret1' (rv := .tmp 0) rfl () (Sel.all _) (.tmp Sub.rfl) Frz.mapI
theorem mk1_spec (b : GBlock) (text : ByteArray) (hsz : text.size ≤ 100000000) : Fun1 Tryz.prog 53 [rBlock.ty b, tV (.string text)] (tSl rStr [foldB text]) := by
  refine Spec.enter Tryz.func53 rfl rfl fun h0 w0 fr0 => ?_
  refine J_seq ?_
  refine J_region ?_
  refine JL_step rfl rfl rfl (step_box (R := rBlock) Sub.rfl) ?_
  refine JL_step rfl rfl rfl (step_assign Sub.rfl) ?_
  refine JL_nil ?_
  refine J_seq ?_
  refine J_region ?_
  refine JL_step rfl rfl rfl (step_move Sub.rfl) ?_
  refine JL_step rfl rfl rfl (step_call0 (Fold_spec text hsz) ⟨Sub.rfl, trivial⟩ Tryz.call23) ?_
  refine JL_step rfl rfl rfl (step_literal (ys := [_]) Tryz.underlying32 el9 ⟨rfl, Sub.rfl, trivial⟩ rfl (by decide)) ?_
  refine JL_step rfl rfl rfl (step_assign Sub.rfl) ?_
  refine JL_nil ?_
  refine J_ret ?_
  exact K_ret1 (t := 4) rfl () Sub.rfl
theorem mk2_spec (b : GBlock) (text : ByteArray) (hsz : text.size ≤ 100000000) : Fun1 Tryz.prog 54 [rBlock.ty b, tV (.string text)] (tSl rStr (tokM text)) := by
  refine Spec.enter Tryz.func54 rfl rfl fun h0 w0 fr0 => ?_
  refine J_seq ?_
  refine J_region ?_
  refine JL_step rfl rfl rfl (step_box (R := rBlock) Sub.rfl) ?_
  refine JL_step rfl rfl rfl (step_assign Sub.rfl) ?_
  refine JL_nil ?_
  refine J_seq ?_
  refine J_region ?_
  refine JL_step rfl rfl rfl (step_move Sub.rfl) ?_
  refine JL_step rfl rfl rfl (step_call0 (Tokens_spec text hsz) ⟨Sub.rfl, trivial⟩ Tryz.call27) ?_
  refine JL_step rfl rfl rfl (step_assign Sub.rfl) ?_
  refine JL_nil ?_
  refine J_ret ?_
  refine K_ret1 (t := 4) rfl () Sub.ofC
theorem mk3_spec (b : GBlock) (text : ByteArray) (hsz : text.size ≤ 100000000) : Fun1 Tryz.prog 55 [rBlock.ty b, tV (.string text)] (tSl rStr [prefM (foldB text) b.N]) := by
  refine Spec.enter Tryz.func55 rfl rfl fun h0 w0 fr0 => ?_
  refine J_seq ?_
  refine J_region ?_
  refine JL_step rfl rfl rfl (step_box (R := rBlock) Sub.rfl) ?_
  refine JL_step rfl rfl rfl (step_assign Sub.rfl) ?_
  refine JL_nil ?_
  refine J_seq ?_
  refine J_region ?_
  refine JL_step rfl rfl rfl (step_move Sub.rfl) ?_
  refine JL_step rfl rfl rfl (step_call0 (Fold_spec text hsz) ⟨Sub.rfl, trivial⟩ Tryz.call23) ?_
  refine JL_step rfl rfl rfl (step_assign Sub.rfl) ?_
  refine JL_nil ?_
  refine J_seq ?_
  refine J_region ?_
  refine JL_step rfl rfl rfl (step_move Sub.rfl) ?_
  refine JL_step rfl rfl rfl (step_fieldAddr so35 Sub.rfl rfl) ?_
  refine JL_step rfl rfl rfl (step_load_ptr ty3 Sub.rfl) ?_
  refine JL_step rfl rfl rfl (step_move Sub.rfl) ?_
  refine JL_step rfl rfl rfl (step_len_str Tryz.underlying9 Sub.rfl) ?_
  refine JL_step rfl rfl rfl (step_min Sub.rfl Sub.rfl) ?_
  refine JL_step rfl rfl rfl (step_max Sub.rfl Sub.rfl) ?_
  refine JL_step rfl rfl rfl (step_slice_strTo (b := cutN b.N (foldB text).size) Tryz.underlying9 Sub.rfl Sub.rfl (cut_rng (by omega)).1 (cut_rng (by omega)).2) ?_
  refine JL_step rfl rfl rfl (step_literal (ys := [_]) Tryz.underlying32 el9 ⟨rfl, Sub.rfl, trivial⟩ rfl (by decide)) ?_
  refine JL_step rfl rfl rfl (step_assign Sub.rfl) ?_
  refine JL_nil ?_
  refine J_ret ?_
  exact K_ret1 (t := 4) rfl () Sub.rfl
theorem mk4_spec (b : GBlock) (text : ByteArray) (hsz : text.size ≤ 100000000) : Fun1 Tryz.prog 56 [rBlock.ty b, tV (.string text)] (tSl rStr (sketchM b text)) := by
  refine Spec.enter Tryz.func56 rfl rfl fun h0 w0 fr0 => ?_
  have htk := tok_ok hsz
  have hml := mkM_len (tokM text) b.N
  refine J_seq ?_
  refine J_region ?_
  refine JL_step rfl rfl rfl (step_box (R := rBlock) Sub.rfl) ?_
  refine JL_step rfl rfl rfl (step_assign Sub.rfl) ?_
  refine JL_nil ?_
  refine J_seq ?_
  refine J_draw [⟨0, [1], true⟩, ⟨1, [9], true⟩, ⟨2, [2], true⟩, ⟨3, [11], true⟩, ⟨4, [10, 12], true⟩, ⟨5, [13], true⟩, ⟨6, [8], true⟩, ⟨7, [8], true⟩, ⟨8, [14], true⟩, ⟨9, [15], true⟩] rfl (by kernel_rfl) ?_
  refine JM_step rfl rfl rfl rfl (fun _ => step_move Sub.rfl) ?_
  refine JM_step rfl rfl rfl rfl (fun _ => step_call0 (Tokens_spec text hsz) ⟨Sub.rfl, trivial⟩ Tryz.call27) ?_
  refine JM_step rfl rfl rfl rfl (fun _ => step_fieldAddr so35 Sub.rfl rfl) ?_
  refine JM_step rfl rfl rfl rfl (fun _ => step_load_ptr ty3 Sub.rfl) ?_
  refine JM_step rfl rfl rfl rfl (fun _ => step_call0 (Make_spec _ _ htk.1 htk.2) ⟨Sub.rfl, Sub.rfl, trivial⟩ Tryz.call57) ?_
  refine JM_step rfl rfl rfl rfl (fun _ => step_move Sub.rfl) ?_
  refine JM_step rfl rfl rfl rfl (fun _ => step_extract Sub.rfl rfl) ?_
  refine JM_step rfl rfl rfl rfl (fun _ => step_extract Sub.rfl rfl) ?_
  refine JM_step rfl rfl rfl rfl (fun _ => step_assign Sub.rfl) ?_
  refine JM_step rfl rfl rfl rfl (fun _ => step_assign Sub.rfl) ?_
  refine JM_nil ?_
  refine J_seq ?_
  refine J_seq ?_
  refine J_region ?_
  refine JL_step rfl rfl rfl (step_move Sub.rfl) ?_
  refine JL_step rfl rfl rfl (step_neq Sub.rfl Sub.rfl) ?_
  refine JL_nil ?_
  refine J_cond Sub.rfl (fun h17 => ?_) (fun h17 => ?_)
  · try simp only [decide_eq_true_eq, decide_eq_false_iff_not, Bool.and_eq_true, Bool.or_eq_true, Bool.and_eq_false_iff, Bool.or_eq_false_iff, Bool.not_eq_true', Bool.not_eq_false', Int.not_lt, Int.not_le, Bool.not_true, Bool.not_false] at h17
    refine J_seq ?_
    refine J_region ?_
    refine JL_step rfl rfl rfl (step_assign Sub.rfl) ?_
    refine JL_nil ?_
    refine J_ret ?_
    refine K_ret1 (t := 4) rfl () ?_
    rw [sketchM, if_pos h17]; exact Sub.nilsl
  · try simp only [decide_eq_true_eq, decide_eq_false_iff_not, Bool.and_eq_true, Bool.or_eq_true, Bool.and_eq_false_iff, Bool.or_eq_false_iff, Bool.not_eq_true', Bool.not_eq_false', Int.not_lt, Int.not_le, Bool.not_true, Bool.not_false] at h17
    refine J_skip ?_
    refine J_seq ?_
    refine J_region ?_
    refine JL_step rfl rfl rfl (step_move Sub.rfl) ?_
    refine JL_step rfl rfl rfl (step_fieldAddr so35 Sub.rfl rfl) ?_
    refine JL_step rfl rfl rfl (step_load_ptr ty3 Sub.rfl) ?_
    refine JL_step rfl rfl rfl (step_call0 (Bands_spec (mkM (tokM text) b.N) b.M (by omega)) ⟨Sub.rfl, Sub.rfl, trivial⟩ Tryz.call58) ?_
    refine JL_step rfl rfl rfl (step_move Sub.rfl) ?_
    refine JL_step rfl rfl rfl (step_extract Sub.rfl rfl) ?_
    refine JL_step rfl rfl rfl (step_extract Sub.rfl rfl) ?_
    refine JL_step rfl rfl rfl (step_assign Sub.rfl) ?_
    refine JL_step rfl rfl rfl (step_assign Sub.rfl) ?_
    refine JL_nil ?_
    refine J_seq ?_
    refine J_seq ?_
    refine J_region ?_
    refine JL_step rfl rfl rfl (step_move Sub.rfl) ?_
    refine JL_step rfl rfl rfl (step_neq Sub.rfl Sub.rfl) ?_
    refine JL_nil ?_
    refine J_cond Sub.rfl (fun h26 => ?_) (fun h26 => ?_)
    · try simp only [decide_eq_true_eq, decide_eq_false_iff_not, Bool.and_eq_true, Bool.or_eq_true, Bool.and_eq_false_iff, Bool.or_eq_false_iff, Bool.not_eq_true', Bool.not_eq_false', Int.not_lt, Int.not_le, Bool.not_true, Bool.not_false] at h26
      refine J_seq ?_
      refine J_region ?_
      refine JL_step rfl rfl rfl (step_assign Sub.rfl) ?_
      refine JL_nil ?_
      refine J_ret ?_
      refine K_ret1 (t := 4) rfl () ?_
      rw [sketchM, if_neg (fun q => q h17), if_pos h26]; exact Sub.nilsl
    · try simp only [decide_eq_true_eq, decide_eq_false_iff_not, Bool.and_eq_true, Bool.or_eq_true, Bool.and_eq_false_iff, Bool.or_eq_false_iff, Bool.not_eq_true', Bool.not_eq_false', Int.not_lt, Int.not_le, Bool.not_true, Bool.not_false] at h26
      refine J_skip ?_
      refine J_seq ?_
      refine J_region ?_
      refine JL_step rfl rfl rfl (step_move Sub.rfl) ?_
      refine JL_step rfl rfl rfl (step_assign Sub.rfl) ?_
      refine JL_nil ?_
      refine J_ret ?_
      refine K_ret1 (t := 4) rfl () ?_
      rw [sketchM, if_neg (fun q => q h17), if_neg (fun q => q h26)]; exact Sub.rfl

theorem step_maker {ro : Option Nat} {N : Nat} {ds : List Deferred} {h0 : PH} {w0 : World} {r : PH} {E : Env} {L : List SP} {d : Option Nat} {ty : Nat} {pos : String} {af : Array Edge} {g : Option (Nat × Bool)} {x y z : Operand} {ts : Array Nat} {b : GBlock} {text : ByteArray} (hsz : text.size ≤ 100000000)
    (hs : byOk b.By = true) (hx : Sub (opTy E x) (rV.ty ((mget makersM b.By).getD zmaker).keys)) (hy : Sub (opTy E y) (rBlock.ty b)) (hz : Sub (opTy E z) (tV (.string text))) :
    Step (X := Unit) ⟨Tryz.prog, ro, N, ds, h0, w0, r⟩ ⟨d, .call { callee := .value x, args := #[y, z], argTypes := ts }, ty, pos, af, g⟩ E L (fun _ => tSl rStr (rawM b text)) (fun _ => L) := by
  have key : ∀ f v, Fun1 Tryz.prog f [rBlock.ty b, tV (.string text)] (tSl rStr v) → (∀ args w, (callFunc f args).run Tryz.prog w = .ok (.enter f args) w) → ((mget makersM b.By).getD zmaker).keys = .func (.func f) #[] #[] → rawM b text = v →
      Step (X := Unit) ⟨Tryz.prog, ro, N, ds, h0, w0, r⟩ ⟨d, .call { callee := .value x, args := #[y, z], argTypes := ts }, ty, pos, af, g⟩ E L (fun _ => tSl rStr (rawM b text)) (fun _ => L) := by
    intro f v hf he h1 h2
    rw [h2]
    refine step_callv0 (f := f) (aT := [rBlock.ty b, tV (.string text)]) (As := []) (fun h u e => ?_) hf ⟨hy, hz, trivial⟩ he
    obtain ⟨e1, _⟩ := hx h u e
    rw [h1] at e1
    exact ⟨[], e1, trivial⟩
  have hc : b.By = 1 ∨ b.By = 2 ∨ b.By = 3 ∨ b.By = 4 := by unfold byOk at hs; simp at hs; omega
  rcases hc with h | h | h | h
  · exact key 53 _ (mk1_spec b text hsz) Tryz.call53 (by rw [h]; rfl) (by simp [rawM, h])
  · exact key 54 _ (mk2_spec b text hsz) Tryz.call54 (by rw [h]; rfl) (by simp [rawM, h])
  · exact key 55 _ (mk3_spec b text hsz) Tryz.call55 (by rw [h]; rfl) (by simp [rawM, h])
  · exact key 56 _ (mk4_spec b text hsz) Tryz.call56 (by rw [h]; rfl) (by simp [rawM, h])
theorem Del_spec (v : Value) (xs : List ByteArray) (hn : xs.length ≤ 1000000000) : Spec (X := Value) Tryz.prog 30 [rV.ty v, tV (.func (.func 32) #[] #[])] [own 9 rStr v xs] (fun z => rV.ty z) (fun z => [own 9 rStr z (xs.filter fun x => !decide (ofB x = []))]) :=
  delStr_spec (ρ := Tryz.delK_ren) Tryz.delK (fun x => decide (x = [])) 32 Tryz.call32 (fun w => Tryz.zeroValue9 w) (fun W x => kEmpty x W) (fun fv w => kDelNil fv w) v xs (by omega)
theorem Sort_spec (v : Value) (xs : List ByteArray) (hn : xs.length ≤ 1000000000) : Spec (X := Unit) Tryz.prog 33 [rV.ty v, tV (.func (.func 34) #[] #[])] [own 9 rStr v xs] (fun _ => tTup []) (fun _ => [own 9 rStr v (sortS xs)]) := by
  have h := sortFunc_spec (ρ := Tryz.sortSK_ren) Tryz.sortSK (R := rStr) rfl cbB swo_cbB (gf := 34) (e := 9) Tryz.call34 (fun _ => True)
    (fun x y _ _ u u' h W _ hu hu' => by
      have hu : u = .string x := hu
      have hu' : u' = .string y := hu'
      subst hu; subst hu'
      refine (Any.strings_Compare (ρ := Tryz.cmpL_ren) Tryz.cmpL x y W).mono ?_
      rintro e w' ⟨rfl, rfl⟩
      exact ⟨rfl, 0, #[], by rw [Sort.grow_empty]; rfl⟩) v xs (fun _ _ => trivial) (by omega)
  intro vs h0 m r w ha sp st
  refine (h vs h0 m r w ha sp st).mono ?_
  rintro e w' ⟨⟨ys, hp, hs⟩, u, h', m', rfl, l, s, st', hu⟩
  refine ⟨(), u, h', m', rfl, l, s, ?_, hu⟩
  rw [← sortS_of hp hs]; exact st'
theorem raw_len (b : GBlock) {t : ByteArray} (h : t.size ≤ 100000000) : (rawM b t).length ≤ 1000000000 := by
  have h2 := tok_ok h
  have hm := mkM_len (tokM t) b.N
  have hB : (bandsM (mkM (tokM t) b.N) b.M).length ≤ 64 := by
    unfold bandsM
    (repeat' split)
    · simp
    · simp
    · rw [List.length_map, List.length_range]
      exact Nat.le_trans (Nat.div_le_self _ _) hm
  unfold rawM sketchM
  (repeat' split) <;> simp <;> omega

end Lg

namespace Lg
open Go Go.Proofs


theorem fits_f {b : GBlock} {r : GRecord} (h38 : (((mget makersM b.By).isSome = false ∨ ¬r.Table = b.Table) ∨ b.Col < 0) ∨ (r.Cells.length : Int) ≤ b.Col) : fitsB b r = false := by
  rw [makers_some] at h38
  rw [Bool.eq_false_iff]; intro hq; unfold fitsB at hq
  simp only [Bool.and_eq_true, decide_eq_true_eq] at hq
  obtain ⟨q1, q2, q3, q4⟩ := hq
  rcases h38 with ((h | h) | h) | h
  · rw [q1] at h; cases h
  · exact h q2
  · omega
  · omega
/-- A record of texts that are not long. -/
def recOk (r : GRecord) : Prop := ∀ c ∈ r.Cells, c.Value.Text.size ≤ 100000
theorem filter_le {l : List ByteArray} {p : ByteArray → Bool} {n : Nat} (h : l.length ≤ n) : (l.filter p).length ≤ n := Nat.le_trans (List.length_filter_le _ _) h

theorem Keys_spec (b : GBlock) (r : GRecord) (hr : recOk r) : Fun1 Tryz.prog 13 [rBlock.ty b, rRecord.ty r] (tSl rStr (keysM b r)) := by
  refine Spec.enter Tryz.func13 rfl rfl fun h0 w0 fr0 => ?_
  refine J_seq ?_
  refine J_region ?_
  refine JL_step rfl rfl rfl (step_box (R := rBlock) Sub.rfl) ?_
  refine JL_step rfl rfl rfl (step_box (R := rRecord) Sub.rfl) ?_
  refine JL_step rfl rfl rfl (step_assign Sub.rfl) ?_
  refine JL_nil ?_
  refine J_seq ?_
  refine J_draw [⟨0, [], true⟩, ⟨1, [2], true⟩, ⟨2, [12], true⟩, ⟨3, [11, 13], true⟩, ⟨4, [14], true⟩, ⟨5, [10], true⟩, ⟨6, [10], true⟩, ⟨7, [], false⟩, ⟨8, [5, 15], false⟩, ⟨9, [16], true⟩] rfl (by kernel_rfl) ?_
  refine JM_step rfl rfl rfl rfl (fun _ => step_call0 (makers_spec ) trivial Tryz.call28) ?_
  refine JM_step rfl rfl rfl rfl (fun _ => step_fieldAddr so35 Sub.rfl rfl) ?_
  refine JM_step rfl rfl rfl rfl (fun _ => step_load_ptr ty3 Sub.rfl) ?_
  refine JM_step rfl rfl rfl rfl (fun _ => step_lookupI_ok (z := zmaker) (KeyT.int Tryz.underlying3) Tryz.underlying67 (fun w => Tryz.zeroValue65 w) zr65 Sub.rfl Sub.rfl) ?_
  refine JM_step rfl rfl rfl rfl (fun _ => step_move Sub.rfl) ?_
  refine JM_step rfl rfl rfl rfl (fun _ => step_extract Sub.rfl rfl) ?_
  refine JM_step rfl rfl rfl rfl (fun _ => step_extract Sub.rfl rfl) ?_
  refine JM_stepX rfl rfl rfl rfl (step_alloc (fun w => Tryz.zeroValue65 w) zr65) fun a5 => ?_
  refine JM_stepU rfl rfl rfl (step_store_box ty65 Sub.rfl Sub.rfl (by first | exact Sel.take (Sel.none _) | exact Sel.skip (Sel.take (Sel.none _)) | exact Sel.skip (Sel.skip (Sel.take (Sel.none _))) | exact Sel.skip (Sel.skip (Sel.skip (Sel.take (Sel.none _)))) | exact Sel.skip (Sel.skip (Sel.skip (Sel.skip (Sel.take (Sel.none _))))))) fun _ => ?_
  refine JM_step rfl rfl rfl rfl (fun _ => step_assign Sub.rfl) ?_
  refine JM_nil ?_
  refine K_freeze (t := 5) (Sel.take (Sel.none _)) Frz.box ?_
  refine J_seq ?_
  refine J_seq ?_
  refine J_region ?_
  refine JL_step rfl rfl rfl (step_move Sub.rfl) ?_
  refine JL_step rfl rfl rfl (step_not Sub.rfl) ?_
  refine JL_step rfl rfl rfl (step_move Sub.rfl) ?_
  refine JL_stepG rfl rfl rfl (Gd.plain Sub.rfl) rfl rfl (fun hw => step_fieldAddr so28 Sub.rfl rfl) ?_
  refine JL_stepG rfl rfl rfl (Gd.plain Sub.rfl) rfl rfl (fun hw => step_load_ptr ty3 (Sub.w hw)) ?_
  refine JL_stepG rfl rfl rfl (Gd.plain Sub.rfl) rfl rfl (fun hw => step_fieldAddr so35 Sub.rfl rfl) ?_
  refine JL_stepG rfl rfl rfl (Gd.plain Sub.rfl) rfl rfl (fun hw => step_load_ptr ty3 (Sub.w hw)) ?_
  refine JL_stepG rfl rfl rfl (Gd.plain Sub.rfl) rfl rfl (fun hw => step_neq (Sub.w hw) (Sub.w hw)) ?_
  refine JL_step rfl rfl rfl (step_pick_or Sub.rfl Sub.rfl) ?_
  refine JL_step rfl rfl rfl (step_move Sub.rfl) ?_
  refine JL_stepG rfl rfl rfl (Gd.plain Sub.rfl) rfl rfl (fun hw => step_fieldAddr so35 Sub.rfl rfl) ?_
  refine JL_stepG rfl rfl rfl (Gd.plain Sub.rfl) rfl rfl (fun hw => step_load_ptr ty3 (Sub.w hw)) ?_
  refine JL_stepG rfl rfl rfl (Gd.plain Sub.rfl) rfl rfl (fun hw => step_lss (Sub.w hw) Sub.rfl) ?_
  refine JL_step rfl rfl rfl (step_pick_or Sub.rfl Sub.rfl) ?_
  refine JL_step rfl rfl rfl (step_move Sub.rfl) ?_
  refine JL_stepG rfl rfl rfl (Gd.plain Sub.rfl) rfl rfl (fun hw => step_fieldAddr so35 Sub.rfl rfl) ?_
  refine JL_stepG rfl rfl rfl (Gd.plain Sub.rfl) rfl rfl (fun hw => step_load_ptr ty3 (Sub.w hw)) ?_
  refine JL_stepG rfl rfl rfl (Gd.plain Sub.rfl) rfl rfl (fun hw => step_fieldAddr so28 Sub.rfl rfl) ?_
  refine JL_stepG rfl rfl rfl (Gd.plain Sub.rfl) rfl rfl (fun hw => step_load_ptr ty26 (Sub.w hw)) ?_
  refine JL_stepG rfl rfl rfl (Gd.plain Sub.rfl) rfl rfl (fun hw => step_len_sl Tryz.underlying26 (Sub.w hw)) ?_
  refine JL_stepG rfl rfl rfl (Gd.plain Sub.rfl) rfl rfl (fun hw => step_geq (Sub.w hw) (Sub.w hw)) ?_
  refine JL_step rfl rfl rfl (step_pick_or Sub.rfl Sub.rfl) ?_
  refine JL_nil ?_
  refine J_cond Sub.rfl (fun h38 => ?_) (fun h38 => ?_)
  · try simp only [decide_eq_true_eq, decide_eq_false_iff_not, Bool.and_eq_true, Bool.or_eq_true, Bool.and_eq_false_iff, Bool.or_eq_false_iff, Bool.not_eq_true', Bool.not_eq_false', Int.not_lt, Int.not_le, Bool.not_true, Bool.not_false] at h38
    have hf : fitsB b r = false := fits_f h38
    refine J_seq ?_
    refine J_region ?_
    refine JL_step rfl rfl rfl (step_assign Sub.rfl) ?_
    refine JL_nil ?_
    refine J_ret ?_
    refine K_ret1' (rv := .tmp 4) rfl () (Sel.all _) (.tmp Sub.rfl) (Frz.sub ?_)
    rw [keysM, if_pos hf]; exact Sub.nilsl
  · try simp only [decide_eq_true_eq, decide_eq_false_iff_not, Bool.and_eq_true, Bool.or_eq_true, Bool.and_eq_false_iff, Bool.or_eq_false_iff, Bool.not_eq_true', Bool.not_eq_false', Int.not_lt, Int.not_le, Bool.not_true, Bool.not_false] at h38
    rw [makers_some] at h38
    obtain ⟨⟨⟨hby, htb⟩, hc0⟩, hc1⟩ := h38
    have hf : fitsB b r = true := by unfold fitsB; rw [hby]; simp; refine ⟨?_, by omega, by omega⟩; first | exact htb | omega
    have hlt : b.Col.toNat < r.Cells.length := by omega
    have hsr := hr _ (nth_mem hlt)
    refine J_skip ?_
    refine J_seq ?_
    refine J_region ?_
    refine JL_step rfl rfl rfl (step_fieldAddr so28 Sub.rfl rfl) ?_
    refine JL_step rfl rfl rfl (step_load_ptr ty26 Sub.rfl) ?_
    refine JL_step rfl rfl rfl (step_fieldAddr so35 Sub.rfl rfl) ?_
    refine JL_step rfl rfl rfl (step_load_ptr ty3 Sub.rfl) ?_
    refine JL_step rfl rfl rfl (step_indexAddr_sl (i := b.Col.toNat) Tryz.underlying26 ty49 Sub.rfl Sub.rfl ?sg1 (gb ?sg2)) ?_
    case sg1 => show b.Col = ((b.Col.toNat : Nat) : Int); omega
    case sg2 => exact hlt
    refine JL_step rfl rfl rfl (step_fieldAddr so49 Sub.rfl rfl) ?_
    refine JL_step rfl rfl rfl (step_load_ptr ty47 Sub.rfl) ?_
    refine JL_stepX rfl rfl rfl (step_alloc (fun w => Tryz.zeroValue47 w) zr47) fun a7 => ?_
    refine JL_stepU rfl rfl (step_store_box ty47 Sub.rfl Sub.rfl (by first | exact Sel.take (Sel.none _) | exact Sel.skip (Sel.take (Sel.none _)) | exact Sel.skip (Sel.skip (Sel.take (Sel.none _))) | exact Sel.skip (Sel.skip (Sel.skip (Sel.take (Sel.none _)))) | exact Sel.skip (Sel.skip (Sel.skip (Sel.skip (Sel.take (Sel.none _))))))) fun _ => ?_
    refine JL_freeze (t := 7) (Sel.take (Sel.none _)) Frz.box ?_
    refine JL_nil ?_
    refine J_seq ?_
    refine J_seq ?_
    refine J_region ?_
    refine JL_step rfl rfl rfl (step_fieldAddr so47 Sub.rfl rfl) ?_
    refine JL_step rfl rfl rfl (step_load_ptr ty3 Sub.rfl) ?_
    refine JL_step rfl rfl rfl (step_eql Sub.rfl Sub.rfl) ?_
    refine JL_nil ?_
    refine J_cond Sub.rfl (fun h48 => ?_) (fun h48 => ?_)
    · try simp only [decide_eq_true_eq, decide_eq_false_iff_not, Bool.and_eq_true, Bool.or_eq_true, Bool.and_eq_false_iff, Bool.or_eq_false_iff, Bool.not_eq_true', Bool.not_eq_false', Int.not_lt, Int.not_le, Bool.not_true, Bool.not_false] at h48
      refine J_seq ?_
      refine J_region ?_
      refine JL_step rfl rfl rfl (step_assign Sub.rfl) ?_
      refine JL_nil ?_
      refine J_ret ?_
      refine K_ret1' (rv := .tmp 4) rfl () (Sel.all _) (.tmp Sub.rfl) (Frz.sub ?_)
      rw [keysM, if_neg (by rw [hf]; decide), if_pos (show (cellV b r).Kind = 0 from h48)]; exact Sub.nilsl
    · try simp only [decide_eq_true_eq, decide_eq_false_iff_not, Bool.and_eq_true, Bool.or_eq_true, Bool.and_eq_false_iff, Bool.or_eq_false_iff, Bool.not_eq_true', Bool.not_eq_false', Int.not_lt, Int.not_le, Bool.not_true, Bool.not_false] at h48
      refine J_skip ?_
      refine J_seq ?_
      refine J_region ?_
      refine JL_step rfl rfl rfl (step_fieldAddr so47 Sub.rfl rfl) ?_
      refine JL_step rfl rfl rfl (step_load_ptr ty9 Sub.rfl) ?_
      refine JL_step rfl rfl rfl (step_assign Sub.rfl) ?_
      refine JL_nil ?_
      refine J_seq ?_
      refine J_seq ?_
      refine J_region ?_
      refine JL_step rfl rfl rfl (step_fieldAddr so47 Sub.rfl rfl) ?_
      refine JL_step rfl rfl rfl (step_load_ptr ty3 Sub.rfl) ?_
      refine JL_step rfl rfl rfl (step_neq Sub.rfl Sub.rfl) ?_
      refine JL_nil ?_
      refine J_cond Sub.rfl (fun h53 => ?_) (fun h53 => ?_)
      · try simp only [decide_eq_true_eq, decide_eq_false_iff_not, Bool.and_eq_true, Bool.or_eq_true, Bool.and_eq_false_iff, Bool.or_eq_false_iff, Bool.not_eq_true', Bool.not_eq_false', Int.not_lt, Int.not_le, Bool.not_true, Bool.not_false] at h53
        have htx : txtM (cellV b r) = textV (cellV b r) := if_neg h53
        have hsz : (textV (cellV b r)).size ≤ 100000000 := by have := textV_size (cellV b r); omega
        refine J_region ?_
        refine JL_step rfl rfl rfl (step_load_ptr ty47 Sub.rfl) ?_
        refine JL_step rfl rfl rfl (step_call0 (Text_spec _ h53) ⟨Sub.rfl, trivial⟩ Tryz.call29) ?_
        refine JL_step rfl rfl rfl (step_assign Sub.rfl) ?_
        refine JL_nil ?_
        refine J_seq ?_
        refine J_region ?_
        refine JL_step rfl rfl rfl (step_fieldAddr so65 Sub.rfl rfl) ?_
        refine JL_step rfl rfl rfl (step_load_ptr ty63 Sub.rfl) ?_
        refine JL_step rfl rfl rfl (step_load_ptr ty35 Sub.rfl) ?_
        refine JL_step rfl rfl rfl (step_move Sub.rfl) ?_
        refine JL_step rfl rfl rfl (step_maker hsz hby Sub.rfl Sub.rfl Sub.rfl) ?_
        refine JL_stepX rfl rfl rfl (step_call (Sel.none _) (Clone_spec _ (raw_len b hsz)) ⟨Sub.rfl, trivial⟩ Tryz.call31) fun v61 => ?_
        refine JL_stepX rfl rfl rfl (step_call (by first | exact Sel.take (Sel.none _) | exact Sel.skip (Sel.take (Sel.none _)) | exact Sel.skip (Sel.skip (Sel.take (Sel.none _))) | exact Sel.skip (Sel.skip (Sel.skip (Sel.take (Sel.none _)))) | exact Sel.skip (Sel.skip (Sel.skip (Sel.skip (Sel.take (Sel.none _)))))) (Del_spec v61 _ (raw_len b hsz)) ⟨Sub.rfl, Sub.rfl, trivial⟩ Tryz.call30) fun v62 => ?_
        refine JL_step rfl rfl rfl (step_assign Sub.rfl) ?_
        refine JL_nil ?_
        refine J_seq ?_
        refine J_region ?_
        refine JL_step rfl rfl rfl (step_move Sub.rfl) ?_
        refine JL_stepX rfl rfl rfl (step_call (Sel.all _) (Sort_spec v62 _ (filter_le (raw_len b hsz))) ⟨Sub.rfl, Sub.rfl, trivial⟩ Tryz.call33) fun v64 => ?_
        refine JL_nil ?_
        refine J_seq ?_
        refine J_region ?_
        refine JL_step rfl rfl rfl (step_move Sub.rfl) ?_
        refine JL_stepX rfl rfl rfl (step_call (Sel.all _) (compStr_spec (ρ := Tryz.compJ_ren) Tryz.compJ v62 _ (by rw [sortS_len]; exact Nat.le_trans (filter_le (raw_len b hsz)) (by decide))) ⟨Sub.rfl, trivial⟩ Tryz.call35) fun v66 => ?_
        refine JL_step rfl rfl rfl (step_assign Sub.rfl) ?_
        refine JL_nil ?_
        refine J_ret ?_
        refine K_ret1' (rv := .tmp 4) rfl () (Sel.all _) (.tmp Sub.rfl) (Frz.own' ?_)
        rw [keysM, if_neg (by rw [hf]; decide), if_neg (show ¬ (cellV b r).Kind = 0 from h48), htx]; rfl
      · try simp only [decide_eq_true_eq, decide_eq_false_iff_not, Bool.and_eq_true, Bool.or_eq_true, Bool.and_eq_false_iff, Bool.or_eq_false_iff, Bool.not_eq_true', Bool.not_eq_false', Int.not_lt, Int.not_le, Bool.not_true, Bool.not_false] at h53
        have htx : txtM (cellV b r) = (cellV b r).Text := if_pos (show (cellV b r).Kind = 1 from by simpa [cellV] using h53)
        have hsz : (cellV b r).Text.size ≤ 100000000 := by unfold cellV; omega
        refine J_skip ?_
        refine J_seq ?_
        refine J_region ?_
        refine JL_step rfl rfl rfl (step_fieldAddr so65 Sub.rfl rfl) ?_
        refine JL_step rfl rfl rfl (step_load_ptr ty63 Sub.rfl) ?_
        refine JL_step rfl rfl rfl (step_load_ptr ty35 Sub.rfl) ?_
        refine JL_step rfl rfl rfl (step_move Sub.rfl) ?_
        refine JL_step rfl rfl rfl (step_maker hsz hby Sub.rfl Sub.rfl Sub.rfl) ?_
        refine JL_stepX rfl rfl rfl (step_call (Sel.none _) (Clone_spec _ (raw_len b hsz)) ⟨Sub.rfl, trivial⟩ Tryz.call31) fun v61 => ?_
        refine JL_stepX rfl rfl rfl (step_call (by first | exact Sel.take (Sel.none _) | exact Sel.skip (Sel.take (Sel.none _)) | exact Sel.skip (Sel.skip (Sel.take (Sel.none _))) | exact Sel.skip (Sel.skip (Sel.skip (Sel.take (Sel.none _)))) | exact Sel.skip (Sel.skip (Sel.skip (Sel.skip (Sel.take (Sel.none _)))))) (Del_spec v61 _ (raw_len b hsz)) ⟨Sub.rfl, Sub.rfl, trivial⟩ Tryz.call30) fun v62 => ?_
        refine JL_step rfl rfl rfl (step_assign Sub.rfl) ?_
        refine JL_nil ?_
        refine J_seq ?_
        refine J_region ?_
        refine JL_step rfl rfl rfl (step_move Sub.rfl) ?_
        refine JL_stepX rfl rfl rfl (step_call (Sel.all _) (Sort_spec v62 _ (filter_le (raw_len b hsz))) ⟨Sub.rfl, Sub.rfl, trivial⟩ Tryz.call33) fun v64 => ?_
        refine JL_nil ?_
        refine J_seq ?_
        refine J_region ?_
        refine JL_step rfl rfl rfl (step_move Sub.rfl) ?_
        refine JL_stepX rfl rfl rfl (step_call (Sel.all _) (compStr_spec (ρ := Tryz.compJ_ren) Tryz.compJ v62 _ (by rw [sortS_len]; exact Nat.le_trans (filter_le (raw_len b hsz)) (by decide))) ⟨Sub.rfl, trivial⟩ Tryz.call35) fun v66 => ?_
        refine JL_step rfl rfl rfl (step_assign Sub.rfl) ?_
        refine JL_nil ?_
        refine J_ret ?_
        refine K_ret1' (rv := .tmp 4) rfl () (Sel.all _) (.tmp Sub.rfl) (Frz.own' ?_)
        rw [keysM, if_neg (by rw [hf]; decide), if_neg (show ¬ (cellV b r).Kind = 0 from h48), htx]; rfl
end Lg

namespace Lg
open Go Go.Proofs


theorem ty112Y {α : Type} {T : α → List Ty} {Ok : List α → Prop} {M Mx : List α → SP} : TyOf Tryz.prog 112 (rY Tryz.prog T Ok M Mx) := ⟨fun w => Tryz.isAgg112 w, fun w => Tryz.sizeOf112 w⟩
theorem ty113Y {α : Type} {T : α → List Ty} {Ok : List α → Prop} {M Mx : List α → SP} : TyOf Tryz.prog 113 (rY Tryz.prog T Ok M Mx) := ⟨fun w => Tryz.isAgg113 w, fun w => Tryz.sizeOf113 w⟩
abbrev tIR : Int × GRecord → List Ty := fun y => [tV (.int .i64 y.1), rRecord.ty y.2]
def backT (records : List GRecord) : List (Int × GRecord) := (List.range records.length).map fun k => (((records.length - 1 - k : Nat) : Int), nth records (records.length - 1 - k))
theorem backT_len (records : List GRecord) : (backT records).length = records.length := by simp [backT]
theorem back_get {records : List GRecord} {k : Nat} (h : k < records.length) : nth (backT records) k = (((records.length - 1 - k : Nat) : Int), nth records (records.length - 1 - k)) := by
  rw [nth_get (by rw [backT_len]; exact h)]
  simp [backT]
abbrev tPlc : Gplace → List Ty := fun p => [rplace.ty p]
/-- The places of a record by one block. -/
def plc1 (blocks : List GBlock) (r : GRecord) (i : Nat) : List Gplace := (keysM (nth blocks i) r).map fun k => ⟨(i : Int), r.Table, k⟩
def plcN (blocks : List GBlock) (r : GRecord) (n : Nat) : List Gplace := (List.range n).flatMap (plc1 blocks r)
def placesM (blocks : List GBlock) (r : GRecord) : List Gplace := plcN blocks r blocks.length
theorem plcN_succ (blocks : List GBlock) (r : GRecord) (n : Nat) : plcN blocks r (n + 1) = plcN blocks r n ++ plc1 blocks r n := by simp [plcN, List.range_succ]
theorem plcN_pre {blocks : List GBlock} {r : GRecord} {n m : Nat} (h : n ≤ m) : plcN blocks r n <+: plcN blocks r m := by
  obtain ⟨k, rfl⟩ : ∃ k, m = n + k := ⟨m - n, by omega⟩
  clear h
  induction k with
  | zero => exact List.prefix_refl _
  | succ k ih => rw [← Nat.add_assoc, plcN_succ]; exact ih.trans (List.prefix_append _ _)
abbrev plcJ (blocks : List GBlock) (r : GRecord) (i j : Nat) : List Gplace := ((keysM (nth blocks i) r).take j).map fun k => ⟨(i : Int), r.Table, k⟩
theorem plcJ_succ {blocks : List GBlock} {r : GRecord} {i j : Nat} (h : j < (keysM (nth blocks i) r).length) : plcJ blocks r i (j + 1) = plcJ blocks r i j ++ [⟨(i : Int), r.Table, nth (keysM (nth blocks i) r) j⟩] := by
  unfold plcJ; rw [takeB h]; simp
theorem plc_ok {blocks : List GBlock} {r : GRecord} {i j : Nat} (hi : i < blocks.length) (h : j < (keysM (nth blocks i) r).length) : (plcN blocks r i ++ plcJ blocks r i j) ++ [⟨(i : Int), r.Table, nth (keysM (nth blocks i) r) j⟩] <+: placesM blocks r := by
  rw [List.append_assoc, ← plcJ_succ h]
  refine List.IsPrefix.trans ?_ (plcN_pre (show i + 1 ≤ blocks.length by omega))
  rw [plcN_succ]
  exact (List.prefix_append_right_inj _).2 ((List.take_prefix _ _).map _)
theorem compS_len (l : List ByteArray) : (compS l).length ≤ l.length := by
  unfold compS
  rw [List.length_map]
  have := compact_len (l.map ofB)
  rwa [List.length_map] at this
theorem keys_len {b : GBlock} {r : GRecord} (hr : recOk r) : (keysM b r).length ≤ 1000000000 := by
  unfold keysM
  split
  · simp
  · split
    · simp
    · rename_i hf _
      unfold finM
      refine Nat.le_trans (compS_len _) ?_
      rw [sortS_len]
      refine filter_le (raw_len b ?_)
      have hf' : fitsB b r = true := by simpa using hf
      unfold fitsB at hf'
      simp only [Bool.and_eq_true, decide_eq_true_eq] at hf'
      obtain ⟨_, _, h3, h4⟩ := hf'
      have hlt : b.Col.toNat < r.Cells.length := by omega
      have := hr _ (nth_mem hlt)
      unfold txtM
      split
      · unfold cellV; omega
      · have := textV_size (cellV b r); omega

theorem back1_spec (records : List GRecord) (hl : records.length ≤ 1000000) : ItSpec Tryz.prog 73 [tPtr (rSl rRecord) records] [] (tIR) (okP (backT records)) (fun p => p = (backT records)) := by
  intro M Mx
  refine Spec.enter Tryz.func73 rfl rfl fun h0 w0 fr0 => ?_
  have hbl := backT_len records
  refine J_seq ?_
  refine J_region ?_
  refine JL_step rfl rfl rfl (step_load_ptr ty23 Sub.rfl) ?_
  refine JL_step rfl rfl rfl (step_len_sl Tryz.underlying23 Sub.rfl) ?_
  refine JL_step rfl rfl rfl (step_sub Sub.rfl Sub.rfl ?sg1) ?_
  case sg1 => unfold in64; omega
  refine JL_step rfl rfl rfl (step_assign Sub.rfl) ?_
  refine JL_nil ?_
  refine J_block ?_
  refine J_loopL (σ := Nat) (fun k => k ≤ records.length) (fun k => upd (upd (upd env0 0 (tYield Tryz.prog tIR (okP (backT records)) M Mx)) 1 (tPtr (rSl rRecord) records)) 3 (tV (.int .i64 ((records.length : Int) - 1 - (k : Int))))) (fun k => [M ((backT records).take k)]) (fun k => records.length - k) 0 (by simp) (SubE.upd (Sub.int (by simp)) (SubE.upd Sub.rfl (SubE.upd Sub.rfl SubE.any))) (LSub.of (by simp)) ?_
  rintro k hi
  refine J_seq ?_
  refine J_seq ?_
  refine J_region ?_
  refine JL_step rfl rfl rfl (step_move Sub.rfl) ?_
  refine JL_step rfl rfl rfl (step_geq Sub.rfl Sub.rfl) ?_
  refine JL_nil ?_
  refine J_cond Sub.rfl (fun h8 => ?_) (fun h8 => ?_)
  · try simp only [decide_eq_true_eq, decide_eq_false_iff_not, Bool.and_eq_true, Bool.or_eq_true, Bool.and_eq_false_iff, Bool.or_eq_false_iff, Bool.not_eq_true', Bool.not_eq_false', Int.not_lt, Int.not_le, Bool.not_true, Bool.not_false] at h8
    have hlk : k < records.length := by omega
    have hlk2 : k < (backT records).length := by omega
    refine J_skip ?_
    refine J_seq ?_
    refine J_block ?_
    refine J_seq ?_
    refine J_region ?_
    refine JL_step rfl rfl rfl (step_move Sub.rfl) ?_
    refine JL_step rfl rfl rfl (step_move Sub.rfl) ?_
    refine JL_step rfl rfl rfl (step_load_ptr ty23 Sub.rfl) ?_
    refine JL_step rfl rfl rfl (step_move Sub.rfl) ?_
    refine JL_step rfl rfl rfl (step_indexAddr_sl (i := (records.length - 1 - k)) Tryz.underlying23 ty28 Sub.rfl Sub.rfl ?sg1 (gb ?sg2)) ?_
    case sg1 => omega
    case sg2 => omega
    refine JL_step rfl rfl rfl (step_load_ptr ty28 Sub.rfl) ?_
    refine JL_stepX rfl rfl rfl (step_yield (T := tIR) (Ok := okP (backT records)) (M := M) (Mx := Mx) (pre := ((backT records).take k)) (y := nth (backT records) k) Sub.rfl ?sg1 ?sg2 (by first | exact Sel.take (Sel.none _) | exact Sel.skip (Sel.take (Sel.none _)) | exact Sel.skip (Sel.skip (Sel.take (Sel.none _))) | exact Sel.skip (Sel.skip (Sel.skip (Sel.take (Sel.none _)))) | exact Sel.skip (Sel.skip (Sel.skip (Sel.skip (Sel.take (Sel.none _))))))) fun v17 => ?_
    case sg1 => show _ <+: _; rw [← takeB hlk2]; exact List.take_prefix _ _
    case sg2 => exact ⟨Sub.int (by rw [back_get hlk]; show _ = ((_ : Nat) : Int); omega), Sub.of_eq (by rw [back_get hlk]; rfl), trivial⟩
    cases v17
    · skip
      refine JL_step rfl rfl rfl (step_not Sub.rfl) ?_
      refine JL_nil ?_
      refine J_cond Sub.rfl (fun hc2 => ?_) (fun hc2 => ?_)
      · try simp only [decide_eq_true_eq, decide_eq_false_iff_not, Bool.and_eq_true, Bool.or_eq_true, Bool.and_eq_false_iff, Bool.or_eq_false_iff, Bool.not_eq_true', Bool.not_eq_false', Int.not_lt, Int.not_le, Bool.not_true, Bool.not_false] at hc2
        refine J_ret ?_
        refine K_itStop (Fin := fun p => p = (backT records)) (M := M) (Mx := Mx) (A := []) ?_ (((backT records).take k) ++ [nth (backT records) k]) ?_
        · rfl
        · exact LSub.of rfl
      · try simp only [decide_eq_true_eq, decide_eq_false_iff_not, Bool.and_eq_true, Bool.or_eq_true, Bool.and_eq_false_iff, Bool.or_eq_false_iff, Bool.not_eq_true', Bool.not_eq_false', Int.not_lt, Int.not_le, Bool.not_true, Bool.not_false] at hc2
        exfalso; simp_all
    · skip
      refine JL_step rfl rfl rfl (step_not Sub.rfl) ?_
      refine JL_nil ?_
      refine J_cond Sub.rfl (fun hc3 => ?_) (fun hc3 => ?_)
      · try simp only [decide_eq_true_eq, decide_eq_false_iff_not, Bool.and_eq_true, Bool.or_eq_true, Bool.and_eq_false_iff, Bool.or_eq_false_iff, Bool.not_eq_true', Bool.not_eq_false', Int.not_lt, Int.not_le, Bool.not_true, Bool.not_false] at hc3
        exfalso; simp_all
      · try simp only [decide_eq_true_eq, decide_eq_false_iff_not, Bool.and_eq_true, Bool.or_eq_true, Bool.and_eq_false_iff, Bool.or_eq_false_iff, Bool.not_eq_true', Bool.not_eq_false', Int.not_lt, Int.not_le, Bool.not_true, Bool.not_false] at hc3
        refine J_skip ?_
        refine J_region ?_
        refine JL_step rfl rfl rfl (step_move Sub.rfl) ?_
        refine JL_step rfl rfl rfl (step_sub Sub.rfl Sub.rfl ?sg1) ?_
        case sg1 => unfold in64; omega
        refine JL_step rfl rfl rfl (step_assign Sub.rfl) ?_
        refine JL_nil ?_
        refine K_againL (σ := Nat) (s := k) (k + 1) (by first | omega | (dsimp only; omega) | (simp_all; omega)) (by omega) (SubE.upd (Sub.int (by omega)) (SubE.upd Sub.rfl (SubE.upd Sub.rfl SubE.any))) (LSub.of (by rw [takeB hlk2]; rfl))
  · try simp only [decide_eq_true_eq, decide_eq_false_iff_not, Bool.and_eq_true, Bool.or_eq_true, Bool.and_eq_false_iff, Bool.or_eq_false_iff, Bool.not_eq_true', Bool.not_eq_false', Int.not_lt, Int.not_le, Bool.not_true, Bool.not_false] at h8
    obtain rfl : k = records.length := by omega
    refine J_exit ?_
    refine K_endRet (K_itDone (Fin := fun p => p = (backT records)) (M := M) (Mx := Mx) (A := []) ?_ (backT records) rfl ?_)
    · rfl
    · exact LSub.of (by rw [List.take_of_length_le (by omega)])
theorem Backward_spec (records : List GRecord) : Fun1 Tryz.prog 42 [tSl rRecord records] (tClo 73 [tPtr (rSl rRecord) records]) := by
  refine Spec.enter Tryz.func42 rfl rfl fun h0 w0 fr0 => ?_
  refine J_seq ?_
  refine J_region ?_
  refine JL_step rfl rfl rfl (step_box (R := (rSl rRecord)) Sub.rfl) ?_
  refine JL_step rfl rfl rfl (step_assign Sub.rfl) ?_
  refine JL_nil ?_
  refine J_seq ?_
  refine J_region ?_
  refine JL_step rfl rfl rfl (step_makeFunc (As := [_]) ⟨Sub.rfl, trivial⟩) ?_
  refine JL_step rfl rfl rfl (step_assign Sub.rfl) ?_
  refine JL_nil ?_
  refine J_ret ?_
  exact K_ret1 (t := 2) rfl () Sub.rfl
theorem places1_spec (blocks : List GBlock) (r : GRecord) (hr : recOk r) (hbn : blocks.length ≤ 1000000) : ItSpec Tryz.prog 74 [tPtr (rSl rBlock) blocks, tPtr rRecord r] [] (tPlc) (okP (placesM blocks r)) (fun p => p = (placesM blocks r)) := by
  intro M Mx
  refine Spec.enter Tryz.func74 rfl rfl fun h0 w0 fr0 => ?_
  refine J_seq ?_
  refine J_region ?_
  refine JL_step rfl rfl rfl (step_load_ptr ty22 Sub.rfl) ?_
  refine JL_step rfl rfl rfl (step_len_sl Tryz.underlying22 Sub.rfl) ?_
  refine JL_step rfl rfl rfl (step_move Sub.rfl) ?_
  refine JL_nil ?_
  refine J_block ?_
  refine J_loopL (σ := Nat) (fun i => i ≤ blocks.length) (fun i => upd (upd (upd (upd (upd env0 0 (tYield Tryz.prog tPlc (okP (placesM blocks r)) M Mx)) 2 (tPtr rRecord r)) 8 (tSl rBlock blocks)) 9 (tV (.int .i64 blocks.length))) 10 (tV (.int .i64 i))) (fun i => [M (plcN blocks r i)]) (fun i => blocks.length - i) 0 (by simp) (SubE.upd Sub.rfl (SubE.upd Sub.rfl (SubE.upd Sub.rfl (SubE.upd Sub.rfl (SubE.upd Sub.rfl SubE.any))))) (LSub.of rfl) ?_
  rintro i hi
  refine J_seq ?_
  refine J_region ?_
  refine JL_step rfl rfl rfl (step_lss Sub.rfl Sub.rfl) ?_
  refine JL_nil ?_
  refine J_seq ?_
  refine J_cond Sub.rfl (fun h11 => ?_) (fun h11 => ?_)
  · try simp only [decide_eq_true_eq, decide_eq_false_iff_not, Bool.and_eq_true, Bool.or_eq_true, Bool.and_eq_false_iff, Bool.or_eq_false_iff, Bool.not_eq_true', Bool.not_eq_false', Int.not_lt, Int.not_le, Bool.not_true, Bool.not_false] at h11
    have hlt : i < blocks.length := by omega
    have hkl := keys_len (b := nth blocks i) hr
    refine J_skip ?_
    refine J_seq ?_
    refine J_block ?_
    refine J_seq ?_
    refine J_region ?_
    refine JL_step rfl rfl rfl (step_move Sub.rfl) ?_
    refine JL_step rfl rfl rfl (step_indexAddr_sl  Tryz.underlying22 ty35 Sub.rfl Sub.rfl rfl (gb ?sg1)) ?_
    case sg1 => first | assumption | omega
    refine JL_step rfl rfl rfl (step_load_ptr ty35 Sub.rfl) ?_
    refine JL_stepX rfl rfl rfl (step_alloc (fun w => Tryz.zeroValue35 w) zr35) fun a5 => ?_
    refine JL_step rfl rfl rfl (step_assign Sub.rfl) ?_
    refine JL_stepU rfl rfl (step_store_box ty35 Sub.rfl Sub.rfl (by first | exact Sel.take (Sel.none _) | exact Sel.skip (Sel.take (Sel.none _)) | exact Sel.skip (Sel.skip (Sel.take (Sel.none _))) | exact Sel.skip (Sel.skip (Sel.skip (Sel.take (Sel.none _)))) | exact Sel.skip (Sel.skip (Sel.skip (Sel.skip (Sel.take (Sel.none _))))))) fun _ => ?_
    refine JL_freeze (t := 5) (Sel.take (Sel.none _)) Frz.box ?_
    refine JL_nil ?_
    refine J_seq ?_
    refine J_region ?_
    refine JL_step rfl rfl rfl (step_load_ptr ty35 Sub.rfl) ?_
    refine JL_step rfl rfl rfl (step_load_ptr ty28 Sub.rfl) ?_
    refine JL_step rfl rfl rfl (step_call0 (Keys_spec _ _ hr) ⟨Sub.rfl, Sub.rfl, trivial⟩ Tryz.call13) ?_
    refine JL_step rfl rfl rfl (step_len_sl Tryz.underlying32 Sub.rfl) ?_
    refine JL_step rfl rfl rfl (step_move Sub.rfl) ?_
    refine JL_nil ?_
    refine J_block ?_
    refine J_loopL (σ := Nat) (fun j => j ≤ (keysM (nth blocks i) r).length) (fun j => upd (upd (upd (upd (upd (upd (upd (upd (upd (upd (upd (upd env0 0 (tYield Tryz.prog tPlc (okP (placesM blocks r)) M Mx)) 2 (tPtr rRecord r)) 4 (tV (.int .i64 i))) 5 (tPtr rBlock (nth blocks i))) 8 (tSl rBlock blocks)) 9 (tV (.int .i64 blocks.length))) 10 (tV (.int .i64 i))) 12 (tV (.int .i64 i))) 14 (rBlock.ty (nth blocks i))) 17 (tSl rStr (keysM (nth blocks i) r))) 18 (tV (.int .i64 (keysM (nth blocks i) r).length))) 19 (tV (.int .i64 j))) (fun j => [M (plcN blocks r i ++ plcJ blocks r i j)]) (fun j => (keysM (nth blocks i) r).length - j) 0 (by simp) (SubE.upd Sub.rfl (SubE.upd Sub.rfl (SubE.upd Sub.rfl (SubE.upd Sub.rfl (SubE.upd Sub.rfl (SubE.upd Sub.rfl (SubE.upd Sub.rfl (SubE.upd Sub.rfl (SubE.upd Sub.rfl (SubE.upd Sub.rfl (SubE.upd Sub.rfl (SubE.upd Sub.rfl SubE.any)))))))))))) (LSub.of (by simp [plcJ])) ?_
    rintro j hj
    refine J_seq ?_
    refine J_region ?_
    refine JL_step rfl rfl rfl (step_lss Sub.rfl Sub.rfl) ?_
    refine JL_nil ?_
    refine J_seq ?_
    refine J_cond Sub.rfl (fun h20 => ?_) (fun h20 => ?_)
    · try simp only [decide_eq_true_eq, decide_eq_false_iff_not, Bool.and_eq_true, Bool.or_eq_true, Bool.and_eq_false_iff, Bool.or_eq_false_iff, Bool.not_eq_true', Bool.not_eq_false', Int.not_lt, Int.not_le, Bool.not_true, Bool.not_false] at h20
      have hlj : j < (keysM (nth blocks i) r).length := by omega
      refine J_skip ?_
      refine J_seq ?_
      refine J_block ?_
      refine J_seq ?_
      refine J_region ?_
      refine JL_step rfl rfl rfl (step_indexAddr_sl  Tryz.underlying32 ty9 Sub.rfl Sub.rfl rfl (gb ?sg1)) ?_
      case sg1 => first | assumption | omega
      refine JL_step rfl rfl rfl (step_load_ptr ty9 Sub.rfl) ?_
      refine JL_step rfl rfl rfl (step_assign Sub.rfl) ?_
      refine JL_nil ?_
      refine J_seq ?_
      refine J_region ?_
      refine JL_step rfl rfl rfl (step_move Sub.rfl) ?_
      refine JL_step rfl rfl rfl (step_move Sub.rfl) ?_
      refine JL_step rfl rfl rfl (step_fieldAddr so28 Sub.rfl rfl) ?_
      refine JL_step rfl rfl rfl (step_load_ptr ty3 Sub.rfl) ?_
      refine JL_step rfl rfl rfl (step_move Sub.rfl) ?_
      refine JL_step rfl rfl rfl (step_build (x := (⟨(i : Int), r.Table, nth (keysM (nth blocks i) r) j⟩ : Gplace)) (zs := [[Value.int .i64 0], [Value.int .i64 0], [Value.string ⟨#[]⟩]]) so89 (fun w => Tryz.zeroValue89 w) ⟨Sub.rfl, Sub.rfl, Sub.rfl, trivial⟩ ⟨⟨Sub.rfl, rfl⟩, ⟨Sub.rfl, rfl⟩, ⟨Sub.rfl, rfl⟩, trivial⟩) ?_
      refine JL_stepX rfl rfl rfl (step_yield (T := tPlc) (Ok := okP (placesM blocks r)) (M := M) (Mx := Mx) (pre := (plcN blocks r i ++ plcJ blocks r i j)) (y := ⟨(i : Int), r.Table, nth (keysM (nth blocks i) r) j⟩) Sub.rfl ?sg1 ?sg2 (by first | exact Sel.take (Sel.none _) | exact Sel.skip (Sel.take (Sel.none _)) | exact Sel.skip (Sel.skip (Sel.take (Sel.none _))) | exact Sel.skip (Sel.skip (Sel.skip (Sel.take (Sel.none _)))) | exact Sel.skip (Sel.skip (Sel.skip (Sel.skip (Sel.take (Sel.none _))))))) fun v29 => ?_
      case sg1 => exact plc_ok hlt hlj
      case sg2 => exact ⟨Sub.rfl, trivial⟩
      cases v29
      · skip
        refine JL_step rfl rfl rfl (step_not Sub.rfl) ?_
        refine JL_nil ?_
        refine J_cond Sub.rfl (fun hc3 => ?_) (fun hc3 => ?_)
        · try simp only [decide_eq_true_eq, decide_eq_false_iff_not, Bool.and_eq_true, Bool.or_eq_true, Bool.and_eq_false_iff, Bool.or_eq_false_iff, Bool.not_eq_true', Bool.not_eq_false', Int.not_lt, Int.not_le, Bool.not_true, Bool.not_false] at hc3
          refine J_ret ?_
          refine K_itStop (Fin := fun p => p = (placesM blocks r)) (M := M) (Mx := Mx) (A := []) ?_ ((plcN blocks r i ++ plcJ blocks r i j) ++ [⟨(i : Int), r.Table, nth (keysM (nth blocks i) r) j⟩]) ?_
          · rfl
          · exact LSub.of rfl
        · try simp only [decide_eq_true_eq, decide_eq_false_iff_not, Bool.and_eq_true, Bool.or_eq_true, Bool.and_eq_false_iff, Bool.or_eq_false_iff, Bool.not_eq_true', Bool.not_eq_false', Int.not_lt, Int.not_le, Bool.not_true, Bool.not_false] at hc3
          exfalso; simp_all
      · skip
        refine JL_step rfl rfl rfl (step_not Sub.rfl) ?_
        refine JL_nil ?_
        refine J_cond Sub.rfl (fun hc4 => ?_) (fun hc4 => ?_)
        · try simp only [decide_eq_true_eq, decide_eq_false_iff_not, Bool.and_eq_true, Bool.or_eq_true, Bool.and_eq_false_iff, Bool.or_eq_false_iff, Bool.not_eq_true', Bool.not_eq_false', Int.not_lt, Int.not_le, Bool.not_true, Bool.not_false] at hc4
          exfalso; simp_all
        · try simp only [decide_eq_true_eq, decide_eq_false_iff_not, Bool.and_eq_true, Bool.or_eq_true, Bool.and_eq_false_iff, Bool.or_eq_false_iff, Bool.not_eq_true', Bool.not_eq_false', Int.not_lt, Int.not_le, Bool.not_true, Bool.not_false] at hc4
          refine J_skip ?_
          refine J_region ?_
          refine JL_step rfl rfl rfl (step_add Sub.rfl Sub.rfl ?sg1) ?_
          case sg1 => unfold in64; omega
          refine JL_step rfl rfl rfl (step_move Sub.rfl) ?_
          refine JL_nil ?_
          refine K_againL (σ := Nat) (s := j) (j + 1) (by first | omega | (dsimp only; omega) | (simp_all; omega)) (by omega) (SubE.upd Sub.rfl (SubE.upd Sub.rfl (SubE.upd Sub.rfl (SubE.upd Sub.rfl (SubE.upd Sub.rfl (SubE.upd Sub.rfl (SubE.upd Sub.rfl (SubE.upd Sub.rfl (SubE.upd Sub.rfl (SubE.upd Sub.rfl (SubE.upd Sub.rfl (SubE.upd Sub.rfl SubE.any)))))))))))) (LSub.of (by rw [plcJ_succ hlj, List.append_assoc]; rfl))
    · try simp only [decide_eq_true_eq, decide_eq_false_iff_not, Bool.and_eq_true, Bool.or_eq_true, Bool.and_eq_false_iff, Bool.or_eq_false_iff, Bool.not_eq_true', Bool.not_eq_false', Int.not_lt, Int.not_le, Bool.not_true, Bool.not_false] at h20
      obtain rfl : j = (keysM (nth blocks i) r).length := by omega
      refine J_exit ?_
      refine J_region ?_
      refine JL_step rfl rfl rfl (step_add Sub.rfl Sub.rfl ?sg1) ?_
      case sg1 => unfold in64; omega
      refine JL_step rfl rfl rfl (step_move Sub.rfl) ?_
      refine JL_nil ?_
      refine K_againL (σ := Nat) (s := i) (i + 1) (by first | omega | (dsimp only; omega) | (simp_all; omega)) (by omega) (SubE.upd Sub.rfl (SubE.upd Sub.rfl (SubE.upd Sub.rfl (SubE.upd Sub.rfl (SubE.upd Sub.rfl SubE.any))))) (LSub.of (by rw [plcN_succ, plc1, plcJ, List.take_length]))
  · try simp only [decide_eq_true_eq, decide_eq_false_iff_not, Bool.and_eq_true, Bool.or_eq_true, Bool.and_eq_false_iff, Bool.or_eq_false_iff, Bool.not_eq_true', Bool.not_eq_false', Int.not_lt, Int.not_le, Bool.not_true, Bool.not_false] at h11
    obtain rfl : i = blocks.length := by omega
    refine J_exit ?_
    refine K_endRet (K_itDone (Fin := fun p => p = (placesM blocks r)) (M := M) (Mx := Mx) (A := []) ?_ (placesM blocks r) rfl ?_)
    · rfl
    · exact LSub.of rfl
theorem places_spec (blocks : List GBlock) (r : GRecord) : Fun1 Tryz.prog 43 [tSl rBlock blocks, rRecord.ty r] (tClo 74 [tPtr (rSl rBlock) blocks, tPtr rRecord r]) := by
  refine Spec.enter Tryz.func43 rfl rfl fun h0 w0 fr0 => ?_
  refine J_seq ?_
  refine J_region ?_
  refine JL_step rfl rfl rfl (step_box (R := (rSl rBlock)) Sub.rfl) ?_
  refine JL_step rfl rfl rfl (step_box (R := rRecord) Sub.rfl) ?_
  refine JL_step rfl rfl rfl (step_assign Sub.rfl) ?_
  refine JL_nil ?_
  refine J_seq ?_
  refine J_region ?_
  refine JL_step rfl rfl rfl (step_makeFunc (As := [_, _]) ⟨Sub.rfl, Sub.rfl, trivial⟩) ?_
  refine JL_step rfl rfl rfl (step_assign Sub.rfl) ?_
  refine JL_nil ?_
  refine J_ret ?_
  exact K_ret1 (t := 4) rfl () Sub.rfl
end Lg

namespace Lg
open Go Go.Proofs


def setP (ps : List Gplace) : List (Gplace × Bool) := ps.foldl (fun m s => mput m s true) []
theorem setP_snoc (ps : List Gplace) (p : Gplace) : setP (ps ++ [p]) = mput (setP ps) p true := by simp [setP, List.foldl_append]
theorem mget_setP (ps : List Gplace) (q : Gplace) : (mget (setP ps) q).getD false = decide (q ∈ ps) := by
  have key : ∀ (ps : List Gplace) (m : List (Gplace × Bool)), (mget (ps.foldl (fun m s => mput m s true) m) q).getD false = (decide (q ∈ ps) || (mget m q).getD false) := by
    intro ps
    induction ps with
    | nil => intro m; simp
    | cons p ps ih =>
      intro m
      rw [List.foldl_cons, ih, mget_mput]
      by_cases h : q = p
      · simp [h]
      · simp [h]
  rw [setP, key]; simp [mget]
def sharesB (blocks : List GBlock) (x r : GRecord) : Bool := (placesM blocks x).any fun p => decide (p ∈ placesM blocks r)
def nearN (blocks : List GBlock) (records : List GRecord) (r : GRecord) (n : Nat) : List Int := ((List.range n).filter fun i => sharesB blocks (nth records i) r).map fun i : Nat => (i : Int)
def nearM (blocks : List GBlock) (records : List GRecord) (r : GRecord) : List Int := nearN blocks records r records.length
theorem nearN_t {blocks : List GBlock} {records : List GRecord} {r : GRecord} {n : Nat} (h : sharesB blocks (nth records n) r = true) : nearN blocks records r (n + 1) = nearN blocks records r n ++ [(n : Int)] := by
  simp [nearN, List.range_succ, h]
theorem nearN_f {blocks : List GBlock} {records : List GRecord} {r : GRecord} {n : Nat} (h : sharesB blocks (nth records n) r = false) : nearN blocks records r (n + 1) = nearN blocks records r n := by
  simp [nearN, List.range_succ, h]
theorem nearN_len (blocks : List GBlock) (records : List GRecord) (r : GRecord) (n : Nat) : (nearN blocks records r n).length ≤ n := by
  unfold nearN
  rw [List.length_map]
  exact Nat.le_trans (List.length_filter_le _ _) (by simp)

theorem Near_spec (blocks : List GBlock) (records : List GRecord) (r : GRecord) (hbn : blocks.length ≤ 1000000) (hr : recOk r) (hrs : ∀ x ∈ records, recOk x) (hl : records.length ≤ 2000) : Fun1 Tryz.prog 17 [tSl rBlock blocks, tSl rRecord records, rRecord.ty r] (tTup [tSl rInt (nearM blocks records r), tV (.int .i64 0)]) := by
  refine Spec.enter Tryz.func17 rfl rfl fun h0 w0 fr0 => ?_
  refine J_seq ?_
  refine J_region ?_
  refine JL_step rfl rfl rfl (step_box (R := rRecord) Sub.rfl) ?_
  refine JL_step rfl rfl rfl (step_assign Sub.rfl) ?_
  refine JL_step rfl rfl rfl (step_assign Sub.rfl) ?_
  refine JL_nil ?_
  refine J_seq ?_
  refine J_seq ?_
  refine J_region ?_
  refine JL_step rfl rfl rfl (step_move Sub.rfl) ?_
  refine JL_step rfl rfl rfl (step_len_sl Tryz.underlying23 Sub.rfl) ?_
  refine JL_step rfl rfl rfl (step_gtr Sub.rfl Sub.rfl) ?_
  refine JL_nil ?_
  refine J_cond Sub.rfl (fun h16 => ?_) (fun h16 => ?_)
  · try simp only [decide_eq_true_eq, decide_eq_false_iff_not, Bool.and_eq_true, Bool.or_eq_true, Bool.and_eq_false_iff, Bool.or_eq_false_iff, Bool.not_eq_true', Bool.not_eq_false', Int.not_lt, Int.not_le, Bool.not_true, Bool.not_false] at h16
    exact absurd h16 (by omega)
  · try simp only [decide_eq_true_eq, decide_eq_false_iff_not, Bool.and_eq_true, Bool.or_eq_true, Bool.and_eq_false_iff, Bool.or_eq_false_iff, Bool.not_eq_true', Bool.not_eq_false', Int.not_lt, Int.not_le, Bool.not_true, Bool.not_false] at h16
    refine J_skip ?_
    refine J_seq ?_
    refine J_region ?_
    refine JL_stepX rfl rfl rfl (step_makeMapV (kv := kvP) (R := rBool)) fun v17 => ?_
    refine JL_stepX rfl rfl rfl (step_alloc (R := rV) (z := Value.map none) (fun w => Tryz.zeroValue93 w) (fun _ => ⟨rfl, rfl⟩)) fun v8 => ?_
    refine JL_stepU rfl rfl (step_store_box (R := rV) ty93 Sub.rfl Sub.rfl (by first | exact Sel.take (Sel.none _) | exact Sel.skip (Sel.take (Sel.none _)) | exact Sel.skip (Sel.skip (Sel.take (Sel.none _))) | exact Sel.skip (Sel.skip (Sel.skip (Sel.take (Sel.none _)))) | exact Sel.skip (Sel.skip (Sel.skip (Sel.skip (Sel.take (Sel.none _))))))) fun _ => ?_
    refine JL_nil ?_
    refine K_freeze (t := 8) (Sel.take (Sel.none _)) Frz.box ?_
    refine J_seq ?_
    refine J_seq ?_
    refine J_region ?_
    refine JL_step rfl rfl rfl (step_move Sub.rfl) ?_
    refine JL_step rfl rfl rfl (step_load_ptr ty28 Sub.rfl) ?_
    refine JL_step rfl rfl rfl (step_call0 (places_spec _ _) ⟨Sub.rfl, Sub.rfl, trivial⟩ Tryz.call43) ?_
    refine JL_nil ?_
    refine J_block ?_
    refine J_range (A := []) (T := tPlc) (Ok := okP (placesM blocks r)) (Fin := fun p => p = (placesM blocks r)) (R := []) (fun xs => mapOwn kvP rBool v17 (setP xs)) (fun _ _ => SP.pure False) rfl (fun _ => rfl) rfl (places1_spec blocks r hr hbn) Sub.rfl Tryz.call74 (LSub.rfl) ?round1 ?done1 ?stop1
    case round1 =>
      intro l1 rec1 h2 w2 fr2 pre y hle1 hst1 hpd1 hdj1 hok
      refine J_region ?_
      refine JL_stepX rfl rfl rfl (step_alloc (fun w => Tryz.zeroValue89 w) zr89) fun a9 => ?_
      refine JL_stepU rfl rfl (step_store_box ty89 Sub.rfl Sub.rfl (by first | exact Sel.take (Sel.none _) | exact Sel.skip (Sel.take (Sel.none _)) | exact Sel.skip (Sel.skip (Sel.take (Sel.none _))) | exact Sel.skip (Sel.skip (Sel.skip (Sel.take (Sel.none _)))) | exact Sel.skip (Sel.skip (Sel.skip (Sel.skip (Sel.take (Sel.none _))))))) fun _ => ?_
      refine JL_freeze (t := 9) (Sel.take (Sel.none _)) Frz.box ?_
      refine JL_nil ?_
      refine K_begin hst1 hdj1 ?_
      refine J_block ?_
      refine J_region ?_
      refine JL_step rfl rfl rfl (step_load_ptr ty93 Sub.rfl) ?_
      refine JL_step rfl rfl rfl (step_load_ptr ty89 Sub.rfl) ?_
      refine JL_stepU rfl rfl (step_mapUpdate (kv := kvP) (R := rBool) keyP Tryz.underlying93 Sub.ofRV Sub.plc Sub.rfl (by first | exact Sel.take (Sel.none _) | exact Sel.skip (Sel.take (Sel.none _)) | exact Sel.skip (Sel.skip (Sel.take (Sel.none _))) | exact Sel.skip (Sel.skip (Sel.skip (Sel.take (Sel.none _)))) | exact Sel.skip (Sel.skip (Sel.skip (Sel.skip (Sel.take (Sel.none _))))))) fun _ => ?_
      refine JL_nil ?_
      refine K_roundN hst1 hpd1 ?_
      exact LSub.cons (by first | exact Sel.take (Sel.none _) | exact Sel.skip (Sel.take (Sel.none _)) | exact Sel.skip (Sel.skip (Sel.take (Sel.none _))) | exact Sel.skip (Sel.skip (Sel.skip (Sel.take (Sel.none _)))) | exact Sel.skip (Sel.skip (Sel.skip (Sel.skip (Sel.take (Sel.none _)))))) (SPs.rfl) (LSub.cons (by first | exact Sel.take (Sel.none _) | exact Sel.skip (Sel.take (Sel.none _)) | exact Sel.skip (Sel.skip (Sel.take (Sel.none _))) | exact Sel.skip (Sel.skip (Sel.skip (Sel.take (Sel.none _)))) | exact Sel.skip (Sel.skip (Sel.skip (Sel.skip (Sel.take (Sel.none _)))))) (SPs.of (by rw [setP_snoc])) (LSub.nil))
    case done1 =>
      intro D1 xs hfin
      have hfin : xs = (placesM blocks r) := hfin
      subst xs
      refine J_seq ?_
      refine J_region ?_
      refine JL_stepX rfl rfl rfl (step_alloc (R := rV) (z := Value.slice none 0 0) (fun w => Tryz.zeroValue40 w) (fun _ => ⟨rfl, rfl⟩)) fun v10 => ?_
      refine JL_nil ?_
      refine J_seq ?_
      refine J_seq ?_
      refine J_region ?_
      refine JL_step rfl rfl rfl (step_move Sub.rfl) ?_
      refine JL_step rfl rfl rfl (step_len_sl Tryz.underlying23 Sub.rfl) ?_
      refine JL_step rfl rfl rfl (step_move Sub.rfl) ?_
      refine JL_nil ?_
      refine J_block ?_
      refine J_loopD (σ := Nat × Value × List Nat) (fun ⟨i, vo, Ds⟩ => i ≤ records.length) (fun ⟨i, vo, Ds⟩ => upd (upd (upd (upd (upd (upd (upd (upd env0 0 (tSl rBlock blocks)) 6 (tV (.slice none 0 0))) 7 (tV (.int .i64 0))) 8 (tPtr rV v17)) 10 (tAt v10 0)) 24 (tSl rRecord records)) 25 (tV (.int .i64 records.length))) 26 (tV (.int .i64 i))) (fun ⟨i, vo, Ds⟩ => [mapOwn kvP rBool v17 (setP (placesM blocks r)), box v10 40 rV vo, own 3 rInt vo (nearN blocks records r i), stars (Ds.map dfB)]) (fun ⟨i, vo, Ds⟩ => records.length - i) (fun ⟨i, vo, Ds⟩ => Ds.map markD) (0, .slice none 0 0, [D1]) (by simp) (SubE.upd Sub.rfl (SubE.upd Sub.rfl (SubE.upd Sub.rfl (SubE.upd Sub.rfl (SubE.upd Sub.rfl (SubE.upd Sub.rfl (SubE.upd Sub.rfl (SubE.upd Sub.rfl SubE.any)))))))) (LSub.trans (LSub.nilown (e := 3) (R := rInt)) (LSub.cons (by first | exact Sel.take (Sel.none _) | exact Sel.skip (Sel.take (Sel.none _)) | exact Sel.skip (Sel.skip (Sel.take (Sel.none _))) | exact Sel.skip (Sel.skip (Sel.skip (Sel.take (Sel.none _)))) | exact Sel.skip (Sel.skip (Sel.skip (Sel.skip (Sel.take (Sel.none _)))))) SPs.rfl (LSub.cons (by first | exact Sel.take (Sel.none _) | exact Sel.skip (Sel.take (Sel.none _)) | exact Sel.skip (Sel.skip (Sel.take (Sel.none _))) | exact Sel.skip (Sel.skip (Sel.skip (Sel.take (Sel.none _)))) | exact Sel.skip (Sel.skip (Sel.skip (Sel.skip (Sel.take (Sel.none _)))))) SPs.rfl (LSub.cons (by first | exact Sel.take (Sel.none _) | exact Sel.skip (Sel.take (Sel.none _)) | exact Sel.skip (Sel.skip (Sel.take (Sel.none _))) | exact Sel.skip (Sel.skip (Sel.skip (Sel.take (Sel.none _)))) | exact Sel.skip (Sel.skip (Sel.skip (Sel.skip (Sel.take (Sel.none _)))))) SPs.rfl (fun h m p => ⟨m, PH.emp, PH.disj_emp _, (PH.join_emp _).symm, p, rfl⟩))))) rfl ?_
      rintro ⟨i, vo, Ds⟩ hi
      try dsimp only at hi
      refine J_seq ?_
      refine J_region ?_
      refine JL_step rfl rfl rfl (step_lss Sub.rfl Sub.rfl) ?_
      refine JL_nil ?_
      refine J_seq ?_
      refine J_cond Sub.rfl (fun h27 => ?_) (fun h27 => ?_)
      · try simp only [decide_eq_true_eq, decide_eq_false_iff_not, Bool.and_eq_true, Bool.or_eq_true, Bool.and_eq_false_iff, Bool.or_eq_false_iff, Bool.not_eq_true', Bool.not_eq_false', Int.not_lt, Int.not_le, Bool.not_true, Bool.not_false] at h27
        have hlt : i < records.length := by omega
        have hrx := hrs _ (nth_mem hlt)
        refine J_skip ?_
        refine J_seq ?_
        refine J_block ?_
        refine J_seq ?_
        refine J_region ?_
        refine JL_step rfl rfl rfl (step_move Sub.rfl) ?_
        refine JL_step rfl rfl rfl (step_indexAddr_sl  Tryz.underlying23 ty28 Sub.rfl Sub.rfl rfl (gb ?sg1)) ?_
        case sg1 => first | assumption | omega
        refine JL_step rfl rfl rfl (step_load_ptr ty28 Sub.rfl) ?_
        refine JL_stepX rfl rfl rfl (step_alloc (fun w => Tryz.zeroValue3 w) zr3) fun a11 => ?_
        refine JL_stepX rfl rfl rfl (step_alloc (fun w => Tryz.zeroValue28 w) zr28) fun a12 => ?_
        refine JL_stepU rfl rfl (step_store_box ty3 Sub.rfl Sub.rfl (by first | exact Sel.take (Sel.none _) | exact Sel.skip (Sel.take (Sel.none _)) | exact Sel.skip (Sel.skip (Sel.take (Sel.none _))) | exact Sel.skip (Sel.skip (Sel.skip (Sel.take (Sel.none _)))) | exact Sel.skip (Sel.skip (Sel.skip (Sel.skip (Sel.take (Sel.none _))))))) fun _ => ?_
        refine JL_freeze (t := 11) (Sel.take (Sel.none _)) Frz.box ?_
        refine JL_stepU rfl rfl (step_store_box ty28 Sub.rfl Sub.rfl (by first | exact Sel.take (Sel.none _) | exact Sel.skip (Sel.take (Sel.none _)) | exact Sel.skip (Sel.skip (Sel.take (Sel.none _))) | exact Sel.skip (Sel.skip (Sel.skip (Sel.take (Sel.none _)))) | exact Sel.skip (Sel.skip (Sel.skip (Sel.skip (Sel.take (Sel.none _))))))) fun _ => ?_
        refine JL_freeze (t := 12) (Sel.take (Sel.none _)) Frz.box ?_
        refine JL_nil ?_
        refine J_seq ?_
        refine J_region ?_
        refine JL_step rfl rfl rfl (step_move Sub.rfl) ?_
        refine JL_step rfl rfl rfl (step_load_ptr ty28 Sub.rfl) ?_
        refine JL_step rfl rfl rfl (step_call0 (places_spec _ _) ⟨Sub.rfl, Sub.rfl, trivial⟩ Tryz.call43) ?_
        refine JL_nil ?_
        refine J_block ?_
        refine J_range (A := []) (T := tPlc) (Ok := okP (placesM blocks (nth records i))) (Fin := fun p => p = placesM blocks (nth records i)) (R := [stars (Ds.map dfB)]) (fun xs => stars [SP.pure (∀ q ∈ xs, q ∉ (placesM blocks r)), mapOwn kvP rBool v17 (setP (placesM blocks r)), box v10 40 rV vo, own 3 rInt vo (nearN blocks records r i)]) (fun c _ => SP.ex fun v2 : Value => stars [SP.pure (c = .exit 4 ∧ sharesB blocks (nth records i) r = true), mapOwn kvP rBool v17 (setP (placesM blocks r)), box v10 40 rV v2, own 3 rInt v2 ((nearN blocks records r i) ++ [(i : Int)])]) rfl (fun _ => rfl) rfl (places1_spec blocks (nth records i) hrx hbn) Sub.rfl Tryz.call74 (LSub.stars (LSub.pure (fun q hq => by simp at hq) (LSub.cons (by first | exact Sel.take (Sel.none _) | exact Sel.skip (Sel.take (Sel.none _)) | exact Sel.skip (Sel.skip (Sel.take (Sel.none _))) | exact Sel.skip (Sel.skip (Sel.skip (Sel.take (Sel.none _)))) | exact Sel.skip (Sel.skip (Sel.skip (Sel.skip (Sel.take (Sel.none _)))))) (SPs.rfl) (LSub.cons (by first | exact Sel.take (Sel.none _) | exact Sel.skip (Sel.take (Sel.none _)) | exact Sel.skip (Sel.skip (Sel.take (Sel.none _))) | exact Sel.skip (Sel.skip (Sel.skip (Sel.take (Sel.none _)))) | exact Sel.skip (Sel.skip (Sel.skip (Sel.skip (Sel.take (Sel.none _)))))) (SPs.rfl) (LSub.cons (by first | exact Sel.take (Sel.none _) | exact Sel.skip (Sel.take (Sel.none _)) | exact Sel.skip (Sel.skip (Sel.take (Sel.none _))) | exact Sel.skip (Sel.skip (Sel.skip (Sel.take (Sel.none _)))) | exact Sel.skip (Sel.skip (Sel.skip (Sel.skip (Sel.take (Sel.none _)))))) (SPs.rfl) (LSub.cons (by first | exact Sel.take (Sel.none _) | exact Sel.skip (Sel.take (Sel.none _)) | exact Sel.skip (Sel.skip (Sel.take (Sel.none _))) | exact Sel.skip (Sel.skip (Sel.skip (Sel.take (Sel.none _)))) | exact Sel.skip (Sel.skip (Sel.skip (Sel.skip (Sel.take (Sel.none _)))))) (SPs.rfl) (LSub.nil))))))) ?round2 ?done2 ?stop2
        case round2 =>
          intro l2 rec2 h3 w3 fr3 pre y hle2 hst2 hpd2 hdj2 hok
          refine K_stars (K_pure fun hno => ?_)
          refine J_region ?_
          refine JL_stepX rfl rfl rfl (step_alloc (fun w => Tryz.zeroValue89 w) zr89) fun a13 => ?_
          refine JL_stepU rfl rfl (step_store_box ty89 Sub.rfl Sub.rfl (by first | exact Sel.take (Sel.none _) | exact Sel.skip (Sel.take (Sel.none _)) | exact Sel.skip (Sel.skip (Sel.take (Sel.none _))) | exact Sel.skip (Sel.skip (Sel.skip (Sel.take (Sel.none _)))) | exact Sel.skip (Sel.skip (Sel.skip (Sel.skip (Sel.take (Sel.none _))))))) fun _ => ?_
          refine JL_freeze (t := 13) (Sel.take (Sel.none _)) Frz.box ?_
          refine JL_nil ?_
          refine K_begin hst2 hdj2 ?_
          refine J_block ?_
          refine J_seq ?_
          refine J_region ?_
          refine JL_step rfl rfl rfl (step_load_ptr ty93 Sub.rfl) ?_
          refine JL_step rfl rfl rfl (step_load_ptr ty89 Sub.rfl) ?_
          refine JL_step rfl rfl rfl (step_lookup (kv := kvP) (R := rBool) (z := false) keyP Tryz.underlying93 (fun w => Tryz.zeroValue4 w) zr4 Sub.ofRV Sub.plc (by first | exact Sel.take (Sel.none _) | exact Sel.skip (Sel.take (Sel.none _)) | exact Sel.skip (Sel.skip (Sel.take (Sel.none _))) | exact Sel.skip (Sel.skip (Sel.skip (Sel.take (Sel.none _)))) | exact Sel.skip (Sel.skip (Sel.skip (Sel.skip (Sel.take (Sel.none _))))))) ?_
          refine JL_nil ?_
          refine J_cond Sub.rfl (fun h37 => ?_) (fun h37 => ?_)
          · try simp only [decide_eq_true_eq, decide_eq_false_iff_not, Bool.and_eq_true, Bool.or_eq_true, Bool.and_eq_false_iff, Bool.or_eq_false_iff, Bool.not_eq_true', Bool.not_eq_false', Int.not_lt, Int.not_le, Bool.not_true, Bool.not_false] at h37
            rw [mget_setP] at h37
            have hsh : sharesB blocks (nth records i) r = true := by unfold sharesB; rw [List.any_eq_true]; exact ⟨y, (List.IsPrefix.subset hok) (by simp), h37⟩
            refine J_seq ?_
            refine J_region ?_
            refine JL_step rfl rfl rfl (step_load_box ty40V Sub.rfl (by first | exact Sel.take (Sel.none _) | exact Sel.skip (Sel.take (Sel.none _)) | exact Sel.skip (Sel.skip (Sel.take (Sel.none _))) | exact Sel.skip (Sel.skip (Sel.skip (Sel.take (Sel.none _)))) | exact Sel.skip (Sel.skip (Sel.skip (Sel.skip (Sel.take (Sel.none _))))))) ?_
            refine JL_step rfl rfl rfl (step_load_ptr ty3 Sub.rfl) ?_
            refine JL_step rfl rfl rfl (step_literal (ys := [_]) Tryz.underlying40 el3 ⟨rfl, Sub.rfl, trivial⟩ rfl (by decide)) ?_
            refine JL_stepX rfl rfl rfl (step_append Tryz.underlying40 el3 Sub.rfl Sub.rfl (by first | exact Sel.take (Sel.none _) | exact Sel.skip (Sel.take (Sel.none _)) | exact Sel.skip (Sel.skip (Sel.take (Sel.none _))) | exact Sel.skip (Sel.skip (Sel.skip (Sel.take (Sel.none _)))) | exact Sel.skip (Sel.skip (Sel.skip (Sel.skip (Sel.take (Sel.none _)))))) (by have := nearN_len blocks records r i; simp; omega) (by have := nearN_len blocks records r i; simp; omega)) fun v41 => ?_
            refine JL_stepU rfl rfl (step_store_box (R := rV) ty40V Sub.rfl Sub.rfl (by first | exact Sel.take (Sel.none _) | exact Sel.skip (Sel.take (Sel.none _)) | exact Sel.skip (Sel.skip (Sel.take (Sel.none _))) | exact Sel.skip (Sel.skip (Sel.skip (Sel.take (Sel.none _)))) | exact Sel.skip (Sel.skip (Sel.skip (Sel.skip (Sel.take (Sel.none _))))))) fun _ => ?_
            refine JL_nil ?_
            refine J_exit ?_
            refine K_roundE ?_
            exact LSub.cons (by first | exact Sel.take (Sel.none _) | exact Sel.skip (Sel.take (Sel.none _)) | exact Sel.skip (Sel.skip (Sel.take (Sel.none _))) | exact Sel.skip (Sel.skip (Sel.skip (Sel.take (Sel.none _)))) | exact Sel.skip (Sel.skip (Sel.skip (Sel.skip (Sel.take (Sel.none _)))))) SPs.rfl (LSub.ex v41 (LSub.stars (LSub.pure ⟨rfl, hsh⟩ (LSub.cons (by first | exact Sel.take (Sel.none _) | exact Sel.skip (Sel.take (Sel.none _)) | exact Sel.skip (Sel.skip (Sel.take (Sel.none _))) | exact Sel.skip (Sel.skip (Sel.skip (Sel.take (Sel.none _)))) | exact Sel.skip (Sel.skip (Sel.skip (Sel.skip (Sel.take (Sel.none _)))))) (SPs.rfl) (LSub.cons (by first | exact Sel.take (Sel.none _) | exact Sel.skip (Sel.take (Sel.none _)) | exact Sel.skip (Sel.skip (Sel.take (Sel.none _))) | exact Sel.skip (Sel.skip (Sel.skip (Sel.take (Sel.none _)))) | exact Sel.skip (Sel.skip (Sel.skip (Sel.skip (Sel.take (Sel.none _)))))) (SPs.rfl) (LSub.cons (by first | exact Sel.take (Sel.none _) | exact Sel.skip (Sel.take (Sel.none _)) | exact Sel.skip (Sel.skip (Sel.take (Sel.none _))) | exact Sel.skip (Sel.skip (Sel.skip (Sel.take (Sel.none _)))) | exact Sel.skip (Sel.skip (Sel.skip (Sel.skip (Sel.take (Sel.none _)))))) (SPs.rfl) (LSub.nil)))))))
          · try simp only [decide_eq_true_eq, decide_eq_false_iff_not, Bool.and_eq_true, Bool.or_eq_true, Bool.and_eq_false_iff, Bool.or_eq_false_iff, Bool.not_eq_true', Bool.not_eq_false', Int.not_lt, Int.not_le, Bool.not_true, Bool.not_false] at h37
            rw [mget_setP] at h37
            have h37 : y ∉ (placesM blocks r) := by simpa using h37
            refine J_skip ?_
            refine K_roundN hst2 hpd2 ?_
            refine LSub.cons (by first | exact Sel.take (Sel.none _) | exact Sel.skip (Sel.take (Sel.none _)) | exact Sel.skip (Sel.skip (Sel.take (Sel.none _))) | exact Sel.skip (Sel.skip (Sel.skip (Sel.take (Sel.none _)))) | exact Sel.skip (Sel.skip (Sel.skip (Sel.skip (Sel.take (Sel.none _)))))) SPs.rfl (LSub.stars (LSub.pure (fun q hq => ?_) (LSub.cons (by first | exact Sel.take (Sel.none _) | exact Sel.skip (Sel.take (Sel.none _)) | exact Sel.skip (Sel.skip (Sel.take (Sel.none _))) | exact Sel.skip (Sel.skip (Sel.skip (Sel.take (Sel.none _)))) | exact Sel.skip (Sel.skip (Sel.skip (Sel.skip (Sel.take (Sel.none _)))))) (SPs.rfl) (LSub.cons (by first | exact Sel.take (Sel.none _) | exact Sel.skip (Sel.take (Sel.none _)) | exact Sel.skip (Sel.skip (Sel.take (Sel.none _))) | exact Sel.skip (Sel.skip (Sel.skip (Sel.take (Sel.none _)))) | exact Sel.skip (Sel.skip (Sel.skip (Sel.skip (Sel.take (Sel.none _)))))) (SPs.rfl) (LSub.cons (by first | exact Sel.take (Sel.none _) | exact Sel.skip (Sel.take (Sel.none _)) | exact Sel.skip (Sel.skip (Sel.take (Sel.none _))) | exact Sel.skip (Sel.skip (Sel.skip (Sel.take (Sel.none _)))) | exact Sel.skip (Sel.skip (Sel.skip (Sel.skip (Sel.take (Sel.none _)))))) (SPs.rfl) (LSub.nil))))))
            rcases List.mem_append.1 hq with h | h
            · exact hno q h
            · simp only [List.mem_singleton] at h; subst h; exact h37
        case done2 =>
          intro D2 xs hfin
          have hfin : xs = placesM blocks (nth records i) := hfin
          subst xs
          refine K_stars (K_pure fun hno => ?_)
          have hshf : sharesB blocks (nth records i) r = false := by unfold sharesB; rw [List.any_eq_false]; intro q hq; simpa using hno q hq
          refine J_region ?_
          refine JL_step rfl rfl rfl (step_add Sub.rfl Sub.rfl ?sg1) ?_
          case sg1 => unfold in64; omega
          refine JL_step rfl rfl rfl (step_move Sub.rfl) ?_
          refine JL_nil ?_
          refine K_againD (σ := Nat × Value × List Nat) (s := (i, vo, Ds)) (i + 1, vo, D2 :: Ds) (by first | omega | (dsimp only; omega) | (simp_all; omega)) (by omega) (SubE.upd Sub.rfl (SubE.upd Sub.rfl (SubE.upd Sub.rfl (SubE.upd Sub.rfl (SubE.upd Sub.rfl (SubE.upd Sub.rfl (SubE.upd Sub.rfl (SubE.upd Sub.rfl SubE.any)))))))) (LSub.trans (B := [dfB D2, stars (Ds.map dfB), mapOwn kvP rBool v17 (setP (placesM blocks r)), box v10 40 rV vo, own 3 rInt vo (nearN blocks records r (i + 1))]) (LSub.cons (by first | exact Sel.take (Sel.none _) | exact Sel.skip (Sel.take (Sel.none _)) | exact Sel.skip (Sel.skip (Sel.take (Sel.none _))) | exact Sel.skip (Sel.skip (Sel.skip (Sel.take (Sel.none _)))) | exact Sel.skip (Sel.skip (Sel.skip (Sel.skip (Sel.take (Sel.none _)))))) (SPs.rfl) (LSub.cons (by first | exact Sel.take (Sel.none _) | exact Sel.skip (Sel.take (Sel.none _)) | exact Sel.skip (Sel.skip (Sel.take (Sel.none _))) | exact Sel.skip (Sel.skip (Sel.skip (Sel.take (Sel.none _)))) | exact Sel.skip (Sel.skip (Sel.skip (Sel.skip (Sel.take (Sel.none _)))))) (SPs.rfl) (LSub.cons (by first | exact Sel.take (Sel.none _) | exact Sel.skip (Sel.take (Sel.none _)) | exact Sel.skip (Sel.skip (Sel.take (Sel.none _))) | exact Sel.skip (Sel.skip (Sel.skip (Sel.take (Sel.none _)))) | exact Sel.skip (Sel.skip (Sel.skip (Sel.skip (Sel.take (Sel.none _)))))) (SPs.rfl) (LSub.cons (by first | exact Sel.take (Sel.none _) | exact Sel.skip (Sel.take (Sel.none _)) | exact Sel.skip (Sel.skip (Sel.take (Sel.none _))) | exact Sel.skip (Sel.skip (Sel.skip (Sel.take (Sel.none _)))) | exact Sel.skip (Sel.skip (Sel.skip (Sel.skip (Sel.take (Sel.none _)))))) (SPs.rfl) (LSub.cons (by first | exact Sel.take (Sel.none _) | exact Sel.skip (Sel.take (Sel.none _)) | exact Sel.skip (Sel.skip (Sel.take (Sel.none _))) | exact Sel.skip (Sel.skip (Sel.skip (Sel.take (Sel.none _)))) | exact Sel.skip (Sel.skip (Sel.skip (Sel.skip (Sel.take (Sel.none _)))))) (own_eq (by rw [nearN_f hshf])) (LSub.nil)))))) (LSub.trans LSub.push (LSub.cons (by first | exact Sel.take (Sel.none _) | exact Sel.skip (Sel.take (Sel.none _)) | exact Sel.skip (Sel.skip (Sel.take (Sel.none _))) | exact Sel.skip (Sel.skip (Sel.skip (Sel.take (Sel.none _)))) | exact Sel.skip (Sel.skip (Sel.skip (Sel.skip (Sel.take (Sel.none _)))))) (SPs.rfl) (LSub.cons (by first | exact Sel.take (Sel.none _) | exact Sel.skip (Sel.take (Sel.none _)) | exact Sel.skip (Sel.skip (Sel.take (Sel.none _))) | exact Sel.skip (Sel.skip (Sel.skip (Sel.take (Sel.none _)))) | exact Sel.skip (Sel.skip (Sel.skip (Sel.skip (Sel.take (Sel.none _)))))) (SPs.rfl) (LSub.cons (by first | exact Sel.take (Sel.none _) | exact Sel.skip (Sel.take (Sel.none _)) | exact Sel.skip (Sel.skip (Sel.take (Sel.none _))) | exact Sel.skip (Sel.skip (Sel.skip (Sel.take (Sel.none _)))) | exact Sel.skip (Sel.skip (Sel.skip (Sel.skip (Sel.take (Sel.none _)))))) (SPs.rfl) (LSub.cons (by first | exact Sel.take (Sel.none _) | exact Sel.skip (Sel.take (Sel.none _)) | exact Sel.skip (Sel.skip (Sel.take (Sel.none _))) | exact Sel.skip (Sel.skip (Sel.skip (Sel.take (Sel.none _)))) | exact Sel.skip (Sel.skip (Sel.skip (Sel.skip (Sel.take (Sel.none _)))))) (SPs.rfl) (LSub.nil))))))) rfl
        case stop2 =>
          intro D2 c2 xs
          refine K_ex fun v2 => K_stars (K_pure fun hcc => ?_)
          obtain ⟨rfl, hsh⟩ := hcc
          refine J_exit ?_
          refine J_region ?_
          refine JL_step rfl rfl rfl (step_add Sub.rfl Sub.rfl ?sg1) ?_
          case sg1 => unfold in64; omega
          refine JL_step rfl rfl rfl (step_move Sub.rfl) ?_
          refine JL_nil ?_
          refine K_againD (σ := Nat × Value × List Nat) (s := (i, vo, Ds)) (i + 1, v2, D2 :: Ds) (by first | omega | (dsimp only; omega) | (simp_all; omega)) (by omega) (SubE.upd Sub.rfl (SubE.upd Sub.rfl (SubE.upd Sub.rfl (SubE.upd Sub.rfl (SubE.upd Sub.rfl (SubE.upd Sub.rfl (SubE.upd Sub.rfl (SubE.upd Sub.rfl SubE.any)))))))) (LSub.trans (B := [dfB D2, stars (Ds.map dfB), mapOwn kvP rBool v17 (setP (placesM blocks r)), box v10 40 rV v2, own 3 rInt v2 (nearN blocks records r (i + 1))]) (LSub.cons (by first | exact Sel.take (Sel.none _) | exact Sel.skip (Sel.take (Sel.none _)) | exact Sel.skip (Sel.skip (Sel.take (Sel.none _))) | exact Sel.skip (Sel.skip (Sel.skip (Sel.take (Sel.none _)))) | exact Sel.skip (Sel.skip (Sel.skip (Sel.skip (Sel.take (Sel.none _)))))) (SPs.rfl) (LSub.cons (by first | exact Sel.take (Sel.none _) | exact Sel.skip (Sel.take (Sel.none _)) | exact Sel.skip (Sel.skip (Sel.take (Sel.none _))) | exact Sel.skip (Sel.skip (Sel.skip (Sel.take (Sel.none _)))) | exact Sel.skip (Sel.skip (Sel.skip (Sel.skip (Sel.take (Sel.none _)))))) (SPs.rfl) (LSub.cons (by first | exact Sel.take (Sel.none _) | exact Sel.skip (Sel.take (Sel.none _)) | exact Sel.skip (Sel.skip (Sel.take (Sel.none _))) | exact Sel.skip (Sel.skip (Sel.skip (Sel.take (Sel.none _)))) | exact Sel.skip (Sel.skip (Sel.skip (Sel.skip (Sel.take (Sel.none _)))))) (SPs.rfl) (LSub.cons (by first | exact Sel.take (Sel.none _) | exact Sel.skip (Sel.take (Sel.none _)) | exact Sel.skip (Sel.skip (Sel.take (Sel.none _))) | exact Sel.skip (Sel.skip (Sel.skip (Sel.take (Sel.none _)))) | exact Sel.skip (Sel.skip (Sel.skip (Sel.skip (Sel.take (Sel.none _)))))) (SPs.rfl) (LSub.cons (by first | exact Sel.take (Sel.none _) | exact Sel.skip (Sel.take (Sel.none _)) | exact Sel.skip (Sel.skip (Sel.take (Sel.none _))) | exact Sel.skip (Sel.skip (Sel.skip (Sel.take (Sel.none _)))) | exact Sel.skip (Sel.skip (Sel.skip (Sel.skip (Sel.take (Sel.none _)))))) (own_eq (by rw [nearN_t hsh])) (LSub.nil)))))) (LSub.trans LSub.push (LSub.cons (by first | exact Sel.take (Sel.none _) | exact Sel.skip (Sel.take (Sel.none _)) | exact Sel.skip (Sel.skip (Sel.take (Sel.none _))) | exact Sel.skip (Sel.skip (Sel.skip (Sel.take (Sel.none _)))) | exact Sel.skip (Sel.skip (Sel.skip (Sel.skip (Sel.take (Sel.none _)))))) (SPs.rfl) (LSub.cons (by first | exact Sel.take (Sel.none _) | exact Sel.skip (Sel.take (Sel.none _)) | exact Sel.skip (Sel.skip (Sel.take (Sel.none _))) | exact Sel.skip (Sel.skip (Sel.skip (Sel.take (Sel.none _)))) | exact Sel.skip (Sel.skip (Sel.skip (Sel.skip (Sel.take (Sel.none _)))))) (SPs.rfl) (LSub.cons (by first | exact Sel.take (Sel.none _) | exact Sel.skip (Sel.take (Sel.none _)) | exact Sel.skip (Sel.skip (Sel.take (Sel.none _))) | exact Sel.skip (Sel.skip (Sel.skip (Sel.take (Sel.none _)))) | exact Sel.skip (Sel.skip (Sel.skip (Sel.skip (Sel.take (Sel.none _)))))) (SPs.rfl) (LSub.cons (by first | exact Sel.take (Sel.none _) | exact Sel.skip (Sel.take (Sel.none _)) | exact Sel.skip (Sel.skip (Sel.take (Sel.none _))) | exact Sel.skip (Sel.skip (Sel.skip (Sel.take (Sel.none _)))) | exact Sel.skip (Sel.skip (Sel.skip (Sel.skip (Sel.take (Sel.none _)))))) (SPs.rfl) (LSub.nil))))))) rfl
      · try simp only [decide_eq_true_eq, decide_eq_false_iff_not, Bool.and_eq_true, Bool.or_eq_true, Bool.and_eq_false_iff, Bool.or_eq_false_iff, Bool.not_eq_true', Bool.not_eq_false', Int.not_lt, Int.not_le, Bool.not_true, Bool.not_false] at h27
        obtain rfl : i = records.length := by omega
        refine J_exit ?_
        refine J_seq ?_
        refine J_region ?_
        refine JL_step rfl rfl rfl (step_load_box ty40V Sub.rfl (by first | exact Sel.take (Sel.none _) | exact Sel.skip (Sel.take (Sel.none _)) | exact Sel.skip (Sel.skip (Sel.take (Sel.none _))) | exact Sel.skip (Sel.skip (Sel.skip (Sel.take (Sel.none _)))) | exact Sel.skip (Sel.skip (Sel.skip (Sel.skip (Sel.take (Sel.none _))))))) ?_
        refine JL_step rfl rfl rfl (step_assign Sub.rfl) ?_
        refine JL_step rfl rfl rfl (step_assign Sub.rfl) ?_
        refine JL_nil ?_
        refine J_ret ?_
        refine K_unmarks (Ds := Ds) (L' := [own 3 rInt vo (nearN blocks records r records.length), mapOwn kvP rBool v17 (setP (placesM blocks r)), box v10 40 rV vo]) (LSub.cons (by first | exact Sel.take (Sel.none _) | exact Sel.skip (Sel.take (Sel.none _)) | exact Sel.skip (Sel.skip (Sel.take (Sel.none _))) | exact Sel.skip (Sel.skip (Sel.skip (Sel.take (Sel.none _)))) | exact Sel.skip (Sel.skip (Sel.skip (Sel.skip (Sel.take (Sel.none _)))))) (SPs.rfl) (LSub.cons (by first | exact Sel.take (Sel.none _) | exact Sel.skip (Sel.take (Sel.none _)) | exact Sel.skip (Sel.skip (Sel.take (Sel.none _))) | exact Sel.skip (Sel.skip (Sel.skip (Sel.take (Sel.none _)))) | exact Sel.skip (Sel.skip (Sel.skip (Sel.skip (Sel.take (Sel.none _)))))) (SPs.rfl) (LSub.cons (by first | exact Sel.take (Sel.none _) | exact Sel.skip (Sel.take (Sel.none _)) | exact Sel.skip (Sel.skip (Sel.take (Sel.none _))) | exact Sel.skip (Sel.skip (Sel.skip (Sel.take (Sel.none _)))) | exact Sel.skip (Sel.skip (Sel.skip (Sel.skip (Sel.take (Sel.none _)))))) (SPs.rfl) (LSub.cons (by first | exact Sel.take (Sel.none _) | exact Sel.skip (Sel.take (Sel.none _)) | exact Sel.skip (Sel.skip (Sel.take (Sel.none _))) | exact Sel.skip (Sel.skip (Sel.skip (Sel.take (Sel.none _)))) | exact Sel.skip (Sel.skip (Sel.skip (Sel.skip (Sel.take (Sel.none _)))))) (SPs.rfl) (LSub.nil))))) ?_
        refine K_ret2' (rv := .tmp 6) (rv' := .tmp 7) rfl () (Sel.all _) (.tmp Sub.rfl) (.tmp Sub.rfl) (Frz.own' rfl) (Frz.sub Sub.rfl) Sub.rfl
    case stop1 =>
      intro D1 c1 xs
      refine K_pure fun h => h.elim
end Lg

/- The pairs of block.Pairs, without a program. -/
namespace Lg
open Go Go.Proofs
def fadd (f : List (Int × Bool)) (ks : List Int) : List (Int × Bool) := ks.foldl (fun m k => mput m k true) f
theorem fadd_snoc (f : List (Int × Bool)) (ks : List Int) (k : Int) : fadd f (ks ++ [k]) = mput (fadd f ks) k true := by simp [fadd, List.foldl_append]
theorem mput_keyQ {κ β : Type} [DecidableEq κ] {k a : κ} {x : β} : ∀ {m : List (κ × β)}, k ∈ (mput m a x).map (·.1) ↔ k = a ∨ k ∈ m.map (·.1)
  | [] => by simp [mput]
  | (c, y) :: m => by
    by_cases h : a = c
    · subst h; simp [mput]
    · simp only [mput, if_neg h, List.map_cons, List.mem_cons, mput_keyQ (m := m)]
      constructor
      · rintro (h1 | h1 | h1)
        · exact .inr (.inl h1)
        · exact .inl h1
        · exact .inr (.inr h1)
      · rintro (h1 | h1 | h1)
        · exact .inr (.inl h1)
        · exact .inl h1
        · exact .inr (.inr h1)
theorem mput_nodupQ {κ β : Type} [DecidableEq κ] {a : κ} {x : β} : ∀ {m : List (κ × β)}, (m.map (·.1)).Nodup → ((mput m a x).map (·.1)).Nodup
  | [], _ => by simp [mput]
  | (c, y) :: m, h => by
    simp only [List.map_cons, List.nodup_cons] at h
    by_cases e : a = c
    · subst e; simp only [mput, if_true, List.map_cons, List.nodup_cons]; exact h
    · simp only [mput, if_neg e, List.map_cons, List.nodup_cons, mput_keyQ]
      refine ⟨?_, mput_nodupQ h.2⟩
      rintro (q | q)
      · exact e q.symm
      · exact h.1 q
theorem fadd_keys {k : Int} : ∀ {ks : List Int} {f : List (Int × Bool)}, k ∈ (fadd f ks).map (·.1) ↔ k ∈ f.map (·.1) ∨ k ∈ ks
  | [], f => by simp [fadd]
  | a :: ks, f => by
    show k ∈ (fadd (mput f a true) ks).map (·.1) ↔ _
    rw [fadd_keys, mput_keyQ, List.mem_cons]
    constructor
    · rintro ((h | h) | h)
      · exact .inr (.inl h)
      · exact .inl h
      · exact .inr (.inr h)
    · rintro (h | h | h)
      · exact .inl (.inr h)
      · exact .inl (.inl h)
      · exact .inr h
theorem fadd_nodup : ∀ {ks : List Int} {f : List (Int × Bool)}, (f.map (·.1)).Nodup → ((fadd f ks).map (·.1)).Nodup
  | [], f, h => h
  | a :: ks, f, h => fadd_nodup (ks := ks) (mput_nodupQ h)
structure QInv (q0 : RowsL Gplace Int) (i : Int) (ps : List Gplace) (q : RowsL Gplace Int) (f : List (Int × Bool)) : Prop where
  mem : ∀ p, (rval q p).2 = (rval q0 p).2 ++ if p ∈ ps then [i] else []
  fnd : ∀ k, k ∈ f.map (·.1) ↔ ∃ p, p ∈ ps ∧ k ∈ (rval q0 p).2
  nd : (f.map (·.1)).Nodup
theorem QInv.start (q0 : RowsL Gplace Int) (i : Int) : QInv q0 i [] q0 [] := ⟨fun p => by simp, fun k => by simp, by simp⟩
theorem QInv.step {q0 q : RowsL Gplace Int} {i : Int} {ps : List Gplace} {f : List (Int × Bool)} (h : QInv q0 i ps q f) {p : Gplace} (hp : p ∉ ps) (v : Value) : QInv q0 i (ps ++ [p]) (rput q p v ((rval q p).2 ++ [i])) (fadd f (rval q p).2) where
  mem := fun p2 => by
    rw [rval_rput]
    by_cases e : p2 = p
    · subst e
      rw [if_pos rfl, h.mem, if_neg hp]; simp
    · rw [if_neg e, h.mem]; simp [e]
  fnd := fun k => by
    have hq : (rval q p).2 = (rval q0 p).2 := by rw [h.mem, if_neg hp]; simp
    rw [fadd_keys, h.fnd, hq]
    constructor
    · rintro (⟨p2, h1, h2⟩ | h2)
      · exact ⟨p2, by simp [h1], h2⟩
      · exact ⟨p, by simp, h2⟩
    · rintro ⟨p2, h1, h2⟩
      rcases List.mem_append.1 h1 with h1 | h1
      · exact .inl ⟨p2, h1, h2⟩
      · simp only [List.mem_singleton] at h1; subst h1; exact .inr h2
  nd := fadd_nodup h.nd
theorem keysM_nodup (b : GBlock) (r : GRecord) : (keysM b r).Nodup := by
  unfold keysM
  split
  · simp
  · split
    · simp
    · exact incB_nodup (finM_inc _)
theorem plc1_mem {blocks : List GBlock} {r : GRecord} {i : Nat} {p : Gplace} : p ∈ plc1 blocks r i ↔ p.block = i ∧ p.table = r.Table ∧ p.key ∈ keysM (nth blocks i) r := by
  unfold plc1
  rw [List.mem_map]
  constructor
  · rintro ⟨k, hk, rfl⟩; exact ⟨rfl, rfl, hk⟩
  · rintro ⟨h1, h2, h3⟩; exact ⟨p.key, h3, by cases p; simp_all⟩
theorem places_mem {blocks : List GBlock} {r : GRecord} {p : Gplace} : p ∈ placesM blocks r ↔ ∃ i : Nat, i < blocks.length ∧ p.block = i ∧ p.table = r.Table ∧ p.key ∈ keysM (nth blocks i) r := by
  unfold placesM plcN
  rw [List.mem_flatMap]
  constructor
  · rintro ⟨i, hi, h⟩; exact ⟨i, List.mem_range.1 hi, plc1_mem.1 h⟩
  · rintro ⟨i, hi, h⟩; exact ⟨i, List.mem_range.2 hi, plc1_mem.2 h⟩
theorem places_nodup (blocks : List GBlock) (r : GRecord) : (placesM blocks r).Nodup := by
  have key : ∀ n, (plcN blocks r n).Nodup := by
    intro n
    induction n with
    | zero => simp [plcN]
    | succ n ih =>
      rw [plcN_succ, List.nodup_append]
      refine ⟨ih, ?_, fun a ha b hb e => ?_⟩
      · refine List.Pairwise.map _ (fun a b h e => ?_) (keysM_nodup (nth blocks n) r)
        injection e with _ _ e; exact h e
      · subst e
        unfold plcN at ha
        obtain ⟨i, hi, ha⟩ := List.mem_flatMap.1 ha
        have h1 := (plc1_mem.1 ha).1
        have h2 := (plc1_mem.1 hb).1
        have := List.mem_range.1 hi
        omega
  exact key _
theorem nodup_sub_lenI : ∀ {l : List Int}, l.Nodup → ∀ {r : List Int}, (∀ a ∈ l, a ∈ r) → l.length ≤ r.length
  | [], _, r, _ => Nat.zero_le _
  | a :: l, hd, r, hs => by
    have hd' := List.nodup_cons.1 hd
    have ha := hs a (by simp)
    have := nodup_sub_lenI hd'.2 (r := r.erase a) (fun b hb => (List.mem_erase_of_ne (by intro e; subst e; exact hd'.1 hb)).2 (hs b (by simp [hb])))
    rw [List.length_erase_of_mem ha] at this
    have hp : 0 < r.length := List.length_pos_of_mem ha
    simp only [List.length_cons]
    omega
structure PInv (blocks : List GBlock) (records : List GRecord) (t : Nat) (q : RowsL Gplace Int) (out : List (Int × Int)) : Prop where
  mem : ∀ p (k : Int), k ∈ (rval q p).2 ↔ ∃ j : Nat, k = j ∧ records.length - t ≤ j ∧ j < records.length ∧ p ∈ placesM blocks (nth records j)
  rows : ∀ p, (rval q p).2.length ≤ t
  nd : out.Nodup
  outm : ∀ (a b : Int), (a, b) ∈ out ↔ ∃ i j : Nat, a = i ∧ b = j ∧ records.length - t ≤ i ∧ i < j ∧ j < records.length ∧ sharesB blocks (nth records i) (nth records j) = true
  len : out.length ≤ t * records.length
theorem PInv.start (blocks : List GBlock) (records : List GRecord) : PInv blocks records 0 [] [] where
  mem := fun p k => by simp [rval]; intro j _ _ _; omega
  rows := fun p => by simp [rval]
  nd := by simp
  outm := fun a b => by simp; intro i _ j _ _ _; omega
  len := by simp
theorem shares_iff {blocks : List GBlock} {x r : GRecord} : sharesB blocks x r = true ↔ ∃ p, p ∈ placesM blocks x ∧ p ∈ placesM blocks r := by
  unfold sharesB
  rw [List.any_eq_true]
  constructor
  · rintro ⟨p, h1, h2⟩; exact ⟨p, h1, by simpa using h2⟩
  · rintro ⟨p, h1, h2⟩; exact ⟨p, h1, by simpa using h2⟩
theorem PInv.step {blocks : List GBlock} {records : List GRecord} {t : Nat} {q q2 : RowsL Gplace Int} {out : List (Int × Int)} {f : List (Int × Bool)} {ks : List Int} (h : PInv blocks records t q out) (ht : t < records.length)
    (hQ : QInv q ((records.length - 1 - t : Nat) : Int) (placesM blocks (nth records (records.length - 1 - t))) q2 f) (hk : ks.Perm (f.map (·.1))) :
    PInv blocks records (t + 1) q2 (out ++ ks.map fun k => (((records.length - 1 - t : Nat) : Int), k)) := by
  have hkm : ∀ k, k ∈ ks ↔ ∃ j : Nat, k = j ∧ records.length - t ≤ j ∧ j < records.length ∧ sharesB blocks (nth records (records.length - 1 - t)) (nth records j) = true := fun k => by
    rw [hk.mem_iff, hQ.fnd]
    constructor
    · rintro ⟨p, h1, h2⟩
      obtain ⟨j, rfl, h3, h4, h5⟩ := (h.mem p k).1 h2
      exact ⟨j, rfl, h3, h4, shares_iff.2 ⟨p, h1, h5⟩⟩
    · rintro ⟨j, rfl, h3, h4, h5⟩
      obtain ⟨p, h1, h2⟩ := shares_iff.1 h5
      exact ⟨p, h1, (h.mem p j).2 ⟨j, rfl, h3, h4, h2⟩⟩
  have hknd : ks.Nodup := hk.nodup_iff.2 hQ.nd
  have hkl : ks.length ≤ records.length := by
    have := nodup_sub_lenI hknd (r := (List.range records.length).map fun j : Nat => (j : Int)) (fun a ha => by
      obtain ⟨j, rfl, _, h4, _⟩ := (hkm a).1 ha
      exact List.mem_map.2 ⟨j, List.mem_range.2 h4, rfl⟩)
    simpa using this
  refine ⟨fun p k => ?_, fun p => ?_, ?_, fun a b => ?_, ?_⟩
  · rw [hQ.mem, List.mem_append, h.mem]
    constructor
    · rintro (⟨j, rfl, h1, h2, h3⟩ | h1)
      · exact ⟨j, rfl, by omega, h2, h3⟩
      · split at h1
        · rename_i hp
          simp only [List.mem_singleton] at h1
          exact ⟨_, h1, by omega, by omega, hp⟩
        · cases h1
    · rintro ⟨j, rfl, h1, h2, h3⟩
      by_cases e : records.length - t ≤ j
      · exact .inl ⟨j, rfl, e, h2, h3⟩
      · obtain rfl : j = records.length - 1 - t := by omega
        exact .inr (by rw [if_pos h3]; simp)
  · rw [hQ.mem, List.length_append]
    have := h.rows p
    split <;> simp <;> omega
  · rw [List.nodup_append]
    refine ⟨h.nd, ?_, fun a ha b hb e => ?_⟩
    · refine List.Pairwise.map _ (fun a b q e => ?_) hknd
      injection e with _ e; exact q e
    · subst e
      obtain ⟨k, hk1, rfl⟩ := List.mem_map.1 hb
      obtain ⟨i, j, h1, _, h3, _, _, _⟩ := (h.outm _ _).1 ha
      omega
  · rw [List.mem_append, h.outm]
    constructor
    · rintro (⟨i, j, rfl, rfl, h1, h2, h3, h4⟩ | h1)
      · exact ⟨i, j, rfl, rfl, by omega, h2, h3, h4⟩
      · obtain ⟨k, hk1, e⟩ := List.mem_map.1 h1
        injection e with e1 e2
        subst e1; subst e2
        obtain ⟨j, rfl, h3, h4, h5⟩ := (hkm _).1 hk1
        exact ⟨_, j, rfl, rfl, by omega, by omega, h4, h5⟩
    · rintro ⟨i, j, rfl, rfl, h1, h2, h3, h4⟩
      by_cases e : records.length - t ≤ i
      · exact .inl ⟨i, j, rfl, rfl, e, h2, h3, h4⟩
      · obtain rfl : i = records.length - 1 - t := by omega
        exact .inr (List.mem_map.2 ⟨j, (hkm _).2 ⟨j, rfl, by omega, h3, h4⟩, rfl⟩)
  · rw [List.length_append, List.length_map, Nat.add_mul, Nat.one_mul]
    have := h.len
    omega
def rowP (blocks : List GBlock) (records : List GRecord) (i : Nat) : List (Int × Int) := ((List.range records.length).filter fun j => decide (i < j) && sharesB blocks (nth records i) (nth records j)).map fun j : Nat => ((i : Int), (j : Int))
/-- The pairs of records that have a key of one block in common. -/
def pairsM (blocks : List GBlock) (records : List GRecord) : List (Int × Int) := (List.range records.length).flatMap (rowP blocks records)
theorem rowP_mem {blocks : List GBlock} {records : List GRecord} {i : Nat} {a b : Int} : (a, b) ∈ rowP blocks records i ↔ a = i ∧ ∃ j : Nat, b = j ∧ i < j ∧ j < records.length ∧ sharesB blocks (nth records i) (nth records j) = true := by
  unfold rowP
  rw [List.mem_map]
  constructor
  · rintro ⟨j, hj, e⟩
    rw [List.mem_filter] at hj
    injection e with e1 e2
    simp only [Bool.and_eq_true, decide_eq_true_eq] at hj
    exact ⟨e1.symm, j, e2.symm, hj.2.1, List.mem_range.1 hj.1, hj.2.2⟩
  · rintro ⟨rfl, j, rfl, h1, h2, h3⟩
    exact ⟨j, List.mem_filter.2 ⟨List.mem_range.2 h2, by simp [h1, h3]⟩, rfl⟩
theorem pairs_mem {blocks : List GBlock} {records : List GRecord} {a b : Int} : (a, b) ∈ pairsM blocks records ↔ ∃ i j : Nat, a = i ∧ b = j ∧ i < j ∧ j < records.length ∧ sharesB blocks (nth records i) (nth records j) = true := by
  unfold pairsM
  rw [List.mem_flatMap]
  constructor
  · rintro ⟨i, hi, h⟩
    obtain ⟨rfl, j, rfl, h1, h2, h3⟩ := rowP_mem.1 h
    exact ⟨i, j, rfl, rfl, h1, h2, h3⟩
  · rintro ⟨i, j, rfl, rfl, h1, h2, h3⟩
    exact ⟨i, List.mem_range.2 (by omega), rowP_mem.2 ⟨rfl, j, rfl, h1, h2, h3⟩⟩
abbrev ltP (p q : Int × Int) : Prop := p.1 < q.1 ∨ (p.1 = q.1 ∧ p.2 < q.2)
theorem pairs_pw (blocks : List GBlock) (records : List GRecord) : (pairsM blocks records).Pairwise ltP := by
  have hr : ∀ n, (List.range n).Pairwise (· < ·) := fun n => List.pairwise_lt_range
  have key : ∀ (l : List Nat), l.Pairwise (· < ·) → (l.flatMap (rowP blocks records)).Pairwise ltP := by
    intro l
    induction l with
    | nil => intro _; simp
    | cons i l ih =>
      intro hl
      rw [List.pairwise_cons] at hl
      rw [List.flatMap_cons, List.pairwise_append]
      refine ⟨?_, ih hl.2, fun a ha b hb => ?_⟩
      · unfold rowP
        rw [List.pairwise_map]
        refine ((hr records.length).filter _).imp fun {a b} h => ?_
        exact .inr ⟨rfl, by show (a : Int) < b; omega⟩
      · obtain ⟨a1, a2⟩ := a
        obtain ⟨b1, b2⟩ := b
        obtain ⟨j, hj, hb⟩ := List.mem_flatMap.1 hb
        have h1 := (rowP_mem.1 ha).1
        have h2 := (rowP_mem.1 hb).1
        have h3 := hl.1 j hj
        exact .inl (by show a1 < b1; omega)
  exact key _ (hr _)
theorem pairs_nodup (blocks : List GBlock) (records : List GRecord) : (pairsM blocks records).Nodup := (pairs_pw blocks records).imp fun {a b} h e => by
  subst e; unfold ltP at h; omega
theorem PInv.done {blocks : List GBlock} {records : List GRecord} {q : RowsL Gplace Int} {out : List (Int × Int)} (h : PInv blocks records records.length q out) : sortP out = pairsM blocks records := by
  have hp : (sortP out).Perm (pairsM blocks records) := (List.mergeSort_perm _ _).trans ((List.perm_ext_iff_of_nodup h.nd (pairs_nodup _ _)).2 fun ⟨a, b⟩ => by
    rw [h.outm, pairs_mem]
    constructor
    · rintro ⟨i, j, h1, h2, _, h3⟩; exact ⟨i, j, h1, h2, h3⟩
    · rintro ⟨i, j, h1, h2, h3⟩; exact ⟨i, j, h1, h2, by omega, h3⟩)
  have s1 : (sortP out).Pairwise fun a b => (!(ltOf pcmp) b a) = true := List.pairwise_mergeSort (fun a b c h1 h2 => by
      simp only [Bool.not_eq_true'] at *
      exact swo_pcmp.ntrans _ _ _ h2 h1) (fun a b => by
      simp only [Bool.or_eq_true, Bool.not_eq_true']
      by_cases h : ltOf pcmp b a = true
      · exact .inr (by rw [ltf_pcmp]; rw [lt_pcmp] at h; omega)
      · exact .inl (by simpa using h)) out
  refine hp.eq_of_pairwise (le := fun a b => (!(ltOf pcmp) b a) = true) (fun a b _ _ h1 h2 => ?_) s1 ((pairs_pw blocks records).imp fun {a b} h => ?_)
  · simp only [Bool.not_eq_true', ltf_pcmp] at h1 h2
    exact Prod.ext (by omega) (by omega)
  · simp only [Bool.not_eq_true', ltf_pcmp]; unfold ltP at h; omega
end Lg

namespace Lg
open Go Go.Proofs


theorem step_build_pair {ro : Option Nat} {N : Nat} {ds : List Deferred} {h0 : PH} {w0 : World} {r : PH} {E : Env} {L : List SP} {d : Option Nat} {ty : Nat} {pos : String} {af : Array Edge} {g : Option (Nat × Bool)} {x y : Operand} {a b : Int} (hx : Sub (opTy E x) (tV (.int .i64 a))) (hy : Sub (opTy E y) (tV (.int .i64 b))) :
    Step1 ⟨Tryz.prog, ro, N, ds, h0, w0, r⟩ ⟨d, .build 52 #[(0, x), (1, y)], ty, pos, af, g⟩ E L (rA2.ty (a, b)) :=
  Step.of_same (by intro c h; cases h) fun ac w h hw f => by
    have h1 : ac.eval x = .int .i64 a := f.get hx
    have h2 : ac.eval y = .int .i64 b := f.get hy
    have hb : ∀ w, (Instr.build 52 #[(0, .int .i64 a), (1, .int .i64 b)]).run Tryz.prog w = .ok (.agg #[.int .i64 a, .int .i64 b]) w := fun w => by
      simp [Instr.build, Sem.run_bind, run_underlying Tryz.underlying52, Tryz.zeroValue52, Tryz.sizeOf3, Instr.fill, Value.cells]
    refine ⟨.agg #[.int .i64 a, .int .i64 b], ?_, ⟨_, ⟨[Value.int .i64 a], _, rfl, rfl, ⟨[Value.int .i64 b], _, rfl, rfl, rfl⟩⟩, rfl⟩⟩
    simp [execOp, h1, h2, hb]
theorem keysAt_bd {blocks : List GBlock} {records : List GRecord} {t : Nat} {q q2 : RowsL Gplace Int} {out : List (Int × Int)} {i : Int} {ps : List Gplace} {f : List (Int × Bool)} (hI : PInv blocks records t q out) (hQ : QInv q i ps q2 f) (hl : records.length ≤ 100) (dn : List Nat) (h1 : dn.Nodup) (h2 : ∀ a ∈ dn, a < f.length) : (keysAt f dn).length ≤ 100 := by
  have e1 := keysAt_len f dn
  have e2 := nodup_lt_len h1 h2
  have e3 := nodup_sub_lenI hQ.nd (r := (List.range records.length).map fun j : Nat => (j : Int)) (fun a ha => by
    obtain ⟨p, _, hp⟩ := (hQ.fnd a).1 ha
    obtain ⟨j, rfl, _, h4, _⟩ := (hI.mem p a).1 hp
    exact List.mem_map.2 ⟨j, List.mem_range.2 h4, rfl⟩)
  rw [List.length_map] at e3
  simp at e3; omega

theorem pre_nth {α : Type} [Inhabited α] {pre tot : List α} {y : α} (h : okP tot (pre ++ [y])) : pre.length < tot.length ∧ y = nth tot pre.length := by
  obtain ⟨t, ht⟩ := h
  have hl : pre.length < tot.length := by rw [← ht]; simp
  refine ⟨hl, ?_⟩
  rw [nth_get hl]
  subst ht
  simp

theorem Pairs_spec (blocks : List GBlock) (records : List GRecord) (hbn : blocks.length ≤ 1000000) (hrs : ∀ x ∈ records, recOk x) (hl : records.length ≤ 100) : Fun1 Tryz.prog 15 [tSl rBlock blocks, tSl rRecord records] (tTup [tSl rA2 (pairsM blocks records), tV (.int .i64 0)]) := by
  refine Spec.enter Tryz.func15 rfl rfl fun h0 w0 fr0 => ?_
  refine J_seq ?_
  refine J_region ?_
  refine JL_step rfl rfl rfl (step_box (R := (rSl rBlock)) Sub.rfl) ?_
  refine JL_stepX rfl rfl rfl (step_alloc (R := rV) (z := Value.slice none 0 0) (fun w => Tryz.zeroValue36 w) (fun _ => ⟨rfl, rfl⟩)) fun a4 => ?_
  refine JL_stepX rfl rfl rfl (step_alloc (fun w => Tryz.zeroValue37 w) zr37) fun a5 => ?_
  refine JL_nil ?_
  refine J_seq ?_
  refine J_seq ?_
  refine J_region ?_
  refine JL_step rfl rfl rfl (step_move Sub.rfl) ?_
  refine JL_step rfl rfl rfl (step_len_sl Tryz.underlying23 Sub.rfl) ?_
  refine JL_step rfl rfl rfl (step_gtr Sub.rfl Sub.rfl) ?_
  refine JL_nil ?_
  refine J_cond Sub.rfl (fun h17 => ?_) (fun h17 => ?_)
  · try simp only [decide_eq_true_eq, decide_eq_false_iff_not, Bool.and_eq_true, Bool.or_eq_true, Bool.and_eq_false_iff, Bool.or_eq_false_iff, Bool.not_eq_true', Bool.not_eq_false', Int.not_lt, Int.not_le, Bool.not_true, Bool.not_false] at h17
    exact absurd h17 (by omega)
  · try simp only [decide_eq_true_eq, decide_eq_false_iff_not, Bool.and_eq_true, Bool.or_eq_true, Bool.and_eq_false_iff, Bool.or_eq_false_iff, Bool.not_eq_true', Bool.not_eq_false', Int.not_lt, Int.not_le, Bool.not_true, Bool.not_false] at h17
    refine J_skip ?_
    refine J_seq ?_
    refine J_region ?_
    refine JL_stepX rfl rfl rfl (step_makeMapV (kv := kvP) (R := rV)) fun v18 => ?_
    refine JL_stepX rfl rfl rfl (step_alloc (R := rV) (z := Value.map none) (fun w => Tryz.zeroValue80 w) (fun _ => ⟨rfl, rfl⟩)) fun v6 => ?_
    refine JL_stepU rfl rfl (step_store_box (R := rV) ty80 Sub.rfl Sub.rfl (by first | exact Sel.take (Sel.none _) | exact Sel.skip (Sel.take (Sel.none _)) | exact Sel.skip (Sel.skip (Sel.take (Sel.none _))) | exact Sel.skip (Sel.skip (Sel.skip (Sel.take (Sel.none _)))) | exact Sel.skip (Sel.skip (Sel.skip (Sel.skip (Sel.take (Sel.none _))))))) fun _ => ?_
    refine JL_nil ?_
    refine K_freeze (t := 6) (Sel.take (Sel.none _)) Frz.box ?_
    refine J_seq ?_
    refine J_region ?_
    refine JL_stepX rfl rfl rfl (step_alloc (R := rV) (z := Value.slice none 0 0) (fun w => Tryz.zeroValue36 w) (fun _ => ⟨rfl, rfl⟩)) fun v7 => ?_
    refine JL_nil ?_
    refine J_seq ?_
    refine J_seq ?_
    refine J_region ?_
    refine JL_step rfl rfl rfl (step_move Sub.rfl) ?_
    refine JL_step rfl rfl rfl (step_call0 (Backward_spec _) ⟨Sub.rfl, trivial⟩ Tryz.call42) ?_
    refine JL_nil ?_
    refine J_block ?_
    refine J_range (A := []) (T := tIR) (Ok := okP (backT records)) (Fin := fun xs => xs = (backT records)) (R := [box a4 36 rV (.slice none 0 0), box a5 37 rInt 0]) (fun xs => SP.ex fun q : RowsL Gplace Int => SP.ex fun vo : Value => SP.ex fun out : List (Int × Int) => stars [SP.pure (PInv blocks records xs.length q out), mapOwn kvP rV v18 (vals q), rowsO 3 rInt q, box v7 36 rV vo, own 52 rA2 vo out]) (fun _ _ => SP.pure False) rfl (fun _ => rfl) rfl (back1_spec records (by omega)) Sub.rfl Tryz.call73 (LSub.ex [] (LSub.ex (.slice none 0 0) (LSub.ex [] (LSub.stars (LSub.pure (PInv.start blocks records) (LSub.trans (LSub.nilown (e := 52) (R := rA2)) (LSub.trans rows_nil (LSub.cons (by first | exact Sel.take (Sel.none _) | exact Sel.skip (Sel.take (Sel.none _)) | exact Sel.skip (Sel.skip (Sel.take (Sel.none _))) | exact Sel.skip (Sel.skip (Sel.skip (Sel.take (Sel.none _)))) | exact Sel.skip (Sel.skip (Sel.skip (Sel.skip (Sel.take (Sel.none _)))))) (SPs.rfl) (LSub.cons (by first | exact Sel.take (Sel.none _) | exact Sel.skip (Sel.take (Sel.none _)) | exact Sel.skip (Sel.skip (Sel.take (Sel.none _))) | exact Sel.skip (Sel.skip (Sel.skip (Sel.take (Sel.none _)))) | exact Sel.skip (Sel.skip (Sel.skip (Sel.skip (Sel.take (Sel.none _)))))) (SPs.rfl) (LSub.cons (by first | exact Sel.take (Sel.none _) | exact Sel.skip (Sel.take (Sel.none _)) | exact Sel.skip (Sel.skip (Sel.take (Sel.none _))) | exact Sel.skip (Sel.skip (Sel.skip (Sel.take (Sel.none _)))) | exact Sel.skip (Sel.skip (Sel.skip (Sel.skip (Sel.take (Sel.none _)))))) (SPs.rfl) (LSub.cons (by first | exact Sel.take (Sel.none _) | exact Sel.skip (Sel.take (Sel.none _)) | exact Sel.skip (Sel.skip (Sel.take (Sel.none _))) | exact Sel.skip (Sel.skip (Sel.skip (Sel.take (Sel.none _)))) | exact Sel.skip (Sel.skip (Sel.skip (Sel.skip (Sel.take (Sel.none _)))))) (SPs.rfl) (LSub.cons (by first | exact Sel.take (Sel.none _) | exact Sel.skip (Sel.take (Sel.none _)) | exact Sel.skip (Sel.skip (Sel.take (Sel.none _))) | exact Sel.skip (Sel.skip (Sel.skip (Sel.take (Sel.none _)))) | exact Sel.skip (Sel.skip (Sel.skip (Sel.skip (Sel.take (Sel.none _)))))) (SPs.rfl) (LSub.cons (by first | exact Sel.take (Sel.none _) | exact Sel.skip (Sel.take (Sel.none _)) | exact Sel.skip (Sel.skip (Sel.take (Sel.none _))) | exact Sel.skip (Sel.skip (Sel.skip (Sel.take (Sel.none _)))) | exact Sel.skip (Sel.skip (Sel.skip (Sel.skip (Sel.take (Sel.none _)))))) (SPs.rfl) (LSub.nil)))))))))))))) ?round1 ?done1 ?stop1
    case round1 =>
      intro l1 rec1 h2 w2 fr2 pre y hle1 hst1 hpd1 hdj1 hok1
      refine K_ex fun q => K_ex fun vo => K_ex fun out => K_stars (K_pure fun hI => ?_)
      obtain ⟨hpl, hy⟩ := pre_nth hok1
      rw [backT_len] at hpl
      rw [back_get hpl] at hy
      have hrx : recOk y.2 := by rw [hy]; exact hrs _ (nth_mem (by omega))
      have hol : out.length ≤ 10000 := by have h1 := hI.len; have h2 : pre.length * records.length ≤ 100 * 100 := Nat.mul_le_mul (by omega) hl; omega
      refine J_seq ?_
      refine J_region ?_
      refine JL_stepX rfl rfl rfl (step_alloc (fun w => Tryz.zeroValue3 w) zr3) fun a8 => ?_
      refine JL_stepU rfl rfl (step_store_box ty3 Sub.rfl Sub.rfl (by first | exact Sel.take (Sel.none _) | exact Sel.skip (Sel.take (Sel.none _)) | exact Sel.skip (Sel.skip (Sel.take (Sel.none _))) | exact Sel.skip (Sel.skip (Sel.skip (Sel.take (Sel.none _)))) | exact Sel.skip (Sel.skip (Sel.skip (Sel.skip (Sel.take (Sel.none _))))))) fun _ => ?_
      refine JL_freeze (t := 8) (Sel.take (Sel.none _)) Frz.box ?_
      refine JL_nil ?_
      refine J_region ?_
      refine JL_stepX rfl rfl rfl (step_alloc (fun w => Tryz.zeroValue28 w) zr28) fun a9 => ?_
      refine JL_stepU rfl rfl (step_store_box ty28 Sub.rfl Sub.rfl (by first | exact Sel.take (Sel.none _) | exact Sel.skip (Sel.take (Sel.none _)) | exact Sel.skip (Sel.skip (Sel.take (Sel.none _))) | exact Sel.skip (Sel.skip (Sel.skip (Sel.take (Sel.none _)))) | exact Sel.skip (Sel.skip (Sel.skip (Sel.skip (Sel.take (Sel.none _))))))) fun _ => ?_
      refine JL_freeze (t := 9) (Sel.take (Sel.none _)) Frz.box ?_
      refine JL_nil ?_
      refine K_begin hst1 hdj1 ?_
      refine J_block ?_
      refine J_seq ?_
      refine J_region ?_
      refine JL_stepX rfl rfl rfl (step_makeMapV (kv := kvI) (R := rBool)) fun v23 => ?_
      refine JL_stepX rfl rfl rfl (step_alloc (R := rV) (z := Value.map none) (fun w => Tryz.zeroValue84 w) (fun _ => ⟨rfl, rfl⟩)) fun v10 => ?_
      refine JL_stepU rfl rfl (step_store_box (R := rV) ty84 Sub.rfl Sub.rfl (by first | exact Sel.take (Sel.none _) | exact Sel.skip (Sel.take (Sel.none _)) | exact Sel.skip (Sel.skip (Sel.take (Sel.none _))) | exact Sel.skip (Sel.skip (Sel.skip (Sel.take (Sel.none _)))) | exact Sel.skip (Sel.skip (Sel.skip (Sel.skip (Sel.take (Sel.none _))))))) fun _ => ?_
      refine JL_nil ?_
      refine K_freeze (t := 10) (Sel.take (Sel.none _)) Frz.box ?_
      refine J_seq ?_
      refine J_seq ?_
      refine J_region ?_
      refine JL_step rfl rfl rfl (step_load_ptr ty22 Sub.rfl) ?_
      refine JL_step rfl rfl rfl (step_load_ptr ty28 Sub.rfl) ?_
      refine JL_step rfl rfl rfl (step_call0 (places_spec _ _) ⟨Sub.rfl, Sub.rfl, trivial⟩ Tryz.call43) ?_
      refine JL_nil ?_
      refine J_block ?_
      refine J_rangeN (A := []) (T := tPlc) (Ok := okP (placesM blocks y.2)) (Fin := fun ps => ps = (placesM blocks y.2)) (R := [lpB l1 { rec1 with state := .busy }, box v7 36 rV vo, own 52 rA2 vo out]) (fun ps => SP.ex fun q2 : RowsL Gplace Int => SP.ex fun f : List (Int × Bool) => stars [SP.pure (QInv q y.1 ps q2 f), mapOwn kvP rV v18 (vals q2), rowsO 3 rInt q2, mapOwn kvI rBool v23 f]) (fun _ _ => SP.pure False) rfl (LSub.cons (Sel.skip (Sel.take (Sel.none _))) SPs.rfl LSub.rfl) (fun _ => rfl) rfl (places1_spec blocks y.2 hrx hbn) Sub.rfl Tryz.call74 (LSub.ex q (LSub.ex [] (LSub.stars (LSub.pure (QInv.start q _) (LSub.cons (by first | exact Sel.take (Sel.none _) | exact Sel.skip (Sel.take (Sel.none _)) | exact Sel.skip (Sel.skip (Sel.take (Sel.none _))) | exact Sel.skip (Sel.skip (Sel.skip (Sel.take (Sel.none _)))) | exact Sel.skip (Sel.skip (Sel.skip (Sel.skip (Sel.take (Sel.none _)))))) (SPs.rfl) (LSub.cons (by first | exact Sel.take (Sel.none _) | exact Sel.skip (Sel.take (Sel.none _)) | exact Sel.skip (Sel.skip (Sel.take (Sel.none _))) | exact Sel.skip (Sel.skip (Sel.skip (Sel.take (Sel.none _)))) | exact Sel.skip (Sel.skip (Sel.skip (Sel.skip (Sel.take (Sel.none _)))))) (SPs.rfl) (LSub.cons (by first | exact Sel.take (Sel.none _) | exact Sel.skip (Sel.take (Sel.none _)) | exact Sel.skip (Sel.skip (Sel.take (Sel.none _))) | exact Sel.skip (Sel.skip (Sel.skip (Sel.take (Sel.none _)))) | exact Sel.skip (Sel.skip (Sel.skip (Sel.skip (Sel.take (Sel.none _)))))) (SPs.rfl) (LSub.cons (by first | exact Sel.take (Sel.none _) | exact Sel.skip (Sel.take (Sel.none _)) | exact Sel.skip (Sel.skip (Sel.take (Sel.none _))) | exact Sel.skip (Sel.skip (Sel.skip (Sel.take (Sel.none _)))) | exact Sel.skip (Sel.skip (Sel.skip (Sel.skip (Sel.take (Sel.none _)))))) (SPs.rfl) (LSub.cons (by first | exact Sel.take (Sel.none _) | exact Sel.skip (Sel.take (Sel.none _)) | exact Sel.skip (Sel.skip (Sel.take (Sel.none _))) | exact Sel.skip (Sel.skip (Sel.skip (Sel.take (Sel.none _)))) | exact Sel.skip (Sel.skip (Sel.skip (Sel.skip (Sel.take (Sel.none _)))))) (SPs.rfl) (LSub.cons (by first | exact Sel.take (Sel.none _) | exact Sel.skip (Sel.take (Sel.none _)) | exact Sel.skip (Sel.skip (Sel.take (Sel.none _))) | exact Sel.skip (Sel.skip (Sel.skip (Sel.take (Sel.none _)))) | exact Sel.skip (Sel.skip (Sel.skip (Sel.skip (Sel.take (Sel.none _)))))) (SPs.rfl) (LSub.nil))))))))))) ?round2 ?done2 ?stop2
      case round2 =>
        intro l2 rec2 h3 w3 fr3 ps p hle2 hst2 hpd2 hdj2 hok2
        refine K_ex fun q2 => K_ex fun f => K_stars (K_pure fun hQ => ?_)
        have hpn : p ∉ ps := (fun hm => by have hnd := (places_nodup blocks y.2).sublist hok2.sublist; rw [List.nodup_append] at hnd; exact hnd.2.2 p hm p (by simp) rfl)
        have hrl : (rval q2 p).2.length ≤ 100 := by rw [hQ.mem, if_neg hpn]; have := hI.rows p; simp; omega
        refine J_region ?_
        refine JL_stepX rfl rfl rfl (step_alloc (fun w => Tryz.zeroValue89 w) zr89) fun a11 => ?_
        refine JL_stepU rfl rfl (step_store_box ty89 Sub.rfl Sub.rfl (by first | exact Sel.take (Sel.none _) | exact Sel.skip (Sel.take (Sel.none _)) | exact Sel.skip (Sel.skip (Sel.take (Sel.none _))) | exact Sel.skip (Sel.skip (Sel.skip (Sel.take (Sel.none _)))) | exact Sel.skip (Sel.skip (Sel.skip (Sel.skip (Sel.take (Sel.none _))))))) fun _ => ?_
        refine JL_freeze (t := 11) (Sel.take (Sel.none _)) Frz.box ?_
        refine JL_nil ?_
        refine K_begin hst2 hdj2 ?_
        refine K_lsub (LSub.trans (LSub.cons (Sel.skip (Sel.skip (Sel.take (Sel.none _)))) SPs.rfl LSub.rfl) (rows_split p)) ?_
        refine J_block ?_
        refine J_seq ?_
        refine J_seq ?_
        refine J_region ?_
        refine JL_step rfl rfl rfl (step_load_ptr ty80 Sub.rfl) ?_
        refine JL_step rfl rfl rfl (step_load_ptr ty89 Sub.rfl) ?_
        refine JL_step rfl rfl rfl (step_lookupR (k := p) keyP Tryz.underlying80 (fun w => Tryz.zeroValue40 w) Sub.ofRV Sub.plc (by first | exact Sel.take (Sel.none _) | exact Sel.skip (Sel.take (Sel.none _)) | exact Sel.skip (Sel.skip (Sel.take (Sel.none _))) | exact Sel.skip (Sel.skip (Sel.skip (Sel.take (Sel.none _)))) | exact Sel.skip (Sel.skip (Sel.skip (Sel.skip (Sel.take (Sel.none _))))))) ?_
        refine JL_step rfl rfl rfl (step_len_own Tryz.underlying40 Sub.rfl (by first | exact Sel.take (Sel.none _) | exact Sel.skip (Sel.take (Sel.none _)) | exact Sel.skip (Sel.skip (Sel.take (Sel.none _))) | exact Sel.skip (Sel.skip (Sel.skip (Sel.take (Sel.none _)))) | exact Sel.skip (Sel.skip (Sel.skip (Sel.skip (Sel.take (Sel.none _))))))) ?_
        refine JL_step rfl rfl rfl (step_move Sub.rfl) ?_
        refine JL_nil ?_
        refine J_block ?_
        refine J_loopL (σ := Nat) (fun j => j ≤ (rval q2 p).2.length) (fun j => upd (upd (upd (upd (upd (upd (upd (upd (upd (upd (upd (upd (upd (upd (upd (upd (upd env0 2 (tPtr (rSl rBlock) blocks)) 4 (tAt a4 0)) 5 (tAt a5 0)) 6 (tPtr rV v18)) 7 (tAt v7 0)) 8 (tPtr rInt y.1)) 9 (tPtr rRecord y.2)) 10 (tPtr rV v23)) 11 (tPtr rplace p)) 21 (tV (.int .i64 y.1))) 22 (rRecord.ty y.2)) 23 (rV.ty v23)) 24 (tSl rBlock blocks)) 27 (rplace.ty p)) 30 (rV.ty (rval q2 p).1)) 31 (tV (.int .i64 (rval q2 p).2.length))) 32 (tV (.int .i64 j))) (fun j => [own 3 rInt (rval q2 p).1 (rval q2 p).2, mapOwn kvI rBool v23 (fadd f ((rval q2 p).2.take j)), rowsO 3 rInt (rmv q2 p), mapOwn kvP rV v18 (vals q2), lpB l2 { rec2 with state := .busy }]) (fun j => (rval q2 p).2.length - j) 0 (by simp) (SubE.upd Sub.rfl (SubE.upd Sub.rfl (SubE.upd Sub.rfl (SubE.upd Sub.rfl (SubE.upd Sub.rfl (SubE.upd Sub.rfl (SubE.upd Sub.rfl (SubE.upd Sub.rfl (SubE.upd Sub.rfl (SubE.upd Sub.rfl (SubE.upd Sub.rfl (SubE.upd Sub.rfl (SubE.upd Sub.rfl (SubE.upd Sub.rfl (SubE.upd Sub.rfl (SubE.upd Sub.rfl (SubE.upd Sub.rfl SubE.any))))))))))))))))) (LSub.cons (by first | exact Sel.take (Sel.none _) | exact Sel.skip (Sel.take (Sel.none _)) | exact Sel.skip (Sel.skip (Sel.take (Sel.none _))) | exact Sel.skip (Sel.skip (Sel.skip (Sel.take (Sel.none _)))) | exact Sel.skip (Sel.skip (Sel.skip (Sel.skip (Sel.take (Sel.none _)))))) (SPs.rfl) (LSub.cons (by first | exact Sel.take (Sel.none _) | exact Sel.skip (Sel.take (Sel.none _)) | exact Sel.skip (Sel.skip (Sel.take (Sel.none _))) | exact Sel.skip (Sel.skip (Sel.skip (Sel.take (Sel.none _)))) | exact Sel.skip (Sel.skip (Sel.skip (Sel.skip (Sel.take (Sel.none _)))))) (SPs.rfl) (LSub.cons (by first | exact Sel.take (Sel.none _) | exact Sel.skip (Sel.take (Sel.none _)) | exact Sel.skip (Sel.skip (Sel.take (Sel.none _))) | exact Sel.skip (Sel.skip (Sel.skip (Sel.take (Sel.none _)))) | exact Sel.skip (Sel.skip (Sel.skip (Sel.skip (Sel.take (Sel.none _)))))) (SPs.rfl) (LSub.cons (by first | exact Sel.take (Sel.none _) | exact Sel.skip (Sel.take (Sel.none _)) | exact Sel.skip (Sel.skip (Sel.take (Sel.none _))) | exact Sel.skip (Sel.skip (Sel.skip (Sel.take (Sel.none _)))) | exact Sel.skip (Sel.skip (Sel.skip (Sel.skip (Sel.take (Sel.none _)))))) (SPs.rfl) (LSub.cons (by first | exact Sel.take (Sel.none _) | exact Sel.skip (Sel.take (Sel.none _)) | exact Sel.skip (Sel.skip (Sel.take (Sel.none _))) | exact Sel.skip (Sel.skip (Sel.skip (Sel.take (Sel.none _)))) | exact Sel.skip (Sel.skip (Sel.skip (Sel.skip (Sel.take (Sel.none _)))))) (SPs.rfl) (LSub.nil)))))) ?_
        rintro j hj
        refine J_seq ?_
        refine J_region ?_
        refine JL_step rfl rfl rfl (step_lss Sub.rfl Sub.rfl) ?_
        refine JL_nil ?_
        refine J_seq ?_
        refine J_cond Sub.rfl (fun h33 => ?_) (fun h33 => ?_)
        · try simp only [decide_eq_true_eq, decide_eq_false_iff_not, Bool.and_eq_true, Bool.or_eq_true, Bool.and_eq_false_iff, Bool.or_eq_false_iff, Bool.not_eq_true', Bool.not_eq_false', Int.not_lt, Int.not_le, Bool.not_true, Bool.not_false] at h33
          have hlj : j < (rval q2 p).2.length := by omega
          refine J_skip ?_
          refine J_seq ?_
          refine J_block ?_
          refine J_seq ?_
          refine J_region ?_
          refine JL_step rfl rfl rfl (step_indexAddr_own  Tryz.underlying40 ty3 Sub.rfl (by first | exact Sel.take (Sel.none _) | exact Sel.skip (Sel.take (Sel.none _)) | exact Sel.skip (Sel.skip (Sel.take (Sel.none _))) | exact Sel.skip (Sel.skip (Sel.skip (Sel.take (Sel.none _)))) | exact Sel.skip (Sel.skip (Sel.skip (Sel.skip (Sel.take (Sel.none _)))))) Sub.rfl rfl ?sg1) ?_
          case sg1 => first | assumption | omega
          refine JL_step rfl rfl rfl (step_load_own ty3 Sub.rfl (by first | exact Sel.take (Sel.none _) | exact Sel.skip (Sel.take (Sel.none _)) | exact Sel.skip (Sel.skip (Sel.take (Sel.none _))) | exact Sel.skip (Sel.skip (Sel.skip (Sel.take (Sel.none _)))) | exact Sel.skip (Sel.skip (Sel.skip (Sel.skip (Sel.take (Sel.none _)))))) (gb ?sg1)) ?_
          case sg1 => first | assumption | omega
          refine JL_step rfl rfl rfl (step_assign Sub.rfl) ?_
          refine JL_nil ?_
          refine J_region ?_
          refine JL_step rfl rfl rfl (step_load_ptr ty84 Sub.rfl) ?_
          refine JL_step rfl rfl rfl (step_move Sub.rfl) ?_
          refine JL_stepU rfl rfl (step_mapUpdate (kv := kvI) (R := rBool) (KeyT.int Tryz.underlying3) Tryz.underlying84 Sub.ofRV Sub.rfl Sub.rfl (by first | exact Sel.take (Sel.none _) | exact Sel.skip (Sel.take (Sel.none _)) | exact Sel.skip (Sel.skip (Sel.take (Sel.none _))) | exact Sel.skip (Sel.skip (Sel.skip (Sel.take (Sel.none _)))) | exact Sel.skip (Sel.skip (Sel.skip (Sel.skip (Sel.take (Sel.none _))))))) fun _ => ?_
          refine JL_nil ?_
          refine J_region ?_
          refine JL_step rfl rfl rfl (step_add Sub.rfl Sub.rfl ?sg1) ?_
          case sg1 => unfold in64; omega
          refine JL_step rfl rfl rfl (step_move Sub.rfl) ?_
          refine JL_nil ?_
          refine K_againL (σ := Nat) (s := j) (j + 1) (by first | omega | (dsimp only; omega) | (simp_all; omega)) (by omega) (SubE.upd Sub.rfl (SubE.upd Sub.rfl (SubE.upd Sub.rfl (SubE.upd Sub.rfl (SubE.upd Sub.rfl (SubE.upd Sub.rfl (SubE.upd Sub.rfl (SubE.upd Sub.rfl (SubE.upd Sub.rfl (SubE.upd Sub.rfl (SubE.upd Sub.rfl (SubE.upd Sub.rfl (SubE.upd Sub.rfl (SubE.upd Sub.rfl (SubE.upd Sub.rfl (SubE.upd Sub.rfl (SubE.upd Sub.rfl SubE.any))))))))))))))))) (LSub.cons (by first | exact Sel.take (Sel.none _) | exact Sel.skip (Sel.take (Sel.none _)) | exact Sel.skip (Sel.skip (Sel.take (Sel.none _))) | exact Sel.skip (Sel.skip (Sel.skip (Sel.take (Sel.none _)))) | exact Sel.skip (Sel.skip (Sel.skip (Sel.skip (Sel.take (Sel.none _)))))) (SPs.rfl) (LSub.cons (by first | exact Sel.take (Sel.none _) | exact Sel.skip (Sel.take (Sel.none _)) | exact Sel.skip (Sel.skip (Sel.take (Sel.none _))) | exact Sel.skip (Sel.skip (Sel.skip (Sel.take (Sel.none _)))) | exact Sel.skip (Sel.skip (Sel.skip (Sel.skip (Sel.take (Sel.none _)))))) (SPs.of (by rw [takeB hlj, fadd_snoc])) (LSub.cons (by first | exact Sel.take (Sel.none _) | exact Sel.skip (Sel.take (Sel.none _)) | exact Sel.skip (Sel.skip (Sel.take (Sel.none _))) | exact Sel.skip (Sel.skip (Sel.skip (Sel.take (Sel.none _)))) | exact Sel.skip (Sel.skip (Sel.skip (Sel.skip (Sel.take (Sel.none _)))))) (SPs.rfl) (LSub.cons (by first | exact Sel.take (Sel.none _) | exact Sel.skip (Sel.take (Sel.none _)) | exact Sel.skip (Sel.skip (Sel.take (Sel.none _))) | exact Sel.skip (Sel.skip (Sel.skip (Sel.take (Sel.none _)))) | exact Sel.skip (Sel.skip (Sel.skip (Sel.skip (Sel.take (Sel.none _)))))) (SPs.rfl) (LSub.cons (by first | exact Sel.take (Sel.none _) | exact Sel.skip (Sel.take (Sel.none _)) | exact Sel.skip (Sel.skip (Sel.take (Sel.none _))) | exact Sel.skip (Sel.skip (Sel.skip (Sel.take (Sel.none _)))) | exact Sel.skip (Sel.skip (Sel.skip (Sel.skip (Sel.take (Sel.none _)))))) (SPs.rfl) (LSub.nil))))))
        · try simp only [decide_eq_true_eq, decide_eq_false_iff_not, Bool.and_eq_true, Bool.or_eq_true, Bool.and_eq_false_iff, Bool.or_eq_false_iff, Bool.not_eq_true', Bool.not_eq_false', Int.not_lt, Int.not_le, Bool.not_true, Bool.not_false] at h33
          obtain rfl : j = (rval q2 p).2.length := by omega
          refine J_exit ?_
          refine J_region ?_
          refine JL_step rfl rfl rfl (step_load_ptr ty80 Sub.rfl) ?_
          refine JL_step rfl rfl rfl (step_load_ptr ty89 Sub.rfl) ?_
          refine JL_step rfl rfl rfl (step_load_ptr ty3 Sub.rfl) ?_
          refine JL_step rfl rfl rfl (step_literal (ys := [_]) Tryz.underlying40 el3 ⟨rfl, Sub.rfl, trivial⟩ rfl (by decide)) ?_
          refine JL_stepX rfl rfl rfl (step_mapEntryR (k := p) keyP Tryz.underlying80 (fun w => Tryz.zeroValue40 w) Sub.ofRV Sub.plc (by first | exact Sel.take (Sel.none _) | exact Sel.skip (Sel.take (Sel.none _)) | exact Sel.skip (Sel.skip (Sel.take (Sel.none _))) | exact Sel.skip (Sel.skip (Sel.skip (Sel.take (Sel.none _)))) | exact Sel.skip (Sel.skip (Sel.skip (Sel.skip (Sel.take (Sel.none _))))))) fun n44 => ?_
          refine JL_step rfl rfl rfl (step_extract Sub.rfl rfl) ?_
          refine JL_stepX rfl rfl rfl (step_append Tryz.underlying40 el3 Sub.rfl Sub.rfl (by first | exact Sel.take (Sel.none _) | exact Sel.skip (Sel.take (Sel.none _)) | exact Sel.skip (Sel.skip (Sel.take (Sel.none _))) | exact Sel.skip (Sel.skip (Sel.skip (Sel.take (Sel.none _)))) | exact Sel.skip (Sel.skip (Sel.skip (Sel.skip (Sel.take (Sel.none _)))))) (by simp; omega) (by simp; omega)) fun v45 => ?_
          refine JL_step rfl rfl rfl (step_extract Sub.rfl rfl) ?_
          refine JL_stepU rfl rfl (step_entryStore (R := rV) n44.2 Sub.ofRV Sub.rfl Sub.rfl (by first | exact Sel.take (Sel.none _) | exact Sel.skip (Sel.take (Sel.none _)) | exact Sel.skip (Sel.skip (Sel.take (Sel.none _))) | exact Sel.skip (Sel.skip (Sel.skip (Sel.take (Sel.none _)))) | exact Sel.skip (Sel.skip (Sel.skip (Sel.skip (Sel.take (Sel.none _))))))) fun _ => ?_
          refine JL_nil ?_
          refine K_roundN hst2 hpd2 ?_
          refine LSub.cons (by first | exact Sel.take (Sel.none _) | exact Sel.skip (Sel.take (Sel.none _)) | exact Sel.skip (Sel.skip (Sel.take (Sel.none _))) | exact Sel.skip (Sel.skip (Sel.skip (Sel.take (Sel.none _)))) | exact Sel.skip (Sel.skip (Sel.skip (Sel.skip (Sel.take (Sel.none _)))))) SPs.rfl (LSub.ex (rput q2 p v45 ((rval q2 p).2 ++ [y.1])) (LSub.ex (fadd f (rval q2 p).2) (LSub.stars (LSub.pure (hQ.step hpn v45) ?_))))
          refine LSub.cons (by first | exact Sel.take (Sel.none _) | exact Sel.skip (Sel.take (Sel.none _)) | exact Sel.skip (Sel.skip (Sel.take (Sel.none _))) | exact Sel.skip (Sel.skip (Sel.skip (Sel.take (Sel.none _)))) | exact Sel.skip (Sel.skip (Sel.skip (Sel.skip (Sel.take (Sel.none _)))))) (SPs.of (by rw [mput_mput, vals_put])) ?_
          exact LSub.trans (B := [own 3 rInt v45 ((rval q2 p).2 ++ [y.1]), rowsO 3 rInt (rmv q2 p), mapOwn kvI rBool v23 (fadd f (rval q2 p).2)]) (LSub.cons (by first | exact Sel.take (Sel.none _) | exact Sel.skip (Sel.take (Sel.none _)) | exact Sel.skip (Sel.skip (Sel.take (Sel.none _))) | exact Sel.skip (Sel.skip (Sel.skip (Sel.take (Sel.none _)))) | exact Sel.skip (Sel.skip (Sel.skip (Sel.skip (Sel.take (Sel.none _)))))) (SPs.rfl) (LSub.cons (by first | exact Sel.take (Sel.none _) | exact Sel.skip (Sel.take (Sel.none _)) | exact Sel.skip (Sel.skip (Sel.take (Sel.none _))) | exact Sel.skip (Sel.skip (Sel.skip (Sel.take (Sel.none _)))) | exact Sel.skip (Sel.skip (Sel.skip (Sel.skip (Sel.take (Sel.none _)))))) (SPs.rfl) (LSub.cons (by first | exact Sel.take (Sel.none _) | exact Sel.skip (Sel.take (Sel.none _)) | exact Sel.skip (Sel.skip (Sel.take (Sel.none _))) | exact Sel.skip (Sel.skip (Sel.skip (Sel.take (Sel.none _)))) | exact Sel.skip (Sel.skip (Sel.skip (Sel.skip (Sel.take (Sel.none _)))))) (SPs.of (by rw [List.take_of_length_le (by omega)])) (LSub.nil)))) (rows_join p v45 _)
      case done2 =>
        intro ps hfin2
        have hfin2 : ps = (placesM blocks y.2) := hfin2
        subst hfin2
        refine K_ex fun q2 => K_ex fun f => K_stars (K_pure fun hQ => ?_)
        have hkb := keysAt_bd hI hQ hl
        refine J_seq ?_
        refine J_seq ?_
        refine J_region ?_
        refine JL_step rfl rfl rfl (step_load_ptr ty84 Sub.rfl) ?_
        refine JL_stepX rfl rfl rfl (step_range_map (kv := kvI) (R := rBool) Tryz.underlying84 Sub.ofRV (by first | exact Sel.take (Sel.none _) | exact Sel.skip (Sel.take (Sel.none _)) | exact Sel.skip (Sel.skip (Sel.take (Sel.none _))) | exact Sel.skip (Sel.skip (Sel.skip (Sel.take (Sel.none _)))) | exact Sel.skip (Sel.skip (Sel.skip (Sel.skip (Sel.take (Sel.none _))))))) fun v48 => ?_
        refine JL_nil ?_
        refine J_block ?_
        refine J_loopL (σ := List Nat × Value) (fun ⟨dn, vo2⟩ => dn.Nodup ∧ ∀ a ∈ dn, a < f.length) (fun ⟨dn, vo2⟩ => upd (upd (upd (upd (upd (upd (upd (upd (upd (upd (upd (upd (upd env0 2 (tPtr (rSl rBlock) blocks)) 4 (tAt a4 0)) 5 (tAt a5 0)) 6 (tPtr rV v18)) 7 (tAt v7 0)) 8 (tPtr rInt y.1)) 9 (tPtr rRecord y.2)) 10 (tPtr rV v23)) 21 (tV (.int .i64 y.1))) 22 (rRecord.ty y.2)) 23 (rV.ty v23)) 24 (tSl rBlock blocks)) 48 (tAt v48 0)) (fun ⟨dn, vo2⟩ => [itOwn v48 v23 f.length dn, mapOwn kvI rBool v23 f, box v7 36 rV vo2, own 52 rA2 vo2 (out ++ (keysAt f dn).map fun k => (y.1, k)), mapOwn kvP rV v18 (vals q2), rowsO 3 rInt q2, lpB l1 { rec1 with state := .busy }]) (fun ⟨dn, vo2⟩ => f.length - dn.length) ([], vo) ⟨by simp, by simp⟩ (SubE.upd Sub.rfl (SubE.upd Sub.rfl (SubE.upd Sub.rfl (SubE.upd Sub.rfl (SubE.upd Sub.rfl (SubE.upd Sub.rfl (SubE.upd Sub.rfl (SubE.upd Sub.rfl (SubE.upd Sub.rfl (SubE.upd Sub.rfl (SubE.upd Sub.rfl (SubE.upd Sub.rfl (SubE.upd Sub.rfl SubE.any))))))))))))) (LSub.cons (by first | exact Sel.take (Sel.none _) | exact Sel.skip (Sel.take (Sel.none _)) | exact Sel.skip (Sel.skip (Sel.take (Sel.none _))) | exact Sel.skip (Sel.skip (Sel.skip (Sel.take (Sel.none _)))) | exact Sel.skip (Sel.skip (Sel.skip (Sel.skip (Sel.take (Sel.none _)))))) (SPs.rfl) (LSub.cons (by first | exact Sel.take (Sel.none _) | exact Sel.skip (Sel.take (Sel.none _)) | exact Sel.skip (Sel.skip (Sel.take (Sel.none _))) | exact Sel.skip (Sel.skip (Sel.skip (Sel.take (Sel.none _)))) | exact Sel.skip (Sel.skip (Sel.skip (Sel.skip (Sel.take (Sel.none _)))))) (SPs.rfl) (LSub.cons (by first | exact Sel.take (Sel.none _) | exact Sel.skip (Sel.take (Sel.none _)) | exact Sel.skip (Sel.skip (Sel.take (Sel.none _))) | exact Sel.skip (Sel.skip (Sel.skip (Sel.take (Sel.none _)))) | exact Sel.skip (Sel.skip (Sel.skip (Sel.skip (Sel.take (Sel.none _)))))) (SPs.rfl) (LSub.cons (by first | exact Sel.take (Sel.none _) | exact Sel.skip (Sel.take (Sel.none _)) | exact Sel.skip (Sel.skip (Sel.take (Sel.none _))) | exact Sel.skip (Sel.skip (Sel.skip (Sel.take (Sel.none _)))) | exact Sel.skip (Sel.skip (Sel.skip (Sel.skip (Sel.take (Sel.none _)))))) (own_eq (by simp [keysAt])) (LSub.cons (by first | exact Sel.take (Sel.none _) | exact Sel.skip (Sel.take (Sel.none _)) | exact Sel.skip (Sel.skip (Sel.take (Sel.none _))) | exact Sel.skip (Sel.skip (Sel.skip (Sel.take (Sel.none _)))) | exact Sel.skip (Sel.skip (Sel.skip (Sel.skip (Sel.take (Sel.none _)))))) (SPs.rfl) (LSub.cons (by first | exact Sel.take (Sel.none _) | exact Sel.skip (Sel.take (Sel.none _)) | exact Sel.skip (Sel.skip (Sel.take (Sel.none _))) | exact Sel.skip (Sel.skip (Sel.skip (Sel.take (Sel.none _)))) | exact Sel.skip (Sel.skip (Sel.skip (Sel.skip (Sel.take (Sel.none _)))))) (SPs.rfl) (LSub.cons (by first | exact Sel.take (Sel.none _) | exact Sel.skip (Sel.take (Sel.none _)) | exact Sel.skip (Sel.skip (Sel.take (Sel.none _))) | exact Sel.skip (Sel.skip (Sel.skip (Sel.take (Sel.none _)))) | exact Sel.skip (Sel.skip (Sel.skip (Sel.skip (Sel.take (Sel.none _)))))) (SPs.rfl) (LSub.nil)))))))) ?_
        rintro ⟨dn, vo2⟩ ⟨hnd, hdlt⟩
        refine J_seq ?_
        refine J_region ?_
        refine JL_stepX rfl rfl rfl (step_next rfl Sub.rfl LSub.rfl) fun o => ?_
        refine JL_step rfl rfl rfl (step_extract_next Sub.rfl) ?_
        refine JL_nil ?_
        refine J_seq ?_
        refine J_cond Sub.rfl (fun h50 => ?_) (fun h50 => ?_)
        · try simp only [decide_eq_true_eq, decide_eq_false_iff_not, Bool.and_eq_true, Bool.or_eq_true, Bool.and_eq_false_iff, Bool.or_eq_false_iff, Bool.not_eq_true', Bool.not_eq_false', Int.not_lt, Int.not_le, Bool.not_true, Bool.not_false] at h50
          obtain ⟨o, ho⟩ := o
          obtain ⟨i, rfl⟩ := Option.isSome_iff_exists.1 h50
          dsimp only at ho
          obtain ⟨hil, hid⟩ := ho
          obtain ⟨⟨kk, s⟩, hms⟩ : ∃ z, f[i]? = some z := ⟨_, List.getElem?_eq_getElem hil⟩
          have hnd2 : (dn ++ [i]).Nodup := List.nodup_append.2 ⟨hnd, by simp, by intro a ha b hb e; simp at hb; subst hb; subst e; exact hid ha⟩
          have hlt2 : ∀ a ∈ dn ++ [i], a < f.length := by intro a ha; rcases List.mem_append.1 ha with h | h; exact hdlt a h; simp at h; subst h; exact hil
          have hdl := nodup_lt_len hnd2 hlt2
          simp only [List.length_append, List.length_cons, List.length_nil] at hdl
          have hol2 := hkb dn hnd hdlt
          refine J_skip ?_
          refine J_block ?_
          refine J_seq ?_
          refine J_region ?_
          refine JL_step rfl rfl rfl (step_entry Sub.rfl LSub.rfl hms) ?_
          refine JL_step rfl rfl rfl (step_extract Sub.rfl rfl) ?_
          refine JL_step rfl rfl rfl (step_assign Sub.rfl) ?_
          refine JL_nil ?_
          refine J_region ?_
          refine JL_step rfl rfl rfl (step_load_box ty36V Sub.rfl (by first | exact Sel.take (Sel.none _) | exact Sel.skip (Sel.take (Sel.none _)) | exact Sel.skip (Sel.skip (Sel.take (Sel.none _))) | exact Sel.skip (Sel.skip (Sel.skip (Sel.take (Sel.none _)))) | exact Sel.skip (Sel.skip (Sel.skip (Sel.skip (Sel.take (Sel.none _))))))) ?_
          refine JL_step rfl rfl rfl (step_load_ptr ty3 Sub.rfl) ?_
          refine JL_step rfl rfl rfl (step_move Sub.rfl) ?_
          refine JL_step rfl rfl rfl (step_build_pair Sub.rfl Sub.rfl) ?_
          refine JL_step rfl rfl rfl (step_literal (ys := [_]) Tryz.underlying36 el52 ⟨rfl, Sub.rfl, trivial⟩ rfl (by decide)) ?_
          refine JL_stepX rfl rfl rfl (step_append Tryz.underlying36 el52 Sub.rfl Sub.rfl (by first | exact Sel.take (Sel.none _) | exact Sel.skip (Sel.take (Sel.none _)) | exact Sel.skip (Sel.skip (Sel.take (Sel.none _))) | exact Sel.skip (Sel.skip (Sel.skip (Sel.take (Sel.none _)))) | exact Sel.skip (Sel.skip (Sel.skip (Sel.skip (Sel.take (Sel.none _)))))) (by simp; omega) (by simp; omega)) fun v58 => ?_
          refine JL_stepU rfl rfl (step_store_box (R := rV) ty36V Sub.rfl Sub.rfl (by first | exact Sel.take (Sel.none _) | exact Sel.skip (Sel.take (Sel.none _)) | exact Sel.skip (Sel.skip (Sel.take (Sel.none _))) | exact Sel.skip (Sel.skip (Sel.skip (Sel.take (Sel.none _)))) | exact Sel.skip (Sel.skip (Sel.skip (Sel.skip (Sel.take (Sel.none _))))))) fun _ => ?_
          refine JL_nil ?_
          refine K_againL (σ := List Nat × Value) (s := (dn, vo2)) (dn ++ [i], v58) (by simp; omega) ⟨hnd2, hlt2⟩ (SubE.upd Sub.rfl (SubE.upd Sub.rfl (SubE.upd Sub.rfl (SubE.upd Sub.rfl (SubE.upd Sub.rfl (SubE.upd Sub.rfl (SubE.upd Sub.rfl (SubE.upd Sub.rfl (SubE.upd Sub.rfl (SubE.upd Sub.rfl (SubE.upd Sub.rfl (SubE.upd Sub.rfl (SubE.upd Sub.rfl SubE.any))))))))))))) (LSub.cons (by first | exact Sel.take (Sel.none _) | exact Sel.skip (Sel.take (Sel.none _)) | exact Sel.skip (Sel.skip (Sel.take (Sel.none _))) | exact Sel.skip (Sel.skip (Sel.skip (Sel.take (Sel.none _)))) | exact Sel.skip (Sel.skip (Sel.skip (Sel.skip (Sel.take (Sel.none _)))))) (SPs.rfl) (LSub.cons (by first | exact Sel.take (Sel.none _) | exact Sel.skip (Sel.take (Sel.none _)) | exact Sel.skip (Sel.skip (Sel.take (Sel.none _))) | exact Sel.skip (Sel.skip (Sel.skip (Sel.take (Sel.none _)))) | exact Sel.skip (Sel.skip (Sel.skip (Sel.skip (Sel.take (Sel.none _)))))) (SPs.rfl) (LSub.cons (by first | exact Sel.take (Sel.none _) | exact Sel.skip (Sel.take (Sel.none _)) | exact Sel.skip (Sel.skip (Sel.take (Sel.none _))) | exact Sel.skip (Sel.skip (Sel.skip (Sel.take (Sel.none _)))) | exact Sel.skip (Sel.skip (Sel.skip (Sel.skip (Sel.take (Sel.none _)))))) (SPs.rfl) (LSub.cons (by first | exact Sel.take (Sel.none _) | exact Sel.skip (Sel.take (Sel.none _)) | exact Sel.skip (Sel.skip (Sel.take (Sel.none _))) | exact Sel.skip (Sel.skip (Sel.skip (Sel.take (Sel.none _)))) | exact Sel.skip (Sel.skip (Sel.skip (Sel.skip (Sel.take (Sel.none _)))))) (own_eq (by rw [keysAt_snoc hms, List.map_append, List.append_assoc]; rfl)) (LSub.cons (by first | exact Sel.take (Sel.none _) | exact Sel.skip (Sel.take (Sel.none _)) | exact Sel.skip (Sel.skip (Sel.take (Sel.none _))) | exact Sel.skip (Sel.skip (Sel.skip (Sel.take (Sel.none _)))) | exact Sel.skip (Sel.skip (Sel.skip (Sel.skip (Sel.take (Sel.none _)))))) (SPs.rfl) (LSub.cons (by first | exact Sel.take (Sel.none _) | exact Sel.skip (Sel.take (Sel.none _)) | exact Sel.skip (Sel.skip (Sel.take (Sel.none _))) | exact Sel.skip (Sel.skip (Sel.skip (Sel.take (Sel.none _)))) | exact Sel.skip (Sel.skip (Sel.skip (Sel.skip (Sel.take (Sel.none _)))))) (SPs.rfl) (LSub.cons (by first | exact Sel.take (Sel.none _) | exact Sel.skip (Sel.take (Sel.none _)) | exact Sel.skip (Sel.skip (Sel.take (Sel.none _))) | exact Sel.skip (Sel.skip (Sel.skip (Sel.take (Sel.none _)))) | exact Sel.skip (Sel.skip (Sel.skip (Sel.skip (Sel.take (Sel.none _)))))) (SPs.rfl) (LSub.nil))))))))
        · try simp only [decide_eq_true_eq, decide_eq_false_iff_not, Bool.and_eq_true, Bool.or_eq_true, Bool.and_eq_false_iff, Bool.or_eq_false_iff, Bool.not_eq_true', Bool.not_eq_false', Int.not_lt, Int.not_le, Bool.not_true, Bool.not_false] at h50
          obtain ⟨o, ho⟩ := o
          obtain rfl : o = none := by simpa using h50
          dsimp only at ho
          have hperm := keysAt_perm hnd hdlt ho
          have hol2 := hkb dn hnd hdlt
          refine K_drop (Sel.take (Sel.take (Sel.none _))) ?_
          refine J_exit ?_
          refine J_seq ?_
          refine J_region ?_
          refine JL_step rfl rfl rfl (step_load_box ty36V Sub.rfl (by first | exact Sel.take (Sel.none _) | exact Sel.skip (Sel.take (Sel.none _)) | exact Sel.skip (Sel.skip (Sel.take (Sel.none _))) | exact Sel.skip (Sel.skip (Sel.skip (Sel.take (Sel.none _)))) | exact Sel.skip (Sel.skip (Sel.skip (Sel.skip (Sel.take (Sel.none _))))))) ?_
          refine JL_step rfl rfl rfl (step_len_own Tryz.underlying36 Sub.rfl (by first | exact Sel.take (Sel.none _) | exact Sel.skip (Sel.take (Sel.none _)) | exact Sel.skip (Sel.skip (Sel.take (Sel.none _))) | exact Sel.skip (Sel.skip (Sel.skip (Sel.take (Sel.none _)))) | exact Sel.skip (Sel.skip (Sel.skip (Sel.skip (Sel.take (Sel.none _))))))) ?_
          refine JL_step rfl rfl rfl (step_gtr Sub.rfl Sub.rfl) ?_
          refine JL_nil ?_
          refine J_cond Sub.rfl (fun h61 => ?_) (fun h61 => ?_)
          · try simp only [decide_eq_true_eq, decide_eq_false_iff_not, Bool.and_eq_true, Bool.or_eq_true, Bool.and_eq_false_iff, Bool.or_eq_false_iff, Bool.not_eq_true', Bool.not_eq_false', Int.not_lt, Int.not_le, Bool.not_true, Bool.not_false] at h61
            exact absurd h61 (by simp only [List.length_append, List.length_map]; omega)
          · try simp only [decide_eq_true_eq, decide_eq_false_iff_not, Bool.and_eq_true, Bool.or_eq_true, Bool.and_eq_false_iff, Bool.or_eq_false_iff, Bool.not_eq_true', Bool.not_eq_false', Int.not_lt, Int.not_le, Bool.not_true, Bool.not_false] at h61
            refine J_skip ?_
            refine K_roundN hst1 hpd1 ?_
            refine LSub.cons (by first | exact Sel.take (Sel.none _) | exact Sel.skip (Sel.take (Sel.none _)) | exact Sel.skip (Sel.skip (Sel.take (Sel.none _))) | exact Sel.skip (Sel.skip (Sel.skip (Sel.take (Sel.none _)))) | exact Sel.skip (Sel.skip (Sel.skip (Sel.skip (Sel.take (Sel.none _)))))) SPs.rfl (LSub.ex q2 (LSub.ex vo2 (LSub.ex (out ++ (keysAt f dn).map fun k => (y.1, k)) (LSub.stars (LSub.pure ?_ (LSub.cons (by first | exact Sel.take (Sel.none _) | exact Sel.skip (Sel.take (Sel.none _)) | exact Sel.skip (Sel.skip (Sel.take (Sel.none _))) | exact Sel.skip (Sel.skip (Sel.skip (Sel.take (Sel.none _)))) | exact Sel.skip (Sel.skip (Sel.skip (Sel.skip (Sel.take (Sel.none _)))))) (SPs.rfl) (LSub.cons (by first | exact Sel.take (Sel.none _) | exact Sel.skip (Sel.take (Sel.none _)) | exact Sel.skip (Sel.skip (Sel.take (Sel.none _))) | exact Sel.skip (Sel.skip (Sel.skip (Sel.take (Sel.none _)))) | exact Sel.skip (Sel.skip (Sel.skip (Sel.skip (Sel.take (Sel.none _)))))) (SPs.rfl) (LSub.cons (by first | exact Sel.take (Sel.none _) | exact Sel.skip (Sel.take (Sel.none _)) | exact Sel.skip (Sel.skip (Sel.take (Sel.none _))) | exact Sel.skip (Sel.skip (Sel.skip (Sel.take (Sel.none _)))) | exact Sel.skip (Sel.skip (Sel.skip (Sel.skip (Sel.take (Sel.none _)))))) (SPs.rfl) (LSub.cons (by first | exact Sel.take (Sel.none _) | exact Sel.skip (Sel.take (Sel.none _)) | exact Sel.skip (Sel.skip (Sel.take (Sel.none _))) | exact Sel.skip (Sel.skip (Sel.skip (Sel.take (Sel.none _)))) | exact Sel.skip (Sel.skip (Sel.skip (Sel.skip (Sel.take (Sel.none _)))))) (SPs.rfl) (LSub.nil))))))))))
            have hst := hI.step (f := f) (q2 := q2) (ks := keysAt f dn) (by omega) (by rw [hy] at hQ; exact hQ) hperm
            rw [List.length_append]
            rw [hy]
            exact hst
      case stop2 =>
        intro c2 ps
        refine K_pure fun h => h.elim
    case done1 =>
      intro D1 xs hfin
      have hfin : xs = (backT records) := hfin
      subst hfin
      refine K_ex fun q => K_ex fun vo => K_ex fun out => K_stars (K_pure fun hI => ?_)
      rw [backT_len] at hI
      have hol : out.length ≤ 10000 := by have h1 := hI.len; have h2 : records.length * records.length ≤ 100 * 100 := Nat.mul_le_mul hl hl; omega
      refine K_drop (Sel.take (Sel.take (Sel.none _))) ?_
      refine J_seq ?_
      refine J_region ?_
      refine JL_step rfl rfl rfl (step_load_box ty36V Sub.rfl (by first | exact Sel.take (Sel.none _) | exact Sel.skip (Sel.take (Sel.none _)) | exact Sel.skip (Sel.skip (Sel.take (Sel.none _))) | exact Sel.skip (Sel.skip (Sel.skip (Sel.take (Sel.none _)))) | exact Sel.skip (Sel.skip (Sel.skip (Sel.skip (Sel.take (Sel.none _))))))) ?_
      refine JL_stepX rfl rfl rfl (step_call (by first | exact Sel.take (Sel.none _) | exact Sel.skip (Sel.take (Sel.none _)) | exact Sel.skip (Sel.skip (Sel.take (Sel.none _))) | exact Sel.skip (Sel.skip (Sel.skip (Sel.take (Sel.none _)))) | exact Sel.skip (Sel.skip (Sel.skip (Sel.skip (Sel.take (Sel.none _)))))) (pairSort_spec vo out (by omega)) ⟨Sub.rfl, Sub.rfl, trivial⟩ Tryz.call44) fun v63 => ?_
      refine JL_nil ?_
      refine J_seq ?_
      refine J_region ?_
      refine JL_step rfl rfl rfl (step_load_box ty36V Sub.rfl (by first | exact Sel.take (Sel.none _) | exact Sel.skip (Sel.take (Sel.none _)) | exact Sel.skip (Sel.skip (Sel.take (Sel.none _))) | exact Sel.skip (Sel.skip (Sel.skip (Sel.take (Sel.none _)))) | exact Sel.skip (Sel.skip (Sel.skip (Sel.skip (Sel.take (Sel.none _))))))) ?_
      refine JL_stepU rfl rfl (step_store_box (R := rV) ty36V Sub.rfl Sub.rfl (by first | exact Sel.take (Sel.none _) | exact Sel.skip (Sel.take (Sel.none _)) | exact Sel.skip (Sel.skip (Sel.take (Sel.none _))) | exact Sel.skip (Sel.skip (Sel.skip (Sel.take (Sel.none _)))) | exact Sel.skip (Sel.skip (Sel.skip (Sel.skip (Sel.take (Sel.none _))))))) fun _ => ?_
      refine JL_stepU rfl rfl (step_store_box ty37 Sub.rfl Sub.rfl (by first | exact Sel.take (Sel.none _) | exact Sel.skip (Sel.take (Sel.none _)) | exact Sel.skip (Sel.skip (Sel.take (Sel.none _))) | exact Sel.skip (Sel.skip (Sel.skip (Sel.take (Sel.none _)))) | exact Sel.skip (Sel.skip (Sel.skip (Sel.skip (Sel.take (Sel.none _))))))) fun _ => ?_
      refine JL_nil ?_
      refine J_ret ?_
      refine K_unmark (LSub.cons (by first | exact Sel.take (Sel.none _) | exact Sel.skip (Sel.take (Sel.none _)) | exact Sel.skip (Sel.skip (Sel.take (Sel.none _))) | exact Sel.skip (Sel.skip (Sel.skip (Sel.take (Sel.none _)))) | exact Sel.skip (Sel.skip (Sel.skip (Sel.skip (Sel.take (Sel.none _)))))) SPs.rfl LSub.rfl) ?_
      refine K_ret2' (rv := .cell 4 36) (rv' := .cell 5 37) rfl () (Sel.all _) (.cell ty36V Sub.rfl (by first | exact Sel.take (Sel.none _) | exact Sel.skip (Sel.take (Sel.none _)) | exact Sel.skip (Sel.skip (Sel.take (Sel.none _))) | exact Sel.skip (Sel.skip (Sel.skip (Sel.take (Sel.none _)))) | exact Sel.skip (Sel.skip (Sel.skip (Sel.skip (Sel.take (Sel.none _)))))) Sub.rfl) (.cell ty37 Sub.rfl (by first | exact Sel.take (Sel.none _) | exact Sel.skip (Sel.take (Sel.none _)) | exact Sel.skip (Sel.skip (Sel.take (Sel.none _))) | exact Sel.skip (Sel.skip (Sel.skip (Sel.take (Sel.none _)))) | exact Sel.skip (Sel.skip (Sel.skip (Sel.skip (Sel.take (Sel.none _)))))) Sub.rfl) (Frz.skip (Frz.skip (Frz.own' hI.done))) (Frz.sub Sub.rfl) Sub.rfl
    case stop1 =>
      intro D1 c1 xs
      refine K_pure fun h => h.elim
end Lg
