/- A part of the proofs of the laws of cleanselaw26: contracts of functions that the law reaches, and facts about what they compute. -/
import Derived.Test.YtabonjploobnnaaGreatDoorG
import Derived.Test.YtabonjploobnnaaGreatDoorCards
import Derived.Test.YtabonjploobnnaaGreatDoorTie
import Derived.Lib.LaidTab
import Derived.Stop.LaidErr
import Derived.ProofKit
import Derived.OpenShut
import Derived.Deep.DeepHandedRow
import Derived.Lay
set_option linter.unusedVariables false
set_option linter.unusedSimpArgs false
set_option linter.unusedSectionVars false
namespace Lg
open Go Go.Proofs Go.Proofs.Tryz
/-- As okTail3; A: the operations apart, and what each waits for. -/
def okTailB (A : List (Nat × List Nat)) (m : Pl3) (l : List Pl3) : Bool := match m.c with
  | 0 => true
  | 1 => l.all fun q => (Nat.ble q.c 1 || (memN m.i q.aft || q.aft.any fun r => l.any fun p => Nat.beq r p.i && memN m.i p.aft)) || A.any fun b => memN b.1 q.aft && (memN m.i b.2 || b.2.any fun r => l.any fun p => Nat.beq r p.i && memN m.i p.aft)
  | _ => l.all fun q => memN m.i q.aft || q.aft.any fun r => l.any fun p => Nat.beq r p.i
def okPlsB (A : List (Nat × List Nat)) : List Pl3 → Bool
  | [] => true
  | a :: l => l.all (okPair3 a) && okTailB A a l && okPlsB A l
def okZB (ops : List Oper) (frees : List It3) (als : List Al2) (tail : List It3) : Bool :=
  let pls := (frees ++ tail).map (plOf3 ops)
  okPlsB (als.map fun a => (a.i, aftOf ops a.i)) pls && (pls.all fun p => p.aft.all (Nat.blt · p.i)) && ((frees ++ tail).all fun x => Nat.blt x.i ops.length) && (frees.all fun x => Nat.ble x.c 1) &&
  (List.range ops.length).all (fun i => ((frees ++ tail).any fun x => Nat.beq i x.i) || als.any fun a => Nat.beq i a.i) &&
  indAs2 als && als.all (okAl2 ops frees tail)
theorem okTailB_nil {m : Pl3} {l : List Pl3} (h : okTailB [] m l = true) : okTail3 m l = true := by
  unfold okTailB at h
  unfold okTail3
  match e : m.c with
  | 0 => rfl
  | 1 => rw [e] at h; simpa using h
  | n + 2 => rw [e] at h; simpa using h
theorem okPlsB_nil : ∀ {l : List Pl3}, okPlsB [] l = true → okPls3 l = true
  | [], _ => rfl
  | a :: l, h => by
    simp only [okPlsB, Bool.and_eq_true] at h
    simp only [okPls3, Bool.and_eq_true]
    exact ⟨⟨h.1.1, okTailB_nil h.1.2⟩, okPlsB_nil h.2⟩
theorem okPlsB_back {A : List (Nat × List Nat)} : ∀ {l1 l2 : List Pl3}, okPlsB A (l1 ++ l2) = true → okPlsB A l2 = true
  | [], _, h => h
  | a :: l1, l2, h => by
    simp only [List.cons_append, okPlsB, Bool.and_eq_true] at h
    exact okPlsB_back h.2
theorem okPlsB_pair {A : List (Nat × List Nat)} : ∀ {l1 : List Pl3} {b : Pl3} {l2 : List Pl3}, okPlsB A (l1 ++ b :: l2) = true → ∀ a ∈ l1, okPair3 a b = true
  | [], _, _, _, a, ha => by cases ha
  | a :: l1, b, l2, h, x, hx => by
    simp only [List.cons_append, okPlsB, Bool.and_eq_true, List.all_eq_true] at h
    rcases List.mem_cons.1 hx with rfl | hx
    · exact h.1.1 b (by simp)
    · exact okPlsB_pair h.2 x hx
theorem plsB_ne {A : List (Nat × List Nat)} {ops : List Oper} {l1 l2 : List It3} {b : It3} (h : okPlsB A ((l1 ++ b :: l2).map (plOf3 ops)) = true) : ∀ x ∈ l1 ++ l2, x.i ≠ b.i := fun x hx e => by
  rw [List.map_append, List.map_cons] at h
  rcases List.mem_append.1 hx with hx | hx
  · have := okPlsB_pair h (plOf3 ops x) (List.mem_map_of_mem hx)
    simp only [okPair3, plOf3, Bool.and_eq_true, Bool.not_eq_true'] at this
    rw [e] at this; simp at this
  · have := okPlsB_back h
    simp only [okPlsB, Bool.and_eq_true, List.all_eq_true] at this
    have := this.1.1 _ (List.mem_map_of_mem hx)
    simp only [okPair3, plOf3, Bool.and_eq_true, Bool.not_eq_true'] at this
    rw [e] at this; simp at this
theorem okPlsB_sub {A : List (Nat × List Nat)} : ∀ {l1 : List Pl3} {b : Pl3} {l2 : List Pl3}, okPlsB A (l1 ++ b :: l2) = true → (∀ a ∈ l1, a.c ≤ 1) → (∀ a ∈ l1, a.i ∉ b.aft) → okPlsB A (l1 ++ l2) = true
  | [], b, l2, h, _, _ => by simp only [List.nil_append, okPlsB, Bool.and_eq_true] at h; exact h.2
  | a :: l1, b, l2, h, hf, hn => by
    simp only [List.cons_append, okPlsB, Bool.and_eq_true, List.all_eq_true] at h ⊢
    have hsub : ∀ x ∈ l1 ++ l2, x ∈ l1 ++ b :: l2 := fun x hx => by rcases List.mem_append.1 hx with hx | hx <;> simp [hx]
    refine ⟨⟨fun x hx => h.1.1 x (hsub x hx), ?_⟩, okPlsB_sub h.2 (fun x hx => hf x (by simp [hx])) (fun x hx => hn x (by simp [hx]))⟩
    have h1 := h.1.2
    have hc := hf a (by simp)
    have mv : ∀ p ∈ l1 ++ b :: l2, memN a.i p.aft = true → p ∈ l1 ++ l2 := fun p hp q2 => by
      rcases List.mem_append.1 hp with hp | hp
      · exact List.mem_append_left _ hp
      · rcases List.mem_cons.1 hp with rfl | hp
        · exact absurd (memN_iff.1 q2) (hn a (by simp))
        · exact List.mem_append_right _ hp
    unfold okTailB at h1 ⊢
    match e : a.c, hc with
    | 0, _ => rfl
    | 1, _ =>
      rw [e] at h1
      simp only [List.all_eq_true, Bool.or_eq_true, List.any_eq_true, Bool.and_eq_true] at h1 ⊢
      intro x hx
      rcases h1 x (hsub x hx) with (q | q | ⟨r, hr, p, hp, q1, q2⟩) | ⟨y, hy, z, q | ⟨r, hr, p, hp, q1, q2⟩⟩
      · exact .inl (.inl q)
      · exact .inl (.inr (.inl q))
      · exact .inl (.inr (.inr ⟨r, hr, p, mv p hp q2, q1, q2⟩))
      · exact .inr ⟨y, hy, z, .inl q⟩
      · exact .inr ⟨y, hy, z, .inr ⟨r, hr, p, mv p hp q2, q1, q2⟩⟩
theorem okPlsB_drop {A1 A2 : List (Nat × List Nat)} {b : Nat × List Nat} : ∀ {l : List Pl3}, okPlsB (A1 ++ b :: A2) l = true → (∀ a ∈ l, a.i ∉ b.2) → okPlsB (A1 ++ A2) l = true
  | [], _, _ => rfl
  | a :: l, h, hn => by
    simp only [okPlsB, Bool.and_eq_true] at h ⊢
    refine ⟨⟨h.1.1, ?_⟩, okPlsB_drop h.2 fun x hx => hn x (by simp [hx])⟩
    have h1 := h.1.2
    unfold okTailB at h1 ⊢
    match e : a.c with
    | 0 => rfl
    | 1 =>
      rw [e] at h1
      simp only [List.all_eq_true, Bool.or_eq_true, List.any_eq_true, Bool.and_eq_true] at h1 ⊢
      intro x hx
      rcases h1 x hx with q | ⟨y, hy, z, q⟩
      · exact .inl q
      · rcases List.mem_append.1 hy with hy | hy
        · exact .inr ⟨y, List.mem_append_left _ hy, z, q⟩
        · rcases List.mem_cons.1 hy with rfl | hy
          · exfalso
            rcases q with q | ⟨r, hr, p, hp, q1, q2⟩
            · exact hn a (by simp) (memN_iff.1 q)
            · have e2 := Nat.eq_of_beq_eq_true q1
              subst e2
              exact hn p (by simp [hp]) hr
          · exact .inr ⟨y, List.mem_append_right _ hy, z, q⟩
    | n + 2 => rw [e] at h1; exact h1
theorem wpAny_JB {C : Cx} {ops : Array Oper} {F : List SP} {Q : Exit → Act → World → Prop} {tail : List It3} : ∀ (fuel : Nat) (frees : List It3) (als : List Al2) (listed : Array Bool) (E : Env) (L : List SP), frees.length + als.length + tail.length ≤ fuel → listed.size = ops.size →
    (∀ i, i < ops.size → (listed.getD i true = false ↔ (∃ x ∈ frees ++ tail, x.i = i) ∨ ∃ a ∈ als, a.i = i)) → okPlsB (als.map fun a => (a.i, aftOf ops.toList a.i)) ((frees ++ tail).map (plOf3 ops.toList)) = true → (∀ x ∈ frees ++ tail, x.i < ops.size ∧ ∀ e ∈ aftOf ops.toList x.i, e < x.i) → (∀ x ∈ frees, x.c ≤ 1) → indAs2 als = true → (∀ a ∈ als, okAl2 ops.toList frees tail a = true) →
    JF C ops F (Als2 C ops (upP fun E' L' => JX C ops (fun E' L' => K C (Q .normal) E' L') tail E' (F ++ L')) als) frees E L → K C (fun a w => wpAnyIn (Fw C.ro) 0 C.P .any ops Q fuel listed a w) E (F ++ (als.map (·.I) ++ L)) := by
  intro fuel
  induction fuel with
  | zero =>
    intro frees als listed E L hlen hsz hin hok hlt hc hi hal hJ
    have h1 : frees = [] := List.length_eq_zero_iff.1 (by omega)
    have h2 : als = [] := List.length_eq_zero_iff.1 (by omega)
    have h3 : tail = [] := List.length_eq_zero_iff.1 (by omega)
    subst h1; subst h2; subst h3
    obtain ⟨L0, p, hJ⟩ := hJ
    exact K_lsub (LSub.of_perm (List.Perm.append_left F p)) (wpAny_JX 0 [] listed E (F ++ L0) (by simp) hsz (fun i h => by rw [hin i h]; simp) rfl (fun x hx => by cases hx) hJ)
  | succ fuel ih =>
    intro frees als listed E L hlen hsz hin hok hlt hc hi hal hJ
    match als, hlen, hin, hi, hal, hJ with
    | [], hlen, hin, hi, hal, hJ =>
      obtain ⟨L0, p, hJ⟩ := JF_out hJ
      exact K_lsub (LSub.of_perm (List.Perm.append_left F p)) (wpAny_JX (fuel + 1) (frees ++ tail) listed E (F ++ L0) (by simp at hlen ⊢; omega) hsz (fun i h => by rw [hin i h]; simp) (okPlsB_nil hok) hlt (JF_JX hc hJ))
    | a0 :: als0, hlen, hin, hi, hal, hJ =>
      generalize hals : a0 :: als0 = als at *
      have ha0 : a0 ∈ als := by rw [← hals]; simp
      have hall : ∀ a ∈ als, a.i < ops.size ∧ ∀ e ∈ aftOf ops.toList a.i, e < a.i := fun a ha => by
        have := hal a ha
        simp only [okAl2, Bool.and_eq_true, List.all_eq_true] at this
        exact ⟨by simpa using this.1.1.2, fun e he => by simpa using this.1.1.1 e he⟩
      intro a w p
      refine ⟨fun hr => ?_, fun i hii => ?_⟩
      · exfalso
        have hall2 : ∀ i, i < ops.size → listed.getD i true = true := by
          intro i
          induction i using Nat.strongRecOn with
          | _ i ihi =>
            intro hilt
            cases hl : listed.getD i true with
            | true => rfl
            | false =>
              have ho : ops[i]? = some ops[i] := Array.getElem?_eq_getElem hilt
              have h1 : ∀ e ∈ aftOf ops.toList i, e < i := by
                rcases (hin i hilt).1 hl with ⟨x, hx, hxi⟩ | ⟨x, hx, hxi⟩
                · have := (hlt x hx).2; rwa [hxi] at this
                · have := (hall x hx).2; rwa [hxi] at this
              have hm : i ∈ Region.ready .any ops listed := mem_ready.2 ⟨hilt, hl, _, ho, fun e he => by
                have he' : e < i := h1 e (by simpa [aftOf, hilt] using he)
                rw [getD_any (by omega) false true]
                exact ihi e he' (by omega)⟩
              rw [hr] at hm; cases hm
        have h1 := (hall a0 ha0).1
        have := (hin a0.i h1).2 (.inr ⟨a0, ha0, rfl⟩)
        rw [hall2 a0.i h1] at this; cases this
      · obtain ⟨hlti, hnl, o, ho, haft⟩ := mem_ready.1 hii
        have haft' : aftOf ops.toList i = aftN o := by
          have : ops.toList[i]? = some o := by simpa using ho
          simp only [aftOf, this]
        have hno : ∀ j, j < ops.size → listed.getD j true = false → j ∉ aftOf ops.toList i := fun j hj hl hm => by
          rw [haft'] at hm
          have h1 := haft _ hm
          rw [getD_any (by omega) true false, h1] at hl; cases hl
        rcases (hin i hlti).1 hnl with ⟨b, hb, hbi⟩ | ⟨b, hb, hbi⟩
        · rcases List.mem_append.1 hb with hb | hb
          · obtain ⟨l1, l2, rfl⟩ := List.append_of_mem hb
            have hmap : (l1 ++ b :: l2 ++ tail).map (plOf3 ops.toList) = l1.map (plOf3 ops.toList) ++ plOf3 ops.toList b :: (l2 ++ tail).map (plOf3 ops.toList) := by simp
            have hpair : ∀ x ∈ l1, okPair3 (plOf3 ops.toList x) (plOf3 ops.toList b) = true := fun x hx => okPlsB_pair (hmap ▸ hok) _ (List.mem_map_of_mem hx)
            have hleft : ∀ x ∈ l1, x.i ∉ aftOf ops.toList b.i := fun x hx => by
              rw [hbi]; exact hno x.i (hlt x (by simp [hx])).1 ((hin x.i (hlt x (by simp [hx])).1).2 (.inl ⟨x, by simp [hx], rfl⟩))
            have hne := plsB_ne (ops := ops.toList) (l1 := l1) (b := b) (l2 := l2 ++ tail) (by simpa using hok)
            have hJ' := JF_pull hpair hleft hJ
            obtain ⟨o', A, ho2, hl, hs, hk⟩ := hJ'
            subst hbi
            have hna : ∀ x ∈ als, x.i ≠ b.i := fun x hx e => by
              have := hal x hx
              simp only [okAl2, Bool.and_eq_true, List.all_eq_true] at this
              have := (this.1.2 b (by simp)).2
              rw [e] at this; simp at this
            have hs' : StepG C ops o' (restr b.ts E) (F ++ (als.map (·.I) ++ L)) A := by
              match e : b.c with
              | 0 => have := hs (F ++ (als.map (·.I) ++ L)); rw [e] at this; exact this
              | c + 1 => have := hs (als.map (·.I) ++ L); rw [e] at this; exact this
            refine hs'.op ho2 hl ?_ a w p
            refine ih (l1 ++ l2) als _ _ L (by simp only [List.length_append, List.length_cons] at hlen ⊢; omega) (by simpa using hsz) (fun j hj => ?_) ?_ (fun x hx => hlt x ?_) (fun x hx => hc x (by rcases List.mem_append.1 hx with hx | hx <;> simp [hx])) hi (fun x hx => ?_) hk
            · by_cases hji : b.i = j
              · subst hji
                rw [getD_set_same (by omega)]
                constructor
                · intro h; cases h
                · rintro (⟨x, hx, e⟩ | ⟨x, hx, e⟩)
                  · exact absurd e (hne x (by simpa [List.append_assoc] using hx))
                  · exact absurd e (hna x hx)
              · rw [getD_set_ne hji, hin j hj]
                constructor
                · rintro (⟨x, hx, e⟩ | h)
                  · refine .inl ⟨x, ?_, e⟩
                    simp only [List.mem_append, List.mem_cons] at hx ⊢
                    rcases hx with (hx | rfl | hx) | hx
                    · exact .inl (.inl hx)
                    · exact absurd e hji
                    · exact .inl (.inr hx)
                    · exact .inr hx
                  · exact .inr h
                · rintro (⟨x, hx, e⟩ | h)
                  · refine .inl ⟨x, ?_, e⟩
                    simp only [List.mem_append, List.mem_cons] at hx ⊢
                    rcases hx with (hx | hx) | hx
                    · exact .inl (.inl hx)
                    · exact .inl (.inr (.inr hx))
                    · exact .inr hx
                  · exact .inr h
            · have h3 := okPlsB_sub (hmap ▸ hok) (fun x hx => (List.mem_map.1 hx).elim fun y hy => hy.2 ▸ hc y (by simp [hy.1])) (fun x hx => (List.mem_map.1 hx).elim fun y hy => hy.2 ▸ hleft y hy.1)
              simpa using h3
            · simp only [List.mem_append, List.mem_cons] at hx ⊢
              rcases hx with (hx | hx) | hx
              · exact .inl (.inl hx)
              · exact .inl (.inr (.inr hx))
              · exact .inr hx
            · have := hal x hx
              simp only [okAl2, Bool.and_eq_true, List.all_eq_true] at this ⊢
              refine ⟨⟨this.1.1, fun y hy => this.1.2 y ?_⟩, this.2⟩
              rcases List.mem_append.1 hy with hy | hy <;> simp [hy]
          · exfalso
            have := hal a0 ha0
            simp only [okAl2, Bool.and_eq_true, List.all_eq_true] at this
            have := (this.2 b hb).2
            rw [hbi] at this
            simp only [Bool.or_eq_true, List.any_eq_true] at this
            rcases this with q | ⟨r, hr, y, hy, e⟩
            · exact hno a0.i (hall a0 ha0).1 ((hin a0.i (hall a0 ha0).1).2 (.inr ⟨a0, ha0, rfl⟩)) (memN_iff.1 q)
            · have e := Nat.eq_of_beq_eq_true e
              subst e
              have hyl := (hlt y (by simp [hy])).1
              exact hno y.i hyl ((hin y.i hyl).2 (.inl ⟨y, by simp [hy], rfl⟩)) hr
        · have hbo := hal b hb
          simp only [okAl2, Bool.and_eq_true, List.all_eq_true] at hbo
          obtain ⟨l1, l2, hl12⟩ := List.append_of_mem hb
          rw [hl12] at hi
          obtain ⟨hi2, hne, hpA⟩ := indAs2_sub hi
          obtain ⟨hAl, hnext⟩ := JF_lay (C := C) (ops := ops) (F := F) (b := b) (k' := Als2 C ops (upP fun E' L' => JX C ops (fun E' L' => K C (Q .normal) E' L') tail E' (F ++ L')) (l1 ++ l2)) (its := frees) (fun x hx => by
            have hq := hbo.1.2 x hx
            simp only [Bool.and_eq_true, Bool.or_eq_true, Bool.not_eq_true'] at hq
            refine ⟨hq.1.1.1, ?_, hq.1.2⟩
            rcases hq.1.1.2 with q | q
            · exfalso
              have hxl := (hlt x (by simp [hx])).1
              rw [hbi] at q
              exact hno x.i hxl ((hin x.i hxl).2 (.inl ⟨x, by simp [hx], rfl⟩)) (memN_iff.1 q)
            · exact q) (fun E L h => by rw [hl12] at h; exact Als2.pull upP_perm hpA h) hJ
          obtain ⟨ob, q1, q2, q3, q4, q5⟩ := hAl
          rw [hbi, ho] at q1
          cases q1
          have hperm : (F ++ (als.map (·.I) ++ L)).Perm (b.I :: (F ++ ((l1 ++ l2).map (·.I) ++ L))) := by
            rw [hl12]
            simp only [List.map_append, List.map_cons]
            refine (List.Perm.append_left F ?_).trans List.perm_middle
            rw [List.append_assoc, List.append_assoc]
            exact List.perm_middle
          obtain ⟨n, ds, h, m, l, sp, st, fr⟩ := p.lsub (LSub.of_perm hperm)
          have hwt : Region.wanted o (yielded ops a.tmps) = true := by simp [Region.wanted, q4]
          unfold wpOpIn
          simp only [ho]
          rw [if_pos hwt]
          refine q5 (F ++ ((l1 ++ l2).map (·.I) ++ L)) a w h m n l sp st (fr.sub restr_sub) _ Q fun v v' w' h' m' l' sp' st' hv => ?_
          have hrest := ih frees (l1 ++ l2) (listed.setIfInBounds i true) (upd E b.d (b.A v)) (b.M v :: L) (by rw [hl12] at hlen; simp only [List.length_append, List.length_cons] at hlen ⊢; omega) (by simpa using hsz) (fun j hj => ?_) (by rw [List.map_append]; exact okPlsB_drop (l := (frees ++ tail).map (plOf3 ops.toList)) (b := (b.i, aftOf ops.toList b.i)) (A1 := l1.map fun a => (a.i, aftOf ops.toList a.i)) (A2 := l2.map fun a => (a.i, aftOf ops.toList a.i)) (by rw [hl12] at hok; rw [List.map_append, List.map_cons] at hok; exact hok) (fun x hx => by
            obtain ⟨y, hy, rfl⟩ := List.mem_map.1 hx
            rw [hbi]; exact hno y.i (hlt y hy).1 ((hin y.i (hlt y hy).1).2 (.inl ⟨y, hy, rfl⟩)))) hlt hc hi2 (fun x hx => hal x (by
            rw [hl12]
            rcases List.mem_append.1 hx with hx | hx <;> simp [hx])) (hnext v)
          · have hperm2 : (b.M v :: (F ++ ((l1 ++ l2).map (·.I) ++ L))).Perm (F ++ ((l1 ++ l2).map (·.I) ++ b.M v :: L)) := by
              have e1 : F ++ ((l1 ++ l2).map (·.I) ++ b.M v :: L) = (F ++ (l1 ++ l2).map (·.I)) ++ b.M v :: L := by simp
              have e2 : b.M v :: (F ++ ((l1 ++ l2).map (·.I) ++ L)) = b.M v :: ((F ++ (l1 ++ l2).map (·.I)) ++ L) := by simp
              rw [e1, e2]
              exact List.perm_middle.symm
            have hpre : Pre C (updO E o.dst (b.A v)) (b.M v :: (F ++ ((l1 ++ l2).map (·.I) ++ L))) (a.put o.dst v') w' :=
              ⟨by rw [put_size]; exact n, by rw [put_defers]; exact ds, h', m', HL.trans l l', sp', st', (fr.mono l'.1).putO (by rw [n, q2]; exact q3) hv⟩
            have hpre2 := hpre.lsub (LSub.of_perm hperm2)
            rw [q2] at hpre2 ⊢
            exact hrest _ _ hpre2
          · by_cases hji : i = j
            · subst hji
              rw [getD_set_same (by omega)]
              constructor
              · intro h; cases h
              · rintro (⟨x, hx, e⟩ | ⟨x, hx, e⟩)
                · exfalso
                  rcases List.mem_append.1 hx with hx | hx
                  · have := (hbo.1.2 x hx).2
                    rw [hbi, e] at this; simp at this
                  · have := (hbo.2 x hx).1
                    rw [hbi, e] at this; simp at this
                · exact absurd (e.trans hbi.symm) (hne x hx)
            · rw [getD_set_ne hji, hin j hj, hl12]
              constructor
              · rintro (h | ⟨x, hx, e⟩)
                · exact .inl h
                · rcases List.mem_append.1 hx with hx | hx
                  · exact .inr ⟨x, by simp [hx], e⟩
                  · rcases List.mem_cons.1 hx with rfl | hx
                    · exact absurd (hbi.symm.trans e) hji
                    · exact .inr ⟨x, by simp [hx], e⟩
              · rintro (h | ⟨x, hx, e⟩)
                · exact .inl h
                · refine .inr ⟨x, ?_, e⟩
                  rcases List.mem_append.1 hx with hx | hx <;> simp [hx]
theorem J_drawB {C : Cx} {id : Nat} {ops : Array Oper} (F : List SP) (frees : List It3) (als : List Al2) (tail : List It3) {Q : Exit → Act → World → Prop} {E : Env} {L0 L : List SP} (hL : LSub L0 (F ++ (als.map (·.I) ++ L))) (hmix : C.P.follows .mixedOrders = true) (hok : okZB ops.toList frees als tail = true) (hn : frees.length + als.length + tail.length ≤ ops.size)
    (hJ : JF C ops F (Als2 C ops (upP fun E' L' => JX C ops (fun E' L' => K C (Q .normal) E' L') tail E' (F ++ L')) als) frees E L) : J C (.region id ops true) Q E L0 := fun a w p => by
  refine wpIn_region_draw (fun t => ?_)
  simp only [Region.schedule, hmix, Bool.true_or, if_true]
  refine wpAnyIn_sound ops.size t _ a _ ?_
  simp only [okZB, Bool.and_eq_true, List.all_eq_true, List.any_eq_true, Bool.or_eq_true] at hok
  obtain ⟨⟨⟨⟨⟨⟨h1, h2⟩, h3⟩, h3c⟩, h4⟩, h5⟩, h6⟩ := hok
  refine K_lsub hL (wpAny_JB ops.size frees als _ E L hn (by simp) (fun i hi => ?_) h1 (fun x hx => ⟨by have := h3 x hx; simpa using this, fun e he => ?_⟩) (fun x hx => by have := h3c x hx; simpa using this) h5 h6 hJ) a _ ?_
  · constructor
    · intro _
      rcases h4 i (by simpa using hi) with ⟨x, hx, e⟩ | ⟨x, hx, e⟩
      · exact .inl ⟨x, hx, (Nat.eq_of_beq_eq_true e).symm⟩
      · exact .inr ⟨x, hx, (Nat.eq_of_beq_eq_true e).symm⟩
    · intro _; simp [Array.getD_eq_getD_getElem?, hi]
  · have := h2 _ (List.mem_map_of_mem hx) e he
    simpa [plOf3] using this
  · obtain ⟨hsz, hds, h, m, hl, sp, st, fr⟩ := p
    exact ⟨hsz, hds, h, m, hl.trans (HL.same (Same.drew _)), ⟨(by first | exact Sep.inv (by assumption) | exact Inv.mono (PH.le_join_left _ _) (Sep.inv (by assumption))), sp.hm, sp.hr, sp.mr, sp.hw, sp.mw, sp.rw⟩, st, fr⟩
open Go Go.Proofs Go.Proofs.Tryz
/-- The reference's vigil. -/
def refV (rules : List GRule) (ps : PS) (c : Int) : GRVigil := ⟨rules, nsP ps, gsP ps, c⟩
abbrev refO (rules : List GRule) (b : Nat) (ps : PS) (c : Int) : SP := box b 43 rRVigil (refV rules ps c)
def FndP (ns : List Int) (n z : Int) : Prop := (0 ≤ z → z.toNat < ns.length ∧ nth ns z.toNat = n) ∧ (z < 0 → n ∉ ns)
theorem rem_parts {ps : PS} (hp : POk ps) {num : Int} {a : Nat} (ha : a < (nsP ps).length) (he : nth (nsP ps) a = num) : (nsP ps).take a ++ (nsP ps).drop (a + 1) = nsP (remP ps num) ∧ (gsP ps).take a ++ (gsP ps).drop (a + 1) = gsP (remP ps num) := by
  rw [remP_at hp (by rw [← nsP_len]; exact ha) he, ns_app, gs_app, ns_take, gs_take, ns_drop, gs_drop]; exact ⟨rfl, rfl⟩
theorem RNew_spec (rules : List GRule) : Spec (X := Nat) prog 12 [tSl rRule rules] ([]) (fun b => tAt b 0) (fun b => [refO rules b [] 0]) := by
 refine Spec.enter func12 rfl rfl fun h0 w0 fr0 => ?_
 refine Jr (Ja rfl (JL_nil (Jr (Jm rfl (Js rfl (step_build (x := (refV rules [] 0 : GRVigil)) (zs := [[Value.slice none 0 0], [Value.slice none 0 0], [Value.slice none 0 0], [Value.int .i64 0]]) so43 (fun w => zeroValue43 w) ⟨Sr, trivial⟩ ⟨⟨Sr, rfl⟩, fun _ => ⟨_, rfl, none, ⟨0, Nat.le_refl _⟩, rfl, fun q => absurd rfl q⟩, fun _ => ⟨_, rfl, none, ⟨0, Nat.le_refl _⟩, rfl, fun q => absurd rfl q⟩, fun _ => rfl, trivial⟩) ?_)))))
 refine Jx rfl (step_box_own (R := rRVigil) Sr) fun b5 => ?_
 refine Ja rfl (JL_nil (J_ret ?_))
 refine K_retv (X := Nat) (rv := .tmp 2) rfl b5 (.tmp Sr) Sr
theorem Rfind_spec (rules : List GRule) (b : Nat) (ps : PS) (c num : Int) (hl : ps.length ≤ 100) : Spec (X := { z : Int // FndP (nsP ps) num z }) prog 31 [tAt b 0, tV (.int .i64 num)] ([refO rules b ps c]) (fun z => tV (.int .i64 z.1)) (fun z => [refO rules b ps c]) := by
 refine Spec.enter func31 rfl rfl fun h0 w0 fr0 => ?_
 have hnl := nsP_len ps
 refine Jr (Ja rfl (JL_nil (J_seq (Jr (Ja rfl ?_)))))
 refine JL_nil (J_block ?_)
 refine J_loopL (σ := Nat) (fun i => i ≤ (nsP ps).length ∧ ∀ q, q < i → ¬ nth (nsP ps) q = num) (fun i => upd (upd (upd env0 0 (tAt b 0)) 1 (tV (.int .i64 num))) 5 (tV (.int .i64 (i : Int)))) (fun i => [refO rules b ps c]) (fun i => (nsP ps).length - i) 0 ⟨by omega, fun q hq => by omega⟩ (zU) (LSub.rfl) ?_
 rintro i ⟨hi, hv⟩
 refine J_seq (Jr (Jm rfl (Jm rfl (Js rfl (step_nilCheck Sr) (Js rfl (step_fieldAddr_own so43 Sr rfl) ?_)))))
 refine Js rfl (step_load_fld ty33 Sr rfl zS) ?_
 refine Js rfl (step_len_sl underlying33 Sr) (Js rfl (step_lss Sr Sr) (JL_nil ?_))
 refine J_cond Sr (fun h12 => ?_) (fun h12 => ?_)
 ·
  try simp only [NF] at h12
  have h12b : (i : Int) < ((nsP ps).length : Int) := h12
  have hit : i < (nsP ps).length := by omega
  refine J_skip (J_seq (J_block (Jr (Jm rfl (Js rfl (step_nilCheck Sr) ?_)))))
  refine Js rfl (step_fieldAddr_own so43 Sr rfl) ?_
  refine Js rfl (step_load_fld ty33 Sr rfl zS) ?_
  refine Jm rfl ?_
  refine Js rfl (step_indexAddr_sl  underlying33 ty3 Sr Sr rfl (gb (by exact hit))) ?_
  refine Jl rfl ty3 Sr (Jm rfl (Js rfl (step_eql Sr Sr) (JL_nil ?_)))
  refine J_cond Sr (fun h23 => ?_) (fun h23 => ?_)
  ·
   try simp only [NF] at h23
   refine Jr (Jm rfl (Ja rfl (JL_nil (J_ret ?_))))
   exact K_retv (X := { z : Int // FndP (nsP ps) num z }) (rv := .tmp 4) rfl ⟨(i : Int), fun _ => ⟨by simpa using hit, (show nth (nsP ps) i = num from h23)⟩, fun q => by omega⟩ (.tmp Sr) Sr
  try simp only [NF] at h23
  refine J_skip (J_region (Jm rfl (Js rfl (step_add Sr Sr z6) (Ja rfl (JL_nil ?_)))))
  refine K_againL (σ := Nat) (s := i) (i + 1) zO ?_ (zU) (LSub.rfl)
  refine ⟨by omega, fun q hq => ?_⟩
  by_cases e : q = i
  ·
   rw [e]; exact h23
  exact hv q zG
 try simp only [NF] at h12
 have h12b : ((nsP ps).length : Int) ≤ (i : Int) := h12
 obtain rfl : i = (nsP ps).length := by omega
 refine J_exit (Jr (Ja rfl (JL_nil (J_ret ?_))))
 exact K_retv (X := { z : Int // FndP (nsP ps) num z }) (rv := .tmp 4) rfl ⟨-1, fun q => by omega, fun _ q => (by obtain ⟨i, hi2, e⟩ := mem_nthV q; exact hv i hi2 e)⟩ (.tmp Sr) Sr
set_option maxHeartbeats 2000000 in
theorem RDrop_spec (rules : List GRule) (b : Nat) {ps : PS} (hp : POk ps) (c num : Int) (hl : ps.length ≤ 100) : Spec (X := Unit) prog 14 [tAt b 0, tV (.int .i64 num)] ([refO rules b ps c]) (fun _ => tV (.int .i64 (dropE ps num))) (fun _ => [refO rules b (remP ps num) c]) := by
 refine Spec.enter func14 rfl rfl fun h0 w0 fr0 => ?_
 have hnl := nsP_len ps
 have hgl := gsP_len ps
 refine Jr (Ja rfl (JL_nil (Jr (Jm rfl (Jm rfl ?_)))))
 refine Jx rfl (step_call zS (Rfind_spec rules b ps c num hl) ⟨Sr, Sr, trivial⟩ call31) fun z => ?_
 refine Ja rfl (JL_nil (J_seq (Jr (Jm rfl (Js rfl (step_lss Sr Sr) ?_)))))
 refine JL_nil ?_
 refine J_cond Sr (fun h10 => ?_) (fun h10 => ?_)
 ·
  try simp only [NF] at h10
  have hno := z.2.2 h10
  refine Jr (Ja rfl (JL_nil (J_ret ?_)))
  refine K_lsub (L' := [refO rules b (remP ps num) c]) (LSub.cons (A := refO rules b ps c) zS (box_eq (by rw [remP_no hno])) zL) ?_
  exact K_retv (rv := .tmp 4) rfl () (.tmp Sr) (by rw [dropE, if_neg hno]; exact Sr)
 try simp only [NF] at h10
 obtain ⟨hza, hze⟩ := z.2.1 zG
 obtain ⟨a, ha⟩ : ∃ a : Nat, z.1 = (a : Int) := ⟨z.1.toNat, by omega⟩
 have haz : z.1.toNat = a := by omega
 rw [haz] at hza hze
 obtain ⟨hr1, hr2⟩ := rem_parts hp hza hze
 refine J_skip (J_seq ?_)
 refine J_drawB [refO rules b ps c] [⟨0, [0], 0⟩, ⟨1, [], 0⟩, ⟨2, [0], 0⟩, ⟨3, [13], 0⟩, ⟨4, [14], 0⟩, ⟨5, [15], 1⟩, ⟨6, [5], 0⟩, ⟨7, [16, 17], 0⟩, ⟨9, [0], 0⟩, ⟨10, [20], 0⟩, ⟨11, [21], 0⟩, ⟨12, [22], 1⟩, ⟨13, [5], 0⟩, ⟨14, [24], 0⟩, ⟨15, [23, 25], 0⟩] [⟨8, [12, 18], 19, SP.emp, fun v => rV.ty v, fun v => own0 3 rInt v ((nsP ps).take a)⟩] [⟨16, [19, 26], 2⟩, ⟨17, [11], 0⟩, ⟨18, [28], 0⟩, ⟨19, [27, 29], 2⟩] (L := []) (LSub.trans LSub.emp zL) rfl (by kernel_rfl) (Nat.le_of_ble_eq_true rfl) ?_
 refine JF_step rfl rfl rfl rfl (fun _ => step_move Sr) ?_
 refine JF_step rfl rfl rfl rfl (fun _ => step_literal_emp (R := rInt) underlying33 el3) ?_
 refine JF_step rfl rfl rfl rfl (fun _ => step_move Sr) ?_
 refine JF_step rfl rfl rfl rfl (fun _ => step_nilCheck Sr) ?_
 refine JF_step rfl rfl rfl rfl (fun _ => step_fieldAddr_own so43 Sr rfl) ?_
 refine JF_look rfl rfl rfl rfl (fun _ => step_load_fld ty33 Sr rfl zS) ?_
 refine JF_step rfl rfl rfl rfl (fun _ => step_move Sr) ?_
 refine JF_step rfl rfl rfl rfl (fun _ => step_slice_toI (n := a) underlying33 ty3 Sr Sr (by exact ha) (by show a ≤ (nsP ps).length; omega)) ?_
 refine JF_step rfl rfl rfl rfl (fun _ => step_move Sr) ?_
 refine JF_step rfl rfl rfl rfl (fun _ => step_nilCheck Sr) ?_
 refine JF_step rfl rfl rfl rfl (fun _ => step_fieldAddr_own so43 Sr rfl) ?_
 refine JF_look rfl rfl rfl rfl (fun _ => step_load_fld ty33 Sr rfl zS) ?_
 refine JF_step rfl rfl rfl rfl (fun _ => step_move Sr) ?_
 refine JF_step rfl rfl rfl rfl (fun _ => step_add Sr Sr z6) ?_
 refine JF_step rfl rfl rfl rfl (fun _ => step_slice_fromI (n := (a + 1)) underlying33 ty3 rfl Sr Sr (by show z.1 + 1 = _; omega) (by show a + 1 ≤ (nsP ps).length; omega)) ?_
 refine JF_nil ?_
 refine ⟨⟨_, rfl, rfl, rfl, rfl, fun _ => by refine Step.empty ?_; exact Step.emb id (step_append_emp underlying33 el3 Sr Sr (by simp [refV, nsP_len, gsP_len]; omega) (by simp [refV, nsP_len, gsP_len]; omega)) (fun _ => rfl) (fun _ => rfl)⟩, fun v19 => ?_⟩
 refine upP_in ?_
 refine JX_stepX rfl rfl rfl rfl (step_append0 underlying33 el3 Sr Sr zS (by simp [refV, nsP_len, gsP_len]; omega) (by simp [refV, nsP_len, gsP_len]; omega)) fun v27 => ?_
 refine JX_step rfl rfl rfl rfl (fun _ => step_nilCheck Sr) ?_
 refine JX_step rfl rfl rfl rfl (fun _ => step_fieldAddr_own so43 Sr rfl) ?_
 refine JX_stepU rfl rfl rfl (Step.freeze (S := [own0 3 rInt v27 ((nsP ps).take a ++ (nsP ps).drop (a + 1))]) (t := 27) (A' := tSl rInt ((nsP ps).take a ++ (nsP ps).drop (a + 1))) zS Frz.own0 (step_store_fld (R := rSl rInt) (y' := (⟨rules, ((nsP ps).take a ++ (nsP ps).drop (a + 1)), (gsP ps), c⟩ : GRVigil)) ty33 Sr Sr zS (by exact ⟨rfl, fun _ _ q => q, rfl, by intro g hg; simp only [List.mem_cons, List.not_mem_nil, or_false] at hg; rcases hg with rfl | rfl <;> rfl⟩))) fun _ => ?_
 refine JX_nil (J_seq ?_)
 refine J_drawB [box b 43 rRVigil (⟨rules, ((nsP ps).take a ++ (nsP ps).drop (a + 1)), (gsP ps), c⟩ : GRVigil)] [⟨0, [0], 0⟩, ⟨1, [], 0⟩, ⟨2, [0], 0⟩, ⟨3, [32], 0⟩, ⟨4, [33], 0⟩, ⟨5, [34], 1⟩, ⟨6, [5], 0⟩, ⟨7, [35, 36], 0⟩, ⟨9, [0], 0⟩, ⟨10, [39], 0⟩, ⟨11, [40], 0⟩, ⟨12, [41], 1⟩, ⟨13, [5], 0⟩, ⟨14, [43], 0⟩, ⟨15, [42, 44], 0⟩] [⟨8, [31, 37], 38, SP.emp, fun v => rV.ty v, fun v => own0 35 rFact v ((gsP ps).take a)⟩] [⟨16, [38, 45], 2⟩, ⟨17, [30], 0⟩, ⟨18, [47], 0⟩, ⟨19, [46, 48], 2⟩] (L := []) (LSub.trans LSub.emp zL) rfl (by kernel_rfl) (Nat.le_of_ble_eq_true rfl) ?_
 refine JF_step rfl rfl rfl rfl (fun _ => step_move Sr) ?_
 refine JF_step rfl rfl rfl rfl (fun _ => step_literal_emp (R := rFact) underlying41 el35) ?_
 refine JF_step rfl rfl rfl rfl (fun _ => step_move Sr) ?_
 refine JF_step rfl rfl rfl rfl (fun _ => step_nilCheck Sr) ?_
 refine JF_step rfl rfl rfl rfl (fun _ => step_fieldAddr_own so43 Sr rfl) ?_
 refine JF_look rfl rfl rfl rfl (fun _ => step_load_fld ty41 Sr rfl zS) ?_
 refine JF_step rfl rfl rfl rfl (fun _ => step_move Sr) ?_
 refine JF_step rfl rfl rfl rfl (fun _ => step_slice_toI (n := a) underlying41 ty35 Sr Sr (by exact ha) (by show a ≤ (gsP ps).length; omega)) ?_
 refine JF_step rfl rfl rfl rfl (fun _ => step_move Sr) ?_
 refine JF_step rfl rfl rfl rfl (fun _ => step_nilCheck Sr) ?_
 refine JF_step rfl rfl rfl rfl (fun _ => step_fieldAddr_own so43 Sr rfl) ?_
 refine JF_look rfl rfl rfl rfl (fun _ => step_load_fld ty41 Sr rfl zS) ?_
 refine JF_step rfl rfl rfl rfl (fun _ => step_move Sr) ?_
 refine JF_step rfl rfl rfl rfl (fun _ => step_add Sr Sr z6) ?_
 refine JF_step rfl rfl rfl rfl (fun _ => step_slice_fromN (n := (a + 1)) underlying41 ty35 Sr Sr (by show z.1 + 1 = _; omega) (by show a + 1 ≤ (gsP ps).length; omega)) ?_
 refine JF_nil ?_
 refine ⟨⟨_, rfl, rfl, rfl, rfl, fun _ => by refine Step.empty ?_; exact Step.emb id (step_append_emp underlying41 el35 Sr Sr (by simp [refV, nsP_len, gsP_len]; omega) (by simp [refV, nsP_len, gsP_len]; omega)) (fun _ => rfl) (fun _ => rfl)⟩, fun v38 => ?_⟩
 refine upP_in ?_
 refine JX_stepX rfl rfl rfl rfl (step_append0 underlying41 el35 Sr Sr zS (by simp [refV, nsP_len, gsP_len]; omega) (by simp [refV, nsP_len, gsP_len]; omega)) fun v46 => ?_
 refine JX_step rfl rfl rfl rfl (fun _ => step_nilCheck Sr) ?_
 refine JX_step rfl rfl rfl rfl (fun _ => step_fieldAddr_own so43 Sr rfl) ?_
 refine JX_stepU rfl rfl rfl (Step.freeze (S := [own0 35 rFact v46 ((gsP ps).take a ++ (gsP ps).drop (a + 1))]) (t := 46) (A' := tSl rFact ((gsP ps).take a ++ (gsP ps).drop (a + 1))) zS Frz.own0 (step_store_fld (R := rSl rFact) (y' := (⟨rules, ((nsP ps).take a ++ (nsP ps).drop (a + 1)), ((gsP ps).take a ++ (gsP ps).drop (a + 1)), c⟩ : GRVigil)) ty41 Sr Sr zS (by exact ⟨rfl, rfl, fun _ _ q => q, rfl, by intro g hg; simp only [List.mem_cons, List.not_mem_nil, or_false] at hg; subst hg; rfl⟩))) fun _ => ?_
 refine JX_nil (Jr (Ja rfl (JL_nil (J_ret ?_))))
 refine K_lsub (L' := [refO rules b (remP ps num) c]) (LSub.cons (A := box b 43 rRVigil (⟨rules, ((nsP ps).take a ++ (nsP ps).drop (a + 1)), ((gsP ps).take a ++ (gsP ps).drop (a + 1)), c⟩ : GRVigil)) zS (box_eq (by rw [hr1, hr2]; rfl)) zL) ?_
 exact K_retv (rv := .tmp 4) rfl () (.tmp Sr) (by rw [dropE, if_pos (hze ▸ nth_mem hza)]; exact Sr)
open Go Go.Proofs Go.Proofs.Tryz
/-- A list into which an element was put at a place, as far as it was gone through. -/
def bldL {α : Type} (xs : List α) (x : α) (a i : Nat) : List α := if i ≤ a then xs.take i else xs.take a ++ x :: (xs.take i).drop a
theorem bld_lt {α : Type} [Inhabited α] {xs : List α} {x : α} {a i : Nat} (hi : i < xs.length) (h : i < a) : bldL xs x a i ++ [nth xs i] = bldL xs x a (i + 1) := by
  rw [bldL, bldL, if_pos (by omega), if_pos (by omega), takeV hi]
theorem bld_eq {α : Type} [Inhabited α] {xs : List α} {x : α} {a : Nat} (hi : a < xs.length) : (bldL xs x a a ++ [x]) ++ [nth xs a] = bldL xs x a (a + 1) := by
  rw [bldL, bldL, if_pos (Nat.le_refl _), if_neg (by omega), takeV hi, List.drop_append_of_le_length (by rw [List.length_take]; omega), List.drop_of_length_le (by rw [List.length_take]; omega)]
  simp
theorem bld_gt {α : Type} [Inhabited α] {xs : List α} {x : α} {a i : Nat} (hi : i < xs.length) (h : a < i) : bldL xs x a i ++ [nth xs i] = bldL xs x a (i + 1) := by
  rw [bldL, bldL, if_neg (by omega), if_neg (by omega), takeV hi, List.drop_append_of_le_length (by rw [List.length_take]; omega)]
  simp
theorem bld_step {ps : PS} {n : Int} {a i : Nat} (hat : AtP ps n a) (hno : n ∉ nsP ps) (hi2 : i < ps.length) (h : a < i ∨ nth (nsP ps) i ≤ n) {α : Type} [Inhabited α] {xs : List α} {x : α} (hi : i < xs.length) : bldL xs x a i ++ [nth xs i] = bldL xs x a (i + 1) := by
  rcases Nat.lt_trichotomy i a with e | e | e
  · exact bld_lt hi e
  · exfalso
    have h1 := hat.ge i (by omega) hi2
    rcases h with h | h
    · omega
    · exact hno (by rw [show n = nth (nsP ps) i by omega]; exact nth_mem (by rw [nsP_len]; exact hi2))
  · exact bld_gt hi e
theorem bldL_eqi {α : Type} [Inhabited α] {xs : List α} {x : α} {a i : Nat} (h : i = a) (hi : i < xs.length) : (bldL xs x a i ++ [x]) ++ [nth xs i] = bldL xs x a (i + 1) := by subst h; exact bld_eq hi
theorem at_ne {ps : PS} {n : Int} {a i : Nat} (hat : AtP ps n a) (hno : n ∉ nsP ps) (hi2 : i < ps.length) (h : a < i ∨ nth (nsP ps) i ≤ n) : i ≠ a := fun e => by
  have h1 := hat.ge i (by omega) hi2
  rcases h with h | h
  · omega
  · exact hno (by rw [show n = nth (nsP ps) i by omega]; exact nth_mem (by rw [nsP_len]; exact hi2))
theorem at_eq {ps : PS} {n : Int} {a i : Nat} (hat : AtP ps n a) (h : ¬ a < i ∧ n < nth (nsP ps) i) : i = a := by
  rcases Nat.lt_trichotomy i a with e | e | e
  · have := hat.lt i e; omega
  · exact e
  · exact absurd e h.1
theorem bld_len {α : Type} (xs : List α) (x : α) (a i : Nat) : (bldL xs x a i).length ≤ xs.length + 1 := by
  unfold bldL; split
  · rw [List.length_take]; omega
  · simp only [List.length_append, List.length_cons, List.length_take, List.length_drop]; omega
theorem bld_0 {α : Type} (xs : List α) (x : α) (a : Nat) : bldL xs x a 0 = [] := by rw [bldL, if_pos (Nat.zero_le _)]; rfl
theorem atP_ex {ps : PS} (hp : POk ps) (n : Int) : ∃ a, AtP ps n a := by
  have key : ∀ k, k ≤ ps.length → (∃ a, AtP ps n a) ∨ ∀ q, q < k → nth (nsP ps) q < n := by
    intro k
    induction k with
    | zero => exact fun _ => .inr fun q h => by omega
    | succ k ih =>
      intro hk
      rcases ih (by omega) with h | h
      · exact .inl h
      · by_cases hlt : nth (nsP ps) k < n
        · exact .inr fun q hq => by
            rcases Nat.lt_or_eq_of_le (Nat.lt_succ_iff.1 hq) with e | e
            · exact h q e
            · rw [e]; exact hlt
        · exact .inl ⟨k, AtP.of hp (by omega) h fun q => hlt q.2⟩
  rcases key ps.length (Nat.le_refl _) with h | h
  · exact h
  · exact ⟨ps.length, Nat.le_refl _, h, fun q h1 h2 => by omega⟩
theorem bld_end {ps : PS} (hp : POk ps) {n : Int} {f : GFact} {a : Nat} (ha : AtP ps n a) (hn : n ∉ nsP ps) (h : a < ps.length) : bldL (nsP ps) n a (nsP ps).length = nsP (insP ps n f) ∧ bldL (gsP ps) f a (nsP ps).length = gsP (insP ps n f) := by
  rw [insP_at hp ha hn, bldL, bldL, if_neg (by rw [nsP_len]; omega), if_neg (by rw [nsP_len]; omega), List.take_length, nsP_len, ← gsP_len ps, List.take_length, ns_app, gs_app, ns_take, gs_take]
  exact ⟨by rw [← ns_drop]; rfl, by rw [← gs_drop]; rfl⟩
theorem bld_last {ps : PS} (hp : POk ps) {n : Int} {f : GFact} {a : Nat} (ha : AtP ps n a) (hn : n ∉ nsP ps) (h : ps.length ≤ a) : bldL (nsP ps) n a (nsP ps).length ++ [n] = nsP (insP ps n f) ∧ bldL (gsP ps) f a (nsP ps).length ++ [f] = gsP (insP ps n f) := by
  rw [insP_at hp ha hn, bldL, bldL, if_pos (by rw [nsP_len]; omega), if_pos (by rw [nsP_len]; omega), List.take_length, nsP_len, ← gsP_len ps, List.take_length, List.take_of_length_le h, List.drop_of_length_le h, ns_app, gs_app]
  exact ⟨rfl, rfl⟩
set_option maxHeartbeats 4000000 in
theorem RPut_spec (rules : List GRule) (hr : RFew rules) (b : Nat) {ps : PS} (hp : POk ps) (c num : Int) (f : GFact) (hl : ps.length ≤ 11) (hc : 0 ≤ c ∧ c ≤ 1000000) : Spec (X := Unit) prog 15 [tAt b 0, tV (.int .i64 num), rFact.ty f] ([refO rules b ps c]) (fun _ => tV (.int .i64 (putE ps num))) (fun _ => [refO rules b (putP ps num f) (c + putW rules ps num f)]) := by
 refine Spec.enter func15 rfl rfl fun h0 w0 fr0 => ?_
 have hnl := nsP_len ps
 have hgl := gsP_len ps
 have hnr : (refV rules ps c).Numbers.length = ps.length := hnl
 refine Jr (Js rfl (step_box (R := rFact) Sr) (Ja rfl (JL_nil (J_seq (Jr ?_)))))
 refine Jm rfl (Js rfl (step_lss Sr Sr) (Jm rfl ?_))
 refine Jk rfl Sr rfl (step_move Sr) ?_
 refine Jg rfl Sr rfl (fun hw => step_geq (Sub.w hw) Sr) (Js rfl (step_pick_or Sr Sr) (JL_nil ?_))
 refine J_cond Sr (fun h19 => ?_) (fun h19 => ?_)
 ·
  try simp only [NF] at h19
  refine Jr (Ja rfl (JL_nil (J_ret ?_)))
  refine K_lsub (L' := [refO rules b (putP ps num f) (c + putW rules ps num f)]) (LSub.cons (A := refO rules b ps c) zS (box_eq (by rw [putP, if_neg (by rw [putE, if_pos zG]; decide), putW, if_neg (by rw [putE, if_pos zG]; decide), Int.add_zero])) zL) ?_
  exact K_retv (rv := .tmp 6) rfl () (.tmp Sr) (by rw [putE, if_pos zG]; exact Sr)
 try simp only [NF] at h19
 have h0 : 0 ≤ num ∧ num < 1000000 := by omega
 refine J_skip (J_seq (Jr (Jm rfl (Jm rfl ?_))))
 refine Jx rfl (step_call zS (Rfind_spec rules b ps c num zG) ⟨Sr, Sr, trivial⟩ call31) fun z => ?_
 refine Js rfl (step_geq Sr Sr) (JL_nil ?_)
 refine J_cond Sr (fun h23 => ?_) (fun h23 => ?_)
 ·
  try simp only [NF] at h23
  obtain ⟨hza, hze⟩ := z.2.1 h23
  have hin : num ∈ nsP ps := hze ▸ nth_mem hza
  refine Jr (Ja rfl (JL_nil (J_ret ?_)))
  refine K_lsub (L' := [refO rules b (putP ps num f) (c + putW rules ps num f)]) (LSub.cons (A := refO rules b ps c) zS (box_eq (by rw [putP, if_neg (by rw [putE, if_neg zG, if_pos hin]; decide), putW, if_neg (by rw [putE, if_neg zG, if_pos hin]; decide), Int.add_zero])) zL) ?_
  exact K_retv (rv := .tmp 6) rfl () (.tmp Sr) (by rw [putE, if_neg zG, if_pos hin]; exact Sr)
 try simp only [NF] at h23
 have hno := z.2.2 zG
 have he0 : putE ps num = 0 := putE_0.2 ⟨h0.1, h0.2, hno⟩
 obtain ⟨a, hat⟩ := atP_ex hp num
 have hal := hat.le
 have hil := insP_len num f ps
 have hV := hr.hyp (facts := gsP (insP ps num f)) (by rw [gsP_len]; omega)
 refine J_skip (Jr (Ja rfl (JL_nil (Jr (Ja rfl ?_)))))
 refine JL_nil (Jr (Ja rfl (JL_nil (Jr (Ja rfl ?_)))))
 refine JL_nil (J_seq (Jr (Ja rfl (JL_nil (J_block ?_)))))
 refine J_loopL (σ := Nat × Value × Value) (fun ⟨i, vn, vf⟩ => i ≤ (nsP ps).length) (fun ⟨i, vn, vf⟩ => upd (upd (upd (upd (upd (upd (upd (upd (upd env0 0 (tAt b 0)) 1 (tV (.int .i64 num))) 5 (tPtr rFact f)) 6 (tV (.int .i64 0))) 7 (rV.ty vn)) 8 (rV.ty vf)) 9 (tV (.int .i64 ((cntM rules f (ps.take i)) : Int)))) 10 (tV (.bool (decide (a < i))))) 11 (tV (.int .i64 (i : Int)))) (fun ⟨i, vn, vf⟩ => [own 3 rInt vn (bldL (nsP ps) num a i), own 35 rFact vf (bldL (gsP ps) f a i), refO rules b ps c]) (fun ⟨i, vn, vf⟩ => (nsP ps).length - i) (0, .slice none 0 0, .slice none 0 0) (by exact Nat.zero_le _) (.u (SubE.upd (Sub.bool (by simp)) (.u (SubE.upd (Sub.rV rfl) (SubE.upd (Sub.rV rfl) (zU)))))) (LSub.trans (LSub.trans (LSub.nilown (e := 3) (R := rInt)) (LSub.nilown (e := 35) (R := rFact))) (LSub.cons (A := own 3 rInt (.slice none 0 0) []) zS (own_eq (bld_0 _ _ _).symm) (LSub.cons (A := own 35 rFact (.slice none 0 0) []) zS (own_eq (bld_0 _ _ _).symm) zL))) ?_
 rintro ⟨i, vn, vf⟩ hi
 try dsimp only at hi
 refine J_seq (Jr (Jm rfl (Jm rfl (Js rfl (step_nilCheck Sr) (Js rfl (step_fieldAddr_own so43 Sr rfl) ?_)))))
 refine Js rfl (step_load_fld ty33 Sr rfl zS) ?_
 refine Js rfl (step_len_sl underlying33 Sr) (Js rfl (step_lss Sr Sr) (JL_nil ?_))
 refine J_cond Sr (fun h30 => ?_) (fun h30 => ?_)
 ·
  try simp only [NF] at h30
  have h30b : (i : Int) < ((nsP ps).length : Int) := h30
  have hit : i < (nsP ps).length := by omega
  have hit2 : i < ps.length := by omega
  have hit3 : i < (gsP ps).length := by omega
  have hcb := cnt_le rules f (ps.take i)
  rw [List.length_take] at hcb
  refine J_skip (J_seq (J_block (J_seq (Jr (Jm rfl ?_)))))
  refine Js rfl (step_not Sr) (Jm rfl ?_)
  refine Jk rfl Sr rfl (step_move Sr) ?_
  refine Jk rfl Sr rfl (step_move Sr) ?_
  refine Jg rfl Sr rfl (fun hw => step_nilCheck (Sub.w hw)) (Jg rfl Sr rfl (fun hw => step_fieldAddr_own so43 (Sub.w hw) rfl) ?_)
  refine Jg rfl Sr rfl (fun hw => step_load_fld ty33 (Sub.w hw) rfl zS) ?_
  refine Jk rfl Sr rfl (step_move Sr) ?_
  refine Jg rfl Sr rfl (fun hw => step_indexAddr_sl  underlying33 ty3 (Sub.w hw) (Sub.w hw) rfl (gb (by have hwq := hw; (try simp only [beqB_t, beqB_f, NF] at hwq); exact hit))) ?_
  refine Jg rfl Sr rfl (fun hw => step_load_ptr ty3 (Sub.w hw)) (Jg rfl Sr rfl (fun hw => step_lss (Sub.w hw) (Sub.w hw)) (Js rfl (step_pick_and Sr Sr) (JL_nil ?_)))
  refine J_cond Sr (fun h45 => ?_) (fun h45 => ?_)
  ·
   try simp only [NF] at h45
   have h45b : ¬ a < i ∧ num < nth (nsP ps) i := h45
   have hia := at_eq hat h45b
   refine Jr (Jm rfl (Jm rfl ?_))
   refine Js rfl (step_literal (ys := [_]) underlying33 el3 ⟨rfl, Sr, trivial⟩ rfl (by decide)) ?_
   refine Jx rfl (step_append underlying33 el3 Sr Sr zS (by have h8 := bld_len (nsP ps) num a i; have h9 := bld_len (gsP ps) f a i; simp only [List.length_append, List.length_cons, List.length_nil]; omega) (by have h8 := bld_len (nsP ps) num a i; have h9 := bld_len (gsP ps) f a i; simp only [List.length_append, List.length_cons, List.length_nil]; omega)) fun v49 => ?_
   refine Ja rfl (JL_nil (Jr (Jm rfl (Jl rfl ty35 Sr ?_))))
   refine Js rfl (step_literal (ys := [_]) underlying41 el35 ⟨rfl, Sr, trivial⟩ rfl (by decide)) ?_
   refine Jx rfl (step_append underlying41 el35 Sr Sr zS (by have h8 := bld_len (nsP ps) num a i; have h9 := bld_len (gsP ps) f a i; simp only [List.length_append, List.length_cons, List.length_nil]; omega) (by have h8 := bld_len (nsP ps) num a i; have h9 := bld_len (gsP ps) f a i; simp only [List.length_append, List.length_cons, List.length_nil]; omega)) fun v53 => ?_
   refine Ja rfl (JL_nil (J_region (Ja rfl (JL_nil (Jr ?_)))))
   refine Jm rfl (Jm rfl (Js rfl (step_nilCheck Sr) (Js rfl (step_fieldAddr_own so43 Sr rfl) ?_)))
   refine Js rfl (step_load_fld ty33 Sr rfl zS) ?_
   refine Jm rfl ?_
   refine Js rfl (step_indexAddr_sl  underlying33 ty3 Sr Sr rfl (gb (by exact hit))) ?_
   refine Jl rfl ty3 Sr ?_
   refine Js rfl (step_literal (ys := [_]) underlying33 el3 ⟨rfl, Sr, trivial⟩ rfl (by decide)) ?_
   refine Jx rfl (step_append underlying33 el3 Sr Sr zS (by have h8 := bld_len (nsP ps) num a i; have h9 := bld_len (gsP ps) f a i; simp only [List.length_append, List.length_cons, List.length_nil]; omega) (by have h8 := bld_len (nsP ps) num a i; have h9 := bld_len (gsP ps) f a i; simp only [List.length_append, List.length_cons, List.length_nil]; omega)) fun v63 => ?_
   refine Ja rfl (JL_nil (Jr (Jm rfl (Jm rfl (Js rfl (step_nilCheck Sr) ?_)))))
   refine Js rfl (step_fieldAddr_own so43 Sr rfl) ?_
   refine Js rfl (step_load_fld ty41 Sr rfl zS) ?_
   refine Jm rfl ?_
   refine Js rfl (step_indexAddr_sl  underlying41 ty35 Sr Sr rfl (gb (by exact hit3))) ?_
   refine Jl rfl ty35 Sr ?_
   refine Js rfl (step_literal (ys := [_]) underlying41 el35 ⟨rfl, Sr, trivial⟩ rfl (by decide)) ?_
   refine Jx rfl (step_append underlying41 el35 Sr Sr zS (by have h8 := bld_len (nsP ps) num a i; have h9 := bld_len (gsP ps) f a i; simp only [List.length_append, List.length_cons, List.length_nil]; omega) (by have h8 := bld_len (nsP ps) num a i; have h9 := bld_len (gsP ps) f a i; simp only [List.length_append, List.length_cons, List.length_nil]; omega)) fun v73 => ?_
   refine Ja rfl (JL_nil (J_seq ?_))
   refine J_drawX [⟨0, [0], 0⟩, ⟨1, [74], 0⟩, ⟨2, [75], 0⟩, ⟨4, [5], 0⟩, ⟨5, [0], 0⟩, ⟨6, [79], 0⟩, ⟨7, [80], 0⟩, ⟨9, [11], 0⟩, ⟨3, [76], 1⟩, ⟨8, [81], 1⟩, ⟨10, [82, 83], 0⟩, ⟨11, [84], 0⟩, ⟨12, [77, 78, 85], 0⟩] rfl (by kernel_rfl) ?_
   refine JX_step rfl rfl rfl rfl (fun _ => step_move Sr) ?_
   refine JX_step rfl rfl rfl rfl (fun _ => step_nilCheck Sr) ?_
   refine JX_step rfl rfl rfl rfl (fun _ => step_fieldAddr_own so43 Sr rfl) ?_
   refine JX_step rfl rfl rfl rfl (fun _ => step_load_ptr ty35 Sr) ?_
   refine JX_step rfl rfl rfl rfl (fun _ => step_move Sr) ?_
   refine JX_step rfl rfl rfl rfl (fun _ => step_nilCheck Sr) ?_
   refine JX_step rfl rfl rfl rfl (fun _ => step_fieldAddr_own so43 Sr rfl) ?_
   refine JX_step rfl rfl rfl rfl (fun _ => step_move Sr) ?_
   refine JX_look rfl rfl rfl rfl (step_load_fld ty22 Sr rfl zS) ?_
   refine JX_look rfl rfl rfl rfl (step_load_fld ty41 Sr rfl zS) ?_
   refine JX_step rfl rfl rfl rfl (fun _ => step_indexAddr_sl  underlying41 ty35 Sr Sr rfl (gb (by exact hit3))) ?_
   refine JX_step rfl rfl rfl rfl (fun _ => step_load_ptr ty35 Sr) ?_
   refine JX_step rfl rfl rfl rfl (fun _ => step_call0 (Meets_spec _ hr _ _) ⟨Sr, Sr, Sr, trivial⟩ call22) ?_
   refine JX_nil ?_
   refine J_cond Sr (fun h86 => ?_) (fun h86 => ?_)
   ·
    try simp only [NF] at h86
    refine J_region (Jm rfl (Js rfl (step_add Sr Sr z6) (Ja rfl (JL_nil (J_region ?_)))))
    refine Jm rfl (Js rfl (step_add Sr Sr z6) (Ja rfl (JL_nil ?_)))
    refine K_againL (σ := Nat × Value × Value) (s := (i, vn, vf)) (i + 1, v63, v73) zO (by show i + 1 ≤ _; omega) (.u (SubE.upd (Sub.bool (decide_eq_true (show a < i + 1 by omega)).symm) (SubE.upd (Sub.int (by rw [cnt_succ hit2, if_pos (show metB rules f (nth (gsP ps) i) = true from h86)]; push_cast; rfl)) (zU)))) (LSub.cons (A := own 3 rInt v63 (((bldL (nsP ps) num a i) ++ [num]) ++ [nth (nsP ps) i])) zS (own_eq (bldL_eqi hia hit)) (LSub.cons (A := own 35 rFact v73 (((bldL (gsP ps) f a i) ++ [f]) ++ [nth (gsP ps) i])) zS (own_eq (bldL_eqi hia hit3)) zL))
   try simp only [NF] at h86
   refine J_skip (J_region (Jm rfl (Js rfl (step_add Sr Sr z6) (Ja rfl (JL_nil ?_)))))
   refine K_againL (σ := Nat × Value × Value) (s := (i, vn, vf)) (i + 1, v63, v73) zO (by show i + 1 ≤ _; omega) (.u (SubE.upd (Sub.bool (decide_eq_true (show a < i + 1 by omega)).symm) (SubE.upd (Sub.int (by rw [cnt_succ hit2, if_neg (by have h87 : metB rules f (nth (gsP ps) i) = false := h86; simp [h87])]; rfl)) (zU)))) (LSub.cons (A := own 3 rInt v63 (((bldL (nsP ps) num a i) ++ [num]) ++ [nth (nsP ps) i])) zS (own_eq (bldL_eqi hia hit)) (LSub.cons (A := own 35 rFact v73 (((bldL (gsP ps) f a i) ++ [f]) ++ [nth (gsP ps) i])) zS (own_eq (bldL_eqi hia hit3)) zL))
  try simp only [NF] at h45
  have hne := at_ne hat hno hit2 (show a < i ∨ nth (nsP ps) i ≤ num from h45)
  have hbn := bld_step hat hno hit2 (show a < i ∨ nth (nsP ps) i ≤ num from h45) (xs := nsP ps) (x := num) hit
  have hbf := bld_step hat hno hit2 (show a < i ∨ nth (nsP ps) i ≤ num from h45) (xs := gsP ps) (x := f) hit3
  refine J_skip (Jr (Jm rfl (Jm rfl (Js rfl (step_nilCheck Sr) (Js rfl (step_fieldAddr_own so43 Sr rfl) ?_)))))
  refine Js rfl (step_load_fld ty33 Sr rfl zS) ?_
  refine Jm rfl ?_
  refine Js rfl (step_indexAddr_sl  underlying33 ty3 Sr Sr rfl (gb (by exact hit))) ?_
  refine Jl rfl ty3 Sr ?_
  refine Js rfl (step_literal (ys := [_]) underlying33 el3 ⟨rfl, Sr, trivial⟩ rfl (by decide)) ?_
  refine Jx rfl (step_append underlying33 el3 Sr Sr zS (by have h8 := bld_len (nsP ps) num a i; have h9 := bld_len (gsP ps) f a i; simp only [List.length_append, List.length_cons, List.length_nil]; omega) (by have h8 := bld_len (nsP ps) num a i; have h9 := bld_len (gsP ps) f a i; simp only [List.length_append, List.length_cons, List.length_nil]; omega)) fun v63 => ?_
  refine Ja rfl (JL_nil (Jr (Jm rfl (Jm rfl (Js rfl (step_nilCheck Sr) ?_)))))
  refine Js rfl (step_fieldAddr_own so43 Sr rfl) ?_
  refine Js rfl (step_load_fld ty41 Sr rfl zS) ?_
  refine Jm rfl ?_
  refine Js rfl (step_indexAddr_sl  underlying41 ty35 Sr Sr rfl (gb (by exact hit3))) ?_
  refine Jl rfl ty35 Sr ?_
  refine Js rfl (step_literal (ys := [_]) underlying41 el35 ⟨rfl, Sr, trivial⟩ rfl (by decide)) ?_
  refine Jx rfl (step_append underlying41 el35 Sr Sr zS (by have h8 := bld_len (nsP ps) num a i; have h9 := bld_len (gsP ps) f a i; simp only [List.length_append, List.length_cons, List.length_nil]; omega) (by have h8 := bld_len (nsP ps) num a i; have h9 := bld_len (gsP ps) f a i; simp only [List.length_append, List.length_cons, List.length_nil]; omega)) fun v73 => ?_
  refine Ja rfl (JL_nil (J_seq ?_))
  refine J_drawX [⟨0, [0], 0⟩, ⟨1, [74], 0⟩, ⟨2, [75], 0⟩, ⟨4, [5], 0⟩, ⟨5, [0], 0⟩, ⟨6, [79], 0⟩, ⟨7, [80], 0⟩, ⟨9, [11], 0⟩, ⟨3, [76], 1⟩, ⟨8, [81], 1⟩, ⟨10, [82, 83], 0⟩, ⟨11, [84], 0⟩, ⟨12, [77, 78, 85], 0⟩] rfl (by kernel_rfl) ?_
  refine JX_step rfl rfl rfl rfl (fun _ => step_move Sr) ?_
  refine JX_step rfl rfl rfl rfl (fun _ => step_nilCheck Sr) ?_
  refine JX_step rfl rfl rfl rfl (fun _ => step_fieldAddr_own so43 Sr rfl) ?_
  refine JX_step rfl rfl rfl rfl (fun _ => step_load_ptr ty35 Sr) ?_
  refine JX_step rfl rfl rfl rfl (fun _ => step_move Sr) ?_
  refine JX_step rfl rfl rfl rfl (fun _ => step_nilCheck Sr) ?_
  refine JX_step rfl rfl rfl rfl (fun _ => step_fieldAddr_own so43 Sr rfl) ?_
  refine JX_step rfl rfl rfl rfl (fun _ => step_move Sr) ?_
  refine JX_look rfl rfl rfl rfl (step_load_fld ty22 Sr rfl zS) ?_
  refine JX_look rfl rfl rfl rfl (step_load_fld ty41 Sr rfl zS) ?_
  refine JX_step rfl rfl rfl rfl (fun _ => step_indexAddr_sl  underlying41 ty35 Sr Sr rfl (gb (by exact hit3))) ?_
  refine JX_step rfl rfl rfl rfl (fun _ => step_load_ptr ty35 Sr) ?_
  refine JX_step rfl rfl rfl rfl (fun _ => step_call0 (Meets_spec _ hr _ _) ⟨Sr, Sr, Sr, trivial⟩ call22) ?_
  refine JX_nil ?_
  refine J_cond Sr (fun h86 => ?_) (fun h86 => ?_)
  ·
   try simp only [NF] at h86
   refine J_region (Jm rfl (Js rfl (step_add Sr Sr z6) (Ja rfl (JL_nil (J_region ?_)))))
   refine Jm rfl (Js rfl (step_add Sr Sr z6) (Ja rfl (JL_nil ?_)))
   refine K_againL (σ := Nat × Value × Value) (s := (i, vn, vf)) (i + 1, v63, v73) zO (by show i + 1 ≤ _; omega) (.u (SubE.upd (Sub.bool (by rw [decide_eq_decide]; omega)) (SubE.upd (Sub.int (by rw [cnt_succ hit2, if_pos (show metB rules f (nth (gsP ps) i) = true from h86)]; push_cast; rfl)) (zU)))) (LSub.cons (A := own 3 rInt v63 ((bldL (nsP ps) num a i) ++ [nth (nsP ps) i])) zS (own_eq hbn) (LSub.cons (A := own 35 rFact v73 ((bldL (gsP ps) f a i) ++ [nth (gsP ps) i])) zS (own_eq hbf) zL))
  try simp only [NF] at h86
  refine J_skip (J_region (Jm rfl (Js rfl (step_add Sr Sr z6) (Ja rfl (JL_nil ?_)))))
  refine K_againL (σ := Nat × Value × Value) (s := (i, vn, vf)) (i + 1, v63, v73) zO (by show i + 1 ≤ _; omega) (.u (SubE.upd (Sub.bool (by rw [decide_eq_decide]; omega)) (SubE.upd (Sub.int (by rw [cnt_succ hit2, if_neg (by have h87 : metB rules f (nth (gsP ps) i) = false := h86; simp [h87])]; rfl)) (zU)))) (LSub.cons (A := own 3 rInt v63 ((bldL (nsP ps) num a i) ++ [nth (nsP ps) i])) zS (own_eq hbn) (LSub.cons (A := own 35 rFact v73 ((bldL (gsP ps) f a i) ++ [nth (gsP ps) i])) zS (own_eq hbf) zL))
 try simp only [NF] at h30
 have h30b : ((nsP ps).length : Int) ≤ (i : Int) := h30
 obtain rfl : i = (nsP ps).length := by omega
 refine J_exit (J_seq (Jr (Jm rfl (Js rfl (step_not Sr) (JL_nil ?_)))))
 refine J_cut (X := Value × Value) (fun ⟨wn, wf⟩ => upd (upd (upd (upd (upd (upd (upd env0 0 (tAt b 0)) 1 (tV (.int .i64 num))) 5 (tPtr rFact f)) 6 (tV (.int .i64 0))) 7 (rV.ty wn)) 8 (rV.ty wf)) 9 (tV (.int .i64 ((cntM rules f (ps.take (nsP ps).length)) : Int)))) (fun ⟨wn, wf⟩ => [own 3 rInt wn (nsP (insP ps num f)), own 35 rFact wf (gsP (insP ps num f)), refO rules b ps c]) ?_ ?_
 ·
  skip
  refine J_cond Sr (fun h90 => ?_) (fun h90 => ?_)
  ·
   try simp only [NF] at h90
   refine Jr (Jm rfl (Jm rfl ?_))
   refine Js rfl (step_literal (ys := [_]) underlying33 el3 ⟨rfl, Sr, trivial⟩ rfl (by decide)) ?_
   refine Jx rfl (step_append underlying33 el3 Sr Sr zS (by have h8 := bld_len (nsP ps) num a (nsP ps).length; have h9 := bld_len (gsP ps) f a (nsP ps).length; simp only [List.length_append, List.length_cons, List.length_nil]; omega) (by have h8 := bld_len (nsP ps) num a (nsP ps).length; have h9 := bld_len (gsP ps) f a (nsP ps).length; simp only [List.length_append, List.length_cons, List.length_nil]; omega)) fun v94 => ?_
   refine Ja rfl (JL_nil (J_region (Jm rfl (Jl rfl ty35 Sr ?_))))
   refine Js rfl (step_literal (ys := [_]) underlying41 el35 ⟨rfl, Sr, trivial⟩ rfl (by decide)) ?_
   refine Jx rfl (step_append underlying41 el35 Sr Sr zS (by have h8 := bld_len (nsP ps) num a (nsP ps).length; have h9 := bld_len (gsP ps) f a (nsP ps).length; simp only [List.length_append, List.length_cons, List.length_nil]; omega) (by have h8 := bld_len (nsP ps) num a (nsP ps).length; have h9 := bld_len (gsP ps) f a (nsP ps).length; simp only [List.length_append, List.length_cons, List.length_nil]; omega)) fun v98 => ?_
   refine Ja rfl (JL_nil ?_)
   obtain ⟨g1, g2⟩ := bld_last (f := f) hp hat hno (by first | omega | (simp at h90; omega))
   refine K_cut (E := fun _ => env0) (v94, v98) (zU) (LSub.cons (A := own 3 rInt v94 ((bldL (nsP ps) num a (nsP ps).length) ++ [num])) zS (own_eq g1) (LSub.cons (A := own 35 rFact v98 ((bldL (gsP ps) f a (nsP ps).length) ++ [f])) zS (own_eq g2) zL))
  try simp only [NF] at h90
  refine J_skip ?_
  obtain ⟨g1, g2⟩ := bld_end (f := f) hp hat hno (by first | omega | (simp at h90; omega))
  refine K_cut (E := fun _ => env0) (vn, vf) (zU) (LSub.cons (A := own 3 rInt vn (bldL (nsP ps) num a (nsP ps).length)) zS (own_eq g1) (LSub.cons (A := own 35 rFact vf (bldL (gsP ps) f a (nsP ps).length)) zS (own_eq g2) zL))
 rintro ⟨wn, wf⟩
 have hcm := cnt_met rules f ps
 have hcb := cnt_le rules f (ps.take (nsP ps).length)
 rw [List.length_take] at hcb
 have hmb := metN_le rules ps f
 refine J_seq ?_
 refine K_freeze (S := [own 3 rInt wn (nsP (insP ps num f))]) (t := 7) zS Frz.own ?_
 refine K_freeze (S := [own 35 rFact wf (gsP (insP ps num f))]) (t := 8) zS Frz.own ?_
 refine J_region (Jm rfl (Js rfl (step_nilCheck Sr) (Js rfl (step_fieldAddr_own so43 Sr rfl) ?_)))
 refine Js rfl (step_load_fld ty22 Sr rfl zS) ?_
 refine Jm rfl ?_
 refine Js rfl (step_call0 (ViolationsR_spec rules (gsP (insP ps num f)) hV (by rw [gsP_len]; omega) (fun r h => by have := hr.rr r h; omega)) ⟨Sr, Sr, trivial⟩ call32) ?_
 refine Jm rfl (Js rfl (step_extract Sr rfl) (Js rfl (step_extract Sr rfl) (Ja rfl (Ja rfl (JL_nil ?_)))))
 refine J_seq (Jr (Jm rfl (Js rfl (step_neq Sr Sr) (JL_nil ?_))))
 refine J_cond Sr (fun h109 => ?_) (fun h109 => ?_)
 ·
  try simp only [NF] at h109
  exfalso; first | exact h109 | exact h109 rfl | (simp at h109)
 try simp only [NF] at h109
 refine J_skip (Jr (Jm rfl (Jm rfl (Js rfl (step_nilCheck Sr) (Js rfl (step_fieldAddr_own so43 Sr rfl) ?_)))))
 refine Ju (step_store_fld (R := (rSl rInt)) (y' := (⟨rules, (nsP (insP ps num f)), (gsP ps), c⟩ : GRVigil)) ty33 Sr Sr zS (by exact ⟨rfl, fun _ _ q => q, rfl, by intro g hg; simp only [List.mem_cons, List.not_mem_nil, or_false] at hg; rcases hg with rfl | rfl <;> rfl⟩)) fun _ => ?_
 refine JL_nil (Jr (Jm rfl (Jm rfl (Js rfl (step_nilCheck Sr) (Js rfl (step_fieldAddr_own so43 Sr rfl) ?_)))))
 refine Ju (step_store_fld (R := (rSl rFact)) (y' := (⟨rules, (nsP (insP ps num f)), (gsP (insP ps num f)), c⟩ : GRVigil)) ty41 Sr Sr zS (by exact ⟨rfl, rfl, fun _ _ q => q, rfl, by intro g hg; simp only [List.mem_cons, List.not_mem_nil, or_false] at hg; subst hg; rfl⟩)) fun _ => ?_
 refine JL_nil (Jr (Jm rfl (Js rfl (step_nilCheck Sr) (Js rfl (step_fieldAddr_own so43 Sr rfl) ?_))))
 refine Js rfl (step_load_fld ty3 Sr rfl zS) ?_
 refine Jm rfl (Js rfl (step_add (Sub.int (show _ = c from rfl)) Sr z6) (Js rfl (step_nilCheck Sr) (Js rfl (step_fieldAddr_own so43 Sr rfl) ?_)))
 refine Ju (step_store_fld (R := rInt) (y' := (⟨rules, (nsP (insP ps num f)), (gsP (insP ps num f)), (c + (cntM rules f (ps.take (nsP ps).length) : Int))⟩ : GRVigil)) ty3 Sr Sr zS (by exact ⟨rfl, rfl, rfl, fun _ _ q => q, rfl, by intro g hg; cases hg⟩)) fun _ => ?_
 refine JL_nil (Jr (Ja rfl (JL_nil (J_ret ?_))))
 refine K_lsub (L' := [refO rules b (putP ps num f) (c + putW rules ps num f)]) (LSub.cons (A := box b 43 rRVigil (⟨rules, (nsP (insP ps num f)), (gsP (insP ps num f)), (c + (cntM rules f (ps.take (nsP ps).length) : Int))⟩ : GRVigil)) zS (box_eq (by rw [putP, if_pos he0, putW, if_pos he0, ← hcm, hnl, List.take_length]; rfl)) zL) ?_
 exact K_retv (rv := .tmp 6) rfl () (.tmp Sr) (by rw [he0]; exact Sr)
open Go Go.Proofs Go.Proofs.Tryz
set_option maxHeartbeats 4000000 in
theorem RViol_spec (rules : List GRule) (hr : RFew rules) (b : Nat) {ps : PS} (hp : POk ps) (c : Int) (hl : ps.length ≤ 12) : Spec (X := Unit) prog 19 [tAt b 0] ([refO rules b ps c]) (fun _ => tSl (rSl rInt) (vioN rules ps)) (fun _ => [refO rules b ps c]) := by
 refine Spec.enter func19 rfl rfl fun h0 w0 fr0 => ?_
 have hnl := nsP_len ps
 have hgl := gsP_len ps
 have hV := hr.hyp (facts := gsP ps) (by rw [gsP_len]; exact hl)
 refine Jr (Ja rfl (JL_nil (J_seq ?_)))
 refine J_drawX [⟨0, [0], 0⟩, ⟨1, [10], 0⟩, ⟨2, [11], 0⟩, ⟨4, [0], 0⟩, ⟨5, [14], 0⟩, ⟨6, [15], 0⟩, ⟨3, [12], 1⟩, ⟨7, [16], 1⟩, ⟨8, [13, 17], 0⟩, ⟨9, [18], 0⟩, ⟨10, [9], 0⟩, ⟨11, [9], 0⟩, ⟨12, [19], 0⟩, ⟨13, [20], 0⟩] rfl (by kernel_rfl) ?_
 refine JX_step rfl rfl rfl rfl (fun _ => step_move Sr) ?_
 refine JX_step rfl rfl rfl rfl (fun _ => step_nilCheck Sr) ?_
 refine JX_step rfl rfl rfl rfl (fun _ => step_fieldAddr_own so43 Sr rfl) ?_
 refine JX_step rfl rfl rfl rfl (fun _ => step_move Sr) ?_
 refine JX_step rfl rfl rfl rfl (fun _ => step_nilCheck Sr) ?_
 refine JX_step rfl rfl rfl rfl (fun _ => step_fieldAddr_own so43 Sr rfl) ?_
 refine JX_look rfl rfl rfl rfl (step_load_fld ty22 Sr rfl zS) ?_
 refine JX_look rfl rfl rfl rfl (step_load_fld ty41 Sr rfl zS) ?_
 refine JX_step rfl rfl rfl rfl (fun _ => step_call0 (ViolationsR_spec rules (gsP ps) hV (by rw [gsP_len]; omega) (fun r h => by have := hr.rr r h; omega)) ⟨Sr, Sr, trivial⟩ call32) ?_
 refine JX_step rfl rfl rfl rfl (fun _ => step_move Sr) ?_
 refine JX_step rfl rfl rfl rfl (fun _ => step_extract Sr rfl) ?_
 refine JX_step rfl rfl rfl rfl (fun _ => step_extract Sr rfl) ?_
 refine JX_step rfl rfl rfl rfl (fun _ => step_assign Sr) ?_
 refine JX_step rfl rfl rfl rfl (fun _ => step_assign Sr) ?_
 refine JX_nil (Jr (Ja rfl (JL_nil (J_seq (Jr ?_)))))
 refine Ja rfl (JL_nil (J_block ?_))
 refine J_loopL (σ := Nat × Value) (fun ⟨j, u⟩ => j ≤ (vioM rules (gsP ps)).length) (fun ⟨j, u⟩ => upd (upd (upd (upd (upd env0 0 (tAt b 0)) 2 (tV (.slice none 0 0))) 3 (tSl (rSl rInt) (vioM rules (gsP ps)))) 5 (rV.ty u)) 6 (tV (.int .i64 (j : Int)))) (fun ⟨j, u⟩ => [own 33 (rSl rInt) u (((vioM rules (gsP ps)).take j).map fun s => s.map (noP ps)), refO rules b ps c]) (fun ⟨j, u⟩ => (vioM rules (gsP ps)).length - j) (0, .slice none 0 0) (by exact Nat.zero_le _) (.u (SubE.upd (Sub.rV rfl) (zU))) (LSub.trans (LSub.nilown (e := 33) (R := rSl rInt)) zL) ?_
 rintro ⟨j, u⟩ hj
 try dsimp only at hj
 refine J_seq (Jr (Jm rfl (Jm rfl (Js rfl (step_len_sl underlying45 Sr) (Js rfl (step_lss Sr Sr) ?_)))))
 refine JL_nil ?_
 refine J_cond Sr (fun h24 => ?_) (fun h24 => ?_)
 ·
  try simp only [NF] at h24
  have hjt : j < (vioM rules (gsP ps)).length := by omega
  have hjm := vio_w hV (nth_mem hjt)
  have hjr := vio_InR hp hV (nth_mem hjt)
  have hvl := vio_len hV
  refine J_skip (J_seq (J_block (Jr (Ja rfl (JL_nil ?_)))))
  refine J_seq (Jr (Ja rfl (JL_nil (J_block ?_))))
  refine J_loopL (σ := Nat × Value) (fun ⟨k, z⟩ => k ≤ (nth (vioM rules (gsP ps)) j).length) (fun ⟨k, z⟩ => upd (upd (upd (upd (upd (upd (upd env0 0 (tAt b 0)) 2 (tV (.slice none 0 0))) 3 (tSl (rSl rInt) (vioM rules (gsP ps)))) 5 (rV.ty u)) 6 (tV (.int .i64 (j : Int)))) 7 (rV.ty z)) 8 (tV (.int .i64 (k : Int)))) (fun ⟨k, z⟩ => [own 3 rInt z (((nth (vioM rules (gsP ps)) j).take k).map (noP ps)), own 33 (rSl rInt) u (((vioM rules (gsP ps)).take j).map fun s => s.map (noP ps)), refO rules b ps c]) (fun ⟨k, z⟩ => (nth (vioM rules (gsP ps)) j).length - k) (0, .slice none 0 0) (by exact Nat.zero_le _) (.u (SubE.upd (Sub.rV rfl) (zU))) (LSub.trans (LSub.nilown (e := 3) (R := rInt)) zL) ?_
  rintro ⟨k, z⟩ hk
  try dsimp only at hk
  refine J_seq (Jr (Jm rfl (Jm rfl (Jm rfl ?_))))
  refine Js rfl (step_indexAddr_sl  underlying45 ty33 Sr Sr rfl (gb (by exact hjt))) ?_
  refine Jl rfl ty33 Sr (Js rfl (step_len_sl underlying33 Sr) (Js rfl (step_lss Sr Sr) (JL_nil ?_)))
  refine J_cond Sr (fun h33 => ?_) (fun h33 => ?_)
  ·
   try simp only [NF] at h33
   have hkt : k < (nth (vioM rules (gsP ps)) j).length := by omega
   have hkr := hjr _ (nth_mem hkt)
   refine J_skip (J_seq (J_block ?_))
   refine J_drawZ [refO rules b ps c] [⟨0, [7], 0⟩, ⟨1, [0], 0⟩, ⟨2, [37], 0⟩, ⟨3, [38], 0⟩, ⟨4, [39], 1⟩, ⟨5, [3], 0⟩, ⟨6, [6], 0⟩, ⟨7, [41, 42], 0⟩, ⟨8, [43], 0⟩, ⟨9, [8], 0⟩, ⟨10, [44, 45], 0⟩, ⟨11, [46], 0⟩, ⟨12, [40, 47], 0⟩, ⟨13, [48], 0⟩, ⟨14, [49], 0⟩] [⟨15, [36, 50], 51, own 3 rInt z (((nth (vioM rules (gsP ps)) j).take k).map (noP ps)), fun v => rV.ty v, fun v => own 3 rInt v (((nth (vioM rules (gsP ps)) j).take k).map (noP ps) ++ [nth (nsP ps) (nth (nth (vioM rules (gsP ps)) j) k).toNat])⟩] [⟨16, [51], 0⟩] (L := [own 33 (rSl rInt) u (((vioM rules (gsP ps)).take j).map fun s => s.map (noP ps))]) (zL) rfl (by kernel_rfl) (Nat.le_of_ble_eq_true rfl) ?_
   refine JF_step rfl rfl rfl rfl (fun _ => step_move Sr) ?_
   refine JF_step rfl rfl rfl rfl (fun _ => step_move Sr) ?_
   refine JF_step rfl rfl rfl rfl (fun _ => step_nilCheck Sr) ?_
   refine JF_step rfl rfl rfl rfl (fun _ => step_fieldAddr_own so43 Sr rfl) ?_
   refine JF_look rfl rfl rfl rfl (fun _ => step_load_fld ty33 Sr rfl zS) ?_
   refine JF_step rfl rfl rfl rfl (fun _ => step_move Sr) ?_
   refine JF_step rfl rfl rfl rfl (fun _ => step_move Sr) ?_
   refine JF_step rfl rfl rfl rfl (fun _ => step_indexAddr_sl  underlying45 ty33 Sr Sr rfl (gb (by exact hjt))) ?_
   refine JF_step rfl rfl rfl rfl (fun _ => step_load_ptr ty33 Sr) ?_
   refine JF_step rfl rfl rfl rfl (fun _ => step_move Sr) ?_
   refine JF_step rfl rfl rfl rfl (fun _ => step_indexAddr_sl  underlying33 ty3 Sr Sr rfl (gb (by exact hkt))) ?_
   refine JF_step rfl rfl rfl rfl (fun _ => step_load_ptr ty3 Sr) ?_
   refine JF_step rfl rfl rfl rfl (fun _ => step_indexAddr_sl (i := (nth (nth (vioM rules (gsP ps)) j) k).toNat) underlying33 ty3 Sr Sr (by show nth (nth (vioM rules (gsP ps)) j) k = _; omega) (gb (by show _ < (nsP ps).length; omega))) ?_
   refine JF_step rfl rfl rfl rfl (fun _ => step_load_ptr ty3 Sr) ?_
   refine JF_step rfl rfl rfl rfl (fun _ => step_literal (ys := [_]) underlying33 el3 ⟨rfl, Sr, trivial⟩ rfl (by decide)) ?_
   refine JF_nil ?_
   refine ⟨⟨_, rfl, rfl, rfl, rfl, fun _ => step_append underlying33 el3 Sr Sr zS (by simp; omega) (by simp; omega)⟩, fun v51 => ?_⟩
   refine upP_in ?_
   refine JX_step rfl rfl rfl rfl (fun _ => step_assign Sr) ?_
   refine JX_nil (J_region (Jm rfl (Js rfl (step_add Sr Sr z6) (Ja rfl (JL_nil ?_)))))
   refine K_againL (σ := Nat × Value) (s := (k, z)) (k + 1, v51) zO (by show k + 1 ≤ _; omega) (zU) (LSub.cons (A := own 3 rInt v51 (((nth (vioM rules (gsP ps)) j).take k).map (noP ps) ++ [nth (nsP ps) (nth (nth (vioM rules (gsP ps)) j) k).toNat])) zS (own_eq (by rw [takeV hkt, List.map_append]; rfl)) zL)
  try simp only [NF] at h33
  obtain rfl : k = (nth (vioM rules (gsP ps)) j).length := by omega
  refine J_exit ?_
  refine K_freeze (S := [own 3 rInt z (((nth (vioM rules (gsP ps)) j).take (nth (vioM rules (gsP ps)) j).length).map (noP ps))]) (t := 7) zS Frz.own ?_
  refine J_region (Jm rfl (Jm rfl ?_))
  refine Js rfl (step_literal (ys := [_]) underlying45 el33 ⟨rfl, Sr, trivial⟩ rfl (by decide)) ?_
  refine Jx rfl (step_append underlying45 el33 Sr Sr zS (by simp; omega) (by simp; omega)) fun v55 => ?_
  refine Ja rfl (JL_nil (J_region (Jm rfl (Js rfl (step_add Sr Sr z6) (Ja rfl ?_)))))
  refine JL_nil ?_
  refine K_againL (σ := Nat × Value) (s := (j, u)) (j + 1, v55) zO (by show j + 1 ≤ _; omega) (zU) (LSub.cons (A := own 33 (rSl rInt) v55 ((((vioM rules (gsP ps)).take j).map fun s => s.map (noP ps)) ++ [((nth (vioM rules (gsP ps)) j).take (nth (vioM rules (gsP ps)) j).length).map (noP ps)])) zS (own_eq (by rw [takeV hjt, List.map_append]; congr 1; simp [List.take_length])) zL)
 try simp only [NF] at h24
 obtain rfl : j = (vioM rules (gsP ps)).length := by omega
 refine J_exit (J_seq ?_)
 refine K_freeze (S := [own 33 (rSl rInt) u (((vioM rules (gsP ps)).take (vioM rules (gsP ps)).length).map fun s => s.map (noP ps))]) (t := 5) zS Frz.own ?_
 refine J_region (Jm rfl (Ja rfl (JL_nil (J_ret ?_))))
 refine K_retv (rv := .tmp 2) rfl () (.tmp Sr) (Sub.sl (by rw [List.take_length]; rfl))
open Go Go.Proofs Go.Proofs.Tryz
variable {H : Type} {enc : TypeId × Value → H} {W : World}
theorem rd3 : Rd enc Tryz.prog W 3 rInt := Rd.int ty3 Tryz.underlying3
theorem rd4 : Rd enc Tryz.prog W 4 rBool := Rd.bool ty4 Tryz.underlying4
theorem rd9 : Rd enc Tryz.prog W 9 rStr := Rd.str ty9 Tryz.underlying9
theorem rd33 : Rd enc Tryz.prog W 33 (rSl rInt) := Rd.sl ty33 Tryz.underlying33 rd3 (by decide)
theorem rd91 : Rd enc Tryz.prog W 91 rValue where
  k := ty91.cells W
  rd := fun fuel cs x h => by
    obtain ⟨hl, hf⟩ := readStruct so91 h
    obtain ⟨y0, h0⟩ := Rd.at (t := 91) (i := 0) hf rd3 rfl
    obtain ⟨y1, h1⟩ := Rd.at (t := 91) (i := 1) hf rd3 rfl
    obtain ⟨y2, h2⟩ := Rd.at (t := 91) (i := 2) hf rd9 rfl
    refine ⟨⟨y0, y1, y2⟩, SF.rel_of hl fun i f hi => ?_⟩
    match i, hi with
    | 0, hi => cases hi; exact h0
    | 1, hi => cases hi; exact h1
    | 2, hi => cases hi; exact h2
    | n + 3, hi => simp [fsValue] at hi
theorem rd32 : Rd enc Tryz.prog W 32 (rSl rValue) := Rd.sl ty32 Tryz.underlying32 rd91 (by decide)
theorem rd110 : Rd enc Tryz.prog W 110 rFixed where
  k := ty110.cells W
  rd := fun fuel cs x h => by
    obtain ⟨hl, hf⟩ := readStruct so110 h
    obtain ⟨y0, h0⟩ := Rd.at (t := 110) (i := 0) hf rd3 rfl
    obtain ⟨y1, h1⟩ := Rd.at (t := 110) (i := 1) hf rd91 rfl
    refine ⟨⟨y0, y1⟩, SF.rel_of hl fun i f hi => ?_⟩
    match i, hi with
    | 0, hi => cases hi; exact h0
    | 1, hi => cases hi; exact h1
    | n + 2, hi => simp [fsFixed] at hi
theorem rd56 : Rd enc Tryz.prog W 56 (rSl rFixed) := Rd.sl ty56 Tryz.underlying56 rd110 (by decide)
theorem rd105 : Rd enc Tryz.prog W 105 rSide where
  k := ty105.cells W
  rd := fun fuel cs x h => by
    obtain ⟨hl, hf⟩ := readStruct so105 h
    obtain ⟨y0, h0⟩ := Rd.at (t := 105) (i := 0) hf rd3 rfl
    obtain ⟨y1, h1⟩ := Rd.at (t := 105) (i := 1) hf rd3 rfl
    obtain ⟨y2, h2⟩ := Rd.at (t := 105) (i := 2) hf rd91 rfl
    refine ⟨⟨y0, y1, y2⟩, SF.rel_of hl fun i f hi => ?_⟩
    match i, hi with
    | 0, hi => cases hi; exact h0
    | 1, hi => cases hi; exact h1
    | 2, hi => cases hi; exact h2
    | n + 3, hi => simp [fsSide] at hi
theorem rd107 : Rd enc Tryz.prog W 107 rTest where
  k := ty107.cells W
  rd := fun fuel cs x h => by
    obtain ⟨hl, hf⟩ := readStruct so107 h
    obtain ⟨y0, h0⟩ := Rd.at (t := 107) (i := 0) hf rd105 rfl
    obtain ⟨y1, h1⟩ := Rd.at (t := 107) (i := 1) hf rd3 rfl
    obtain ⟨y2, h2⟩ := Rd.at (t := 107) (i := 2) hf rd105 rfl
    obtain ⟨y3, h3⟩ := Rd.at (t := 107) (i := 3) hf rd3 rfl
    refine ⟨⟨y0, y1, y2, y3⟩, SF.rel_of hl fun i f hi => ?_⟩
    match i, hi with
    | 0, hi => cases hi; exact h0
    | 1, hi => cases hi; exact h1
    | 2, hi => cases hi; exact h2
    | 3, hi => cases hi; exact h3
    | n + 4, hi => simp [fsTest] at hi
theorem rd57 : Rd enc Tryz.prog W 57 (rSl rTest) := Rd.sl ty57 Tryz.underlying57 rd107 (by decide)
theorem rd59 : Rd enc Tryz.prog W 59 rRule where
  k := ty59.cells W
  rd := fun fuel cs x h => by
    obtain ⟨hl, hf⟩ := readStruct so59 h
    obtain ⟨y0, h0⟩ := Rd.at (t := 59) (i := 0) hf rd3 rfl
    obtain ⟨y1, h1⟩ := Rd.at (t := 59) (i := 1) hf rd9 rfl
    obtain ⟨y2, h2⟩ := Rd.at (t := 59) (i := 2) hf rd3 rfl
    obtain ⟨y3, h3⟩ := Rd.at (t := 59) (i := 3) hf rd33 rfl
    obtain ⟨y4, h4⟩ := Rd.at (t := 59) (i := 4) hf rd3 rfl
    obtain ⟨y5, h5⟩ := Rd.at (t := 59) (i := 5) hf rd56 rfl
    obtain ⟨y6, h6⟩ := Rd.at (t := 59) (i := 6) hf rd3 rfl
    obtain ⟨y7, h7⟩ := Rd.at (t := 59) (i := 7) hf rd3 rfl
    obtain ⟨y8, h8⟩ := Rd.at (t := 59) (i := 8) hf rd33 rfl
    obtain ⟨y9, h9⟩ := Rd.at (t := 59) (i := 9) hf rd57 rfl
    refine ⟨⟨y0, y1, y2, y3, y4, y5, y6, y7, y8, y9⟩, SF.rel_of hl fun i f hi => ?_⟩
    match i, hi with
    | 0, hi => cases hi; exact h0
    | 1, hi => cases hi; exact h1
    | 2, hi => cases hi; exact h2
    | 3, hi => cases hi; exact h3
    | 4, hi => cases hi; exact h4
    | 5, hi => cases hi; exact h5
    | 6, hi => cases hi; exact h6
    | 7, hi => cases hi; exact h7
    | 8, hi => cases hi; exact h8
    | 9, hi => cases hi; exact h9
    | n + 10, hi => simp [fsRule] at hi
theorem rd22 : Rd enc Tryz.prog W 22 (rSl rRule) := Rd.sl ty22 Tryz.underlying22 rd59 (by decide)
theorem rd35 : Rd enc Tryz.prog W 35 rFact where
  k := ty35.cells W
  rd := fun fuel cs x h => by
    obtain ⟨hl, hf⟩ := readStruct so35 h
    obtain ⟨y0, h0⟩ := Rd.at (t := 35) (i := 0) hf rd3 rfl
    obtain ⟨y1, h1⟩ := Rd.at (t := 35) (i := 1) hf rd3 rfl
    obtain ⟨y2, h2⟩ := Rd.at (t := 35) (i := 2) hf rd3 rfl
    obtain ⟨y3, h3⟩ := Rd.at (t := 35) (i := 3) hf rd32 rfl
    obtain ⟨y4, h4⟩ := Rd.at (t := 35) (i := 4) hf rd3 rfl
    obtain ⟨y5, h5⟩ := Rd.at (t := 35) (i := 5) hf rd33 rfl
    refine ⟨⟨y0, y1, y2, y3, y4, y5⟩, SF.rel_of hl fun i f hi => ?_⟩
    match i, hi with
    | 0, hi => cases hi; exact h0
    | 1, hi => cases hi; exact h1
    | 2, hi => cases hi; exact h2
    | 3, hi => cases hi; exact h3
    | 4, hi => cases hi; exact h4
    | 5, hi => cases hi; exact h5
    | n + 6, hi => simp [fsFact] at hi
theorem rd37 : Rd enc Tryz.prog W 37 rOp where
  k := ty37.cells W
  rd := fun fuel cs x h => by
    obtain ⟨hl, hf⟩ := readStruct so37 h
    obtain ⟨y0, h0⟩ := Rd.at (t := 37) (i := 0) hf rd4 rfl
    obtain ⟨y1, h1⟩ := Rd.at (t := 37) (i := 1) hf rd3 rfl
    obtain ⟨y2, h2⟩ := Rd.at (t := 37) (i := 2) hf rd35 rfl
    refine ⟨⟨y0, y1, y2⟩, SF.rel_of hl fun i f hi => ?_⟩
    match i, hi with
    | 0, hi => cases hi; exact h0
    | 1, hi => cases hi; exact h1
    | 2, hi => cases hi; exact h2
    | n + 3, hi => simp [fsOp] at hi
theorem rd23 : Rd enc Tryz.prog W 23 (rSl rOp) := Rd.sl ty23 Tryz.underlying23 rd37 (by decide)
open Go Go.Proofs Go.Proofs.Tryz
theorem run_true {P : Program} {f : Nat} {As : List Ty} {vs : List Value} {W : World} (sp : Fun1 P f As (tV (.bool true))) (hi : Inv (wholeH W)) (ha : Args (wholeH W) As vs) :
    Calls P f vs.toArray W fun e W' => e = .returned (.bool true) ∧ Go.RowKit.Below W.heap.size W W' := by
  have hc := sp vs (wholeH W) PH.emp PH.emp W ha ⟨hi, PH.disj_emp _, PH.disj_emp _, PH.disj_emp _, wholeH_inw W, (fun b o e => by cases e), fun b o e => by cases e⟩ rfl
  refine hc.mono ?_
  rintro e W' ⟨x, v, h', m', rfl, l, s, _, hv⟩
  have hv : v = .bool true := hv
  subst hv
  exact ⟨rfl, below_of l.1 s.hw l.2⟩
section
variable {H : Type} {enc : TypeId × Value → H} {P : Program} {W : World} {base : Nat}
theorem arg_sl {α : Type} {t e : Nat} {R : Rp α} {v : Value} {d : DataW H} {p : List MemPlace} (hu : P.underlying t = some (.slice e)) (hR : Rd enc P W t (rSl R)) (hok : Value.okWide P W .any base t v) (h : DataW.Trod enc P W 0 (fun _ => true) true t v d p) :
    ∃ xs, (tSl R xs).p (wholeH W) v := by
  obtain ⟨a, len, cap, rfl⟩ := Go.WideShapes.okWide_slice hu hok
  obtain ⟨fuel, h⟩ := h
  obtain ⟨xs, u, e1, e2⟩ := hR.rd _ _ _ h
  have : Value.slice a len cap = u := by
    have := (List.cons.inj e1).1
    exact this
  exact ⟨xs, this ▸ e2⟩
theorem sl_len {α : Type} {t e : Nat} {R : Rp α} (hu : P.underlying t = some (.slice e)) {fuel : Nat} {cs : List Value} {x : DataW H × List MemPlace} (h : DataW.trod enc P W 0 (fun _ => true) true fuel t cs = some x) {xs : List α} (r : (rSl R).rel (wholeH W) xs cs) :
    xs.length ≤ 9223372036854775807 ∧ (x.1 = .nil ∧ xs = [] ∨ ∃ el rest, x.1 = .slice el rest ∧ el.length = xs.length) := by
  obtain ⟨u, e1, ao, cap, e2, _⟩ := r
  subst e1; subst e2
  rcases DataW.trod_slice hu h with ⟨h1, h2⟩ | ⟨a, len, cap', elems, rest, n, _, h1, h2, _, hlc, hm, hlen, _⟩
  · have h3 := (Value.slice.inj (List.cons.inj h1).1).2.1
    have h4 : xs = [] := List.eq_nil_of_length_eq_zero h3
    subst h4
    exact ⟨by simp, .inl ⟨by rw [h2], rfl⟩⟩
  · have h3 := (Value.slice.inj (List.cons.inj h1).1).2.1
    refine ⟨?_, .inr ⟨elems.map (·.1), rest.map (·.1), by rw [h2], by rw [List.length_map]; omega⟩⟩
    have : maxLen = 9223372036854775807 := by decide
    omega
/-- A slice that is handed in, and how long what was read is. -/
theorem arg_slL {α : Type} {t e : Nat} {R : Rp α} {v : Value} {d : DataW H} {p : List MemPlace} (hu : P.underlying t = some (.slice e)) (hR : Rd enc P W t (rSl R)) (hok : Value.okWide P W .any base t v) (h : DataW.Trod enc P W 0 (fun _ => true) true t v d p) :
    ∃ xs, (tSl R xs).p (wholeH W) v ∧ (d = .nil ∧ xs = [] ∨ ∃ el rest, d = .slice el rest ∧ el.length = xs.length) := by
  obtain ⟨a, len, cap, rfl⟩ := Go.WideShapes.okWide_slice hu hok
  obtain ⟨fuel, h⟩ := h
  obtain ⟨xs, hr⟩ := hR.rd _ _ _ h
  have hl := (sl_len hu h hr).2
  obtain ⟨u, e1, e2⟩ := hr
  have : Value.slice a len cap = u := (List.cons.inj e1).1
  exact ⟨xs, this ▸ e2, hl⟩
/-- A struct that is handed in. -/
theorem arg_st {α : Type} {t : Nat} {R : Rp α} {v : Value} {d : DataW H} {p : List MemPlace} (hR : Rd enc P W t R) (hg : R.agg = true) (hk : R.k ≠ 1) (h : DataW.Trod enc P W 0 (fun _ => true) true t v d p) :
    ∃ x, (R.ty x).p (wholeH W) v := by
  obtain ⟨fuel, h⟩ := h
  obtain ⟨x, r⟩ := hR.rd _ _ _ h
  refine ⟨x, R.iff.2 ⟨_, r, ?_⟩⟩
  have hl := R.len r
  unfold packV
  rw [hg]
  cases v with
  | agg cs => simp [Value.cells]
  | _ => simp [Value.cells] at hl; exact absurd hl.symm hk
theorem arg_str {t : Nat} {v : Value} {d : DataW H} {p : List MemPlace} (hu : P.underlying t = some .string) (hok : Value.okWide P W .any base t v) (h : DataW.Trod enc P W 0 (fun _ => true) true t v d p) :
    ∃ x : ByteArray, (tV (.string x)).p (wholeH W) v := by
  obtain ⟨x, rfl⟩ := Go.WideShapes.okWide_string hu hok
  exact ⟨x, rfl⟩
end
theorem arg_int {H : Type} {enc : TypeId × Value → H} {P : Program} {W : World} {base : Nat} {t : Nat} {v : Value} {d : DataW H} {p : List MemPlace} (hu : P.underlying t = some (.int .i64)) (hok : Value.okWide P W .any base t v) (h : DataW.Trod enc P W 0 (fun _ => true) true t v d p) :
    ∃ n : Int, (tV (.int .i64 n)).p (wholeH W) v := by
  obtain ⟨n, rfl⟩ := Go.WideShapes.okWide_int hu hok
  exact ⟨n, rfl⟩
theorem inv_of {W : World} (h : Lib.TabIs Tryz.prog W "internal/strconv.uint64pow10" .u64 Lib.pow10Tab) : Inv (wholeH W) := by
  have hg : Tryz.prog.globalNamed "internal/strconv.uint64pow10" = some tabG := by kernel_rfl
  unfold Lib.TabIs World.var? at h
  rw [hg] at h
  simp only [Option.bind_some] at h
  unfold Inv wholeH
  cases hb : W.heap[tabG]? with
  | none => rw [hb] at h; cases h
  | some o =>
    rw [hb] at h
    cases o with
    | cells cs e fz => exact ⟨e, fz, by injection h with h; rw [h]; rfl⟩
    | _ => cases h
end Lg
namespace Go.Proofs.YtabonjploobnnaaGreatDoor
open Go.ChangeShapes Go.WideShapes Go.ChangeAt Go.RowKit
theorem own : ownKnob Tryz.prog.godebug = none := by kernel_rfl
theorem laidOut : laidOutB Tryz.prog = true := by kernel_rfl
theorem size22 : (22 : Nat) < Tryz.prog.types.size := of_decide_eq_true (by kernel_rfl)
theorem rec22 : Tryz.prog.readableRec 22 = true := by kernel_rfl
theorem want22 : Tryz.prog.wantsStandIn 22 = false := by kernel_rfl
theorem size23 : (23 : Nat) < Tryz.prog.types.size := of_decide_eq_true (by kernel_rfl)
theorem rec23 : Tryz.prog.readableRec 23 = true := by kernel_rfl
theorem want23 : Tryz.prog.wantsStandIn 23 = false := by kernel_rfl
theorem size3 : (3 : Nat) < Tryz.prog.types.size := of_decide_eq_true (by kernel_rfl)
theorem rec3 : Tryz.prog.readableRec 3 = true := by kernel_rfl
theorem want3 : Tryz.prog.wantsStandIn 3 = false := by kernel_rfl
theorem size5 : (5 : Nat) < Tryz.prog.types.size := of_decide_eq_true (by kernel_rfl)
theorem rec5 : Tryz.prog.readableRec 5 = true := by kernel_rfl
theorem want5 : Tryz.prog.wantsStandIn 5 = false := by kernel_rfl
theorem size35 : (35 : Nat) < Tryz.prog.types.size := of_decide_eq_true (by kernel_rfl)
theorem rec35 : Tryz.prog.readableRec 35 = true := by kernel_rfl
theorem want35 : Tryz.prog.wantsStandIn 35 = false := by kernel_rfl
/-- What the rows list. -/
abbrev laidL : List (String × DataW Unit) := [("math/bits.deBruijn32tab", Rows.laid_math_bits_deBruijn32tab), ("math/bits.deBruijn64tab", Rows.laid_math_bits_deBruijn64tab), ("internal/strconv.uint64pow10", Rows.laid_internal_strconv_uint64pow10)]
noncomputable def laidWorld (os : Os) : World := World.laidAll Tryz.prog os laidL
theorem tab_of {W : World} (h : laidMet Tryz.prog laidL W) : Lib.TabIs Tryz.prog W "internal/strconv.uint64pow10" .u64 Lib.pow10Tab :=
  Lib.tabIs_of_head (g := Lg.tabG) (t := 249) (e := 146) (n := 20) (rest := []) (by kernel_rfl) (by kernel_rfl) Tryz.underlying249 Tryz.underlying146 (by kernel_rfl) (by kernel_rfl) h.tail.tail
theorem noLooks : true = Tryz.pinned.checked.prog.looks [] := by kernel_rfl
end Go.Proofs.YtabonjploobnnaaGreatDoor
