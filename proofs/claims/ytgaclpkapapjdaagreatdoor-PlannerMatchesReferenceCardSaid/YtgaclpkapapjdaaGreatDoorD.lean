/- A part of the proof of the law PlannerMatchesReference: contracts of functions that the law reaches, and facts about what they compute. -/
import Derived.Test.YtgaclpkapapjdaaGreatDoorC
set_option linter.unusedVariables false
set_option linter.unusedSimpArgs false
set_option linter.unusedSectionVars false
set_option maxHeartbeats 16000000
namespace Lg
open Go
section
variable {C : Cx} {ops : Array Oper} {F : List SP} {k k' : Env -> List SP -> Prop}
theorem pR {its' : List It3} : ∀ {its : List It3} {E : Env} {L : List SP}, JF C ops F (JF C ops F k its') its E L -> JF C ops F k (its ++ its') E L
 | [], _, _, h => h
 | x :: its, E, L, ⟨o, A, h1, h2, h3, h4⟩ => ⟨o, A, h1, h2, h3, pR h4⟩
end
def CC (ops : List Oper) (frees : List It3) (als : List Al2) (tail : List It3) : Bool :=
 let pls := (frees ++ tail).map (cp ops)
 du pls && (pls.all fun p => p.aft.all (Nat.blt · p.i)) && ((frees ++ tail).all fun x => Nat.blt x.i ops.length) && (frees.all fun x => Nat.ble x.c 1) && jI als && als.all (hZ ops frees tail)
def AZ (ops : List Oper) (frees : List It3) (a1 : Al2) (po : List It3) (als : List Al2) (tail : List It3) : Bool :=
 CC ops (frees ++ po) als tail && hZ ops frees tail a1 && (als.all fun b => l5 a1 b) && (po.all fun x => memN a1.i (cv ops x.i) && !Nat.beq a1.i x.i) && (List.range ops.length).all (fun i => ((frees ++ po ++ tail).any fun x => Nat.beq i x.i) || als.any (fun a => Nat.beq i a.i) || Nat.beq i a1.i)
theorem vf {C : Cx} {ops : Array Oper} {F : List SP} {Q : Exit -> Act -> World -> Prop} {tail po : List It3} {a1 : Al2} : ∀ (fuel : Nat) (frees : List It3) (als : List Al2) (listed : Array Bool) (E : Env) (L : List SP), frees.length + 1 + po.length + als.length + tail.length <= fuel -> listed.size = ops.size ->
  (∀ i, i < ops.size -> (listed.getD i true = false ↔ (∃ x ∈ frees ++ po ++ tail, x.i = i) \/ (∃ a ∈ als, a.i = i) \/ a1.i = i)) -> du ((frees ++ po ++ tail).map (cp ops.toList)) = true -> (∀ x ∈ frees ++ po ++ tail, x.i < ops.size /\ ∀ e ∈ cv ops.toList x.i, e < x.i) -> (∀ x ∈ frees ++ po, x.c <= 1) -> jI als = true -> (∀ a ∈ als, hZ ops.toList (frees ++ po) tail a = true) ->
  hZ ops.toList frees tail a1 = true -> (∀ b ∈ als, l5 a1 b = true) -> (∀ x ∈ po, a1.i ∈ cv ops.toList x.i /\ x.i ≠ a1.i) ->
  JF C ops F (Als2 C ops (JF C ops F (Als2 C ops (upP fun E' L' => JX C ops (fun E' L' => K C (Q .normal) E' L') tail E' (F ++ L')) als) po) [a1]) frees E L -> K C (fun a w => wpAnyIn (Fw C.ro) 0 C.P .any ops Q fuel listed a w) E (F ++ (a1.I :: als.map (·.I) ++ L)) := by
 intro fuel
 induction fuel with
 | zero => intro frees als listed E L hlen; omega
 | succ fuel ih =>
   intro frees als listed E L hlen hsz hin hok hlt hc hi hal h1ok h1ind hpo hJ
   have h1ok' := h1ok
   simp only [hZ, Bool.and_eq_true, List.all_eq_true] at h1ok'
   have h1lt : a1.i < ops.size := by simpa using h1ok'.1.1.2
   have h1aft : ∀ e ∈ cv ops.toList a1.i, e < a1.i := fun e he => by simpa using h1ok'.1.1.1 e he
   have hall : ∀ a ∈ als, a.i < ops.size /\ ∀ e ∈ cv ops.toList a.i, e < a.i := fun a ha => by
    have := hal a ha
    simp only [hZ, Bool.and_eq_true, List.all_eq_true] at this
    exact ⟨by simpa using this.1.1.2, fun e he => by simpa using this.1.1.1 e he⟩
   intro a w p
   refine ⟨fun hr => ?_, fun i hii => ?_⟩
   · exfalso
     have hall2 : ∀ i, i < ops.size -> listed.getD i true = true := by
      intro i
      induction i using Nat.strongRecOn with
      | _ i ihi =>
        intro hilt
        cases hl : listed.getD i true with
        | true => rfl
        | false =>
          have ho : ops[i]? = some ops[i] := Array.getElem?_eq_getElem hilt
          have h1 : ∀ e ∈ cv ops.toList i, e < i := by
           rcases (hin i hilt).1 hl with ⟨x, hx, hxi⟩ | ⟨x, hx, hxi⟩ | hxi
           · have := (hlt x hx).2; rwa [hxi] at this
           · have := (hall x hx).2; rwa [hxi] at this
           · have := h1aft; rwa [hxi] at this
          have hm : i ∈ Region.ready .any ops listed := dt.2 ⟨hilt, hl, _, ho, fun e he => by
           have he' : e < i := h1 e (by simpa [cv, hilt] using he)
           rw [eQ (by omega) false true]
           exact ihi e he' (by omega)⟩
          rw [hr] at hm; cases hm
     have := (hin a1.i h1lt).2 (.inr (.inr rfl))
     rw [hall2 a1.i h1lt] at this; cases this
   · obtain ⟨hlti, hnl, o, ho, haft⟩ := dt.1 hii
     have haft' : cv ops.toList i = aftN o := by
      have : ops.toList[i]? = some o := by simpa using ho
      simp only [cv, this]
     have hno : ∀ j, j < ops.size -> listed.getD j true = false -> j ∉ cv ops.toList i := fun j hj hl hm => by
      rw [haft'] at hm
      have h1 := haft _ hm
      rw [eQ (by omega) true false, h1] at hl; cases hl
     have hno1 : a1.i ∉ cv ops.toList i := hno a1.i h1lt ((hin a1.i h1lt).2 (.inr (.inr rfl)))
     rcases (hin i hlti).1 hnl with ⟨b, hb, hbi⟩ | ⟨b, hb, hbi⟩ | hbi
     · rcases List.mem_append.1 hb with hb | hb
       · rcases List.mem_append.1 hb with hb | hb
         · -- a free one
           obtain ⟨l1, l2, rfl⟩ := List.append_of_mem hb
           have hmap : (l1 ++ b :: l2 ++ po ++ tail).map (cp ops.toList) = l1.map (cp ops.toList) ++ cp ops.toList b :: (l2 ++ po ++ tail).map (cp ops.toList) := by simp
           have hpair : ∀ x ∈ l1, cX (cp ops.toList x) (cp ops.toList b) = true := fun x hx => fJ (hmap ▸ hok) _ (List.mem_map_of_mem hx)
           have hleft : ∀ x ∈ l1, x.i ∉ cv ops.toList b.i := fun x hx => by
            rw [hbi]; exact hno x.i (hlt x (by simp [hx])).1 ((hin x.i (hlt x (by simp [hx])).1).2 (.inl ⟨x, by simp [hx], rfl⟩))
           have hne := ve (ops := ops.toList) (l1 := l1) (b := b) (l2 := l2 ++ po ++ tail) (by simpa using hok)
           have hJ' := ru hpair hleft hJ
           obtain ⟨o', A, ho2, hl, hs, hk⟩ := hJ'
           subst hbi
           have hna : ∀ x ∈ als, x.i ≠ b.i := fun x hx e => by
            have := hal x hx
            simp only [hZ, Bool.and_eq_true, List.all_eq_true] at this
            have := (this.1.2 b (by simp)).2
            rw [e] at this; simp at this
           have hn1 : a1.i ≠ b.i := fun e => by
            have := (h1ok'.1.2 b (by simp)).2
            rw [e] at this; simp at this
           have hs' : StepG C ops o' (cQ b.ts E) (F ++ (a1.I :: als.map (·.I) ++ L)) A := by
            match e : b.c with
            | 0 => have := hs (F ++ (a1.I :: als.map (·.I) ++ L)); rw [e] at this; exact this
            | c + 1 => have := hs (a1.I :: als.map (·.I) ++ L); rw [e] at this; exact this
           refine hs'.op ho2 hl ?_ a w p
           refine ih (l1 ++ l2) als _ _ L (by simp only [List.length_append, List.length_cons] at hlen ⊢; omega) (by simpa using hsz) (fun j hj => ?_) ?_ (fun x hx => hlt x ?_) (fun x hx => hc x ?_) hi (fun x hx => ?_) ?_ h1ind hpo hk
           · by_cases hji : b.i = j
             · subst hji
               rw [de (by omega)]
               constructor
               · intro h; cases h
               · rintro (⟨x, hx, e⟩ | ⟨x, hx, e⟩ | e)
                 · exact absurd e (hne x (by simpa [List.append_assoc] using hx))
                 · exact absurd e (hna x hx)
                 · exact absurd e hn1
             · rw [dS hji, hin j hj]
               constructor
               · rintro (⟨x, hx, e⟩ | h)
                 · refine .inl ⟨x, ?_, e⟩
                   simp only [List.mem_append, List.mem_cons] at hx ⊢
                   rcases hx with ((hx | rfl | hx) | hx) | hx
                   · exact .inl (.inl (.inl hx))
                   · exact absurd e hji
                   · exact .inl (.inl (.inr hx))
                   · exact .inl (.inr hx)
                   · exact .inr hx
                 · exact .inr h
               · rintro (⟨x, hx, e⟩ | h)
                 · refine .inl ⟨x, ?_, e⟩
                   simp only [List.mem_append, List.mem_cons] at hx ⊢
                   rcases hx with ((hx | hx) | hx) | hx
                   · exact .inl (.inl (.inl hx))
                   · exact .inl (.inl (.inr (.inr hx)))
                   · exact .inl (.inr hx)
                   · exact .inr hx
                 · exact .inr h
           · have h3 := iG (hmap ▸ hok) (fun x hx => (List.mem_map.1 hx).elim fun y hy => hy.2 ▸ hc y (by simp [hy.1])) (fun x hx => (List.mem_map.1 hx).elim fun y hy => hy.2 ▸ hleft y hy.1)
             simpa using h3
           · simp only [List.mem_append, List.mem_cons] at hx ⊢
             rcases hx with ((hx | hx) | hx) | hx
             · exact .inl (.inl (.inl hx))
             · exact .inl (.inl (.inr (.inr hx)))
             · exact .inl (.inr hx)
             · exact .inr hx
           · simp only [List.mem_append, List.mem_cons] at hx ⊢
             rcases hx with (hx | hx) | hx
             · exact .inl (.inl hx)
             · exact .inl (.inr (.inr hx))
             · exact .inr hx
           · have := hal x hx
             simp only [hZ, Bool.and_eq_true, List.all_eq_true] at this ⊢
             refine ⟨⟨this.1.1, fun y hy => this.1.2 y ?_⟩, this.2⟩
             simp only [List.mem_append, List.mem_cons] at hy ⊢
             rcases hy with (hy | hy) | hy
             · exact .inl (.inl hy)
             · exact .inl (.inr (.inr hy))
             · exact .inr hy
           · simp only [hZ, Bool.and_eq_true, List.all_eq_true]
             refine ⟨⟨h1ok'.1.1, fun y hy => ?_⟩, h1ok'.2⟩
             have := h1ok'.1.2 y (by rcases List.mem_append.1 hy with hy | hy <;> simp [hy])
             simpa only [Bool.and_eq_true] using this
         · -- one behind a1 cannot come yet
           exfalso
           have := (hpo b hb).1
           rw [hbi] at this
           exact hno1 this
       · -- one of the rest cannot come yet
         exfalso
         have := (h1ok'.2 b hb).2
         rw [hbi] at this
         simp only [Bool.or_eq_true, List.any_eq_true] at this
         rcases this with q | ⟨r, hr, y, hy, e⟩
         · exact hno1 (dC.1 q)
         · have e := Nat.eq_of_beq_eq_true e
           subst e
           have hyl := (hlt y (by simp [hy])).1
           exact hno y.i hyl ((hin y.i hyl).2 (.inl ⟨y, by simp [hy], rfl⟩)) hr
     · -- another change
       have hbo := hal b hb
       simp only [hZ, Bool.and_eq_true, List.all_eq_true] at hbo
       obtain ⟨l1, l2, hl12⟩ := List.append_of_mem hb
       have hi' := hi
       rw [hl12] at hi'
       obtain ⟨hi2, hne, hpA⟩ := ky hi'
       have hlayc : ∀ x ∈ frees ++ po, memN b.d x.ts = false /\ inO (dV ops.toList x.i) b.ts = false /\ eqO (some b.d) (dV ops.toList x.i) = false := fun x hx => by
        have hq := hbo.1.2 x hx
        simp only [Bool.and_eq_true, Bool.or_eq_true, Bool.not_eq_true'] at hq
        refine ⟨hq.1.1.1, ?_, hq.1.2⟩
        rcases hq.1.1.2 with q | q
        · exfalso
          have hxm : x ∈ frees ++ po ++ tail := List.mem_append_left _ hx
          have hxl := (hlt x hxm).1
          rw [hbi] at q
          exact hno x.i hxl ((hin x.i hxl).2 (.inl ⟨x, hxm, rfl⟩)) (dC.1 q)
        · exact q
       obtain ⟨hAl, hnext⟩ := pP (C := C) (ops := ops) (F := F) (b := b) (k' := Als2 C ops (JF C ops F (Als2 C ops (upP fun E' L' => JX C ops (fun E' L' => K C (Q .normal) E' L') tail E' (F ++ L')) (l1 ++ l2)) po) [a1]) (its := frees) (fun x hx => hlayc x (List.mem_append_left _ hx)) (fun E L h => by
        obtain ⟨g1, g2⟩ := h
        have hab := h1ind b hb
        simp only [l5, Bool.and_eq_true, Bool.not_eq_true'] at hab
        obtain ⟨⟨⟨p1, p2⟩, p3⟩, p4⟩ := hab
        have p4 : a1.d ≠ b.d := fun e => by rw [e] at p4; simp at p4
        have hin2 : ∀ v, AlOk2 C ops (upd E a1.d (a1.A v)) b /\ ∀ u, JF C ops F (Als2 C ops (upP fun E' L' => JX C ops (fun E' L' => K C (Q .normal) E' L') tail E' (F ++ L')) (l1 ++ l2)) po (upd (upd E a1.d (a1.A v)) b.d (b.A u)) (b.M u :: a1.M v :: L) := fun v =>
         pP (fun x hx => hlayc x (List.mem_append_right _ hx)) (fun E L h => by rw [hl12] at h; exact Ej ol hpA h) (g2 v)
        refine ⟨(AlOk2.same p2).1 (hin2 default).1, fun u => ⟨(AlOk2.same p3).2 g1, fun v => ?_⟩⟩
        have := (hin2 v).2 u
        rw [sz p4] at this
        exact sA (k := Als2 C ops (upP fun E' L' => JX C ops (fun E' L' => K C (Q .normal) E' L') tail E' (F ++ L')) (l1 ++ l2)) (fun E L L' p h => Ei ol p h) _ _ _ (List.Perm.swap _ _ _) this) hJ
       obtain ⟨ob, q1, q2, q3, q4, q5⟩ := hAl
       rw [hbi, ho] at q1
       cases q1
       have hperm : (F ++ (a1.I :: als.map (·.I) ++ L)).Perm (b.I :: (F ++ (a1.I :: (l1 ++ l2).map (·.I) ++ L))) := by
        rw [hl12]
        have e1 : F ++ (a1.I :: (l1 ++ b :: l2).map (·.I) ++ L) = (F ++ a1.I :: l1.map (·.I)) ++ b.I :: (l2.map (·.I) ++ L) := by simp
        have e2 : F ++ (a1.I :: (l1 ++ l2).map (·.I) ++ L) = (F ++ a1.I :: l1.map (·.I)) ++ (l2.map (·.I) ++ L) := by simp
        rw [e1, e2]
        exact List.perm_middle
       obtain ⟨n, ds, h, m, l, sp, st, fr⟩ := p.lsub (DU hperm)
       have hwt : Region.wanted o (yielded ops a.tmps) = true := by simp [Region.wanted, q4]
       unfold wpOpIn
       simp only [ho]
       rw [if_pos hwt]
       refine q5 (F ++ (a1.I :: (l1 ++ l2).map (·.I) ++ L)) a w h m n l sp st (fr.sub eS) _ Q fun v v' w' h' m' l' sp' st' hv => ?_
       have hrest := ih frees (l1 ++ l2) (listed.setIfInBounds i true) (upd E b.d (b.A v)) (b.M v :: L) (by rw [hl12] at hlen; simp only [List.length_append, List.length_cons] at hlen ⊢; omega) (by simpa using hsz) (fun j hj => ?_) hok hlt hc hi2 (fun x hx => hal x (by
        rw [hl12]
        rcases List.mem_append.1 hx with hx | hx <;> simp [hx])) h1ok (fun x hx => h1ind x (by
        rw [hl12]
        rcases List.mem_append.1 hx with hx | hx <;> simp [hx])) hpo (hnext v)
       · have hperm2 : (b.M v :: (F ++ (a1.I :: (l1 ++ l2).map (·.I) ++ L))).Perm (F ++ (a1.I :: (l1 ++ l2).map (·.I) ++ b.M v :: L)) := by
           have e1 : F ++ (a1.I :: (l1 ++ l2).map (·.I) ++ b.M v :: L) = (F ++ a1.I :: (l1 ++ l2).map (·.I)) ++ b.M v :: L := by simp
           have e2 : b.M v :: (F ++ (a1.I :: (l1 ++ l2).map (·.I) ++ L)) = b.M v :: ((F ++ a1.I :: (l1 ++ l2).map (·.I)) ++ L) := by simp
           rw [e1, e2]
           exact List.perm_middle.symm
         have hpre : Pre C (ll E o.dst (b.A v)) (b.M v :: (F ++ (a1.I :: (l1 ++ l2).map (·.I) ++ L))) (a.put o.dst v') w' :=
          ⟨by rw [iA]; exact n, by rw [fB]; exact ds, h', m', HL.trans l l', sp', st', (fr.mono l'.1).putO (by rw [n, q2]; exact q3) hv⟩
         have hpre2 := hpre.lsub (DU hperm2)
         rw [q2] at hpre2 ⊢
         exact hrest _ _ hpre2
       · by_cases hji : i = j
         · subst hji
           rw [de (by omega)]
           constructor
           · intro h; cases h
           · rintro (⟨x, hx, e⟩ | ⟨x, hx, e⟩ | e)
             · exfalso
               rcases List.mem_append.1 hx with hx | hx
               · have := (hbo.1.2 x hx).2
                 rw [hbi, e] at this; simp at this
               · have := (hbo.2 x hx).1
                 rw [hbi, e] at this; simp at this
             · exact absurd (e.trans hbi.symm) (hne x hx)
             · exfalso
               have hab := h1ind b hb
               simp only [l5, Bool.and_eq_true, Bool.not_eq_true'] at hab
               have := hab.1.1.1
               rw [e, hbi] at this; simp at this
         · rw [dS hji, hin j hj, hl12]
           constructor
           · rintro (h | ⟨x, hx, e⟩ | h)
             · exact .inl h
             · rcases List.mem_append.1 hx with hx | hx
               · exact .inr (.inl ⟨x, by simp [hx], e⟩)
               · rcases List.mem_cons.1 hx with rfl | hx
                 · exact absurd (hbi.symm.trans e) hji
                 · exact .inr (.inl ⟨x, by simp [hx], e⟩)
             · exact .inr (.inr h)
           · rintro (h | ⟨x, hx, e⟩ | h)
             · exact .inl h
             · refine .inr (.inl ⟨x, ?_, e⟩)
               rcases List.mem_append.1 hx with hx | hx <;> simp [hx]
             · exact .inr (.inr h)
     · -- a1 itself
       obtain ⟨hAl, hnext⟩ := pP (C := C) (ops := ops) (F := F) (b := a1) (k' := JF C ops F (Als2 C ops (upP fun E' L' => JX C ops (fun E' L' => K C (Q .normal) E' L') tail E' (F ++ L')) als) po) (its := frees) (fun x hx => by
        have hq := h1ok'.1.2 x hx
        simp only [Bool.and_eq_true, Bool.or_eq_true, Bool.not_eq_true'] at hq
        refine ⟨hq.1.1.1, ?_, hq.1.2⟩
        rcases hq.1.1.2 with q | q
        · exfalso
          have hxl := (hlt x (by simp [hx])).1
          rw [hbi] at q
          exact hno x.i hxl ((hin x.i hxl).2 (.inl ⟨x, by simp [hx], rfl⟩)) (dC.1 q)
        · exact q) (fun E L h => h) hJ
       obtain ⟨ob, q1, q2, q3, q4, q5⟩ := hAl
       rw [hbi, ho] at q1
       cases q1
       have hperm : (F ++ (a1.I :: als.map (·.I) ++ L)).Perm (a1.I :: (F ++ (als.map (·.I) ++ L))) := by
        have e1 : F ++ (a1.I :: als.map (·.I) ++ L) = F ++ a1.I :: (als.map (·.I) ++ L) := by simp
        rw [e1]; exact List.perm_middle
       obtain ⟨n, ds, h, m, l, sp, st, fr⟩ := p.lsub (DU hperm)
       have hwt : Region.wanted o (yielded ops a.tmps) = true := by simp [Region.wanted, q4]
       unfold wpOpIn
       simp only [ho]
       rw [if_pos hwt]
       refine q5 (F ++ (als.map (·.I) ++ L)) a w h m n l sp st (fr.sub eS) _ Q fun v v' w' h' m' l' sp' st' hv => ?_
       have hn1f : ∀ x ∈ frees ++ po ++ tail, x.i ≠ a1.i := fun x hx e => by
        rcases List.mem_append.1 hx with hx | hx
        · rcases List.mem_append.1 hx with hx | hx
          · have := (h1ok'.1.2 x hx).2
            rw [e] at this; simp at this
          · exact (hpo x hx).2 e
        · have := (h1ok'.2 x hx).1
          rw [e] at this; simp at this
       have hn1a : ∀ b ∈ als, b.i ≠ a1.i := fun b hb e => by
        have hab := h1ind b hb
        simp only [l5, Bool.and_eq_true, Bool.not_eq_true'] at hab
        have := hab.1.1.1
        rw [e] at this; simp at this
       have hrest := sB fuel (frees ++ po) als (listed.setIfInBounds i true) (upd E a1.d (a1.A v)) (a1.M v :: L) (by simp only [List.length_append] at hlen ⊢; omega) (by simpa using hsz) (fun j hj => ?_) hok hlt hc hi hal (pR (hnext v))
       · have hperm2 : (a1.M v :: (F ++ (als.map (·.I) ++ L))).Perm (F ++ (als.map (·.I) ++ a1.M v :: L)) := by
           have e1 : F ++ (als.map (·.I) ++ a1.M v :: L) = (F ++ als.map (·.I)) ++ a1.M v :: L := by simp
           have e2 : a1.M v :: (F ++ (als.map (·.I) ++ L)) = a1.M v :: ((F ++ als.map (·.I)) ++ L) := by simp
           rw [e1, e2]
           exact List.perm_middle.symm
         have hpre : Pre C (ll E o.dst (a1.A v)) (a1.M v :: (F ++ (als.map (·.I) ++ L))) (a.put o.dst v') w' :=
          ⟨by rw [iA]; exact n, by rw [fB]; exact ds, h', m', HL.trans l l', sp', st', (fr.mono l'.1).putO (by rw [n, q2]; exact q3) hv⟩
         have hpre2 := hpre.lsub (DU hperm2)
         rw [q2] at hpre2 ⊢
         exact hrest _ _ hpre2
       · by_cases hji : i = j
         · subst hji
           rw [de (by omega)]
           constructor
           · intro h; cases h
           · rintro (⟨x, hx, e⟩ | ⟨x, hx, e⟩)
             · exact absurd (e.trans hbi.symm) (hn1f x hx)
             · exact absurd (e.trans hbi.symm) (hn1a x hx)
         · rw [dS hji, hin j hj]
           constructor
           · rintro (h | h | h)
             · exact .inl h
             · exact .inr h
             · exact absurd (hbi.symm.trans h) hji
           · rintro (h | h)
             · exact .inl h
             · exact .inr (.inl h)
theorem xK {C : Cx} {id : Nat} {ops : Array Oper} (F : List SP) (frees : List It3) (a1 : Al2) (po : List It3) (als : List Al2) (tail : List It3) {Q : Exit -> Act -> World -> Prop} {E : Env} {L0 L : List SP} (hL : LSub L0 (F ++ (a1.I :: als.map (·.I) ++ L))) (hmix : C.P.follows .mixedOrders = true) (hok : AZ ops.toList frees a1 po als tail = true) (hn : frees.length + 1 + po.length + als.length + tail.length <= ops.size)
  (hJ : JF C ops F (Als2 C ops (JF C ops F (Als2 C ops (upP fun E' L' => JX C ops (fun E' L' => K C (Q .normal) E' L') tail E' (F ++ L')) als) po) [a1]) frees E L) : J C (.region id ops true) Q E L0 := fun a w p => by
 refine wpIn_region_draw (fun t => ?_)
 simp only [Region.schedule, hmix, Bool.true_or, if_true]
 refine wpAnyIn_sound ops.size t _ a _ ?_
 simp only [AZ, CC, Bool.and_eq_true, List.all_eq_true, List.any_eq_true, Bool.or_eq_true] at hok
 obtain ⟨⟨⟨⟨⟨⟨⟨⟨⟨h1, h2⟩, h3⟩, h3c⟩, h5⟩, h6⟩, g1⟩, g2⟩, g3⟩, h4⟩ := hok
 refine bZ hL (vf ops.size frees als _ E L hn (by simp) (fun i hi => ?_) h1 (fun x hx => ⟨by have := h3 x hx; simpa using this, fun e he => ?_⟩) (fun x hx => by have := h3c x hx; simpa using this) h5 h6 g1 g2 (fun x hx => ?_) hJ) a _ ?_
 · constructor
   · intro _
     rcases h4 i (by simpa using hi) with (⟨x, hx, e⟩ | ⟨x, hx, e⟩) | e
     · exact .inl ⟨x, hx, (Nat.eq_of_beq_eq_true e).symm⟩
     · exact .inr (.inl ⟨x, hx, (Nat.eq_of_beq_eq_true e).symm⟩)
     · exact .inr (.inr (Nat.eq_of_beq_eq_true e).symm)
   · intro _; simp [Array.getD_eq_getD_getElem?, hi]
 · have := h2 _ (List.mem_map_of_mem hx) e he
   simpa [cp] using this
 · have := g3 x hx
   refine ⟨dC.1 this.1, fun e => ?_⟩
   have h := this.2
   rw [e] at h; simp at h
 · obtain ⟨hsz, hds, h, m, hl, sp, st, fr⟩ := p
   exact ⟨hsz, hds, h, m, hl.trans (HL.same (Same.drew _)), ⟨(by first | exact Sep.inv (by assumption) | exact Inv.mono (Dy _ _) (Sep.inv (by assumption))), sp.hm, sp.hr, sp.mr, sp.hw, sp.mw, sp.rw⟩, st, fr⟩
section
variable {C : Cx} {E : Env} {L : List SP} {d : Option Nat} {ty : Nat} {pos : String} {af : Array Edge} {g : Option (Nat × Bool)}
end
theorem Eb {X Y : Type} {C : Cx} {o : Oper} {E : Env} {L : List SP} {A : X -> Ty} {L' : X -> List SP} {A' : Y -> Ty} {M' : Y -> List SP} (f : X -> Y) (h : Step C o E L A L') (hA : ∀ x, A' (f x) = A x) (hM : ∀ x, M' (f x) = L' x) : Step C o E L A' M' := fun a w hp m n l sp st fr next Q hk =>
 h a w hp m n l sp st fr next Q fun x v w' h' m' l' sp' st' hv => hk (f x) v w' h' m' l' sp' (by rw [hM]; exact st') (by rw [hA]; exact hv)
theorem D7 {X : Type} {C : Cx} {o : Oper} {E : Env} {L : List SP} {A : X -> Ty} {L' : X -> List SP} (h : Step C o E L A L') : Step C o E (SP.emp :: L) A L' := fun a w hp m n l sp st fr next Q hk =>
 h a w hp m n l sp (by
  obtain ⟨m1, m2, _, rfl, e, s2⟩ := st
  have e : m1 = PH.emp := e
  subst e; rw [DN]; exact s2) fr next Q hk
theorem LSub.emp {L : List SP} : LSub L (SP.emp :: L) := fun h m st => ⟨PH.emp, m, DP m, (DN m).symm, _root_.rfl, st⟩
def vN : Value -> Nat
 | .pointer (some p) => p.block
 | _ => 0
def A0 (n : Nat) : Value := .pointer (some ⟨n, 0, none⟩)
theorem D6 {α : Type} {e : Nat} {R : Rp α} {v : Value} {xs : List α} {S : List SP} : Frz (Lg.own e R v xs :: S) (tV v) (tSl R xs) := fun h m u d hs hu => by
 have hvo : v.oneCell' = true := by
  obtain ⟨m3, m4, _, _, ho, _⟩ := hs
  rcases ho with ⟨rfl, _⟩ | ⟨g, cap, cur, rfl, _⟩ <;> rfl
 have hu : u = v := hu
 exact Frz.own h m u d hs ⟨hu, hvo⟩
theorem En {α α' : Type} {b T : Nat} {fs : List (SF α)} {fs' : List (SF α')} {x : α} {y : α'} {S : List SP} (hup : ∀ h m cs, h.disj m -> (stars S).p h m -> SF.rel h x fs cs -> SF.rel (h.join m) y fs' cs) :
  Frz (Lg.box b T (bG fs) x :: S) (tAt b 0) (bx (bG fs') y) := fun h m u d ⟨m1, m2, d12, e0, ⟨cs, r, e1⟩, hs⟩ hu => by
 subst e0
 have hd := PH.disj_join'.1 d
 have r' := hup h m2 cs hd.2 hs r
 have hle : (h.join m2).le (h.join (m1.join m2)) := fun b o e => by
  simp only [PH.join] at e ⊢
  cases hb : h b with
  | some x => rw [hb] at e; exact e
  | none =>
    rw [hb] at e
    have := DA d12 b o e
    simp only [PH.join] at this
    exact this
 have r2 := Ea hle r'
 subst e1
 exact ⟨b, 0, cs, hu, ⟨cs.toArray, T, (0, 0), DA d _ _ (Dy _ _ _ _ (DS _ _)), fun i u hu => by simpa using hu⟩, r2⟩
open Go Go.Proofs Go.Proofs.Tryz
theorem xL {s : GSchema} (h : lX s = true) : ∀ t ∈ s.Tables, t.Key.length <= 12 /\ t.Attrs.length <= 12 /\ ∀ c ∈ t.Key, 0 <= c /\ c < t.Attrs.length := by
  intro t ht
  obtain ⟨i, hi, rfl⟩ := List.getElem_of_mem ht
  rw [<- nth_get hi]
  have ha := uZ h hi
  unfold lX at h
  simp only [Bool.and_eq_true, decide_eq_true_eq] at h
  have h1 := n4.1 h.2 i hi
  simp only [Bool.and_eq_true] at h1
  have h2 := h1.1
  unfold rightM at h2
  simp only [Bool.and_eq_true] at h2
  have h3 := n4.1 h2.2
  generalize nth s.Tables i = t at h3 ha ⊢
  have hk : ∀ j, j < t.Key.length -> 0 <= nth t.Key j /\ nth t.Key j < t.Attrs.length /\ (j = 0 \/ nth t.Key (j - 1) < nth t.Key j) := fun j hj => by
    have := h3 j hj
    unfold jE at this
    simp only [Bool.and_eq_true, Bool.or_eq_true, decide_eq_true_eq] at this
    exact ⟨this.1.1, this.1.2, this.2⟩
  have hge : ∀ j, j < t.Key.length -> (j : Int) <= nth t.Key j := by
    intro j
    induction j with
    | zero => intro hj; exact (hk 0 hj).1
    | succ j ih =>
      intro hj
      have h4 := ih (by omega)
      have h5 := (hk (j + 1) hj).2.2
      simp at h5
      omega
  refine ⟨?_, ha, fun c hc => ?_⟩
  · cases hl : t.Key.length with
    | zero => omega
    | succ L =>
      have h4 := hge L (by omega)
      have h5 := (hk L (by omega)).2.1
      omega
  · obtain ⟨j, hj, rfl⟩ := List.getElem_of_mem hc
    rw [<- nth_get hj]
    exact ⟨(hk j hj).1, (hk j hj).2.1⟩
theorem vg {α : Type} [Inhabited α] {l : List α} {i : Nat} (h : ¬ i < l.length) : nth l i = default := by
 induction l generalizing i with
 | nil => rfl
 | cons a l ih =>
   cases i with
   | zero => exact absurd (Nat.succ_pos _) h
   | succ i => exact ih (by simpa using h)
def smA (a : GAttr) : Bool := decide (a.Was.length <= 10) && decide (a.Default.Text.size <= 300)
def smT (t : GTable) : Bool := decide (t.Attrs.length <= 20) && decide (t.Key.length <= 20) && decide (t.Name.size <= 100) && t.Attrs.all smA
def smS (s : GSchema) : Bool := decide (s.Tables.length <= 24) && s.Tables.all smT
def jJ : Nat -> aG -> Prop
  | 0, _ => True
  | n + 1, p => p.Kids.length <= 9223372036854775807 /\ ∀ q ∈ p.Kids, jJ n q
def l8 : Nat -> aG -> Bool
  | 0, _ => true
  | n + 1, p => p.Kids.all (l8 n) && (decide (p.Attrs.length <= 40) && decide (p.Tests.length <= 20) && decide (p.Cols.length <= 40))
def xe (f : aG -> Int) : Int -> List aG -> Int
  | a, [] => a
  | a, q :: l => if a < 1000 then xe f (IntKind.i64.wrap (a + f q)) l else a
def tH : Nat -> aG -> Int
  | 0, _ => 1
  | n + 1, p => xe (tH n) 1 p.Kids
theorem vh (f : aG -> Int) {a : Int} (h : ¬ a < 1000) (l : List aG) : xe f a l = a := by
  cases l with
  | nil => rfl
  | cons q l => unfold xe; rw [if_neg h]
def jK (m : Int) (t : List (List GValue)) : Bool := decide ((t.length : Int) <= m) && t.all fun r => decide (r.length <= 20)
def gW (s : GSchema) (n : Nat) (p : aG) (ts : List (List (List GValue))) (m : Int) : Bool := smS s && decide (tH n p <= 40) && l8 n p && decide (ts.length <= 30) && ts.all (jK m)
def CD (n : Nat) : Prop := ∀ (p : aG), jJ n p -> Fun1 prog 58 [(aR n).ty p] (tV (.int .i64 (tH n p)))
def CE (n : Nat) : Prop := ∀ (p : aG), jJ n p -> Fun1 prog 59 [(aR n).ty p] (tV (.bool (l8 n p)))
theorem B4 {s : GSchema} (h : smS s = true) (hn : ∀ t ∈ s.Tables, ∀ x ∈ namesL t.Attrs, x.size <= 9223372036854775807) : SchSz s := by
  unfold smS at h
  simp only [Bool.and_eq_true, decide_eq_true_eq, List.all_eq_true] at h
  refine ⟨by omega, fun t ht => ?_⟩
  have h1 := h.2 t ht
  unfold smT at h1
  simp only [Bool.and_eq_true, decide_eq_true_eq, List.all_eq_true] at h1
  refine ⟨by omega, by omega, by omega, fun a ha => ?_, hn t ht⟩
  have h2 := h1.2 a ha
  unfold smA at h2
  simp only [Bool.and_eq_true, decide_eq_true_eq] at h2
  omega
theorem yK : ∀ {n : Nat} {p : aG}, Dep n p -> l8 n p = true -> jJ n p -> od n p /\ p.Attrs.length <= 1000
  | 0, _, hd, _, _ => hd.elim
  | n + 1, p, hd, h, hl => by
    obtain ⟨h1, h2⟩ := hl
    simp only [l8, Bool.and_eq_true, decide_eq_true_eq, List.all_eq_true] at h
    exact ⟨⟨h1, by omega, by omega, by omega, fun q hq => yK (hd q hq) (h.1 q hq) (h2 q hq)⟩, by omega⟩
theorem vi {n : Nat} {p : aG} (hd : Dep n p) (h : l8 n p = true) : p.Attrs.length <= 40 := by
  cases n with
  | zero => exact hd.elim
  | succ n => simp only [l8, Bool.and_eq_true, decide_eq_true_eq] at h; exact h.2.1.1
theorem pS (s : GSchema) : Fun1 prog 57 [aV.ty s] (tV (.bool (smS s))) := by
 refine Spec.enter func57 rfl rfl fun h0 w0 fr0 => ?_
 refine Jr (Zs (aJ (R := aV) Sr) (Za (ae (ar (Jr ?_)))))
 refine Zs (aa g6 Sr rfl) (Zl g5 Sr (Zs (ah underlying39 Sr) (Zs (bD Sr Sr) (ae ?_))))
 refine au Sr (fun h9 => ?_) (fun h9 => ?_)
 ·
  try simp only [NF] at h9
  refine Jr (Za (ae (aF ?_)))
  refine aK (t := 2) rfl () ?_
  refine Sub.bool ?_
  have : ¬ s.Tables.length <= 24 := by omega
  simp [smS, this]
 try simp only [NF] at h9
 refine ay (ar (Jr (Za (ae (av ?_)))))
 refine aO (σ := Nat) (fun i => i <= s.Tables.length /\ ∀ k, k < i -> smT (nth s.Tables k) = true) (fun i => upd (upd cg 1 (bx aV s)) 3 (tV (.int .i64 i))) (fun i => []) (fun i => s.Tables.length - i) 0 ⟨by omega, fun k hk => by omega⟩ (zU) (LSub.rfl) ?_
 rintro i ⟨hi, hv⟩
 refine ar (Jr (Zm (Zs (aa g6 Sr rfl) (Zl g5 Sr (Zs (ah underlying39 Sr) ?_)))))
 refine Zs (aA Sr Sr) (ae ?_)
 refine au Sr (fun h14 => ?_) (fun h14 => ?_)
 ·
  try simp only [NF] at h14
  have hlt : i < s.Tables.length := by omega
  refine ay (ar (av (Jr (Zs (aa g6 Sr rfl) (Zl g5 Sr ?_)))))
  refine Zm ?_
  refine Zs (ad (i := i) underlying39 g8 Sr Sr (by rfl) (gb (by exact hlt))) ?_
  refine Zl g8 Sr ?_
  refine Zx (aD (fun w => zeroValue76 w) BO) fun b4 => ?_
  refine Ju (aj g8 Sr Sr zS) fun _ => ?_
  refine bc (t := 4) (Sel.take (Dz _)) Frz.box ?_
  refine ae (ar (Jr (Zs (aa eu Sr rfl) (Zl bQ Sr (Zs (ah underlying44 Sr) ?_)))))
  refine Zs (bD Sr Sr) (Zm ?_)
  refine Zk (aa eu Sr rfl) ?_
  refine Zg (fun hw => ab bY (Sub.w hw)) (Zg (fun hw => ah underlying36 (Sub.w hw)) (Zg (fun hw => bD (Sub.w hw) Sr) (Zs (az Sr Sr) (Zm ?_))))
  refine Zk (aa eu Sr rfl) ?_
  refine Zg (fun hw => ab ty9 (Sub.w hw)) (Zg (fun hw => df underlying9 (Sub.w hw)) (Zg (fun hw => bD (Sub.w hw) Sr) (Zs (az Sr Sr) (ae ?_))))
  refine au Sr (fun h37 => ?_) (fun h37 => ?_)
  ·
   try simp only [NF] at h37
   refine Jr (Za (ae (aF ?_)))
   refine aK (t := 2) rfl () ?_
   refine Sub.bool ?_
   have : smT (nth s.Tables i) = false := by
    unfold smT
    rcases h37 with (h | h) | h
    ·
     simp [show ¬ (nth s.Tables i).Attrs.length <= 20 by omega]
    ·
     simp [show ¬ (nth s.Tables i).Key.length <= 20 by omega]
    simp [show ¬ (nth s.Tables i).Name.size <= 100 by omega]
   simp [smS, gZ hlt this]
  try simp only [NF] at h37
  refine ay (Jr (Za (ae (av ?_))))
  refine aO (σ := Nat) (fun k => k <= (nth s.Tables i).Attrs.length /\ ∀ j, j < k -> smA (nth (nth s.Tables i).Attrs j) = true) (fun k => upd (upd (upd (upd cg 1 (bx aV s)) 3 (tV (.int .i64 i))) 4 (bx cc (nth s.Tables i))) 5 (tV (.int .i64 k))) (fun k => []) (fun k => (nth s.Tables i).Attrs.length - k) 0 ⟨by omega, fun j hj => by omega⟩ (zU) (LSub.rfl) ?_
  rintro k ⟨hk, hw⟩
  refine ar (Jr (Zm (Zs (aa eu Sr rfl) (Zl bQ Sr (Zs (ah underlying44 Sr) ?_)))))
  refine Zs (aA Sr Sr) (ae ?_)
  refine au Sr (fun h42 => ?_) (fun h42 => ?_)
  ·
   try simp only [NF] at h42
   have hkt : k < (nth s.Tables i).Attrs.length := by omega
   refine ay (ar (av (Jr (Zs (aa eu Sr rfl) (Zl bQ Sr ?_)))))
   refine Zm ?_
   refine Zs (ad (i := k) underlying44 ct Sr Sr (by rfl) (gb (by exact hkt))) ?_
   refine Zs (aa dH Sr rfl) (Zl yD Sr (Zs (ah underlying85 Sr) (Zs (bD Sr Sr) (Zm ?_))))
   refine Zk (aa eu Sr rfl) ?_
   refine Zg (fun hw => ab bQ (Sub.w hw)) ?_
   refine Zk (al Sr) ?_
   refine Zg (fun hw => ad (i := k) underlying44 ct (Sub.w hw) (Sub.w hw) (by rfl) (gb (by have hwq := hw; (try simp only [beqB_t, beqB_f, NF] at hwq); exact hkt))) ?_
   refine Zg (fun hw => aa dH (Sub.w hw) rfl) (Zg (fun hw => aa eT (Sub.w hw) rfl) (Zg (fun hw => ab ty9 (Sub.w hw)) (Zg (fun hw => df underlying9 (Sub.w hw)) (Zg (fun hw => bD (Sub.w hw) Sr) (Zs (az Sr Sr) ?_)))))
   refine ae ?_
   refine au Sr (fun h63 => ?_) (fun h63 => ?_)
   ·
    try simp only [NF] at h63
    refine Jr (Za (ae (aF ?_)))
    refine aK (t := 2) rfl () ?_
    refine Sub.bool ?_
    have : smA (nth (nth s.Tables i).Attrs k) = false := by
     unfold smA
     rcases h63 with h | h
     ·
      simp [show ¬ (nth (nth s.Tables i).Attrs k).Was.length <= 10 by omega]
     simp [show ¬ (nth (nth s.Tables i).Attrs k).Default.Text.size <= 300 by omega]
    have : smT (nth s.Tables i) = false := by unfold smT; simp [gZ hkt this]
    simp [smS, gZ hlt this]
   try simp only [NF] at h63
   refine ay (aq (Zm (Zs (aB Sr Sr z6) (Za (ae ?_)))))
   refine aE (σ := Nat) (s := k) (k + 1) zO ?_ (zU) (LSub.rfl)
   refine ⟨by omega, fun j hj => ?_⟩
   by_cases e : j = k
   ·
    rw [e]; unfold smA; simp; omega
   exact hw j zG
  try simp only [NF] at h42
  have hat : (nth s.Tables i).Attrs.all smA = true := iP (fun j hj => hw j zG)
  refine aY (aq (Zm (Zs (aB Sr Sr z6) (Za (ae ?_)))))
  refine aE (σ := Nat) (s := i) (i + 1) zO ?_ (zU) (LSub.rfl)
  refine ⟨by omega, fun k hk => ?_⟩
  by_cases e : k = i
  ·
   rw [e]; unfold smT; rw [hat]; simp; omega
  exact hv k zG
 try simp only [NF] at h14
 have hall : s.Tables.all smT = true := iP (fun k hk => hv k zG)
 refine aY (Jr (Za (ae (aF ?_))))
 refine aK (t := 2) rfl () ?_
 refine Sub.bool ?_
 have : s.Tables.length <= 24 := by omega
 simp only [smS, hall, this]; simp
theorem tI (n : Nat) (p : aG) (hl : jJ (n + 1) p) (ih : CD n) : Fun1 prog 58 [(aR (n + 1)).ty p] (tV (.int .i64 (tH (n + 1) p))) := by
 refine Spec.enter func58 rfl rfl fun h0 w0 fr0 => ?_
 obtain ⟨hl1, hl2⟩ := hl
 refine Jr (Zs (aJ (R := (aR (n + 1))) Sr) (Za (ae (Jr (Za ?_)))))
 refine ae (ar (Jr (Za (ae (av ?_)))))
 refine aO (σ := Nat × Int) (fun ⟨i, a⟩ => i <= p.Kids.length /\ xe (tH n) a (p.Kids.drop i) = xe (tH n) 1 p.Kids) (fun ⟨i, a⟩ => upd (upd (upd (upd cg 1 (bx (aR (n + 1)) p)) 2 (tV (.int .i64 0))) 3 (tV (.int .i64 a))) 4 (tV (.int .i64 i))) (fun ⟨i, a⟩ => []) (fun ⟨i, a⟩ => p.Kids.length - i) (0, 1) ⟨by omega, by rw [List.drop_zero]⟩ (zU) (LSub.rfl) ?_
 rintro ⟨i, a⟩ ⟨hi, hv⟩
 refine ar (Jr (Zm (Zs (aa br Sr rfl) (Zl gp Sr (Zs (ah underlying42 Sr) ?_)))))
 refine Zs (aA Sr Sr) (Zm ?_)
 refine Zk (al Sr) ?_
 refine Zg (fun hw => aA (Sub.w hw) Sr) (Zs (aw Sr Sr) (ae ?_))
 refine au Sr (fun h13 => ?_) (fun h13 => ?_)
 ·
  try simp only [NF] at h13
  have hlt : i < p.Kids.length := by omega
  have ha : a < 1000 := h13.2
  have hdr := nU hlt
  refine ay (ar (av (aq (Zm (Zs (aa br Sr rfl) ?_)))))
  refine Zl gp Sr (Zm ?_)
  refine Zs (ad (i := i) underlying42 dl Sr Sr (by rfl) (gb (by exact hlt))) ?_
  refine Zl dl Sr (Zs (ai (ih _ (hl2 _ (aH hlt))) ⟨Sr, trivial⟩ call58) (Zs (pF Sr Sr) (Za (ae (aq ?_)))))
  refine Zm (Zs (aB Sr Sr z6) (Za (ae ?_)))
  refine aE (σ := Nat × Int) (s := (i, a)) (i + 1, IntKind.i64.wrap (a + tH n (nth p.Kids i))) zO ?_ (zU) (LSub.rfl)
  refine ⟨by omega, ?_⟩
  rw [<- hv, hdr]
  show _ = if a < 1000 then _ else a
  rw [if_pos ha]
 try simp only [NF] at h13
 refine aY (Jr (Zm (Za (ae (aF ?_)))))
 refine aK (t := 2) rfl () (Sub.int ?_)
 show a = xe (tH n) 1 p.Kids
 rw [<- hv]
 by_cases ha : a < 1000
 ·
  have : i = p.Kids.length := by omega
  rw [this, List.drop_length]; rfl
 rw [vh _ ha]
theorem pT : ∀ n, CD n
 | 0 => fun p hl => by
  refine Spec.enter func58 rfl rfl fun h0 w0 fr0 => ?_
  exact eX 0 (fun _ _ r => (show False from r)) fun q => q.elim
 | n + 1 => fun p hl => tI n p hl (pT n)
theorem tJ (n : Nat) (p : aG) (hl : jJ (n + 1) p) (ih : CE n) : Fun1 prog 59 [(aR (n + 1)).ty p] (tV (.bool (l8 (n + 1) p))) := by
 refine Spec.enter func59 rfl rfl fun h0 w0 fr0 => ?_
 obtain ⟨hl1, hl2⟩ := hl
 refine Jr (Zs (aJ (R := (aR (n + 1))) Sr) (Za (ae (ar (Jr ?_)))))
 refine Za (ae (av ?_))
 refine aO (σ := Nat) (fun i => i <= p.Kids.length /\ ∀ k, k < i -> l8 n (nth p.Kids k) = true) (fun i => upd (upd cg 1 (bx (aR (n + 1)) p)) 3 (tV (.int .i64 i))) (fun i => []) (fun i => p.Kids.length - i) 0 ⟨by omega, fun k hk => by omega⟩ (zU) (LSub.rfl) ?_
 rintro i ⟨hi, hv⟩
 refine ar (Jr (Zm (Zs (aa br Sr rfl) (Zl gp Sr (Zs (ah underlying42 Sr) ?_)))))
 refine Zs (aA Sr Sr) (ae ?_)
 refine au Sr (fun h8 => ?_) (fun h8 => ?_)
 ·
  try simp only [NF] at h8
  have hlt : i < p.Kids.length := by omega
  refine ay (ar (av (Jr (Zs (aa br Sr rfl) (Zl gp Sr ?_)))))
  refine Zm ?_
  refine Zs (ad (i := i) underlying42 dl Sr Sr (by rfl) (gb (by exact hlt))) ?_
  refine Zl dl Sr (Zs (ai (ih _ (hl2 _ (aH hlt))) ⟨Sr, trivial⟩ call59) (Zs (bf Sr) (ae ?_)))
  refine au Sr (fun h17 => ?_) (fun h17 => ?_)
  ·
   try simp only [NF] at h17
   refine Jr (Za (ae (aF ?_)))
   refine aK (t := 2) rfl () ?_
   refine Sub.bool ?_
   have : p.Kids.all (l8 n) = false := gZ hlt (by simpa using h17)
   simp only [l8, this, Bool.false_and]
  try simp only [NF] at h17
  refine ay (aq (Zm (Zs (aB Sr Sr z6) (Za (ae ?_)))))
  refine aE (σ := Nat) (s := i) (i + 1) zO ?_ (zU) (LSub.rfl)
  exact kr (p := fun q => l8 n q = true) hlt hv (by simpa using h17)
 try simp only [NF] at h8
 have hall : p.Kids.all (l8 n) = true := iP (fun k hk => hv k zG)
 refine aY (Jr (Zs (aa br Sr rfl) (Zl bQ Sr (Zs (ah underlying44 Sr) (Zs (bM Sr Sr) ?_)))))
 refine Zm ?_
 refine Zk (aa br Sr rfl) ?_
 refine Zg (fun hw => ab iN (Sub.w hw)) (Zg (fun hw => ah underlying43 (Sub.w hw)) (Zg (fun hw => bM (Sub.w hw) Sr) (Zs (aw Sr Sr) (Zm ?_))))
 refine Zk (aa br Sr rfl) ?_
 refine Zg (fun hw => ab bY (Sub.w hw)) (Zg (fun hw => ah underlying36 (Sub.w hw)) (Zg (fun hw => bM (Sub.w hw) Sr) (Zs (aw Sr Sr) (Za (ae ?_)))))
 refine aF ?_
 refine aK (t := 2) rfl () ?_
 refine Sub.bool ?_
 have e : ∀ a b : Nat, decide ((a : Int) <= (b : Int)) = decide (a <= b) := fun a b => by rw [decide_eq_decide]; omega
 simp only [l8, hall, Bool.true_and]
 have e1 := e p.Attrs.length 40
 have e2 := e p.Tests.length 20
 have e3 := e p.Cols.length 40
 simp only [<- e1, <- e2, <- e3]; rfl
theorem pU : ∀ n, CE n
 | 0 => fun p hl => by
  refine Spec.enter func59 rfl rfl fun h0 w0 fr0 => ?_
  exact eX 0 (fun _ _ r => (show False from r)) fun q => q.elim
 | n + 1 => fun p hl => tJ n p hl (pU n)
theorem rA (s : GSchema) (n : Nat) (p : aG) (hl : jJ n p) (ts : List (List (List GValue))) (m : Int) (hz : ∀ t ∈ ts, t.length <= 9223372036854775807) : Fun1 prog 19 [aV.ty s, (aR n).ty p, tSl (rSl (rSl rValue)) ts, tV (.int .i64 m)] (tV (.bool (gW s n p ts m))) := by
 refine Spec.enter func19 rfl rfl fun h0 w0 fr0 => ?_
 refine Jr (Zs (aJ (R := aV) Sr) (Zs (aJ (R := (aR n)) Sr) (Za (ae (ar ?_)))))
 refine Jr (Zl fR Sr (Zs (ai (pS _) ⟨Sr, trivial⟩ call57) (Zs (bf Sr) (Zm ?_))))
 refine Zk (ab dl Sr) ?_
 refine Zg (fun hw => ai (pT n p hl) ⟨Sub.w hw, trivial⟩ call58) (Zg (fun hw => bD (Sub.w hw) Sr) (Zs (az Sr Sr) (Zm ?_)))
 refine Zk (ab dl Sr) ?_
 refine Zg (fun hw => ai (pU n p hl) ⟨Sub.w hw, trivial⟩ call59) (Zg (fun hw => bf (Sub.w hw)) (Zs (az Sr Sr) (Zm ?_)))
 refine Zk (al Sr) ?_
 refine Zg (fun hw => ah underlying61 (Sub.w hw)) (Zg (fun hw => bD (Sub.w hw) Sr) (Zs (az Sr Sr) (ae ?_)))
 refine au Sr (fun h28 => ?_) (fun h28 => ?_)
 ·
  try simp only [NF] at h28
  refine Jr (Za (ae (aF ?_)))
  refine aK (t := 8) rfl () ?_
  refine Sub.bool ?_
  unfold gW
  rcases h28 with ((h | h) | h) | h
  ·
   simp [h]
  ·
   simp [show ¬ tH n p <= 40 by omega]
  ·
   simp [h]
  simp [show ¬ ts.length <= 30 by omega]
 try simp only [NF] at h28
 have hb : smS s = true /\ tH n p <= 40 /\ l8 n p = true /\ ts.length <= 30 := ⟨h28.1.1.1, h28.1.1.2, h28.1.2, by omega⟩
 refine ay (ar (Jr (Za (ae (av ?_)))))
 refine aO (σ := Nat) (fun i => i <= ts.length /\ ∀ k, k < i -> jK m (nth ts k) = true) (fun i => upd (upd (upd cg 2 (tSl (rSl (rSl rValue)) ts)) 3 (tV (.int .i64 m))) 9 (tV (.int .i64 i))) (fun i => []) (fun i => ts.length - i) 0 ⟨by omega, fun k hk => by omega⟩ (zU) (LSub.rfl) ?_
 rintro i ⟨hi, hv⟩
 refine ar (Jr (Zm (Zm (Zs (ah underlying61 Sr) (Zs (aA Sr Sr) ?_)))))
 refine ae ?_
 refine au Sr (fun h32 => ?_) (fun h32 => ?_)
 ·
  try simp only [NF] at h32
  have hlt : i < ts.length := by omega
  have hzi := hz _ (aH hlt)
  refine ay (ar (av (ar (Jr (Zm ?_)))))
  refine Zm ?_
  refine Zs (ad (i := i) underlying61 kp Sr Sr (by rfl) (gb (by exact hlt))) ?_
  refine Zl kp Sr (Zs (ah underlying73 Sr) (Zm (Zs (bD Sr Sr) (ae ?_))))
  refine au Sr (fun h41 => ?_) (fun h41 => ?_)
  ·
   try simp only [NF] at h41
   refine Jr (Za (ae (aF ?_)))
   refine aK (t := 8) rfl () ?_
   refine Sub.bool ?_
   have : jK m (nth ts i) = false := by unfold jK; simp [show ¬ ((nth ts i).length : Int) <= m by omega]
   simp [gW, gZ hlt this]
  try simp only [NF] at h41
  refine ay (Jr (Za (ae (av ?_))))
  refine aO (σ := Nat) (fun k => k <= (nth ts i).length /\ ∀ j, j < k -> decide ((nth (nth ts i) j).length <= 20) = true) (fun k => upd (upd (upd (upd cg 2 (tSl (rSl (rSl rValue)) ts)) 3 (tV (.int .i64 m))) 9 (tV (.int .i64 i))) 10 (tV (.int .i64 k))) (fun k => []) (fun k => (nth ts i).length - k) 0 ⟨by omega, fun j hj => by omega⟩ (zU) (LSub.rfl) ?_
  rintro k ⟨hk, hw⟩
  refine ar (Jr (Zm (Zm (Zm ?_))))
  refine Zs (ad (i := i) underlying61 kp Sr Sr (by rfl) (gb (by exact hlt))) ?_
  refine Zl kp Sr (Zs (ah underlying73 Sr) (Zs (aA Sr Sr) (ae ?_)))
  refine au Sr (fun h48 => ?_) (fun h48 => ?_)
  ·
   try simp only [NF] at h48
   have hkt : k < (nth ts i).length := by omega
   refine ay (ar (av (Jr (Zm (Zm ?_)))))
   refine Zs (ad (i := i) underlying61 kp Sr Sr (by rfl) (gb (by exact hlt))) ?_
   refine Zl kp Sr (Zm ?_)
   refine Zs (ad (i := k) underlying73 fh Sr Sr (by rfl) (gb (by exact hkt))) ?_
   refine Zl fh Sr (Zs (ah underlying22 Sr) (Zs (bD Sr Sr) (ae ?_)))
   refine au Sr (fun h59 => ?_) (fun h59 => ?_)
   ·
    try simp only [NF] at h59
    refine Jr (Za (ae (aF ?_)))
    refine aK (t := 8) rfl () ?_
    refine Sub.bool ?_
    have h1 : ((nth ts i).all fun r => decide (r.length <= 20)) = false := gZ hkt (by rw [decide_eq_false_iff_not]; omega)
    have : jK m (nth ts i) = false := by unfold jK; rw [h1, Bool.and_false]
    simp [gW, gZ hlt this]
   try simp only [NF] at h59
   refine ay (aq (Zm (Zs (aB Sr Sr z6) (Za (ae ?_)))))
   refine aE (σ := Nat) (s := k) (k + 1) zO ?_ (zU) (LSub.rfl)
   refine ⟨by omega, fun j hj => ?_⟩
   by_cases e : j = k
   ·
    rw [e, decide_eq_true_eq]; omega
   exact hw j zG
  try simp only [NF] at h48
  have hrt : ((nth ts i).all fun r => decide (r.length <= 20)) = true := iP (fun j hj => hw j zG)
  refine aY (aq (Zm (Zs (aB Sr Sr z6) (Za (ae ?_)))))
  refine aE (σ := Nat) (s := i) (i + 1) zO ?_ (zU) (LSub.rfl)
  refine ⟨by omega, fun k hk => ?_⟩
  by_cases e : k = i
  ·
   rw [e]; unfold jK; rw [hrt]; simp; omega
  exact hv k zG
 try simp only [NF] at h32
 have hall : ts.all (jK m) = true := iP (fun k hk => hv k zG)
 refine aY (Jr (Za (ae (aF ?_))))
 refine aK (t := 8) rfl () ?_
 refine Sub.bool ?_
 simp [gW, hb.1, hb.2.1, hb.2.2.1, hb.2.2.2, hall]
theorem xM {x y : GAtom} (h1 : x.Table = y.Table) (h2 : x.Key = y.Key) (h3 : x.Cols = y.Cols) (h4 : x.Terms = y.Terms) : x = y := by cases x; cases y; simp_all
theorem xN {x y : GConj} (h1 : x.Vars = y.Vars) (h2 : x.Consts = y.Consts) (h3 : x.Atoms = y.Atoms) : x = y := by cases x; cases y; simp_all
instance : DecidableEq GAtom := fun a b => decidable_of_iff (a.Table = b.Table /\ a.Key = b.Key /\ a.Cols = b.Cols /\ a.Terms = b.Terms) ⟨fun ⟨h1, h2, h3, h4⟩ => xM h1 h2 h3 h4, fun h => by subst h; exact ⟨rfl, rfl, rfl, rfl⟩⟩
instance : DecidableEq GConj := fun a b => decidable_of_iff (a.Vars = b.Vars /\ a.Consts = b.Consts /\ a.Atoms = b.Atoms) ⟨fun ⟨h1, h2, h3⟩ => xN h1 h2 h3, fun h => by subst h; exact ⟨rfl, rfl, rfl⟩⟩
theorem bh {C : Cx} {o : Oper} {E : Env} {L : List SP} {A B : Ty} (h : bs C o E L A) (s : A = B) : bs C o E L B := s ▸ h
section
variable {C : Cx} {E : Env} {L : List SP} {d : Option Nat} {ty : Nat} {pos : String} {af : Array Edge} {g : Option (Nat × Bool)}
theorem ap {α : Type} {T n b o o' : Nat} {fs : List (SF α)} {x : Operand} {f : SF α} (S : StructOf C.P T fs) (hx : Sub (opTy E x) (tAt b o)) (hf : fs[n]? = some f) (ho : o + SF.off fs n = o') :
  bs C ⟨d, .fieldAddr T x n, ty, pos, af, g⟩ E L (tAt b o') := by
 have := fT (C := C) (E := E) (L := L) (d := d) (ty := ty) (pos := pos) (af := af) (g := g) S hx hf
 rwa [ho] at this
theorem cI {α : Type} {T n : Nat} {fs : List (SF α)} {x : Operand} {y : α} {f : SF α} (S : StructOf C.P T fs) (hx : Sub (opTy E x) ((bG fs).ty y)) (hf : fs[n]? = some f) :
  bs C ⟨d, .field T x n, ty, pos, af, g⟩ E L (f.R.ty (f.get y)) :=
 DF (by intro c h; cases h) fun a w h hw fr => by
  obtain ⟨cs, r, hv⟩ := fr.get hx
  have hv : a.eval x = .agg cs.toArray := hv
  obtain ⟨fls, hu, hl⟩ := S.lays
  obtain ⟨fl, h1, h2, h3, h4, h5⟩ := hl.get hf
  have h1' : fls[n]? = some fl := by simpa using h1
  rw [Nat.zero_add] at h3
  obtain ⟨c, rc, hc⟩ := D4 r hf
  have hcl := f.R.len rc
  refine ⟨packV f.R.agg c, ?_, f.R.pack rc⟩
  have hpt : (part fl.type cs.toArray fl.offset).run C.P w = .ok (packV f.R.agg c) w := by
   unfold part
   rw [h2, h3]
   have hbd : SF.off fs n + f.R.k <= cs.length := by
    have := hc (f.R.k - 1) (c[f.R.k - 1]'(by omega)) (List.getElem?_eq_getElem (by omega))
    have := (List.getElem?_eq_some_iff.1 this).1
    omega
   cases hg : f.R.agg with
   | true =>
     have he : cs.toArray.extract (SF.off fs n) (SF.off fs n + f.R.k) = c.toArray := by
      rw [List.extract_toArray]
      congr 1
      refine List.ext_getElem? fun i => ?_
      simp only [List.getElem?_take, List.getElem?_drop]
      by_cases hi : i < f.R.k
      · rw [if_pos (by omega), hc i (c[i]'(by omega)) (List.getElem?_eq_getElem (by omega)), List.getElem?_eq_getElem (by omega)]
      · rw [if_neg (by omega), List.getElem?_eq_none (by omega)]
     have ha := h4.agg w
     rw [hg] at ha
     simp only [Sem.run_bind, ha, Result.andThen_ok, h4.size, if_true, packV]
     simp [he]
   | false =>
     have hk := f.R.scalar hg
     have ha := h4.agg w
     rw [hg] at ha
     match c, hcl, hc with
     | [u], _, hc =>
       have := hc 0 u rfl
       simp only [Nat.add_zero] at this
       simp [Sem.run_bind, ha, packV, this]
     | [], hcl, _ => simp [hk] at hcl
     | _ :: _ :: _, hcl, _ => simp [hk] at hcl
  simp [execOp, Instr.field, hv, run_underlying hu, h1', asAgg, hpt]
theorem eY {T U : Nat} {x y : Operand} {a b : Int} (hx : Sub (opTy E x) (tV (.int .i64 a))) (hy : Sub (opTy E y) (tV (.int .i64 b))) :
  bs C ⟨d, .call { callee := .builtin .max, args := #[x, y], argTypes := #[T, U] }, ty, pos, af, g⟩ E L (tV (.int .i64 (max a b))) := by
 have := xr (C := C) (E := E) (L := L) (d := d) (ty := ty) (pos := pos) (af := af) (g := g) (T := T) (U := U) hx hy
 rwa [show (if b > a then b else a) = max a b by omega] at this
theorem dh {T U : Nat} {x y : Operand} {a b : Int} (hx : Sub (opTy E x) (tV (.int .i64 a))) (hy : Sub (opTy E y) (tV (.int .i64 b))) :
  bs C ⟨d, .call { callee := .builtin .min, args := #[x, y], argTypes := #[T, U] }, ty, pos, af, g⟩ E L (tV (.int .i64 (min a b))) := by
 have := sq (C := C) (E := E) (L := L) (d := d) (ty := ty) (pos := pos) (af := af) (g := g) (T := T) (U := U) hx hy
 rwa [show (if b < a then b else a) = min a b by omega] at this
end
inductive SO (α : Type) where
 | imm (xs : List α)
 | raw (v : Value)
def SO.ty {α : Type} (R : Rp α) : SO α -> Ty
 | .imm xs => tSl R xs
 | .raw v => rV.ty v
def rSO {α : Type} (R : Rp α) : Rp (SO α) := rT (SO.ty R) (by
 rintro h x v hv
 cases x with
 | imm xs => obtain ⟨ao, cap, rfl, _⟩ := hv; rfl
 | raw u => obtain ⟨e, h1⟩ := hv; exact e ▸ h1)
theorem D8 {α : Type} {R : Rp α} {h : PH} {xs : List α} {cs : List Value} (r : (rSl R).rel h xs cs) : (rSO R).rel h (.imm xs) cs := r
theorem DR {α : Type} {R : Rp α} {h : PH} {v : Value} {cs : List Value} (r : rV.rel h v cs) : (rSO R).rel h (.raw v) cs := ⟨v, r.1, rfl, r.2⟩
def Frz2 (S : List SP) (F : SP) : Prop := ∀ h m : PH, h.disj m -> (stars S).p h m -> ∃ m1 m2 : PH, m1.disj m2 /\ m = m1.join m2 /\ F.p (h.join m1) m2
theorem Frz2.box {α α' : Type} {b T : Nat} {fs : List (SF α)} {fs' : List (SF α')} {x : α} {y : α'} {S : List SP} (hup : ∀ h m cs, h.disj m -> (stars S).p h m -> SF.rel h x fs cs -> SF.rel (h.join m) y fs' cs) :
  Frz2 (Lg.box b T (bG fs) x :: S) (Lg.box b T (bG fs') y) := fun h m d ⟨m1, m2, d12, e0, ⟨cs, r, e1⟩, hs⟩ => by
 subst e0
 have hd := PH.disj_join'.1 d
 exact ⟨m2, m1, DD d12, DW d12, cs, hup h m2 cs hd.2 hs r, e1⟩
theorem jL {C : Cx} {k : Act -> World -> Prop} {E : Env} {L S R : List SP} {F : SP} (sel : Sel L S R) (f : Frz2 S F) (hk : K C k E (F :: R)) : K C k E L :=
 fun a w ⟨n, ds, h, m, l, sp, st, fr⟩ => by
 obtain ⟨m1, m2, d12, rfl, s1, s2⟩ := sel.stars.1 st
 have hd := PH.disj_join'.1 sp.hm
 obtain ⟨a1, a2, da, rfl, hF⟩ := f h m1 hd.1 s1
 have hle := Dy h a1
 have hdj := PH.disj_join'.1 (DD d12)
 rw [DH] at sp
 have hda : a1.disj (a2.join m2) := PH.disj_join'.2 ⟨da, DD hdj.1⟩
 refine hk a w ⟨n, ds, h.join a1, a2.join m2, HL.trans l ⟨hle, Same.refl _⟩, sp.freeze hda, ⟨a2, m2, DD hdj.2, rfl, hF, (stars R).mono hle s2⟩, fun u => (E u).mono hle (fr u)⟩
structure Gsize where
 rows : Int
 cost : Int
 distinct : List Int
def dF : Gsize := { rows := 0, cost := 0, distinct := [] }
instance : Inhabited Gsize := ⟨dF⟩
def yL : List (SF Gsize) := [⟨Int, 3, bg, Gsize.rows⟩, ⟨Int, 3, bg, Gsize.cost⟩, ⟨List Int, 36, (rSl bg), Gsize.distinct⟩]
abbrev vj : Rp Gsize := bG yL
theorem zK : TyOf Tryz.prog 150 vj := ⟨fun w => Tryz.isAgg150 w, fun w => Tryz.sizeOf150 w⟩
theorem ci : StructOf Tryz.prog 150 yL := ⟨⟨_, Tryz.underlying150, ⟨rfl, rfl, ty3, by decide, ⟨rfl, rfl, ty3, by decide, ⟨rfl, rfl, bY, by decide, trivial⟩⟩⟩⟩, zK⟩
theorem B5 : ∀ h, (vj.ty dF).p h (.agg #[Value.int .i64 0, Value.int .i64 0, Value.slice none 0 0]) := fun _ => ⟨_, ⟨[Value.int .i64 0], _, rfl, rfl, ⟨[Value.int .i64 0], _, rfl, rfl, ⟨[Value.slice none 0 0], _, rfl, ⟨_, rfl, none, ⟨0, Nat.le_refl _⟩, rfl, fun q => absurd rfl q⟩, rfl⟩⟩⟩, rfl⟩
structure Gplanner where
 s : GSchema
 st : GStats
def zplanner : Gplanner := { s := lP, st := zStats }
instance : Inhabited Gplanner := ⟨zplanner⟩
def pV : List (SF Gplanner) := [⟨GSchema, 41, aV, Gplanner.s⟩, ⟨GStats, 60, bA, Gplanner.st⟩]
abbrev bu : Rp Gplanner := bG pV
theorem dy : TyOf Tryz.prog 146 bu := ⟨fun w => Tryz.isAgg146 w, fun w => Tryz.sizeOf146 w⟩
theorem vl : StructOf Tryz.prog 146 pV := ⟨⟨_, Tryz.underlying146, ⟨rfl, rfl, fR, by decide, ⟨rfl, rfl, gh, by decide, trivial⟩⟩⟩, dy⟩
theorem zM : ∀ h, (bu.ty zplanner).p h (.agg #[Value.slice none 0 0, Value.slice none 0 0, Value.slice none 0 0]) := fun _ => ⟨_, ⟨[Value.slice none 0 0], _, rfl, ⟨[Value.slice none 0 0], _, rfl, ⟨_, rfl, none, ⟨0, Nat.le_refl _⟩, rfl, fun q => absurd rfl q⟩, rfl⟩, ⟨[Value.slice none 0 0, Value.slice none 0 0], _, rfl, ⟨[Value.slice none 0 0], _, rfl, ⟨_, rfl, none, ⟨0, Nat.le_refl _⟩, rfl, fun q => absurd rfl q⟩, ⟨[Value.slice none 0 0], _, rfl, ⟨_, rfl, none, ⟨0, Nat.le_refl _⟩, rfl, fun q => absurd rfl q⟩, rfl⟩⟩, rfl⟩⟩, rfl⟩
structure Gnode where
 Plan : aG
 size : Gsize
instance : Inhabited Gnode := ⟨⟨GPl.zero, dF⟩⟩
def vm (n : Nat) : List (SF Gnode) := [⟨aG, 46, aR n, Gnode.Plan⟩, ⟨Gsize, 150, vj, Gnode.size⟩]
abbrev bT (n : Nat) : Rp Gnode := bG (vm n)
theorem mY {n : Nat} : (aR n).k = 8 := rPl_k cPl aS be n
theorem xO {n : Nat} : (bT n).k = 11 := by show (aR n).k + 3 = 11; rw [mY]
theorem eA {n : Nat} : TyOf Tryz.prog 152 (bT n) := ⟨fun w => Tryz.isAgg152 w, fun w => by rw [xO]; exact Tryz.sizeOf152 w⟩
theorem bX {n : Nat} : StructOf Tryz.prog 152 (vm n) := ⟨⟨_, Tryz.underlying152, ⟨rfl, rfl, dl, (by rw [mY]; decide), ⟨rfl, (by rw [mY]), zK, by decide, trivial⟩⟩⟩, eA⟩
theorem iR {n : Nat} : TyOf Tryz.prog 197 (rSl (bT n)) := ⟨fun w => Tryz.isAgg197 w, fun w => Tryz.sizeOf197 w⟩
theorem yM : TyOf Tryz.prog 197 rV := ⟨fun w => Tryz.isAgg197 w, fun w => Tryz.sizeOf197 w⟩
theorem vn {n : Nat} : ∀ h, ((bT (n + 1)).ty ⟨GPl.zero, dF⟩).p h (.agg #[Value.int .i64 0, Value.int .i64 0, Value.slice none 0 0, Value.slice none 0 0, Value.slice none 0 0, Value.int .i64 0, Value.int .i64 0, Value.slice none 0 0, Value.int .i64 0, Value.int .i64 0, Value.slice none 0 0]) := fun h => ⟨_, ⟨_, _, rfl, (aR (n + 1)).cells (ss h), ⟨_, [], by rw [List.append_nil]; rfl, vj.cells (B5 h), rfl⟩⟩, rfl⟩
theorem B6 {n : Nat} : ElT Tryz.prog 152 (bT (n + 1)) 168 ⟨GPl.zero, dF⟩ := ⟨eA, (by rw [xO]; decide), Tryz.t152, (.agg #[Value.int .i64 0, Value.int .i64 0, Value.slice none 0 0, Value.slice none 0 0, Value.slice none 0 0, Value.int .i64 0, Value.int .i64 0, Value.slice none 0 0, Value.int .i64 0, Value.int .i64 0, Value.slice none 0 0]), by kernel_rfl, by kernel_rfl, by kernel_rfl, by kernel_rfl, vn⟩
structure GnodeF where
 Kind : Int
 Table : Int
 Kids : SO aG
 Tests : List GTest
 Cols : List Int
 Col : Int
 Agg : Int
 Attrs : List GAttr
 rows : Int
 cost : Int
 ds : SO Int
def bB (n : Nat) : List (SF GnodeF) := [⟨Int, 3, bg, GnodeF.Kind⟩, ⟨Int, 3, bg, GnodeF.Table⟩, ⟨SO aG, 42, rSO (aR n), GnodeF.Kids⟩, ⟨List GTest, 43, rSl be, GnodeF.Tests⟩, ⟨List Int, 36, rSl bg, GnodeF.Cols⟩, ⟨Int, 3, bg, GnodeF.Col⟩, ⟨Int, 3, bg, GnodeF.Agg⟩, ⟨List GAttr, 44, rSl aS, GnodeF.Attrs⟩, ⟨Int, 3, bg, GnodeF.rows⟩, ⟨Int, 3, bg, GnodeF.cost⟩, ⟨SO Int, 36, rSO bg, GnodeF.ds⟩]
abbrev ck (n : Nat) : Rp GnodeF := bG (bB n)
theorem A1 {n : Nat} : TyOf Tryz.prog 152 (ck n) := ⟨fun w => Tryz.isAgg152 w, fun w => Tryz.sizeOf152 w⟩
theorem B7 {n : Nat} : TyOf Tryz.prog 42 (rSO (aR n)) := ⟨fun w => Tryz.isAgg42 w, fun w => Tryz.sizeOf42 w⟩
theorem l9 : TyOf Tryz.prog 36 (rSO bg) := ⟨fun w => Tryz.isAgg36 w, fun w => Tryz.sizeOf36 w⟩
structure GsizeR where
 rows : Int
 cost : Int
 ds : SO Int
def zN : List (SF GsizeR) := [⟨Int, 3, bg, GsizeR.rows⟩, ⟨Int, 3, bg, GsizeR.cost⟩, ⟨SO Int, 36, rSO bg, GsizeR.ds⟩]
abbrev vp : Rp GsizeR := bG zN
theorem A2 : TyOf Tryz.prog 150 vp := ⟨fun w => Tryz.isAgg150 w, fun w => Tryz.sizeOf150 w⟩
structure GnodeR where
 Plan : aG
 size : GsizeR
def vq (n : Nat) : List (SF GnodeR) := [⟨aG, 46, aR n, GnodeR.Plan⟩, ⟨GsizeR, 150, vp, GnodeR.size⟩]
abbrev sC (n : Nat) : Rp GnodeR := bG (vq n)
theorem A3 {n : Nat} : TyOf Tryz.prog 152 (sC n) := ⟨fun w => Tryz.isAgg152 w, fun w => by rw [show (sC n).k = 11 by show (aR n).k + 3 = 11; rw [mY]]; exact Tryz.sizeOf152 w⟩
theorem A4 {n : Nat} : StructOf Tryz.prog 152 (vq n) := ⟨⟨_, Tryz.underlying152, ⟨rfl, rfl, dl, (by rw [mY]; decide), ⟨rfl, (by rw [mY]), A2, by decide, trivial⟩⟩⟩, A3⟩
def xP (p : aG) (z : GsizeR) : GnodeF := ⟨p.Kind, p.Table, .imm p.Kids, p.Tests, p.Cols, p.Col, p.Agg, p.Attrs, z.rows, z.cost, z.ds⟩
theorem xQ {n : Nat} {h : PH} {p : aG} {z : GsizeR} {cs : List Value} (r : (sC (n + 1)).rel h ⟨p, z⟩ cs) : (ck n).rel h (xP p z) cs := by
 obtain ⟨c1, _, rfl, r1, c2, _, rfl, r2, rfl⟩ := r
 obtain ⟨c, _, rfl, q0, c, _, rfl, q1, c, _, rfl, q2, c, _, rfl, q3, c, _, rfl, q4, c, _, rfl, q5, c, _, rfl, q6, c, _, rfl, q7, rfl⟩ := r1
 obtain ⟨c, _, rfl, s0, c, _, rfl, s1, c, _, rfl, s2, rfl⟩ := r2
 simp only [List.append_assoc, List.nil_append]
 exact ⟨_, _, rfl, q0, _, _, rfl, q1, _, _, rfl, q2, _, _, rfl, q3, _, _, rfl, q4, _, _, rfl, q5, _, _, rfl, q6, _, _, rfl, q7, _, _, rfl, s0, _, _, rfl, s1, _, _, rfl, s2, rfl⟩
theorem vt {n : Nat} {p : aG} {z : GsizeR} : Sub ((sC (n + 1)).ty ⟨p, z⟩) ((ck n).ty (xP p z)) := fun h v ⟨cs, r, e⟩ => ⟨cs, xQ r, e⟩
theorem tK {n : Nat} {h : PH} {x : GnodeF} {ks : List aG} {ds : List Int} {cs : List Value} (r : (ck n).rel h x cs) (hk : ∀ v, (SO.ty (aR n) x.Kids).p h v -> (tSl (aR n) ks).p h v) (hd : ∀ v, (SO.ty bg x.ds).p h v -> (tSl bg ds).p h v) :
  (bT (n + 1)).rel h ⟨GPl.mk x.Kind x.Table ks x.Tests x.Cols x.Col x.Agg x.Attrs, ⟨x.rows, x.cost, ds⟩⟩ cs := by
 obtain ⟨c0, _, rfl, q0, c1, _, rfl, q1, c2, _, rfl, ⟨v2, rfl, q2⟩, c3, _, rfl, q3, c4, _, rfl, q4, c5, _, rfl, q5, c6, _, rfl, q6, c7, _, rfl, q7, c8, _, rfl, s0, c9, _, rfl, s1, c10, _, rfl, ⟨v10, rfl, s2⟩, rfl⟩ := r
 refine ⟨c0 ++ (c1 ++ ([v2] ++ (c3 ++ (c4 ++ (c5 ++ (c6 ++ (c7 ++ []))))))), c8 ++ (c9 ++ ([v10] ++ [])), by simp only [List.append_assoc, List.nil_append, List.append_nil], ?_, ?_⟩
 · exact ⟨_, _, rfl, q0, _, _, rfl, q1, _, _, rfl, ⟨_, rfl, hk _ q2⟩, _, _, rfl, q3, _, _, rfl, q4, _, _, rfl, q5, _, _, rfl, q6, _, _, rfl, q7, rfl⟩
 · exact ⟨_, [], by simp only [List.append_nil], ⟨_, _, rfl, s0, _, _, rfl, s1, _, _, rfl, ⟨_, rfl, hd _ s2⟩, rfl⟩, rfl⟩
theorem nF (h : PH) : vp.rel h ⟨0, 0, .raw (.slice none 0 0)⟩ [Value.int .i64 0, Value.int .i64 0, Value.slice none 0 0] := ⟨[Value.int .i64 0], _, rfl, rfl, [Value.int .i64 0], _, rfl, rfl, [Value.slice none 0 0], [], rfl, ⟨_, rfl, rfl, rfl⟩, rfl⟩
def vu : GsizeR := ⟨0, 0, .raw (.slice none 0 0)⟩
theorem A5 {n : Nat} : ∀ h, ((ck n).ty (xP GPl.zero vu)).p h (.agg #[Value.int .i64 0, Value.int .i64 0, Value.slice none 0 0, Value.slice none 0 0, Value.slice none 0 0, Value.int .i64 0, Value.int .i64 0, Value.slice none 0 0, Value.int .i64 0, Value.int .i64 0, Value.slice none 0 0]) := fun h => vt h _ ⟨_, ⟨_, _, rfl, (aR (n + 1)).cells (ss h), ⟨_, [], by rw [List.append_nil], nF h, rfl⟩⟩, rfl⟩
theorem vv {n m : Nat} (hm : n = m + 1) : ∀ h, ((bT n).ty ⟨GPl.zero, dF⟩).p h (.agg #[Value.int .i64 0, Value.int .i64 0, Value.slice none 0 0, Value.slice none 0 0, Value.slice none 0 0, Value.int .i64 0, Value.int .i64 0, Value.slice none 0 0, Value.int .i64 0, Value.int .i64 0, Value.slice none 0 0]) := hm ▸ vn
theorem A6 {n m : Nat} (hm : n = m + 1) : ElT Tryz.prog 46 (aR n) 128 GPl.zero := hm ▸ C5
theorem yN {n m : Nat} (hm : n = m + 1) : ElT Tryz.prog 152 (bT n) 168 ⟨GPl.zero, dF⟩ := hm ▸ B6
theorem vw {n : Nat} {xs : List Gnode} {h : PH} {v : Value} (hv : (tSl (bT n) xs).p h v) : ∃ m, 0 < xs.length -> n = m + 1 := by
 obtain ⟨ao, cap, e, H⟩ := hv
 cases xs with
 | nil => exact ⟨0, fun q => absurd q (by simp)⟩
 | cons x xs =>
   obtain ⟨b, off, ea, H2⟩ := H (by simp)
   obtain ⟨cs, _, r⟩ := H2 0 x rfl
   obtain ⟨c1, _, _, r1, _⟩ := (show SF.rel h x (vm n) cs from r)
   obtain ⟨m, hm⟩ := rPl_pos cPl aS be r1
   exact ⟨m, fun _ => hm⟩
theorem xR {b m n : Nat} {x : GnodeF} {v : Value} (hx : x.Kids = .raw v) : SPs (box b 152 (ck m) x) (box b 152 (ck n) x) := fun h q ⟨cs, r, e⟩ => by
 refine ⟨cs, ?_, e⟩
 obtain ⟨c, _, rfl, q0, c, _, rfl, q1, c, _, rfl, ⟨u, e2, q2⟩, rest⟩ := (show SF.rel h x (bB m) cs from r)
 exact ⟨_, _, rfl, q0, _, _, rfl, q1, _, _, rfl, ⟨u, e2, by show (SO.ty (aR n) x.Kids).p h u; rw [hx]; have q2 : (SO.ty (aR m) x.Kids).p h u := q2; rw [hx] at q2; exact q2⟩, rest⟩
theorem Frz2.ds {b n : Nat} {v : Value} {xs : List Int} {a1 a2 : Int} {a3 : SO aG} {a4 : List GTest} {a5 : List Int} {a6 a7 : Int} {a8 : List GAttr} {a9 a10 : Int} {S : List SP} :
  Frz2 (Lg.box b 152 (ck n) ⟨a1, a2, a3, a4, a5, a6, a7, a8, a9, a10, .raw v⟩ :: Lg.own 3 bg v xs :: S) (Lg.box b 152 (ck n) ⟨a1, a2, a3, a4, a5, a6, a7, a8, a9, a10, .imm xs⟩) :=
 Frz2.box fun h m cs d st r => by
  have hv := D6 h m v d st rfl
  obtain ⟨c0, _, rfl, q0, c1, _, rfl, q1, c2, _, rfl, q2, c3, _, rfl, q3, c4, _, rfl, q4, c5, _, rfl, q5, c6, _, rfl, q6, c7, _, rfl, q7, c8, _, rfl, s0, c9, _, rfl, s1, c10, _, rfl, ⟨v10, rfl, s2⟩, rfl⟩ := r
  have le := Dy h m
  have s2 : v10 = v := s2.1
  subst s2
  exact ⟨_, _, rfl, bg.mono le q0, _, _, rfl, bg.mono le q1, _, _, rfl, (rSO (aR n)).mono le q2, _, _, rfl, (rSl be).mono le q3, _, _, rfl, (rSl bg).mono le q4, _, _, rfl, bg.mono le q5, _, _, rfl, bg.mono le q6, _, _, rfl, (rSl aS).mono le q7, _, _, rfl, bg.mono le s0, _, _, rfl, bg.mono le s1, _, _, rfl, ⟨_, rfl, hv⟩, rfl⟩
theorem Frz.node {b n : Nat} {vk vd : Value} {ks : List aG} {ds : List Int} {a1 a2 : Int} {a4 : List GTest} {a5 : List Int} {a6 a7 : Int} {a8 : List GAttr} {a9 a10 : Int} {S : List SP} :
  Frz (Lg.box b 152 (ck n) ⟨a1, a2, .raw vk, a4, a5, a6, a7, a8, a9, a10, .raw vd⟩ :: Lg.own 46 (aR n) vk ks :: Lg.own 3 bg vd ds :: S) (tAt b 0) (bx (bT (n + 1)) ⟨GPl.mk a1 a2 ks a4 a5 a6 a7 a8, ⟨a9, a10, ds⟩⟩) :=
 En fun h m cs d st r => by
  have le := Dy h m
  obtain ⟨m1, m2, d12, e, ho, st2⟩ := st
  have hd := PH.disj_join'.1 (e ▸ d)
  have hk : (tSl (aR n) ks).p (h.join m) vk := by
   have := D6 (S := []) h m1 vk hd.1 ⟨m1, PH.emp, DM _, (DJ _).symm, ho, rfl⟩ rfl
   refine (tSl (aR n) ks).mono ?_ this
   subst e; rw [<- DH]; exact Dy _ _
  have hdv : (tSl bg ds).p (h.join m) vd := by
   have := D6 h m2 vd hd.2 st2 rfl
   refine (tSl bg ds).mono ?_ this
   subst e; rw [DW d12, <- DH]; exact Dy _ _
  exact tK ((ck n).mono le r) (fun v hv => by have hv : v = vk := hv.1; rw [hv]; exact hk) (fun v hv => by have hv : v = vd := hv.1; rw [hv]; exact hdv)
theorem eB {α β : Type} [Inhabited α] {f : β -> α -> β} {a : β} {l : List α} {i : Nat} (h : i < l.length) : (l.take (i + 1)).foldl f a = f ((l.take i).foldl f a) (nth l i) := by rw [dM h, List.foldl_append]; rfl
theorem jM {β : Type} {f : β -> Nat -> β} {a : β} {i : Nat} : (List.range (i + 1)).foldl f a = f ((List.range i).foldl f a) i := by rw [List.range_succ, List.foldl_append]; rfl
theorem fK {α β : Type} {P : β -> Prop} {f : β -> α -> β} {l : List α} {a : β} (h : ∀ b, P b -> ∀ x ∈ l, P (f b x)) (h0 : P a) : P (l.foldl f a) := by
  induction l generalizing a with
  | nil => exact h0
  | cons y l ih => exact ih (fun b hb x hx => h b hb x (List.mem_cons_of_mem _ hx)) (h a h0 y List.mem_cons_self)
def eZ (n b : Int) : Int := (n + max b 1 - 1) / max b 1
def rB (d : List Int) (a : Int) (s : GSide) : Int := if s.Var = 0 then max a (nth d s.Col.toNat) else a
def ma (t : GTest) (d : List Int) : Int := if t.Op = 2 then 1 else if t.Op ≠ 1 \/ t.Add ≠ 0 then 3 else [t.Left, t.Right].foldl (rB d) 1
def lr (d cols : List Int) : Int := cols.foldl (fun a c => min 1000000000 (a * (nth d c.toNat + 1))) 1
def nG (k : Gnode) (cols : List Int) : Int := min k.size.rows (lr k.size.distinct cols)
def vx (d : List Int) (l : List GTest) (r : Int) : Int := l.foldl (fun r t => eZ r (ma t d)) r
def oo (l r : Gnode) (i : Nat) : Int := columnL r.Plan.Attrs (nth l.Plan.Attrs i).Name
def rC (l r : Gnode) (a : Int) (i : Nat) : Int := if 0 <= oo l r i then eZ a (max (nth l.size.distinct i) (nth r.size.distinct (oo l r i).toNat)) else a
def ic (l r : Gnode) (n : Nat) : Int := (List.range n).foldl (rC l r) (min 1000000000 (l.size.rows * r.size.rows))
def vy (l r : Gnode) (n : Nat) : List Nat := (List.range n).filter fun k => decide (columnL l.Plan.Attrs (nth r.Plan.Attrs k).Name < 0)
def jDs (l r : Gnode) (n : Nat) : List Int := l.size.distinct ++ (vy l r n).map fun k => nth r.size.distinct k
def uDs (a b : List Int) (n : Nat) : List Int := (List.range n).map fun i => nth a i + nth b i
def iS (k : Gnode) (cols : List Int) : Int := if cols.length = 0 then 1 else nG k cols
def cm (d cols : List Int) : List Int := cols.map fun c => nth d c.toNat
def cL (x : Gplanner) (p : aG) (ks : List Gnode) : Int :=
  if p.Kind = 1 then nth x.st.Rows p.Table.toNat
  else if p.Kind = 2 then vx (nth ks 0).size.distinct p.Tests (nth ks 0).size.rows
  else if p.Kind = 3 then nG (nth ks 0) p.Cols
  else if p.Kind = 8 then iS (nth ks 0) p.Cols
  else if p.Kind = 4 then ic (nth ks 0) (nth ks 1) (nth ks 0).Plan.Attrs.length
  else if p.Kind = 5 then min 1000000000 ((nth ks 0).size.rows + (nth ks 1).size.rows)
  else (nth ks 0).size.rows
def dsM (x : Gplanner) (p : aG) (ks : List Gnode) : List Int :=
  if p.Kind = 1 then nth x.st.Distinct p.Table.toNat
  else if p.Kind = 2 then (nth ks 0).size.distinct
  else if p.Kind = 3 then cm (nth ks 0).size.distinct p.Cols
  else if p.Kind = 8 then cm (nth ks 0).size.distinct p.Cols ++ [iS (nth ks 0) p.Cols]
  else if p.Kind = 4 then jDs (nth ks 0) (nth ks 1) (nth ks 1).Plan.Attrs.length
  else if p.Kind = 5 then uDs (nth ks 0).size.distinct (nth ks 1).size.distinct (nth ks 0).size.distinct.length
  else (nth ks 0).size.distinct
def bR (ks : List Gnode) : Int := ks.foldl (fun c k => min 1000000000 (c + k.size.cost)) 0
def makeM (x : Gplanner) (p : aG) (ks : List Gnode) : Gnode := ⟨GPl.mk p.Kind p.Table (ks.map Gnode.Plan) p.Tests p.Cols p.Col p.Agg p.Attrs, ⟨cL x p ks, min 1000000000 (bR ks + cL x p ks), (dsM x p ks).map fun d => min d (cL x p ks)⟩⟩
def fm (n : Int) : Prop := 0 <= n /\ n <= 1000000000
def DsOk (d : List Int) : Prop := ∀ x ∈ d, fm x
theorem DsOk.nth {d : List Int} (h : DsOk d) (i : Nat) : fm (nth d i) := by
  by_cases hi : i < d.length
  · exact h _ (aH hi)
  · rw [vg hi]; exact ⟨by decide, by decide⟩
structure NdOk (k : Gnode) : Prop where
  r : fm k.size.rows
  c : fm k.size.cost
  d : DsOk k.size.distinct
  n : k.size.distinct.length = k.Plan.Attrs.length
  a : k.Plan.Attrs.length <= 1000000
def mb (k : Nat) (t : GTest) : Prop := ∀ s ∈ [t.Left, t.Right], s.Var = 0 -> 0 <= s.Col /\ s.Col < k
def d9 (k : Nat) (l : List Int) : Prop := ∀ c ∈ l, 0 <= c /\ c < k
theorem lC {n : Int} (b : Int) (h : 0 <= n) : 0 <= eZ n b /\ eZ n b <= n := by
  unfold eZ
  have hb : 1 <= max b 1 := by omega
  generalize max b 1 = c at hb
  refine ⟨Int.ediv_nonneg (by omega) (by omega), ?_⟩
  have h2 : n * 1 <= n * c := Int.mul_le_mul_of_nonneg_left hb h
  have h3 : (n + 1) * c = n * c + c := by rw [Int.add_mul, Int.one_mul]
  have : (n + c - 1) / c < n + 1 := Int.ediv_lt_of_lt_mul (by omega) (by omega)
  omega
theorem zP {d : List Int} (hd : DsOk d) {a : Int} (s : GSide) (ha : 1 <= a /\ a <= 1000000000) : 1 <= rB d a s /\ rB d a s <= 1000000000 := by
  unfold rB
  have := hd.nth s.Col.toNat
  unfold fm at this
  split <;> omega
theorem zQ {d : List Int} (hd : DsOk d) (t : GTest) : 1 <= ma t d /\ ma t d <= 1000000000 := by
  unfold ma
  split
  · omega
  · split
    · omega
    · exact fK (P := fun a => 1 <= a /\ a <= 1000000000) (fun b hb x _ => zP hd x hb) (by omega)
theorem mc {d : List Int} (hd : DsOk d) (c a : Int) (ha : 1 <= a /\ a <= 1000000000) : (1 <= a * (nth d c.toNat + 1) /\ a * (nth d c.toNat + 1) <= 1000000001000000000) := by
  have h1 := hd.nth c.toNat
  unfold fm at h1
  have h2 : 1 * 1 <= a * (nth d c.toNat + 1) := Int.mul_le_mul (by omega) (by omega) (by omega) (by omega)
  have h3 : a * (nth d c.toNat + 1) <= 1000000000 * 1000000001 := Int.mul_le_mul (by omega) (by omega) (by omega) (by omega)
  omega
theorem rD {d : List Int} (hd : DsOk d) (cols : List Int) : 1 <= lr d cols /\ lr d cols <= 1000000000 :=
  fK (P := fun a => 1 <= a /\ a <= 1000000000) (fun b hb x _ => by have := mc hd x b hb; omega) (by omega)
theorem yO {k : Gnode} (h : NdOk k) (cols : List Int) : fm (nG k cols) := by
  have := rD h.d cols
  have := h.r
  unfold fm nG at *; omega
theorem yP {k : Gnode} (h : NdOk k) (cols : List Int) : fm (iS k cols) := by
  unfold iS
  split
  · exact ⟨by decide, by decide⟩
  · exact yO h cols
theorem vz {d : List Int} {r : Int} (h : fm r) (l : List GTest) : fm (vx d l r) := by
  unfold vx
  exact fK (P := fm) (fun b hb x _ => by have := lC (ma x d) hb.1; exact ⟨this.1, by have := hb.2; omega⟩) h
theorem vA {a b : Int} (ha : fm a) (hb : fm b) : 0 <= a * b /\ a * b <= 1000000000000000000 := by
  obtain ⟨a1, a2⟩ := ha
  obtain ⟨b1, b2⟩ := hb
  have h2 : a * b <= 1000000000 * 1000000000 := Int.mul_le_mul a2 b2 b1 (by omega)
  exact ⟨Int.mul_nonneg a1 b1, by omega⟩
theorem xS {l r : Gnode} {a : Int} (h : fm a) (i : Nat) : fm (rC l r a i) := by
  unfold rC
  split
  · have := lC (max (nth l.size.distinct i) (nth r.size.distinct (oo l r i).toNat)) h.1
    exact ⟨this.1, by have := h.2; omega⟩
  · exact h
theorem oq {l r : Gnode} (hl : NdOk l) (hr : NdOk r) (n : Nat) : fm (ic l r n) :=
  fK (P := fm) (fun b hb x _ => xS hb x) (by have := vA hl.r hr.r; unfold fm; omega)
theorem or {ks : List Gnode} (h : ∀ k ∈ ks, NdOk k) : fm (bR ks) :=
  fK (P := fm) (fun b hb x hx => by have := (h x hx).c; unfold fm at *; omega) ⟨by decide, by decide⟩
theorem nH (n b : Int) (hn : 0 <= n /\ n <= 1000000000) (hb : b <= 1000000000) : Fun1 prog 217 [tV (.int .i64 n), tV (.int .i64 b)] (tV (.int .i64 (eZ n b))) := by
 refine Spec.enter func217 rfl rfl fun h0 w0 fr0 => ?_
 have hq := lC b hn.1
 refine Jr (Za (ae (Jr (Zm (Zs (eY Sr Sr) ?_)))))
 refine Za (ae (Jr (Zm (Zm (Zs (aB Sr Sr z6) ?_)))))
 refine Zs (dN Sr Sr z6) (Zm ?_)
 refine Zs (lA Sr Sr zG zG (by unfold eZ at hq; generalize (n + max b 1 - 1) / max b 1 = q at hq ⊢; unfold fe; omega)) ?_
 refine Za (ae (aF ?_))
 refine aK (t := 4) rfl () Sr
theorem pW (t : GTest) (d : List Int) (ht : t.Op = 1 -> mb d.length t) : Fun1 prog 218 [be.ty t, tSl bg d] (tV (.int .i64 (ma t d))) := by
 refine Spec.enter func218 rfl rfl fun h0 w0 fr0 => ?_
 have hlen : [t.Left, t.Right].length = 2 := rfl
 refine Jr (Zs (aJ (R := be) Sr) (Za (ae (ar (av ?_)))))
 refine Jr (Zs (aa gd Sr rfl) (Zl ty3 Sr (Zs (aC Sr Sr) (Za (ae ?_)))))
 refine au Sr (fun h8 => ?_) (fun h8 => ?_)
 ·
  try simp only [NF] at h8
  refine Jr (Za (ae (aF ?_)))
  refine aK (t := 4) rfl () (Sub.int ?_)
  rw [ma, if_pos h8]
 try simp only [NF] at h8
 refine Jr (Zs (aa gd Sr rfl) (Zl ty3 Sr (Zs (bb Sr Sr) (Zm ?_))))
 refine Zk (aa gd Sr rfl) ?_
 refine Zg (fun hw => ab ty3 (Sub.w hw)) (Zg (fun hw => bb (Sub.w hw) Sr) (Zs (az Sr Sr) (Za (ae ?_))))
 refine au Sr (fun h12 => ?_) (fun h12 => ?_)
 ·
  try simp only [NF] at h12
  refine Jr (Za (ae (aF ?_)))
  refine aK (t := 4) rfl () (Sub.int ?_)
  rw [ma, if_neg h8, if_pos zG]
 try simp only [NF] at h12
 have h1 : t.Op = 1 /\ t.Add = 0 := by omega
 have ht2 := ht h1.1
 refine ay (Jr (Za (ae (ar (Jr ?_)))))
 refine Zs (aa gd Sr rfl) (Zl sr Sr (Zs (aa gd Sr rfl) (Zl sr Sr ?_)))
 refine Zs (ax (ys := [t.Left, t.Right]) underlying295 C0 ⟨rfl, Sr, rfl, Sr, trivial⟩ rfl (by decide)) ?_
 refine Zs (ah underlying295 Sr) (Zm (ae (av ?_)))
 refine aO (σ := Nat) (fun i => i <= [t.Left, t.Right].length) (fun i => upd (upd (upd (upd (upd (upd cg 1 (tSl bg d)) 4 (tV (.int .i64 0))) 5 (tV (.int .i64 (([t.Left, t.Right].take i).foldl (rB d) 1)))) 25 (tSl kq [t.Left, t.Right])) 26 (tV (.int .i64 ([t.Left, t.Right].length : Nat)))) 27 (tV (.int .i64 i))) (fun i => []) (fun i => [t.Left, t.Right].length - i) 0 (by simp) (zU) (LSub.rfl) ?_
 rintro i hi
 refine Jr (Zs (aA Sr Sr) (ae (ar ?_)))
 refine au Sr (fun h28 => ?_) (fun h28 => ?_)
 ·
  try simp only [NF] at h28
  have hlt : i < [t.Left, t.Right].length := by omega
  have hin := ht2 _ (aH hlt)
  refine ay (ar (av (Jr ?_)))
  refine Zs (ad (i := i) underlying295 sr Sr Sr (by rfl) (gb (by exact hlt))) ?_
  refine Zl sr Sr ?_
  refine Zx (aD (fun w => zeroValue91 w) Cy) fun v7 => ?_
  refine Ju (aj sr Sr Sr zS) fun _ => ?_
  refine bc (t := 7) (Sel.take (Dz _)) Frz.box ?_
  refine ae (Jr (Zs (aa fQ Sr rfl) (Zl ty3 Sr (Zs (aC Sr Sr) (ae ?_)))))
  refine au Sr (fun h33 => ?_) (fun h33 => ?_)
  ·
   try simp only [NF] at h33
   have hin2 := hin h33
   refine aq (Zm (Zm (Zs (aa fQ Sr rfl) (Zl ty3 Sr ?_))))
   refine Zs (ad (i := (nth [t.Left, t.Right] i).Col.toNat) underlying36 ty3 Sr Sr (by show (nth [t.Left, t.Right] i).Col = _; omega) (gb zG)) ?_
   refine Zl ty3 Sr (Zs (eY Sr Sr) (Za (ae (aq (Zs (aB Sr Sr z6) ?_)))))
   refine Zm (ae ?_)
   refine aE (σ := Nat) (s := i) (i + 1) zO zG (.u (.u (.u (SubE.upd (Sub.int (by rw [eB hlt, rB, if_pos h33])) (zU))))) (LSub.rfl)
  try simp only [NF] at h33
  refine ay (aq (Zs (aB Sr Sr z6) (Zm (ae ?_))))
  refine aE (σ := Nat) (s := i) (i + 1) zO zG (.u (.u (.u (SubE.upd (Sub.int (by rw [eB hlt, rB, if_neg h33])) (zU))))) (LSub.rfl)
 try simp only [NF] at h28
 obtain rfl : i = 2 := by omega
 refine aY (Jr (Zm (Za (ae (aF ?_)))))
 refine aK (t := 4) rfl () (Sub.int ?_)
 rw [ma, if_neg h8, if_neg zG]; rfl
theorem tL (t : GAttr) (n : ByteArray) : Fun1 prog 288 [aS.ty t, bx eH n] (tV (.bool (decide (t.Name = n)))) := by
 refine Spec.enter func288 rfl rfl fun h0 w0 fr0 => ?_
 refine Jr (Zs (aJ (R := aS) Sr) (Za (ae (Jr (Zs (aa dH Sr rfl) ?_)))))
 refine Zl ty9 Sr (Zl ty9 Sr (Zs (bU Sr Sr) (Za (ae (aF ?_)))))
 exact aK (t := 3) rfl () Sr
theorem fc (l : List GAttr) (n : ByteArray) (hl : l.length <= 1000000000000) : Fun1 prog 219 [tSl aS l, tV (.string n)] (tV (.int .i64 (columnL l n))) := by
 refine Spec.enter func219 rfl rfl fun h0 w0 fr0 => ?_
 refine Jr (Zs (aJ (R := eH) Sr) (Za (ae (Jr (Zm ?_)))))
 refine Zs (bK (As := [_]) ⟨Sr, trivial⟩) (Zs (ai (dO l hl 288 [bx eH n] (fun a => decide (a.Name = n)) (fun x _ => tL x n) call288) ⟨Sr, Sr, trivial⟩ call114) (Za (ae (aF ?_))))
 exact aK (t := 4) rfl () Sr
theorem kV (n m : Nat) (p : aG) (ks : List Gnode) (hk0 : 0 < ks.length) (hk : NdOk (nth ks 0)) (hc : d9 (nth ks 0).size.distinct.length p.Cols) (hl : p.Cols.length <= 1000000000) : Fun1 prog 216 [bx (aR (m + 1)) p, bx (rSl (bT n)) ks] (tV (.int .i64 (nG (nth ks 0) p.Cols))) := by
 refine Spec.enter func216 rfl rfl fun h0 w0 fr0 => ?_
 have hd := hk.d
 refine Jr (Za (ae (Jr (Za (ae ?_)))))
 refine ar (Jr (Zs (aa br Sr rfl) (Zl bY Sr (Zs (ah underlying36 Sr) (Zm ?_)))))
 refine ae (av ?_)
 refine aO (σ := Nat) (fun i => i <= p.Cols.length) (fun i => upd (upd (upd (upd (upd (upd cg 1 (bx (rSl (bT n)) ks)) 2 (tV (.int .i64 0))) 3 (tV (.int .i64 (lr (nth ks 0).size.distinct (p.Cols.take i))))) 7 (tSl bg p.Cols)) 8 (tV (.int .i64 p.Cols.length))) 9 (tV (.int .i64 i))) (fun i => []) (fun i => p.Cols.length - i) 0 zG (zU) (LSub.rfl) ?_
 rintro i hi
 refine Jr (Zs (aA Sr Sr) (ae (ar ?_)))
 refine au Sr (fun h10 => ?_) (fun h10 => ?_)
 ·
  try simp only [NF] at h10
  have hlt : i < p.Cols.length := by omega
  have hci := hc _ (aH hlt)
  have hpb := rD hd (p.Cols.take i)
  have hps := mc hd (nth p.Cols i) _ hpb
  have hdn := hd.nth (nth p.Cols i).toNat
  unfold fm at hdn
  refine ay (ar (av (Jr ?_)))
  refine Zs (ad (i := i) underlying36 ty3 Sr Sr (by rfl) (gb (by exact hlt))) ?_
  refine Zl ty3 Sr (Za (ae (aq (Zm (Zl iR Sr ?_)))))
  refine Zs (ad (i := 0) underlying197 eA Sr Sr (by rfl) (gb (by exact hk0))) ?_
  refine Zs (aa bX Sr rfl) (Zs (aa ci Sr rfl) (Zl bY Sr (Zm ?_)))
  refine Zs (ad (i := (nth p.Cols i).toNat) underlying36 ty3 Sr Sr (by show nth p.Cols i = _; omega) (gb (by show _ < (nth ks 0).size.distinct.length; omega))) ?_
  refine Zl ty3 Sr ?_
  refine Zs (aB Sr Sr (by show fe (nth (nth ks 0).size.distinct (nth p.Cols i).toNat + 1); unfold fe; omega)) ?_
  refine Zs (nS Sr Sr (by show fe (lr (nth ks 0).size.distinct (p.Cols.take i) * (nth (nth ks 0).size.distinct (nth p.Cols i).toNat + 1)); unfold fe; omega)) ?_
  refine Zs (dh Sr Sr) (Za (ae (aq (Zs (aB Sr Sr z6) (Zm ?_)))))
  refine ae ?_
  refine aE (σ := Nat) (s := i) (i + 1) zO zG (.u (.u (.u (SubE.upd (Sub.int (by rw [show lr (nth ks 0).size.distinct (p.Cols.take (i + 1)) = _ from eB hlt]; rfl)) (zU))))) (LSub.rfl)
 try simp only [NF] at h10
 obtain rfl : i = p.Cols.length := by omega
 refine aY (Jr (Zl iR Sr ?_))
 refine Zs (ad (i := 0) underlying197 eA Sr Sr (by rfl) (gb (by exact hk0))) ?_
 refine Zs (aa bX Sr rfl) (Zs (aa ci Sr rfl) (Zl ty3 Sr (Zm (Zs (dh Sr Sr) (Za ?_)))))
 refine ae (aF ?_)
 refine aK (t := 2) rfl () (Sub.int ?_)
 rw [List.take_length]; rfl
structure MkOk (x : Gplanner) (p : aG) (ks : List Gnode) : Prop where
  k0 : ∀ k ∈ ks, NdOk k
  n : ks.length <= 1000000
  t : p.Tests.length <= 1000000
  c : p.Cols.length <= 1000000
  k1 : p.Kind = 1 -> 0 <= p.Table /\ p.Table < x.st.Rows.length /\ p.Table < x.st.Distinct.length /\ fm (nth x.st.Rows p.Table.toNat) /\ (nth x.st.Distinct p.Table.toNat).length <= 1000000
  k2 : p.Kind ≠ 1 -> 0 < ks.length
  k3 : p.Kind = 2 -> ∀ t ∈ p.Tests, mb (nth ks 0).size.distinct.length t
  k4 : p.Kind = 3 \/ p.Kind = 8 -> d9 (nth ks 0).size.distinct.length p.Cols
  k5 : p.Kind = 4 \/ p.Kind = 5 -> 1 < ks.length
  k6 : p.Kind = 5 -> (nth ks 0).size.distinct.length <= (nth ks 1).size.distinct.length
section
variable {x : Gplanner} {p : aG} {ks : List Gnode}
theorem vB (h : p.Kind = 1) : cL x p ks = nth x.st.Rows p.Table.toNat := by simp [cL, h]
theorem vC (h : p.Kind = 2) : cL x p ks = vx (nth ks 0).size.distinct p.Tests (nth ks 0).size.rows := by simp [cL, h]
theorem vE (h : p.Kind = 3) : cL x p ks = nG (nth ks 0) p.Cols := by simp [cL, h]
theorem pX (h : p.Kind = 8) : cL x p ks = iS (nth ks 0) p.Cols := by simp [cL, h]
theorem vF (h : p.Kind = 4) : cL x p ks = ic (nth ks 0) (nth ks 1) (nth ks 0).Plan.Attrs.length := by simp [cL, h]
theorem vG (h : p.Kind = 5) : cL x p ks = min 1000000000 ((nth ks 0).size.rows + (nth ks 1).size.rows) := by simp [cL, h]
theorem vH (h1 : p.Kind ≠ 1) (h2 : p.Kind ≠ 2) (h3 : p.Kind ≠ 3) (h4 : p.Kind ≠ 4) (h5 : p.Kind ≠ 5) (h8 : p.Kind ≠ 8) : cL x p ks = (nth ks 0).size.rows := by simp [cL, h1, h2, h3, h4, h5, h8]
theorem AE (h : p.Kind = 1) : dsM x p ks = nth x.st.Distinct p.Table.toNat := by simp [dsM, h]
theorem AF (h : p.Kind = 2) : dsM x p ks = (nth ks 0).size.distinct := by simp [dsM, h]
theorem yQ (h : p.Kind = 3) : dsM x p ks = cm (nth ks 0).size.distinct p.Cols := by simp [dsM, h]
theorem yR (h : p.Kind = 8) : dsM x p ks = cm (nth ks 0).size.distinct p.Cols ++ [iS (nth ks 0) p.Cols] := by simp [dsM, h]
theorem AG (h : p.Kind = 4) : dsM x p ks = jDs (nth ks 0) (nth ks 1) (nth ks 1).Plan.Attrs.length := by simp [dsM, h]
theorem zR (h : p.Kind = 5) : dsM x p ks = uDs (nth ks 0).size.distinct (nth ks 1).size.distinct (nth ks 0).size.distinct.length := by simp [dsM, h]
theorem yS (h1 : p.Kind ≠ 1) (h2 : p.Kind ≠ 2) (h3 : p.Kind ≠ 3) (h4 : p.Kind ≠ 4) (h5 : p.Kind ≠ 5) (h8 : p.Kind ≠ 8) : dsM x p ks = (nth ks 0).size.distinct := by simp [dsM, h1, h2, h3, h4, h5, h8]
theorem A7 (h : MkOk x p ks) (hk : p.Kind ≠ 1) : NdOk (nth ks 0) := h.k0 _ (aH (h.k2 hk))
theorem xT (h : MkOk x p ks) (hk : p.Kind = 4 \/ p.Kind = 5) : NdOk (nth ks 1) := h.k0 _ (aH (h.k5 hk))
theorem ot (h : MkOk x p ks) : fm (cL x p ks) := by
  by_cases h1 : p.Kind = 1
  · rw [vB h1]; exact (h.k1 h1).2.2.2.1
  · have ha := A7 h h1
    by_cases h2 : p.Kind = 2
    · rw [vC h2]; exact vz ha.r _
    · by_cases h3 : p.Kind = 3
      · rw [vE h3]; exact yO ha _
      · by_cases h8 : p.Kind = 8
        · rw [pX h8]; exact yP ha _
        · by_cases h4 : p.Kind = 4
          · rw [vF h4]; exact oq ha (xT h (.inl h4)) _
          · by_cases h5 : p.Kind = 5
            · rw [vG h5]
              have h1 := ha.r
              have h2 := (xT h (.inr h5)).r
              unfold fm at *; omega
            · rw [vH h1 h2 h3 h4 h5 h8]; exact ha.r
theorem vI (h : MkOk x p ks) : (dsM x p ks).length <= 10000000 := by
  by_cases h1 : p.Kind = 1
  · rw [AE h1]; have := (h.k1 h1).2.2.2.2; omega
  · have ha := A7 h h1
    have hal := ha.n
    have haa := ha.a
    by_cases h2 : p.Kind = 2
    · rw [AF h2]; omega
    · by_cases h3 : p.Kind = 3
      · rw [yQ h3, cm, List.length_map]; have := h.c; omega
      · by_cases h8 : p.Kind = 8
        · rw [yR h8, cm, List.length_append, List.length_map, List.length_singleton]; have := h.c; omega
        · by_cases h4 : p.Kind = 4
          · have hb := xT h (.inl h4)
            have hba := hb.a
            rw [AG h4, jDs, List.length_append, List.length_map]
            have : (vy (nth ks 0) (nth ks 1) (nth ks 1).Plan.Attrs.length).length <= _ := List.length_filter_le _ _
            rw [List.length_range] at this
            omega
          · by_cases h5 : p.Kind = 5
            · rw [zR h5, uDs, List.length_map, List.length_range]; omega
            · rw [yS h1 h2 h3 h4 h5 h8]; omega
end
theorem Ef {n m : Nat} {p : aG} (h : n = m + 1) : Sub (bx (aR n) p) (bx (aR (m + 1)) p) := h ▸ Sr
def pY (l : List Int) (r : Int) (i : Nat) : List Int := (l.take i).map (fun d => min d r) ++ l.drop i
theorem jN (l : List Int) (r : Int) (i : Nat) : (pY l r i).length = l.length := by simp [pY]; omega
theorem xU {l : List Int} {r : Int} {i : Nat} (h : i < l.length) : nth (pY l r i) i = nth l i := by
  have h1 : i < (pY l r i).length := by rw [jN]; exact h
  rw [nth_get h1, nth_get h]
  simp [pY, List.getElem_append_right, Nat.min_eq_left (Nat.le_of_lt h)]
theorem xV {l : List Int} {r : Int} {i : Nat} (h : i < l.length) : (pY l r i).set i (min (nth (pY l r i) i) r) = pY l r (i + 1) := by
  rw [xU h]
  unfold pY
  rw [dM h, List.map_append, List.set_append_right _ _ (by simp; omega)]
  have : i - ((l.take i).map fun d => min d r).length = 0 := by simp; omega
  rw [this]
  have hd : l.drop i = nth l i :: l.drop (i + 1) := by rw [nth_get h]; exact List.drop_eq_getElem_cons h
  rw [hd]; simp
theorem A8 (l : List Int) (r : Int) : pY l r 0 = l := by simp [pY]
theorem xW (l : List Int) (r : Int) : pY l r l.length = l.map fun d => min d r := by simp [pY]
theorem pZ {ks : List Gnode} {i : Nat} (h : i < ks.length) : bR (ks.take (i + 1)) = min 1000000000 (bR (ks.take i) + (nth ks i).size.cost) := eB h
theorem md {ks : List Gnode} (h : ∀ k ∈ ks, NdOk k) (i : Nat) : fm (bR (ks.take i)) := or fun k hk => h k (List.mem_of_mem_take hk)
theorem p5 {l r : Gnode} {k : Nat} : vy l r (k + 1) = if columnL l.Plan.Attrs (nth r.Plan.Attrs k).Name < 0 then vy l r k ++ [k] else vy l r k := by
  unfold vy
  rw [List.range_succ, List.filter_append]
  split <;> simp [*]
theorem A9 {l r : Gnode} {k : Nat} (h : columnL l.Plan.Attrs (nth r.Plan.Attrs k).Name < 0) : jDs l r (k + 1) = jDs l r k ++ [nth r.size.distinct k] := by unfold jDs; rw [p5, if_pos h, List.map_append, List.append_assoc]; rfl
theorem Ba {l r : Gnode} {k : Nat} (h : ¬ columnL l.Plan.Attrs (nth r.Plan.Attrs k).Name < 0) : jDs l r (k + 1) = jDs l r k := by unfold jDs; rw [p5, if_neg h]
theorem sD (l r : Gnode) (k : Nat) : (vy l r k).length <= k := by
  have : (vy l r k).length <= _ := List.length_filter_le _ _
  rwa [List.length_range] at this
theorem sE (a b : List Int) (k : Nat) : uDs a b (k + 1) = uDs a b k ++ [nth a k + nth b k] := by unfold uDs; rw [List.range_succ, List.map_append]; rfl
theorem ie {d cols : List Int} {i : Nat} (h : i < cols.length) : cm d (cols.take (i + 1)) = cm d (cols.take i) ++ [nth d (nth cols i).toNat] := by unfold cm; rw [dM h, List.map_append]; rfl
theorem p6 (x : Gplanner) (m n : Nat) (p : aG) (ks : List Gnode) (hm : MkOk x p ks) : Fun1 prog 146 [bu.ty x, (aR (m + 1)).ty p, tSl (bT n) ks] ((bT (n + 1)).ty (makeM x p ks)) := by
 refine Spec.enter func146 rfl rfl fun h0 w0 fr0 => ?_
 refine eX 2 (fun _ _ r => vw r) fun ⟨n1, hn1⟩ => ?_
 obtain ⟨q1, q2, q3, q4, q5, q6, q7, q8, q9, q10⟩ := id hm
 have hcb := or q1
 have hrb := ot hm
 have hdl := vI hm
 unfold fm at hcb hrb
 refine Jr (Zs (aJ (R := bu) Sr) (Zs (aJ (R := (aR (m + 1))) Sr) (Zs (aJ (R := (rSl (bT n))) Sr) ?_)))
 refine Zx (aD (R := bT (n + 1)) (fun w => zeroValue152 w) vn) fun b6 => ?_
 refine ae (Jr (Zl dl Sr (Zs (aU (x := (⟨p, vu⟩ : GnodeR)) (zs := [[Value.int .i64 0, Value.int .i64 0, Value.slice none 0 0, Value.slice none 0 0, Value.slice none 0 0, Value.int .i64 0, Value.int .i64 0, Value.slice none 0 0], [Value.int .i64 0, Value.int .i64 0, Value.slice none 0 0]]) (A4 (n := m + 1)) (fun w => zeroValue152 w) ⟨Sr, trivial⟩ ⟨⟨Sr, rfl⟩, fun _ => nF _, trivial⟩) ?_)))
 refine Zx (aD (R := ck m) (fun w => zeroValue152 w) A5) fun b7 => ?_
 refine Ju (aj A1 Sr vt zS) fun _ => ?_
 refine ae (Jr (Zs (ap (o := 0) (o' := 0) (bX (n := n + 1)) Sr rfl rfl) (Zs (ap (o := 0) (o' := 2) (br (n := n)) Sr rfl rfl) ?_)))
 refine Ju (aI (b := b7) (n := 2) (fs := (bB m)) (R := rV) (y := xP p vu) (y' := (⟨p.Kind, p.Table, .raw (.slice none 0 0), p.Tests, p.Cols, p.Col, p.Agg, p.Attrs, 0, 0, .raw (.slice none 0 0)⟩ : GnodeF)) AS Sr (DG rfl) zS ⟨rfl, ⟨rfl, ⟨fun _ _ q => DR q, rfl, by intro g hg; simp only [List.mem_cons, List.not_mem_nil, or_false] at hg; rcases hg with rfl | rfl | rfl | rfl | rfl | rfl | rfl | rfl <;> rfl⟩⟩⟩) fun _ => ?_
 refine ae (ar (Jr (Zl iR Sr (Zs (ah underlying197 Sr) (Zm ?_)))))
 refine ae (av ?_)
 refine aO (σ := Nat × Value) (fun ⟨i, vk⟩ => i <= ks.length) (fun ⟨i, vk⟩ => upd (upd (upd (upd (upd (upd (upd (upd cg 3 (bx bu x)) 4 (bx (aR (m + 1)) p)) 5 (bx (rSl (bT n)) ks)) 6 (tAt b6 0)) 7 (tAt b7 0)) 28 (tSl (bT n) ks)) 29 (tV (.int .i64 ks.length))) 30 (tV (.int .i64 i))) (fun ⟨i, vk⟩ => [box b7 152 (ck n) ⟨p.Kind, p.Table, .raw vk, p.Tests, p.Cols, p.Col, p.Agg, p.Attrs, 0, (bR (ks.take i)), .raw (.slice none 0 0)⟩, own 46 (aR n) vk ((ks.take i).map Gnode.Plan), box b6 152 (bT (n + 1)) ⟨GPl.zero, dF⟩]) (fun ⟨i, vk⟩ => ks.length - i) (0, .slice none 0 0) (by exact Nat.zero_le _) (zU) (LSub.trans (.c zS (xR (n := n) rfl) LSub.rfl) (LSub.cons (Sel.take (Dz _)) SPs.rfl (DB))) ?_
 rintro ⟨i, vk⟩ hi
 try dsimp only at hi
 refine Jr (Zs (aA Sr Sr) (ae (ar ?_)))
 refine au Sr (fun h31 => ?_) (fun h31 => ?_)
 ·
  try simp only [NF] at h31
  have hlt : i < ks.length := by omega
  have hci := md q1 i
  have hcc := (q1 _ (aH hlt)).c
  unfold fm at hci hcc
  refine ay (ar (av (Jr ?_)))
  refine Zs (ad (i := i) underlying197 eA Sr Sr (by rfl) (gb (by exact hlt))) ?_
  refine Zl eA Sr ?_
  refine Zx (aD (R := bT n) (fun w => zeroValue152 w) (vv (hn1 zG))) fun b9 => ?_
  refine Ju (aj eA Sr Sr zS) fun _ => ?_
  refine bc (t := 9) (Sel.take (Dz _)) Frz.box ?_
  refine ae (Jr (Zs (ap (o := 0) (o' := 0) (bX (n := n + 1)) Sr rfl rfl) (Zs (ap (o := 0) (o' := 2) (br (n := n)) Sr rfl rfl) ?_)))
  refine Zs (aQ (b := b7) (n := 2) (fs := (bB n)) B7 Sr rfl zS) ?_
  refine Zs (aa bX Sr rfl) (Zl dl Sr ?_)
  refine Zs (ax (ys := [(nth ks i).Plan]) underlying42 (A6 (hn1 zG)) ⟨rfl, Sr, trivial⟩ rfl (by rw [mY]; decide)) ?_
  refine Zx (aL underlying42 (A6 (hn1 zG)) Sr Sr zS (by simp only [List.length_append, List.length_cons, List.length_nil, List.length_map, List.length_take, uDs, cm, List.length_range]; omega) (by simp only [List.length_append, List.length_cons, List.length_nil, List.length_map, List.length_take, uDs, cm, List.length_range]; omega)) fun v40 => ?_
  refine Zs (ap (o := 0) (o' := 0) (bX (n := n + 1)) Sr rfl rfl) (Zs (ap (o := 0) (o' := 2) (br (n := n)) Sr rfl rfl) ?_)
  refine Ju (aI (b := b7) (n := 2) (fs := (bB n)) (R := rV) (y' := (⟨p.Kind, p.Table, .raw v40, p.Tests, p.Cols, p.Col, p.Agg, p.Attrs, 0, (bR (ks.take i)), .raw (.slice none 0 0)⟩ : GnodeF)) AS Sr Sr zS (by exact ⟨rfl, ⟨rfl, ⟨fun _ _ q => DR q, rfl, by intro g hg; simp only [List.mem_cons, List.not_mem_nil, or_false] at hg; rcases hg with rfl | rfl | rfl | rfl | rfl | rfl | rfl | rfl <;> rfl⟩⟩⟩)) fun _ => ?_
  refine ae (aq (Zs (ap (o := 0) (o' := 8) (bX (n := n + 1)) Sr rfl rfl) (Zs (ap (o := 8) (o' := 9) ci Sr rfl rfl) ?_)))
  refine Zs (aQ (b := b7) (n := 9) (fs := (bB n)) ty3 Sr rfl zS) ?_
  refine Zs (aa bX Sr rfl) (Zs (aa ci Sr rfl) (Zl ty3 Sr ?_))
  refine Zs (aB Sr Sr (by show fe ((bR (ks.take i)) + (nth ks i).size.cost); unfold fe; omega)) ?_
  refine Zs (dh Sr Sr) (Zs (ap (o := 0) (o' := 8) (bX (n := n + 1)) Sr rfl rfl) (Zs (ap (o := 8) (o' := 9) ci Sr rfl rfl) ?_))
  refine Ju (aI (b := b7) (n := 9) (fs := (bB n)) (R := bg) (y' := (⟨p.Kind, p.Table, .raw v40, p.Tests, p.Cols, p.Col, p.Agg, p.Attrs, 0, (min 1000000000 ((bR (ks.take i)) + (nth ks i).size.cost)), .raw (.slice none 0 0)⟩ : GnodeF)) ty3 Sr Sr zS (by exact ⟨rfl, ⟨rfl, ⟨rfl, ⟨rfl, ⟨rfl, ⟨rfl, ⟨rfl, ⟨rfl, ⟨rfl, ⟨fun _ _ q => q, rfl, by intro g hg; simp only [List.mem_cons, List.not_mem_nil, or_false] at hg; subst hg; rfl⟩⟩⟩⟩⟩⟩⟩⟩⟩⟩)) fun _ => ?_
  refine ae (aq (Zs (aB Sr Sr z6) (Zm (ae ?_))))
  refine aE (σ := Nat × Value) (s := (i, vk)) (i + 1, v40) zO (by show i + 1 <= _; omega) (zU) (.c zS (SPs.of (A := box b7 152 (ck n) ⟨p.Kind, p.Table, .raw v40, p.Tests, p.Cols, p.Col, p.Agg, p.Attrs, 0, (min 1000000000 ((bR (ks.take i)) + (nth ks i).size.cost)), .raw (.slice none 0 0)⟩) (by rw [pZ hlt])) (.c zS (SPs.of (A := own 46 (aR n) v40 ((ks.take i).map Gnode.Plan ++ [(nth ks i).Plan])) (by rw [dM hlt, List.map_append]; rfl)) (zL)))
 try simp only [NF] at h31
 obtain rfl : i = ks.length := by omega
 refine aY (ar ?_)
 refine bZ (L' := [box b7 152 (ck n) ⟨p.Kind, p.Table, .raw vk, p.Tests, p.Cols, p.Col, p.Agg, p.Attrs, 0, (bR ks), .raw (.slice none 0 0)⟩, own 46 (aR n) vk (ks.map Gnode.Plan), box b6 152 (bT (n + 1)) ⟨GPl.zero, dF⟩]) (.c zS (SPs.of (A := box b7 152 (ck n) ⟨p.Kind, p.Table, .raw vk, p.Tests, p.Cols, p.Col, p.Agg, p.Attrs, 0, (bR (ks.take ks.length)), .raw (.slice none 0 0)⟩) (by rw [List.take_length])) (.c zS (SPs.of (A := own 46 (aR n) vk ((ks.take ks.length).map Gnode.Plan)) (by rw [List.take_length])) (zL))) ?_
 refine aq (Zs (bK (As := [_, _]) ⟨Sr, Sr, trivial⟩) (Za (ae (ar (Jr ?_)))))
 refine Zs (aa br Sr rfl) (Zl ty3 Sr (ae ?_))
 refine AO (X := Unit) (fun _ => upd (upd cg 6 (tAt b6 0)) 7 (tAt b7 0)) (fun _ => [box b7 152 (ck n) ⟨p.Kind, p.Table, .raw vk, p.Tests, p.Cols, p.Col, p.Agg, p.Attrs, (cL x p ks), (bR ks), .imm (dsM x p ks)⟩, own 46 (aR n) vk (ks.map Gnode.Plan), box b6 152 (bT (n + 1)) ⟨GPl.zero, dF⟩]) ?_ ?_
 ·
  skip
  refine av (Jr (Zs (aC Sr Sr) (Za (ae ?_))))
  refine au Sr (fun h71 => ?_) (fun h71 => ?_)
  ·
   try simp only [NF] at h71
   have hk : p.Kind = 1 := h71
   have hq5 := q5 hk
   refine cl [⟨0, [3], 0⟩, ⟨1, [73], 0⟩, ⟨2, [74], 0⟩, ⟨3, [4], 0⟩, ⟨4, [76], 0⟩, ⟨5, [75, 77], 0⟩, ⟨6, [78], 0⟩, ⟨7, [3], 0⟩, ⟨8, [80], 0⟩, ⟨9, [81], 0⟩, ⟨10, [4], 0⟩, ⟨11, [83], 0⟩, ⟨12, [82, 84], 0⟩, ⟨13, [85], 0⟩, ⟨14, [7], 0⟩, ⟨15, [87], 0⟩, ⟨16, [79, 88], 2⟩, ⟨17, [7], 0⟩, ⟨18, [89], 0⟩, ⟨19, [86, 90], 2⟩] rfl (by kernel_rfl) ?_
   refine ZX rfl (aa vl Sr rfl) ?_
   refine ZX rfl (aa iO Sr rfl) ?_
   refine ZX rfl (ab bY Sr) ?_
   refine ZX rfl (aa br Sr rfl) ?_
   refine ZX rfl (ab ty3 Sr) ?_
   refine ZX rfl (ad (i := p.Table.toNat) underlying36 ty3 Sr Sr (by show p.Table = _; omega) (gb (by show _ < x.st.Rows.length; omega))) ?_
   refine ZX rfl (ab ty3 Sr) ?_
   refine ZX rfl (aa vl Sr rfl) ?_
   refine ZX rfl (aa iO Sr rfl) ?_
   refine ZX rfl (ab nq Sr) ?_
   refine ZX rfl (aa br Sr rfl) ?_
   refine ZX rfl (ab ty3 Sr) ?_
   refine ZX rfl (ad (i := p.Table.toNat) underlying58 bY Sr Sr (by show p.Table = _; omega) (gb (by show _ < x.st.Distinct.length; omega))) ?_
   refine ZX rfl (ab bY Sr) ?_
   refine ZX rfl (ap (o := 0) (o' := 8) (bX (n := n + 1)) Sr rfl rfl) ?_
   refine ZX rfl (ap (o := 8) (o' := 8) ci Sr rfl rfl) ?_
   refine bI rfl rfl rfl (aI (b := b7) (n := 8) (fs := (bB n)) (R := bg) (y' := (⟨p.Kind, p.Table, .raw vk, p.Tests, p.Cols, p.Col, p.Agg, p.Attrs, (nth x.st.Rows p.Table.toNat), (bR ks), .raw (.slice none 0 0)⟩ : GnodeF)) ty3 Sr Sr zS (by exact ⟨rfl, ⟨rfl, ⟨rfl, ⟨rfl, ⟨rfl, ⟨rfl, ⟨rfl, ⟨rfl, ⟨fun _ _ q => q, rfl, by intro g hg; simp only [List.mem_cons, List.not_mem_nil, or_false] at hg; rcases hg with rfl | rfl <;> rfl⟩⟩⟩⟩⟩⟩⟩⟩⟩)) fun _ => ?_
   refine ZX rfl (ap (o := 0) (o' := 8) (bX (n := n + 1)) Sr rfl rfl) ?_
   refine ZX rfl (ap (o := 8) (o' := 10) ci Sr rfl rfl) ?_
   refine bI rfl rfl rfl (aI (b := b7) (n := 10) (fs := (bB n)) (R := (rSl bg)) (y' := (⟨p.Kind, p.Table, .raw vk, p.Tests, p.Cols, p.Col, p.Agg, p.Attrs, (nth x.st.Rows p.Table.toNat), (bR ks), .imm (nth x.st.Distinct p.Table.toNat)⟩ : GnodeF)) bY Sr Sr zS (by exact ⟨rfl, ⟨rfl, ⟨rfl, ⟨rfl, ⟨rfl, ⟨rfl, ⟨rfl, ⟨rfl, ⟨rfl, ⟨rfl, ⟨fun _ _ q => D8 q, rfl, by intro g hg; cases hg⟩⟩⟩⟩⟩⟩⟩⟩⟩⟩⟩)) fun _ => ?_
   refine cC ?_
   refine iM (E := fun _ => cg) () (zU) (.c zS (SPs.of (A := box b7 152 (ck n) ⟨p.Kind, p.Table, .raw vk, p.Tests, p.Cols, p.Col, p.Agg, p.Attrs, (nth x.st.Rows p.Table.toNat), (bR ks), .imm (nth x.st.Distinct p.Table.toNat)⟩) (by rw [vB hk, AE hk])) (zL))
  try simp only [NF] at h71
  have hk0 : 0 < ks.length := q6 h71
  have hka := A7 hm h71
  have hkan := hka.n
  have hkaa := hka.a
  have hkar := hka.r
  unfold fm at hkar
  refine Jr (Zs (aC Sr Sr) (Za (ae ?_)))
  refine au Sr (fun h91 => ?_) (fun h91 => ?_)
  ·
   try simp only [NF] at h91
   have hk : p.Kind = 2 := h91
   refine ar ?_
   refine cl [⟨0, [5], 0⟩, ⟨1, [93], 0⟩, ⟨2, [94], 0⟩, ⟨3, [95], 0⟩, ⟨4, [96], 0⟩, ⟨5, [5], 0⟩, ⟨6, [98], 0⟩, ⟨7, [99], 0⟩, ⟨8, [100], 0⟩, ⟨9, [101], 0⟩, ⟨10, [7], 0⟩, ⟨11, [103], 0⟩, ⟨12, [97, 104], 2⟩, ⟨13, [7], 0⟩, ⟨14, [105], 0⟩, ⟨15, [102, 106], 2⟩] rfl (by kernel_rfl) ?_
   refine ZX rfl (ab iR Sr) ?_
   refine ZX rfl (ad (i := 0) underlying197 eA Sr Sr (by rfl) (gb (by exact hk0))) ?_
   refine ZX rfl (aa bX Sr rfl) ?_
   refine ZX rfl (aa ci Sr rfl) ?_
   refine ZX rfl (ab ty3 Sr) ?_
   refine ZX rfl (ab iR Sr) ?_
   refine ZX rfl (ad (i := 0) underlying197 eA Sr Sr (by rfl) (gb (by exact hk0))) ?_
   refine ZX rfl (aa bX Sr rfl) ?_
   refine ZX rfl (aa ci Sr rfl) ?_
   refine ZX rfl (ab bY Sr) ?_
   refine ZX rfl (ap (o := 0) (o' := 8) (bX (n := n + 1)) Sr rfl rfl) ?_
   refine ZX rfl (ap (o := 8) (o' := 8) ci Sr rfl rfl) ?_
   refine bI rfl rfl rfl (aI (b := b7) (n := 8) (fs := (bB n)) (R := bg) (y' := (⟨p.Kind, p.Table, .raw vk, p.Tests, p.Cols, p.Col, p.Agg, p.Attrs, (nth ks 0).size.rows, (bR ks), .raw (.slice none 0 0)⟩ : GnodeF)) ty3 Sr Sr zS (by exact ⟨rfl, ⟨rfl, ⟨rfl, ⟨rfl, ⟨rfl, ⟨rfl, ⟨rfl, ⟨rfl, ⟨fun _ _ q => q, rfl, by intro g hg; simp only [List.mem_cons, List.not_mem_nil, or_false] at hg; rcases hg with rfl | rfl <;> rfl⟩⟩⟩⟩⟩⟩⟩⟩⟩)) fun _ => ?_
   refine ZX rfl (ap (o := 0) (o' := 8) (bX (n := n + 1)) Sr rfl rfl) ?_
   refine ZX rfl (ap (o := 8) (o' := 10) ci Sr rfl rfl) ?_
   refine bI rfl rfl rfl (aI (b := b7) (n := 10) (fs := (bB n)) (R := (rSl bg)) (y' := (⟨p.Kind, p.Table, .raw vk, p.Tests, p.Cols, p.Col, p.Agg, p.Attrs, (nth ks 0).size.rows, (bR ks), .imm (nth ks 0).size.distinct⟩ : GnodeF)) bY Sr Sr zS (by exact ⟨rfl, ⟨rfl, ⟨rfl, ⟨rfl, ⟨rfl, ⟨rfl, ⟨rfl, ⟨rfl, ⟨rfl, ⟨rfl, ⟨fun _ _ q => D8 q, rfl, by intro g hg; cases hg⟩⟩⟩⟩⟩⟩⟩⟩⟩⟩⟩)) fun _ => ?_
   refine cC (Jr (Zs (aa br Sr rfl) (Zl iN Sr (Zs (ah underlying43 Sr) (Zm ?_)))))
   refine ae (av ?_)
   refine aO (σ := Nat) (fun i => i <= p.Tests.length) (fun i => upd (upd (upd (upd (upd (upd (upd (upd cg 4 (bx (aR (m + 1)) p)) 5 (bx (rSl (bT n)) ks)) 6 (tAt b6 0)) 7 (tAt b7 0)) 56 (tV (.int .i64 p.Kind))) 108 (tSl be p.Tests)) 109 (tV (.int .i64 p.Tests.length))) 110 (tV (.int .i64 i))) (fun i => [box b7 152 (ck n) ⟨p.Kind, p.Table, .raw vk, p.Tests, p.Cols, p.Col, p.Agg, p.Attrs, (vx (nth ks 0).size.distinct (p.Tests.take i) (nth ks 0).size.rows), (bR ks), .imm (nth ks 0).size.distinct⟩, own 46 (aR n) vk (ks.map Gnode.Plan), box b6 152 (bT (n + 1)) ⟨GPl.zero, dF⟩]) (fun i => p.Tests.length - i) 0 (by exact Nat.zero_le _) (zU) (zL) ?_
   rintro i hi
   refine Jr (Zs (aA Sr Sr) (ae (ar ?_)))
   refine au Sr (fun h111 => ?_) (fun h111 => ?_)
   ·
    try simp only [NF] at h111
    have hlt : i < p.Tests.length := by omega
    refine ay (ar (av (Jr ?_)))
    refine Zs (ad (i := i) underlying43 fd Sr Sr (by rfl) (gb (by exact hlt))) ?_
    refine Zl fd Sr ?_
    refine Zx (aD (fun w => zeroValue93 w) zx) fun v12 => ?_
    refine Ju (aj fd Sr Sr zS) fun _ => ?_
    refine bc (t := 12) (Sel.take (Dz _)) Frz.box ?_
    refine ae ?_
    refine cl [⟨0, [7], 0⟩, ⟨1, [114], 0⟩, ⟨3, [12], 0⟩, ⟨4, [7], 0⟩, ⟨5, [118], 0⟩, ⟨2, [115], 1⟩, ⟨6, [119], 1⟩, ⟨7, [117, 120], 0⟩, ⟨8, [116, 121], 0⟩, ⟨9, [7], 0⟩, ⟨10, [123], 0⟩, ⟨11, [122, 124], 2⟩] rfl (by kernel_rfl) ?_
    refine ZX rfl (ap (o := 0) (o' := 8) (bX (n := n + 1)) Sr rfl rfl) ?_
    refine ZX rfl (ap (o := 8) (o' := 8) ci Sr rfl rfl) ?_
    refine ZX rfl (ab fd Sr) ?_
    refine ZX rfl (ap (o := 0) (o' := 8) (bX (n := n + 1)) Sr rfl rfl) ?_
    refine ZX rfl (ap (o := 8) (o' := 10) ci Sr rfl rfl) ?_
    refine bW rfl rfl rfl rfl (aQ (b := b7) (n := 8) (fs := (bB n)) ty3 Sr rfl zS) ?_
    refine bW rfl rfl rfl rfl (aQ (b := b7) (n := 10) (fs := (bB n)) l9 Sr rfl zS) ?_
    refine ZX rfl (ai (pW _ _ (fun _ => q7 zG _ (aH hlt))) ⟨Sr, Sr, trivial⟩ call218) ?_
    refine ZX rfl (ai (nH _ _ (vz hka.r _) (zQ hka.d _).2) ⟨Sr, Sr, trivial⟩ call217) ?_
    refine ZX rfl (ap (o := 0) (o' := 8) (bX (n := n + 1)) Sr rfl rfl) ?_
    refine ZX rfl (ap (o := 8) (o' := 8) ci Sr rfl rfl) ?_
    refine bI rfl rfl rfl (aI (b := b7) (n := 8) (fs := (bB n)) (R := bg) (y' := (⟨p.Kind, p.Table, .raw vk, p.Tests, p.Cols, p.Col, p.Agg, p.Attrs, (eZ (vx (nth ks 0).size.distinct (p.Tests.take i) (nth ks 0).size.rows) (ma (nth p.Tests i) (nth ks 0).size.distinct)), (bR ks), .imm (nth ks 0).size.distinct⟩ : GnodeF)) ty3 Sr Sr zS (by exact ⟨rfl, ⟨rfl, ⟨rfl, ⟨rfl, ⟨rfl, ⟨rfl, ⟨rfl, ⟨rfl, ⟨fun _ _ q => q, rfl, by intro g hg; simp only [List.mem_cons, List.not_mem_nil, or_false] at hg; rcases hg with rfl | rfl <;> rfl⟩⟩⟩⟩⟩⟩⟩⟩⟩)) fun _ => ?_
    refine cC (aq (Zs (aB Sr Sr z6) (Zm (ae ?_))))
    refine aE (σ := Nat) (s := i) (i + 1) zO (by show i + 1 <= _; omega) (zU) (.c zS (SPs.of (A := box b7 152 (ck n) ⟨p.Kind, p.Table, .raw vk, p.Tests, p.Cols, p.Col, p.Agg, p.Attrs, (eZ (vx (nth ks 0).size.distinct (p.Tests.take i) (nth ks 0).size.rows) (ma (nth p.Tests i) (nth ks 0).size.distinct)), (bR ks), .imm (nth ks 0).size.distinct⟩) (by rw [show vx (nth ks 0).size.distinct (p.Tests.take (i + 1)) (nth ks 0).size.rows = _ from eB hlt]; rfl)) (zL))
   try simp only [NF] at h111
   obtain rfl : i = p.Tests.length := by omega
   have htk : p.Tests.take p.Tests.length = p.Tests := List.take_length
   refine aY ?_
   refine iM (E := fun _ => cg) () (zU) (.c zS (SPs.of (A := box b7 152 (ck n) ⟨p.Kind, p.Table, .raw vk, p.Tests, p.Cols, p.Col, p.Agg, p.Attrs, (vx (nth ks 0).size.distinct (p.Tests.take p.Tests.length) (nth ks 0).size.rows), (bR ks), .imm (nth ks 0).size.distinct⟩) (by rw [List.take_length, vC hk, AF hk])) (zL))
  try simp only [NF] at h91
  refine ar (Jr (Zs (aC Sr Sr) (Za (ae ?_))))
  refine au Sr (fun h126 => ?_) (fun h126 => ?_)
  ·
   try simp only [NF] at h126
   refine ay ?_
   refine au Sr (fun h126 => ?_) (fun h126 => ?_)
   ·
    try simp only [NF] at h126
    refine Jr (Zm (Zs (bH (aT := []) Sr (kV n m p ks hk0 hka (q8 zG) zG) trivial call216) (Zs (ap (o := 0) (o' := 8) (bX (n := n + 1)) Sr rfl rfl) (Zs (ap (o := 8) (o' := 8) ci Sr rfl rfl) ?_))))
    refine Ju (aI (b := b7) (n := 8) (fs := (bB n)) (R := bg) (y' := (⟨p.Kind, p.Table, .raw vk, p.Tests, p.Cols, p.Col, p.Agg, p.Attrs, (nG (nth ks 0) p.Cols), (bR ks), .raw (.slice none 0 0)⟩ : GnodeF)) ty3 Sr Sr zS (by exact ⟨rfl, ⟨rfl, ⟨rfl, ⟨rfl, ⟨rfl, ⟨rfl, ⟨rfl, ⟨rfl, ⟨fun _ _ q => q, rfl, by intro g hg; simp only [List.mem_cons, List.not_mem_nil, or_false] at hg; rcases hg with rfl | rfl <;> rfl⟩⟩⟩⟩⟩⟩⟩⟩⟩)) fun _ => ?_
    refine ae (ar (Jr (Zs (aa br Sr rfl) (Zl bY Sr (Zs (ah underlying36 Sr) ?_)))))
    refine Zm (ae (av ?_))
    refine aO (σ := Nat × Value) (fun ⟨i, vd⟩ => i <= p.Cols.length) (fun ⟨i, vd⟩ => upd (upd (upd (upd (upd (upd (upd (upd cg 4 (bx (aR (m + 1)) p)) 5 (bx (rSl (bT n)) ks)) 6 (tAt b6 0)) 7 (tAt b7 0)) 56 (tV (.int .i64 p.Kind))) 134 (tSl bg p.Cols)) 135 (tV (.int .i64 p.Cols.length))) 136 (tV (.int .i64 i))) (fun ⟨i, vd⟩ => [box b7 152 (ck n) ⟨p.Kind, p.Table, .raw vk, p.Tests, p.Cols, p.Col, p.Agg, p.Attrs, (nG (nth ks 0) p.Cols), (bR ks), .raw vd⟩, own 46 (aR n) vk (ks.map Gnode.Plan), own 3 bg vd (cm (nth ks 0).size.distinct (p.Cols.take i)), box b6 152 (bT (n + 1)) ⟨GPl.zero, dF⟩]) (fun ⟨i, vd⟩ => p.Cols.length - i) (0, .slice none 0 0) (by exact Nat.zero_le _) (zU) (LSub.trans (DB (e := 3) (R := bg)) (LSub.cons (Sel.skip (Sel.take (Dz _))) SPs.rfl (LSub.cons (Sel.skip (Sel.take (Dz _))) SPs.rfl (LSub.cons (Sel.take (Dz _)) SPs.rfl (LSub.cons (Sel.take (Dz _)) SPs.rfl LSub.nil))))) ?_
    rintro ⟨i, vd⟩ hi
    try dsimp only at hi
    refine Jr (Zs (aA Sr Sr) (ae (ar ?_)))
    refine au Sr (fun h137 => ?_) (fun h137 => ?_)
    ·
     try simp only [NF] at h137
     have hlt : i < p.Cols.length := by omega
     have hci := q8 zG _ (aH hlt)
     refine ay (ar (av (Jr ?_)))
     refine Zs (ad (i := i) underlying36 ty3 Sr Sr (by rfl) (gb (by exact hlt))) ?_
     refine Zl ty3 Sr (Za (ae ?_))
     refine cl [⟨0, [7], 0⟩, ⟨1, [140], 0⟩, ⟨3, [5], 0⟩, ⟨4, [143], 0⟩, ⟨5, [144], 0⟩, ⟨6, [145], 0⟩, ⟨7, [146], 0⟩, ⟨8, [14], 0⟩, ⟨9, [147, 148], 0⟩, ⟨10, [149], 0⟩, ⟨11, [150], 0⟩, ⟨2, [141], 1⟩, ⟨12, [142, 151], 2⟩, ⟨13, [7], 0⟩, ⟨14, [153], 0⟩, ⟨15, [152, 154], 2⟩] rfl (by kernel_rfl) ?_
     refine ZX rfl (ap (o := 0) (o' := 8) (bX (n := n + 1)) Sr rfl rfl) ?_
     refine ZX rfl (ap (o := 8) (o' := 10) ci Sr rfl rfl) ?_
     refine ZX rfl (ab iR Sr) ?_
     refine ZX rfl (ad (i := 0) underlying197 eA Sr Sr (by rfl) (gb (by exact hk0))) ?_
     refine ZX rfl (aa bX Sr rfl) ?_
     refine ZX rfl (aa ci Sr rfl) ?_
     refine ZX rfl (ab bY Sr) ?_
     refine ZX rfl (al Sr) ?_
     refine ZX rfl (ad (i := (nth p.Cols i).toNat) underlying36 ty3 Sr Sr (by show nth p.Cols i = _; omega) (gb (by show _ < (nth ks 0).size.distinct.length; omega))) ?_
     refine ZX rfl (ab ty3 Sr) ?_
     refine ZX rfl (ax (ys := [_]) underlying36 el3 ⟨rfl, Sr, trivial⟩ rfl (by decide)) ?_
     refine bW rfl rfl rfl rfl (aQ (b := b7) (n := 10) (fs := (bB n)) l9 Sr rfl zS) ?_
     refine dq rfl rfl rfl rfl (aL underlying36 el3 Sr Sr zS (by simp only [List.length_append, List.length_cons, List.length_nil, List.length_map, List.length_take, uDs, cm, List.length_range]; omega) (by simp only [List.length_append, List.length_cons, List.length_nil, List.length_map, List.length_take, uDs, cm, List.length_range]; omega)) fun v152 => ?_
     refine ZX rfl (ap (o := 0) (o' := 8) (bX (n := n + 1)) Sr rfl rfl) ?_
     refine ZX rfl (ap (o := 8) (o' := 10) ci Sr rfl rfl) ?_
     refine bI rfl rfl rfl (aI (b := b7) (n := 10) (fs := (bB n)) (R := rV) (y' := (⟨p.Kind, p.Table, .raw vk, p.Tests, p.Cols, p.Col, p.Agg, p.Attrs, (nG (nth ks 0) p.Cols), (bR ks), .raw v152⟩ : GnodeF)) pq Sr Sr zS (by exact ⟨rfl, ⟨rfl, ⟨rfl, ⟨rfl, ⟨rfl, ⟨rfl, ⟨rfl, ⟨rfl, ⟨rfl, ⟨rfl, ⟨fun _ _ q => DR q, rfl, by intro g hg; cases hg⟩⟩⟩⟩⟩⟩⟩⟩⟩⟩⟩)) fun _ => ?_
     refine cC (aq (Zs (aB Sr Sr z6) (Zm (ae ?_))))
     refine aE (σ := Nat × Value) (s := (i, vd)) (i + 1, v152) zO (by show i + 1 <= _; omega) (zU) (.r zS (.r zS (.c zS (SPs.of (A := own 3 bg v152 (cm (nth ks 0).size.distinct (p.Cols.take i) ++ [nth (nth ks 0).size.distinct (nth p.Cols i).toNat])) (by rw [ie hlt])) (zL))))
    try simp only [NF] at h137
    obtain rfl : i = p.Cols.length := by omega
    refine aY (Jr (Zs (aa br Sr rfl) (Zl ty3 Sr (Zs (aC Sr Sr) (ae ?_)))))
    refine au Sr (fun h158 => ?_) (fun h158 => ?_)
    ·
     try simp only [NF] at h158
     exfalso; omega
    try simp only [NF] at h158
    refine ay ?_
    refine bZ (L' := [box b7 152 (ck n) ⟨p.Kind, p.Table, .raw vk, p.Tests, p.Cols, p.Col, p.Agg, p.Attrs, (nG (nth ks 0) p.Cols), (bR ks), .raw vd⟩, own 3 bg vd (cm (nth ks 0).size.distinct p.Cols), own 46 (aR n) vk (ks.map Gnode.Plan), box b6 152 (bT (n + 1)) ⟨GPl.zero, dF⟩]) (.r zS (.c zS (SPs.of (A := own 3 bg vd (cm (nth ks 0).size.distinct (p.Cols.take p.Cols.length))) (by rw [List.take_length])) (zL))) ?_
    refine jL (Sel.take (Sel.take (Dz _))) Frz2.ds ?_
    have hk : p.Kind = 3 := by omega
    refine iM (E := fun _ => cg) () (zU) (.c zS (SPs.of (A := box b7 152 (ck n) ⟨p.Kind, p.Table, .raw vk, p.Tests, p.Cols, p.Col, p.Agg, p.Attrs, (nG (nth ks 0) p.Cols), (bR ks), .imm (cm (nth ks 0).size.distinct p.Cols)⟩) (by rw [vE hk, yQ hk])) (zL))
   try simp only [NF] at h126
   first | contradiction | omega | (simp_all; done)
  try simp only [NF] at h126
  refine aq (Zs (aC Sr Sr) (Za (ae ?_)))
  refine au Sr (fun h126 => ?_) (fun h126 => ?_)
  ·
   try simp only [NF] at h126
   refine Jr (Zm (Zs (bH (aT := []) Sr (kV n m p ks hk0 hka (q8 zG) zG) trivial call216) (Zs (ap (o := 0) (o' := 8) (bX (n := n + 1)) Sr rfl rfl) (Zs (ap (o := 8) (o' := 8) ci Sr rfl rfl) ?_))))
   refine Ju (aI (b := b7) (n := 8) (fs := (bB n)) (R := bg) (y' := (⟨p.Kind, p.Table, .raw vk, p.Tests, p.Cols, p.Col, p.Agg, p.Attrs, (nG (nth ks 0) p.Cols), (bR ks), .raw (.slice none 0 0)⟩ : GnodeF)) ty3 Sr Sr zS (by exact ⟨rfl, ⟨rfl, ⟨rfl, ⟨rfl, ⟨rfl, ⟨rfl, ⟨rfl, ⟨rfl, ⟨fun _ _ q => q, rfl, by intro g hg; simp only [List.mem_cons, List.not_mem_nil, or_false] at hg; rcases hg with rfl | rfl <;> rfl⟩⟩⟩⟩⟩⟩⟩⟩⟩)) fun _ => ?_
   refine ae (ar (Jr (Zs (aa br Sr rfl) (Zl bY Sr (Zs (ah underlying36 Sr) ?_)))))
   refine Zm (ae (av ?_))
   refine aO (σ := Nat × Value) (fun ⟨i, vd⟩ => i <= p.Cols.length) (fun ⟨i, vd⟩ => upd (upd (upd (upd (upd (upd (upd (upd cg 4 (bx (aR (m + 1)) p)) 5 (bx (rSl (bT n)) ks)) 6 (tAt b6 0)) 7 (tAt b7 0)) 56 (tV (.int .i64 p.Kind))) 134 (tSl bg p.Cols)) 135 (tV (.int .i64 p.Cols.length))) 136 (tV (.int .i64 i))) (fun ⟨i, vd⟩ => [box b7 152 (ck n) ⟨p.Kind, p.Table, .raw vk, p.Tests, p.Cols, p.Col, p.Agg, p.Attrs, (nG (nth ks 0) p.Cols), (bR ks), .raw vd⟩, own 46 (aR n) vk (ks.map Gnode.Plan), own 3 bg vd (cm (nth ks 0).size.distinct (p.Cols.take i)), box b6 152 (bT (n + 1)) ⟨GPl.zero, dF⟩]) (fun ⟨i, vd⟩ => p.Cols.length - i) (0, .slice none 0 0) (by exact Nat.zero_le _) (zU) (LSub.trans (DB (e := 3) (R := bg)) (LSub.cons (Sel.skip (Sel.take (Dz _))) SPs.rfl (LSub.cons (Sel.skip (Sel.take (Dz _))) SPs.rfl (LSub.cons (Sel.take (Dz _)) SPs.rfl (LSub.cons (Sel.take (Dz _)) SPs.rfl LSub.nil))))) ?_
   rintro ⟨i, vd⟩ hi
   try dsimp only at hi
   refine Jr (Zs (aA Sr Sr) (ae (ar ?_)))
   refine au Sr (fun h137 => ?_) (fun h137 => ?_)
   ·
    try simp only [NF] at h137
    have hlt : i < p.Cols.length := by omega
    have hci := q8 zG _ (aH hlt)
    refine ay (ar (av (Jr ?_)))
    refine Zs (ad (i := i) underlying36 ty3 Sr Sr (by rfl) (gb (by exact hlt))) ?_
    refine Zl ty3 Sr (Za (ae ?_))
    refine cl [⟨0, [7], 0⟩, ⟨1, [140], 0⟩, ⟨3, [5], 0⟩, ⟨4, [143], 0⟩, ⟨5, [144], 0⟩, ⟨6, [145], 0⟩, ⟨7, [146], 0⟩, ⟨8, [14], 0⟩, ⟨9, [147, 148], 0⟩, ⟨10, [149], 0⟩, ⟨11, [150], 0⟩, ⟨2, [141], 1⟩, ⟨12, [142, 151], 2⟩, ⟨13, [7], 0⟩, ⟨14, [153], 0⟩, ⟨15, [152, 154], 2⟩] rfl (by kernel_rfl) ?_
    refine ZX rfl (ap (o := 0) (o' := 8) (bX (n := n + 1)) Sr rfl rfl) ?_
    refine ZX rfl (ap (o := 8) (o' := 10) ci Sr rfl rfl) ?_
    refine ZX rfl (ab iR Sr) ?_
    refine ZX rfl (ad (i := 0) underlying197 eA Sr Sr (by rfl) (gb (by exact hk0))) ?_
    refine ZX rfl (aa bX Sr rfl) ?_
    refine ZX rfl (aa ci Sr rfl) ?_
    refine ZX rfl (ab bY Sr) ?_
    refine ZX rfl (al Sr) ?_
    refine ZX rfl (ad (i := (nth p.Cols i).toNat) underlying36 ty3 Sr Sr (by show nth p.Cols i = _; omega) (gb (by show _ < (nth ks 0).size.distinct.length; omega))) ?_
    refine ZX rfl (ab ty3 Sr) ?_
    refine ZX rfl (ax (ys := [_]) underlying36 el3 ⟨rfl, Sr, trivial⟩ rfl (by decide)) ?_
    refine bW rfl rfl rfl rfl (aQ (b := b7) (n := 10) (fs := (bB n)) l9 Sr rfl zS) ?_
    refine dq rfl rfl rfl rfl (aL underlying36 el3 Sr Sr zS (by simp only [List.length_append, List.length_cons, List.length_nil, List.length_map, List.length_take, uDs, cm, List.length_range]; omega) (by simp only [List.length_append, List.length_cons, List.length_nil, List.length_map, List.length_take, uDs, cm, List.length_range]; omega)) fun v152 => ?_
    refine ZX rfl (ap (o := 0) (o' := 8) (bX (n := n + 1)) Sr rfl rfl) ?_
    refine ZX rfl (ap (o := 8) (o' := 10) ci Sr rfl rfl) ?_
    refine bI rfl rfl rfl (aI (b := b7) (n := 10) (fs := (bB n)) (R := rV) (y' := (⟨p.Kind, p.Table, .raw vk, p.Tests, p.Cols, p.Col, p.Agg, p.Attrs, (nG (nth ks 0) p.Cols), (bR ks), .raw v152⟩ : GnodeF)) pq Sr Sr zS (by exact ⟨rfl, ⟨rfl, ⟨rfl, ⟨rfl, ⟨rfl, ⟨rfl, ⟨rfl, ⟨rfl, ⟨rfl, ⟨rfl, ⟨fun _ _ q => DR q, rfl, by intro g hg; cases hg⟩⟩⟩⟩⟩⟩⟩⟩⟩⟩⟩)) fun _ => ?_
    refine cC (aq (Zs (aB Sr Sr z6) (Zm (ae ?_))))
    refine aE (σ := Nat × Value) (s := (i, vd)) (i + 1, v152) zO (by show i + 1 <= _; omega) (zU) (.r zS (.r zS (.c zS (SPs.of (A := own 3 bg v152 (cm (nth ks 0).size.distinct (p.Cols.take i) ++ [nth (nth ks 0).size.distinct (nth p.Cols i).toNat])) (by rw [ie hlt])) (zL))))
   try simp only [NF] at h137
   obtain rfl : i = p.Cols.length := by omega
   refine aY (Jr (Zs (aa br Sr rfl) (Zl ty3 Sr (Zs (aC Sr Sr) (ae ?_)))))
   refine au Sr (fun h158 => ?_) (fun h158 => ?_)
   ·
    try simp only [NF] at h158
    refine ar (Jr (Zs (aa br Sr rfl) (Zl bY Sr (Zs (ah underlying36 Sr) (Zs (aC Sr Sr) ?_)))))
    refine ae ?_
    refine au Sr (fun h162 => ?_) (fun h162 => ?_)
    ·
     try simp only [NF] at h162
     have hc0 : p.Cols.length = 0 := by omega
     refine aq (Zs (ap (o := 0) (o' := 8) (bX (n := n + 1)) Sr rfl rfl) (Zs (ap (o := 8) (o' := 8) ci Sr rfl rfl) ?_))
     refine Ju (aI (b := b7) (n := 8) (fs := (bB n)) (R := bg) (y' := (⟨p.Kind, p.Table, .raw vk, p.Tests, p.Cols, p.Col, p.Agg, p.Attrs, 1, (bR ks), .raw vd⟩ : GnodeF)) ty3 Sr Sr zS (by exact ⟨rfl, ⟨rfl, ⟨rfl, ⟨rfl, ⟨rfl, ⟨rfl, ⟨rfl, ⟨rfl, ⟨fun _ _ q => q, rfl, by intro g hg; simp only [List.mem_cons, List.not_mem_nil, or_false] at hg; rcases hg with rfl | rfl <;> rfl⟩⟩⟩⟩⟩⟩⟩⟩⟩)) fun _ => ?_
     refine ae (aq (Zs (ap (o := 0) (o' := 8) (bX (n := n + 1)) Sr rfl rfl) (Zs (ap (o := 8) (o' := 10) ci Sr rfl rfl) ?_)))
     refine Zs (aQ (b := b7) (n := 10) (fs := (bB n)) l9 Sr rfl zS) ?_
     refine Zs (ap (o := 0) (o' := 8) (bX (n := n + 1)) Sr rfl rfl) (Zs (ap (o := 8) (o' := 8) ci Sr rfl rfl) ?_)
     refine Zs (aQ (b := b7) (n := 8) (fs := (bB n)) ty3 Sr rfl zS) ?_
     refine Zs (ax (ys := [_]) underlying36 el3 ⟨rfl, Sr, trivial⟩ rfl (by decide)) ?_
     refine Zx (aL underlying36 el3 Sr Sr zS (by simp only [List.length_append, List.length_cons, List.length_nil, List.length_map, List.length_take, uDs, cm, List.length_range]; omega) (by simp only [List.length_append, List.length_cons, List.length_nil, List.length_map, List.length_take, uDs, cm, List.length_range]; omega)) fun v172 => ?_
     refine Zs (ap (o := 0) (o' := 8) (bX (n := n + 1)) Sr rfl rfl) (Zs (ap (o := 8) (o' := 10) ci Sr rfl rfl) ?_)
     refine Ju (aI (b := b7) (n := 10) (fs := (bB n)) (R := rV) (y' := (⟨p.Kind, p.Table, .raw vk, p.Tests, p.Cols, p.Col, p.Agg, p.Attrs, 1, (bR ks), .raw v172⟩ : GnodeF)) pq Sr Sr zS (by exact ⟨rfl, ⟨rfl, ⟨rfl, ⟨rfl, ⟨rfl, ⟨rfl, ⟨rfl, ⟨rfl, ⟨rfl, ⟨rfl, ⟨fun _ _ q => DR q, rfl, by intro g hg; cases hg⟩⟩⟩⟩⟩⟩⟩⟩⟩⟩⟩)) fun _ => ?_
     refine ae ?_
     refine bZ (L' := [box b7 152 (ck n) ⟨p.Kind, p.Table, .raw vk, p.Tests, p.Cols, p.Col, p.Agg, p.Attrs, 1, (bR ks), .raw v172⟩, own 3 bg v172 (cm (nth ks 0).size.distinct p.Cols ++ [1]), own 46 (aR n) vk (ks.map Gnode.Plan), box b6 152 (bT (n + 1)) ⟨GPl.zero, dF⟩]) (.r zS (.c zS (SPs.of (A := own 3 bg v172 (cm (nth ks 0).size.distinct (p.Cols.take p.Cols.length) ++ [1])) (by rw [List.take_length])) (zL))) ?_
     refine jL (Sel.take (Sel.take (Dz _))) Frz2.ds ?_
     have hk : p.Kind = 8 := by omega
     refine iM (E := fun _ => cg) () (zU) (.c zS (SPs.of (A := box b7 152 (ck n) ⟨p.Kind, p.Table, .raw vk, p.Tests, p.Cols, p.Col, p.Agg, p.Attrs, 1, (bR ks), .imm (cm (nth ks 0).size.distinct p.Cols ++ [1])⟩) (by rw [pX hk, yR hk, iS, if_pos hc0])) (zL))
    try simp only [NF] at h162
    have hc0 : ¬ p.Cols.length = 0 := by omega
    refine ay (aq (Zs (ap (o := 0) (o' := 8) (bX (n := n + 1)) Sr rfl rfl) (Zs (ap (o := 8) (o' := 10) ci Sr rfl rfl) ?_)))
    refine Zs (aQ (b := b7) (n := 10) (fs := (bB n)) l9 Sr rfl zS) ?_
    refine Zs (ap (o := 0) (o' := 8) (bX (n := n + 1)) Sr rfl rfl) (Zs (ap (o := 8) (o' := 8) ci Sr rfl rfl) ?_)
    refine Zs (aQ (b := b7) (n := 8) (fs := (bB n)) ty3 Sr rfl zS) ?_
    refine Zs (ax (ys := [_]) underlying36 el3 ⟨rfl, Sr, trivial⟩ rfl (by decide)) ?_
    refine Zx (aL underlying36 el3 Sr Sr zS (by simp only [List.length_append, List.length_cons, List.length_nil, List.length_map, List.length_take, uDs, cm, List.length_range]; omega) (by simp only [List.length_append, List.length_cons, List.length_nil, List.length_map, List.length_take, uDs, cm, List.length_range]; omega)) fun v172 => ?_
    refine Zs (ap (o := 0) (o' := 8) (bX (n := n + 1)) Sr rfl rfl) (Zs (ap (o := 8) (o' := 10) ci Sr rfl rfl) ?_)
    refine Ju (aI (b := b7) (n := 10) (fs := (bB n)) (R := rV) (y' := (⟨p.Kind, p.Table, .raw vk, p.Tests, p.Cols, p.Col, p.Agg, p.Attrs, (nG (nth ks 0) p.Cols), (bR ks), .raw v172⟩ : GnodeF)) pq Sr Sr zS (by exact ⟨rfl, ⟨rfl, ⟨rfl, ⟨rfl, ⟨rfl, ⟨rfl, ⟨rfl, ⟨rfl, ⟨rfl, ⟨rfl, ⟨fun _ _ q => DR q, rfl, by intro g hg; cases hg⟩⟩⟩⟩⟩⟩⟩⟩⟩⟩⟩)) fun _ => ?_
    refine ae ?_
    refine bZ (L' := [box b7 152 (ck n) ⟨p.Kind, p.Table, .raw vk, p.Tests, p.Cols, p.Col, p.Agg, p.Attrs, (nG (nth ks 0) p.Cols), (bR ks), .raw v172⟩, own 3 bg v172 (cm (nth ks 0).size.distinct p.Cols ++ [nG (nth ks 0) p.Cols]), own 46 (aR n) vk (ks.map Gnode.Plan), box b6 152 (bT (n + 1)) ⟨GPl.zero, dF⟩]) (.r zS (.c zS (SPs.of (A := own 3 bg v172 (cm (nth ks 0).size.distinct (p.Cols.take p.Cols.length) ++ [nG (nth ks 0) p.Cols])) (by rw [List.take_length])) (zL))) ?_
    refine jL (Sel.take (Sel.take (Dz _))) Frz2.ds ?_
    have hk : p.Kind = 8 := by omega
    refine iM (E := fun _ => cg) () (zU) (.c zS (SPs.of (A := box b7 152 (ck n) ⟨p.Kind, p.Table, .raw vk, p.Tests, p.Cols, p.Col, p.Agg, p.Attrs, (nG (nth ks 0) p.Cols), (bR ks), .imm (cm (nth ks 0).size.distinct p.Cols ++ [nG (nth ks 0) p.Cols])⟩) (by rw [pX hk, yR hk, iS, if_neg hc0])) (zL))
   try simp only [NF] at h158
   exfalso; omega
  try simp only [NF] at h126
  refine Jr (Zs (aC Sr Sr) (Za (ae ?_)))
  refine au Sr (fun h175 => ?_) (fun h175 => ?_)
  ·
   try simp only [NF] at h175
   have hk : p.Kind = 4 := h175
   have hk1 := q9 (.inl hk)
   have hkb := xT hm (.inl hk)
   have hkbn := hkb.n
   have hkba := hkb.a
   have hkbr := hkb.r
   unfold fm at hkbr
   have hmul := vA hka.r hkb.r
   refine ar ?_
   refine om [] [⟨0, [5], 0⟩, ⟨1, [177], 0⟩, ⟨2, [178], 0⟩, ⟨3, [5], 0⟩, ⟨4, [180], 0⟩, ⟨5, [181], 0⟩] [⟨6, [], 15, SP.emp, fun v => tAt (vN v) 0, fun v => box (vN v) 152 (bT n) ⟨GPl.zero, dF⟩⟩, ⟨7, [], 16, SP.emp, fun v => tAt (vN v) 0, fun v => box (vN v) 152 (bT n) ⟨GPl.zero, dF⟩⟩] [⟨8, [15, 179], 2⟩, ⟨9, [16, 182], 2⟩] (L := [box b7 152 (ck n) ⟨p.Kind, p.Table, .raw vk, p.Tests, p.Cols, p.Col, p.Agg, p.Attrs, 0, (bR ks), .raw (.slice none 0 0)⟩, own 46 (aR n) vk (ks.map Gnode.Plan), box b6 152 (bT (n + 1)) ⟨GPl.zero, dF⟩]) (LSub.trans LSub.emp LSub.emp) rfl (by kernel_rfl) (Nat.le_of_ble_eq_true rfl) ?_
   refine bN rfl rfl rfl rfl (fun _ => ab iR Sr) ?_
   refine bN rfl rfl rfl rfl (fun _ => ad (i := 0) underlying197 eA Sr Sr (by rfl) (gb (by exact hk0))) ?_
   refine bN rfl rfl rfl rfl (fun _ => ab eA Sr) ?_
   refine bN rfl rfl rfl rfl (fun _ => ab iR Sr) ?_
   refine bN rfl rfl rfl rfl (fun _ => ad (i := 1) underlying197 eA Sr Sr (by rfl) (gb (by exact hk1))) ?_
   refine bN rfl rfl rfl rfl (fun _ => ab eA Sr) ?_
   refine nE ?_
   refine ⟨⟨_, rfl, rfl, rfl, rfl, fun _ => by refine D7 ?_; exact Eb A0 (aD (R := bT n) (fun w => zeroValue152 w) (vv (hn1 zG))) (fun _ => rfl) (fun _ => rfl)⟩, fun b15 => ?_⟩
   refine ⟨⟨_, rfl, rfl, rfl, rfl, fun _ => by refine D7 ?_; exact Eb A0 (aD (R := bT n) (fun w => zeroValue152 w) (vv (hn1 zG))) (fun _ => rfl) (fun _ => rfl)⟩, fun b16 => ?_⟩
   refine pQ ?_
   refine bI rfl rfl rfl (aj eA Sr Sr zS) fun _ => ?_
   refine bI rfl rfl rfl (aj eA Sr Sr zS) fun _ => ?_
   refine cC ?_
   refine bF (t := 15) (A' := bx (bT n) (nth ks 0)) zS Frz.box ?_
   refine bF (t := 16) (A' := bx (bT n) (nth ks 1)) zS Frz.box ?_
   refine Jr (Zs (aa bX Sr rfl) (Zs (aa ci Sr rfl) (Zl ty3 Sr (Zs (aa bX Sr rfl) (Zs (aa ci Sr rfl) ?_)))))
   refine Zl ty3 Sr ?_
   refine Zs (nS Sr Sr (by show fe ((nth ks 0).size.rows * (nth ks 1).size.rows); unfold fe; omega)) ?_
   refine Zs (dh Sr Sr) (Zs (ap (o := 0) (o' := 8) (bX (n := n + 1)) Sr rfl rfl) (Zs (ap (o := 8) (o' := 8) ci Sr rfl rfl) ?_))
   refine Ju (aI (b := b7) (n := 8) (fs := (bB n)) (R := bg) (y' := (⟨p.Kind, p.Table, .raw vk, p.Tests, p.Cols, p.Col, p.Agg, p.Attrs, (min 1000000000 ((nth ks 0).size.rows * (nth ks 1).size.rows)), (bR ks), .raw (.slice none 0 0)⟩ : GnodeF)) ty3 Sr Sr zS (by exact ⟨rfl, ⟨rfl, ⟨rfl, ⟨rfl, ⟨rfl, ⟨rfl, ⟨rfl, ⟨rfl, ⟨fun _ _ q => q, rfl, by intro g hg; simp only [List.mem_cons, List.not_mem_nil, or_false] at hg; rcases hg with rfl | rfl <;> rfl⟩⟩⟩⟩⟩⟩⟩⟩⟩)) fun _ => ?_
   refine ae (Jr (Zs (aa bX Sr rfl) (Zs (aa ci Sr rfl) (Zl bY Sr ?_))))
   refine Zx (bz (Dz _) (l7 _ (by show (nth ks 0).size.distinct.length <= _; omega)) ⟨Sr, trivial⟩ call113) fun v196 => ?_
   refine Zs (ap (o := 0) (o' := 8) (bX (n := n + 1)) Sr rfl rfl) (Zs (ap (o := 8) (o' := 10) ci Sr rfl rfl) ?_)
   refine Ju (aI (b := b7) (n := 10) (fs := (bB n)) (R := rV) (y' := (⟨p.Kind, p.Table, .raw vk, p.Tests, p.Cols, p.Col, p.Agg, p.Attrs, (min 1000000000 ((nth ks 0).size.rows * (nth ks 1).size.rows)), (bR ks), .raw v196⟩ : GnodeF)) pq Sr Sr zS (by exact ⟨rfl, ⟨rfl, ⟨rfl, ⟨rfl, ⟨rfl, ⟨rfl, ⟨rfl, ⟨rfl, ⟨rfl, ⟨rfl, ⟨fun _ _ q => DR q, rfl, by intro g hg; cases hg⟩⟩⟩⟩⟩⟩⟩⟩⟩⟩⟩)) fun _ => ?_
   refine ae (ar (Jr (Zs (aa bX Sr rfl) (Zs (aa (br (n := n1)) (Ef (hn1 zG)) rfl) (Zl bQ Sr ?_)))))
   refine Zs (ah underlying44 Sr) (Zm (ae (av ?_)))
   refine aO (σ := Nat) (fun i => i <= (nth ks 0).Plan.Attrs.length) (fun i => upd (upd (upd (upd (upd (upd (upd (upd (upd cg 5 (bx (rSl (bT n)) ks)) 6 (tAt b6 0)) 7 (tAt b7 0)) 15 (bx (bT n) (nth ks 0))) 16 (bx (bT n) (nth ks 1))) 56 (tV (.int .i64 p.Kind))) 201 (tSl aS (nth ks 0).Plan.Attrs)) 202 (tV (.int .i64 (nth ks 0).Plan.Attrs.length))) 203 (tV (.int .i64 i))) (fun i => [box b7 152 (ck n) ⟨p.Kind, p.Table, .raw vk, p.Tests, p.Cols, p.Col, p.Agg, p.Attrs, (ic (nth ks 0) (nth ks 1) i), (bR ks), .raw v196⟩, own 46 (aR n) vk (ks.map Gnode.Plan), own 3 bg v196 (nth ks 0).size.distinct, box b6 152 (bT (n + 1)) ⟨GPl.zero, dF⟩]) (fun i => (nth ks 0).Plan.Attrs.length - i) 0 (by exact Nat.zero_le _) (zU) (zL) ?_
   rintro i hi
   refine Jr (Zs (aA Sr Sr) (ae (ar ?_)))
   refine au Sr (fun h204 => ?_) (fun h204 => ?_)
   ·
    try simp only [NF] at h204
    have hlt : i < (nth ks 0).Plan.Attrs.length := by omega
    have hcl := iY (nth ks 1).Plan.Attrs (nth (nth ks 0).Plan.Attrs i).Name
    have hjc : oo (nth ks 0) (nth ks 1) i < (nth ks 1).Plan.Attrs.length := hcl.2
    refine ay (ar (av (Jr (Zm ?_))))
    refine Zs (ad (i := i) underlying44 ct Sr Sr (by rfl) (gb (by exact hlt))) ?_
    refine Zl ct Sr ?_
    refine Zx (aD (fun w => zeroValue89 w) qY) fun v18 => ?_
    refine Za ?_
    refine Ju (aj ct Sr Sr zS) fun _ => ?_
    refine bc (t := 18) (Sel.take (Dz _)) Frz.box ?_
    refine ae (Jr (Zs (aa bX Sr rfl) (Zs (aa (br (n := n1)) (Ef (hn1 zG)) rfl) (Zl bQ Sr (Zs (aa dH Sr rfl) ?_)))))
    refine Zl ty9 Sr ?_
    refine Zs (ai (fc _ _ (by show (nth ks 1).Plan.Attrs.length <= _; omega)) ⟨Sr, Sr, trivial⟩ call219) ?_
    refine Za (ae (Jr (Zm (Zs (bE Sr Sr) (ae ?_)))))
    refine au Sr (fun h215 => ?_) (fun h215 => ?_)
    ·
     try simp only [NF] at h215
     have h215 : 0 <= oo (nth ks 0) (nth ks 1) i := h215
     refine cl [⟨0, [7], 0⟩, ⟨1, [216], 0⟩, ⟨3, [15], 0⟩, ⟨4, [219], 0⟩, ⟨5, [220], 0⟩, ⟨6, [17], 0⟩, ⟨7, [221, 222], 0⟩, ⟨8, [223], 0⟩, ⟨9, [16], 0⟩, ⟨10, [225], 0⟩, ⟨11, [226], 0⟩, ⟨12, [19], 0⟩, ⟨13, [227, 228], 0⟩, ⟨14, [229], 0⟩, ⟨15, [224, 230], 0⟩, ⟨2, [217], 1⟩, ⟨16, [218, 231], 0⟩, ⟨17, [7], 0⟩, ⟨18, [233], 0⟩, ⟨19, [232, 234], 2⟩] rfl (by kernel_rfl) ?_
     refine ZX rfl (ap (o := 0) (o' := 8) (bX (n := n + 1)) Sr rfl rfl) ?_
     refine ZX rfl (ap (o := 8) (o' := 8) ci Sr rfl rfl) ?_
     refine ZX rfl (aa bX Sr rfl) ?_
     refine ZX rfl (aa ci Sr rfl) ?_
     refine ZX rfl (ab bY Sr) ?_
     refine ZX rfl (al Sr) ?_
     refine ZX rfl (ad (i := i) underlying36 ty3 Sr Sr (by rfl) (gb (by show _ < (nth ks 0).size.distinct.length; omega))) ?_
     refine ZX rfl (ab ty3 Sr) ?_
     refine ZX rfl (aa bX Sr rfl) ?_
     refine ZX rfl (aa ci Sr rfl) ?_
     refine ZX rfl (ab bY Sr) ?_
     refine ZX rfl (al Sr) ?_
     refine ZX rfl (ad (i := (oo (nth ks 0) (nth ks 1) i).toNat) underlying36 ty3 Sr Sr (by show oo (nth ks 0) (nth ks 1) i = _; omega) (gb (by show _ < (nth ks 1).size.distinct.length; omega))) ?_
     refine ZX rfl (ab ty3 Sr) ?_
     refine ZX rfl (eY Sr Sr) ?_
     refine bW rfl rfl rfl rfl (aQ (b := b7) (n := 8) (fs := (bB n)) ty3 Sr rfl zS) ?_
     refine ZX rfl (ai (nH _ _ (oq hka hkb _) (by have h1 := hka.d.nth i; have h2 := hkb.d.nth (oo (nth ks 0) (nth ks 1) i).toNat; unfold fm at h1 h2; show max (nth (nth ks 0).size.distinct i) (nth (nth ks 1).size.distinct (oo (nth ks 0) (nth ks 1) i).toNat) <= _; omega)) ⟨Sr, Sr, trivial⟩ call217) ?_
     refine ZX rfl (ap (o := 0) (o' := 8) (bX (n := n + 1)) Sr rfl rfl) ?_
     refine ZX rfl (ap (o := 8) (o' := 8) ci Sr rfl rfl) ?_
     refine bI rfl rfl rfl (aI (b := b7) (n := 8) (fs := (bB n)) (R := bg) (y' := (⟨p.Kind, p.Table, .raw vk, p.Tests, p.Cols, p.Col, p.Agg, p.Attrs, (eZ (ic (nth ks 0) (nth ks 1) i) (max (nth (nth ks 0).size.distinct i) (nth (nth ks 1).size.distinct (oo (nth ks 0) (nth ks 1) i).toNat))), (bR ks), .raw v196⟩ : GnodeF)) ty3 Sr Sr zS (by exact ⟨rfl, ⟨rfl, ⟨rfl, ⟨rfl, ⟨rfl, ⟨rfl, ⟨rfl, ⟨rfl, ⟨fun _ _ q => q, rfl, by intro g hg; simp only [List.mem_cons, List.not_mem_nil, or_false] at hg; rcases hg with rfl | rfl <;> rfl⟩⟩⟩⟩⟩⟩⟩⟩⟩)) fun _ => ?_
     refine cC (aq (Zs (aB Sr Sr z6) (Zm (ae ?_))))
     refine aE (σ := Nat) (s := i) (i + 1) zO (by show i + 1 <= _; omega) (zU) (.c zS (SPs.of (A := box b7 152 (ck n) ⟨p.Kind, p.Table, .raw vk, p.Tests, p.Cols, p.Col, p.Agg, p.Attrs, (eZ (ic (nth ks 0) (nth ks 1) i) (max (nth (nth ks 0).size.distinct i) (nth (nth ks 1).size.distinct (oo (nth ks 0) (nth ks 1) i).toNat))), (bR ks), .raw v196⟩) (by rw [show ic (nth ks 0) (nth ks 1) (i + 1) = _ from jM, rC, if_pos h215]; rfl)) (zL))
    try simp only [NF] at h215
    have h215 : ¬ 0 <= oo (nth ks 0) (nth ks 1) i := by show ¬ 0 <= columnL _ _; omega
    refine ay (aq (Zs (aB Sr Sr z6) (Zm (ae ?_))))
    refine aE (σ := Nat) (s := i) (i + 1) zO (by show i + 1 <= _; omega) (zU) (.c zS (SPs.of (A := box b7 152 (ck n) ⟨p.Kind, p.Table, .raw vk, p.Tests, p.Cols, p.Col, p.Agg, p.Attrs, (ic (nth ks 0) (nth ks 1) i), (bR ks), .raw v196⟩) (by rw [show ic (nth ks 0) (nth ks 1) (i + 1) = _ from jM, rC, if_neg h215]; rfl)) (zL))
   try simp only [NF] at h204
   obtain rfl : i = (nth ks 0).Plan.Attrs.length := by omega
   refine aY (Jr (Zs (aa bX Sr rfl) (Zs (aa (br (n := n1)) (Ef (hn1 zG)) rfl) (Zl bQ Sr (Zs (ah underlying44 Sr) ?_)))))
   refine Zm (ae (av ?_))
   refine aO (σ := Nat × Value) (fun ⟨k, vd⟩ => k <= (nth ks 1).Plan.Attrs.length) (fun ⟨k, vd⟩ => upd (upd (upd (upd (upd (upd (upd (upd (upd cg 5 (bx (rSl (bT n)) ks)) 6 (tAt b6 0)) 7 (tAt b7 0)) 15 (bx (bT n) (nth ks 0))) 16 (bx (bT n) (nth ks 1))) 56 (tV (.int .i64 p.Kind))) 238 (tSl aS (nth ks 1).Plan.Attrs)) 239 (tV (.int .i64 (nth ks 1).Plan.Attrs.length))) 240 (tV (.int .i64 k))) (fun ⟨k, vd⟩ => [box b7 152 (ck n) ⟨p.Kind, p.Table, .raw vk, p.Tests, p.Cols, p.Col, p.Agg, p.Attrs, (ic (nth ks 0) (nth ks 1) (nth ks 0).Plan.Attrs.length), (bR ks), .raw vd⟩, own 46 (aR n) vk (ks.map Gnode.Plan), own 3 bg vd (jDs (nth ks 0) (nth ks 1) k), box b6 152 (bT (n + 1)) ⟨GPl.zero, dF⟩]) (fun ⟨k, vd⟩ => (nth ks 1).Plan.Attrs.length - k) (0, v196) (by exact Nat.zero_le _) (zU) (.r zS (.r zS (.c zS (SPs.of (A := own 3 bg v196 (nth ks 0).size.distinct) (by simp [jDs, vy])) (zL)))) ?_
   rintro ⟨k, vd⟩ hi
   try dsimp only at hi
   refine Jr (Zs (aA Sr Sr) (ae (ar ?_)))
   refine au Sr (fun h241 => ?_) (fun h241 => ?_)
   ·
    try simp only [NF] at h241
    have hlt : k < (nth ks 1).Plan.Attrs.length := by omega
    have hjl := sD (nth ks 0) (nth ks 1) k
    refine ay (ar (av (Jr (Zm ?_))))
    refine Zs (ad (i := k) underlying44 ct Sr Sr (by rfl) (gb (by exact hlt))) ?_
    refine Zl ct Sr ?_
    refine Zx (aD (fun w => zeroValue89 w) qY) fun v21 => ?_
    refine Za ?_
    refine Ju (aj ct Sr Sr zS) fun _ => ?_
    refine bc (t := 21) (Sel.take (Dz _)) Frz.box ?_
    refine ae (Jr (Zs (aa bX Sr rfl) (Zs (aa (br (n := n1)) (Ef (hn1 zG)) rfl) (Zl bQ Sr (Zs (aa dH Sr rfl) ?_)))))
    refine Zl ty9 Sr ?_
    refine Zs (ai (fc _ _ (by show (nth ks 0).Plan.Attrs.length <= _; omega)) ⟨Sr, Sr, trivial⟩ call219) ?_
    refine Zs (aA Sr Sr) (ae ?_)
    refine au Sr (fun h251 => ?_) (fun h251 => ?_)
    ·
     try simp only [NF] at h251
     refine cl [⟨0, [7], 0⟩, ⟨1, [252], 0⟩, ⟨3, [16], 0⟩, ⟨4, [255], 0⟩, ⟨5, [256], 0⟩, ⟨6, [20], 0⟩, ⟨7, [257, 258], 0⟩, ⟨8, [259], 0⟩, ⟨9, [260], 0⟩, ⟨2, [253], 1⟩, ⟨10, [254, 261], 2⟩, ⟨11, [7], 0⟩, ⟨12, [263], 0⟩, ⟨13, [262, 264], 2⟩] rfl (by kernel_rfl) ?_
     refine ZX rfl (ap (o := 0) (o' := 8) (bX (n := n + 1)) Sr rfl rfl) ?_
     refine ZX rfl (ap (o := 8) (o' := 10) ci Sr rfl rfl) ?_
     refine ZX rfl (aa bX Sr rfl) ?_
     refine ZX rfl (aa ci Sr rfl) ?_
     refine ZX rfl (ab bY Sr) ?_
     refine ZX rfl (al Sr) ?_
     refine ZX rfl (ad (i := k) underlying36 ty3 Sr Sr (by rfl) (gb (by show _ < (nth ks 1).size.distinct.length; omega))) ?_
     refine ZX rfl (ab ty3 Sr) ?_
     refine ZX rfl (ax (ys := [_]) underlying36 el3 ⟨rfl, Sr, trivial⟩ rfl (by decide)) ?_
     refine bW rfl rfl rfl rfl (aQ (b := b7) (n := 10) (fs := (bB n)) l9 Sr rfl zS) ?_
     refine dq rfl rfl rfl rfl (aL underlying36 el3 Sr Sr zS (by simp only [jDs, List.length_append, List.length_cons, List.length_nil, List.length_map]; omega) (by simp only [jDs, List.length_append, List.length_cons, List.length_nil, List.length_map]; omega)) fun v262 => ?_
     refine ZX rfl (ap (o := 0) (o' := 8) (bX (n := n + 1)) Sr rfl rfl) ?_
     refine ZX rfl (ap (o := 8) (o' := 10) ci Sr rfl rfl) ?_
     refine bI rfl rfl rfl (aI (b := b7) (n := 10) (fs := (bB n)) (R := rV) (y' := (⟨p.Kind, p.Table, .raw vk, p.Tests, p.Cols, p.Col, p.Agg, p.Attrs, (ic (nth ks 0) (nth ks 1) (nth ks 0).Plan.Attrs.length), (bR ks), .raw v262⟩ : GnodeF)) pq Sr Sr zS (by exact ⟨rfl, ⟨rfl, ⟨rfl, ⟨rfl, ⟨rfl, ⟨rfl, ⟨rfl, ⟨rfl, ⟨rfl, ⟨rfl, ⟨fun _ _ q => DR q, rfl, by intro g hg; cases hg⟩⟩⟩⟩⟩⟩⟩⟩⟩⟩⟩)) fun _ => ?_
     refine cC (aq (Zs (aB Sr Sr z6) (Zm (ae ?_))))
     refine aE (σ := Nat × Value) (s := (k, vd)) (k + 1, v262) zO (by show k + 1 <= _; omega) (zU) (.r zS (.r zS (.c zS (SPs.of (A := own 3 bg v262 (jDs (nth ks 0) (nth ks 1) k ++ [nth (nth ks 1).size.distinct k])) (by rw [A9 h251])) (zL))))
    try simp only [NF] at h251
    refine ay (aq (Zs (aB Sr Sr z6) (Zm (ae ?_))))
    refine aE (σ := Nat × Value) (s := (k, vd)) (k + 1, vd) zO (by show k + 1 <= _; omega) (zU) (.r zS (.r zS (.c zS (SPs.of (A := own 3 bg vd (jDs (nth ks 0) (nth ks 1) k)) (by rw [Ba zG])) (zL))))
   try simp only [NF] at h241
   obtain rfl : k = (nth ks 1).Plan.Attrs.length := by omega
   refine aY ?_
   refine bZ (L' := [box b7 152 (ck n) ⟨p.Kind, p.Table, .raw vk, p.Tests, p.Cols, p.Col, p.Agg, p.Attrs, (ic (nth ks 0) (nth ks 1) (nth ks 0).Plan.Attrs.length), (bR ks), .raw vd⟩, own 3 bg vd (jDs (nth ks 0) (nth ks 1) (nth ks 1).Plan.Attrs.length), own 46 (aR n) vk (ks.map Gnode.Plan), box b6 152 (bT (n + 1)) ⟨GPl.zero, dF⟩]) (zL) ?_
   refine jL (Sel.take (Sel.take (Dz _))) Frz2.ds ?_
   refine iM (E := fun _ => cg) () (zU) (.c zS (SPs.of (A := box b7 152 (ck n) ⟨p.Kind, p.Table, .raw vk, p.Tests, p.Cols, p.Col, p.Agg, p.Attrs, (ic (nth ks 0) (nth ks 1) (nth ks 0).Plan.Attrs.length), (bR ks), .imm (jDs (nth ks 0) (nth ks 1) (nth ks 1).Plan.Attrs.length)⟩) (by rw [vF hk, AG hk])) (zL))
  try simp only [NF] at h175
  refine Jr (Zs (aC Sr Sr) (Za (ae ?_)))
  refine au Sr (fun h266 => ?_) (fun h266 => ?_)
  ·
   try simp only [NF] at h266
   have hk : p.Kind = 5 := h266
   have hk1 := q9 (.inr hk)
   have hkb := xT hm (.inr hk)
   have hkbn := hkb.n
   have hkba := hkb.a
   have hkbr := hkb.r
   unfold fm at hkbr
   have hq10 := q10 hk
   refine ar ?_
   refine cl [⟨0, [5], 0⟩, ⟨1, [268], 0⟩, ⟨2, [269], 0⟩, ⟨3, [270], 0⟩, ⟨4, [271], 0⟩, ⟨5, [5], 0⟩, ⟨6, [273], 0⟩, ⟨7, [274], 0⟩, ⟨8, [275], 0⟩, ⟨9, [276], 0⟩, ⟨10, [272, 277], 0⟩, ⟨11, [278], 0⟩, ⟨12, [7], 0⟩, ⟨13, [280], 0⟩, ⟨14, [279, 281], 2⟩] rfl (by kernel_rfl) ?_
   refine ZX rfl (ab iR Sr) ?_
   refine ZX rfl (ad (i := 0) underlying197 eA Sr Sr (by rfl) (gb (by exact hk0))) ?_
   refine ZX rfl (aa bX Sr rfl) ?_
   refine ZX rfl (aa ci Sr rfl) ?_
   refine ZX rfl (ab ty3 Sr) ?_
   refine ZX rfl (ab iR Sr) ?_
   refine ZX rfl (ad (i := 1) underlying197 eA Sr Sr (by rfl) (gb (by exact hk1))) ?_
   refine ZX rfl (aa bX Sr rfl) ?_
   refine ZX rfl (aa ci Sr rfl) ?_
   refine ZX rfl (ab ty3 Sr) ?_
   refine ZX rfl (aB Sr Sr (by show fe ((nth ks 0).size.rows + (nth ks 1).size.rows); unfold fe; omega)) ?_
   refine ZX rfl (dh Sr Sr) ?_
   refine ZX rfl (ap (o := 0) (o' := 8) (bX (n := n + 1)) Sr rfl rfl) ?_
   refine ZX rfl (ap (o := 8) (o' := 8) ci Sr rfl rfl) ?_
   refine bI rfl rfl rfl (aI (b := b7) (n := 8) (fs := (bB n)) (R := bg) (y' := (⟨p.Kind, p.Table, .raw vk, p.Tests, p.Cols, p.Col, p.Agg, p.Attrs, (min 1000000000 ((nth ks 0).size.rows + (nth ks 1).size.rows)), (bR ks), .raw (.slice none 0 0)⟩ : GnodeF)) ty3 Sr Sr zS (by exact ⟨rfl, ⟨rfl, ⟨rfl, ⟨rfl, ⟨rfl, ⟨rfl, ⟨rfl, ⟨rfl, ⟨fun _ _ q => q, rfl, by intro g hg; simp only [List.mem_cons, List.not_mem_nil, or_false] at hg; rcases hg with rfl | rfl <;> rfl⟩⟩⟩⟩⟩⟩⟩⟩⟩)) fun _ => ?_
   refine cC (Jr (Zl iR Sr ?_))
   refine Zs (ad (i := 0) underlying197 eA Sr Sr (by rfl) (gb (by exact hk0))) ?_
   refine Zs (aa bX Sr rfl) (Zs (aa ci Sr rfl) (Zl bY Sr (Zs (ah underlying36 Sr) (Zm (ae ?_)))))
   refine av ?_
   refine aO (σ := Nat × Value) (fun ⟨i, vd⟩ => i <= (nth ks 0).size.distinct.length) (fun ⟨i, vd⟩ => upd (upd (upd (upd (upd cg 5 (bx (rSl (bT n)) ks)) 6 (tAt b6 0)) 7 (tAt b7 0)) 287 (tV (.int .i64 (nth ks 0).size.distinct.length))) 288 (tV (.int .i64 i))) (fun ⟨i, vd⟩ => [box b7 152 (ck n) ⟨p.Kind, p.Table, .raw vk, p.Tests, p.Cols, p.Col, p.Agg, p.Attrs, (min 1000000000 ((nth ks 0).size.rows + (nth ks 1).size.rows)), (bR ks), .raw vd⟩, own 46 (aR n) vk (ks.map Gnode.Plan), own 3 bg vd (uDs (nth ks 0).size.distinct (nth ks 1).size.distinct i), box b6 152 (bT (n + 1)) ⟨GPl.zero, dF⟩]) (fun ⟨i, vd⟩ => (nth ks 0).size.distinct.length - i) (0, .slice none 0 0) (by exact Nat.zero_le _) (zU) (LSub.trans (DB (e := 3) (R := bg)) (LSub.cons (Sel.skip (Sel.take (Dz _))) SPs.rfl (LSub.cons (Sel.skip (Sel.take (Dz _))) SPs.rfl (LSub.cons (Sel.take (Dz _)) SPs.rfl (LSub.cons (Sel.take (Dz _)) SPs.rfl LSub.nil))))) ?_
   rintro ⟨i, vd⟩ hi
   try dsimp only at hi
   refine Jr (Zs (aA Sr Sr) (ae (ar ?_)))
   refine au Sr (fun h289 => ?_) (fun h289 => ?_)
   ·
    try simp only [NF] at h289
    have hlt : i < (nth ks 0).size.distinct.length := by omega
    have hd0 := hka.d.nth i
    have hd1 := hkb.d.nth i
    unfold fm at hd0 hd1
    refine ay (ar (av (Jr (Zm (Za ?_)))))
    refine ae ?_
    refine cl [⟨0, [7], 0⟩, ⟨1, [291], 0⟩, ⟨3, [5], 0⟩, ⟨4, [294], 0⟩, ⟨5, [295], 0⟩, ⟨6, [296], 0⟩, ⟨7, [297], 0⟩, ⟨8, [22], 0⟩, ⟨9, [298, 299], 0⟩, ⟨10, [300], 0⟩, ⟨11, [5], 0⟩, ⟨12, [302], 0⟩, ⟨13, [303], 0⟩, ⟨14, [304], 0⟩, ⟨15, [305], 0⟩, ⟨16, [22], 0⟩, ⟨17, [306, 307], 0⟩, ⟨18, [308], 0⟩, ⟨19, [301, 309], 0⟩, ⟨20, [310], 0⟩, ⟨2, [292], 1⟩, ⟨21, [293, 311], 2⟩, ⟨22, [7], 0⟩, ⟨23, [313], 0⟩, ⟨24, [312, 314], 2⟩] rfl (by kernel_rfl) ?_
    refine ZX rfl (ap (o := 0) (o' := 8) (bX (n := n + 1)) Sr rfl rfl) ?_
    refine ZX rfl (ap (o := 8) (o' := 10) ci Sr rfl rfl) ?_
    refine ZX rfl (ab iR Sr) ?_
    refine ZX rfl (ad (i := 0) underlying197 eA Sr Sr (by rfl) (gb (by exact hk0))) ?_
    refine ZX rfl (aa bX Sr rfl) ?_
    refine ZX rfl (aa ci Sr rfl) ?_
    refine ZX rfl (ab bY Sr) ?_
    refine ZX rfl (al Sr) ?_
    refine ZX rfl (ad (i := i) underlying36 ty3 Sr Sr (by rfl) (gb (by exact hlt))) ?_
    refine ZX rfl (ab ty3 Sr) ?_
    refine ZX rfl (ab iR Sr) ?_
    refine ZX rfl (ad (i := 1) underlying197 eA Sr Sr (by rfl) (gb (by exact hk1))) ?_
    refine ZX rfl (aa bX Sr rfl) ?_
    refine ZX rfl (aa ci Sr rfl) ?_
    refine ZX rfl (ab bY Sr) ?_
    refine ZX rfl (al Sr) ?_
    refine ZX rfl (ad (i := i) underlying36 ty3 Sr Sr (by rfl) (gb (by show _ < (nth ks 1).size.distinct.length; omega))) ?_
    refine ZX rfl (ab ty3 Sr) ?_
    refine ZX rfl (aB Sr Sr (by show fe (nth (nth ks 0).size.distinct i + nth (nth ks 1).size.distinct i); unfold fe; omega)) ?_
    refine ZX rfl (ax (ys := [_]) underlying36 el3 ⟨rfl, Sr, trivial⟩ rfl (by decide)) ?_
    refine bW rfl rfl rfl rfl (aQ (b := b7) (n := 10) (fs := (bB n)) l9 Sr rfl zS) ?_
    refine dq rfl rfl rfl rfl (aL underlying36 el3 Sr Sr zS (by simp only [List.length_append, List.length_cons, List.length_nil, List.length_map, List.length_take, uDs, cm, List.length_range]; omega) (by simp only [List.length_append, List.length_cons, List.length_nil, List.length_map, List.length_take, uDs, cm, List.length_range]; omega)) fun v312 => ?_
    refine ZX rfl (ap (o := 0) (o' := 8) (bX (n := n + 1)) Sr rfl rfl) ?_
    refine ZX rfl (ap (o := 8) (o' := 10) ci Sr rfl rfl) ?_
    refine bI rfl rfl rfl (aI (b := b7) (n := 10) (fs := (bB n)) (R := rV) (y' := (⟨p.Kind, p.Table, .raw vk, p.Tests, p.Cols, p.Col, p.Agg, p.Attrs, (min 1000000000 ((nth ks 0).size.rows + (nth ks 1).size.rows)), (bR ks), .raw v312⟩ : GnodeF)) pq Sr Sr zS (by exact ⟨rfl, ⟨rfl, ⟨rfl, ⟨rfl, ⟨rfl, ⟨rfl, ⟨rfl, ⟨rfl, ⟨rfl, ⟨rfl, ⟨fun _ _ q => DR q, rfl, by intro g hg; cases hg⟩⟩⟩⟩⟩⟩⟩⟩⟩⟩⟩)) fun _ => ?_
    refine cC (aq (Zs (aB Sr Sr z6) (Zm (ae ?_))))
    refine aE (σ := Nat × Value) (s := (i, vd)) (i + 1, v312) zO (by show i + 1 <= _; omega) (zU) (.r zS (.r zS (.c zS (SPs.of (A := own 3 bg v312 (uDs (nth ks 0).size.distinct (nth ks 1).size.distinct i ++ [nth (nth ks 0).size.distinct i + nth (nth ks 1).size.distinct i])) (by rw [sE])) (zL))))
   try simp only [NF] at h289
   obtain rfl : i = (nth ks 0).size.distinct.length := by omega
   refine aY ?_
   refine bZ (L' := [box b7 152 (ck n) ⟨p.Kind, p.Table, .raw vk, p.Tests, p.Cols, p.Col, p.Agg, p.Attrs, (min 1000000000 ((nth ks 0).size.rows + (nth ks 1).size.rows)), (bR ks), .raw vd⟩, own 3 bg vd (uDs (nth ks 0).size.distinct (nth ks 1).size.distinct (nth ks 0).size.distinct.length), own 46 (aR n) vk (ks.map Gnode.Plan), box b6 152 (bT (n + 1)) ⟨GPl.zero, dF⟩]) (zL) ?_
   refine jL (Sel.take (Sel.take (Dz _))) Frz2.ds ?_
   refine iM (E := fun _ => cg) () (zU) (.c zS (SPs.of (A := box b7 152 (ck n) ⟨p.Kind, p.Table, .raw vk, p.Tests, p.Cols, p.Col, p.Agg, p.Attrs, (min 1000000000 ((nth ks 0).size.rows + (nth ks 1).size.rows)), (bR ks), .imm (uDs (nth ks 0).size.distinct (nth ks 1).size.distinct (nth ks 0).size.distinct.length)⟩) (by rw [vG hk, zR hk])) (zL))
  try simp only [NF] at h266
  refine cl [⟨0, [5], 0⟩, ⟨1, [57], 0⟩, ⟨2, [58], 0⟩, ⟨3, [59], 0⟩, ⟨4, [60], 0⟩, ⟨5, [5], 0⟩, ⟨6, [62], 0⟩, ⟨7, [63], 0⟩, ⟨8, [64], 0⟩, ⟨9, [65], 0⟩, ⟨10, [7], 0⟩, ⟨11, [67], 0⟩, ⟨12, [61, 68], 2⟩, ⟨13, [7], 0⟩, ⟨14, [69], 0⟩, ⟨15, [66, 70], 2⟩] rfl (by kernel_rfl) ?_
  refine ZX rfl (ab iR Sr) ?_
  refine ZX rfl (ad (i := 0) underlying197 eA Sr Sr (by rfl) (gb (by exact hk0))) ?_
  refine ZX rfl (aa bX Sr rfl) ?_
  refine ZX rfl (aa ci Sr rfl) ?_
  refine ZX rfl (ab ty3 Sr) ?_
  refine ZX rfl (ab iR Sr) ?_
  refine ZX rfl (ad (i := 0) underlying197 eA Sr Sr (by rfl) (gb (by exact hk0))) ?_
  refine ZX rfl (aa bX Sr rfl) ?_
  refine ZX rfl (aa ci Sr rfl) ?_
  refine ZX rfl (ab bY Sr) ?_
  refine ZX rfl (ap (o := 0) (o' := 8) (bX (n := n + 1)) Sr rfl rfl) ?_
  refine ZX rfl (ap (o := 8) (o' := 8) ci Sr rfl rfl) ?_
  refine bI rfl rfl rfl (aI (b := b7) (n := 8) (fs := (bB n)) (R := bg) (y' := (⟨p.Kind, p.Table, .raw vk, p.Tests, p.Cols, p.Col, p.Agg, p.Attrs, (nth ks 0).size.rows, (bR ks), .raw (.slice none 0 0)⟩ : GnodeF)) ty3 Sr Sr zS (by exact ⟨rfl, ⟨rfl, ⟨rfl, ⟨rfl, ⟨rfl, ⟨rfl, ⟨rfl, ⟨rfl, ⟨fun _ _ q => q, rfl, by intro g hg; simp only [List.mem_cons, List.not_mem_nil, or_false] at hg; rcases hg with rfl | rfl <;> rfl⟩⟩⟩⟩⟩⟩⟩⟩⟩)) fun _ => ?_
  refine ZX rfl (ap (o := 0) (o' := 8) (bX (n := n + 1)) Sr rfl rfl) ?_
  refine ZX rfl (ap (o := 8) (o' := 10) ci Sr rfl rfl) ?_
  refine bI rfl rfl rfl (aI (b := b7) (n := 10) (fs := (bB n)) (R := (rSl bg)) (y' := (⟨p.Kind, p.Table, .raw vk, p.Tests, p.Cols, p.Col, p.Agg, p.Attrs, (nth ks 0).size.rows, (bR ks), .imm (nth ks 0).size.distinct⟩ : GnodeF)) bY Sr Sr zS (by exact ⟨rfl, ⟨rfl, ⟨rfl, ⟨rfl, ⟨rfl, ⟨rfl, ⟨rfl, ⟨rfl, ⟨rfl, ⟨rfl, ⟨fun _ _ q => D8 q, rfl, by intro g hg; cases hg⟩⟩⟩⟩⟩⟩⟩⟩⟩⟩⟩)) fun _ => ?_
  refine cC ?_
  refine iM (E := fun _ => cg) () (zU) (.c zS (SPs.of (A := box b7 152 (ck n) ⟨p.Kind, p.Table, .raw vk, p.Tests, p.Cols, p.Col, p.Agg, p.Attrs, (nth ks 0).size.rows, (bR ks), .imm (nth ks 0).size.distinct⟩) (by rw [vH zG zG zG zG zG zG, yS zG zG zG zG zG zG])) (zL))
 rintro _
 refine Jr (Zs (ap (o := 0) (o' := 8) (bX (n := n + 1)) Sr rfl rfl) (Zs (ap (o := 8) (o' := 10) ci Sr rfl rfl) ?_))
 refine Zs (aQ (b := b7) (n := 10) (fs := (bB n)) l9 Sr rfl zS) ?_
 refine Zx (bz (Dz _) (l7 _ (by show (dsM x p ks).length <= _; omega)) ⟨Sr, trivial⟩ call113) fun v319 => ?_
 refine Zs (ap (o := 0) (o' := 8) (bX (n := n + 1)) Sr rfl rfl) (Zs (ap (o := 8) (o' := 10) ci Sr rfl rfl) ?_)
 refine Ju (aI (b := b7) (n := 10) (fs := (bB n)) (R := rV) (y' := (⟨p.Kind, p.Table, .raw vk, p.Tests, p.Cols, p.Col, p.Agg, p.Attrs, (cL x p ks), (bR ks), .raw v319⟩ : GnodeF)) pq Sr Sr zS (by exact ⟨rfl, ⟨rfl, ⟨rfl, ⟨rfl, ⟨rfl, ⟨rfl, ⟨rfl, ⟨rfl, ⟨rfl, ⟨rfl, ⟨fun _ _ q => DR q, rfl, by intro g hg; cases hg⟩⟩⟩⟩⟩⟩⟩⟩⟩⟩⟩)) fun _ => ?_
 refine ae (ar (Jr (Zs (ap (o := 0) (o' := 8) (bX (n := n + 1)) Sr rfl rfl) (Zs (ap (o := 8) (o' := 10) ci Sr rfl rfl) ?_))))
 refine Zs (aQ (b := b7) (n := 10) (fs := (bB n)) l9 Sr rfl zS) ?_
 refine Zs (cj underlying36 Sr zS) ?_
 refine Zm (ae (av ?_))
 refine aO (σ := Nat) (fun i => i <= (dsM x p ks).length) (fun i => upd (upd (upd (upd cg 6 (tAt b6 0)) 7 (tAt b7 0)) 325 (tV (.int .i64 (dsM x p ks).length))) 326 (tV (.int .i64 i))) (fun i => [box b7 152 (ck n) ⟨p.Kind, p.Table, .raw vk, p.Tests, p.Cols, p.Col, p.Agg, p.Attrs, (cL x p ks), (bR ks), .raw v319⟩, own 46 (aR n) vk (ks.map Gnode.Plan), own 3 bg v319 (pY (dsM x p ks) (cL x p ks) i), box b6 152 (bT (n + 1)) ⟨GPl.zero, dF⟩]) (fun i => (dsM x p ks).length - i) 0 (by exact Nat.zero_le _) (zU) (.r zS (.r zS (.c zS (SPs.of (A := own 3 bg v319 (dsM x p ks)) (by rw [A8])) (zL)))) ?_
 rintro i hi
 refine Jr (Zs (aA Sr Sr) (ae (ar ?_)))
 refine au Sr (fun h327 => ?_) (fun h327 => ?_)
 ·
  try simp only [NF] at h327
  have hlt : i < (dsM x p ks).length := by omega
  refine ay (ar (av (Jr (Zm (Za ?_)))))
  refine ae ?_
  refine cl [⟨0, [7], 0⟩, ⟨1, [329], 0⟩, ⟨3, [23], 0⟩, ⟨4, [7], 0⟩, ⟨5, [333], 0⟩, ⟨7, [23], 0⟩, ⟨10, [7], 0⟩, ⟨11, [339], 0⟩, ⟨2, [330], 1⟩, ⟨6, [334], 1⟩, ⟨8, [335, 336], 1⟩, ⟨9, [337], 1⟩, ⟨12, [340], 1⟩, ⟨13, [338, 341], 0⟩, ⟨14, [331, 332], 1⟩, ⟨15, [342, 343], 2⟩] rfl (by kernel_rfl) ?_
  refine ZX rfl (ap (o := 0) (o' := 8) (bX (n := n + 1)) Sr rfl rfl) ?_
  refine ZX rfl (ap (o := 8) (o' := 10) ci Sr rfl rfl) ?_
  refine ZX rfl (al Sr) ?_
  refine ZX rfl (ap (o := 0) (o' := 8) (bX (n := n + 1)) Sr rfl rfl) ?_
  refine ZX rfl (ap (o := 8) (o' := 10) ci Sr rfl rfl) ?_
  refine ZX rfl (al Sr) ?_
  refine ZX rfl (ap (o := 0) (o' := 8) (bX (n := n + 1)) Sr rfl rfl) ?_
  refine ZX rfl (ap (o := 8) (o' := 8) ci Sr rfl rfl) ?_
  refine bW rfl rfl rfl rfl (aQ (b := b7) (n := 10) (fs := (bB n)) l9 Sr rfl zS) ?_
  refine bW rfl rfl rfl rfl (aQ (b := b7) (n := 10) (fs := (bB n)) l9 Sr rfl zS) ?_
  refine bW rfl rfl rfl rfl (bd (i := i) underlying36 ty3 Sr zS Sr (by rfl) (by rw [jN]; exact hlt)) ?_
  refine bW rfl rfl rfl rfl (dc ty3 Sr zS (gb (by rw [jN]; exact hlt))) ?_
  refine bW rfl rfl rfl rfl (aQ (b := b7) (n := 8) (fs := (bB n)) ty3 Sr rfl zS) ?_
  refine ZX rfl (dh Sr Sr) ?_
  refine bW rfl rfl rfl rfl (bd (i := i) underlying36 ty3 Sr zS Sr (by rfl) (by rw [jN]; exact hlt)) ?_
  refine bI rfl rfl rfl (dK ty3 Sr Sr zS (by rw [jN]; exact hlt)) fun _ => ?_
  refine cC (aq (Zs (aB Sr Sr z6) (Zm (ae ?_))))
  refine aE (σ := Nat) (s := i) (i + 1) zO (by show i + 1 <= _; omega) (zU) (.r zS (.r zS (.c zS (SPs.of (A := own 3 bg v319 ((pY (dsM x p ks) (cL x p ks) i).set i (min (nth (pY (dsM x p ks) (cL x p ks) i) i) (cL x p ks)))) (by rw [xV hlt])) (zL))))
 try simp only [NF] at h327
 obtain rfl : i = (dsM x p ks).length := by omega
 refine aY (Jr (Zs (ap (o := 0) (o' := 8) (bX (n := n + 1)) Sr rfl rfl) (Zs (ap (o := 8) (o' := 9) ci Sr rfl rfl) ?_)))
 refine Zs (aQ (b := b7) (n := 9) (fs := (bB n)) ty3 Sr rfl zS) ?_
 refine Zs (ap (o := 0) (o' := 8) (bX (n := n + 1)) Sr rfl rfl) (Zs (ap (o := 8) (o' := 8) ci Sr rfl rfl) ?_)
 refine Zs (aQ (b := b7) (n := 8) (fs := (bB n)) ty3 Sr rfl zS) ?_
 refine Zs (aB Sr Sr (by show fe ((bR ks) + (cL x p ks)); unfold fe; omega)) ?_
 refine Zs (dh Sr Sr) (Zs (ap (o := 0) (o' := 8) (bX (n := n + 1)) Sr rfl rfl) (Zs (ap (o := 8) (o' := 9) ci Sr rfl rfl) ?_))
 refine Ju (aI (b := b7) (n := 9) (fs := (bB n)) (R := bg) (y' := (⟨p.Kind, p.Table, .raw vk, p.Tests, p.Cols, p.Col, p.Agg, p.Attrs, (cL x p ks), (min 1000000000 ((bR ks) + (cL x p ks))), .raw v319⟩ : GnodeF)) ty3 Sr Sr zS (by exact ⟨rfl, ⟨rfl, ⟨rfl, ⟨rfl, ⟨rfl, ⟨rfl, ⟨rfl, ⟨rfl, ⟨rfl, ⟨fun _ _ q => q, rfl, by intro g hg; simp only [List.mem_cons, List.not_mem_nil, or_false] at hg; subst hg; rfl⟩⟩⟩⟩⟩⟩⟩⟩⟩⟩)) fun _ => ?_
 refine ae (ar ?_)
 refine bZ (L' := [box b7 152 (ck n) ⟨p.Kind, p.Table, .raw vk, p.Tests, p.Cols, p.Col, p.Agg, p.Attrs, (cL x p ks), (min 1000000000 ((bR ks) + (cL x p ks))), .raw v319⟩, own 46 (aR n) vk (ks.map Gnode.Plan), own 3 bg v319 ((dsM x p ks).map fun d => min d (cL x p ks)), box b6 152 (bT (n + 1)) ⟨GPl.zero, dF⟩]) (.r zS (.r zS (.c zS (SPs.of (A := own 3 bg v319 (pY (dsM x p ks) (cL x p ks) (dsM x p ks).length)) (by rw [xW])) (zL)))) ?_
 refine bF (t := 7) (A' := bx (bT (n + 1)) (makeM x p ks)) (Sel.take (Sel.take (Sel.take (Dz _)))) Frz.node ?_
 refine aq (Zl eA Sr ?_)
 refine Ju (aj eA Sr Sr zS) fun _ => ?_
 refine ae (aF ?_)
 refine aZ (rv := .cell 6 152) rfl () (Sel.all _) (.cell (R := bT (n + 1)) eA Sr zS Sr) (Frz.sub Sr)
def cD (x : Gplanner) : Nat -> aG -> Gnode
  | 0, p => makeM x p []
  | n + 1, p => makeM x p (p.Kids.map (cD x n))
def EOk (x : Gplanner) : Nat -> aG -> Prop
  | 0, _ => True
  | n + 1, p => MkOk x p (p.Kids.map (cD x n)) /\ ∀ q ∈ p.Kids, EOk x n q
theorem B8 {n m : Nat} (hm : n = m + 1) : ∀ h, ((aR n).ty GPl.zero).p h (.agg #[Value.int .i64 0, Value.int .i64 0, Value.slice none 0 0, Value.slice none 0 0, Value.slice none 0 0, Value.int .i64 0, Value.int .i64 0, Value.slice none 0 0]) := hm ▸ ss
def yT (x : Gplanner) (n : Nat) : Prop := ∀ p : aG, EOk x n p -> Fun1 prog 93 [bu.ty x, (aR n).ty p] ((bT n).ty (cD x n p))
def ig (s : GSchema) (st : GStats) (t : Nat) : Bool := !(decide (1000000000 < nth st.Rows t) || (decide (0 < 0) || decide (nth st.Rows t < 0)) || !decide (((nth st.Distinct t).length : Int) = (nth s.Tables t).Attrs.length) || (nth st.Distinct t).any fun n => decide (n < 0) || decide (nth st.Rows t < n))
def bq (s : GSchema) (p : aG) (st : GStats) : Bool := iE s p && decide (st.Rows.length = s.Tables.length) && decide (st.Distinct.length = s.Tables.length) && (List.range st.Rows.length).all (ig s st)
structure StOk (x : Gplanner) : Prop where
  r : x.st.Rows.length = x.s.Tables.length
  d : x.st.Distinct.length = x.s.Tables.length
  u : ∀ t, t < x.s.Tables.length -> fm (nth x.st.Rows t)
  n : ∀ t, t < x.s.Tables.length -> (nth x.st.Distinct t).length = (nth x.s.Tables t).Attrs.length
  a : ∀ t, t < x.s.Tables.length -> ∀ v ∈ nth x.st.Distinct t, 0 <= v /\ v <= nth x.st.Rows t
theorem jO {s : GSchema} {p : aG} {st : GStats} (h : bq s p st = true) : iE s p = true /\ StOk ⟨s, st⟩ := by
  unfold bq at h
  simp only [Bool.and_eq_true, decide_eq_true_eq, List.all_eq_true, List.mem_range] at h
  obtain ⟨⟨⟨h1, h2⟩, h3⟩, h4⟩ := h
  have h5 : ∀ t, t < s.Tables.length -> fm (nth st.Rows t) /\ (nth st.Distinct t).length = (nth s.Tables t).Attrs.length /\ ∀ v ∈ nth st.Distinct t, 0 <= v /\ v <= nth st.Rows t := fun t ht => by
    have := h4 t (by omega)
    unfold ig at this
    simp only [Bool.not_eq_true', Bool.or_eq_false_iff, decide_eq_false_iff_not, Bool.not_eq_false', decide_eq_true_eq, List.any_eq_false, Bool.or_eq_true, not_or] at this
    obtain ⟨⟨⟨q1, q2, q3⟩, q4⟩, q5⟩ := this
    exact ⟨⟨by omega, by omega⟩, by omega, fun v hv => by have := q5 v hv; omega⟩
  exact ⟨h1, h2, h3, fun t ht => (h5 t ht).1, fun t ht => (h5 t ht).2.1, fun t ht => (h5 t ht).2.2⟩
section
variable {s : GSchema} {l : Nat} {p : aG}
theorem wk5 (h : validM s l p = true) (hk : p.Kind = 5 \/ p.Kind = 6) : p.Kids.length = 2 /\ p.Attrs.length = (nth p.Kids 0).Attrs.length /\ (nth p.Kids 0).Attrs.length = (nth p.Kids 1).Attrs.length := by
  obtain ⟨l', _, _, hn, _, h1, h2⟩ := dE h
  have e : colsM s p = ((nth p.Kids 0).Attrs, cq (nth p.Kids 0).Attrs (nth p.Kids 1).Attrs) := by unfold colsM; rcases hk with hk | hk <;> simp [hk]
  rw [e] at h1 h2
  have hn2 : kidsN p.Kind = 2 := by unfold kidsN; rcases hk with hk | hk <;> simp [hk]
  exact ⟨by omega, h2.symm, l0 h1⟩
theorem wk8 (h : validM s l p = true) (hk : p.Kind = 8) : p.Kids.length = 1 /\ (∀ c ∈ p.Cols, 0 <= c /\ c < (nth p.Kids 0).Attrs.length) /\ p.Attrs.length = p.Cols.length + 1 := by
  obtain ⟨l', _, _, hn, _, h1, h2⟩ := dE h
  have e : colsM s p = if fS p = true then (jB p, jq p) else ([], false) := by simp [colsM, hk]
  rw [e] at h1 h2
  rw [hk] at hn
  simp [kidsN] at hn
  split at h1
  · rename_i q
    rw [if_pos q] at h2
    simp only [fS, dU, Bool.and_eq_true, List.all_eq_true, decide_eq_true_eq] at q
    exact ⟨by omega, q.1, q.2.1⟩
  · cases h1
end
theorem rE {t : GTest} {n k : Nat} (h : ew t n = true) (hk : n = k) : mb k t := by
  unfold ew at h
  simp only [Bool.and_eq_true] at h
  have hs : ∀ s : GSide, iQ s n = true -> s.Var = 0 -> 0 <= s.Col /\ s.Col < k := fun s h1 h2 => by
    unfold iQ at h1
    rw [if_neg (by omega)] at h1
    simp only [Bool.and_eq_true, decide_eq_true_eq] at h1
    omega
  intro s hs1 hv
  simp only [List.mem_cons, List.not_mem_nil, or_false] at hs1
  rcases hs1 with rfl | rfl
  · exact hs _ h.1.1.2 hv
  · exact hs _ h.1.2 hv
theorem vJ {α : Type} [Inhabited α] (l : List α) : (List.range l.length).map (nth l) = l := by
  refine eW (by simp) fun i hi => ?_
  rw [nth_get hi]; simp
theorem xX {α : Type} [Inhabited α] (f : α -> Bool) (l : List α) : l.filter f = ((List.range l.length).filter fun k => f (nth l k)).map (nth l) := by
  conv => lhs; rw [<- vJ l]
  rw [List.filter_map]; rfl
theorem vK {a b : Gnode} (ha : NdOk a) : (jDs a b b.Plan.Attrs.length).length = (bL a.Plan.Attrs b.Plan.Attrs).length := by
  unfold jDs bL vy
  rw [List.length_append, List.length_append, List.length_map, ha.n, xX (fun x => decide (columnL a.Plan.Attrs x.Name < 0)) b.Plan.Attrs, List.length_map]
theorem yU {x : Gplanner} {p : aG} {ks : List Gnode} (hm : MkOk x p ks) (hd : ∀ v ∈ dsM x p ks, 0 <= v) (hn : (dsM x p ks).length = p.Attrs.length) (ha : p.Attrs.length <= 1000000) : NdOk (makeM x p ks) := by
  have hr := ot hm
  have hc := or hm.k0
  refine ⟨hr, ?_, ?_, ?_, ha⟩
  · unfold fm at *; show 0 <= min _ _ /\ min _ _ <= _; omega
  · intro v hv
    simp only [makeM, List.mem_map] at hv
    obtain ⟨d, h1, rfl⟩ := hv
    have := hd d h1
    unfold fm at *; omega
  · simp only [makeM, List.length_map]; exact hn
theorem yV {x : Gplanner} {p : aG} {ks : List Gnode} (hm : MkOk x p ks) (h1 : p.Kind = 1 -> ∀ v ∈ nth x.st.Distinct p.Table.toNat, 0 <= v) : ∀ v ∈ dsM x p ks, 0 <= v := by
  by_cases k1 : p.Kind = 1
  · rw [AE k1]; exact h1 k1
  · have ha := A7 hm k1
    have hp : ∀ v ∈ cm (nth ks 0).size.distinct p.Cols, 0 <= v := fun v hv => by
      simp only [cm, List.mem_map] at hv
      obtain ⟨c, _, rfl⟩ := hv
      exact (ha.d.nth _).1
    by_cases k2 : p.Kind = 2
    · rw [AF k2]; exact fun v hv => (ha.d v hv).1
    · by_cases k3 : p.Kind = 3
      · rw [yQ k3]; exact hp
      · by_cases k8 : p.Kind = 8
        · rw [yR k8]
          intro v hv
          rcases List.mem_append.1 hv with hv | hv
          · exact hp v hv
          · simp only [List.mem_singleton] at hv; rw [hv]; exact (yP ha _).1
        · by_cases k4 : p.Kind = 4
          · have hb := xT hm (.inl k4)
            rw [AG k4, jDs]
            intro v hv
            rcases List.mem_append.1 hv with hv | hv
            · exact (ha.d v hv).1
            · simp only [List.mem_map] at hv
              obtain ⟨c, _, rfl⟩ := hv
              exact (hb.d.nth _).1
          · by_cases k5 : p.Kind = 5
            · have hb := xT hm (.inr k5)
              rw [zR k5, uDs]
              intro v hv
              simp only [List.mem_map] at hv
              obtain ⟨c, _, rfl⟩ := hv
              have := (ha.d.nth c).1
              have := (hb.d.nth c).1
              omega
            · rw [yS k1 k2 k3 k4 k5 k8]; exact fun v hv => (ha.d v hv).1
theorem xY {x : Gplanner} (hst : StOk x) (hsz : ∀ t ∈ x.s.Tables, t.Attrs.length <= 1000000) {l : Nat} {p : aG} (hv : validM x.s l p = true) {ks : List Gnode} (hks : ∀ k ∈ ks, NdOk k) (hkp : ks.map Gnode.Plan = p.Kids) (ht : p.Tests.length <= 1000000) (hc : p.Cols.length <= 1000000) (ha : p.Attrs.length <= 1000000) :
    MkOk x p ks /\ NdOk (makeM x p ks) := by
  obtain ⟨l', _, hkd, hkn, _⟩ := dE hv
  have hkl : ks.length = p.Kids.length := by rw [<- hkp, List.length_map]
  have hkb : kidsN p.Kind <= 2 := by unfold kidsN; split; omega; split <;> omega
  have hat : ∀ i, i < ks.length -> (nth ks i).size.distinct.length = (nth p.Kids i).Attrs.length := fun i hi => by
    rw [(hks _ (aH hi)).n, <- hkp, nth_get hi, nth_get (by simpa using hi)]; simp
  have h1 : p.Kind = 1 -> (0 <= p.Table /\ p.Table.toNat < x.s.Tables.length) /\ p.Attrs.length = (nth x.s.Tables p.Table.toNat).Attrs.length := fun hk => by
    have := vk1 hv hk
    exact ⟨⟨this.1.1, by omega⟩, this.2⟩
  have hM : MkOk x p ks := by
    refine ⟨hks, by omega, ht, hc, fun hk => ?_, fun hk => ?_, fun hk => ?_, fun hk => ?_, fun hk => ?_, fun hk => ?_⟩
    · obtain ⟨⟨q1, q2⟩, q3⟩ := h1 hk
      refine ⟨q1, by have := hst.r; omega, by have := hst.d; omega, hst.u _ q2, ?_⟩
      rw [hst.n _ q2]; exact hsz _ (aH q2)
    · have : 1 <= kidsN p.Kind := by unfold kidsN; rw [if_neg hk]; split <;> omega
      omega
    · obtain ⟨q1, q2, q3⟩ := vk2 hv hk
      exact fun t ht => rE (q2 t ht) (hat 0 (by omega)).symm
    · rcases hk with hk | hk
      · obtain ⟨q1, q2, q3⟩ := vk3 hv hk
        exact fun c hc => by rw [hat 0 (by omega)]; exact q2 c hc
      · obtain ⟨q1, q2, q3⟩ := wk8 hv hk
        exact fun c hc => by rw [hat 0 (by omega)]; exact q2 c hc
    · have : kidsN p.Kind = 2 := by unfold kidsN; rcases hk with hk | hk <;> simp [hk]
      omega
    · obtain ⟨q1, q2, q3⟩ := wk5 hv (.inl hk)
      rw [hat 0 (by omega), hat 1 (by omega), q3]; exact Nat.le_refl _
  refine ⟨hM, yU hM (yV hM fun hk v hvv => ?_) ?_ ha⟩
  · obtain ⟨⟨q1, q2⟩, q3⟩ := h1 hk
    exact (hst.a _ q2 v hvv).1
  · rcases cZ hkd with k | k | k | k | k | k | k | k
    · obtain ⟨⟨q1, q2⟩, q3⟩ := h1 k
      rw [AE k, hst.n _ q2, q3]
    · rw [AF k]; obtain ⟨q1, q2, q3⟩ := vk2 hv k; rw [hat 0 (by omega), q3]
    · rw [yQ k]; obtain ⟨q1, q2, q3⟩ := vk3 hv k; rw [cm, List.length_map, q3]
    · obtain ⟨q1, q2⟩ := vk4 hv k
      have e0 : (nth ks 0).Plan = nth p.Kids 0 := by rw [<- hkp, nth_get (l := ks) (by omega), nth_get (by simp; omega)]; simp
      have e1 : (nth ks 1).Plan = nth p.Kids 1 := by rw [<- hkp, nth_get (l := ks) (by omega), nth_get (by simp; omega)]; simp
      rw [AG k, vK (hks _ (aH (by omega))), e0, e1, q2]
    · rw [zR k]; obtain ⟨q1, q2, q3⟩ := wk5 hv (.inl k); rw [uDs, List.length_map, List.length_range, hat 0 (by omega), q2]
    · rw [yS (by omega) (by omega) (by omega) (by omega) (by omega) (by omega)]; obtain ⟨q1, q2, q3⟩ := wk5 hv (.inr k); rw [hat 0 (by omega), q2]
    · rw [yS (by omega) (by omega) (by omega) (by omega) (by omega) (by omega)]; obtain ⟨q1, q2⟩ := vk7 hv k; rw [hat 0 (by omega), q2]
    · rw [yR k]; obtain ⟨q1, q2, q3⟩ := wk8 hv k; rw [cm, List.length_append, List.length_map, List.length_singleton, q3]
theorem Bb (p : aG) : GPl.mk p.Kind p.Table p.Kids p.Tests p.Cols p.Col p.Agg p.Attrs = p := by cases p; rfl
theorem lD {x : Gplanner} (hst : StOk x) (hsz : ∀ t ∈ x.s.Tables, t.Attrs.length <= 1000000) : ∀ {n l : Nat} {p : aG}, Dep n p -> validM x.s l p = true -> od n p -> EOk x n p /\ NdOk (cD x n p) /\ (cD x n p).Plan = p
  | 0, _, _, hd, _, _ => hd.elim
  | n + 1, l, p, hd, hv, hp => by
    obtain ⟨z1, z2, z3, z4, z5⟩ := id hp
    obtain ⟨l', _, hkd, hkn, hkv, _⟩ := dE hv
    have ih : ∀ q ∈ p.Kids, EOk x n q /\ NdOk (cD x n q) /\ (cD x n q).Plan = q := fun q hq => lD hst hsz (hd q hq) (hkv q hq) (z5 q hq).1
    have hkp : (p.Kids.map (cD x n)).map Gnode.Plan = p.Kids := by
      rw [List.map_map]
      conv => rhs; rw [<- List.map_id p.Kids]
      exact List.map_congr_left fun q hq => (ih q hq).2.2
    obtain ⟨h1, h2⟩ := xY hst hsz hv (ks := p.Kids.map (cD x n)) (fun k hk => by
      obtain ⟨q, hq, rfl⟩ := List.mem_map.1 hk
      exact (ih q hq).2.1) hkp (by omega) (by omega) (by omega)
    refine ⟨⟨h1, fun q hq => (ih q hq).1⟩, h2, ?_⟩
    show GPl.mk p.Kind p.Table ((p.Kids.map (cD x n)).map Gnode.Plan) p.Tests p.Cols p.Col p.Agg p.Attrs = p
    rw [hkp, Bb]
theorem rF (x : Gplanner) (n : Nat) (p : aG) (hw : EOk x (n + 1) p) (ih : yT x n) : Fun1 prog 93 [bu.ty x, (aR (n + 1)).ty p] ((bT (n + 1)).ty (cD x (n + 1) p)) := by
 refine Spec.enter func93 rfl rfl fun h0 w0 fr0 => ?_
 refine eX 1 (fun _ _ r => pJ r) fun ⟨n1, hn1⟩ => ?_
 obtain ⟨hmk, hks⟩ := hw
 have hkl := hmk.n
 rw [List.length_map] at hkl
 refine Jr (Zs (aJ (R := bu) Sr) (Zs (aJ (R := (aR (n + 1))) Sr) ?_))
 refine Zx (aD (R := bT (n + 1)) (fun w => zeroValue152 w) vn) fun b4 => ?_
 refine ae (Jr (Za (ae (ar (Jr ?_)))))
 refine Zs (aa br Sr rfl) (Zl gp Sr (Zs (ah underlying42 Sr) (Zm (ae (av ?_)))))
 refine aO (σ := Nat × Value) (fun ⟨i, vo⟩ => i <= p.Kids.length) (fun ⟨i, vo⟩ => upd (upd (upd (upd (upd (upd (upd cg 2 (bx bu x)) 3 (bx (aR (n + 1)) p)) 4 (tAt b4 0)) 5 (rV.ty vo)) 9 (tSl (aR n) p.Kids)) 10 (tV (.int .i64 p.Kids.length))) 11 (tV (.int .i64 i))) (fun ⟨i, vo⟩ => [own 152 (bT n) vo ((p.Kids.take i).map (cD x n)), box b4 152 (bT (n + 1)) ⟨GPl.zero, dF⟩]) (fun ⟨i, vo⟩ => p.Kids.length - i) (0, .slice none 0 0) (by exact Nat.zero_le _) (.u (.u (.u (SubE.upd (DG rfl) (zU))))) (DB) ?_
 rintro ⟨i, vo⟩ hi
 try dsimp only at hi
 refine Jr (Zs (aA Sr Sr) (ae (ar ?_)))
 refine au Sr (fun h12 => ?_) (fun h12 => ?_)
 ·
  try simp only [NF] at h12
  have hlt : i < p.Kids.length := by omega
  refine ay (ar (av (Jr ?_)))
  refine Zs (ad (i := i) underlying42 dl Sr Sr (by rfl) (gb (by exact hlt))) ?_
  refine Zl dl Sr ?_
  refine Zx (aD (R := aR n) (fun w => zeroValue46 w) (B8 (hn1 zG))) fun b7 => ?_
  refine Ju (aj dl Sr Sr zS) fun _ => ?_
  refine bc (t := 7) (Sel.take (Dz _)) Frz.box ?_
  refine ae (aq (Zm (Zl dy Sr (Zl dl Sr (Zs (ai (ih _ (hks _ (aH hlt))) ⟨Sr, Sr, trivial⟩ call93) ?_)))))
  refine Zs (ax (ys := [cD x n (nth p.Kids i)]) underlying197 (yN (hn1 zG)) ⟨rfl, Sr, trivial⟩ rfl (by rw [xO]; decide)) ?_
  refine Zx (aL underlying197 (yN (hn1 zG)) Sr Sr zS (by simp only [List.length_append, List.length_cons, List.length_nil, List.length_map, List.length_take]; omega) (by simp only [List.length_append, List.length_cons, List.length_nil, List.length_map, List.length_take]; omega)) fun v20 => ?_
  refine Za (ae (aq (Zs (aB Sr Sr z6) (Zm (ae ?_)))))
  refine aE (σ := Nat × Value) (s := (i, vo)) (i + 1, v20) zO (by show i + 1 <= _; omega) (zU) (.c zS (SPs.of (A := own 152 (bT n) v20 (((p.Kids.take i).map (cD x n)) ++ [cD x n (nth p.Kids i)])) (by rw [dM hlt, List.map_append]; rfl)) (zL))
 try simp only [NF] at h12
 obtain rfl : i = p.Kids.length := by omega
 refine aY (ar ?_)
 refine bF (t := 5) (A' := tSl (bT n) (p.Kids.map (cD x n))) (Sel.take (Dz _)) (DO (by rw [List.take_length])) ?_
 refine aq (Zl dy Sr (Zl dl Sr (Zm (Zs (ai (p6 x n n p (p.Kids.map (cD x n)) hmk) ⟨Sr, Sr, Sr, trivial⟩ call146) ?_))))
 refine Ju (aj eA Sr Sr zS) fun _ => ?_
 refine ae (aF ?_)
 refine aZ (rv := .cell 4 152) rfl () (Sel.all _) (.cell (R := bT (n + 1)) eA Sr zS Sr) (Frz.sub Sr)
theorem kz (x : Gplanner) : ∀ n, yT x n
 | 0 => fun p _ => by
  refine Spec.enter func93 rfl rfl fun h0 w0 fr0 => ?_
  exact eX 1 (fun _ _ r => (show False from r)) fun q => q.elim
 | n + 1 => fun p hw => rF x n p hw (kz x n)
theorem me (m k : Int) : Fun1 prog 145 [tV (.int .i64 k), bx bg m] (tV (.bool (decide (k < 0) || decide (m < k)))) := by
 refine Spec.enter func145 rfl rfl fun h0 w0 fr0 => ?_
 refine Jr (Za (ae (Jr (Zm (Zs (aA Sr Sr) ?_)))))
 refine Zm ?_
 refine Zk (al Sr) ?_
 refine Zk (ab ty3 Sr) ?_
 refine Zg (fun hw => bD (Sub.w hw) (Sub.w hw)) (Zs (az Sr Sr) (Za (ae (aF ?_))))
 exact aK (t := 3) rfl () Sr
theorem mf (s : GSchema) (hz : SchSz s) (n : Nat) (p : aG) (hp : od n p) (st : GStats) (hd : ∀ d ∈ st.Distinct, d.length <= 1000000000000) : Fun1 prog 92 [aV.ty s, (aR n).ty p, bA.ty st] (fA [bu.ty (if bq s p st = true then (⟨s, st⟩ : Gplanner) else zplanner), tV (.bool (bq s p st))]) := by
 refine Spec.enter func92 rfl rfl fun h0 w0 fr0 => ?_
 have htl := hz.tabs
 refine Jr (Zs (aJ (R := aV) Sr) (Zs (aJ (R := (aR n)) Sr) (Zs (aJ (R := bA) Sr) ?_)))
 refine Zx (aD (fun w => zeroValue146 w) zM) fun b6 => ?_
 refine Za (ae (ar (Jr (Zl fR Sr (Zl dl Sr ?_)))))
 refine Zs (ai (gO s hz n p hp) ⟨Sr, Sr, trivial⟩ call60) (Zs (bf Sr) (Zm ?_))
 refine Zk (aa iO Sr rfl) ?_
 refine Zg (fun hw => ab bY (Sub.w hw)) (Zg (fun hw => ah underlying36 (Sub.w hw)) ?_)
 refine Zk (aa g6 Sr rfl) ?_
 refine Zg (fun hw => ab g5 (Sub.w hw)) (Zg (fun hw => ah underlying39 (Sub.w hw)) (Zg (fun hw => bb (Sub.w hw) (Sub.w hw)) (Zs (az Sr Sr) (Zm ?_))))
 refine Zk (aa iO Sr rfl) ?_
 refine Zg (fun hw => ab nq (Sub.w hw)) (Zg (fun hw => ah underlying58 (Sub.w hw)) ?_)
 refine Zk (aa g6 Sr rfl) ?_
 refine Zg (fun hw => ab g5 (Sub.w hw)) (Zg (fun hw => ah underlying39 (Sub.w hw)) (Zg (fun hw => bb (Sub.w hw) (Sub.w hw)) (Zs (az Sr Sr) (ae ?_))))
 refine au Sr (fun h32 => ?_) (fun h32 => ?_)
 ·
  try simp only [NF] at h32
  refine Jr (Zs (aU (x := (zplanner : Gplanner)) (zs := [[Value.slice none 0 0], [Value.slice none 0 0, Value.slice none 0 0]]) vl (fun w => zeroValue146 w) trivial ⟨fun _ => ⟨[Value.slice none 0 0], _, rfl, ⟨_, rfl, none, ⟨0, Nat.le_refl _⟩, rfl, fun q => absurd rfl q⟩, rfl⟩, fun _ => ⟨[Value.slice none 0 0], _, rfl, ⟨_, rfl, none, ⟨0, Nat.le_refl _⟩, rfl, fun q => absurd rfl q⟩, ⟨[Value.slice none 0 0], _, rfl, ⟨_, rfl, none, ⟨0, Nat.le_refl _⟩, rfl, fun q => absurd rfl q⟩, rfl⟩⟩, trivial⟩) ?_)
  refine Ju (aj dy Sr Sr zS) fun _ => ?_
  refine Za (ae (aF ?_))
  have hf : bq s p st = false := by
   unfold bq
   rcases h32 with (h | h) | h
   ·
    simp [h]
   ·
    simp [show ¬ st.Rows.length = s.Tables.length by omega]
   simp [show ¬ st.Distinct.length = s.Tables.length by omega]
  refine bJ (rv := .cell 6 146) (rv' := .tmp 7) rfl () (Sel.all _) (.cell (R := bu) dy Sr zS Sr) (.tmp Sr) (Frz.sub (Ec (by rw [hf]; rfl))) (Frz.sub (Sub.bool hf.symm)) Sr
 try simp only [NF] at h32
 have hb : iE s p = true /\ st.Rows.length = s.Tables.length /\ st.Distinct.length = s.Tables.length := by exact ⟨h32.1.1, by omega, by omega⟩
 refine ay (ar (Jr (Zs (aa iO Sr rfl) (Zl bY Sr (Zs (ah underlying36 Sr) ?_)))))
 refine Zm (ae (av ?_))
 refine aO (σ := Nat) (fun i => i <= st.Rows.length /\ ∀ k, k < i -> ig s st k = true) (fun i => upd (upd (upd (upd (upd (upd cg 3 (bx aV s)) 5 (bx bA st)) 6 (tAt b6 0)) 35 (tSl bg st.Rows)) 36 (tV (.int .i64 st.Rows.length))) 37 (tV (.int .i64 i))) (fun i => [box b6 146 bu zplanner]) (fun i => st.Rows.length - i) 0 ⟨by omega, fun k hk => by omega⟩ (zU) (LSub.rfl) ?_
 rintro i ⟨hi, hv⟩
 refine Jr (Zs (aA Sr Sr) (ae (ar ?_)))
 refine au Sr (fun h38 => ?_) (fun h38 => ?_)
 ·
  try simp only [NF] at h38
  have hlt : i < st.Rows.length := by omega
  have hlt2 : i < st.Distinct.length := by omega
  have hlt3 : i < s.Tables.length := by omega
  refine ay (ar (av (Jr (Zm ?_))))
  refine Zs (ad (i := i) underlying36 ty3 Sr Sr (by rfl) (gb (by exact hlt))) ?_
  refine Zl ty3 Sr ?_
  refine Zx (aD (fun w => zeroValue3 w) zr3) fun b9 => ?_
  refine Za ?_
  refine Ju (aj ty3 Sr Sr zS) fun _ => ?_
  refine bc (t := 9) (Sel.take (Dz _)) Frz.box ?_
  refine ae (Jr (Zs (bK (As := [_]) ⟨Sr, trivial⟩) (Za (ae (ar ?_)))))
  refine bl [⟨0, [9], true⟩, ⟨1, [43], true⟩, ⟨2, [44], true⟩, ⟨3, [10, 45], true⟩, ⟨4, [45, 46], true⟩, ⟨5, [45, 47], true⟩, ⟨6, [48], true⟩, ⟨7, [5, 49], true⟩, ⟨8, [49, 50], true⟩, ⟨9, [8, 49], true⟩, ⟨10, [49, 51, 52], true⟩, ⟨11, [49, 53], true⟩, ⟨12, [49, 54], true⟩, ⟨13, [3, 49], true⟩, ⟨14, [49, 56], true⟩, ⟨15, [8, 49], true⟩, ⟨16, [49, 57, 58], true⟩, ⟨17, [49, 59], true⟩, ⟨18, [49, 60], true⟩, ⟨19, [49, 61], true⟩, ⟨20, [49, 55, 62], true⟩, ⟨21, [49, 63], true⟩, ⟨22, [64], true⟩, ⟨23, [5, 65], true⟩, ⟨24, [65, 66], true⟩, ⟨25, [8, 65], true⟩, ⟨26, [65, 67, 68], true⟩, ⟨27, [65, 69], true⟩, ⟨28, [10, 65], true⟩, ⟨29, [65, 70, 71], true⟩, ⟨30, [65, 72], true⟩] rfl (by kernel_rfl) ?_
  refine Zf rfl (ab ty3 Sr) (Zf rfl (bD Sr Sr) (Zv rfl ?_))
  refine Mk rfl rfl Sr rfl (al Sr) ?_
  refine Mg rfl rfl Sr rfl (fun hw => bH (aT := [_]) (Sub.w hw) (me (nth st.Rows i) 0) ⟨Sr, trivial⟩ call145) (Zf rfl (az Sr Sr) (Zv rfl ?_))
  refine Mk rfl rfl Sr rfl (aa iO Sr rfl) ?_
  refine Mg rfl rfl Sr rfl (fun hw => ab nq (Sub.w hw)) ?_
  refine Mk rfl rfl Sr rfl (al Sr) ?_
  refine Mg rfl rfl Sr rfl (fun hw => ad (i := i) underlying58 bY (Sub.w hw) (Sub.w hw) (by rfl) (gb (by have hwq := hw; (try simp only [beqB_t, beqB_f, NF] at hwq); exact hlt2))) ?_
  refine Mg rfl rfl Sr rfl (fun hw => ab bY (Sub.w hw)) (Mg rfl rfl Sr rfl (fun hw => ah underlying36 (Sub.w hw)) ?_)
  refine Mk rfl rfl Sr rfl (aa g6 Sr rfl) ?_
  refine Mg rfl rfl Sr rfl (fun hw => ab g5 (Sub.w hw)) ?_
  refine Mk rfl rfl Sr rfl (al Sr) ?_
  refine Mg rfl rfl Sr rfl (fun hw => ad (i := i) underlying39 g8 (Sub.w hw) (Sub.w hw) (by rfl) (gb (by have hwq := hw; (try simp only [beqB_t, beqB_f, NF] at hwq); exact hlt3))) ?_
  refine Mg rfl rfl Sr rfl (fun hw => aa eu (Sub.w hw) rfl) (Mg rfl rfl Sr rfl (fun hw => ab bQ (Sub.w hw)) (Mg rfl rfl Sr rfl (fun hw => ah underlying44 (Sub.w hw)) (Mg rfl rfl Sr rfl (fun hw => bb (Sub.w hw) (Sub.w hw)) (Zf rfl (az Sr Sr) (Zv rfl ?_)))))
  refine Mk rfl rfl Sr rfl (aa iO Sr rfl) ?_
  refine Mg rfl rfl Sr rfl (fun hw => ab nq (Sub.w hw)) ?_
  refine Mk rfl rfl Sr rfl (al Sr) ?_
  refine Mg rfl rfl Sr rfl (fun hw => ad  underlying58 bY (Sub.w hw) (Sub.w hw) rfl (gb (by have hwq := hw; (try simp only [beqB_t, beqB_f, NF] at hwq); first | assumption | omega))) ?_
  refine Mg rfl rfl Sr rfl (fun hw => ab bY (Sub.w hw)) ?_
  refine Mk rfl rfl Sr rfl (al Sr) ?_
  refine Mg rfl rfl Sr rfl (fun hw => ai (jy (nth st.Distinct i) (hd _ (aH hlt2)) 145 [bx bg (nth st.Rows i)] (fun n => decide (n < 0) || decide (nth st.Rows i < n)) (fun x _ => me _ x) call145) ⟨(Sub.w hw), (Sub.w hw), trivial⟩ call63) (Zf rfl (az Sr Sr) (bj ?_))
  refine au Sr (fun h73 => ?_) (fun h73 => ?_)
  ·
   try simp only [NF] at h73
   refine Jr (Zs (aU (x := (zplanner : Gplanner)) (zs := [[Value.slice none 0 0], [Value.slice none 0 0, Value.slice none 0 0]]) vl (fun w => zeroValue146 w) trivial ⟨fun _ => ⟨[Value.slice none 0 0], _, rfl, ⟨_, rfl, none, ⟨0, Nat.le_refl _⟩, rfl, fun q => absurd rfl q⟩, rfl⟩, fun _ => ⟨[Value.slice none 0 0], _, rfl, ⟨_, rfl, none, ⟨0, Nat.le_refl _⟩, rfl, fun q => absurd rfl q⟩, ⟨[Value.slice none 0 0], _, rfl, ⟨_, rfl, none, ⟨0, Nat.le_refl _⟩, rfl, fun q => absurd rfl q⟩, rfl⟩⟩, trivial⟩) ?_)
   refine Ju (aj dy Sr Sr zS) fun _ => ?_
   refine Za (ae (aF ?_))
   have hrw : ig s st i = false := by unfold ig; simp only [Bool.not_eq_false']; simpa using h73
   have hf : bq s p st = false := by unfold bq; rw [eV hlt hrw, Bool.and_false]
   refine bJ (rv := .cell 6 146) (rv' := .tmp 7) rfl () (Sel.all _) (.cell (R := bu) dy Sr zS Sr) (.tmp Sr) (Frz.sub (Ec (by rw [hf]; rfl))) (Frz.sub (Sub.bool hf.symm)) Sr
  try simp only [NF] at h73
  refine ay (aq (Zs (aB Sr Sr z6) (Zm (ae ?_))))
  have hrw : ig s st i = true := by unfold ig; simp only [Bool.not_eq_true']; simpa using h73
  refine aE (σ := Nat) (s := i) (i + 1) zO ⟨by omega, fun k hk => by by_cases e : k = i; exact e ▸ hrw; exact hv k zG⟩ (zU) (LSub.rfl)
 try simp only [NF] at h38
 have hall : (List.range st.Rows.length).all (ig s st) = true := eU (fun k hk => hv k zG)
 refine aY (Jr (Zl fR Sr (Zl gh Sr (Zs (aU (x := (⟨s, st⟩ : Gplanner)) (zs := [[Value.slice none 0 0], [Value.slice none 0 0, Value.slice none 0 0]]) vl (fun w => zeroValue146 w) ⟨Sr, Sr, trivial⟩ ⟨⟨Sr, rfl⟩, ⟨Sr, rfl⟩, trivial⟩) ?_))))
 refine Ju (aj dy Sr Sr zS) fun _ => ?_
 refine Za (ae (aF ?_))
 have hf : bq s p st = true := by unfold bq; rw [hb.1, hall, hb.2.1, hb.2.2]; simp
 refine bJ (rv := .cell 6 146) (rv' := .tmp 7) rfl () (Sel.all _) (.cell (R := bu) dy Sr zS Sr) (.tmp Sr) (Frz.sub (Ec (by rw [hf]; rfl))) (Frz.sub (Sub.bool hf.symm)) Sr
theorem vL (d : Nat) (a b : GValue) (w : World) : (Op.equalIn (d + 2) 87 (kvV a) (kvV b)).run Tryz.prog w = .ok (decide (a = b)) w := by
 have u3 := Tryz.underlying3
 have u9 := Tryz.underlying9
 have a3 := Tryz.isAgg3
 have a9 := Tryz.isAgg9
 have z3 := Tryz.sizeOf3
 have z9 := Tryz.sizeOf9
 have hS : Tryz.prog.underlying 87 = some (.struct (Tryz.prog.fieldsOf 87)) := by kernel_rfl
 have hp : Tryz.prog.stoodInHeld 87 = false := by kernel_rfl
 rw [run_equalIn_agg w (d + 1) 87 _ _ hS hp]
 simp only [Program.fieldsOf, Tryz.underlying87]
 go_simp
 have e : decide (a = b) = (decide (a.Kind = b.Kind) && (decide (a.N = b.N) && decide (a.Text = b.Text))) := by
  rw [Bool.eq_iff_iff]; simp
  constructor
  · intro h; subst h; exact ⟨rfl, rfl, rfl⟩
  · rintro ⟨h1, h2, h3⟩; cases a; cases b; simp_all
 have e2 : (a.Text.toList = b.Text.toList) ↔ a.Text = b.Text := by
  have := toL_eq a.Text b.Text
  rw [Bool.eq_iff_iff] at this
  simpa using this
 rw [e]
 by_cases h1 : a.Kind = b.Kind <;> by_cases h2 : a.N = b.N <;> by_cases h3 : a.Text = b.Text <;> simp [h1, h2, h3, e2]
abbrev CF (s : GSide) : Value := .agg #[.int .i64 s.Var, .int .i64 s.Col, .int .i64 s.Value.Kind, .int .i64 s.Value.N, .string s.Value.Text]
instance : DecidableEq GSide := fun a b => decidable_of_iff (a.Var = b.Var /\ a.Col = b.Col /\ a.Value = b.Value) ⟨fun ⟨h1, h2, h3⟩ => by cases a; cases b; simp_all, fun h => by subst h; exact ⟨rfl, rfl, rfl⟩⟩
instance : DecidableEq GTest := fun a b => decidable_of_iff (a.Left = b.Left /\ a.Op = b.Op /\ a.Right = b.Right /\ a.Add = b.Add) ⟨fun ⟨h1, h2, h3, h4⟩ => by cases a; cases b; simp_all, fun h => by subst h; exact ⟨rfl, rfl, rfl, rfl⟩⟩
theorem sF (d : Nat) (a b : GSide) (w : World) : (Op.equalIn (d + 3) 91 (CF a) (CF b)).run Tryz.prog w = .ok (decide (a = b)) w := by
 have u3 := Tryz.underlying3
 have a3 := Tryz.isAgg3
 have a87 := Tryz.isAgg87
 have z3 := Tryz.sizeOf3
 have z87 := Tryz.sizeOf87
 have hS : Tryz.prog.underlying 91 = some (.struct (Tryz.prog.fieldsOf 91)) := by kernel_rfl
 have hp : Tryz.prog.stoodInHeld 91 = false := by kernel_rfl
 have hv := vL d a.Value b.Value
 rw [run_equalIn_agg w (d + 2) 91 _ _ hS hp]
 simp only [Program.fieldsOf, Tryz.underlying91]
 go_simp
 have e : decide (a = b) = (decide (a.Var = b.Var) && (decide (a.Col = b.Col) && decide (a.Value = b.Value))) := by
  rw [Bool.eq_iff_iff]; simp
  constructor
  · intro h; subst h; exact ⟨rfl, rfl, rfl⟩
  · rintro ⟨h1, h2, h3⟩; cases a; cases b; simp_all
 rw [e]
 by_cases h1 : a.Var = b.Var <;> by_cases h2 : a.Col = b.Col <;> by_cases h3 : a.Value = b.Value <;> simp [h1, h2, h3, hv]
abbrev kvT (t : GTest) : Value := .agg #[.int .i64 t.Left.Var, .int .i64 t.Left.Col, .int .i64 t.Left.Value.Kind, .int .i64 t.Left.Value.N, .string t.Left.Value.Text, .int .i64 t.Op, .int .i64 t.Right.Var, .int .i64 t.Right.Col, .int .i64 t.Right.Value.Kind, .int .i64 t.Right.Value.N, .string t.Right.Value.Text, .int .i64 t.Add]
theorem zT (a b : GTest) (w : World) : (Op.equalIn 10000 93 (kvT a) (kvT b)).run Tryz.prog w = .ok (decide (a = b)) w := by
 have u3 := Tryz.underlying3
 have a3 := Tryz.isAgg3
 have a91 := Tryz.isAgg91
 have z3 := Tryz.sizeOf3
 have z91 := Tryz.sizeOf91
 have hS : Tryz.prog.underlying 93 = some (.struct (Tryz.prog.fieldsOf 93)) := by kernel_rfl
 have hp : Tryz.prog.stoodInHeld 93 = false := by kernel_rfl
 have hl := sF 9996 a.Left b.Left
 have hr := sF 9996 a.Right b.Right
 rw [show (10000 : Nat) = 9999 + 1 from rfl, run_equalIn_agg w 9999 93 _ _ hS hp]
 simp only [Program.fieldsOf, Tryz.underlying93]
 go_simp
 have e : decide (a = b) = (decide (a.Left = b.Left) && (decide (a.Op = b.Op) && (decide (a.Right = b.Right) && decide (a.Add = b.Add)))) := by
  rw [Bool.eq_iff_iff]; simp
  constructor
  · intro h; subst h; exact ⟨rfl, rfl, rfl, rfl⟩
  · rintro ⟨h1, h2, h3, h4⟩; cases a; cases b; simp_all
 rw [e]
 by_cases h1 : a.Left = b.Left <;> by_cases h2 : a.Op = b.Op <;> by_cases h3 : a.Right = b.Right <;> by_cases h4 : a.Add = b.Add <;> simp [h1, h2, h3, h4, hl, hr]
theorem val_cells {h : PH} {x : GValue} {cs : List Value} (r : rValue.rel h x cs) : cs = [.int .i64 x.Kind, .int .i64 x.N, .string x.Text] := by
 obtain ⟨c0, _, rfl, r0, c1, _, rfl, r1, c2, _, rfl, r2, rz⟩ := r
 have r0 : c0 = [.int .i64 x.Kind] := r0
 have r1 : c1 = [.int .i64 x.N] := r1
 have r2 : c2 = [.string x.Text] := r2
 subst r0 r1 r2; rw [show _ = [] from rz]; rfl
theorem iH {h : PH} {x : GSide} {cs : List Value} (r : kq.rel h x cs) : cs = [.int .i64 x.Var, .int .i64 x.Col, .int .i64 x.Value.Kind, .int .i64 x.Value.N, .string x.Value.Text] := by
 obtain ⟨c0, _, rfl, r0, c1, _, rfl, r1, c2, _, rfl, r2, rz⟩ := r
 have r0 : c0 = [.int .i64 x.Var] := r0
 have r1 : c1 = [.int .i64 x.Col] := r1
 rw [val_cells r2] at *
 subst r0 r1; rw [show _ = [] from rz]; rfl
theorem Sub.tst {x : GTest} : Sub (be.ty x) (tV (kvT x)) := fun h v r => by
 obtain ⟨cs, r, rfl⟩ := r
 obtain ⟨c0, _, rfl, r0, c1, _, rfl, r1, c2, _, rfl, r2, c3, _, rfl, r3, rz⟩ := r
 have r1 : c1 = [.int .i64 x.Op] := r1
 have r3 : c3 = [.int .i64 x.Add] := r3
 rw [show c0 = _ from iH r0, show c2 = _ from iH r2]
 subst r1 r3; rw [show _ = [] from rz]; rfl
theorem zV : Tryz.prog.eqGuardType Tryz.prog.depth 93 = false := by kernel_rfl
theorem ou {ro : Option Nat} {N : Nat} {ds : List Deferred} {h0 : PH} {w0 : World} {r : PH} {E : Env} {L : List SP} {d : Option Nat} {ty : Nat} {pos : String} {af : Array Edge} {g : Option (Nat × Bool)} {x y : Operand} {U : Nat} {a b : GTest} (hx : Sub (opTy E x) (be.ty a)) (hy : Sub (opTy E y) (be.ty b)) :
  bs ⟨Tryz.prog, ro, N, ds, h0, w0, r⟩ ⟨d, .binOp .neq 93 x y U, ty, pos, af, g⟩ E L (tV (.bool (!decide (a = b)))) :=
 DF (by intro c h; cases h) fun ac w h hw f => by
  have h1 : ac.eval x = kvT a := f.get (Sub.trans hx Sub.tst)
  have h2 : ac.eval y = kvT b := f.get (Sub.trans hy Sub.tst)
  have he := run_eqGuard_agg (P := Tryz.prog) w .neq 93 x y #[.int .i64 a.Left.Var, .int .i64 a.Left.Col, .int .i64 a.Left.Value.Kind, .int .i64 a.Left.Value.N, .string a.Left.Value.Text, .int .i64 a.Op, .int .i64 a.Right.Var, .int .i64 a.Right.Col, .int .i64 a.Right.Value.Kind, .int .i64 a.Right.Value.N, .string a.Right.Value.Text, .int .i64 a.Add] #[.int .i64 b.Left.Var, .int .i64 b.Left.Col, .int .i64 b.Left.Value.Kind, .int .i64 b.Left.Value.N, .string b.Left.Value.Text, .int .i64 b.Op, .int .i64 b.Right.Var, .int .i64 b.Right.Col, .int .i64 b.Right.Value.Kind, .int .i64 b.Right.Value.N, .string b.Right.Value.Text, .int .i64 b.Add] zV
  refine ⟨.bool (!decide (a = b)), ?_, rfl⟩
  simp [execOp, h1, h2, Sem.run_bind, he, run_neq_struct, zT]
end Lg
