/- A part of the proofs of the laws of cleanselaw33 and cleanselaw36: the program logic. -/
import Derived.Test.YtecikhenhjphfaaGreatDoorA
import Derived.Laws.StructEq
import Derived.Shelf.Small.Strs
import Derived.Lib.SliceRun
import Derived.Lib.ConvBytes
import Derived.Lib.LazyBuf
import Derived.Test.YtecikhenhjphfaaGreatDoorProg
set_option linter.unusedVariables false
set_option linter.unusedSimpArgs false
set_option linter.unusedSectionVars false
namespace Lg
open Go
def JN (C : Cx) (ops : Array Oper) (k : Env → Prop) (L : List SP) : List It → Env → Prop
  | [], E => k E
  | ⟨i, ts, _⟩ :: its, E => ∃ o A, ops[i]? = some o ∧ ltO o.dst C.N = true ∧ StepG C ops o (restr ts E) L A ∧ JN C ops k L its (updO E o.dst A)
section
variable {C : Cx} {ops : Array Oper} {k : Env → Prop} {its : List It} {E : Env} {L : List SP} {i : Nat} {ts : List Nat} {f : Bool} {o : Oper}
theorem JN_nil (h : k E) : JN C ops k L [] E := h
theorem JN_step {A : Ty} {d : Nat} (ho : ops.toList[i]? = some o) (hg : o.guard = none) (hd : o.dst = some d) (hN : Nat.blt d C.N = true) (hs : Step1 C o (restr ts E) L A)
    (hk : JN C ops k L its (upd E d A)) : JN C ops k L (⟨i, ts, f⟩ :: its) E :=
  ⟨o, A, by simpa using ho, by rw [hd]; exact hN, .inl ⟨hg, hs⟩, by rw [hd]; exact hk⟩
end
theorem JN_pull {C : Cx} {ops : Array Oper} {k : Env → Prop} {L : List SP} : ∀ {l1 : List It} {b : It} {l2 : List It} {E : Env},
    (∀ a ∈ l1, okPair (plOf ops.toList a) (plOf ops.toList b) = true) → (∀ a ∈ l1, a.i ∉ aftOf ops.toList b.i) → JN C ops k L (l1 ++ b :: l2) E → JN C ops k L (b :: (l1 ++ l2)) E
  | [], _, _, _, _, _, h => h
  | ⟨ia, ta, fa⟩ :: l1, ⟨ib, tb, fb⟩, l2, E, hp, hn, h => by
    obtain ⟨oa, A, ha, hla, hsa, hk⟩ := h
    have ih := JN_pull (fun a m => hp a (by simp [m])) (fun a m => hn a (by simp [m])) hk
    have hpair := hp ⟨ia, ta, fa⟩ (by simp)
    have hna := hn ⟨ia, ta, fa⟩ (by simp)
    have hda : dstOf ops.toList ia = oa.dst := by simp [dstOf, ha]
    have hpair' : inO oa.dst tb = false ∧ inO (dstOf ops.toList ib) ta = false ∧ eqO oa.dst (dstOf ops.toList ib) = false := by
      simp only [okPair, plOf, hda, Bool.and_eq_true, Bool.or_eq_true, Bool.not_eq_true', memN_iff] at hpair
      rcases hpair.2 with q | q
      · exact absurd q hna
      · exact ⟨q.1.1, q.1.2, q.2⟩
    obtain ⟨p1, p2, p3⟩ := hpair'
    obtain ⟨ob, B, hb, hlb, hsb, hkb⟩ := ih
    have hdb : dstOf ops.toList ib = ob.dst := by simp [dstOf, hb]
    rw [hdb] at p2 p3
    refine ⟨ob, B, hb, hlb, hsb.same (restr_updO p1), oa, A, ha, hla, hsa.same (restr_updO p2).symm, ?_⟩
    rw [updO_comm p3] at hkb
    exact hkb
theorem wpAny_JN {C : Cx} {ops : Array Oper} {Q : Exit → Act → World → Prop} {L : List SP} : ∀ (fuel : Nat) (its : List It) (listed : Array Bool) (E : Env), its.length ≤ fuel → listed.size = ops.size →
    (∀ i, i < ops.size → (listed.getD i true = false ↔ ∃ x ∈ its, x.i = i)) → okPls (its.map (plOf ops.toList)) = true → (∀ x ∈ its, x.i < ops.size ∧ ∀ e ∈ aftOf ops.toList x.i, e < x.i) →
    (∀ x ∈ its, x.free = true) → JN C ops (fun E' => K C (Q .normal) E' L) L its E → K C (fun a w => wpAnyIn (Fw C.ro) 0 C.P .any ops Q fuel listed a w) E L := by
  intro fuel
  induction fuel with
  | zero =>
    intro its listed E hlen hsz hin _ _ _ hJ
    have : its = [] := List.length_eq_zero_iff.1 (by omega)
    subst this
    intro a w p
    refine ⟨?_, hJ a w p⟩
    rw [List.eq_nil_iff_forall_not_mem]
    intro i hi
    obtain ⟨h1, h2, _⟩ := mem_ready.1 hi
    obtain ⟨x, hx, _⟩ := (hin i h1).1 h2
    cases hx
  | succ fuel ih =>
    intro its listed E hlen hsz hin hok hlt hfr hJ
    -- if nothing is ready, nothing is left
    have hdone : Region.ready .any ops listed = [] → its = [] := by
      intro hr
      have hall : ∀ i, i < ops.size → listed.getD i true = true := by
        intro i
        induction i using Nat.strongRecOn with
        | _ i ihi =>
          intro hi
          cases hl : listed.getD i true with
          | true => rfl
          | false =>
            have ho : ops[i]? = some ops[i] := Array.getElem?_eq_getElem hi
            obtain ⟨x, hx, hxi⟩ := (hin i hi).1 hl
            have h1 := (hlt x hx).2
            rw [hxi] at h1
            have hm : i ∈ Region.ready .any ops listed := mem_ready.2 ⟨hi, hl, _, ho, fun e he => by
              have he' : e < i := h1 e (by simpa [aftOf, hi] using he)
              rw [getD_any (by omega) false true]
              exact ihi e he' (by omega)⟩
            rw [hr] at hm; cases hm
      match its with
      | [] => rfl
      | x :: _ =>
        have h1 := (hlt x (by simp)).1
        have := (hin x.i h1).2 ⟨x, by simp, rfl⟩
        rw [hall x.i h1] at this; cases this
    intro a w p
    refine ⟨fun hr => ?_, fun i hi => ?_⟩
    · have := hdone hr
      subst this
      exact hJ a w p
    · obtain ⟨hlti, hnl, o, ho, haft⟩ := mem_ready.1 hi
      obtain ⟨b, hb, hbi⟩ := (hin i hlti).1 hnl
      obtain ⟨l1, l2, rfl⟩ := List.append_of_mem hb
      have hoi : ops.toList[b.i]? = some o := by rw [hbi]; simpa using ho
      have haft' : aftOf ops.toList b.i = aftN o := by simp only [aftOf, hoi]
      -- what is left is not listed
      have hleft : ∀ x ∈ l1 ++ b :: l2, x.i ∉ aftOf ops.toList b.i := fun x hx hm => by
        rw [haft'] at hm
        have h1 := haft _ hm
        have h2 := (hlt x hx).1
        have h3 := (hin x.i h2).2 ⟨x, hx, rfl⟩
        rw [getD_any (by omega) true false, h1] at h3; cases h3
      rw [List.map_append, List.map_cons] at hok
      have hpair : ∀ a ∈ l1, okPair (plOf ops.toList a) (plOf ops.toList b) = true := fun a ha => okPls_pair hok _ (List.mem_map_of_mem ha)
      have hfree : ∀ a ∈ l1, a.free = true := fun x hx => hfr x (by simp [hx])
      have hJ' := JN_pull hpair (fun a ha => hleft a (by simp [ha])) hJ
      have hsub : ∀ x ∈ l1 ++ l2, x ∈ l1 ++ b :: l2 := fun x hx => by
        rcases List.mem_append.1 hx with hx | hx <;> simp [hx]
      have hpairs : ∀ x ∈ l1 ++ l2, x.i ≠ b.i := fun x hx => by
        rcases List.mem_append.1 hx with hx | hx
        · have := hpair x hx
          simp only [okPair, plOf, Bool.and_eq_true, Bool.not_eq_true'] at this
          intro e; rw [e] at this; simp at this
        · have h2 : ∀ {l1 : List Pl} {b : Pl} {l2 : List Pl}, okPls (l1 ++ b :: l2) = true → okPls (b :: l2) = true := by
            intro l1
            induction l1 with
            | nil => intro b l2 h; exact h
            | cons c l1 ih => intro b l2 h; simp only [List.cons_append, okPls, Bool.and_eq_true] at h; exact ih h.2
          have := h2 hok
          simp only [okPls, Bool.and_eq_true, List.all_eq_true] at this
          have := this.1.1 _ (List.mem_map_of_mem hx)
          simp only [okPair, plOf, Bool.and_eq_true, Bool.not_eq_true'] at this
          intro e; rw [e] at this; simp at this
      have rest : ∀ E', JN C ops (fun E' => K C (Q .normal) E' L) L (l1 ++ l2) E' → K C (fun a w => wpAnyIn (Fw C.ro) 0 C.P .any ops Q fuel (listed.setIfInBounds i true) a w) E' L := by
        intro E' hk
        refine ih (l1 ++ l2) _ E' (by simp only [List.length_append, List.length_cons] at hlen ⊢; omega) (by simpa using hsz) (fun j hj => ?_) (by
          rw [List.map_append]
          exact okPls_sub hok fun x hx => (List.mem_map.1 hx).elim fun y hy => hy.2 ▸ hfree y hy.1) (fun x hx => hlt x (hsub x hx)) (fun x hx => hfr x (hsub x hx)) hk
        by_cases hji : i = j
        · subst hji
          rw [getD_set_same (by omega)]
          constructor
          · intro h; cases h
          · rintro ⟨x, hx, e⟩
            exact absurd (e.trans hbi.symm) (hpairs x hx)
        · rw [getD_set_ne hji, hin j hj]
          constructor
          · rintro ⟨x, hx, e⟩
            refine ⟨x, ?_, e⟩
            rcases List.mem_append.1 hx with hx | hx
            · simp [hx]
            · rcases List.mem_cons.1 hx with rfl | hx
              · exact absurd (hbi.symm.trans e) hji
              · simp [hx]
          · rintro ⟨x, hx, e⟩
            exact ⟨x, hsub x hx, e⟩
      obtain ⟨bi, tb, fb⟩ := b
      simp only at hbi hoi
      subst hbi
      have ho' : ops[bi]? = some o := ho
      obtain ⟨o', A, ho2, hl, hs, hk⟩ := hJ'
      rw [ho'] at ho2; cases ho2
      exact hs.op ho' hl (rest _ hk) a w p
theorem J_drawN {C : Cx} {id : Nat} {ops : Array Oper} (its : List It) {Q : Exit → Act → World → Prop} {E : Env} {L : List SP} (hmix : C.P.follows .mixedOrders = true) (hok : okM ops.toList its = true) (hfr : its.all (·.free) = true)
    (hJ : JN C ops (fun E' => K C (Q .normal) E' L) L its E) : J C (.region id ops true) Q E L := fun a w p => by
  refine wpIn_region_draw (fun t => ?_)
  simp only [Region.schedule, hmix, Bool.true_or, if_true]
  refine wpAnyIn_sound ops.size t _ a _ ?_
  simp only [okM, Bool.and_eq_true, List.all_eq_true, List.any_eq_true] at hok
  obtain ⟨⟨⟨h1, h2⟩, h3⟩, h4⟩ := hok
  have h5 : ∀ x ∈ its, x.i < ops.size := fun x hx => by have := h4 x hx; simpa using this
  have hnd : (its.map (·.i)).Nodup := by
    have : ∀ {l : List It}, okPls (l.map (plOf ops.toList)) = true → (l.map (·.i)).Nodup := by
      intro l
      induction l with
      | nil => intro _; simp
      | cons x l ih =>
        intro h
        simp only [List.map_cons, okPls, Bool.and_eq_true, List.all_eq_true] at h
        simp only [List.map_cons, List.nodup_cons]
        refine ⟨fun hm => ?_, ih h.2⟩
        obtain ⟨y, hy, e⟩ := List.mem_map.1 hm
        have := h.1.1 _ (List.mem_map_of_mem hy)
        simp only [okPair, plOf, Bool.and_eq_true, Bool.not_eq_true'] at this
        rw [e] at this; simp at this
    exact this h1
  have hlen : its.length ≤ ops.size := by
    have := nodup_le hnd (n := ops.size) (fun i hi => by
      obtain ⟨x, hx, rfl⟩ := List.mem_map.1 hi
      exact h5 x hx)
    simpa using this
  refine wpAny_JN ops.size its _ E hlen (by simp) (fun i hi => ?_) h1 (fun x hx => ⟨h5 x hx, fun e he => ?_⟩) (fun x hx => List.all_eq_true.1 hfr x hx) hJ a _ ?_
  · constructor
    · intro _
      obtain ⟨x, hx, e⟩ := h3 i (by simpa using hi)
      exact ⟨x, hx, (Nat.eq_of_beq_eq_true e).symm⟩
    · intro _; simp [Array.getD_eq_getD_getElem?, hi]
  · have := h2 _ (List.mem_map_of_mem hx) e he
    simpa [plOf] using this
  · obtain ⟨hsz, hds, h, m, hl, sp, st, fr⟩ := p
    exact ⟨hsz, hds, h, m, hl.trans (HL.same (Same.drew _)), ⟨(by first | exact Sep.inv (by assumption) | exact Inv.mono (PH.le_join_left _ _) (Sep.inv (by assumption))), sp.hm, sp.hr, sp.mr, sp.hw, sp.mw, sp.rw⟩, st, fr⟩
open Go
section
variable {C : Cx} {E : Env} {L : List SP} {d : Option Nat} {ty : Nat} {pos : String} {af : Array Edge} {g : Option (Nat × Bool)}
/-- s[:n] of a slice that may not change. -/
theorem step_slice_toI {α : Type} {T e n : Nat} {R : Rp α} {x y : Operand} {xs : List α} {k : IntKind} {i : Int} (hu : C.P.underlying T = some (.slice e)) (hR : TyOf C.P e R)
    (hx : Sub (opTy E x) (tSl R xs)) (hy : Sub (opTy E y) (tV (.int k i))) (hi : i = n) (hn : n ≤ xs.length) :
    Step1 C ⟨d, .slice T x none (some y) none, ty, pos, af, g⟩ E L (tSl R (xs.take n)) :=
  Step.of_run (by intro c h; cases h) fun a w h m l sp st fr => by
    obtain ⟨ao, ⟨cap, hlc⟩, hv, H⟩ := fr.get hx
    have hv : a.eval x = .slice ao xs.length cap := hv
    have h2 : a.eval y = .int k i := fr.get hy
    subst hi
    refine ⟨(), .slice (if cap = 0 then ao else ao.map (·.add 0)) n cap, w, h, _, ?_, HL.refl, sp, st, ⟨_, ⟨cap, by rw [List.length_take, Nat.min_eq_left hn]; omega⟩, by show Value.slice _ n cap = Value.slice _ (xs.take n).length cap; rw [List.length_take, Nat.min_eq_left hn], fun hne => ?_⟩⟩
    · simp [execOp, Instr.sliceAt, run_underlying hu, hv, h2, Instr.slice, Instr.sliceBounds, Instr.sliceBound, asIntOf, hR.size, show n ≤ cap by omega]
    · have h0 : 0 < n := by
        rcases Nat.eq_zero_or_pos n with q | q
        · subst q; exact absurd (by simp) hne
        · exact q
      obtain ⟨b, off, ea, H'⟩ := H (fun e => by rw [e] at hn; simp at hn; omega)
      refine ⟨b, off, by rw [if_neg (by omega), ea]; simp [addr_add], fun j z hz => H' j z ?_⟩
      rw [List.getElem?_take] at hz
      split at hz
      · exact hz
      · cases hz
theorem step_rem {T U : Nat} {x y : Operand} {a b : Int} (hx : Sub (opTy E x) (tV (.int .i64 a))) (hy : Sub (opTy E y) (tV (.int .i64 b))) (ha : 0 ≤ a) (hb : 0 < b) :
    Step1 C ⟨d, .binOp .rem T x y U, ty, pos, af, g⟩ E L (tV (.int .i64 (a % b))) := step_int hx hy (fun P w => by
  have h1 : a.tmod b = a % b := Int.tmod_eq_emod_of_nonneg ha
  have h2 : ¬ b = 0 := by omega
  simp [binOp, Op.intDiv, h1, h2])
end
open Go
abbrev toB (s : List UInt8) : ByteArray := ⟨s.toArray⟩
abbrev ofB (b : ByteArray) : List UInt8 := b.data.toList
theorem toB_ofB (b : ByteArray) : toB (ofB b) = b := by cases b; simp
theorem ofB_toB (s : List UInt8) : ofB (toB s) = s := by simp
theorem relAll_str {h : PH} : ∀ {xs : List ByteArray} {cs : List Value}, relAll rStr h xs cs ↔ cs = xs.map (.string ·)
  | [], cs => Iff.rfl
  | x :: xs, cs => by
    constructor
    · rintro ⟨c1, c2, rfl, r1, r2⟩
      have r1 : c1 = [.string x] := r1
      rw [relAll_str.1 r2, r1]; rfl
    · rintro rfl
      exact ⟨[.string x], xs.map (.string ·), rfl, rfl, relAll_str.2 rfl⟩
/-- The world that a call leaves behind, below the first heap as it was. -/
theorem sep_below {h m r : PH} {w w' : World} (s : Sep h m r w) (b : RowKit.Below w.heap.size w w') : HL h w h w' ∧ Sep h m r w' := by
  have go : ∀ {p : PH}, p.inw w → p.inw w' := fun {p} hp b' o e => by
    have := hp b' o e
    rw [b.block _ (Array.getElem?_eq_some_iff.1 this).1]; exact this
  exact ⟨HL.same ⟨b.os, b.tape, b.output⟩, ⟨s.inv, s.hm, s.hr, s.mr, go s.hw, go s.mw, go s.rw⟩⟩
open Go
section
variable {κ β : Type} [DecidableEq κ] {kv : κ → Value} {R : Rp β}
variable {C : Cx} {E : Env} {L : List SP} {d : Option Nat} {ty : Nat} {pos : String} {af : Array Edge} {g : Option (Nat × Bool)}
theorem step_insert {T kt e : Nat} {x y u : Operand} {v : Value} {m : List (κ × β)} {S : List SP} {q : κ} {z : β} (K : KeyT C.P kt kv) (hu : C.P.underlying T = some (.map kt e))
    (hx : Sub (opTy E x) (tV v)) (hy : Sub (opTy E y) (tV (kv q))) (hz : Sub (opTy E u) (R.ty z)) (sel : Sel L [mapOwn kv R v m] S) :
    Step C ⟨d, .insert T x y u, ty, pos, af, g⟩ E L (fun _ : Unit => tAny) (fun _ => mapOwn kv R v (mput m q z) :: S) :=
  fun a w h mm hn l sp st fr next Q hk => by
    have h2 := (step_mapUpdate (C := C) (d := d) (ty := ty) (pos := pos) (af := af) (g := g) K hu hx hy hz sel a w h mm hn l sp st fr next Q hk).2
    refine ⟨fun _ _ => trivial, ?_⟩
    rw [Fw_round, Oper.semAt_eq _ _ _ (by intro c h; cases h)] at h2 ⊢
    exact h2
/-- The first place of a key. -/
def fi (q : κ) : List (κ × β) → Option Nat
  | [] => none
  | (k, _) :: m => if q = k then some 0 else (fi q m).map (· + 1)
theorem entR.fi {h : PH} {q : κ} : ∀ {m : List (κ × β)} {es : List MapEntry} {n i : Nat}, entR kv R h m es n → Lg.fi q m = some i →
    (es.findIdx? fun e => (e.born : Int) == ((n + i : Nat) : Int)) = some i ∧ ∀ y u, (R.ty y).p h u → entR kv R h (mput m q y) (es.modify i fun e => { e with val := u }) n
  | [], [], _, _, _, q => by cases q
  | (k, x) :: m, e :: es, n, i, hq, hi => by
    obtain ⟨h1, h2, h3, h4⟩ := hq
    by_cases hk : q = k
    · subst hk
      have : i = 0 := by simpa [Lg.fi, eq_comm] using hi
      subst this
      refine ⟨by simp [List.findIdx?_cons, h3], fun y u hu => ?_⟩
      simp only [mput, if_true]
      exact ⟨h1, hu, h3, h4⟩
    · simp only [Lg.fi, if_neg hk, Option.map_eq_some_iff] at hi
      obtain ⟨j, hj, rfl⟩ := hi
      obtain ⟨a, b⟩ := entR.fi h4 hj
      refine ⟨?_, fun y u hu => ?_⟩
      · rw [List.findIdx?_cons]
        have : ((e.born : Int) == ((n + (j + 1) : Nat) : Int)) = false := by simp [h3]; omega
        rw [this]
        have e2 : ((n + 1 + j : Nat) : Int) = ((n + (j + 1) : Nat) : Int) := by omega
        rw [e2] at a
        simp only [Bool.false_eq_true, if_false]
        rw [a]; rfl
      · simp only [mput, if_neg hk]
        exact ⟨h1, h2, h3, b y u hu⟩
end
section
variable {C : Cx} {E : Env} {L : List SP} {d : Option Nat} {ty : Nat} {pos : String} {af : Array Edge} {g : Option (Nat × Bool)}
theorem nth_bytes {s : ByteArray} {i : Nat} (h : i < s.size) : s[i]? = some (s.data.toList.getD i 0) := by
  have h2 : i < s.data.size := h
  rw [getElem?_pos s i h]
  simp [List.getD, h2]
  rw [Array.getElem?_eq_getElem h2]; rfl
theorem step_index_str {T i : Nat} {x y : Operand} {s : ByteArray} {k : IntKind} {n : Int} (hu : C.P.underlying T = some .string) (hx : Sub (opTy E x) (tV (.string s))) (hy : Sub (opTy E y) (tV (.int k n))) (hi : n = i) (hl : i < s.size) :
    Step1 C ⟨d, .index T x y, ty, pos, af, g⟩ E L (tV (.int .u8 (nth (bytesOf s) i))) :=
  Step.of_same (by intro c h; cases h) fun a w h hh f => by
    have h1 : a.eval x = .string s := f.get hx
    have h2 : a.eval y = .int k n := f.get hy
    subst hi
    have e : nth (bytesOf s) i = ((s.data.toList.getD i 0).toNat : Int) := by
      have hl' : i < (bytesOf s).length := by rw [bytesOf_len]; exact hl
      rw [nth_get hl']
      have h2 : i < s.data.toList.length := hl
      have h3 : i < s.data.size := hl
      simp only [bytesOf, List.getElem_map]
      rw [List.getD_eq_getElem?_getD, List.getElem?_eq_getElem h2]
      rfl
    refine ⟨.int .u8 (nth (bytesOf s) i), ?_, rfl⟩
    rw [e]
    simp [execOp, Instr.index, h1, h2, run_underlying hu, asIntOf, nth_bytes hl]
theorem step_quo {T U : Nat} {x y : Operand} {a b : Int} (hx : Sub (opTy E x) (tV (.int .i64 a))) (hy : Sub (opTy E y) (tV (.int .i64 b))) (ha : 0 ≤ a) (hb : 0 < b) (hr : in64 (a / b)) :
    Step1 C ⟨d, .binOp .quo T x y U, ty, pos, af, g⟩ E L (tV (.int .i64 (a / b))) := step_int hx hy (fun P w => by
  have h1 : a.tdiv b = a / b := Int.tdiv_eq_ediv_of_nonneg ha
  have h2 : ¬ b = 0 := by omega
  simp [binOp, Op.intDiv, h1, h2, wrap64_in hr])
theorem step_min {T U : Nat} {x y : Operand} {k k' : IntKind} {a b : Int} (hx : Sub (opTy E x) (tV (.int k a))) (hy : Sub (opTy E y) (tV (.int k' b))) :
    Step1 C ⟨d, .call { callee := .builtin .min, args := #[x, y], argTypes := #[T, U] }, ty, pos, af, g⟩ E L (tV (.int k (if b < a then b else a))) :=
  Step.of_same (by intro c h; cases h) fun a' w h hw f => by
    have h1 : a'.eval x = .int k a := f.get hx
    have h2 : a'.eval y = .int k' b := f.get hy
    refine ⟨.int k (if b < a then b else a), ?_, rfl⟩
    simp [execOp, resolve, invoke, builtin, Builtin.min_, Builtin.min2, h1, h2]
    try split <;> simp_all
theorem step_add_str {T U : Nat} {x y : Operand} {a b : ByteArray} (hx : Sub (opTy E x) (tV (.string a))) (hy : Sub (opTy E y) (tV (.string b))) (hs : a.size + b.size ≤ 9223372036854775807) :
    Step1 C ⟨d, .binOp .add T x y U, ty, pos, af, g⟩ E L (tV (.string (a ++ b))) := step_str hx hy (fun P w => by simp [binOp, Op.stringOp]; omega)
/-- s == nil -/
theorem step_eql_slnil {α : Type} {T U e : Nat} {R : Rp α} {x : Operand} {xs : List α} (hu : C.P.underlying T = some (.slice e)) (hx : Sub (opTy E x) (tSl R xs)) :
    Step (X := { b : Bool // b = true → xs = [] }) C ⟨d, .binOp .eql T x (.const (.slice none 0 0)) U, ty, pos, af, g⟩ E L (fun b => tV (.bool b.1)) (fun _ => L) :=
  Step.of_run (by intro c h; cases h) fun a w h m l sp st fr => by
    obtain ⟨ao, cap, hv, H⟩ := fr.get hx
    refine ⟨⟨ao.isNone, fun hb => ?_⟩, .bool ao.isNone, w, h, m, ?_, HL.refl, sp, st, rfl⟩
    · by_cases hne : xs = []
      · exact hne
      · obtain ⟨b, off, rfl, _⟩ := H hne
        cases hb
    · have he : ∀ w, (eqGuard .eql T x (.const (.slice none 0 0)) (a.eval x) (.slice none 0 0)).run C.P w = .ok () w := by intro w; rw [hv]; simp [eqGuard]
      have h2 : a.eval (.const (.slice none 0 0)) = .slice none 0 0 := rfl
      have hr := Lib.run_eql_slice_nil (P := C.P) w T e ao xs.length cap 0 0 hu
      rw [hv] at he
      simp [execOp, hv, h2, Sem.run_bind, he, hr]
theorem Sep.newImm {h m r : PH} {w w' : World} {o : Obj} (s : Sep h m r w) (hold : ∀ j, j < w.heap.size → w'.heap[j]? = w.heap[j]?) (hnew : w'.heap[w.heap.size]? = some o) : Sep (h.join (PH.one w.heap.size o)) m r w' := by
  have s2 := s.allocImm o
  have go : ∀ {p : PH}, p.inw (w.alloc o) → p.inw w' := fun {p} hp b o' e => by
    have h1 := hp b o' e
    have hlt := (Array.getElem?_eq_some_iff.1 h1).1
    rw [show (w.alloc o).heap = w.heap.push o from rfl] at h1 hlt
    by_cases hb : b < w.heap.size
    · rw [hold b hb]; rw [Array.getElem?_push_lt hb] at h1; rw [Array.getElem?_eq_getElem hb]; exact h1
    · have : b = w.heap.size := by simp at hlt; omega
      subst this
      rw [hnew]; simpa using h1
  exact ⟨s2.inv, s2.hm, s2.hr, s2.mr, go s2.hw, go s2.mw, go s2.rw⟩
/-- []byte(s) -/
theorem step_convert_bytes {T U e : Nat} {x : Operand} {s : ByteArray} (hs : C.P.underlying T = some .string) (hd : C.P.underlying U = some (.slice e)) (he : C.P.underlying e = some (.int .u8)) (hx : Sub (opTy E x) (tV (.string s))) :
    Step1 C ⟨d, .convert T U x, ty, pos, af, g⟩ E L (tSl rU8 (bytesOf s)) :=
  Step.of_run (by intro c h; cases h) fun a w h m l sp st fr => by
    have hv : a.eval x = .string s := fr.get hx
    refine ⟨(), .slice (some ⟨w.heap.size, 0, none⟩) s.size (grownCap w s.size 0 e), Lib.bytesWorld w e s, h.join (PH.one w.heap.size (.cells (Lib.bytesCells w e s) e ((Lib.bytesCells w e s).size, (Lib.bytesCells w e s).size + 1))), m, ?_, ⟨PH.le_join_left _ _, ?_⟩, sp.newImm (fun j hj => Lib.bytesWorld_at_old w e s j hj) (Lib.bytesWorld_at_new w e s), (stars L).mono (PH.le_join_left _ _) st, ?_⟩
    · simp [execOp, hv, Lib.run_convert_string_bytes (P := C.P) w T U e s hs hd he]
    · exact ⟨rfl, rfl, rfl⟩
    · have := tSl_of_relAll (R := rU8) (h := h.join (PH.one w.heap.size (.cells (Lib.bytesCells w e s) e ((Lib.bytesCells w e s).size, (Lib.bytesCells w e s).size + 1)))) (b := w.heap.size) (off := 0) (cap := grownCap w s.size 0 e) (c := Lib.bytesCells w e s) (e := e) (fz := ((Lib.bytesCells w e s).size, (Lib.bytesCells w e s).size + 1)) (xs := bytesOf s) (cs := (bytesOf s).map (Value.int .u8 ·)) (PH.le_join_right (PH.one_disj_new sp.hw _) _ _ (PH.one_same _ _)) (relAll_u8.2 rfl) (fun j v hv => by
        simp only [List.getElem?_map, Option.map_eq_some_iff] at hv
        obtain ⟨n, hn, rfl⟩ := hv
        simp only [bytesOf, List.getElem?_map, Option.map_eq_some_iff] at hn
        obtain ⟨b, hb, rfl⟩ := hn
        have hlt : j < s.data.size := by
          have := (List.getElem?_eq_some_iff.1 hb).1
          simpa using this
        rw [Nat.zero_add]
        simp only [Lib.bytesCells]
        rw [Array.getElem?_append_left (by simpa using hlt)]
        have hb2 : s.data[j]? = some b := by simpa using hb
        simp [hb2])
      rw [bytesOf_len] at this
      exact this (grownCap_ge _ _ _ _)
/-- s[n:] of a slice that may not change, of elements of one cell. -/
theorem step_slice_fromI {α : Type} {T e n : Nat} {R : Rp α} {x y : Operand} {xs : List α} {k : IntKind} {i : Int} (hu : C.P.underlying T = some (.slice e)) (hR : TyOf C.P e R) (hk : R.k = 1)
    (hx : Sub (opTy E x) (tSl R xs)) (hy : Sub (opTy E y) (tV (.int k i))) (hi : i = n) (hn : n ≤ xs.length) :
    Step1 C ⟨d, .slice T x (some y) none none, ty, pos, af, g⟩ E L (tSl R (xs.drop n)) :=
  Step.of_run (by intro c h; cases h) fun a w h m l sp st fr => by
    obtain ⟨ao, ⟨cap, hlc⟩, hv, H⟩ := fr.get hx
    have hv : a.eval x = .slice ao xs.length cap := hv
    have h2 : a.eval y = .int k i := fr.get hy
    have hsz : ∀ w, (Go.sizeOf e).run C.P w = .ok 1 w := fun w => by have := hR.size w; rw [hk] at this; exact this
    subst hi
    refine ⟨(), .slice (if cap = n then ao else ao.map (·.add n)) (xs.length - n) (cap - n), w, h, _, ?_, HL.refl, sp, st, ⟨_, ⟨cap - n, by rw [List.length_drop]; omega⟩, by show Value.slice _ (xs.length - n) (cap - n) = Value.slice _ (xs.drop n).length (cap - n); rw [List.length_drop], fun hne => ?_⟩⟩
    · simp [execOp, Instr.sliceAt, run_underlying hu, hv, h2, Instr.slice, Instr.sliceBounds, Instr.sliceBound, asIntOf, hsz, hn]
    · have hlt : n < xs.length := by
        rcases Nat.lt_or_ge n xs.length with q | q
        · exact q
        · exact absurd (List.drop_of_length_le q) hne
      obtain ⟨b, off, ea, H'⟩ := H (fun e => by rw [e] at hlt; simp at hlt)
      refine ⟨b, off + n, by rw [if_neg (by omega), ea]; simp [addr_add], fun j z hz => ?_⟩
      obtain ⟨cs, q1, q2⟩ := H' (n + j) z (by simpa [List.getElem?_drop] using hz)
      rw [hk, Nat.mul_one] at q1 ⊢
      exact ⟨cs, by rw [show off + n + j = off + (n + j) by omega]; exact q1, q2⟩
end
open Go
section
variable {κ β : Type} [DecidableEq κ]
/-- A map in immutable memory. -/
def tMapI (kv : κ → Value) (R : Rp β) (m : List (κ × β)) : Ty := ⟨fun h v => ∃ m1 : PH, m1.le h ∧ (mapOwn kv R v m).p h m1, fun {h h' v} l ⟨m1, a, b⟩ => ⟨m1, PH.le_trans a l, (mapOwn kv R v m).mono l b⟩⟩
theorem Frz.mapI {kv : κ → Value} {R : Rp β} {v : Value} {m : List (κ × β)} {S : List SP} : Frz (mapOwn kv R v m :: S) (tV v) (tMapI kv R m) := fun h mm u d ⟨m1, m2, d12, em, ho, _⟩ hu => by
  subst em
  have hu : u = v := hu
  subst hu
  have hd := PH.disj_join'.1 d
  exact ⟨m1, fun b o e => PH.le_join_right d _ _ (PH.le_join_left _ _ _ _ e), (mapOwn kv R u m).mono (PH.le_join_left _ _) ho⟩
variable {kv : κ → Value} {R : Rp β}
variable {C : Cx} {E : Env} {L : List SP} {d : Option Nat} {ty : Nat} {pos : String} {af : Array Edge} {g : Option (Nat × Bool)}
theorem step_lookupI_ok {T kt e : Nat} {x y : Operand} {m : List (κ × β)} {q : κ} {z : β} {zv : Value} (K : KeyT C.P kt kv) (hu : C.P.underlying T = some (.map kt e)) (hz : ∀ w, (zeroValue e).run C.P w = .ok zv w) (hzr : ∀ h, (R.ty z).p h zv)
    (hx : Sub (opTy E x) (tMapI kv R m)) (hy : Sub (opTy E y) (tV (kv q))) : Step1 C ⟨d, .lookup T x y true, ty, pos, af, g⟩ E L (tTup [R.ty ((mget m q).getD z), tV (.bool (mget m q).isSome)]) :=
  Step.of_run (by intro c h; cases h) fun a w h mm l sp st fr => by
    obtain ⟨m1, hle, ho⟩ := fr.get hx
    have h2 : a.eval y = kv q := fr.get hy
    obtain ⟨u, hu1, hrun⟩ := run_lookup (P := C.P) K hu hz hzr ho (fun b o e => sp.hw _ _ (hle _ _ e)) q true
    exact ⟨(), _, w, h, _, by simp [execOp, h2, hrun], HL.refl, sp, st, ⟨[u, .bool _], rfl, hu1, rfl, trivial⟩⟩
end
section
variable {C : Cx} {E : Env} {L : List SP} {d : Option Nat} {ty : Nat} {pos : String} {af : Array Edge} {g : Option (Nat × Bool)}
end
open Go Go.Proofs Go.Proofs.Tryz
/-- An array of n elements. -/
def rArr {β : Type} (n : Nat) (R : Rp β) : Rp (List β) where
  k := n * R.k
  agg := true
  rel := fun h xs cs => xs.length = n ∧ relAll R h xs cs
  ty := fun xs => ⟨fun h v => ∃ cs, (xs.length = n ∧ relAll R h xs cs) ∧ v = packV true cs, fun l ⟨cs, r, e⟩ => ⟨cs, ⟨r.1, relAll_mono l r.2⟩, e⟩⟩
  len := by rintro h xs cs ⟨rfl, r⟩; exact relAll_len r
  one := by rintro h xs cs ⟨_, r⟩; exact relAll_one r
  mono := fun l r => ⟨r.1, relAll_mono l r.2⟩
  scalar := fun e => by cases e
  iff := Iff.rfl
section
variable {C : Cx} {E : Env} {L : List SP} {d : Option Nat} {ty : Nat} {pos : String} {af : Array Edge} {g : Option (Nat × Bool)}
theorem step_nilCheck {x : Operand} {b o : Nat} (hx : Sub (opTy E x) (tAt b o)) : Step1 C ⟨d, .nilCheck x, ty, pos, af, g⟩ E L (tAt b o) :=
  Step.of_same (by intro c h; cases h) fun a w h hw fr => by
    have hv : a.eval x = .pointer (some ⟨b, o, none⟩) := fr.get hx
    exact ⟨_, by simp [execOp, hv], rfl⟩
theorem step_nilCheckP {α : Type} {R : Rp α} {x : Operand} {y : α} (hx : Sub (opTy E x) (tPtr R y)) : Step1 C ⟨d, .nilCheck x, ty, pos, af, g⟩ E L (tPtr R y) :=
  Step.of_same (by intro c h; cases h) fun a w h hw fr => by
    have hp := fr.get hx
    obtain ⟨b, off, cs, hv, H⟩ := hp
    exact ⟨_, by simp [execOp, hv], ⟨b, off, cs, rfl, H⟩⟩
theorem step_arrIdx {T n e b o i : Nat} {x y : Operand} {k : IntKind} {z : Int} (hu : C.P.underlying T = some (.array n e)) (hs : ∀ w, (Go.sizeOf e).run C.P w = .ok 1 w) (hx : Sub (opTy E x) (tAt b o)) (hy : Sub (opTy E y) (tV (.int k z))) (hz : z = i) (hlt : i < n) :
    Step1 C ⟨d, .indexAddr T x y, ty, pos, af, g⟩ E L (tAt b (o + i)) :=
  Step.of_same (by intro c h; cases h) fun a w h hw fr => by
    have hv : a.eval x = .pointer (some ⟨b, o, none⟩) := fr.get hx
    have h2 : a.eval y = .int k z := fr.get hy
    subst hz
    refine ⟨.pointer (some ⟨b, o + i, none⟩), ?_, rfl⟩
    simp [execOp, Instr.indexAt, Instr.sureAddr, hv, h2, asIntOf, run_underlying hu, hs, hlt, addr_add]
theorem step_arrIdxP {β : Type} [Inhabited β] {R : Rp β} {T n e i : Nat} {x y : Operand} {xs : List β} {k : IntKind} {z : Int} (hu : C.P.underlying T = some (.array n e)) (hR : TyOf C.P e R) (hk : R.k = 1) (hx : Sub (opTy E x) (tPtr (rArr n R) xs)) (hy : Sub (opTy E y) (tV (.int k z))) (hz : z = i) (hlt : i < n) :
    Step1 C ⟨d, .indexAddr T x y, ty, pos, af, g⟩ E L (tPtr R (nth xs i)) :=
  Step.of_same (by intro c h; cases h) fun a w h hw fr => by
    obtain ⟨b, off, cs, hv, ⟨c, e', fz, hb, hc⟩, hn, r⟩ := fr.get hx
    have h2 : a.eval y = .int k z := fr.get hy
    subst hz
    have hl : i < xs.length := by omega
    obtain ⟨c', r', hc'⟩ := relAll_get r (List.getElem?_eq_getElem hl)
    have hs := hR.size
    rw [hk] at hs
    refine ⟨.pointer (some ⟨b, off + i, none⟩), ?_, b, off + i, c', rfl, ⟨c, e', fz, hb, fun j v hv' => ?_⟩, by rw [nth_get hl]; exact r'⟩
    · simp [execOp, Instr.indexAt, Instr.sureAddr, hv, h2, asIntOf, run_underlying hu, hs, hlt, addr_add]
    · rw [Nat.add_assoc]
      have := hc' j v hv'
      rw [hk, Nat.mul_one] at this
      exact hc _ _ this
theorem step_load_arr {α β : Type} [Inhabited β] {T U A n b i : Nat} {R : Rp β} {gt : α → List β} {fs : List (SF α)} {x : Operand} {y : α} {S : List SP} (hR : TyOf C.P T R) (hk : R.k = 1) (hx : Sub (opTy E x) (tAt b i)) (hi : i < n)
    (sel : Sel L [box b U (rStruct (⟨List β, A, rArr n R, gt⟩ :: fs)) y] S) : Step1 C ⟨d, .load T x, ty, pos, af, g⟩ E L (R.ty (nth (gt y) i)) :=
  Step.of_run (by intro c h; cases h) fun a w h m l sp st fr => by
    obtain ⟨m1, m2, d12, rfl, ⟨cs, r, rfl⟩, s2⟩ := sel.one.1 st
    have hb := sp.heap_own
    obtain ⟨c1, c2, rfl, ⟨hn, r1⟩, r2⟩ := r
    have hl : i < (gt y).length := by simpa using hn ▸ hi
    obtain ⟨c', r', hc'⟩ := relAll_get r1 (List.getElem?_eq_getElem hl)
    have := run_loadVar_cells (b := b) (o := i) (w := w) hR.agg hR.size (R.len r') R.scalar (fun j v hv' => by
      have h1 := hc' j v hv'
      rw [hk, Nat.mul_one] at h1
      rw [inw_cells (h := h) hb]
      have hlt := (List.getElem?_eq_some_iff.1 h1).1
      simp [List.getElem?_append_left hlt, h1])
    refine ⟨(), packV R.agg c', w, h, _, ?_, HL.refl, sp, st, ?_⟩
    · have hv : a.eval x = .pointer (some ⟨b, i, none⟩) := fr.get hx
      simp [execOp, Instr.loadAt, Instr.sureAddr, hv, this]
    · rw [nth_get hl]; exact R.pack r'
theorem relAll_set1 {β : Type} {R : Rp β} {h : PH} (hk : R.k = 1) {xs : List β} {cs : List Value} {i : Nat} {z : β} {u : Value} (hi : i < xs.length) (rz : R.rel h z [u]) (r : relAll R h xs cs) : relAll R h (xs.set i z) (cs.set i u) := by
  have h1 := relAll_set rz hi r
  rw [hk] at h1
  simp only [Nat.mul_one] at h1
  have hl := relAll_len r
  rw [hk, Nat.mul_one] at hl
  have e : cs.set i u = List.take i cs ++ u :: List.drop (i + 1) cs := by rw [List.set_eq_take_append_cons_drop, if_pos (by omega)]
  rw [e]
  simpa [List.append_assoc] using h1
theorem step_store_arr {α β : Type} {T U A n b i : Nat} {R : Rp β} {gt : α → List β} {fs : List (SF α)} {x v : Operand} {y y' : α} {z : β} {S : List SP} (hR : TyOf C.P T R) (hk : R.k = 1) (hx : Sub (opTy E x) (tAt b i)) (hi : i < n) (hv : Sub (opTy E v) (R.ty z))
    (sel : Sel L [box b U (rStruct (⟨List β, A, rArr n R, gt⟩ :: fs)) y] S) (hy : gt y' = (gt y).set i z) (hg : ∀ f ∈ fs, f.get y' = f.get y) :
    Step C ⟨d, .store T x v, ty, pos, af, g⟩ E L (fun _ : Unit => tAny) (fun _ => box b U (rStruct (⟨List β, A, rArr n R, gt⟩ :: fs)) y' :: S) :=
  Step.of_skip (by intro c h; cases h) fun a w h m l sp st fr => by
    obtain ⟨m1, m2, d12, rfl, ⟨cs, r, rfl⟩, s2⟩ := sel.one.1 st
    have hb := sp.heap_own
    obtain ⟨c1, c2, rfl, ⟨hn, r1⟩, r2⟩ := r
    have hl : i < (gt y).length := by simpa using hn ▸ hi
    have rz := R.cells (fr.get hv)
    have hzl := R.len rz
    rw [hk] at hzl
    obtain ⟨u, hu⟩ : ∃ u, (a.eval v).cells.toList = [u] := by
      match he : (a.eval v).cells.toList with
      | [u] => exact ⟨u, rfl⟩
      | [] => rw [he] at hzl; simp at hzl
      | _ :: _ :: _ => rw [he] at hzl; simp at hzl
    have hl1 := relAll_len r1
    rw [hk, Nat.mul_one] at hl1
    have hp : a.eval x = .pointer (some ⟨b, i, none⟩) := fr.get hx
    have hsz : (a.eval v).cells.size = R.k := by rw [hk, ← Array.length_toList, hu]; rfl
    obtain ⟨w', hrun, hoth, hsame, hnew⟩ := run_storeVar_cells (P := C.P) (b := b) (o := i) (v := a.eval v) hR.size hsz hb (by simp; omega) (R.one rz)
    rw [hu] at rz hnew
    have hcells : List.take i (c1 ++ c2) ++ [u] ++ List.drop (i + R.k) (c1 ++ c2) = c1.set i u ++ c2 := by
      rw [hk, List.set_eq_take_append_cons_drop, if_pos (by omega), List.take_append_of_le_length (by omega), List.drop_append_of_le_length (by omega)]
      simp [List.append_assoc]
    refine ⟨(), w', h, (PH.one b (.cells (c1.set i u ++ c2).toArray U (0, 0))).join m2, ?_, HL.same hsame, Sep.write d12 sp (fun b' hne _ => hoth b' hne) (by rw [hnew, ← hcells]), ?_⟩
    · simp [execOp, Instr.storeAt, Instr.sureAddr, hp, hrun]
    · refine ⟨_, m2, PH.one_disj_iff.2 (PH.one_disj_iff.1 d12), rfl, ⟨c1.set i u ++ c2, ⟨c1.set i u, c2, rfl, ?_, SF.rel_congr hg r2⟩, rfl⟩, s2⟩
      exact ⟨by show (gt y').length = n; rw [hy]; simpa using hn, by show relAll R h (gt y') _; rw [hy]; exact relAll_set1 hk hl rz r1⟩
/-- make([]T, 0, c). -/
theorem step_make0 {α : Type} {T e bytes : Nat} {R : Rp α} {z : α} {x y : Operand} {c : Nat} {kl kc : IntKind} {i j : Int} (hu : C.P.underlying T = some (.slice e)) (hE : ElT C.P e R bytes z)
    (hx : Sub (opTy E x) (tV (.int kl i))) (hy : Sub (opTy E y) (tV (.int kc j))) (hi : i = 0) (hj : j = c) (hb : bytes * c ≤ 281474976710656) (hn : c ≤ 1000000000000) :
    Step C ⟨d, .makeSlice T x y, ty, pos, af, g⟩ E L (fun v : Value => rV.ty v) (fun v => own e R v ([] : List α) :: L) :=
  Step.of_run (by intro c h; cases h) fun a w h m l sp st fr => by
    obtain ⟨i', zv, hi', hz, hk, hby, hzr⟩ := hE.inf
    subst hi; subst hj
    have h1 : a.eval x = .int kl 0 := fr.get hx
    have h2 : a.eval y = .int kc c := fr.get hy
    have hr := run_make (P := C.P) w T e i' zv hu hi' hz kl kc 0 c (by omega) (by omega) (by rw [hby]; have : ((bytes * c : Nat) : Int) ≤ 281474976710656 := by omega
                                                                                             rwa [Int.natCast_mul] at this) (by omega)
    have rz := R.cells (hzr h)
    refine ⟨.slice (some ⟨w.heap.size, 0, none⟩) 0 c, .slice (some ⟨w.heap.size, 0, none⟩) 0 c, w.alloc (.cells (madeCells zv.cells (c * i'.size)) e), h, (PH.one w.heap.size (.cells (madeCells zv.cells (c * i'.size)) e)).join m, ?_, HL.own _, sp.allocOwn _, ?_, ⟨rfl, rfl⟩⟩
    · simp only [execOp, h1, h2, Sem.run_bind, hr, Result.andThen_ok, Int.toNat_natCast]; rfl
    · have hl := R.len rz
      have hzs : zv.cells.size = R.k := by simpa using hl
      refine ⟨_, m, PH.disj_symm (PH.one_disj_new sp.mw _), rfl, .inr ⟨w.heap.size, c, _, by simp, rfl, by simp, ?_, ?_, ?_⟩, st⟩
      · unfold maxLen; omega
      · rw [size_madeCells, hk]
      · simp; rfl
/-- An interface value of dynamic type T. -/
def tIf (T : Nat) (A : Ty) : Ty := ⟨fun h v => ∃ u, v = .iface T u ∧ A.p h u, fun l ⟨u, e, a⟩ => ⟨u, e, A.mono l a⟩⟩
theorem step_mkIface {T : Nat} {x : Operand} {A : Ty} {D : TypeDesc} (hu : C.P.underlying T = some D) (hD : ∀ m, D ≠ .interface m) (hx : Sub (opTy E x) A) : Step1 C ⟨d, .makeInterface T x, ty, pos, af, g⟩ E L (tIf T A) :=
  Step.of_same (by intro c h; cases h) fun a w h hw fr => by
    refine ⟨.iface T (a.eval x), ?_, a.eval x, rfl, fr.get hx⟩
    simp only [execOp, Instr.makeInterface]
    cases D <;> first | (exact absurd rfl (hD _)) | simp [run_underlying hu]
/-- A call of a method behind an interface. -/
theorem step_invoke {X : Type} {S R : List SP} {x : Operand} {T f : Nat} {A : Ty} {name : String} {xs : Array Operand} {ts : Array Nat} {aT : List Ty} {res : X → Ty} {L' : X → List SP}
    (hx : Sub (opTy E x) (tIf T A)) (hm : ∀ h u w, A.p h u → (method (C.P.types.size + Made.depth) T u name).run C.P w = .ok (f, u) w) (sel : Sel L S R) (sp : Spec C.P f (A :: aT) S res L') (ha : ArgsE E xs.toList aT) (he : ∀ args w, (callFunc f args).run C.P w = .ok (.enter f args) w) :
    Step C ⟨d, .call { callee := .invoke x name, args := xs, argTypes := ts }, ty, pos, af, g⟩ E L res (fun x => L' x ++ R) := fun a w h m n l se st fr next Q hk => by
  obtain ⟨m1, m2, d12, rfl, s1, s2⟩ := sel.stars.1 st
  obtain ⟨u, hv, hu⟩ := fr.get hx
  have hA : Args h (A :: aT) (u :: xs.toList.map a.eval) := ⟨hu, ha.args fr⟩
  have hd := PH.disj_join'.1 se.hm
  have hr := PH.disj_join.1 se.mr
  have hc := sp _ h m1 (m2.join C.r) w hA ⟨(by first | exact Sep.inv (by assumption) | exact Inv.mono (PH.le_join_left _ _) (Sep.inv (by assumption))), hd.1, PH.disj_join'.2 ⟨hd.2, se.hr⟩, PH.disj_join'.2 ⟨d12, hr.1⟩, se.hw, fun b o e => se.mw _ _ (PH.le_join_left _ _ _ _ e),
    PH.join_inw (fun b o e => se.mw _ _ (PH.le_join_right d12 _ _ e)) se.rw⟩ s1
  refine ⟨fun _ _ => trivial, ?_⟩
  rw [Fw_round, Oper.semAt_eq _ _ _ (by intro c h; cases h)]
  have hrun : (execOp a.eval ⟨d, .call { callee := .invoke x name, args := xs, argTypes := ts }, ty, pos, af, g⟩).run C.P w = .ok (.enter f (u :: xs.toList.map a.eval).toArray) w := by
    simp only [execOp, resolve]
    have e0 : (#[Value.iface T u] ++ Array.map a.eval xs)[0]? = some (.iface T u) := by simp [Array.getElem?_append]
    have e2 : (Array.map a.eval xs).extract 0 xs.size = Array.map a.eval xs := by
      have : xs.size = (Array.map a.eval xs).size := by simp
      rw [this, Array.extract_size]
    simp only [invoke, callMethod, hv]
    simp [e0, hm h u _ hu, he, e2]
  rw [hrun]
  refine ⟨by simp, (callsIn_wide (n := 0 - 1)).2 (hc.mono ?_)⟩
  rintro e w' ⟨x, v, h', m', rfl, l', se', st', hv⟩
  have e1 := PH.disj_join'.1 se'.hr
  have e2 := PH.disj_join'.1 se'.mr
  exact hk x v w' h' (m'.join m2) l' ⟨(by first | exact Sep.inv (by assumption) | exact Inv.mono (PH.le_join_left _ _) (Sep.inv (by assumption))), PH.disj_join'.2 ⟨se'.hm, e1.1⟩, e1.2, PH.disj_join.2 ⟨e2.2, hr.2⟩, se'.hw, PH.join_inw se'.mw (fun b o e => se'.rw _ _ (PH.le_join_left _ _ _ _ e)), fun b o e => se'.rw _ _ (PH.le_join_right hr.2 _ _ e)⟩
    (stars_append.2 ⟨m', m2, e2.1, rfl, st', by
      have : (stars R).p h' m2 := (stars R).mono l'.1 s2
      exact this⟩) hv
end
/-- Three cells, as they are. -/
def rCells (n : Nat) : Rp (List Value) where
  k := n
  agg := true
  rel := fun _ x cs => cs = x ∧ x.length = n ∧ ∀ c ∈ x, c.oneCell' = true
  ty := fun x => ⟨fun h v => ∃ cs, (cs = x ∧ x.length = n ∧ ∀ c ∈ x, c.oneCell' = true) ∧ v = packV true cs, fun _ e => e⟩
  len := by rintro _ _ _ ⟨rfl, h, _⟩; exact h
  one := by rintro _ _ _ ⟨rfl, _, h⟩; exact h
  mono := fun _ e => e
  scalar := fun e => by cases e
  iff := Iff.rfl
open Go Go.Proofs Go.Proofs.Tryz
section
variable {κ β : Type} [DecidableEq κ] (kv : κ → Value) (R : Rp β)
end
section
variable {κ β : Type} [DecidableEq κ] {kv : κ → Value} {R : Rp β}
variable {C : Cx} {E : Env} {L : List SP} {d : Option Nat} {ty : Nat} {pos : String} {af : Array Edge} {g : Option (Nat × Bool)}
theorem tMapI_iff {h : PH} {v : Value} {m : List (κ × β)} (a : (tMapI kv R m).p h v) : ∃ r es, v = .map (some r) ∧ h r = some (.map (List.toArray es) es.length) ∧ entR kv R h m es 0 := by
  obtain ⟨m1, l, r, es, rfl, rfl, hr⟩ := a
  exact ⟨r, es, rfl, l _ _ (PH.one_same _ _), hr⟩
end
open Go
section
variable {κ α : Type} [DecidableEq κ]
/-- Keys, the rows that are held under them, what these hold. -/
abbrev RowsL (κ α : Type) := List (κ × Value × List α)
def rowsO (e : Nat) (R : Rp α) (q : RowsL κ α) : SP := stars (q.map fun t => own e R t.2.1 t.2.2)
def rval (q : RowsL κ α) (k : κ) : Value × List α := match q with
  | [] => (.slice none 0 0, [])
  | (a, v, xs) :: q => if k = a then (v, xs) else rval q k
def rmv (q : RowsL κ α) (k : κ) : RowsL κ α := match q with
  | [] => []
  | (a, v, xs) :: q => if k = a then q else (a, v, xs) :: rmv q k
def rput (q : RowsL κ α) (k : κ) (v : Value) (xs : List α) : RowsL κ α := match q with
  | [] => [(k, v, xs)]
  | (a, v0, x0) :: q => if k = a then (a, v, xs) :: q else (a, v0, x0) :: rput q k v xs
abbrev vals (q : RowsL κ α) : List (κ × Value) := q.map fun t => (t.1, t.2.1)
theorem vals_get (k : κ) : ∀ q : RowsL κ α, (mget (vals q) k).getD (.slice none 0 0) = (rval q k).1
  | [] => rfl
  | (a, v, xs) :: q => by
    by_cases h : k = a
    · simp [mget, rval, h]
    · simp only [List.map_cons, mget, rval, if_neg h]; exact vals_get k q
theorem vals_put (k : κ) (v : Value) (ys : List α) : ∀ q : RowsL κ α, mput (vals q) k v = vals (rput q k v ys)
  | [] => rfl
  | (a, v0, x0) :: q => by
    by_cases h : k = a
    · simp [mput, rput, h]
    · simp only [List.map_cons, mput, rput, if_neg h]; rw [vals_put k v ys q]
variable {e : Nat} {R : Rp α} {L : List SP}
theorem LSub.head {A : SP} {L L' : List SP} (h : LSub L L') : LSub (A :: L) (A :: L') := LSub.cons (Sel.take (Sel.none _)) SPs.rfl h
theorem LSub.swap {A B : SP} {L : List SP} : LSub (A :: B :: L) (B :: A :: L) := LSub.cons (Sel.skip (Sel.take (Sel.none _))) SPs.rfl (LSub.cons (Sel.take (Sel.none _)) SPs.rfl LSub.rfl)
theorem LSub.pop {A : SP} {B L : List SP} : LSub (Lg.stars (A :: B) :: L) (A :: Lg.stars B :: L) := fun h m ⟨m1, m2, d, e, ⟨m3, m4, d3, e3, ha, hb⟩, hl⟩ => by
  subst e; subst e3
  have dd := PH.disj_join.1 d
  exact ⟨m3, m4.join m2, PH.disj_join'.2 ⟨d3, dd.1⟩, PH.join_assoc _ _ _, ha, m4, m2, dd.2, _root_.rfl, hb, hl⟩
theorem rows_split (k : κ) : ∀ {q : RowsL κ α} {L : List SP}, LSub (rowsO e R q :: L) (own e R (rval q k).1 (rval q k).2 :: rowsO e R (rmv q k) :: L)
  | [], L => LSub.nilown
  | (a, v, xs) :: q, L => by
    by_cases h : k = a
    · simp only [rval, rmv, if_pos h]; exact LSub.pop
    · simp only [rval, rmv, if_neg h]
      exact LSub.trans LSub.pop (LSub.trans (LSub.head (rows_split k)) (LSub.trans LSub.swap (LSub.head LSub.push)))
theorem rows_join (k : κ) (v : Value) (ys : List α) : ∀ {q : RowsL κ α} {L : List SP}, LSub (own e R v ys :: rowsO e R (rmv q k) :: L) (rowsO e R (rput q k v ys) :: L)
  | [], L => LSub.push
  | (a, v0, x0) :: q, L => by
    by_cases h : k = a
    · simp only [rput, rmv, if_pos h]; exact LSub.push
    · simp only [rput, rmv, if_neg h]
      exact LSub.trans (LSub.head LSub.pop) (LSub.trans LSub.swap (LSub.trans (LSub.head (rows_join k v ys)) LSub.push))
theorem rows_nil {L : List SP} : LSub L (rowsO e R ([] : RowsL κ α) :: L) := fun h m p => ⟨PH.emp, m, PH.disj_symm (PH.disj_emp _), (PH.emp_join _).symm, _root_.rfl, p⟩
variable {kv : κ → Value}
variable {C : Cx} {E : Env} {d : Option Nat} {ty : Nat} {pos : String} {af : Array Edge} {g : Option (Nat × Bool)}
theorem step_lookupR {T kt el : Nat} {x y : Operand} {v : Value} {q : RowsL κ α} {S : List SP} {k : κ} (K : KeyT C.P kt kv) (hu : C.P.underlying T = some (.map kt el)) (hz : ∀ w, (zeroValue el).run C.P w = .ok (.slice none 0 0) w)
    (hx : Sub (opTy E x) (tV v)) (hy : Sub (opTy E y) (tV (kv k))) (sel : Sel L [mapOwn kv rV v (vals q)] S) : Step1 C ⟨d, .lookup T x y false, ty, pos, af, g⟩ E L (rV.ty (rval q k).1) := by
  have := step_lookup (C := C) (d := d) (ty := ty) (pos := pos) (af := af) (g := g) (R := rV) (z := .slice none 0 0) K hu hz (fun _ => ⟨rfl, rfl⟩) hx hy sel
  rw [vals_get] at this
  exact this
end
section
variable {κ α : Type} [DecidableEq κ] {kv : κ → Value} {e : Nat} {R : Rp α}
abbrev lists (q : RowsL κ α) : List (κ × List α) := q.map fun t => (t.1, t.2.2)
theorem own_one {h m : PH} {v : Value} {xs : List α} {S : List SP} (s : (Lg.stars (own e R v xs :: S)).p h m) : v.oneCell' = true := by
  obtain ⟨m3, m4, _, _, ho, _⟩ := s
  rcases ho with ⟨rfl, _⟩ | ⟨g, cap, cur, rfl, _⟩ <;> rfl
theorem rows_frz {h : PH} : ∀ {q : RowsL κ α} {m : PH}, h.disj m → (rowsO e R q).p h m → ∀ t ∈ q, (tSl R t.2.2).p (h.join m) t.2.1
  | [], _, _, _, t, ht => by cases ht
  | (a, v, xs) :: q, m, d, hs, t, ht => by
    rcases List.mem_cons.1 ht with rfl | ht
    · exact Frz.own h m v d hs ⟨rfl, own_one hs⟩
    · obtain ⟨m1, m2, d12, rfl, ho, hr⟩ := hs
      have hd := PH.disj_join'.1 d
      have ih := rows_frz (q := q) hd.2 hr t ht
      refine (tSl R t.2.2).mono (fun b o eo => ?_) ih
      simp only [PH.join] at eo ⊢
      cases hb : h b with
      | some x => rw [hb] at eo; exact eo
      | none =>
        rw [hb] at eo
        have := PH.le_join_right d12 b o eo
        simp only [PH.join] at this
        exact this
theorem entR_lists {h h' : PH} : ∀ {q : RowsL κ α} {es : List MapEntry} {n : Nat}, (∀ t ∈ q, (tSl R t.2.2).p h' t.2.1) → entR kv rV h (vals q) es n → entR kv (rSl R) h' (lists q) es n
  | [], [], _, _, _ => trivial
  | [], _ :: _, _, _, r => r.elim
  | _ :: _, [], _, _, r => r.elim
  | (a, v, xs) :: q, e :: es, n, hq, ⟨r1, r2, r3, r4⟩ => by
    refine ⟨r1, ?_, r3, entR_lists (fun t ht => hq t (by simp [ht])) r4⟩
    have h2 : e.val = v := r2.1
    rw [h2]
    exact hq (a, v, xs) (by simp)
theorem Frz.rows {v : Value} {q : RowsL κ α} {S : List SP} : Frz (mapOwn kv rV v (vals q) :: rowsO e R q :: S) (tV v) (tMapI kv (rSl R) (lists q)) := fun h m u d ⟨m1, m2, d12, em, ho, m3, m4, d34, em2, hr, _⟩ hu => by
  subst em; subst em2
  have hu : u = v := hu
  subst hu
  have hd := PH.disj_join'.1 d
  have hd2 := PH.disj_join'.1 hd.2
  obtain ⟨r, es, rfl, rfl, hE⟩ := ho
  have hfr := rows_frz hd2.1 hr
  have hle : (h.join m3).le (h.join ((PH.one r (.map (List.toArray es) es.length)).join (m3.join m4))) := fun b o eo => by
    simp only [PH.join] at eo ⊢
    cases hb : h b with
    | some x => rw [hb] at eo; exact eo
    | none =>
      rw [hb] at eo
      have h1 : (m3.join m4) b = some o := PH.le_join_left m3 m4 b o eo
      have := PH.le_join_right d12 b o h1
      simp only [PH.join] at this
      exact this
  refine ⟨PH.one r (.map (List.toArray es) es.length), fun b o eo => PH.le_join_right d _ _ (PH.le_join_left _ _ _ _ eo), r, es, rfl, rfl, ?_⟩
  exact entR_lists (fun t ht => (tSl R t.2.2).mono hle (hfr t ht)) hE
end
open Go Go.Proofs Go.Proofs.Tryz
section
variable {P : Program} (w : World)
end
section
variable {C : Cx} {E : Env} {L : List SP} {d : Option Nat} {ty : Nat} {pos : String} {af : Array Edge} {g : Option (Nat × Bool)}
end
section
variable {κ β : Type} [DecidableEq κ] {kv : κ → Value} {R : Rp β}
variable {C : Cx} {E : Env} {L : List SP} {d : Option Nat} {ty : Nat} {pos : String} {af : Array Edge} {g : Option (Nat × Bool)}
theorem step_lookupI {T kt e : Nat} {x y : Operand} {m : List (κ × β)} {q : κ} {z : β} {zv : Value} (K : KeyT C.P kt kv) (hu : C.P.underlying T = some (.map kt e)) (hz : ∀ w, (zeroValue e).run C.P w = .ok zv w) (hzr : ∀ h, (R.ty z).p h zv)
    (hx : Sub (opTy E x) (tMapI kv R m)) (hy : Sub (opTy E y) (tV (kv q))) : Step1 C ⟨d, .lookup T x y false, ty, pos, af, g⟩ E L (R.ty ((mget m q).getD z)) :=
  Step.of_run (by intro c h; cases h) fun a w h mm l sp st fr => by
    obtain ⟨m1, hle, ho⟩ := fr.get hx
    have h2 : a.eval y = kv q := fr.get hy
    obtain ⟨u, hu1, hrun⟩ := run_lookup (P := C.P) K hu hz hzr ho (fun b o e => sp.hw _ _ (hle _ _ e)) q false
    exact ⟨(), u, w, h, _, by simp [execOp, h2, hrun], HL.refl, sp, st, hu1⟩
end
open Go
structure It3 where
  i : Nat
  ts : List Nat
  c : Nat
def JX (C : Cx) (ops : Array Oper) (k : Env → List SP → Prop) : List It3 → Env → List SP → Prop
  | [], E, L => k E L
  | ⟨i, ts, 0⟩ :: its, E, L => ∃ o A, ops[i]? = some o ∧ ltO o.dst C.N = true ∧ (∀ L, StepG C ops o (restr ts E) L A) ∧ JX C ops k its (updO E o.dst A) L
  | ⟨i, ts, 1⟩ :: its, E, L => ∃ o A, ops[i]? = some o ∧ ltO o.dst C.N = true ∧ StepG C ops o (restr ts E) L A ∧ JX C ops k its (updO E o.dst A) L
  | ⟨i, ts, _ + 2⟩ :: its, E, L => ∃ o, ops[i]? = some o ∧ ltO o.dst C.N = true ∧ ∃ (X : Type) (A : X → Ty) (L' : X → List SP), WantX ops o (restr ts E) ∧ Step C o (restr ts E) L A L' ∧ ∀ x, JX C ops k its (updO E o.dst (A x)) (L' x)
section
variable {C : Cx} {ops : Array Oper} {k : Env → List SP → Prop} {its : List It3} {E : Env} {L : List SP} {i : Nat} {ts : List Nat} {o : Oper}
theorem JX_nil (h : k E L) : JX C ops k [] E L := h
theorem JX_step {A : Ty} {d : Nat} (ho : ops.toList[i]? = some o) (hg : o.guard = none) (hd : o.dst = some d) (hN : Nat.blt d C.N = true) (hs : ∀ L, Step1 C o (restr ts E) L A)
    (hk : JX C ops k its (upd E d A) L) : JX C ops k (⟨i, ts, 0⟩ :: its) E L :=
  ⟨o, A, by simpa using ho, by rw [hd]; exact hN, fun L => .inl ⟨hg, hs L⟩, by rw [hd]; exact hk⟩
theorem JX_look {A : Ty} {d : Nat} (ho : ops.toList[i]? = some o) (hg : o.guard = none) (hd : o.dst = some d) (hN : Nat.blt d C.N = true) (hs : Step1 C o (restr ts E) L A)
    (hk : JX C ops k its (upd E d A) L) : JX C ops k (⟨i, ts, 1⟩ :: its) E L :=
  ⟨o, A, by simpa using ho, by rw [hd]; exact hN, .inl ⟨hg, hs⟩, by rw [hd]; exact hk⟩
theorem JX_stepX {X : Type} {A : X → Ty} {L' : X → List SP} {d : Nat} (ho : ops.toList[i]? = some o) (hg : o.guard = none) (hd : o.dst = some d) (hN : Nat.blt d C.N = true) (hs : Step C o (restr ts E) L A L')
    (hk : ∀ x, JX C ops k its (upd E d (A x)) (L' x)) : JX C ops k (⟨i, ts, 2⟩ :: its) E L :=
  ⟨o, by simpa using ho, by rw [hd]; exact hN, X, A, L', .inl hg, hs, fun x => by rw [hd]; exact hk x⟩
theorem JX_stepU {X : Type} {A : X → Ty} {L' : X → List SP} (ho : ops.toList[i]? = some o) (hg : o.guard = none) (hd : o.dst = none) (hs : Step C o (restr ts E) L A L')
    (hk : ∀ x, JX C ops k its E (L' x)) : JX C ops k (⟨i, ts, 2⟩ :: its) E L :=
  ⟨o, by simpa using ho, by rw [hd]; rfl, X, A, L', .inl hg, hs, fun x => by rw [hd]; exact hk x⟩
end
structure Pl3 where
  i : Nat
  ts : List Nat
  c : Nat
  aft : List Nat
  dst : Option Nat
def plOf3 (ops : List Oper) (x : It3) : Pl3 := ⟨x.i, x.ts, x.c, aftOf ops x.i, dstOf ops x.i⟩
def okPair3 (a b : Pl3) : Bool := !Nat.beq a.i b.i && (memN a.i b.aft || (!inO a.dst b.ts && !inO b.dst a.ts && !eqO a.dst b.dst))
def okTail3 (m : Pl3) (l : List Pl3) : Bool := match m.c with
  | 0 => true
  | 1 => l.all fun q => Nat.ble q.c 1 || (memN m.i q.aft || q.aft.any fun r => l.any fun p => Nat.beq r p.i && memN m.i p.aft)
  | _ => l.all fun q => memN m.i q.aft || q.aft.any fun r => l.any fun p => Nat.beq r p.i
def okPls3 : List Pl3 → Bool
  | [] => true
  | a :: l => l.all (okPair3 a) && okTail3 a l && okPls3 l
def okM3 (ops : List Oper) (its : List It3) : Bool :=
  let pls := its.map (plOf3 ops)
  okPls3 pls && pls.all (fun p => p.aft.all (Nat.blt · p.i)) && (List.range ops.length).all (fun i => its.any fun x => Nat.beq i x.i) && its.all fun x => Nat.blt x.i ops.length
theorem okPls3_sub : ∀ {l1 : List Pl3} {b : Pl3} {l2 : List Pl3}, okPls3 (l1 ++ b :: l2) = true → (∀ a ∈ l1, a.c ≤ 1) → (∀ a ∈ l1, a.i ∉ b.aft) → okPls3 (l1 ++ l2) = true
  | [], b, l2, h, _, _ => by simp only [List.nil_append, okPls3, Bool.and_eq_true] at h; exact h.2
  | a :: l1, b, l2, h, hf, hn => by
    simp only [List.cons_append, okPls3, Bool.and_eq_true, List.all_eq_true] at h ⊢
    have hsub : ∀ x ∈ l1 ++ l2, x ∈ l1 ++ b :: l2 := fun x hx => by rcases List.mem_append.1 hx with hx | hx <;> simp [hx]
    refine ⟨⟨fun x hx => h.1.1 x (hsub x hx), ?_⟩, okPls3_sub h.2 (fun x hx => hf x (by simp [hx])) (fun x hx => hn x (by simp [hx]))⟩
    have h1 := h.1.2
    have hc := hf a (by simp)
    unfold okTail3 at h1 ⊢
    match e : a.c, hc with
    | 0, _ => rfl
    | 1, _ =>
      rw [e] at h1
      simp only [List.all_eq_true, Bool.or_eq_true, List.any_eq_true, Bool.and_eq_true] at h1 ⊢
      intro x hx
      rcases h1 x (hsub x hx) with q | q | ⟨r, hr, p, hp, q1, q2⟩
      · exact .inl q
      · exact .inr (.inl q)
      · refine .inr (.inr ⟨r, hr, p, ?_, q1, q2⟩)
        rcases List.mem_append.1 hp with hp | hp
        · exact List.mem_append_left _ hp
        · rcases List.mem_cons.1 hp with rfl | hp
          · exact absurd (memN_iff.1 q2) (hn a (by simp))
          · exact List.mem_append_right _ hp
theorem okPls3_pair : ∀ {l1 : List Pl3} {b : Pl3} {l2 : List Pl3}, okPls3 (l1 ++ b :: l2) = true → ∀ a ∈ l1, okPair3 a b = true
  | [], _, _, _, a, ha => by cases ha
  | a :: l1, b, l2, h, x, hx => by
    simp only [List.cons_append, okPls3, Bool.and_eq_true, List.all_eq_true] at h
    rcases List.mem_cons.1 hx with rfl | hx
    · exact h.1.1 b (by simp)
    · exact okPls3_pair h.2 x hx
theorem okPls3_tail : ∀ {l1 : List Pl3} {b : Pl3} {l2 : List Pl3}, okPls3 (l1 ++ b :: l2) = true → ∀ (x y : List Pl3) (a : Pl3), l1 = x ++ a :: y → okTail3 a (y ++ b :: l2) = true
  | [], _, _, _, x, y, a, e => by simp at e
  | c :: l1, b, l2, h, [], y, a, e => by
    simp only [List.nil_append, List.cons.injEq] at e; obtain ⟨rfl, rfl⟩ := e
    simp only [List.cons_append, okPls3, Bool.and_eq_true] at h
    exact h.1.2
  | c :: l1, b, l2, h, d :: x, y, a, e => by
    simp only [List.cons_append, List.cons.injEq] at e
    simp only [List.cons_append, okPls3, Bool.and_eq_true] at h
    exact okPls3_tail h.2 x y a e.2
theorem JX_cons {C : Cx} {ops : Array Oper} {k : Env → List SP → Prop} {its its' : List It3} (h : ∀ E L, JX C ops k its E L → JX C ops k its' E L) : ∀ {a : It3} {E : Env} {L : List SP}, JX C ops k (a :: its) E L → JX C ops k (a :: its') E L
  | ⟨i, ts, 0⟩, _, _, ⟨o, A, h1, h2, h3, h4⟩ => ⟨o, A, h1, h2, h3, h _ _ h4⟩
  | ⟨i, ts, 1⟩, _, _, ⟨o, A, h1, h2, h3, h4⟩ => ⟨o, A, h1, h2, h3, h _ _ h4⟩
  | ⟨i, ts, _ + 2⟩, _, _, ⟨o, h1, h2, X, A, L', h3, h4, h5⟩ => ⟨o, h1, h2, X, A, L', h3, h4, fun x => h _ _ (h5 x)⟩
theorem pair_key {ops : Array Oper} {a b : It3} (hp : okPair3 (plOf3 ops.toList a) (plOf3 ops.toList b) = true) (hn : a.i ∉ aftOf ops.toList b.i) {oa ob : Oper} (ha : ops[a.i]? = some oa) (hb : ops[b.i]? = some ob) :
    inO oa.dst b.ts = false ∧ inO ob.dst a.ts = false ∧ eqO oa.dst ob.dst = false := by
  have hda : dstOf ops.toList a.i = oa.dst := by simp [dstOf, ha]
  have hdb : dstOf ops.toList b.i = ob.dst := by simp [dstOf, hb]
  simp only [okPair3, plOf3, hda, hdb, Bool.and_eq_true, Bool.or_eq_true, Bool.not_eq_true', memN_iff] at hp
  rcases hp.2 with q | q
  · exact absurd q hn
  · exact ⟨q.1.1, q.1.2, q.2⟩
section
variable {C : Cx} {ops : Array Oper} {k : Env → List SP → Prop} {ia ib : Nat} {ta tb : List Nat} {its : List It3} {E : Env} {L : List SP}
theorem JX_swap00 (hp : ∀ ca cb, okPair3 (plOf3 ops.toList ⟨ia, ta, ca⟩) (plOf3 ops.toList ⟨ib, tb, cb⟩) = true) (hn : ia ∉ aftOf ops.toList ib) (h : JX C ops k (⟨ia, ta, 0⟩ :: ⟨ib, tb, 0⟩ :: its) E L) : JX C ops k (⟨ib, tb, 0⟩ :: ⟨ia, ta, 0⟩ :: its) E L := by
  obtain ⟨oa, A, ha, hla, hsa, ob, B, hb, hlb, hsb, hk⟩ := h
  obtain ⟨p1, p2, p3⟩ := pair_key (a := ⟨ia, ta, 0⟩) (b := ⟨ib, tb, 0⟩) (hp 0 0) hn ha hb
  refine ⟨ob, B, hb, hlb, fun L => (hsb L).same (restr_updO p1), oa, A, ha, hla, fun L => (hsa L).same (restr_updO p2).symm, ?_⟩
  rw [updO_comm p3] at hk
  exact hk
theorem JX_swap01 (hp : ∀ ca cb, okPair3 (plOf3 ops.toList ⟨ia, ta, ca⟩) (plOf3 ops.toList ⟨ib, tb, cb⟩) = true) (hn : ia ∉ aftOf ops.toList ib) (h : JX C ops k (⟨ia, ta, 0⟩ :: ⟨ib, tb, 1⟩ :: its) E L) : JX C ops k (⟨ib, tb, 1⟩ :: ⟨ia, ta, 0⟩ :: its) E L := by
  obtain ⟨oa, A, ha, hla, hsa, ob, B, hb, hlb, hsb, hk⟩ := h
  obtain ⟨p1, p2, p3⟩ := pair_key (a := ⟨ia, ta, 0⟩) (b := ⟨ib, tb, 1⟩) (hp 0 1) hn ha hb
  refine ⟨ob, B, hb, hlb, hsb.same (restr_updO p1), oa, A, ha, hla, fun L => (hsa L).same (restr_updO p2).symm, ?_⟩
  rw [updO_comm p3] at hk
  exact hk
theorem JX_swap02 {c : Nat} (hp : ∀ ca cb, okPair3 (plOf3 ops.toList ⟨ia, ta, ca⟩) (plOf3 ops.toList ⟨ib, tb, cb⟩) = true) (hn : ia ∉ aftOf ops.toList ib) (h : JX C ops k (⟨ia, ta, 0⟩ :: ⟨ib, tb, c + 2⟩ :: its) E L) : JX C ops k (⟨ib, tb, c + 2⟩ :: ⟨ia, ta, 0⟩ :: its) E L := by
  obtain ⟨oa, A, ha, hla, hsa, ob, hb, hlb, X, B, L', hgb, hsb, hk⟩ := h
  obtain ⟨p1, p2, p3⟩ := pair_key (a := ⟨ia, ta, 0⟩) (b := ⟨ib, tb, c + 2⟩) (hp 0 (c + 2)) hn ha hb
  rw [restr_updO p1] at hsb hgb
  refine ⟨ob, hb, hlb, X, B, L', hgb, hsb, fun x => ⟨oa, A, ha, hla, fun L => (hsa L).same (restr_updO p2).symm, ?_⟩⟩
  have := hk x
  rw [updO_comm p3] at this
  exact this
theorem JX_swap10 (hp : ∀ ca cb, okPair3 (plOf3 ops.toList ⟨ia, ta, ca⟩) (plOf3 ops.toList ⟨ib, tb, cb⟩) = true) (hn : ia ∉ aftOf ops.toList ib) (h : JX C ops k (⟨ia, ta, 1⟩ :: ⟨ib, tb, 0⟩ :: its) E L) : JX C ops k (⟨ib, tb, 0⟩ :: ⟨ia, ta, 1⟩ :: its) E L := by
  obtain ⟨oa, A, ha, hla, hsa, ob, B, hb, hlb, hsb, hk⟩ := h
  obtain ⟨p1, p2, p3⟩ := pair_key (a := ⟨ia, ta, 1⟩) (b := ⟨ib, tb, 0⟩) (hp 1 0) hn ha hb
  refine ⟨ob, B, hb, hlb, fun L => (hsb L).same (restr_updO p1), oa, A, ha, hla, hsa.same (restr_updO p2).symm, ?_⟩
  rw [updO_comm p3] at hk
  exact hk
theorem JX_swap11 (hp : ∀ ca cb, okPair3 (plOf3 ops.toList ⟨ia, ta, ca⟩) (plOf3 ops.toList ⟨ib, tb, cb⟩) = true) (hn : ia ∉ aftOf ops.toList ib) (h : JX C ops k (⟨ia, ta, 1⟩ :: ⟨ib, tb, 1⟩ :: its) E L) : JX C ops k (⟨ib, tb, 1⟩ :: ⟨ia, ta, 1⟩ :: its) E L := by
  obtain ⟨oa, A, ha, hla, hsa, ob, B, hb, hlb, hsb, hk⟩ := h
  obtain ⟨p1, p2, p3⟩ := pair_key (a := ⟨ia, ta, 1⟩) (b := ⟨ib, tb, 1⟩) (hp 1 1) hn ha hb
  refine ⟨ob, B, hb, hlb, hsb.same (restr_updO p1), oa, A, ha, hla, hsa.same (restr_updO p2).symm, ?_⟩
  rw [updO_comm p3] at hk
  exact hk
end
theorem JX_swap {C : Cx} {ops : Array Oper} {k : Env → List SP → Prop} {a b : It3} {its : List It3} {E : Env} {L : List SP} (hf : a.c = 0 ∨ (a.c = 1 ∧ b.c ≤ 1)) (hp : okPair3 (plOf3 ops.toList a) (plOf3 ops.toList b) = true) (hn : a.i ∉ aftOf ops.toList b.i)
    (h : JX C ops k (a :: b :: its) E L) : JX C ops k (b :: a :: its) E L := by
  obtain ⟨ia, ta, ca⟩ := a
  obtain ⟨ib, tb, cb⟩ := b
  have hp' : ∀ ca cb, okPair3 (plOf3 ops.toList ⟨ia, ta, ca⟩) (plOf3 ops.toList ⟨ib, tb, cb⟩) = true := fun _ _ => hp
  rcases hf with h0 | ⟨h1, hb1⟩
  · have h0 : ca = 0 := h0
    subst h0
    rcases cb with _ | _ | c
    · exact JX_swap00 hp' hn h
    · exact JX_swap01 hp' hn h
    · exact JX_swap02 hp' hn h
  · have h1 : ca = 1 := h1
    have hb1 : cb ≤ 1 := hb1
    subst h1
    rcases cb with _ | _ | c
    · exact JX_swap10 hp' hn h
    · exact JX_swap11 hp' hn h
    · omega
theorem JX_pull {C : Cx} {ops : Array Oper} {k : Env → List SP → Prop} {b : It3} {l2 : List It3} : ∀ {l1 : List It3} {E : Env} {L : List SP}, (∀ a ∈ l1, a.c = 0 ∨ (a.c = 1 ∧ b.c ≤ 1)) →
    (∀ a ∈ l1, okPair3 (plOf3 ops.toList a) (plOf3 ops.toList b) = true) → (∀ a ∈ l1, a.i ∉ aftOf ops.toList b.i) → JX C ops k (l1 ++ b :: l2) E L → JX C ops k (b :: (l1 ++ l2)) E L := by
  intro l1
  induction l1 with
  | nil => intro E L _ _ _ h; exact h
  | cons a l1 ih =>
    intro E L hf hp hn h
    refine JX_swap (hf a (by simp)) (hp a (by simp)) (hn a (by simp)) ?_
    exact JX_cons (fun E L hk => ih (fun a m => hf a (by simp [m])) (fun a m => hp a (by simp [m])) (fun a m => hn a (by simp [m])) hk) h
theorem wpAny_JX {C : Cx} {ops : Array Oper} {Q : Exit → Act → World → Prop} : ∀ (fuel : Nat) (its : List It3) (listed : Array Bool) (E : Env) (L : List SP), its.length ≤ fuel → listed.size = ops.size →
    (∀ i, i < ops.size → (listed.getD i true = false ↔ ∃ x ∈ its, x.i = i)) → okPls3 (its.map (plOf3 ops.toList)) = true → (∀ x ∈ its, x.i < ops.size ∧ ∀ e ∈ aftOf ops.toList x.i, e < x.i) →
    JX C ops (fun E' L' => K C (Q .normal) E' L') its E L → K C (fun a w => wpAnyIn (Fw C.ro) 0 C.P .any ops Q fuel listed a w) E L := by
  intro fuel
  induction fuel with
  | zero =>
    intro its listed E L hlen hsz hin _ _ hJ
    have : its = [] := List.length_eq_zero_iff.1 (by omega)
    subst this
    intro a w p
    refine ⟨?_, hJ a w p⟩
    rw [List.eq_nil_iff_forall_not_mem]
    intro i hi
    obtain ⟨h1, h2, _⟩ := mem_ready.1 hi
    obtain ⟨x, hx, _⟩ := (hin i h1).1 h2
    cases hx
  | succ fuel ih =>
    intro its listed E L hlen hsz hin hok hlt hJ
    have hdone : Region.ready .any ops listed = [] → its = [] := by
      intro hr
      have hall : ∀ i, i < ops.size → listed.getD i true = true := by
        intro i
        induction i using Nat.strongRecOn with
        | _ i ihi =>
          intro hi
          cases hl : listed.getD i true with
          | true => rfl
          | false =>
            have ho : ops[i]? = some ops[i] := Array.getElem?_eq_getElem hi
            obtain ⟨x, hx, hxi⟩ := (hin i hi).1 hl
            have h1 := (hlt x hx).2
            rw [hxi] at h1
            have hm : i ∈ Region.ready .any ops listed := mem_ready.2 ⟨hi, hl, _, ho, fun e he => by
              have he' : e < i := h1 e (by simpa [aftOf, hi] using he)
              rw [getD_any (by omega) false true]
              exact ihi e he' (by omega)⟩
            rw [hr] at hm; cases hm
      match its with
      | [] => rfl
      | x :: _ =>
        have h1 := (hlt x (by simp)).1
        have := (hin x.i h1).2 ⟨x, by simp, rfl⟩
        rw [hall x.i h1] at this; cases this
    intro a w p
    refine ⟨fun hr => ?_, fun i hi => ?_⟩
    · have := hdone hr
      subst this
      exact hJ a w p
    · obtain ⟨hlti, hnl, o, ho, haft⟩ := mem_ready.1 hi
      obtain ⟨b, hb, hbi⟩ := (hin i hlti).1 hnl
      obtain ⟨l1, l2, rfl⟩ := List.append_of_mem hb
      have hoi : ops.toList[b.i]? = some o := by rw [hbi]; simpa using ho
      have haft' : aftOf ops.toList b.i = aftN o := by simp only [aftOf, hoi]
      have hleft : ∀ x ∈ l1 ++ b :: l2, x.i ∉ aftOf ops.toList b.i := fun x hx hm => by
        rw [haft'] at hm
        have h1 := haft _ hm
        have h2 := (hlt x hx).1
        have h3 := (hin x.i h2).2 ⟨x, hx, rfl⟩
        rw [getD_any (by omega) true false, h1] at h3; cases h3
      rw [List.map_append, List.map_cons] at hok
      have hpair : ∀ a ∈ l1, okPair3 (plOf3 ops.toList a) (plOf3 ops.toList b) = true := fun a ha => okPls3_pair hok _ (List.mem_map_of_mem ha)
      have hfree : ∀ a ∈ l1, a.c = 0 ∨ (a.c = 1 ∧ b.c ≤ 1) := fun x hx => by
        obtain ⟨y, z, rfl⟩ := List.append_of_mem hx
        have ht := okPls3_tail hok (y.map (plOf3 ops.toList)) (z.map (plOf3 ops.toList)) (plOf3 ops.toList x) (by simp)
        unfold okTail3 at ht
        have hxc : (plOf3 ops.toList x).c = x.c := rfl
        rw [hxc] at ht
        match e : x.c with
        | 0 => exact .inl rfl
        | 1 =>
          right
          rw [e] at ht
          simp only [List.all_eq_true, Bool.or_eq_true, List.any_eq_true, Bool.and_eq_true] at ht
          refine ⟨rfl, ?_⟩
          rcases ht (plOf3 ops.toList b) (by simp) with q | q | ⟨r, hr, p, hp, hq, _⟩
          · exact Nat.le_of_ble_eq_true q
          · exact absurd (memN_iff.1 q) (hleft x (by simp))
          · exfalso
            have hrp := Nat.eq_of_beq_eq_true hq
            have hp' : ∃ u ∈ z ++ b :: l2, plOf3 ops.toList u = p := by
              rcases List.mem_append.1 hp with hp | hp
              · obtain ⟨u, hu, e⟩ := List.mem_map.1 hp
                exact ⟨u, by simp [hu], e⟩
              · rcases List.mem_cons.1 hp with hp | hp
                · exact ⟨b, by simp, hp.symm⟩
                · obtain ⟨u, hu, e⟩ := List.mem_map.1 hp
                  exact ⟨u, by simp [hu], e⟩
            obtain ⟨u, hu, e⟩ := hp'
            have : u.i ∉ aftOf ops.toList b.i := hleft u (by
              rcases List.mem_append.1 hu with hu | hu
              · simp [hu]
              · simp only [List.mem_append]; exact .inr hu)
            rw [← e] at hrp
            have hr' : r ∈ aftOf ops.toList b.i := hr
            rw [hrp] at hr'
            exact absurd hr' this
        | c + 2 =>
          exfalso
          rw [e] at ht
          simp only [Bool.or_eq_true, List.all_eq_true, List.any_eq_true] at ht
          rcases ht (plOf3 ops.toList b) (by simp) with q | ⟨r, hr, p, hp, hq⟩
          · exact absurd (memN_iff.1 q) (hleft x (by simp))
          · have hrp := Nat.eq_of_beq_eq_true hq
            have hp' : ∃ u ∈ z ++ b :: l2, plOf3 ops.toList u = p := by
              rcases List.mem_append.1 hp with hp | hp
              · obtain ⟨u, hu, e⟩ := List.mem_map.1 hp
                exact ⟨u, by simp [hu], e⟩
              · rcases List.mem_cons.1 hp with hp | hp
                · exact ⟨b, by simp, hp.symm⟩
                · obtain ⟨u, hu, e⟩ := List.mem_map.1 hp
                  exact ⟨u, by simp [hu], e⟩
            obtain ⟨u, hu, e⟩ := hp'
            have : u.i ∉ aftOf ops.toList b.i := hleft u (by
              rcases List.mem_append.1 hu with hu | hu
              · simp [hu]
              · simp only [List.mem_append]; exact .inr hu)
            rw [← e] at hrp
            have hr' : r ∈ aftOf ops.toList b.i := hr
            rw [hrp] at hr'
            exact absurd hr' this
      have hJ' := JX_pull hfree hpair (fun a ha => hleft a (by simp [ha])) hJ
      have hsub : ∀ x ∈ l1 ++ l2, x ∈ l1 ++ b :: l2 := fun x hx => by
        rcases List.mem_append.1 hx with hx | hx <;> simp [hx]
      have hpairs : ∀ x ∈ l1 ++ l2, x.i ≠ b.i := fun x hx => by
        rcases List.mem_append.1 hx with hx | hx
        · have := hpair x hx
          simp only [okPair3, plOf3, Bool.and_eq_true, Bool.not_eq_true'] at this
          intro e; rw [e] at this; simp at this
        · have h2 : ∀ {l1 : List Pl3} {b : Pl3} {l2 : List Pl3}, okPls3 (l1 ++ b :: l2) = true → okPls3 (b :: l2) = true := by
            intro l1
            induction l1 with
            | nil => intro b l2 h; exact h
            | cons c l1 ih => intro b l2 h; simp only [List.cons_append, okPls3, Bool.and_eq_true] at h; exact ih h.2
          have := h2 hok
          simp only [okPls3, Bool.and_eq_true, List.all_eq_true] at this
          have := this.1.1 _ (List.mem_map_of_mem hx)
          simp only [okPair3, plOf3, Bool.and_eq_true, Bool.not_eq_true'] at this
          intro e; rw [e] at this; simp at this
      have rest : ∀ E' L', JX C ops (fun E' L' => K C (Q .normal) E' L') (l1 ++ l2) E' L' → K C (fun a w => wpAnyIn (Fw C.ro) 0 C.P .any ops Q fuel (listed.setIfInBounds i true) a w) E' L' := by
        intro E' L' hk
        refine ih (l1 ++ l2) _ E' L' (by simp only [List.length_append, List.length_cons] at hlen ⊢; omega) (by simpa using hsz) (fun j hj => ?_) (by
          rw [List.map_append]
          exact okPls3_sub hok (fun x hx => (List.mem_map.1 hx).elim fun y hy => hy.2 ▸ (by rcases hfree y hy.1 with q | ⟨q, _⟩ <;> (show y.c ≤ 1) <;> omega)) (fun x hx => (List.mem_map.1 hx).elim fun y hy => hy.2 ▸ hleft y (by simp [hy.1]))) (fun x hx => hlt x (hsub x hx)) hk
        by_cases hji : i = j
        · subst hji
          rw [getD_set_same (by omega)]
          constructor
          · intro h; cases h
          · rintro ⟨x, hx, e⟩
            exact absurd (e.trans hbi.symm) (hpairs x hx)
        · rw [getD_set_ne hji, hin j hj]
          constructor
          · rintro ⟨x, hx, e⟩
            refine ⟨x, ?_, e⟩
            rcases List.mem_append.1 hx with hx | hx
            · simp [hx]
            · rcases List.mem_cons.1 hx with rfl | hx
              · exact absurd (hbi.symm.trans e) hji
              · simp [hx]
          · rintro ⟨x, hx, e⟩
            exact ⟨x, hsub x hx, e⟩
      obtain ⟨bi, tb, cb⟩ := b
      simp only at hbi hoi
      subst hbi
      have ho' : ops[bi]? = some o := ho
      match cb, hJ' with
      | 0, hJ' =>
        obtain ⟨o', A, ho2, hl, hs, hk⟩ := hJ'
        rw [ho'] at ho2; cases ho2
        exact (hs L).op ho' hl (rest _ _ hk) a w p
      | 1, hJ' =>
        obtain ⟨o', A, ho2, hl, hs, hk⟩ := hJ'
        rw [ho'] at ho2; cases ho2
        exact hs.op ho' hl (rest _ _ hk) a w p
      | c + 2, hJ' =>
        obtain ⟨o', ho2, hl, X, A, L', hg, hs, hk⟩ := hJ'
        rw [ho'] at ho2; cases ho2
        obtain ⟨n, ds, h, m, l, sp, st, fr⟩ := p
        have hwt : Region.wanted o (yielded ops a.tmps) = true := hg.run (fr.sub restr_sub)
        unfold wpOpIn
        simp only [ho']
        rw [if_pos hwt]
        exact hs a w h m n l sp st (fr.sub restr_sub) _ Q fun x v w' h' m' l' sp' st' hv =>
          rest _ _ (hk x) _ _ ⟨by rw [put_size]; exact n, by rw [put_defers]; exact ds, h', m', HL.trans l l', sp', st', (fr.mono l'.1).putO (by rw [n]; exact hl) hv⟩
theorem J_drawX {C : Cx} {id : Nat} {ops : Array Oper} (its : List It3) {Q : Exit → Act → World → Prop} {E : Env} {L : List SP} (hmix : C.P.follows .mixedOrders = true) (hok : okM3 ops.toList its = true)
    (hJ : JX C ops (fun E' L' => K C (Q .normal) E' L') its E L) : J C (.region id ops true) Q E L := fun a w p => by
  refine wpIn_region_draw (fun t => ?_)
  simp only [Region.schedule, hmix, Bool.true_or, if_true]
  refine wpAnyIn_sound ops.size t _ a _ ?_
  simp only [okM3, Bool.and_eq_true, List.all_eq_true, List.any_eq_true] at hok
  obtain ⟨⟨⟨h1, h2⟩, h3⟩, h4⟩ := hok
  have h5 : ∀ x ∈ its, x.i < ops.size := fun x hx => by have := h4 x hx; simpa using this
  have hnd : (its.map (·.i)).Nodup := by
    have : ∀ {l : List It3}, okPls3 (l.map (plOf3 ops.toList)) = true → (l.map (·.i)).Nodup := by
      intro l
      induction l with
      | nil => intro _; simp
      | cons x l ih =>
        intro h
        simp only [List.map_cons, okPls3, Bool.and_eq_true, List.all_eq_true] at h
        simp only [List.map_cons, List.nodup_cons]
        refine ⟨fun hm => ?_, ih h.2⟩
        obtain ⟨y, hy, e⟩ := List.mem_map.1 hm
        have := h.1.1 _ (List.mem_map_of_mem hy)
        simp only [okPair3, plOf3, Bool.and_eq_true, Bool.not_eq_true'] at this
        rw [e] at this; simp at this
    exact this h1
  have hlen : its.length ≤ ops.size := by
    have := nodup_le hnd (n := ops.size) (fun i hi => by
      obtain ⟨x, hx, rfl⟩ := List.mem_map.1 hi
      exact h5 x hx)
    simpa using this
  refine wpAny_JX ops.size its _ E L hlen (by simp) (fun i hi => ?_) h1 (fun x hx => ⟨h5 x hx, fun e he => ?_⟩) hJ a _ ?_
  · constructor
    · intro _
      obtain ⟨x, hx, e⟩ := h3 i (by simpa using hi)
      exact ⟨x, hx, (Nat.eq_of_beq_eq_true e).symm⟩
    · intro _; simp [Array.getD_eq_getD_getElem?, hi]
  · have := h2 _ (List.mem_map_of_mem hx) e he
    simpa [plOf3] using this
  · obtain ⟨hsz, hds, h, m, hl, sp, st, fr⟩ := p
    exact ⟨hsz, hds, h, m, hl.trans (HL.same (Same.drew _)), ⟨(by first | exact Sep.inv (by assumption) | exact Inv.mono (PH.le_join_left _ _) (Sep.inv (by assumption))), sp.hm, sp.hr, sp.mr, sp.hw, sp.mw, sp.rw⟩, st, fr⟩
open Go
theorem Sr {A : Ty} : Sub A A := Sub.rfl
theorem Sel.h {A : SP} {L : List SP} : Sel (A :: L) [A] L := Sel.take (Sel.none _)
theorem NF : (∀ (p : Prop) [Decidable p], (decide p = true) = p) ∧ (∀ (p : Prop) [Decidable p], (decide p = false) = ¬ p) ∧ (∀ a b : Bool, ((a && b) = true) = (a = true ∧ b = true)) ∧ (∀ a b : Bool, ((a || b) = true) = (a = true ∨ b = true)) ∧ (∀ a b : Bool, ((a && b) = false) = (a = false ∨ b = false)) ∧ (∀ a b : Bool, ((a || b) = false) = (a = false ∧ b = false)) ∧ (∀ b : Bool, ((!b) = true) = (b = false)) ∧ (∀ b : Bool, ((!b) = false) = (b = true)) ∧ (∀ a b : Int, (¬ a < b) = (b ≤ a)) ∧ (∀ a b : Int, (¬ a ≤ b) = (b < a)) ∧ ((!true) = false) ∧ ((!false) = true) :=
  ⟨fun p _ => by simp, fun p _ => by simp, fun a b => by simp, fun a b => by simp, fun a b => propext Bool.and_eq_false_iff, fun a b => by simp, fun b => by simp, fun b => by simp, fun a b => by simp, fun a b => by simp, rfl, rfl⟩
/-- What is owned is found. -/
theorem zS {L S R : List SP} (h : Sel L S R := by repeat first | exact .h | apply Sel.skip) : Sel L S R := h
theorem zO {p : Prop} (h : p := by first | omega | (dsimp only; omega) | (simp_all; omega)) : p := h
theorem zG {p : Prop} (h : p := by omega) : p := h
theorem z6 {x : Int} (h : in64 x := by unfold in64; omega) : in64 x := h
section
variable {C : Cx} {ops : Array Oper} {rest : List Oper} {Q : Exit → Act → World → Prop} {E : Env} {L : List SP} {d ty T : Nat} {pos : String} {af : Array Edge} {x : Operand} {op : Op}
theorem Js {A : Ty} (hN : Nat.blt d C.N = true) (hs : Step1 C ⟨some d, op, ty, pos, af, none⟩ E L A) (hk : JL C ops rest Q (upd E d A) L) : JL C ops (⟨some d, op, ty, pos, af, none⟩ :: rest) Q E L := JL_step rfl rfl hN hs hk
theorem Jm (hN : Nat.blt d C.N = true) (hk : JL C ops rest Q (upd E d (opTy E x)) L) : JL C ops (⟨some d, .move x, ty, pos, af, none⟩ :: rest) Q E L := JL_step rfl rfl hN (step_move Sub.rfl) hk
theorem Ja (hN : Nat.blt d C.N = true) (hk : JL C ops rest Q (upd E d (opTy E x)) L) : JL C ops (⟨some d, .assign x, ty, pos, af, none⟩ :: rest) Q E L := JL_step rfl rfl hN (step_assign Sub.rfl) hk
theorem Jl {α : Type} {R : Rp α} {y : α} (hN : Nat.blt d C.N = true) (hR : TyOf C.P T R) (hx : Sub (opTy E x) (tPtr R y)) (hk : JL C ops rest Q (upd E d (R.ty y)) L) : JL C ops (⟨some d, .load T x, ty, pos, af, none⟩ :: rest) Q E L := JL_step rfl rfl hN (step_load_ptr hR hx) hk
theorem Jr {id : Nat} {y : Code} (h : JL C ops ops.toList (Exit.then (fun a w => y.wpIn (Fw C.ro) 0 C.P Q a w) Q) E L) : J C (.seq (.region id ops false) y) Q E L := J_seq (J_region h)
theorem Jg {A : Ty} {j t : Nat} {b v : Bool} {opg : Op} {tyg : Nat} {posg : String} {afg : Array Edge} {gg : Option (Nat × Bool)} (hj : ops[j]? = some ⟨some t, opg, tyg, posg, afg, gg⟩) (hc : Sub (E t) (tV (.bool v))) (hN : Nat.blt d C.N = true)
    (hs : beqB v b = true → Step1 C ⟨some d, op, ty, pos, af, some (j, b)⟩ E L A) (hk : JL C ops rest Q (upd E d (tW (beqB v b) A)) L) : JL C ops (⟨some d, op, ty, pos, af, some (j, b)⟩ :: rest) Q E L := JL_stepG rfl hj rfl (Gd.plain hc) rfl hN hs hk
theorem Jh {A : Ty} {j t : Nat} {b v w : Bool} {opg : Op} {tyg : Nat} {posg : String} {afg : Array Edge} {gg : Option (Nat × Bool)} (hj : ops[j]? = some ⟨some t, opg, tyg, posg, afg, gg⟩) (hc : Sub (E t) (tW w (tV (.bool v)))) (hN : Nat.blt d C.N = true)
    (hs : (w && beqB v b) = true → Step1 C ⟨some d, op, ty, pos, af, some (j, b)⟩ E L A) (hk : JL C ops rest Q (upd E d (tW (w && beqB v b) A)) L) : JL C ops (⟨some d, op, ty, pos, af, some (j, b)⟩ :: rest) Q E L := JL_stepG rfl hj rfl (Gd.nest hc) rfl hN hs hk
theorem Jx {X : Type} {A : X → Ty} {L' : X → List SP} (hN : Nat.blt d C.N = true) (hs : Step C ⟨some d, op, ty, pos, af, none⟩ E L A L') (hk : ∀ x, JL C ops rest Q (upd E d (A x)) (L' x)) : JL C ops (⟨some d, op, ty, pos, af, none⟩ :: rest) Q E L := JL_stepX rfl rfl hN hs hk
theorem Ju {X : Type} {A : X → Ty} {L' : X → List SP} (hs : Step C ⟨none, op, ty, pos, af, none⟩ E L A L') (hk : ∀ x, JL C ops rest Q E (L' x)) : JL C ops (⟨none, op, ty, pos, af, none⟩ :: rest) Q E L := JL_stepU rfl rfl hs hk
theorem SubE.u {E E' : Env} {t : Nat} (h : SubE E E') : SubE E (Lg.upd E' t (E t)) := SubE.upd Sub.rfl h
theorem zU {E E' : Env} (h : SubE E E' := by (repeat refine SubE.upd Sub.rfl ?_); exact SubE.any) : SubE E E' := h
theorem Jk {A : Ty} {j t : Nat} {b v : Bool} {opg : Op} {tyg : Nat} {posg : String} {afg : Array Edge} {gg : Option (Nat × Bool)} (hj : ops[j]? = some ⟨some t, opg, tyg, posg, afg, gg⟩) (hc : Sub (E t) (tV (.bool v))) (hN : Nat.blt d C.N = true)
    (hs : Step1 C ⟨some d, op, ty, pos, af, some (j, b)⟩ E L A) (hk : JL C ops rest Q (upd E d (tW (beqB v b) A)) L) : JL C ops (⟨some d, op, ty, pos, af, some (j, b)⟩ :: rest) Q E L := Jg hj hc hN (fun _ => hs) hk
theorem Ji {A : Ty} {j t : Nat} {b v w : Bool} {opg : Op} {tyg : Nat} {posg : String} {afg : Array Edge} {gg : Option (Nat × Bool)} (hj : ops[j]? = some ⟨some t, opg, tyg, posg, afg, gg⟩) (hc : Sub (E t) (tW w (tV (.bool v)))) (hN : Nat.blt d C.N = true)
    (hs : Step1 C ⟨some d, op, ty, pos, af, some (j, b)⟩ E L A) (hk : JL C ops rest Q (upd E d (tW (w && beqB v b) A)) L) : JL C ops (⟨some d, op, ty, pos, af, some (j, b)⟩ :: rest) Q E L := Jh hj hc hN (fun _ => hs) hk
end
/-- What is owned is what is asked for, in another order. -/
theorem zL {L M : List SP} (h : LSub L M := by repeat first | exact LSub.nil | refine LSub.cons (by repeat first | exact .h | apply Sel.skip) SPs.rfl ?_) : LSub L M := h
theorem LSub.c {A B : SP} {L R M : List SP} (s : Sel L [A] R) (h : SPs A B) (k : LSub R M) : LSub L (B :: M) := LSub.cons s h k
theorem LSub.r {A : SP} {L R M : List SP} (s : Sel L [A] R) (k : LSub R M) : LSub L (A :: M) := LSub.cons s SPs.rfl k
section
variable {C : Cx} {ops : Array Oper} {k : Env → List SP → Prop} {its : List It} {E : Env} {L : List SP} {i d ty : Nat} {ts : List Nat} {op : Op} {x : Operand} {pos : String} {af : Array Edge}
theorem Mf {A : Ty} (ho : ops.toList[i]? = some ⟨some d, op, ty, pos, af, none⟩) (hN : Nat.blt d C.N = true) (hs : ∀ {L}, Step1 C ⟨some d, op, ty, pos, af, none⟩ (restr ts E) L A) (hk : JM C ops k its (upd E d A) L) : JM C ops k (⟨i, ts, true⟩ :: its) E L := JM_step ho rfl rfl hN (fun _ => hs) hk
theorem Mv (ho : ops.toList[i]? = some ⟨some d, .move x, ty, pos, af, none⟩) (hN : Nat.blt d C.N = true) (hk : JM C ops k its (upd E d (opTy (restr ts E) x)) L) : JM C ops k (⟨i, ts, true⟩ :: its) E L := JM_step ho rfl rfl hN (fun _ => step_move Sub.rfl) hk
theorem Mg {A : Ty} {j t : Nat} {b v : Bool} {opg : Op} {tyg : Nat} {posg : String} {afg : Array Edge} {gg : Option (Nat × Bool)} (ho : ops.toList[i]? = some ⟨some d, op, ty, pos, af, some (j, b)⟩) (hj : ops.toList[j]? = some ⟨some t, opg, tyg, posg, afg, gg⟩) (hc : Sub (restr ts E t) (tV (.bool v))) (hN : Nat.blt d C.N = true)
    (hs : beqB v b = true → ∀ {L}, Step1 C ⟨some d, op, ty, pos, af, some (j, b)⟩ (restr ts E) L A) (hk : JM C ops k its (upd E d (tW (beqB v b) A)) L) : JM C ops k (⟨i, ts, true⟩ :: its) E L := JM_stepG ho rfl hj rfl (Gd.plain hc) rfl hN (fun h _ => hs h) hk
theorem Mk {A : Ty} {j t : Nat} {b v : Bool} {opg : Op} {tyg : Nat} {posg : String} {afg : Array Edge} {gg : Option (Nat × Bool)} (ho : ops.toList[i]? = some ⟨some d, op, ty, pos, af, some (j, b)⟩) (hj : ops.toList[j]? = some ⟨some t, opg, tyg, posg, afg, gg⟩) (hc : Sub (restr ts E t) (tV (.bool v))) (hN : Nat.blt d C.N = true)
    (hs : ∀ {L}, Step1 C ⟨some d, op, ty, pos, af, some (j, b)⟩ (restr ts E) L A) (hk : JM C ops k its (upd E d (tW (beqB v b) A)) L) : JM C ops k (⟨i, ts, true⟩ :: its) E L := Mg ho hj hc hN (fun _ => hs) hk
end
open Go
inductive GPl (A T : Type) where
  | mk (Kind Table : Int) (Kids : List (GPl A T)) (Tests : List T) (Cols : List Int) (Col Agg : Int) (Attrs : List A)
namespace GPl
variable {A T : Type}
def Kind : GPl A T → Int | mk k _ _ _ _ _ _ _ => k
def Table : GPl A T → Int | mk _ t _ _ _ _ _ _ => t
def Kids : GPl A T → List (GPl A T) | mk _ _ k _ _ _ _ _ => k
def Tests : GPl A T → List T | mk _ _ _ t _ _ _ _ => t
def Cols : GPl A T → List Int | mk _ _ _ _ c _ _ _ => c
def Col : GPl A T → Int | mk _ _ _ _ _ c _ _ => c
def Agg : GPl A T → Int | mk _ _ _ _ _ _ a _ => a
def Attrs : GPl A T → List A | mk _ _ _ _ _ _ _ a => a
def zero : GPl A T := mk 0 0 [] [] [] 0 0 []
instance : Inhabited (GPl A T) := ⟨zero⟩
end GPl
/-- Nothing is represented. -/
def rBot (α : Type) (k : Nat) : Rp α where
  k := k
  agg := true
  rel := fun _ _ _ => False
  ty := fun _ => ⟨fun _ _ => False, fun _ e => e⟩
  len := fun h => h.elim
  one := fun h => h.elim
  mono := fun _ h => h
  scalar := fun e => by cases e
  iff := ⟨fun h => h.elim, fun ⟨_, h, _⟩ => h⟩
/-- The numbers of the types of a plan's fields. -/
structure PlT where
  int : Nat
  kids : Nat
  tests : Nat
  ints : Nat
  attrs : Nat
section
variable {A T : Type} (c : PlT) (RA : Rp A) (RT : Rp T)
def fsPl (R : Rp (GPl A T)) : List (SF (GPl A T)) := [⟨Int, c.int, rInt, GPl.Kind⟩, ⟨Int, c.int, rInt, GPl.Table⟩, ⟨List (GPl A T), c.kids, rSl R, GPl.Kids⟩, ⟨List T, c.tests, rSl RT, GPl.Tests⟩, ⟨List Int, c.ints, rSl rInt, GPl.Cols⟩, ⟨Int, c.int, rInt, GPl.Col⟩, ⟨Int, c.int, rInt, GPl.Agg⟩, ⟨List A, c.attrs, rSl RA, GPl.Attrs⟩]
def rPl : Nat → Rp (GPl A T)
  | 0 => rBot _ 8
  | n + 1 => rStruct (fsPl c RA RT (rPl n))
theorem rPl_k : ∀ n, (rPl c RA RT n).k = 8
  | 0 => rfl
  | _ + 1 => rfl
theorem rPl_agg : ∀ n, (rPl c RA RT n).agg = true
  | 0 => rfl
  | _ + 1 => rfl
theorem rPl_ty {P : Program} {t : Nat} (ha : ∀ w, (isAgg t).run P w = .ok true w) (hs : ∀ w, (Go.sizeOf t).run P w = .ok 8 w) (n : Nat) : TyOf P t (rPl c RA RT n) :=
  ⟨fun w => by rw [rPl_agg]; exact ha w, fun w => by rw [rPl_k]; exact hs w⟩
theorem tSl_up {α : Type} {R R' : Rp α} (hk : R.k = R'.k) (hr : ∀ {h x cs}, R.rel h x cs → R'.rel h x cs) {h : PH} {xs : List α} {v : Value} (hv : (tSl R xs).p h v) : (tSl R' xs).p h v := by
  obtain ⟨ao, cap, e, H⟩ := hv
  refine ⟨ao, cap, e, fun hn => ?_⟩
  obtain ⟨b, off, ea, H2⟩ := H hn
  refine ⟨b, off, ea, fun i x hx => ?_⟩
  obtain ⟨cs, H1, r⟩ := H2 i x hx
  exact ⟨cs, by rw [← hk]; exact H1, hr r⟩
theorem rPl_up : ∀ (n : Nat) {h : PH} {x : GPl A T} {cs : List Value}, (rPl c RA RT n).rel h x cs → (rPl c RA RT (n + 1)).rel h x cs
  | 0, _, _, _, r => r.elim
  | n + 1, h, x, cs, r => by
    obtain ⟨c0, _, rfl, r0, c1, _, rfl, r1, c2, _, rfl, r2, rest⟩ := (show SF.rel h x (fsPl c RA RT (rPl c RA RT n)) cs from r)
    refine ⟨c0, _, rfl, r0, c1, _, rfl, r1, c2, _, rfl, ?_, rest⟩
    obtain ⟨v, e, hv⟩ := r2
    exact ⟨v, e, tSl_up ((rPl_k c RA RT n).trans (rPl_k c RA RT (n + 1)).symm) (fun q => rPl_up n q) hv⟩
theorem rPl_le {m n : Nat} (hmn : m ≤ n) {h : PH} {x : GPl A T} {cs : List Value} (r : (rPl c RA RT m).rel h x cs) : (rPl c RA RT n).rel h x cs := by
  induction n with
  | zero => obtain rfl : m = 0 := (by omega); exact r
  | succ n ih =>
    rcases Nat.lt_or_ge m (n + 1) with h1 | h1
    · exact rPl_up c RA RT n (ih (by omega))
    · obtain rfl : m = n + 1 := (by omega); exact r
/-- A plan of some depth has kids of a smaller one. -/
theorem rPl_pos {n : Nat} {h : PH} {x : GPl A T} {cs : List Value} (r : (rPl c RA RT n).rel h x cs) : ∃ m, n = m + 1 := by
  cases n with
  | zero => exact r.elim
  | succ m => exact ⟨m, rfl⟩
end
open Go
section
variable {H : Type} {enc : TypeId × Value → H} {P : Program} {W : World}
/-- A struct is read with a fuel. -/
theorem st_rd {α : Type} {t : Nat} {fs : List (SF α)} (S : StructOf P t fs) {fuel : Nat} {cs : List Value} {x : DataW H × List MemPlace} (h : DataW.trod enc P W 0 (fun _ => true) true fuel t cs = some x) :
    ∃ n, fuel = n + 1 ∧ cs.length = SF.width fs ∧ ∀ (i : Nat) (f : SF α), fs[i]? = some f → ∃ z, DataW.trod enc P W 0 (fun _ => true) true n f.T ((cs.drop (SF.off fs i)).take f.R.k) = some z := by
  obtain ⟨fls, hu, hl⟩ := S.lays
  obtain ⟨xs, n, hn, _, hlen, hxs, hf⟩ := DataW.trod_struct hu h
  refine ⟨n, hn, hlen.trans (S.ty.cells W), fun i f hi => ?_⟩
  obtain ⟨fl, h1, h2, h3, h4, _⟩ := hl.get hi
  have h1' : fls[i]? = some fl := by simpa using h1
  have h5 := hf i fl h1'
  have hlt : i < xs.length := by rw [hxs]; exact (Array.getElem?_eq_some_iff.1 h1').1
  rw [List.getElem?_eq_getElem hlt, h2, h3, h4.cells W, Nat.zero_add] at h5
  exact ⟨_, h5⟩
end
open Go Go.Proofs Go.Proofs.Tryz
theorem ty3 : TyOf Tryz.prog 3 rInt := ⟨fun w => Tryz.isAgg3 w, fun w => Tryz.sizeOf3 w⟩
theorem zr3 : ∀ h, (rInt.ty 0).p h (Value.int .i64 0) := fun _ => rfl
theorem el3 : ElT Tryz.prog 3 rInt 8 0 := ⟨ty3, by decide, Tryz.t3, (Value.int .i64 0), by kernel_rfl, by kernel_rfl, by kernel_rfl, by kernel_rfl, zr3⟩
theorem ty5 : TyOf Tryz.prog 5 rU8 := ⟨fun w => Tryz.isAgg5 w, fun w => Tryz.sizeOf5 w⟩
theorem zr5 : ∀ h, (rU8.ty 0).p h (Value.int .u8 0) := fun _ => rfl
theorem el5 : ElT Tryz.prog 5 rU8 1 0 := ⟨ty5, by decide, Tryz.t5, (Value.int .u8 0), by kernel_rfl, by kernel_rfl, by kernel_rfl, by kernel_rfl, zr5⟩
theorem ty9 : TyOf Tryz.prog 9 rStr := ⟨fun w => Tryz.isAgg9 w, fun w => Tryz.sizeOf9 w⟩
theorem zr9 : ∀ h, (rStr.ty ⟨#[]⟩).p h (Value.string ⟨#[]⟩) := fun _ => rfl
theorem el9 : ElT Tryz.prog 9 rStr 16 ⟨#[]⟩ := ⟨ty9, by decide, Tryz.t9, (Value.string ⟨#[]⟩), by kernel_rfl, by kernel_rfl, by kernel_rfl, by kernel_rfl, zr9⟩
structure GValue where
  Kind : Int
  N : Int
  Text : ByteArray
def zValue : GValue := { Kind := 0, N := 0, Text := ⟨#[]⟩ }
instance : Inhabited GValue := ⟨zValue⟩
def fsValue : List (SF GValue) := [⟨Int, 3, rInt, GValue.Kind⟩, ⟨Int, 3, rInt, GValue.N⟩, ⟨ByteArray, 9, rStr, GValue.Text⟩]
abbrev rValue : Rp GValue := rStruct fsValue
theorem ty62 : TyOf Tryz.prog 62 rValue := ⟨fun w => Tryz.isAgg62 w, fun w => Tryz.sizeOf62 w⟩
theorem so62 : StructOf Tryz.prog 62 fsValue := ⟨⟨_, Tryz.underlying62, ⟨rfl, rfl, ty3, by decide, ⟨rfl, rfl, ty3, by decide, ⟨rfl, rfl, ty9, by decide, trivial⟩⟩⟩⟩, ty62⟩
theorem zr62 : ∀ h, (rValue.ty zValue).p h (.agg #[Value.int .i64 0, Value.int .i64 0, Value.string ⟨#[]⟩]) := fun _ => ⟨_, ⟨[Value.int .i64 0], _, rfl, rfl, ⟨[Value.int .i64 0], _, rfl, rfl, ⟨[Value.string ⟨#[]⟩], _, rfl, rfl, rfl⟩⟩⟩, rfl⟩
theorem el62 : ElT Tryz.prog 62 rValue 32 zValue := ⟨ty62, by decide, Tryz.t62, (.agg #[Value.int .i64 0, Value.int .i64 0, Value.string ⟨#[]⟩]), by kernel_rfl, by kernel_rfl, by kernel_rfl, by kernel_rfl, zr62⟩
theorem ty45 : TyOf Tryz.prog 45 (rSl rValue) := ⟨fun w => Tryz.isAgg45 w, fun w => Tryz.sizeOf45 w⟩
theorem zr45 : ∀ h, ((rSl rValue).ty []).p h (Value.slice none 0 0) := fun _ => ⟨none, ⟨0, Nat.le_refl _⟩, rfl, fun q => absurd rfl q⟩
theorem el45 : ElT Tryz.prog 45 (rSl rValue) 24 [] := ⟨ty45, by decide, Tryz.t45, (Value.slice none 0 0), by kernel_rfl, by kernel_rfl, by kernel_rfl, by kernel_rfl, zr45⟩
theorem ty38 : TyOf Tryz.prog 38 (rSl (rSl rValue)) := ⟨fun w => Tryz.isAgg38 w, fun w => Tryz.sizeOf38 w⟩
theorem ty38V : TyOf Tryz.prog 38 rV := ⟨fun w => Tryz.isAgg38 w, fun w => Tryz.sizeOf38 w⟩
theorem zr38 : ∀ h, ((rSl (rSl rValue)).ty []).p h (Value.slice none 0 0) := fun _ => ⟨none, ⟨0, Nat.le_refl _⟩, rfl, fun q => absurd rfl q⟩
theorem el38 : ElT Tryz.prog 38 (rSl (rSl rValue)) 24 [] := ⟨ty38, by decide, Tryz.t38, (Value.slice none 0 0), by kernel_rfl, by kernel_rfl, by kernel_rfl, by kernel_rfl, zr38⟩
theorem ty35 : TyOf Tryz.prog 35 (rSl (rSl (rSl rValue))) := ⟨fun w => Tryz.isAgg35 w, fun w => Tryz.sizeOf35 w⟩
theorem ty27 : TyOf Tryz.prog 27 (rSl rInt) := ⟨fun w => Tryz.isAgg27 w, fun w => Tryz.sizeOf27 w⟩
structure GAtom where
  Table : Int
  Cols : List Int
  Terms : List Int
  Key : Int
def zAtom : GAtom := { Table := 0, Cols := [], Terms := [], Key := 0 }
instance : Inhabited GAtom := ⟨zAtom⟩
def fsAtom : List (SF GAtom) := [⟨Int, 3, rInt, GAtom.Table⟩, ⟨List Int, 27, (rSl rInt), GAtom.Cols⟩, ⟨List Int, 27, (rSl rInt), GAtom.Terms⟩, ⟨Int, 3, rInt, GAtom.Key⟩]
abbrev rAtom : Rp GAtom := rStruct fsAtom
theorem ty88 : TyOf Tryz.prog 88 rAtom := ⟨fun w => Tryz.isAgg88 w, fun w => Tryz.sizeOf88 w⟩
theorem so88 : StructOf Tryz.prog 88 fsAtom := ⟨⟨_, Tryz.underlying88, ⟨rfl, rfl, ty3, by decide, ⟨rfl, rfl, ty27, by decide, ⟨rfl, rfl, ty27, by decide, ⟨rfl, rfl, ty3, by decide, trivial⟩⟩⟩⟩⟩, ty88⟩
theorem ty47 : TyOf Tryz.prog 47 (rSl rAtom) := ⟨fun w => Tryz.isAgg47 w, fun w => Tryz.sizeOf47 w⟩
structure GConj where
  Vars : Int
  Consts : List GValue
  Atoms : List GAtom
def zConj : GConj := { Vars := 0, Consts := [], Atoms := [] }
instance : Inhabited GConj := ⟨zConj⟩
def fsConj : List (SF GConj) := [⟨Int, 3, rInt, GConj.Vars⟩, ⟨List GValue, 45, (rSl rValue), GConj.Consts⟩, ⟨List GAtom, 47, (rSl rAtom), GConj.Atoms⟩]
abbrev rConj : Rp GConj := rStruct fsConj
theorem ty49 : TyOf Tryz.prog 49 rConj := ⟨fun w => Tryz.isAgg49 w, fun w => Tryz.sizeOf49 w⟩
theorem so49 : StructOf Tryz.prog 49 fsConj := ⟨⟨_, Tryz.underlying49, ⟨rfl, rfl, ty3, by decide, ⟨rfl, rfl, ty45, by decide, ⟨rfl, rfl, ty47, by decide, trivial⟩⟩⟩⟩, ty49⟩
structure GSide where
  Var : Int
  Col : Int
  Value : GValue
def zSide : GSide := { Var := 0, Col := 0, Value := zValue }
instance : Inhabited GSide := ⟨zSide⟩
def fsSide : List (SF GSide) := [⟨Int, 3, rInt, GSide.Var⟩, ⟨Int, 3, rInt, GSide.Col⟩, ⟨GValue, 62, rValue, GSide.Value⟩]
abbrev rSide : Rp GSide := rStruct fsSide
theorem ty91 : TyOf Tryz.prog 91 rSide := ⟨fun w => Tryz.isAgg91 w, fun w => Tryz.sizeOf91 w⟩
theorem so91 : StructOf Tryz.prog 91 fsSide := ⟨⟨_, Tryz.underlying91, ⟨rfl, rfl, ty3, by decide, ⟨rfl, rfl, ty3, by decide, ⟨rfl, rfl, ty62, by decide, trivial⟩⟩⟩⟩, ty91⟩
structure GTest where
  Left : GSide
  Op : Int
  Right : GSide
  Add : Int
def zTest : GTest := { Left := zSide, Op := 0, Right := zSide, Add := 0 }
instance : Inhabited GTest := ⟨zTest⟩
def fsTest : List (SF GTest) := [⟨GSide, 91, rSide, GTest.Left⟩, ⟨Int, 3, rInt, GTest.Op⟩, ⟨GSide, 91, rSide, GTest.Right⟩, ⟨Int, 3, rInt, GTest.Add⟩]
abbrev rTest : Rp GTest := rStruct fsTest
theorem ty93 : TyOf Tryz.prog 93 rTest := ⟨fun w => Tryz.isAgg93 w, fun w => Tryz.sizeOf93 w⟩
theorem so93 : StructOf Tryz.prog 93 fsTest := ⟨⟨_, Tryz.underlying93, ⟨rfl, rfl, ty91, by decide, ⟨rfl, rfl, ty3, by decide, ⟨rfl, rfl, ty91, by decide, ⟨rfl, rfl, ty3, by decide, trivial⟩⟩⟩⟩⟩, ty93⟩
theorem zr93 : ∀ h, (rTest.ty zTest).p h (.agg #[Value.int .i64 0, Value.int .i64 0, Value.int .i64 0, Value.int .i64 0, Value.string ⟨#[]⟩, Value.int .i64 0, Value.int .i64 0, Value.int .i64 0, Value.int .i64 0, Value.int .i64 0, Value.string ⟨#[]⟩, Value.int .i64 0]) := fun _ => ⟨_, ⟨[Value.int .i64 0, Value.int .i64 0, Value.int .i64 0, Value.int .i64 0, Value.string ⟨#[]⟩], _, rfl, ⟨[Value.int .i64 0], _, rfl, rfl, ⟨[Value.int .i64 0], _, rfl, rfl, ⟨[Value.int .i64 0, Value.int .i64 0, Value.string ⟨#[]⟩], _, rfl, ⟨[Value.int .i64 0], _, rfl, rfl, ⟨[Value.int .i64 0], _, rfl, rfl, ⟨[Value.string ⟨#[]⟩], _, rfl, rfl, rfl⟩⟩⟩, rfl⟩⟩⟩, ⟨[Value.int .i64 0], _, rfl, rfl, ⟨[Value.int .i64 0, Value.int .i64 0, Value.int .i64 0, Value.int .i64 0, Value.string ⟨#[]⟩], _, rfl, ⟨[Value.int .i64 0], _, rfl, rfl, ⟨[Value.int .i64 0], _, rfl, rfl, ⟨[Value.int .i64 0, Value.int .i64 0, Value.string ⟨#[]⟩], _, rfl, ⟨[Value.int .i64 0], _, rfl, rfl, ⟨[Value.int .i64 0], _, rfl, rfl, ⟨[Value.string ⟨#[]⟩], _, rfl, rfl, rfl⟩⟩⟩, rfl⟩⟩⟩, ⟨[Value.int .i64 0], _, rfl, rfl, rfl⟩⟩⟩⟩, rfl⟩
theorem el93 : ElT Tryz.prog 93 rTest 112 zTest := ⟨ty93, by decide, Tryz.t93, (.agg #[Value.int .i64 0, Value.int .i64 0, Value.int .i64 0, Value.int .i64 0, Value.string ⟨#[]⟩, Value.int .i64 0, Value.int .i64 0, Value.int .i64 0, Value.int .i64 0, Value.int .i64 0, Value.string ⟨#[]⟩, Value.int .i64 0]), by kernel_rfl, by kernel_rfl, by kernel_rfl, by kernel_rfl, zr93⟩
theorem ty26 : TyOf Tryz.prog 26 (rSl rTest) := ⟨fun w => Tryz.isAgg26 w, fun w => Tryz.sizeOf26 w⟩
theorem ty60 : TyOf Tryz.prog 60 (rSl rStr) := ⟨fun w => Tryz.isAgg60 w, fun w => Tryz.sizeOf60 w⟩
theorem ty60V : TyOf Tryz.prog 60 rV := ⟨fun w => Tryz.isAgg60 w, fun w => Tryz.sizeOf60 w⟩
structure GAttr where
  Name : ByteArray
  Kind : Int
  Was : List ByteArray
  Default : GValue
def zAttr : GAttr := { Name := ⟨#[]⟩, Kind := 0, Was := [], Default := zValue }
instance : Inhabited GAttr := ⟨zAttr⟩
def fsAttr : List (SF GAttr) := [⟨ByteArray, 9, rStr, GAttr.Name⟩, ⟨Int, 3, rInt, GAttr.Kind⟩, ⟨List ByteArray, 60, (rSl rStr), GAttr.Was⟩, ⟨GValue, 62, rValue, GAttr.Default⟩]
abbrev rAttr : Rp GAttr := rStruct fsAttr
theorem ty64 : TyOf Tryz.prog 64 rAttr := ⟨fun w => Tryz.isAgg64 w, fun w => Tryz.sizeOf64 w⟩
theorem so64 : StructOf Tryz.prog 64 fsAttr := ⟨⟨_, Tryz.underlying64, ⟨rfl, rfl, ty9, by decide, ⟨rfl, rfl, ty3, by decide, ⟨rfl, rfl, ty60, by decide, ⟨rfl, rfl, ty62, by decide, trivial⟩⟩⟩⟩⟩, ty64⟩
theorem zr64 : ∀ h, (rAttr.ty zAttr).p h (.agg #[Value.string ⟨#[]⟩, Value.int .i64 0, Value.slice none 0 0, Value.int .i64 0, Value.int .i64 0, Value.string ⟨#[]⟩]) := fun _ => ⟨_, ⟨[Value.string ⟨#[]⟩], _, rfl, rfl, ⟨[Value.int .i64 0], _, rfl, rfl, ⟨[Value.slice none 0 0], _, rfl, ⟨_, rfl, none, ⟨0, Nat.le_refl _⟩, rfl, fun q => absurd rfl q⟩, ⟨[Value.int .i64 0, Value.int .i64 0, Value.string ⟨#[]⟩], _, rfl, ⟨[Value.int .i64 0], _, rfl, rfl, ⟨[Value.int .i64 0], _, rfl, rfl, ⟨[Value.string ⟨#[]⟩], _, rfl, rfl, rfl⟩⟩⟩, rfl⟩⟩⟩⟩, rfl⟩
theorem el64 : ElT Tryz.prog 64 rAttr 80 zAttr := ⟨ty64, by decide, Tryz.t64, (.agg #[Value.string ⟨#[]⟩, Value.int .i64 0, Value.slice none 0 0, Value.int .i64 0, Value.int .i64 0, Value.string ⟨#[]⟩]), by kernel_rfl, by kernel_rfl, by kernel_rfl, by kernel_rfl, zr64⟩
theorem ty28 : TyOf Tryz.prog 28 (rSl rAttr) := ⟨fun w => Tryz.isAgg28 w, fun w => Tryz.sizeOf28 w⟩
theorem zr28 : ∀ h, ((rSl rAttr).ty []).p h (Value.slice none 0 0) := fun _ => ⟨none, ⟨0, Nat.le_refl _⟩, rfl, fun q => absurd rfl q⟩
structure GTable where
  Name : ByteArray
  Attrs : List GAttr
  Key : List Int
def zTable : GTable := { Name := ⟨#[]⟩, Attrs := [], Key := [] }
instance : Inhabited GTable := ⟨zTable⟩
def fsTable : List (SF GTable) := [⟨ByteArray, 9, rStr, GTable.Name⟩, ⟨List GAttr, 28, (rSl rAttr), GTable.Attrs⟩, ⟨List Int, 27, (rSl rInt), GTable.Key⟩]
abbrev rTable : Rp GTable := rStruct fsTable
theorem ty77 : TyOf Tryz.prog 77 rTable := ⟨fun w => Tryz.isAgg77 w, fun w => Tryz.sizeOf77 w⟩
theorem so77 : StructOf Tryz.prog 77 fsTable := ⟨⟨_, Tryz.underlying77, ⟨rfl, rfl, ty9, by decide, ⟨rfl, rfl, ty28, by decide, ⟨rfl, rfl, ty27, by decide, trivial⟩⟩⟩⟩, ty77⟩
theorem zr77 : ∀ h, (rTable.ty zTable).p h (.agg #[Value.string ⟨#[]⟩, Value.slice none 0 0, Value.slice none 0 0]) := fun _ => ⟨_, ⟨[Value.string ⟨#[]⟩], _, rfl, rfl, ⟨[Value.slice none 0 0], _, rfl, ⟨_, rfl, none, ⟨0, Nat.le_refl _⟩, rfl, fun q => absurd rfl q⟩, ⟨[Value.slice none 0 0], _, rfl, ⟨_, rfl, none, ⟨0, Nat.le_refl _⟩, rfl, fun q => absurd rfl q⟩, rfl⟩⟩⟩, rfl⟩
theorem el77 : ElT Tryz.prog 77 rTable 64 zTable := ⟨ty77, by decide, Tryz.t77, (.agg #[Value.string ⟨#[]⟩, Value.slice none 0 0, Value.slice none 0 0]), by kernel_rfl, by kernel_rfl, by kernel_rfl, by kernel_rfl, zr77⟩
theorem ty22 : TyOf Tryz.prog 22 (rSl rTable) := ⟨fun w => Tryz.isAgg22 w, fun w => Tryz.sizeOf22 w⟩
structure GSchema where
  Tables : List GTable
def zSchema : GSchema := { Tables := [] }
instance : Inhabited GSchema := ⟨zSchema⟩
def fsSchema : List (SF GSchema) := [⟨List GTable, 22, (rSl rTable), GSchema.Tables⟩]
abbrev rSchema : Rp GSchema := rStruct fsSchema
theorem ty24 : TyOf Tryz.prog 24 rSchema := ⟨fun w => Tryz.isAgg24 w, fun w => Tryz.sizeOf24 w⟩
theorem so24 : StructOf Tryz.prog 24 fsSchema := ⟨⟨_, Tryz.underlying24, ⟨rfl, rfl, ty22, by decide, trivial⟩⟩, ty24⟩
theorem zr24 : ∀ h, (rSchema.ty zSchema).p h (.agg #[Value.slice none 0 0]) := fun _ => ⟨_, ⟨[Value.slice none 0 0], _, rfl, ⟨_, rfl, none, ⟨0, Nat.le_refl _⟩, rfl, fun q => absurd rfl q⟩, rfl⟩, rfl⟩
/-- Plans of a depth. -/
abbrev GPlan : Type := GPl GAttr GTest
def cPl : PlT := ⟨3, 25, 26, 27, 28⟩
abbrev rPlan (n : Nat) : Rp GPlan := rPl cPl rAttr rTest n
theorem ty30 {n : Nat} : TyOf Tryz.prog 30 (rPlan n) := rPl_ty cPl rAttr rTest (fun w => Tryz.isAgg30 w) (fun w => Tryz.sizeOf30 w) n
theorem ty25 {n : Nat} : TyOf Tryz.prog 25 (rSl (rPlan n)) := ⟨fun w => Tryz.isAgg25 w, fun w => Tryz.sizeOf25 w⟩
theorem so30 {n : Nat} : StructOf Tryz.prog 30 (fsPl cPl rAttr rTest (rPlan n)) := ⟨⟨_, Tryz.underlying30, ⟨rfl, rfl, ty3, by decide, ⟨rfl, rfl, ty3, by decide, ⟨rfl, rfl, ty25, (by show (1 : Nat) ≠ 0; decide), ⟨rfl, rfl, ty26, by decide, ⟨rfl, rfl, ty27, by decide, ⟨rfl, rfl, ty3, by decide, ⟨rfl, rfl, ty3, by decide, ⟨rfl, rfl, ty28, by decide, trivial⟩⟩⟩⟩⟩⟩⟩⟩⟩, ty30 (n := n + 1)⟩
theorem zr30 {n : Nat} : ∀ h, ((rPlan (n + 1)).ty GPl.zero).p h (.agg #[Value.int .i64 0, Value.int .i64 0, Value.slice none 0 0, Value.slice none 0 0, Value.slice none 0 0, Value.int .i64 0, Value.int .i64 0, Value.slice none 0 0]) := fun _ => ⟨_, ⟨[Value.int .i64 0], _, rfl, rfl, ⟨[Value.int .i64 0], _, rfl, rfl, ⟨[Value.slice none 0 0], _, rfl, ⟨_, rfl, none, ⟨0, Nat.le_refl _⟩, rfl, fun q => absurd rfl q⟩, ⟨[Value.slice none 0 0], _, rfl, ⟨_, rfl, none, ⟨0, Nat.le_refl _⟩, rfl, fun q => absurd rfl q⟩, ⟨[Value.slice none 0 0], _, rfl, ⟨_, rfl, none, ⟨0, Nat.le_refl _⟩, rfl, fun q => absurd rfl q⟩, ⟨[Value.int .i64 0], _, rfl, rfl, ⟨[Value.int .i64 0], _, rfl, rfl, ⟨[Value.slice none 0 0], _, rfl, ⟨_, rfl, none, ⟨0, Nat.le_refl _⟩, rfl, fun q => absurd rfl q⟩, rfl⟩⟩⟩⟩⟩⟩⟩⟩, rfl⟩
theorem el30 {n : Nat} : ElT Tryz.prog 30 (rPlan (n + 1)) 128 GPl.zero := ⟨ty30, (by rw [rPl_k]; decide), Tryz.t30, (.agg #[Value.int .i64 0, Value.int .i64 0, Value.slice none 0 0, Value.slice none 0 0, Value.slice none 0 0, Value.int .i64 0, Value.int .i64 0, Value.slice none 0 0]), by kernel_rfl, by kernel_rfl, by kernel_rfl, by kernel_rfl, zr30⟩
structure Gplan where
  Plan : GPlan
  schema : GSchema
def fsplan (n : Nat) : List (SF Gplan) := [⟨GPlan, 30, rPlan (n + 1), Gplan.Plan⟩, ⟨GSchema, 24, rSchema, Gplan.schema⟩]
abbrev rplan (n : Nat) : Rp Gplan := rStruct (fsplan n)
theorem ty121 {n : Nat} : TyOf Tryz.prog 121 (rplan n) := ⟨fun w => Tryz.isAgg121 w, fun w => Tryz.sizeOf121 w⟩
theorem so121 {n : Nat} : StructOf Tryz.prog 121 (fsplan n) := ⟨⟨_, Tryz.underlying121, ⟨rfl, rfl, ty30, (by show (rPl _ _ _ _).k ≠ 0; rw [rPl_k]; decide), ⟨rfl, rfl, ty24, by decide, trivial⟩⟩⟩, ty121⟩
theorem ty118 : TyOf Tryz.prog 118 rV := ⟨fun w => Tryz.isAgg118 w, fun w => Tryz.sizeOf118 w⟩
theorem ty122 : TyOf Tryz.prog 122 rV := ⟨fun w => Tryz.isAgg122 w, fun w => Tryz.sizeOf122 w⟩
theorem ty117 : TyOf Tryz.prog 117 rV := ⟨fun w => Tryz.isAgg117 w, fun w => Tryz.sizeOf117 w⟩
structure Gkind where
  kids : Int
  columns : Value
  rows : Value
  rest : Value
def zkind : Gkind := { kids := 0, columns := Value.nilFunc, rows := Value.nilFunc, rest := Value.nilFunc }
instance : Inhabited Gkind := ⟨zkind⟩
def fskind : List (SF Gkind) := [⟨Int, 3, rInt, Gkind.kids⟩, ⟨Value, 118, rV, Gkind.columns⟩, ⟨Value, 122, rV, Gkind.rows⟩, ⟨Value, 117, rV, Gkind.rest⟩]
abbrev rkind : Rp Gkind := rStruct fskind
theorem ty125 : TyOf Tryz.prog 125 rkind := ⟨fun w => Tryz.isAgg125 w, fun w => Tryz.sizeOf125 w⟩
theorem so125 : StructOf Tryz.prog 125 fskind := ⟨⟨_, Tryz.underlying125, ⟨rfl, rfl, ty3, by decide, ⟨rfl, rfl, ty118, by decide, ⟨rfl, rfl, ty122, by decide, ⟨rfl, rfl, ty117, by decide, trivial⟩⟩⟩⟩⟩, ty125⟩
theorem zr125 : ∀ h, (rkind.ty zkind).p h (.agg #[Value.int .i64 0, Value.nilFunc, Value.nilFunc, Value.nilFunc]) := fun _ => ⟨_, ⟨[Value.int .i64 0], _, rfl, rfl, ⟨[Value.nilFunc], _, rfl, ⟨rfl, rfl⟩, ⟨[Value.nilFunc], _, rfl, ⟨rfl, rfl⟩, ⟨[Value.nilFunc], _, rfl, ⟨rfl, rfl⟩, rfl⟩⟩⟩⟩, rfl⟩
structure Gplace where
  up : Int
  value : GValue
  fixed : Bool
def zplace : Gplace := { up := 0, value := zValue, fixed := false }
instance : Inhabited Gplace := ⟨zplace⟩
structure Gbuilder where
  schema : GSchema
  tables : List Int
  start : List Int
  places : List Gplace
  self : List Int
  bad : Bool
def zbuilder : Gbuilder := { schema := zSchema, tables := [], start := [], places := [], self := [], bad := false }
instance : Inhabited Gbuilder := ⟨zbuilder⟩
structure GPlace where
  Atom : Int
  Col : Int
  To : Int
  Const : GValue
  Fixed : Bool
def zPlace : GPlace := { Atom := 0, Col := 0, To := 0, Const := zValue, Fixed := false }
instance : Inhabited GPlace := ⟨zPlace⟩
structure GBuilder where
  S : GSchema
  Tables : List Int
  Places : List GPlace
  Self : List Int
  Bad : Bool
def zBuilder : GBuilder := { S := zSchema, Tables := [], Places := [], Self := [], Bad := false }
instance : Inhabited GBuilder := ⟨zBuilder⟩
structure GStats where
  Rows : List Int
  Distinct : List (List Int)
def zStats : GStats := { Rows := [], Distinct := [] }
instance : Inhabited GStats := ⟨zStats⟩
open Go Go.Proofs Go.Proofs.Tryz
def validV (v : GValue) : Bool :=
  if v.Kind ≠ 1 ∧ v.Text ≠ ⟨#[]⟩ then false
  else if v.Kind = 0 then decide (0 ≤ v.N) && decide (v.N ≤ 0)
  else if v.Kind = 1 then (if 200 < (v.Text.size : Int) then false else decide (0 ≤ v.N) && decide (v.N ≤ 0))
  else if v.Kind = 2 then decide (-1000000000 ≤ v.N) && decide (v.N ≤ 1000000000)
  else if v.Kind = 3 then decide (0 ≤ v.N) && decide (v.N ≤ 73048)
  else if v.Kind = 4 then decide (0 ≤ v.N) && decide (v.N ≤ 1)
  else false
theorem valid_N {v : GValue} (h : validV v = true) : -1000000000 ≤ v.N ∧ v.N ≤ 1000000000 := by
  unfold validV at h
  repeat' split at h
  all_goals simp at h
  all_goals omega
theorem Valid_spec (v : GValue) : Fun1 prog 48 [rValue.ty v] (tV (.bool (validV v))) := by
 refine Spec.enter func48 rfl rfl fun h0 w0 fr0 => ?_
 refine Jr (Js rfl (step_box (R := rValue) Sr) (Ja rfl (JL_nil (J_seq (Jr ?_)))))
 refine Js rfl (step_fieldAddr so62 Sr rfl) (Jl rfl ty3 Sr (Js rfl (step_neq Sr Sr) (Jm rfl ?_)))
 refine Jk rfl Sr rfl (step_fieldAddr so62 Sr rfl) ?_
 refine Jg rfl Sr rfl (fun hw => step_load_ptr ty9 (Sub.w hw)) (Jg rfl Sr rfl (fun hw => step_neq_str (Sub.w hw) Sr) (Js rfl (step_pick_and Sr Sr) (JL_nil ?_)))
 refine J_cond Sr (fun hc1 => ?_) (fun hc1 => ?_)
 ·
  try simp only [NF] at hc1
  refine Jr (Ja rfl (JL_nil (J_ret ?_)))
  refine K_ret1 (t := 2) rfl () ?_
  refine Sub.bool ?_
  simp [validV, hc1]
 try simp only [NF] at hc1
 refine J_skip (Jr (Ja rfl (Ja rfl (JL_nil (J_seq ?_)))))
 refine Jr (Js rfl (step_fieldAddr so62 Sr rfl) (Jl rfl ty3 Sr (JL_nil (J_block (Jr ?_)))))
 refine Js rfl (step_eql Sr Sr) (Ja rfl (JL_nil ?_))
 refine J_cond Sr (fun hc2 => ?_) (fun hc2 => ?_)
 ·
  try simp only [NF] at hc2
  refine J_skip (Jr (Jm rfl (Js rfl (step_fieldAddr so62 Sr rfl) (Jl rfl ty3 Sr (Js rfl (step_leq Sr Sr) ?_)))))
  refine Jm rfl ?_
  refine Jk rfl Sr rfl (step_fieldAddr so62 Sr rfl) ?_
  refine Jg rfl Sr rfl (fun hw => step_load_ptr ty3 (Sub.w hw)) ?_
  refine Jk rfl Sr rfl (step_move Sr) ?_
  refine Jg rfl Sr rfl (fun hw => step_leq (Sub.w hw) (Sub.w hw)) (Js rfl (step_pick_and Sr Sr) (Ja rfl (JL_nil (J_ret ?_))))
  refine K_ret1 (t := 2) rfl () ?_
  refine Sub.bool ?_
  have h1 : ¬ (v.Kind ≠ 1 ∧ v.Text ≠ ⟨#[]⟩) := by rintro ⟨p, q⟩; rcases hc1 with hc1 | hc1 <;> contradiction
  simp only [validV, if_neg h1]
  simp [*]
 try simp only [NF] at hc2
 refine Jr (Js rfl (step_eql Sr Sr) (Ja rfl (JL_nil ?_)))
 refine J_cond Sr (fun hc3 => ?_) (fun hc3 => ?_)
 ·
  try simp only [NF] at hc3
  refine Jr (Js rfl (step_fieldAddr so62 Sr rfl) (Jl rfl ty9 Sr (Js rfl (step_len_str underlying9 Sr) (Js rfl (step_gtr Sr Sr) (JL_nil ?_)))))
  refine J_cond Sr (fun hc4 => ?_) (fun hc4 => ?_)
  ·
   try simp only [NF] at hc4
   refine Jr (Ja rfl (JL_nil (J_ret ?_)))
   refine K_ret1 (t := 2) rfl () ?_
   refine Sub.bool ?_
   have h1 : ¬ (v.Kind ≠ 1 ∧ v.Text ≠ ⟨#[]⟩) := by rintro ⟨p, q⟩; rcases hc1 with hc1 | hc1 <;> contradiction
   simp only [validV, if_neg h1]
   first | (simp [*]; done) | (simp_all; omega)
  try simp only [NF] at hc4
  refine J_skip (Jr (Jm rfl (Js rfl (step_fieldAddr so62 Sr rfl) (Jl rfl ty3 Sr (Js rfl (step_leq Sr Sr) ?_)))))
  refine Jm rfl ?_
  refine Jk rfl Sr rfl (step_fieldAddr so62 Sr rfl) ?_
  refine Jg rfl Sr rfl (fun hw => step_load_ptr ty3 (Sub.w hw)) ?_
  refine Jk rfl Sr rfl (step_move Sr) ?_
  refine Jg rfl Sr rfl (fun hw => step_leq (Sub.w hw) (Sub.w hw)) (Js rfl (step_pick_and Sr Sr) (Ja rfl (JL_nil (J_ret ?_))))
  refine K_ret1 (t := 2) rfl () ?_
  refine Sub.bool ?_
  have h1 : ¬ (v.Kind ≠ 1 ∧ v.Text ≠ ⟨#[]⟩) := by rintro ⟨p, q⟩; rcases hc1 with hc1 | hc1 <;> contradiction
  simp only [validV, if_neg h1]
  first | (simp [*]; done) | (simp_all; omega)
 try simp only [NF] at hc3
 refine Jr (Js rfl (step_eql Sr Sr) (Ja rfl (JL_nil ?_)))
 refine J_cond Sr (fun hc5 => ?_) (fun hc5 => ?_)
 ·
  try simp only [NF] at hc5
  refine J_region (Ja rfl (Ja rfl (JL_nil (Jr (Jm rfl ?_)))))
  refine Js rfl (step_fieldAddr so62 Sr rfl) (Jl rfl ty3 Sr (Js rfl (step_leq Sr Sr) (Jm rfl ?_)))
  refine Jk rfl Sr rfl (step_fieldAddr so62 Sr rfl) ?_
  refine Jg rfl Sr rfl (fun hw => step_load_ptr ty3 (Sub.w hw)) ?_
  refine Jk rfl Sr rfl (step_move Sr) ?_
  refine Jg rfl Sr rfl (fun hw => step_leq (Sub.w hw) (Sub.w hw)) (Js rfl (step_pick_and Sr Sr) (Ja rfl (JL_nil (J_ret ?_))))
  refine K_ret1 (t := 2) rfl () ?_
  refine Sub.bool ?_
  have h1 : ¬ (v.Kind ≠ 1 ∧ v.Text ≠ ⟨#[]⟩) := by rintro ⟨p, q⟩; rcases hc1 with hc1 | hc1 <;> contradiction
  simp only [validV, if_neg h1]
  first | (simp [*]; done) | (simp_all; omega)
 try simp only [NF] at hc5
 refine Jr (Js rfl (step_eql Sr Sr) (Ja rfl (JL_nil ?_)))
 refine J_cond Sr (fun hc6 => ?_) (fun hc6 => ?_)
 ·
  try simp only [NF] at hc6
  refine J_region (Ja rfl (JL_nil (Jr (Jm rfl (Js rfl (step_fieldAddr so62 Sr rfl) ?_)))))
  refine Jl rfl ty3 Sr (Js rfl (step_leq Sr Sr) (Jm rfl ?_))
  refine Jk rfl Sr rfl (step_fieldAddr so62 Sr rfl) ?_
  refine Jg rfl Sr rfl (fun hw => step_load_ptr ty3 (Sub.w hw)) ?_
  refine Jk rfl Sr rfl (step_move Sr) ?_
  refine Jg rfl Sr rfl (fun hw => step_leq (Sub.w hw) (Sub.w hw)) (Js rfl (step_pick_and Sr Sr) (Ja rfl (JL_nil (J_ret ?_))))
  refine K_ret1 (t := 2) rfl () ?_
  refine Sub.bool ?_
  have h1 : ¬ (v.Kind ≠ 1 ∧ v.Text ≠ ⟨#[]⟩) := by rintro ⟨p, q⟩; rcases hc1 with hc1 | hc1 <;> contradiction
  simp only [validV, if_neg h1]
  first | (simp [*]; done) | (simp_all; omega)
 try simp only [NF] at hc6
 refine Jr (Js rfl (step_eql Sr Sr) (Ja rfl (JL_nil ?_)))
 refine J_cond Sr (fun hc7 => ?_) (fun hc7 => ?_)
 ·
  try simp only [NF] at hc7
  refine J_region (Ja rfl (JL_nil (Jr (Jm rfl (Js rfl (step_fieldAddr so62 Sr rfl) ?_)))))
  refine Jl rfl ty3 Sr (Js rfl (step_leq Sr Sr) (Jm rfl ?_))
  refine Jk rfl Sr rfl (step_fieldAddr so62 Sr rfl) ?_
  refine Jg rfl Sr rfl (fun hw => step_load_ptr ty3 (Sub.w hw)) ?_
  refine Jk rfl Sr rfl (step_move Sr) ?_
  refine Jg rfl Sr rfl (fun hw => step_leq (Sub.w hw) (Sub.w hw)) (Js rfl (step_pick_and Sr Sr) (Ja rfl (JL_nil (J_ret ?_))))
  refine K_ret1 (t := 2) rfl () ?_
  refine Sub.bool ?_
  have h1 : ¬ (v.Kind ≠ 1 ∧ v.Text ≠ ⟨#[]⟩) := by rintro ⟨p, q⟩; rcases hc1 with hc1 | hc1 <;> contradiction
  simp only [validV, if_neg h1]
  first | (simp [*]; done) | (simp_all; omega)
 try simp only [NF] at hc7
 refine Jr (Ja rfl (JL_nil (J_ret ?_)))
 refine K_ret1 (t := 2) rfl () ?_
 refine Sub.bool ?_
 have h1 : ¬ (v.Kind ≠ 1 ∧ v.Text ≠ ⟨#[]⟩) := by rintro ⟨p, q⟩; rcases hc1 with hc1 | hc1 <;> contradiction
 simp only [validV, if_neg h1]
 first | (simp [*]; done) | (simp_all; omega)
open Go Go.Proofs Go.Proofs.Tryz
abbrev kvV (v : GValue) : Value := .agg #[.int .i64 v.Kind, .int .i64 v.N, .string v.Text]
instance : DecidableEq GValue := fun a b => decidable_of_iff (a.Kind = b.Kind ∧ a.N = b.N ∧ a.Text = b.Text) ⟨fun ⟨h1, h2, h3⟩ => by cases a; cases b; simp_all, fun h => by subst h; exact ⟨rfl, rfl, rfl⟩⟩
theorem Sub.val {x : GValue} : Sub (rValue.ty x) (tV (kvV x)) := fun h v r => by
  obtain ⟨cs, r, rfl⟩ := r
  obtain ⟨c0, _, rfl, r0, c1, _, rfl, r1, c2, _, rfl, r2, rz⟩ := r
  have r0 : c0 = [.int .i64 x.Kind] := r0
  have r1 : c1 = [.int .i64 x.N] := r1
  have r2 : c2 = [.string x.Text] := r2
  subst r0 r1 r2; rw [show _ = [] from rz]; rfl
theorem toL_eq (a b : ByteArray) : (a.toList == b.toList) = decide (a = b) := by
  rw [← beq_toListBytes]
  obtain ⟨⟨x⟩⟩ := a
  obtain ⟨⟨y⟩⟩ := b
  show ((⟨x⟩ : Array UInt8) == ⟨y⟩) = _
  rw [Bool.eq_iff_iff]; simp
theorem eq_value (a b : GValue) (w : World) : (Op.equalIn 10000 62 (kvV a) (kvV b)).run prog w = .ok (decide (a = b)) w := by
  have u3 := underlying3
  have u9 := underlying9
  have a3 := isAgg3
  have a9 := isAgg9
  have z3 := sizeOf3
  have z9 := sizeOf9
  have hS : prog.underlying 62 = some (.struct (prog.fieldsOf 62)) := by kernel_rfl
  have hp : prog.stoodInHeld 62 = false := by kernel_rfl
  rw [show (10000 : Nat) = 9999 + 1 from rfl, run_equalIn_agg w 9999 62 _ _ hS hp]
  simp only [Program.fieldsOf, underlying62]
  go_simp
  have e : decide (a = b) = (decide (a.Kind = b.Kind) && (decide (a.N = b.N) && decide (a.Text = b.Text))) := by
    rw [Bool.eq_iff_iff]; simp
    constructor
    · intro h; subst h; exact ⟨rfl, rfl, rfl⟩
    · rintro ⟨h1, h2, h3⟩; cases a; cases b; simp_all
  have e2 : (a.Text.toList = b.Text.toList) ↔ a.Text = b.Text := by
    have := toL_eq a.Text b.Text
    rw [Bool.eq_iff_iff] at this
    simpa using this
  rw [e]
  by_cases h1 : a.Kind = b.Kind <;> by_cases h2 : a.N = b.N <;> by_cases h3 : a.Text = b.Text <;> simp [h1, h2, h3, e2]
theorem ge_value : prog.eqGuardType prog.depth 62 = false := by kernel_rfl
theorem step_neq_val {ro : Option Nat} {N : Nat} {ds : List Deferred} {h0 : PH} {w0 : World} {r : PH} {E : Env} {L : List SP} {d : Option Nat} {ty : Nat} {pos : String} {af : Array Edge} {g : Option (Nat × Bool)} {x y : Operand} {U : Nat} {a b : GValue} (hx : Sub (opTy E x) (rValue.ty a)) (hy : Sub (opTy E y) (rValue.ty b)) :
    Step1 ⟨prog, ro, N, ds, h0, w0, r⟩ ⟨d, .binOp .neq 62 x y U, ty, pos, af, g⟩ E L (tV (.bool (!decide (a = b)))) :=
  Step.of_same (by intro c h; cases h) fun ac w h hw f => by
    have h1 : ac.eval x = kvV a := f.get (Sub.trans hx Sub.val)
    have h2 : ac.eval y = kvV b := f.get (Sub.trans hy Sub.val)
    have he := run_eqGuard_agg (P := prog) w .neq 62 x y #[.int .i64 a.Kind, .int .i64 a.N, .string a.Text] #[.int .i64 b.Kind, .int .i64 b.N, .string b.Text] ge_value
    refine ⟨.bool (!decide (a = b)), ?_, rfl⟩
    simp [execOp, h1, h2, Sem.run_bind, he, run_neq_struct, eq_value]
theorem step_eql_val {ro : Option Nat} {N : Nat} {ds : List Deferred} {h0 : PH} {w0 : World} {r : PH} {E : Env} {L : List SP} {d : Option Nat} {ty : Nat} {pos : String} {af : Array Edge} {g : Option (Nat × Bool)} {x y : Operand} {U : Nat} {a b : GValue} (hx : Sub (opTy E x) (rValue.ty a)) (hy : Sub (opTy E y) (rValue.ty b)) :
    Step1 ⟨prog, ro, N, ds, h0, w0, r⟩ ⟨d, .binOp .eql 62 x y U, ty, pos, af, g⟩ E L (tV (.bool (decide (a = b)))) :=
  Step.of_same (by intro c h; cases h) fun ac w h hw f => by
    have h1 : ac.eval x = kvV a := f.get (Sub.trans hx Sub.val)
    have h2 : ac.eval y = kvV b := f.get (Sub.trans hy Sub.val)
    have he := run_eqGuard_agg (P := prog) w .eql 62 x y #[.int .i64 a.Kind, .int .i64 a.N, .string a.Text] #[.int .i64 b.Kind, .int .i64 b.N, .string b.Text] ge_value
    refine ⟨.bool (decide (a = b)), ?_, rfl⟩
    simp [execOp, h1, h2, Sem.run_bind, he, run_eql_struct, eq_value]
def findI {α : Type} (p : α → Bool) : Int → List α → Int
  | _, [] => -1
  | i, x :: l => if p x then i else findI p (i + 1) l
theorem findI_bd {α : Type} (p : α → Bool) : ∀ (l : List α) (i : Int), 0 ≤ i → -1 ≤ findI p i l ∧ findI p i l < i + l.length ∧ (0 ≤ findI p i l ↔ l.any p = true)
  | [], i, h => by simp [findI]; omega
  | x :: l, i, h => by
    have ih := findI_bd p l (i + 1) (by omega)
    simp only [findI, List.length_cons, List.any_cons]
    by_cases hx : p x = true
    · simp [hx]; omega
    · simp only [hx, Bool.false_or]
      simp only [Bool.false_eq_true, if_false]
      refine ⟨ih.1, by have := ih.2.1; omega, ih.2.2⟩
theorem all_t {α : Type} [Inhabited α] {p : α → Bool} {l : List α} (h : ∀ k, k < l.length → p (nth l k) = true) : l.all p = true := by
  rw [List.all_eq_true]
  intro x hx
  obtain ⟨k, hk, rfl⟩ := List.getElem_of_mem hx
  have := h k hk
  rwa [nth_get hk] at this
theorem all_f {α : Type} [Inhabited α] {p : α → Bool} {l : List α} {k : Nat} (hk : k < l.length) (h : p (nth l k) = false) : l.all p = false := by
  rw [List.all_eq_false]
  exact ⟨_, nth_mem hk, by simp [h]⟩
theorem pred_again {α : Type} [Inhabited α] {p : α → Prop} {l : List α} {i : Nat} (hlt : i < l.length) (hv : ∀ k, k < i → p (nth l k)) (h : p (nth l i)) : i + 1 ≤ l.length ∧ ∀ k, k < i + 1 → p (nth l k) :=
  ⟨hlt, fun k hk => by
    by_cases e : k = i
    · subst e; exact h
    · exact hv k (by omega)⟩
open Go Go.Proofs Go.Proofs.Tryz
theorem IndexFuncI_spec (l : List Int) (hl : l.length ≤ 1000000000000) (gi : Nat) (As : List Ty) (p : Int → Bool) (hp : ∀ x ∈ l, Fun1 prog gi ([tV (.int .i64 x)] ++ As) (tV (.bool (p x)))) (he : ∀ args w, (callFunc gi args).run prog w = .ok (.enter gi args) w) : Fun1 prog 96 [tSl rInt l, tClo gi As] (tV (.int .i64 (findI p 0 l))) := by
 refine Spec.enter func96 rfl rfl fun h0 w0 fr0 => ?_
 refine Jr (Ja rfl (JL_nil (J_seq (Jr (Jm rfl ?_)))))
 refine Js rfl (step_len_sl underlying27 Sr) (Jm rfl (JL_nil (J_block ?_)))
 refine J_loopL (σ := Nat) (fun i => i ≤ l.length ∧ findI p 0 l = findI p i (l.drop i)) (fun i => upd (upd (upd (upd env0 0 (tSl rInt l)) 1 (tClo gi As)) 7 (tV (.int .i64 l.length))) 8 (tV (.int .i64 i))) (fun i => []) (fun i => l.length - i) 0 ⟨by omega, by simp⟩ (zU) (LSub.rfl) ?_
 rintro i ⟨hi, hv⟩
 refine Jr (Js rfl (step_lss Sr Sr) (JL_nil (J_seq ?_)))
 refine J_cond Sr (fun h9 => ?_) (fun h9 => ?_)
 ·
  try simp only [NF] at h9
  have hlt : i < l.length := by omega
  have hd := dropB hlt
  refine J_skip (J_seq (J_block (Jr (Jm rfl (Ja rfl ?_)))))
  refine JL_nil (Jr (Jm rfl (Jm rfl (Jm rfl ?_))))
  refine Js rfl (step_indexAddr_sl  underlying27 ty3 Sr Sr rfl (gb (by first | assumption | omega))) ?_
  refine Jl rfl ty3 Sr (Js rfl (step_callv0 (aT := [_]) Sr (hp _ (nth_mem hlt)) ⟨Sr, trivial⟩ he) (JL_nil ?_))
  refine J_cond Sr (fun h16 => ?_) (fun h16 => ?_)
  ·
   try simp only [NF] at h16
   refine Jr (Jm rfl (Ja rfl (JL_nil (J_ret ?_))))
   refine K_retv (rv := .tmp 4) rfl () (.tmp Sr) (Sub.int ?_)
   rw [hv, hd]; simp only [findI]; rw [if_pos h16]
  try simp only [NF] at h16
  refine J_skip (J_region (Js rfl (step_add Sr Sr z6) (Jm rfl (JL_nil ?_))))
  refine K_againL (σ := Nat) (s := i) (i + 1) zO ?_ (zU) (LSub.rfl)
  refine ⟨by omega, ?_⟩
  rw [hv, hd]; simp only [findI]; rw [if_neg (by simp [h16])]; simp
 try simp only [NF] at h9
 refine J_exit (Jr (Ja rfl (JL_nil (J_ret ?_))))
 refine K_retv (rv := .tmp 4) rfl () (.tmp Sr) (Sub.int ?_)
 rw [hv, List.drop_of_length_le zG]; rfl
theorem IndexFuncS_spec (l : List ByteArray) (hl : l.length ≤ 1000000000000) (gi : Nat) (As : List Ty) (p : ByteArray → Bool) (hp : ∀ x ∈ l, Fun1 prog gi ([tV (.string x)] ++ As) (tV (.bool (p x)))) (he : ∀ args w, (callFunc gi args).run prog w = .ok (.enter gi args) w) : Fun1 prog 173 [tSl rStr l, tClo gi As] (tV (.int .i64 (findI p 0 l))) := by
 refine Spec.enter func173 rfl rfl fun h0 w0 fr0 => ?_
 refine Jr (Ja rfl (JL_nil (J_seq (Jr (Jm rfl ?_)))))
 refine Js rfl (step_len_sl underlying60 Sr) (Jm rfl (JL_nil (J_block ?_)))
 refine J_loopL (σ := Nat) (fun i => i ≤ l.length ∧ findI p 0 l = findI p i (l.drop i)) (fun i => upd (upd (upd (upd env0 0 (tSl rStr l)) 1 (tClo gi As)) 7 (tV (.int .i64 l.length))) 8 (tV (.int .i64 i))) (fun i => []) (fun i => l.length - i) 0 ⟨by omega, by simp⟩ (zU) (LSub.rfl) ?_
 rintro i ⟨hi, hv⟩
 refine Jr (Js rfl (step_lss Sr Sr) (JL_nil (J_seq ?_)))
 refine J_cond Sr (fun h9 => ?_) (fun h9 => ?_)
 ·
  try simp only [NF] at h9
  have hlt : i < l.length := by omega
  have hd := dropB hlt
  refine J_skip (J_seq (J_block (Jr (Jm rfl (Ja rfl ?_)))))
  refine JL_nil (Jr (Jm rfl (Jm rfl (Jm rfl ?_))))
  refine Js rfl (step_indexAddr_sl  underlying60 ty9 Sr Sr rfl (gb (by first | assumption | omega))) ?_
  refine Jl rfl ty9 Sr (Js rfl (step_callv0 (aT := [_]) Sr (hp _ (nth_mem hlt)) ⟨Sr, trivial⟩ he) (JL_nil ?_))
  refine J_cond Sr (fun h16 => ?_) (fun h16 => ?_)
  ·
   try simp only [NF] at h16
   refine Jr (Jm rfl (Ja rfl (JL_nil (J_ret ?_))))
   refine K_retv (rv := .tmp 4) rfl () (.tmp Sr) (Sub.int ?_)
   rw [hv, hd]; simp only [findI]; rw [if_pos h16]
  try simp only [NF] at h16
  refine J_skip (J_region (Js rfl (step_add Sr Sr z6) (Jm rfl (JL_nil ?_))))
  refine K_againL (σ := Nat) (s := i) (i + 1) zO ?_ (zU) (LSub.rfl)
  refine ⟨by omega, ?_⟩
  rw [hv, hd]; simp only [findI]; rw [if_neg (by simp [h16])]; simp
 try simp only [NF] at h9
 refine J_exit (Jr (Ja rfl (JL_nil (J_ret ?_))))
 refine K_retv (rv := .tmp 4) rfl () (.tmp Sr) (Sub.int ?_)
 rw [hv, List.drop_of_length_le zG]; rfl
theorem ContainsFuncS_spec (l : List ByteArray) (hl : l.length ≤ 1000000000000) (gi : Nat) (As : List Ty) (p : ByteArray → Bool) (hp : ∀ x ∈ l, Fun1 prog gi ([tV (.string x)] ++ As) (tV (.bool (p x)))) (he : ∀ args w, (callFunc gi args).run prog w = .ok (.enter gi args) w) : Fun1 prog 136 [tSl rStr l, tClo gi As] (tV (.bool (l.any p))) := by
 refine Spec.enter func136 rfl rfl fun h0 w0 fr0 => ?_
 refine Jr (Ja rfl (JL_nil (Jr (Jm rfl (Jm rfl ?_)))))
 refine Js rfl (step_call0 (IndexFuncS_spec l hl gi As p hp he) ⟨Sr, Sr, trivial⟩ call173) (Js rfl (step_geq Sr Sr) (Ja rfl (JL_nil (J_ret ?_))))
 refine K_retv (rv := .tmp 4) rfl () (.tmp Sr) (Sub.bool ?_)
 have hq := (findI_bd p l 0 zG).2.2
 by_cases ha : l.any p = true
 ·
  rw [ha]; simp; exact hq.2 ha
 simp only [Bool.not_eq_true] at ha; rw [ha]; simp; have : ¬ 0 ≤ findI p 0 l := (fun h => by rw [hq.1 h] at ha; cases ha)
 omega
theorem IndexFuncT_spec (l : List GTest) (hl : l.length ≤ 1000000000000) (gi : Nat) (As : List Ty) (p : GTest → Bool) (hp : ∀ x ∈ l, Fun1 prog gi ([rTest.ty x] ++ As) (tV (.bool (p x)))) (he : ∀ args w, (callFunc gi args).run prog w = .ok (.enter gi args) w) : Fun1 prog 160 [tSl rTest l, tClo gi As] (tV (.int .i64 (findI p 0 l))) := by
 refine Spec.enter func160 rfl rfl fun h0 w0 fr0 => ?_
 refine Jr (Ja rfl (JL_nil (J_seq (Jr (Jm rfl ?_)))))
 refine Js rfl (step_len_sl underlying26 Sr) (Jm rfl (JL_nil (J_block ?_)))
 refine J_loopL (σ := Nat) (fun i => i ≤ l.length ∧ findI p 0 l = findI p i (l.drop i)) (fun i => upd (upd (upd (upd env0 0 (tSl rTest l)) 1 (tClo gi As)) 7 (tV (.int .i64 l.length))) 8 (tV (.int .i64 i))) (fun i => []) (fun i => l.length - i) 0 ⟨by omega, by simp⟩ (zU) (LSub.rfl) ?_
 rintro i ⟨hi, hv⟩
 refine Jr (Js rfl (step_lss Sr Sr) (JL_nil (J_seq ?_)))
 refine J_cond Sr (fun h9 => ?_) (fun h9 => ?_)
 ·
  try simp only [NF] at h9
  have hlt : i < l.length := by omega
  have hd := dropB hlt
  refine J_skip (J_seq (J_block (Jr (Jm rfl (Ja rfl ?_)))))
  refine JL_nil (Jr (Jm rfl (Jm rfl (Jm rfl ?_))))
  refine Js rfl (step_indexAddr_sl  underlying26 ty93 Sr Sr rfl (gb (by first | assumption | omega))) ?_
  refine Jl rfl ty93 Sr (Js rfl (step_callv0 (aT := [_]) Sr (hp _ (nth_mem hlt)) ⟨Sr, trivial⟩ he) (JL_nil ?_))
  refine J_cond Sr (fun h16 => ?_) (fun h16 => ?_)
  ·
   try simp only [NF] at h16
   refine Jr (Jm rfl (Ja rfl (JL_nil (J_ret ?_))))
   refine K_retv (rv := .tmp 4) rfl () (.tmp Sr) (Sub.int ?_)
   rw [hv, hd]; simp only [findI]; rw [if_pos h16]
  try simp only [NF] at h16
  refine J_skip (J_region (Js rfl (step_add Sr Sr z6) (Jm rfl (JL_nil ?_))))
  refine K_againL (σ := Nat) (s := i) (i + 1) zO ?_ (zU) (LSub.rfl)
  refine ⟨by omega, ?_⟩
  rw [hv, hd]; simp only [findI]; rw [if_neg (by simp [h16])]; simp
 try simp only [NF] at h9
 refine J_exit (Jr (Ja rfl (JL_nil (J_ret ?_))))
 refine K_retv (rv := .tmp 4) rfl () (.tmp Sr) (Sub.int ?_)
 rw [hv, List.drop_of_length_le zG]; rfl
theorem ContainsFuncT_spec (l : List GTest) (hl : l.length ≤ 1000000000000) (gi : Nat) (As : List Ty) (p : GTest → Bool) (hp : ∀ x ∈ l, Fun1 prog gi ([rTest.ty x] ++ As) (tV (.bool (p x)))) (he : ∀ args w, (callFunc gi args).run prog w = .ok (.enter gi args) w) : Fun1 prog 115 [tSl rTest l, tClo gi As] (tV (.bool (l.any p))) := by
 refine Spec.enter func115 rfl rfl fun h0 w0 fr0 => ?_
 refine Jr (Ja rfl (JL_nil (Jr (Jm rfl (Jm rfl ?_)))))
 refine Js rfl (step_call0 (IndexFuncT_spec l hl gi As p hp he) ⟨Sr, Sr, trivial⟩ call160) (Js rfl (step_geq Sr Sr) (Ja rfl (JL_nil (J_ret ?_))))
 refine K_retv (rv := .tmp 4) rfl () (.tmp Sr) (Sub.bool ?_)
 have hq := (findI_bd p l 0 zG).2.2
 by_cases ha : l.any p = true
 ·
  rw [ha]; simp; exact hq.2 ha
 simp only [Bool.not_eq_true] at ha; rw [ha]; simp; have : ¬ 0 ≤ findI p 0 l := (fun h => by rw [hq.1 h] at ha; cases ha)
 omega
theorem IndexFuncAttr_spec (l : List GAttr) (hl : l.length ≤ 1000000000000) (gi : Nat) (As : List Ty) (p : GAttr → Bool) (hp : ∀ x ∈ l, Fun1 prog gi ([rAttr.ty x] ++ As) (tV (.bool (p x)))) (he : ∀ args w, (callFunc gi args).run prog w = .ok (.enter gi args) w) : Fun1 prog 93 [tSl rAttr l, tClo gi As] (tV (.int .i64 (findI p 0 l))) := by
 refine Spec.enter func93 rfl rfl fun h0 w0 fr0 => ?_
 refine Jr (Ja rfl (JL_nil (J_seq (Jr (Jm rfl ?_)))))
 refine Js rfl (step_len_sl underlying28 Sr) (Jm rfl (JL_nil (J_block ?_)))
 refine J_loopL (σ := Nat) (fun i => i ≤ l.length ∧ findI p 0 l = findI p i (l.drop i)) (fun i => upd (upd (upd (upd env0 0 (tSl rAttr l)) 1 (tClo gi As)) 7 (tV (.int .i64 l.length))) 8 (tV (.int .i64 i))) (fun i => []) (fun i => l.length - i) 0 ⟨by omega, by simp⟩ (zU) (LSub.rfl) ?_
 rintro i ⟨hi, hv⟩
 refine Jr (Js rfl (step_lss Sr Sr) (JL_nil (J_seq ?_)))
 refine J_cond Sr (fun h9 => ?_) (fun h9 => ?_)
 ·
  try simp only [NF] at h9
  have hlt : i < l.length := by omega
  have hd := dropB hlt
  refine J_skip (J_seq (J_block (Jr (Jm rfl (Ja rfl ?_)))))
  refine JL_nil (Jr (Jm rfl (Jm rfl (Jm rfl ?_))))
  refine Js rfl (step_indexAddr_sl  underlying28 ty64 Sr Sr rfl (gb (by first | assumption | omega))) ?_
  refine Jl rfl ty64 Sr (Js rfl (step_callv0 (aT := [_]) Sr (hp _ (nth_mem hlt)) ⟨Sr, trivial⟩ he) (JL_nil ?_))
  refine J_cond Sr (fun h16 => ?_) (fun h16 => ?_)
  ·
   try simp only [NF] at h16
   refine Jr (Jm rfl (Ja rfl (JL_nil (J_ret ?_))))
   refine K_retv (rv := .tmp 4) rfl () (.tmp Sr) (Sub.int ?_)
   rw [hv, hd]; simp only [findI]; rw [if_pos h16]
  try simp only [NF] at h16
  refine J_skip (J_region (Js rfl (step_add Sr Sr z6) (Jm rfl (JL_nil ?_))))
  refine K_againL (σ := Nat) (s := i) (i + 1) zO ?_ (zU) (LSub.rfl)
  refine ⟨by omega, ?_⟩
  rw [hv, hd]; simp only [findI]; rw [if_neg (by simp [h16])]; simp
 try simp only [NF] at h9
 refine J_exit (Jr (Ja rfl (JL_nil (J_ret ?_))))
 refine K_retv (rv := .tmp 4) rfl () (.tmp Sr) (Sub.int ?_)
 rw [hv, List.drop_of_length_le zG]; rfl
theorem IndexFuncTab_spec (l : List GTable) (hl : l.length ≤ 1000000000000) (gi : Nat) (As : List Ty) (p : GTable → Bool) (hp : ∀ x ∈ l, Fun1 prog gi ([rTable.ty x] ++ As) (tV (.bool (p x)))) (he : ∀ args w, (callFunc gi args).run prog w = .ok (.enter gi args) w) : Fun1 prog 140 [tSl rTable l, tClo gi As] (tV (.int .i64 (findI p 0 l))) := by
 refine Spec.enter func140 rfl rfl fun h0 w0 fr0 => ?_
 refine Jr (Ja rfl (JL_nil (J_seq (Jr (Jm rfl ?_)))))
 refine Js rfl (step_len_sl underlying22 Sr) (Jm rfl (JL_nil (J_block ?_)))
 refine J_loopL (σ := Nat) (fun i => i ≤ l.length ∧ findI p 0 l = findI p i (l.drop i)) (fun i => upd (upd (upd (upd env0 0 (tSl rTable l)) 1 (tClo gi As)) 7 (tV (.int .i64 l.length))) 8 (tV (.int .i64 i))) (fun i => []) (fun i => l.length - i) 0 ⟨by omega, by simp⟩ (zU) (LSub.rfl) ?_
 rintro i ⟨hi, hv⟩
 refine Jr (Js rfl (step_lss Sr Sr) (JL_nil (J_seq ?_)))
 refine J_cond Sr (fun h9 => ?_) (fun h9 => ?_)
 ·
  try simp only [NF] at h9
  have hlt : i < l.length := by omega
  have hd := dropB hlt
  refine J_skip (J_seq (J_block (Jr (Jm rfl (Ja rfl ?_)))))
  refine JL_nil (Jr (Jm rfl (Jm rfl (Jm rfl ?_))))
  refine Js rfl (step_indexAddr_sl  underlying22 ty77 Sr Sr rfl (gb (by first | assumption | omega))) ?_
  refine Jl rfl ty77 Sr (Js rfl (step_callv0 (aT := [_]) Sr (hp _ (nth_mem hlt)) ⟨Sr, trivial⟩ he) (JL_nil ?_))
  refine J_cond Sr (fun h16 => ?_) (fun h16 => ?_)
  ·
   try simp only [NF] at h16
   refine Jr (Jm rfl (Ja rfl (JL_nil (J_ret ?_))))
   refine K_retv (rv := .tmp 4) rfl () (.tmp Sr) (Sub.int ?_)
   rw [hv, hd]; simp only [findI]; rw [if_pos h16]
  try simp only [NF] at h16
  refine J_skip (J_region (Js rfl (step_add Sr Sr z6) (Jm rfl (JL_nil ?_))))
  refine K_againL (σ := Nat) (s := i) (i + 1) zO ?_ (zU) (LSub.rfl)
  refine ⟨by omega, ?_⟩
  rw [hv, hd]; simp only [findI]; rw [if_neg (by simp [h16])]; simp
 try simp only [NF] at h9
 refine J_exit (Jr (Ja rfl (JL_nil (J_ret ?_))))
 refine K_retv (rv := .tmp 4) rfl () (.tmp Sr) (Sub.int ?_)
 rw [hv, List.drop_of_length_le zG]; rfl
theorem IndexS_spec (l : List ByteArray) (v : ByteArray) (hl : l.length ≤ 1000000000000) : Fun1 prog 184 [tSl rStr l, tV (.string v)] (tV (.int .i64 (findI (fun x => decide (v = x)) 0 l))) := by
 refine Spec.enter func184 rfl rfl fun h0 w0 fr0 => ?_
 refine Jr (Ja rfl (JL_nil (J_seq (Jr (Jm rfl ?_)))))
 refine Js rfl (step_len_sl underlying60 Sr) (Jm rfl (JL_nil (J_block ?_)))
 refine J_loopL (σ := Nat) (fun i => i ≤ l.length ∧ findI (fun x => decide (v = x)) 0 l = findI (fun x => decide (v = x)) i (l.drop i)) (fun i => upd (upd (upd (upd env0 0 (tSl rStr l)) 1 (tV (.string v))) 7 (tV (.int .i64 l.length))) 8 (tV (.int .i64 i))) (fun i => []) (fun i => l.length - i) 0 ⟨by omega, by simp⟩ (zU) (LSub.rfl) ?_
 rintro i ⟨hi, hv⟩
 refine Jr (Js rfl (step_lss Sr Sr) (JL_nil (J_seq ?_)))
 refine J_cond Sr (fun h9 => ?_) (fun h9 => ?_)
 ·
  try simp only [NF] at h9
  have hlt : i < l.length := by omega
  have hd := dropB hlt
  refine J_skip (J_seq (J_block (Jr (Jm rfl (Ja rfl ?_)))))
  refine JL_nil (Jr (Jm rfl (Jm rfl (Jm rfl ?_))))
  refine Js rfl (step_indexAddr_sl  underlying60 ty9 Sr Sr rfl (gb (by first | assumption | omega))) ?_
  refine Jl rfl ty9 Sr (Js rfl (step_eql_str Sr Sr) (JL_nil ?_))
  refine J_cond Sr (fun h16 => ?_) (fun h16 => ?_)
  ·
   try simp only [NF] at h16
   have he : v = nth l i := by first | exact h16 | simpa using h16
   refine Jr (Jm rfl (Ja rfl (JL_nil (J_ret ?_))))
   refine K_ret1' (rv := .tmp 4) rfl () (Sel.all _) (.tmp Sr) (Frz.sub (Sub.int ?_))
   rw [hv, hd]; simp [findI, he]
  try simp only [NF] at h16
  have hne : ¬ v = nth l i := by first | exact h16 | simpa using h16
  refine J_skip (J_region (Js rfl (step_add Sr Sr z6) (Jm rfl (JL_nil ?_))))
  refine K_againL (σ := Nat) (s := i) (i + 1) zO ?_ (zU) (LSub.rfl)
  refine ⟨by omega, ?_⟩
  rw [hv, hd]; simp [findI, hne]
 try simp only [NF] at h9
 refine J_exit (Jr (Ja rfl (JL_nil (J_ret ?_))))
 refine K_ret1' (rv := .tmp 4) rfl () (Sel.all _) (.tmp Sr) (Frz.sub (Sub.int ?_))
 rw [hv, List.drop_of_length_le zG]; rfl
theorem ContainsS_spec (l : List ByteArray) (v : ByteArray) (hl : l.length ≤ 1000000000000) : Fun1 prog 159 [tSl rStr l, tV (.string v)] (tV (.bool (l.any fun x => decide (v = x)))) := by
 refine Spec.enter func159 rfl rfl fun h0 w0 fr0 => ?_
 refine Jr (Ja rfl (JL_nil (Jr (Jm rfl (Jm rfl ?_)))))
 refine Js rfl (step_call0 (IndexS_spec _ _ hl) ⟨Sr, Sr, trivial⟩ call184) (Js rfl (step_geq Sr Sr) (Ja rfl (JL_nil (J_ret ?_))))
 refine K_ret1' (rv := .tmp 4) rfl () (Sel.all _) (.tmp Sr) (Frz.sub (Sub.bool ?_))
 rw [Bool.eq_iff_iff, decide_eq_true_eq]; exact (findI_bd _ l 0 zG).2.2
open Go Go.Proofs Go.Proofs.Tryz
section
variable {C : Cx} {E : Env} {L : List SP} {d : Option Nat} {ty : Nat} {pos : String} {af : Array Edge} {g : Option (Nat × Bool)}
end
theorem rall_t {n : Nat} {f : Nat → Bool} (h : ∀ k, k < n → f k = true) : (List.range n).all f = true := by
  rw [List.all_eq_true]; intro x hx; exact h x (List.mem_range.1 hx)
theorem rall_f {n i : Nat} {f : Nat → Bool} (hi : i < n) (h : f i = false) : (List.range n).all f = false := by
  rw [List.all_eq_false]; exact ⟨i, List.mem_range.2 hi, by simp [h]⟩
open Go Go.Proofs Go.Proofs.Tryz
theorem list_extA {α : Type} [Inhabited α] {l m : List α} (h : l.length = m.length) (hn : ∀ i, i < l.length → nth l i = nth m i) : l = m := by
  refine List.ext_getElem h fun i h1 h2 => ?_
  have := hn i h1
  rwa [nth_get h1, nth_get h2] at this
def letC (c : Int) : Bool := (decide (97 ≤ c) && decide (c ≤ 122)) || (decide (65 ≤ c) && decide (c ≤ 90))
def digC (c : Int) : Bool := (decide (48 ≤ c) && decide (c ≤ 57)) || decide (c = 95)
def nmC (s : ByteArray) (i : Nat) : Bool := letC (nth (bytesOf s) i) || (decide (0 < i) && digC (nth (bytesOf s) i))
def nameM (s : ByteArray) : Bool := (List.range s.size).all (nmC s) && (!decide (s = ⟨#[]⟩) && decide ((s.size : Int) ≤ 24))
def fitM (kind : Int) (v : GValue) : Bool := validV v && (decide (v.Kind = 0) || decide (v.Kind = kind))
def findT (s : GSchema) (n : ByteArray) : Int := findI (fun t => decide (t.Name = n)) 0 s.Tables
def columnT (t : GTable) (n : ByteArray) : Int :=
  if 0 ≤ findI (fun a => decide (a.Name = n)) 0 t.Attrs then findI (fun a => decide (a.Name = n)) 0 t.Attrs
  else findI (fun a => a.Was.any fun x => decide (n = x)) 0 t.Attrs
def namesL (l : List GAttr) : List ByteArray := l.flatMap fun a => a.Name :: a.Was
theorem names_snoc (l : List GAttr) (a : GAttr) : namesL (l ++ [a]) = (namesL l ++ [a.Name]) ++ a.Was := by simp [namesL]
theorem names_len {l : List GAttr} {M : Nat} (h : ∀ a ∈ l, a.Was.length ≤ M) : (namesL l).length ≤ l.length * (M + 1) := by
  induction l with
  | nil => simp [namesL]
  | cons a l ih =>
    have h1 := h a List.mem_cons_self
    have h2 := ih fun x hx => h x (List.mem_cons_of_mem _ hx)
    have e : namesL (a :: l) = (a.Name :: a.Was) ++ namesL l := by simp [namesL]
    rw [e, List.length_append, List.length_cons, List.length_cons, Nat.add_mul]
    omega
/-- Sizes that hold of what is handed in. -/
structure TabSz (t : GTable) : Prop where
  nm : t.Name.size ≤ 9223372036854775807
  at' : t.Attrs.length ≤ 1000000000
  key : t.Key.length ≤ 1000000000000
  was : ∀ a ∈ t.Attrs, a.Was.length ≤ 1000000
  nms : ∀ s ∈ namesL t.Attrs, s.size ≤ 9223372036854775807
structure SchSz (s : GSchema) : Prop where
  tabs : s.Tables.length ≤ 1000000000000
  tab : ∀ t ∈ s.Tables, TabSz t
set_option maxHeartbeats 1000000 in
theorem name_spec (s : ByteArray) (hs : s.size ≤ 9223372036854775807) : Fun1 prog 135 [tV (.string s)] (tV (.bool (nameM s))) := by
 refine Spec.enter func135 rfl rfl fun h0 w0 fr0 => ?_
 refine Jr (Ja rfl (JL_nil (J_seq (Jr (Jm rfl ?_)))))
 refine Js rfl (step_len_str underlying9 Sr) (Jm rfl (JL_nil (J_block ?_)))
 refine J_loopL (σ := Nat) (fun i => i ≤ s.size ∧ ∀ k, k < i → nmC s k = true) (fun i => upd (upd (upd env0 0 (tV (.string s))) 6 (tV (.int .i64 s.size))) 7 (tV (.int .i64 i))) (fun i => []) (fun i => s.size - i) 0 ⟨by omega, fun k hk => by omega⟩ (zU) (LSub.rfl) ?_
 rintro i ⟨hi, hv⟩
 refine Jr (Js rfl (step_lss Sr Sr) (JL_nil (J_seq ?_)))
 refine J_cond Sr (fun h8 => ?_) (fun h8 => ?_)
 ·
  try simp only [NF] at h8
  have hlt : i < s.size := by omega
  refine J_skip (J_seq (J_block (Jr (Jm rfl (Ja rfl ?_)))))
  refine JL_nil (Jr (Jm rfl (Jm rfl ?_)))
  refine Js rfl (step_index_str (i := i) underlying9 Sr Sr (by rfl) (by exact hlt)) ?_
  refine Ja rfl (JL_nil (J_block (J_seq (Jr (Jm rfl ?_)))))
  refine Js rfl (step_geq Sr Sr) (Jm rfl ?_)
  refine Jk rfl Sr rfl (step_move Sr) ?_
  refine Jg rfl Sr rfl (fun hw => step_leq (Sub.w hw) Sr) (Js rfl (step_pick_and Sr Sr) (Ja rfl (JL_nil ?_)))
  refine J_cond Sr (fun hc2 => ?_) (fun hc2 => ?_)
  ·
   try simp only [NF] at hc2
   refine J_skip ?_
   refine J_cond Sr (fun hc3 => ?_) (fun hc3 => ?_)
   ·
    try simp only [NF] at hc3
    refine J_skip (J_region (Js rfl (step_add Sr Sr z6) (Jm rfl (JL_nil ?_))))
    refine K_againL (σ := Nat) (s := i) (i + 1) zO ?_ (zU) (LSub.rfl)
    refine ⟨by omega, fun k hk => ?_⟩
    by_cases e : k = i
    ·
     subst e; first | exact hnm | (simp_all [nmC, letC, digC]; done) | (simp_all [nmC, letC, digC]; omega)
    exact hv k zG
   try simp only [NF] at hc3
   first | contradiction | omega | (simp_all; done)
  try simp only [NF] at hc2
  refine J_region (Jm rfl (Js rfl (step_geq Sr Sr) (Jm rfl ?_)))
  refine Jk rfl Sr rfl (step_move Sr) ?_
  refine Jg rfl Sr rfl (fun hw => step_leq (Sub.w hw) Sr) (Js rfl (step_pick_and Sr Sr) (Ja rfl (JL_nil ?_)))
  refine J_cond Sr (fun hc4 => ?_) (fun hc4 => ?_)
  ·
   try simp only [NF] at hc4
   refine J_skip (J_region (Js rfl (step_add Sr Sr z6) (Jm rfl (JL_nil ?_))))
   refine K_againL (σ := Nat) (s := i) (i + 1) zO ?_ (zU) (LSub.rfl)
   refine ⟨by omega, fun k hk => ?_⟩
   by_cases e : k = i
   ·
    subst e; first | exact hnm | (simp_all [nmC, letC, digC]; done) | (simp_all [nmC, letC, digC]; omega)
   exact hv k zG
  try simp only [NF] at hc4
  refine Jr (Jm rfl (Js rfl (step_gtr Sr Sr) (Jm rfl ?_)))
  refine Jk rfl Sr rfl (step_move Sr) ?_
  refine Jg rfl Sr rfl (fun hw => step_geq (Sub.w hw) Sr) (Jg rfl Sr rfl (fun hw => step_move (Sub.w hw)) ?_)
  refine Ji rfl Sr rfl (step_move Sr) ?_
  refine Jh rfl Sr rfl (fun hw => step_leq (Sub.w hw) Sr) (Jg rfl Sr rfl (fun hw => step_pick_and (Sub.w hw) (Sub.ww hw)) (Jg rfl Sr rfl (fun hw => step_move (Sub.w hw)) ?_))
  refine Ji rfl Sr rfl (step_move Sr) ?_
  refine Jh rfl Sr rfl (fun hw => step_eql (Sub.w hw) Sr) (Jg rfl Sr rfl (fun hw => step_pick_or (Sub.w hw) (Sub.ww hw)) (Js rfl (step_pick_and Sr Sr) (Ja rfl (JL_nil ?_))))
  refine J_cond Sr (fun hc5 => ?_) (fun hc5 => ?_)
  ·
   try simp only [NF] at hc5
   refine J_skip (J_region (Js rfl (step_add Sr Sr z6) (Jm rfl (JL_nil ?_))))
   refine K_againL (σ := Nat) (s := i) (i + 1) zO ?_ (zU) (LSub.rfl)
   refine ⟨by omega, fun k hk => ?_⟩
   by_cases e : k = i
   ·
    subst e; first | exact hnm | (simp_all [nmC, letC, digC]; done) | (simp_all [nmC, letC, digC]; omega)
   exact hv k zG
  try simp only [NF] at hc5
  refine Jr (Ja rfl (JL_nil (J_ret ?_)))
  refine K_ret1 (t := 2) rfl () ?_
  refine Sub.bool ?_
  have : nmC s i = false := by simp_all [nmC, letC, digC]; omega
  simp only [nameM, rall_f hlt this]; simp
 try simp only [NF] at h8
 have hall : (List.range s.size).all (nmC s) = true := rall_t (fun k hk => hv k zG)
 refine J_exit (Jr (Jm rfl (Js rfl (step_neq_str Sr Sr) (Jm rfl ?_))))
 refine Jk rfl Sr rfl (step_move Sr) ?_
 refine Jg rfl Sr rfl (fun hw => step_len_str underlying9 (Sub.w hw)) (Jg rfl Sr rfl (fun hw => step_leq (Sub.w hw) Sr) (Js rfl (step_pick_and Sr Sr) (Ja rfl (JL_nil (J_ret ?_)))))
 refine K_ret1 (t := 2) rfl () ?_
 refine Sub.bool ?_
 simp only [nameM, hall]; simp
theorem fit_spec (kind : Int) (v : GValue) : Fun1 prog 61 [tV (.int .i64 kind), rValue.ty v] (tV (.bool (fitM kind v))) := by
 refine Spec.enter func61 rfl rfl fun h0 w0 fr0 => ?_
 refine Jr (Js rfl (step_box (R := rValue) Sr) (Ja rfl (JL_nil (Jr (Jl rfl ty62 Sr ?_)))))
 refine Js rfl (step_call0 (Valid_spec _) ⟨Sr, trivial⟩ call48) (Jm rfl ?_)
 refine Jk rfl Sr rfl (step_fieldAddr so62 Sr rfl) ?_
 refine Jg rfl Sr rfl (fun hw => step_load_ptr ty3 (Sub.w hw)) (Jg rfl Sr rfl (fun hw => step_eql (Sub.w hw) Sr) (Jg rfl Sr rfl (fun hw => step_move (Sub.w hw)) ?_))
 refine Ji rfl Sr rfl (step_fieldAddr so62 Sr rfl) ?_
 refine Jh rfl Sr rfl (fun hw => step_load_ptr ty3 (Sub.w hw)) ?_
 refine Ji rfl Sr rfl (step_move Sr) ?_
 refine Jh rfl Sr rfl (fun hw => step_eql (Sub.w hw) (Sub.w hw)) (Jg rfl Sr rfl (fun hw => step_pick_or (Sub.w hw) (Sub.ww hw)) (Js rfl (step_pick_and Sr Sr) (Ja rfl (JL_nil (J_ret ?_)))))
 exact K_ret1 (t := 4) rfl () Sr
theorem findF_spec (t : GTable) (n : ByteArray) : Fun1 prog 141 [rTable.ty t, tPtr rStr n] (tV (.bool (decide (t.Name = n)))) := by
 refine Spec.enter func141 rfl rfl fun h0 w0 fr0 => ?_
 refine Jr (Js rfl (step_box (R := rTable) Sr) (Ja rfl (JL_nil (Jr (Js rfl (step_fieldAddr so77 Sr rfl) ?_)))))
 refine Jl rfl ty9 Sr (Jl rfl ty9 Sr (Js rfl (step_eql_str Sr Sr) (Ja rfl (JL_nil (J_ret ?_)))))
 exact K_ret1 (t := 3) rfl () Sr
theorem Find_spec (s : GSchema) (n : ByteArray) (hl : s.Tables.length ≤ 1000000000000) : Fun1 prog 101 [rSchema.ty s, tV (.string n)] (tV (.int .i64 (findT s n))) := by
 refine Spec.enter func101 rfl rfl fun h0 w0 fr0 => ?_
 refine Jr (Js rfl (step_box (R := rSchema) Sr) (Js rfl (step_box (R := rStr) Sr) (Ja rfl (JL_nil (Jr ?_)))))
 refine Js rfl (step_fieldAddr so24 Sr rfl) (Jl rfl ty22 Sr (Js rfl (step_makeFunc (As := [_]) ⟨Sr, trivial⟩) (Js rfl (step_call0 (IndexFuncTab_spec s.Tables hl 141 [tPtr rStr n] (fun t => decide (t.Name = n)) (fun x _ => findF_spec x n) call141) ⟨Sr, Sr, trivial⟩ call140) (Ja rfl (JL_nil ?_)))))
 refine J_ret ?_
 exact K_ret1 (t := 4) rfl () Sr
theorem colF1_spec (t : GAttr) (n : ByteArray) : Fun1 prog 157 [rAttr.ty t, tPtr rStr n] (tV (.bool (decide (t.Name = n)))) := by
 refine Spec.enter func157 rfl rfl fun h0 w0 fr0 => ?_
 refine Jr (Js rfl (step_box (R := rAttr) Sr) (Ja rfl (JL_nil (Jr (Js rfl (step_fieldAddr so64 Sr rfl) ?_)))))
 refine Jl rfl ty9 Sr (Jl rfl ty9 Sr (Js rfl (step_eql_str Sr Sr) (Ja rfl (JL_nil (J_ret ?_)))))
 exact K_ret1 (t := 3) rfl () Sr
theorem colF2_spec (t : GAttr) (n : ByteArray) (hl : t.Was.length ≤ 1000000000000) : Fun1 prog 158 [rAttr.ty t, tPtr rStr n] (tV (.bool (t.Was.any fun x => decide (n = x)))) := by
 refine Spec.enter func158 rfl rfl fun h0 w0 fr0 => ?_
 refine Jr (Js rfl (step_box (R := rAttr) Sr) (Ja rfl (JL_nil (Jr (Js rfl (step_fieldAddr so64 Sr rfl) ?_)))))
 refine Jl rfl ty60 Sr (Jl rfl ty9 Sr (Js rfl (step_call0 (ContainsS_spec _ _ hl) ⟨Sr, Sr, trivial⟩ call159) (Ja rfl (JL_nil (J_ret ?_)))))
 exact K_ret1 (t := 3) rfl () Sr
theorem Column_spec (t : GTable) (n : ByteArray) (hl : t.Attrs.length ≤ 1000000000000) (hw : ∀ a ∈ t.Attrs, a.Was.length ≤ 1000000000000) : Fun1 prog 114 [rTable.ty t, tV (.string n)] (tV (.int .i64 (columnT t n))) := by
 refine Spec.enter func114 rfl rfl fun h0 w0 fr0 => ?_
 refine Jr (Js rfl (step_box (R := rTable) Sr) (Js rfl (step_box (R := rStr) Sr) (Ja rfl (JL_nil (J_seq ?_)))))
 refine Jr (Js rfl (step_fieldAddr so77 Sr rfl) (Jl rfl ty28 Sr (Js rfl (step_makeFunc (As := [_]) ⟨Sr, trivial⟩) (Js rfl (step_call0 (IndexFuncAttr_spec t.Attrs hl 157 [tPtr rStr n] (fun a => decide (a.Name = n)) (fun x _ => colF1_spec x n) call157) ⟨Sr, Sr, trivial⟩ call93) (Ja rfl ?_)))))
 refine JL_nil (Jr (Jm rfl (Js rfl (step_geq Sr Sr) (JL_nil ?_))))
 refine J_cond Sr (fun h11 => ?_) (fun h11 => ?_)
 ·
  try simp only [NF] at h11
  refine Jr (Jm rfl (Ja rfl (JL_nil (J_ret ?_))))
  refine K_ret1 (t := 4) rfl () (Sub.int ?_)
  rw [columnT, if_pos h11]
 try simp only [NF] at h11
 refine J_skip (Jr (Js rfl (step_fieldAddr so77 Sr rfl) (Jl rfl ty28 Sr (Js rfl (step_makeFunc (As := [_]) ⟨Sr, trivial⟩) (Js rfl (step_call0 (IndexFuncAttr_spec t.Attrs hl 158 [tPtr rStr n] (fun a => a.Was.any fun x => decide (n = x)) (fun x hx => colF2_spec x n (hw x hx)) call158) ⟨Sr, Sr, trivial⟩ call93) ?_)))))
 refine Ja rfl (JL_nil (J_ret ?_))
 refine K_ret1 (t := 4) rfl () (Sub.int ?_)
 rw [columnT, if_neg zG]
theorem acolF_spec (t : GAttr) (n : ByteArray) : Fun1 prog 142 [rAttr.ty t, tPtr rStr n] (tV (.bool (decide (t.Name = n)))) := by
 refine Spec.enter func142 rfl rfl fun h0 w0 fr0 => ?_
 refine Jr (Js rfl (step_box (R := rAttr) Sr) (Ja rfl (JL_nil (Jr (Js rfl (step_fieldAddr so64 Sr rfl) ?_)))))
 refine Jl rfl ty9 Sr (Jl rfl ty9 Sr (Js rfl (step_eql_str Sr Sr) (Ja rfl (JL_nil (J_ret ?_)))))
 exact K_ret1 (t := 3) rfl () Sr
def columnL (l : List GAttr) (n : ByteArray) : Int := findI (fun a => decide (a.Name = n)) 0 l
theorem acolumn_spec (l : List GAttr) (n : ByteArray) (hl : l.length ≤ 1000000000000) : Fun1 prog 102 [tSl rAttr l, tV (.string n)] (tV (.int .i64 (columnL l n))) := by
 refine Spec.enter func102 rfl rfl fun h0 w0 fr0 => ?_
 refine Jr (Js rfl (step_box (R := rStr) Sr) (Ja rfl (JL_nil (Jr (Jm rfl ?_)))))
 refine Js rfl (step_makeFunc (As := [_]) ⟨Sr, trivial⟩) (Js rfl (step_call0 (IndexFuncAttr_spec l hl 142 [tPtr rStr n] (fun a => decide (a.Name = n)) (fun x _ => acolF_spec x n) call142) ⟨Sr, Sr, trivial⟩ call93) (Ja rfl (JL_nil (J_ret ?_))))
 exact K_ret1 (t := 4) rfl () Sr
theorem nameF_spec (s : ByteArray) (hs : s.size ≤ 9223372036854775807) : Fun1 prog 137 [tV (.string s)] (tV (.bool (!nameM s))) := by
 refine Spec.enter func137 rfl rfl fun h0 w0 fr0 => ?_
 refine Jr (Ja rfl (JL_nil (Jr (Jm rfl (Js rfl (step_call0 (name_spec _ hs) ⟨Sr, trivial⟩ call135) ?_)))))
 refine Js rfl (step_not Sr) (Ja rfl (JL_nil (J_ret ?_)))
 exact K_ret1 (t := 2) rfl () Sr
open Go
def fldAt (v : Value) (k i o : Nat) : Value := match v with
  | .slice (some a) _ _ => .pointer (some ⟨a.block, a.off + i * k + o, none⟩)
  | _ => undef
theorem splice_in {β : Type} (l c cz : List β) (a K o k : Nat) (hc : c.length = K) (ho : o + k ≤ K) (hl : a + K ≤ l.length) (hg : ∀ j, j < K → l[a + j]? = c[j]?) :
    l.take a ++ (c.take o ++ cz ++ c.drop (o + k)) ++ l.drop (a + K) = l.take (a + o) ++ cz ++ l.drop (a + o + k) := by
  have e : l = l.take a ++ (c ++ l.drop (a + K)) := by
    have e1 : (l.drop a).take K = c := by
      apply List.ext_getElem?
      intro j
      rw [List.getElem?_take]
      by_cases hj : j < K
      · rw [if_pos hj, List.getElem?_drop, hg j hj]
      · rw [if_neg hj, List.getElem?_eq_none (by omega)]
    have e2 : l.drop a = c ++ l.drop (a + K) := by
      rw [← e1, ← List.drop_drop, List.take_append_drop]
    rw [← e2, List.take_append_drop]
  have hA : (l.take a).length = a := by simp; omega
  have h1 : l.take (a + o) = l.take a ++ c.take o := by
    conv => lhs; rw [e]
    rw [List.take_append, hA, List.take_of_length_le (by omega)]
    congr 1
    rw [List.take_append, hc, show a + o - a = o by omega, show o - K = 0 by omega]; simp
  have h2 : l.drop (a + o + k) = c.drop (o + k) ++ l.drop (a + K) := by
    conv => lhs; rw [e]
    rw [List.drop_append, hA, List.drop_of_length_le (by omega), List.nil_append]
    rw [List.drop_append, hc, show a + o + k - a = o + k by omega, show o + k - K = 0 by omega]; simp
  rw [h1, h2]; simp [List.append_assoc]
section
variable {C : Cx} {E : Env} {L : List SP} {d : Option Nat} {ty : Nat} {pos : String} {af : Array Edge} {g : Option (Nat × Bool)}
theorem step_fieldAddr_elem {α : Type} {T e n i : Nat} {fs : List (SF α)} {x : Operand} {v : Value} {xs : List α} {f : SF α} {S : List SP} (So : StructOf C.P T fs) (hx : Sub (opTy E x) (tV (elemAt v (SF.width fs) i))) (hf : fs[n]? = some f)
    (sel : Sel L [own e (rStruct fs) v xs] S) (hi : i < xs.length) : Step1 C ⟨d, .fieldAddr T x n, ty, pos, af, g⟩ E L (tV (fldAt v (SF.width fs) i (SF.off fs n))) :=
  Step.of_run (by intro c h; cases h) fun a w h m l sp st fr => by
    have hp : a.eval x = elemAt v (SF.width fs) i := fr.get hx
    obtain ⟨m1, m2, d12, rfl, ho, s2⟩ := sel.one.1 st
    rcases ho with ⟨rfl, rfl, _⟩ | ⟨b, cap, cur, rfl, rfl, hl, hm, hs, r⟩
    · simp at hi
    · refine ⟨(), _, w, h, _, ?_, HL.refl, sp, st, rfl⟩
      simp only [elemAt, Nat.zero_add] at hp
      have := So.fieldAt hf b (i * SF.width fs) w
      simp [execOp, hp, this, fldAt]
theorem step_store_elemfld {α β : Type} {T e i n : Nat} {fs : List (SF α)} {R : Rp β} {z : β} {x u : Operand} {v : Value} {xs : List α} {y y' : α} {S : List SP} (hR : TyOf C.P T R) (hx : Sub (opTy E x) (tV (fldAt v (SF.width fs) i (SF.off fs n)))) (hv : Sub (opTy E u) (R.ty z))
    (sel : Sel L [own e (rStruct fs) v xs] S) (hy : xs[i]? = some y) (hu : SF.upd y y' R z fs n) :
    Step C ⟨d, .store T x u, ty, pos, af, g⟩ E L (fun _ : Unit => tAny) (fun _ => own e (rStruct fs) v (xs.set i y') :: S) :=
  Step.of_skip (by intro c h; cases h) fun a w h m l sp st fr => by
    have hp : a.eval x = fldAt v (SF.width fs) i (SF.off fs n) := fr.get hx
    have rz := R.cells (fr.get hv)
    have hi : i < xs.length := (List.getElem?_eq_some_iff.1 hy).1
    obtain ⟨m1, m2, d12, rfl, ho, s2⟩ := sel.one.1 st
    rcases ho with ⟨rfl, rfl, _⟩ | ⟨b, cap, cur, rfl, rfl, hl, hm, hs, r⟩
    · simp at hi
    · have hb := sp.heap_own
      have hK : (rStruct fs).k = SF.width fs := rfl
      rw [hK] at r hs
      obtain ⟨c, rc, hc⟩ := relAll_get r hy
      rw [hK] at hc
      have rc : SF.rel h y fs c := rc
      have hcl := SF.rel_len rc
      obtain ⟨rn, hle0⟩ := SF.rel_set rz hu rc
      rw [hcl] at hle0
      have hle : i * SF.width fs + SF.width fs ≤ xs.length * SF.width fs := by rw [← Nat.succ_mul]; exact Nat.mul_le_mul_right _ hi
      have hle2 : xs.length * SF.width fs ≤ cap * SF.width fs := Nat.mul_le_mul_right _ hl
      have hrz := R.len rz
      obtain ⟨w', hrun, hoth, hsame, hnew⟩ := run_storeVar_cells (P := C.P) (b := b) (o := i * SF.width fs + SF.off fs n) (v := a.eval u) hR.size (by simpa using hrz) hb (by rw [hs]; omega) (R.one rz)
      have rn2 := relAll_set (R := rStruct fs) rn hi r
      rw [hK] at rn2
      refine ⟨(), w', h, (PH.one b _).join m2, ?_, HL.same hsame, Sep.write d12 sp (fun b' hne _ => hoth b' hne) hnew, ?_⟩
      · simp only [fldAt, Nat.zero_add] at hp
        simp [execOp, Instr.storeAt, Instr.sureAddr, hp, hrun]
      · refine ⟨_, m2, PH.one_disj_iff.2 (PH.one_disj_iff.1 d12), rfl, .inr ⟨b, cap, _, by simp, rfl, by simpa using hl, hm, ?_, ?_⟩, s2⟩
        · simp only [Array.length_toList] at hrz
          simp only [List.size_toArray, List.length_append, List.length_take, List.length_drop, Array.length_toList, hs, hrz, hK]
          omega
        · have e0 := splice_in cur.toList c (a.eval u).cells.toList (i * SF.width fs) (SF.width fs) (SF.off fs n) R.k hcl hle0 (by simp [hs]; omega) (fun j hj => by
            have h1 := hc j (c[j]'(by omega)) (List.getElem?_eq_getElem (by omega))
            rw [List.getElem?_take] at h1
            split at h1
            · rw [h1, List.getElem?_eq_getElem (by omega)]
            · cases h1)
          have e1 := list_take_splice cur.toList (c.take (SF.off fs n) ++ (a.eval u).cells.toList ++ c.drop (SF.off fs n + R.k)) (i * SF.width fs) (SF.width fs) (xs.length * SF.width fs) hle (by simpa [hs] using hle2) (by simp only [List.length_append, List.length_take, List.length_drop, hrz, hcl]; omega)
          rw [List.length_set]
          show relAll (rStruct fs) h _ (List.take (xs.length * SF.width fs) (List.take (i * SF.width fs + SF.off fs n) cur.toList ++ (a.eval u).cells.toList ++ List.drop (i * SF.width fs + SF.off fs n + R.k) cur.toList).toArray.toList)
          rw [List.toList_toArray, ← e0, e1]
          exact rn2
end
open Go
section
variable {C : Cx} {E : Env} {L : List SP} {d : Option Nat} {ty : Nat} {pos : String} {af : Array Edge} {g : Option (Nat × Bool)}
theorem step_load_elemfld {α : Type} {T e i n : Nat} {fs : List (SF α)} {f : SF α} {x : Operand} {v : Value} {xs : List α} {y : α} {S : List SP} (hR : TyOf C.P T f.R) (hx : Sub (opTy E x) (tV (fldAt v (SF.width fs) i (SF.off fs n)))) (hf : fs[n]? = some f)
    (sel : Sel L [own e (rStruct fs) v xs] S) (hy : xs[i]? = some y) : Step1 C ⟨d, .load T x, ty, pos, af, g⟩ E L (f.R.ty (f.get y)) :=
  Step.of_run (by intro c h; cases h) fun a w h m l sp st fr => by
    have hp : a.eval x = fldAt v (SF.width fs) i (SF.off fs n) := fr.get hx
    obtain ⟨m1, m2, d12, rfl, ho, s2⟩ := sel.one.1 st
    rcases ho with ⟨rfl, rfl, _⟩ | ⟨b, cap, cur, rfl, rfl, hl, hm, hs, r⟩
    · simp at hy
    · have hb := sp.heap_own
      have hK : (rStruct fs).k = SF.width fs := rfl
      obtain ⟨c0, rc0, hc0⟩ := relAll_get r hy
      rw [hK] at hc0
      have rc0 : SF.rel h y fs c0 := rc0
      obtain ⟨c, rc, hc⟩ := SF.rel_field rc0 hf
      have := run_loadVar_cells (b := b) (o := i * SF.width fs + SF.off fs n) (w := w) hR.agg hR.size (f.R.len rc) f.R.scalar (fun j u hu => by
        rw [inw_cells (h := h) hb]
        have h1 := hc0 _ _ (hc j u hu)
        rw [List.getElem?_take] at h1
        split at h1
        · rw [show i * SF.width fs + SF.off fs n + j = i * SF.width fs + (SF.off fs n + j) by omega]; simpa using h1
        · cases h1)
      refine ⟨(), packV f.R.agg c, w, h, _, ?_, HL.refl, sp, st, f.R.pack rc⟩
      simp only [fldAt, Nat.zero_add] at hp
      simp [execOp, Instr.loadAt, Instr.sureAddr, hp, this]
end
open Go
section
variable {C : Cx} {E : Env} {L : List SP} {d : Option Nat} {ty : Nat} {pos : String} {af : Array Edge} {g : Option (Nat × Bool)}
end
/-- A fact that a slot's type tells. -/
theorem K_fact {C : Cx} {k : Act → World → Prop} {E : Env} {L : List SP} {φ : Prop} (t : Nat) (hf : ∀ h v, (E t).p h v → φ) (hk : φ → K C k E L) : K C k E L := fun a w p => by
  obtain ⟨h1, h2, h, m, l, sp, st, f⟩ := id p
  exact hk (hf _ _ (f t)) a w p
/-- A row of one's own tells how its slice is written. -/
theorem K_lenOwn {α : Type} {e : Nat} {R : Rp α} {v : Value} {xs : List α} {C : Cx} {k : Act → World → Prop} {E : Env} {L S : List SP} (sel : Sel L [own e R v xs] S) (hk : (∃ p cap, v = .slice p xs.length cap) → K C k E L) : K C k E L := fun a w p => by
  obtain ⟨h1, h2, h, m, l, sp, st, f⟩ := id p
  obtain ⟨m1, m2, d12, rfl, ho, s2⟩ := sel.one.1 st
  refine hk ?_ a w p
  rcases ho with ⟨rfl, rfl, rfl⟩ | ⟨g, cap, cur, rfl, rfl, hl, hm, hs, hr⟩
  · exact ⟨none, 0, rfl⟩
  · exact ⟨_, cap, rfl⟩
section
variable {C : Cx} {E : Env} {L : List SP} {d : Option Nat} {ty : Nat} {pos : String} {af : Array Edge} {g : Option (Nat × Bool)}
theorem step_lenV {T e n cap : Nat} {p : Option Addr} {x : Operand} (hu : C.P.underlying T = some (.slice e)) (hx : Sub (opTy E x) (rV.ty (.slice p n cap))) :
    Step1 C ⟨d, .call { callee := .builtin .len, args := #[x], argTypes := #[T] }, ty, pos, af, g⟩ E L (tV (.int .i64 n)) :=
  Step.of_same (by intro c h; cases h) fun a w h hw f => by
    have hv : a.eval x = .slice p n cap := (f.get hx).1
    exact ⟨.int .i64 n, by simp [execOp, resolve, invoke, builtin, Builtin.len_, hv, run_underlying hu, goInt], rfl⟩
end
open Go Go.Proofs Go.Proofs.Tryz
def eqL (p : GAttr → GAttr → Bool) (a b : List GAttr) : Bool := decide (a.length = b.length) && (List.range a.length).all fun i => p (nth a i) (nth b i)
def alikeA (x y : GAttr) : Bool := decide (x.Name = y.Name) && decide (x.Kind = y.Kind)
def alikeM (a b : List GAttr) : Bool := eqL alikeA a b
def pickOk (n : Nat) (cols : List Int) : Bool := cols.all fun c => decide (0 ≤ c) && decide (c < n)
def pickL (l : List GAttr) (cols : List Int) : List GAttr := cols.map fun c => nth l c.toNat
def pickM (l : List GAttr) (cols : List Int) : List GAttr := if pickOk l.length cols = true then pickL l cols else []
def sideM (x : GSide) (n : Int) : Bool := if x.Var = -1 then decide (x.Col = 0) && validV x.Value else decide (x.Var = 0) && decide (0 ≤ x.Col) && decide (x.Col < n) && decide (x.Value = ⟨0, 0, ⟨#[]⟩⟩)
def testOk (t : GTest) (n : Int) : Bool := decide (1 ≤ t.Op) && decide (t.Op ≤ 4) && sideM t.Left n && sideM t.Right n && (decide (t.Left.Var = 0) || decide (t.Right.Var = 0))
def renA (t : GTable) (l : List GAttr) (i : Nat) : GAttr := if i < l.length ∧ columnT t (nth l i).Name = i then { nth t.Attrs i with Name := (nth l i).Name } else nth t.Attrs i
def tabI (t : GTable) (l : List GAttr) (n : Nat) : List GAttr := (List.range t.Attrs.length).map fun i => if i < n then renA t l i else nth t.Attrs i
def tableL (t : GTable) (l : List GAttr) : List GAttr := (List.range t.Attrs.length).map (renA t l)
def joinOk (a b : List GAttr) : Bool := b.all fun x => decide (columnL a x.Name < 0) || decide ((nth a (columnL a x.Name).toNat).Kind = x.Kind)
def joinL (a b : List GAttr) : List GAttr := a ++ b.filter fun x => decide (columnL a x.Name < 0)
def renOk (p : GPlan) : Bool := decide (0 ≤ p.Col ∧ p.Col < (nth p.Kids 0).Attrs.length ∧ p.Attrs.length = (nth p.Kids 0).Attrs.length)
def renL (p : GPlan) : List GAttr := (nth p.Kids 0).Attrs.set p.Col.toNat { nth (nth p.Kids 0).Attrs p.Col.toNat with Name := (nth p.Attrs p.Col.toNat).Name }
def grpOk (p : GPlan) : Bool := pickOk (nth p.Kids 0).Attrs.length p.Cols && decide (p.Attrs.length = p.Cols.length + 1 ∧ 1 ≤ p.Agg ∧ p.Agg ≤ 4)
def grpIn (p : GPlan) : Bool := decide (0 ≤ p.Col ∧ p.Col < (nth p.Kids 0).Attrs.length)
def grpB (p : GPlan) : Bool := if p.Agg = 1 then decide (p.Col = -1) else if grpIn p = false then false else if p.Agg = 2 then decide ((nth (nth p.Kids 0).Attrs p.Col.toNat).Kind = 2) else true
def grpK (p : GPlan) : Int := if p.Agg = 1 then 2 else if grpIn p = false then 2 else if p.Agg = 2 then 2 else (nth (nth p.Kids 0).Attrs p.Col.toNat).Kind
def grpL (p : GPlan) : List GAttr := pickL (nth p.Kids 0).Attrs p.Cols ++ [⟨(nth p.Attrs p.Cols.length).Name, grpK p, [], ⟨0, 0, ⟨#[]⟩⟩⟩]
/-- The columns of a query with valid kids. -/
def colsM (s : GSchema) (p : GPlan) : List GAttr × Bool :=
  if p.Kind = 1 then (if 0 ≤ p.Table ∧ p.Table < s.Tables.length then (tableL (nth s.Tables p.Table.toNat) p.Attrs, true) else ([], false))
  else if p.Kind = 2 then ((nth p.Kids 0).Attrs, decide (0 < (p.Tests.length : Int)) && !(p.Tests.any fun t => !testOk t (nth p.Kids 0).Attrs.length))
  else if p.Kind = 3 then (pickM (nth p.Kids 0).Attrs p.Cols, pickOk (nth p.Kids 0).Attrs.length p.Cols)
  else if p.Kind = 4 then (if joinOk (nth p.Kids 0).Attrs (nth p.Kids 1).Attrs = true then (joinL (nth p.Kids 0).Attrs (nth p.Kids 1).Attrs, true) else ([], false))
  else if p.Kind = 5 ∨ p.Kind = 6 then ((nth p.Kids 0).Attrs, alikeM (nth p.Kids 0).Attrs (nth p.Kids 1).Attrs)
  else if p.Kind = 7 then (if renOk p = true then (renL p, true) else ([], false))
  else (if grpOk p = true then (grpL p, grpB p) else ([], false))
theorem tab0 (t : GTable) (l : List GAttr) : tabI t l 0 = t.Attrs := by
  refine list_extA (by simp [tabI]) fun i hi => ?_
  have hi' : i < t.Attrs.length := by simpa [tabI] using hi
  rw [nth_get hi]; simp [tabI]
theorem tabI_len (t : GTable) (l : List GAttr) (n : Nat) : (tabI t l n).length = t.Attrs.length := by simp [tabI]
theorem tabI_nth {t : GTable} {l : List GAttr} {n i : Nat} (h : i < t.Attrs.length) : nth (tabI t l n) i = if i < n then renA t l i else nth t.Attrs i := by
  rw [nth_get (by rw [tabI_len]; exact h)]; simp [tabI]
theorem tab_full {t : GTable} {l : List GAttr} {n : Nat} (h : ¬ (n < t.Attrs.length ∧ n < l.length)) : tabI t l n = tableL t l := by
  unfold tabI tableL
  refine List.map_congr_left fun i hi => ?_
  have hi := List.mem_range.1 hi
  by_cases hn : i < n
  · rw [if_pos hn]
  · rw [if_neg hn, renA, if_neg (by omega)]
theorem tab_keep {t : GTable} {l : List GAttr} {n : Nat} (h1 : n < t.Attrs.length) (h : ¬ columnT t (nth l n).Name = n) : tabI t l (n + 1) = tabI t l n := by
  refine list_extA (by rw [tabI_len, tabI_len]) fun i hi => ?_
  rw [tabI_len] at hi
  rw [tabI_nth hi, tabI_nth hi]
  by_cases e : i = n
  · subst e; rw [if_pos (by omega), if_neg (by omega), renA, if_neg fun q => h q.2]
  · by_cases e2 : i < n
    · rw [if_pos (by omega), if_pos e2]
    · rw [if_neg (by omega), if_neg e2]
theorem tab_set {t : GTable} {l : List GAttr} {n : Nat} (h1 : n < t.Attrs.length) (h2 : n < l.length) (h : columnT t (nth l n).Name = n) : (tabI t l n).set n { nth (tabI t l n) n with Name := (nth l n).Name } = tabI t l (n + 1) := by
  refine list_extA (by rw [List.length_set, tabI_len, tabI_len]) fun i hi => ?_
  rw [List.length_set, tabI_len] at hi
  rw [Lg.nth_set (by rw [tabI_len]; exact hi), tabI_nth hi, tabI_nth hi]
  by_cases e : n = i
  · subst e; rw [if_pos rfl, if_pos (by omega), tabI_nth hi, if_neg (by omega), renA, if_pos ⟨h2, h⟩]
  · rw [if_neg e]
    by_cases e2 : i < n
    · rw [if_pos e2, if_pos (by omega)]
    · rw [if_neg e2, if_neg (by omega)]
theorem join_snoc {a l : List GAttr} {x : GAttr} : joinL a (l ++ [x]) = if columnL a x.Name < 0 then joinL a l ++ [x] else joinL a l := by
  unfold joinL
  rw [List.filter_append]
  by_cases h : columnL a x.Name < 0
  · rw [if_pos h, List.filter_cons_of_pos (by simpa using h)]; simp
  · rw [if_neg h, List.filter_cons_of_neg (by simpa using h)]; simp
theorem joinL_len (a b : List GAttr) : (joinL a b).length ≤ a.length + b.length := by
  unfold joinL; rw [List.length_append]; have := List.length_filter_le (fun x : GAttr => decide (columnL a x.Name < 0)) b; omega
theorem join_nth {a b : List GAttr} {i : Nat} (h : i < a.length) : nth (joinL a b) i = nth a i := by
  have h2 : i < (joinL a b).length := by unfold joinL; rw [List.length_append]; omega
  rw [nth_get h2, nth_get h]; unfold joinL; exact List.getElem_append_left h
theorem col_lt (a : List GAttr) (n : ByteArray) : -1 ≤ columnL a n ∧ columnL a n < a.length := by
  have := findI_bd (fun a : GAttr => decide (a.Name = n)) a 0 (by omega)
  unfold columnL; omega
theorem CloneA_spec (l : List GAttr) (hl : l.length ≤ 1000000000) : Spec (X := Value) prog 113 [tSl rAttr l] ([]) (fun v => rV.ty v) (fun v => [own 64 rAttr v l]) := by
 refine Spec.enter func113 rfl rfl fun h0 w0 fr0 => ?_
 refine Jr (Ja rfl (JL_nil (J_seq (Jr (Jm rfl ?_)))))
 refine Jx rfl (step_eql_slnil underlying28 Sr) fun v4 => ?_
 refine JL_nil ?_
 refine J_cond Sr (fun h4 => ?_) (fun h4 => ?_)
 ·
  try simp only [NF] at h4
  refine Jr (Ja rfl (JL_nil (J_ret ?_)))
  have hl0 := v4.2 h4
  subst hl0
  refine K_lsub (LSub.nilown (e := 64) (R := rAttr)) ?_
  refine K_ret1' (rv := .tmp 2) rfl (.slice none 0 0) (Sel.none _) (.tmp (Sub.rV rfl)) (Frz.sub Sr)
 try simp only [NF] at h4
 refine J_skip (Jr ?_)
 refine Jx rfl (step_literal_own (ys := []) underlying28 el64 trivial rfl (by decide)) fun v5 => ?_
 refine Jm rfl ?_
 refine Jx rfl (step_append underlying28 el64 Sr Sr zS (by simp; omega) (by simp; omega)) fun v7 => ?_
 refine Ja rfl (JL_nil (J_ret ?_))
 refine K_ret1' (rv := .tmp 2) rfl v7 (Sel.none _) (.tmp Sr) (Frz.sub Sr)
theorem alikeF_spec (x y : GAttr) : Fun1 prog 144 [rAttr.ty x, rAttr.ty y] (tV (.bool (alikeA x y))) := by
 refine Spec.enter func144 rfl rfl fun h0 w0 fr0 => ?_
 refine Jr (Js rfl (step_box (R := rAttr) Sr) (Js rfl (step_box (R := rAttr) Sr) (Ja rfl (JL_nil (Jr ?_)))))
 refine Js rfl (step_fieldAddr so64 Sr rfl) (Jl rfl ty9 Sr (Js rfl (step_fieldAddr so64 Sr rfl) (Jl rfl ty9 Sr (Js rfl (step_eql_str Sr Sr) (Jm rfl ?_)))))
 refine Jk rfl Sr rfl (step_fieldAddr so64 Sr rfl) ?_
 refine Jg rfl Sr rfl (fun hw => step_load_ptr ty3 (Sub.w hw)) ?_
 refine Jk rfl Sr rfl (step_fieldAddr so64 Sr rfl) ?_
 refine Jg rfl Sr rfl (fun hw => step_load_ptr ty3 (Sub.w hw)) (Jg rfl Sr rfl (fun hw => step_eql (Sub.w hw) (Sub.w hw)) (Js rfl (step_pick_and Sr Sr) (Ja rfl (JL_nil (J_ret ?_)))))
 exact K_ret1 (t := 4) rfl () Sr
set_option maxHeartbeats 1000000 in
theorem EqualFuncA_spec (a b : List GAttr) (hl : a.length ≤ 1000000000000) (gi : Nat) (As : List Ty) (p : GAttr → GAttr → Bool) (hp : ∀ x y, Fun1 prog gi ([rAttr.ty x, rAttr.ty y] ++ As) (tV (.bool (p x y)))) (he : ∀ args w, (callFunc gi args).run prog w = .ok (.enter gi args) w) : Fun1 prog 143 [tSl rAttr a, tSl rAttr b, tClo gi As] (tV (.bool (eqL p a b))) := by
 refine Spec.enter func143 rfl rfl fun h0 w0 fr0 => ?_
 refine Jr (Ja rfl (JL_nil (J_seq (Jr (Jm rfl ?_)))))
 refine Js rfl (step_len_sl underlying28 Sr) (Jm rfl (Js rfl (step_len_sl underlying28 Sr) (Js rfl (step_neq Sr Sr) (JL_nil ?_))))
 refine J_cond Sr (fun h14 => ?_) (fun h14 => ?_)
 ·
  try simp only [NF] at h14
  refine Jr (Ja rfl (JL_nil (J_ret ?_)))
  refine K_ret1 (t := 6) rfl () ?_
  refine Sub.bool ?_
  have : ¬ a.length = b.length := by omega
  simp [eqL, this]
 try simp only [NF] at h14
 have heq : a.length = b.length := by omega
 refine J_skip (J_seq (Jr (Jm rfl (Js rfl (step_len_sl underlying28 Sr) (Jm rfl ?_)))))
 refine JL_nil (J_block ?_)
 refine J_loopL (σ := Nat) (fun i => i ≤ a.length ∧ ∀ k, k < i → p (nth a k) (nth b k) = true) (fun i => upd (upd (upd (upd (upd env0 1 (tSl rAttr b)) 2 (tClo gi As)) 15 (tSl rAttr a)) 16 (tV (.int .i64 a.length))) 17 (tV (.int .i64 i))) (fun i => []) (fun i => a.length - i) 0 ⟨by omega, fun k hk => by omega⟩ (zU) (LSub.rfl) ?_
 rintro i ⟨hi, hv⟩
 refine Jr (Js rfl (step_lss Sr Sr) (JL_nil (J_seq ?_)))
 refine J_cond Sr (fun h18 => ?_) (fun h18 => ?_)
 ·
  try simp only [NF] at h18
  have hlt : i < a.length := by omega
  refine J_skip (J_seq (J_block (Jr (Jm rfl ?_))))
  refine Js rfl (step_indexAddr_sl  underlying28 ty64 Sr Sr rfl (gb (by exact hlt))) ?_
  refine Jl rfl ty64 Sr ?_
  refine Jx rfl (step_alloc (fun w => zeroValue64 w) zr64) fun v8 => ?_
  refine Ja rfl ?_
  refine Ju (step_store_box ty64 Sr Sr zS) fun _ => ?_
  refine JL_freeze (t := 8) (Sel.take (Sel.none _)) Frz.box ?_
  refine JL_nil (Jr (Jm rfl (Jm rfl ?_)))
  refine Js rfl (step_indexAddr_sl (i := i) underlying28 ty64 Sr Sr (by rfl) (gb (by show i < b.length; omega))) ?_
  refine Jl rfl ty64 Sr ?_
  refine Jx rfl (step_alloc (fun w => zeroValue64 w) zr64) fun v9 => ?_
  refine Ju (step_store_box ty64 Sr Sr zS) fun _ => ?_
  refine JL_freeze (t := 9) (Sel.take (Sel.none _)) Frz.box ?_
  refine JL_nil (Jr (Jm rfl (Jl rfl ty64 Sr (Jl rfl ty64 Sr (Js rfl (step_callv0 (aT := [_, _]) Sr (hp _ _) ⟨Sr, Sr, trivial⟩ he) ?_)))))
  refine Js rfl (step_not Sr) (JL_nil ?_)
  refine J_cond Sr (fun h30 => ?_) (fun h30 => ?_)
  ·
   try simp only [NF] at h30
   refine Jr (Ja rfl (JL_nil (J_ret ?_)))
   refine K_ret1 (t := 6) rfl () ?_
   refine Sub.bool ?_
   have : p (nth a i) (nth b i) = false := by simpa using h30
   simp only [eqL, rall_f (f := fun i => p (nth a i) (nth b i)) hlt this]; simp
  try simp only [NF] at h30
  refine J_skip (J_region (Js rfl (step_add Sr Sr z6) (Jm rfl (JL_nil ?_))))
  refine K_againL (σ := Nat) (s := i) (i + 1) zO ?_ (zU) (LSub.rfl)
  refine ⟨by omega, fun k hk => ?_⟩
  by_cases e : k = i
  ·
   subst e; simpa using h30
  exact hv k zG
 try simp only [NF] at h18
 have hall := rall_t (n := a.length) (fun k hk => hv k zG)
 refine J_exit (Jr (Ja rfl (JL_nil (J_ret ?_))))
 refine K_ret1 (t := 6) rfl () ?_
 refine Sub.bool ?_
 rw [eqL, hall]; simp [heq]
theorem alike_spec (a b : List GAttr) (hl : a.length ≤ 1000000000000) : Fun1 prog 103 [tSl rAttr a, tSl rAttr b] (tV (.bool (alikeM a b))) := by
 refine Spec.enter func103 rfl rfl fun h0 w0 fr0 => ?_
 refine Jr (Ja rfl (JL_nil (Jr (Jm rfl (Jm rfl ?_)))))
 refine Js rfl (step_call0 (EqualFuncA_spec a b hl 144 [] alikeA (fun x y => alikeF_spec x y) call144) ⟨Sr, Sr, Sub.clo0, trivial⟩ call143) (Ja rfl (JL_nil (J_ret ?_)))
 exact K_ret1 (t := 4) rfl () Sr
set_option maxHeartbeats 1000000 in
theorem pickA_spec (l : List GAttr) (cols : List Int) (hc : cols.length ≤ 1000000000) : Spec (X := Value) prog 122 [tSl rAttr l, tSl rInt cols] ([]) (fun v => tTup [rV.ty v, tV (.bool (pickOk l.length cols))]) (fun v => [own 64 rAttr v (pickM l cols)]) := by
 refine Spec.enter func122 rfl rfl fun h0 w0 fr0 => ?_
 refine Jr (Ja rfl (Ja rfl (JL_nil (Jr (Ja rfl ?_)))))
 refine JL_nil (J_seq (Jr (Jm rfl (Js rfl (step_len_sl underlying27 Sr) (Jm rfl ?_)))))
 refine JL_nil (J_block ?_)
 refine J_loopL (σ := Nat × Value) (fun ⟨i, v⟩ => i ≤ cols.length ∧ ∀ k, k < i → (decide (0 ≤ nth cols k) && decide (nth cols k < l.length)) = true) (fun ⟨i, v⟩ => upd (upd (upd (upd (upd env0 0 (tSl rAttr l)) 6 (rV.ty v)) 9 (tSl rInt cols)) 10 (tV (.int .i64 cols.length))) 11 (tV (.int .i64 i))) (fun ⟨i, v⟩ => [own 64 rAttr v (pickL l (cols.take i))]) (fun ⟨i, v⟩ => cols.length - i) (0, .slice none 0 0) ⟨by omega, fun k hk => by omega⟩ (.u (.u (.u (SubE.upd (Sub.rV rfl) (zU))))) (LSub.nilown) ?_
 rintro ⟨i, v⟩ ⟨hi, hv⟩
 refine Jr (Js rfl (step_lss Sr Sr) (JL_nil (J_seq ?_)))
 refine J_cond Sr (fun h12 => ?_) (fun h12 => ?_)
 ·
  try simp only [NF] at h12
  have hlt : i < cols.length := by omega
  have hpl : (pickL l (cols.take i)).length ≤ 1000000000 := by simp [pickL]; omega
  refine J_skip (J_seq (J_block (Jr ?_)))
  refine Js rfl (step_indexAddr_sl  underlying27 ty3 Sr Sr rfl (gb (by exact hlt))) ?_
  refine Jl rfl ty3 Sr (Ja rfl (JL_nil (J_seq (Jr (Jm rfl ?_)))))
  refine Js rfl (step_lss Sr Sr) (Jm rfl ?_)
  refine Jk rfl Sr rfl (step_move Sr) ?_
  refine Jk rfl Sr rfl (step_move Sr) ?_
  refine Jg rfl Sr rfl (fun hw => step_len_sl underlying28 (Sub.w hw)) (Jg rfl Sr rfl (fun hw => step_geq (Sub.w hw) (Sub.w hw)) (Js rfl (step_pick_or Sr Sr) (JL_nil ?_)))
  refine J_cond Sr (fun h22 => ?_) (fun h22 => ?_)
  ·
   try simp only [NF] at h22
   refine Jr (Ja rfl (Ja rfl (JL_nil (J_ret ?_))))
   have hno : pickOk l.length cols = false := all_f hlt (by rcases h22 with h | h <;> simp <;> omega)
   have hpm : pickM l cols = [] := by rw [pickM, if_neg (by rw [hno]; simp)]
   refine K_drop zS ?_
   refine K_lsub (L' := [own 64 rAttr (.slice none 0 0) (pickM l cols)]) (LSub.trans (LSub.nilown (e := 64) (R := rAttr)) (.c zS (SPs.of (A := own 64 rAttr (.slice none 0 0) ([] : List GAttr)) (by rw [hpm])) (LSub.nil))) ?_
   refine K_ret2' (rv := .tmp 4) (rv' := .tmp 5) rfl (.slice none 0 0) (Sel.none _) (.tmp (Sub.rV rfl)) (.tmp Sr) (Frz.sub Sr) (Frz.sub (Sub.bool hno.symm)) Sr
  try simp only [NF] at h22
  refine J_skip (J_region (Jm rfl (Jm rfl (Jm rfl (Js rfl (step_indexAddr_sl (i := (nth cols i).toNat) underlying28 ty64 Sr Sr zG (gb zG)) ?_)))))
  refine Jl rfl ty64 Sr ?_
  refine Js rfl (step_literal (ys := [_]) underlying28 el64 ⟨rfl, Sr, trivial⟩ rfl (by decide)) ?_
  refine Jx rfl (step_append underlying28 el64 Sr Sr zS (by simp; omega) (by simp; omega)) fun v29 => ?_
  refine Ja rfl (JL_nil (J_region (Js rfl (step_add Sr Sr z6) (Jm rfl (JL_nil ?_)))))
  refine K_againL (σ := Nat × Value) (s := (i, v)) (i + 1, v29) zO ?_ (zU) (.c zS (SPs.of (A := own 64 rAttr v29 (pickL l (cols.take i) ++ [nth l (nth cols i).toNat])) (by rw [takeB hlt]; simp [pickL])) (LSub.nil))
  refine ⟨by omega, fun k hk => ?_⟩
  by_cases e : k = i
  ·
   subst e; simp; omega
  exact hv k zG
 try simp only [NF] at h12
 obtain rfl : i = cols.length := by omega
 have hok : pickOk l.length cols = true := all_t hv
 refine J_exit (Jr (Jm rfl (Ja rfl (Ja rfl (JL_nil ?_)))))
 refine J_ret ?_
 have hpm : pickM l cols = pickL l cols := by rw [pickM, if_pos hok]
 refine K_lsub (L' := [own 64 rAttr v (pickM l cols)]) (.c zS (SPs.of (A := own 64 rAttr v (pickL l (cols.take cols.length))) (by rw [hpm, List.take_length])) (LSub.nil)) ?_
 refine K_ret2' (rv := .tmp 4) (rv' := .tmp 5) rfl v (Sel.none _) (.tmp Sr) (.tmp Sr) (Frz.sub Sr) (Frz.sub (Sub.bool hok.symm)) Sr
theorem side_spec (x : GSide) (n : Int) : Fun1 prog 161 [rSide.ty x, tV (.int .i64 n)] (tV (.bool (sideM x n))) := by
 refine Spec.enter func161 rfl rfl fun h0 w0 fr0 => ?_
 refine Jr (Js rfl (step_box (R := rSide) Sr) (Ja rfl (JL_nil (J_seq (Jr ?_)))))
 refine Js rfl (step_fieldAddr so91 Sr rfl) (Jl rfl ty3 Sr (Js rfl (step_eql Sr Sr) (JL_nil ?_)))
 refine J_cond Sr (fun h7 => ?_) (fun h7 => ?_)
 ·
  try simp only [NF] at h7
  refine Jr (Js rfl (step_fieldAddr so91 Sr rfl) (Jl rfl ty3 Sr (Js rfl (step_eql Sr Sr) (Jm rfl ?_))))
  refine Jk rfl Sr rfl (step_fieldAddr so91 Sr rfl) ?_
  refine Jg rfl Sr rfl (fun hw => step_load_ptr ty62 (Sub.w hw)) (Jg rfl Sr rfl (fun hw => step_call0 (Valid_spec _) ⟨(Sub.w hw), trivial⟩ call48) (Js rfl (step_pick_and Sr Sr) (Ja rfl (JL_nil (J_ret ?_)))))
  refine K_ret1 (t := 4) rfl () ?_
  refine Sub.bool ?_
  simp [sideM, h7]
 try simp only [NF] at h7
 refine J_skip (Jr (Js rfl (step_fieldAddr so91 Sr rfl) (Jl rfl ty3 Sr (Js rfl (step_eql Sr Sr) (Jm rfl ?_)))))
 refine Jk rfl Sr rfl (step_fieldAddr so91 Sr rfl) ?_
 refine Jg rfl Sr rfl (fun hw => step_load_ptr ty3 (Sub.w hw)) (Jg rfl Sr rfl (fun hw => step_geq (Sub.w hw) Sr) (Js rfl (step_pick_and Sr Sr) (Jm rfl ?_)))
 refine Jk rfl Sr rfl (step_fieldAddr so91 Sr rfl) ?_
 refine Jg rfl Sr rfl (fun hw => step_load_ptr ty3 (Sub.w hw)) ?_
 refine Jk rfl Sr rfl (step_move Sr) ?_
 refine Jg rfl Sr rfl (fun hw => step_lss (Sub.w hw) (Sub.w hw)) (Js rfl (step_pick_and Sr Sr) (Jm rfl ?_))
 refine Jk rfl Sr rfl (step_fieldAddr so91 Sr rfl) ?_
 refine Jg rfl Sr rfl (fun hw => step_load_ptr ty62 (Sub.w hw)) ?_
 refine Jk rfl Sr rfl (step_build (x := (⟨0, 0, ⟨#[]⟩⟩ : GValue)) (zs := [[Value.int .i64 0], [Value.int .i64 0], [Value.string ⟨#[]⟩]]) so62 (fun w => zeroValue62 w) trivial ⟨fun _ => rfl, fun _ => rfl, fun _ => rfl, trivial⟩) ?_
 refine Jg rfl Sr rfl (fun hw => step_eql_val (Sub.w hw) (Sub.w hw)) (Js rfl (step_pick_and Sr Sr) (Ja rfl (JL_nil (J_ret ?_))))
 refine K_ret1 (t := 4) rfl () ?_
 refine Sub.bool ?_
 simp [sideM, h7]
theorem testR_spec (t : GTest) (n : Int) : Fun1 prog 117 [rTest.ty t, tV (.int .i64 n)] (tV (.bool (testOk t n))) := by
 refine Spec.enter func117 rfl rfl fun h0 w0 fr0 => ?_
 refine Jr (Js rfl (step_box (R := rTest) Sr) (Ja rfl (JL_nil (Jr (Js rfl (step_fieldAddr so93 Sr rfl) ?_)))))
 refine Jl rfl ty3 Sr (Js rfl (step_geq Sr Sr) (Jm rfl ?_))
 refine Jk rfl Sr rfl (step_fieldAddr so93 Sr rfl) ?_
 refine Jg rfl Sr rfl (fun hw => step_load_ptr ty3 (Sub.w hw)) (Jg rfl Sr rfl (fun hw => step_leq (Sub.w hw) Sr) (Js rfl (step_pick_and Sr Sr) (Jm rfl ?_)))
 refine Jk rfl Sr rfl (step_fieldAddr so93 Sr rfl) ?_
 refine Jg rfl Sr rfl (fun hw => step_load_ptr ty91 (Sub.w hw)) ?_
 refine Jk rfl Sr rfl (step_move Sr) ?_
 refine Jg rfl Sr rfl (fun hw => step_call0 (side_spec _ _) ⟨(Sub.w hw), (Sub.w hw), trivial⟩ call161) (Js rfl (step_pick_and Sr Sr) (Jm rfl ?_))
 refine Jk rfl Sr rfl (step_fieldAddr so93 Sr rfl) ?_
 refine Jg rfl Sr rfl (fun hw => step_load_ptr ty91 (Sub.w hw)) ?_
 refine Jk rfl Sr rfl (step_move Sr) ?_
 refine Jg rfl Sr rfl (fun hw => step_call0 (side_spec _ _) ⟨(Sub.w hw), (Sub.w hw), trivial⟩ call161) (Js rfl (step_pick_and Sr Sr) (Jm rfl ?_))
 refine Jk rfl Sr rfl (step_fieldAddr so93 Sr rfl) ?_
 refine Jg rfl Sr rfl (fun hw => step_fieldAddr so91 (Sub.w hw) rfl) (Jg rfl Sr rfl (fun hw => step_load_ptr ty3 (Sub.w hw)) (Jg rfl Sr rfl (fun hw => step_eql (Sub.w hw) Sr) (Jg rfl Sr rfl (fun hw => step_move (Sub.w hw)) ?_)))
 refine Ji rfl Sr rfl (step_fieldAddr so93 Sr rfl) ?_
 refine Jh rfl Sr rfl (fun hw => step_fieldAddr so91 (Sub.w hw) rfl) (Jh rfl Sr rfl (fun hw => step_load_ptr ty3 (Sub.w hw)) (Jh rfl Sr rfl (fun hw => step_eql (Sub.w hw) Sr) (Jg rfl Sr rfl (fun hw => step_pick_or (Sub.w hw) (Sub.ww hw)) (Js rfl (step_pick_and Sr Sr) (Ja rfl ?_)))))
 refine JL_nil (J_ret ?_)
 exact K_ret1 (t := 4) rfl () Sr
theorem selF_spec (t : GTest) (kid : List GAttr) : Fun1 prog 116 [rTest.ty t, tPtr (rSl rAttr) kid] (tV (.bool (!testOk t kid.length))) := by
 refine Spec.enter func116 rfl rfl fun h0 w0 fr0 => ?_
 refine Jr (Js rfl (step_box (R := rTest) Sr) (Ja rfl (JL_nil (Jr (Jl rfl ty93 Sr ?_)))))
 refine Jl rfl ty28 Sr (Js rfl (step_len_sl underlying28 Sr) (Js rfl (step_call0 (testR_spec _ _) ⟨Sr, Sr, trivial⟩ call117) (Js rfl (step_not Sr) (Ja rfl (JL_nil ?_)))))
 refine J_ret ?_
 exact K_ret1 (t := 3) rfl () Sr
end Lg
