/- More rules of the program logic; contracts of the library turned to own memory; the types of the program as representations. -/
import Derived.Test.YtgaclpkapapjdaaGreatDoorA
import Derived.ChangeArms
import Derived.ChangeKeysEq
import Derived.WideShapes
import Derived.Carry
import Derived.Laws.StructEq
import Derived.Shelf.Small.Strs
import Derived.Lib.SliceRun
import Derived.Lib.ConvBytes
import Derived.Lib.LazyBuf
import Derived.Shelf.Sort.Plain
import Derived.Shelf.Slices.In.SortNone
import Derived.Shelf.GgSortFunc.Insertion
import Derived.Shelf.Slices.CompactS
import Derived.Test.YtgaclpkapapjdaaGreatDoorProg
set_option linter.unusedVariables false
set_option linter.unusedSimpArgs false
set_option linter.unusedSectionVars false
namespace Lg
open Go
theorem relAll_int {h : PH} : ∀ {xs : List Int} {cs : List Value}, relAll rInt h xs cs ↔ cs = xs.map (.int .i64 ·)
  | [], cs => Iff.rfl
  | x :: xs, cs => by
    constructor
    · rintro ⟨c1, c2, rfl, r1, r2⟩
      have r1 : c1 = [.int .i64 x] := r1
      rw [relAll_int.1 r2, r1]; rfl
    · rintro rfl
      exact ⟨[.int .i64 x], xs.map (.int .i64 ·), rfl, rfl, relAll_int.2 rfl⟩
section
variable {C : Cx} {E : Env} {L : List SP} {d : Option Nat} {ty : Nat} {pos : String} {af : Array Edge} {g : Option (Nat × Bool)}
end
open Go
def wholeH (W : World) : PH := fun b => W.heap[b]?
theorem wholeH_inw (W : World) : (wholeH W).inw W := fun _ _ e => e
theorem TyOf.cells {α : Type} {P : Program} {T : Nat} {R : Rp α} (h : TyOf P T R) (W : World) : P.cellsOf T = R.k := by
  have h1 := h.size W
  cases hi : P.info? T with
  | none => simp [Go.sizeOf, typeInfo, hi] at h1
  | some i =>
    rw [run_sizeOf W hi] at h1
    injection h1
section
variable {H : Type} {enc : TypeId × Value → H} {P : Program} {W : World}
/-- Whatever the kit reads at type t is represented by R. -/
structure Rd {α H : Type} (enc : TypeId × Value → H) (P : Program) (W : World) (t : Nat) (R : Rp α) : Prop where
  k : P.cellsOf t = R.k
  rd : ∀ fuel cs x, DataW.trod enc P W 0 (fun _ => true) true fuel t cs = some x → ∃ y, R.rel (wholeH W) y cs
theorem Rd.int {t : Nat} (hT : TyOf P t rInt) (hu : P.underlying t = some (.int .i64)) : Rd enc P W t rInt where
  k := hT.cells W
  rd := fun _ _ _ h => by
    obtain ⟨n, rfl, _, _⟩ := DataW.trod_int hu h
    exact ⟨n, rfl⟩
theorem Rd.str {t : Nat} (hT : TyOf P t rStr) (hu : P.underlying t = some .string) : Rd enc P W t rStr where
  k := hT.cells W
  rd := fun _ _ _ h => by
    obtain ⟨n, rfl, _, _⟩ := DataW.trod_string hu h
    exact ⟨n, rfl⟩
theorem cell_holds {b off k : Nat} {cs : List Value} (hk : 0 < k) (hl : cs.length = k) (hc : ∀ j, j < k → W.cell? ⟨b, off + j, none⟩ = cs[j]?) : Holds (wholeH W) b off cs := by
  have h0 := hc 0 hk
  have h0' : cs[0]? = some (cs[0]'(by omega)) := List.getElem?_eq_getElem (by omega)
  rw [h0'] at h0
  unfold World.cell? at h0
  simp only at h0
  split at h0
  · rename_i c e fr hb
    refine ⟨c, e, fr, hb, fun j v hv => ?_⟩
    have hj : j < k := by have := (List.getElem?_eq_some_iff.1 hv).1; omega
    have h1 := hc j hj
    unfold World.cell? at h1
    simp only [hb] at h1
    simpa [hv] using h1
  · cases h0
theorem Rd.sl {α : Type} {t e : Nat} {R : Rp α} (hT : TyOf P t (rSl R)) (hu : P.underlying t = some (.slice e)) (hR : Rd enc P W e R) (hk : 0 < R.k) : Rd enc P W t (rSl R) where
  k := hT.cells W
  rd := fun fuel cs x h => by
    rcases DataW.trod_slice hu h with ⟨rfl, _⟩ | ⟨a, len, cap, elems, rest, n, _, rfl, _, _, hlc, _, hlen, hel, _, _⟩
    · exact ⟨[], _, rfl, none, ⟨0, Nat.le_refl _⟩, rfl, fun q => absurd rfl q⟩
    have hall : ∀ i : Fin len, ∃ y cs, W.cells? 0 (a.add (i.1 * R.k)) R.k = some cs ∧ R.rel (wholeH W) y cs := fun i => by
      have h1 := hel i.1 i.2
      rw [List.getElem?_eq_getElem (by omega : i.1 < elems.length), Option.bind_eq_some_iff] at h1
      obtain ⟨cs, h2, h3⟩ := h1
      obtain ⟨y, hy⟩ := hR.rd _ _ _ h3
      rw [hR.k] at h2
      exact ⟨y, cs, h2, hy⟩
    let f : Fin len → α := fun i => Classical.choose (hall i)
    have hf : ∀ i : Fin len, ∃ cs, W.cells? 0 (a.add (i.1 * R.k)) R.k = some cs ∧ R.rel (wholeH W) (f i) cs := fun i => Classical.choose_spec (hall i)
    refine ⟨List.ofFn f, _, rfl, some a, ⟨cap, by rw [List.length_ofFn]; exact hlc⟩, by show Value.slice (some a) len cap = Value.slice (some a) (List.ofFn f).length cap; rw [List.length_ofFn], fun hne => ?_⟩
    have hl0 : 0 < len := by
      rcases Nat.eq_zero_or_pos len with h0 | h0
      · exfalso; apply hne; subst h0; simp
      · exact h0
    have hsp : a.spot = none := by
      obtain ⟨cs, h1, h2⟩ := hf ⟨0, hl0⟩
      obtain ⟨_, h3, h4⟩ := World.cells?_some h1
      have h5 := h4 0 hk
      rw [List.getElem?_eq_getElem (by omega : 0 < cs.length)] at h5
      have h6 : (a.add (0 * R.k)).add 0 = a := by simp [Addr.add]
      rw [h6] at h5
      exact World.cell?_spot h5
    obtain ⟨b, off, sp⟩ := a
    simp only at hsp
    subst hsp
    refine ⟨b, off, rfl, fun i y hy => ?_⟩
    have hi : i < len := by have := (List.getElem?_eq_some_iff.1 hy).1; simpa using this
    have hy' : f ⟨i, hi⟩ = y := by
      rw [List.getElem?_eq_getElem (by simpa using hi)] at hy
      simpa using hy
    obtain ⟨cs, h1, h2⟩ := hf ⟨i, hi⟩
    obtain ⟨_, h3, h4⟩ := World.cells?_some h1
    rw [hy'] at h2
    refine ⟨cs, cell_holds hk h3 fun j hj => ?_, h2⟩
    have := h4 j hj
    simp only [addr_add] at this
    exact this
theorem SF.rel_of {α : Type} {h : PH} {x : α} : ∀ {fs : List (SF α)} {cs : List Value}, cs.length = SF.width fs → (∀ (i : Nat) (f : SF α), fs[i]? = some f → f.R.rel h (f.get x) ((cs.drop (SF.off fs i)).take f.R.k)) → SF.rel h x fs cs
  | [], cs, hl, _ => List.eq_nil_of_length_eq_zero hl
  | f :: fs, cs, hl, hr => by
    refine ⟨cs.take f.R.k, cs.drop f.R.k, (List.take_append_drop _ _).symm, by simpa [SF.off] using hr 0 f rfl, SF.rel_of (by simp [hl, SF.width]) fun i g hg => ?_⟩
    have := hr (i + 1) g (by simpa using hg)
    simpa [SF.off, List.drop_drop] using this
theorem readStruct {α : Type} {t : Nat} {fs : List (SF α)} (S : StructOf P t fs) {fuel : Nat} {cs : List Value} {x : DataW H × List MemPlace} (h : DataW.trod enc P W 0 (fun _ => true) true fuel t cs = some x) :
    cs.length = SF.width fs ∧ ∀ (i : Nat) (f : SF α), fs[i]? = some f → ∃ n z, DataW.trod enc P W 0 (fun _ => true) true n f.T ((cs.drop (SF.off fs i)).take f.R.k) = some z := by
  obtain ⟨fls, hu, hl⟩ := S.lays
  obtain ⟨xs, n, _, _, hlen, hxs, hf⟩ := DataW.trod_struct hu h
  refine ⟨hlen.trans (S.ty.cells W), fun i f hi => ?_⟩
  obtain ⟨fl, h1, h2, h3, h4, _⟩ := hl.get hi
  have h1' : fls[i]? = some fl := by simpa using h1
  have h5 := hf i fl h1'
  have hlt : i < xs.length := by rw [hxs]; exact (Array.getElem?_eq_some_iff.1 h1').1
  rw [List.getElem?_eq_getElem hlt, h2, h3, h4.cells W, Nat.zero_add] at h5
  exact ⟨n, _, h5⟩
theorem Rd.at {α β : Type} {t : Nat} {fs : List (SF α)} {cs : List Value} {i : Nat} {T : Nat} {R : Rp β} {get : α → β} (hf : ∀ (i : Nat) (f : SF α), fs[i]? = some f → ∃ n z, DataW.trod enc P W 0 (fun _ => true) true n f.T ((cs.drop (SF.off fs i)).take f.R.k) = some z)
    (hR : Rd enc P W T R) (hi : fs[i]? = some ⟨β, T, R, get⟩) : ∃ y, R.rel (wholeH W) y ((cs.drop (SF.off fs i)).take R.k) := by
  obtain ⟨n, z, h⟩ := hf i _ hi
  exact hR.rd _ _ _ h
end
/-- Below the first heap nothing has turned. -/
theorem below_of {W W' : World} {h' : PH} (hl : (wholeH W).le h') (hw : h'.inw W') (s : Same W W') : Go.RowKit.Below W.heap.size W W' where
  os := s.os
  tape := s.tape
  output := s.output
  size := by
    rcases Nat.eq_zero_or_pos W.heap.size with h0 | h0
    · omega
    · have h1 : W.heap[W.heap.size - 1]? = some (W.heap[W.heap.size - 1]'(by omega)) := Array.getElem?_eq_getElem (by omega)
      have h2 := hw _ _ (hl _ _ h1)
      have := (Array.getElem?_eq_some_iff.1 h2).1
      omega
  block := fun k hk => by
    have h1 : W.heap[k]? = some (W.heap[k]'hk) := Array.getElem?_eq_getElem hk
    rw [h1]
    exact hw _ _ (hl _ _ h1)
open Go
def JN (C : Cx) (ops : Array Oper) (k : Env → Prop) (L : List SP) : List It → Env → Prop
  | [], E => k E
  | ⟨i, ts, _⟩ :: its, E => ∃ o A, ops[i]? = some o ∧ ltO o.dst C.N = true ∧ StepG C ops o (restr ts E) L A ∧ JN C ops k L its (updO E o.dst A)
section
variable {C : Cx} {ops : Array Oper} {k : Env → Prop} {its : List It} {E : Env} {L : List SP} {i : Nat} {ts : List Nat} {f : Bool} {o : Oper}
theorem JN_nil (h : k E) : JN C ops k L [] E := h
theorem JN_step {A : Ty} {d : Nat} (ho : ops.toList[i]? = some o) (hg : o.guard = none) (hd : o.dst = some d) (hN : Nat.blt d C.N = true) (hs : Step1 C o (restr ts E) L A)
    (hk : JN C ops k L its (upd E d A)) : JN C ops k L (⟨i, ts, f⟩ :: its) E :=
  ⟨o, A, by simpa using ho, by rw [hd]; exact hN, .inl ⟨hg, hs⟩, by rw [hd]; exact hk⟩
theorem JN_stepG {B : Ty} {d j t : Nat} {b w : Bool} {og : Oper} (ho : ops.toList[i]? = some o) (hg : o.guard = some (j, b)) (hj : ops.toList[j]? = some og) (ht : og.dst = some t) (hc : Gd (restr ts E t) b w) (hd : o.dst = some d) (hN : Nat.blt d C.N = true)
    (hs : w = true → Step1 C o (restr ts E) L B) (hk : JN C ops k L its (upd E d (tW w B))) : JN C ops k L (⟨i, ts, f⟩ :: its) E :=
  ⟨o, tW w B, by simpa using ho, by rw [hd]; exact hN, .inr ⟨j, b, og, t, w, B, hg, by simpa using hj, ht, hc, rfl, hs⟩, by rw [hd]; exact hk⟩
end
theorem JN_pull {C : Cx} {ops : Array Oper} {k : Env → Prop} {L : List SP} : ∀ {l1 : List It} {b : It} {l2 : List It} {E : Env},
    (∀ a ∈ l1, okPair (plOf ops.toList a) (plOf ops.toList b) = true) → (∀ a ∈ l1, a.i ∉ aftOf ops.toList b.i) → JN C ops k L (l1 ++ b :: l2) E → JN C ops k L (b :: (l1 ++ l2)) E
  | [], _, _, _, _, _, h => h
  | ⟨ia, ta, fa⟩ :: l1, ⟨ib, tb, fb⟩, l2, E, hp, hn, h => by
    obtain ⟨oa, A, ha, hla, hsa, hk⟩ := h
    have ih := JN_pull (fun a m => hp a (by simp [m])) (fun a m => hn a (by simp [m])) hk
    have hpair := hp ⟨ia, ta, fa⟩ (by simp)
    have hna := hn ⟨ia, ta, fa⟩ (by simp)
    have hda : dstOf ops.toList ia = oa.dst := by simp [dstOf, ha]
    have hpair' : inO oa.dst tb = false ∧ inO (dstOf ops.toList ib) ta = false ∧ eqO oa.dst (dstOf ops.toList ib) = false := by
      simp only [okPair, plOf, hda, Bool.and_eq_true, Bool.or_eq_true, Bool.not_eq_true', memN_iff] at hpair
      rcases hpair.2 with q | q
      · exact absurd q hna
      · exact ⟨q.1.1, q.1.2, q.2⟩
    obtain ⟨p1, p2, p3⟩ := hpair'
    obtain ⟨ob, B, hb, hlb, hsb, hkb⟩ := ih
    have hdb : dstOf ops.toList ib = ob.dst := by simp [dstOf, hb]
    rw [hdb] at p2 p3
    refine ⟨ob, B, hb, hlb, hsb.same (restr_updO p1), oa, A, ha, hla, hsa.same (restr_updO p2).symm, ?_⟩
    rw [updO_comm p3] at hkb
    exact hkb
theorem wpAny_JN {C : Cx} {ops : Array Oper} {Q : Exit → Act → World → Prop} {L : List SP} : ∀ (fuel : Nat) (its : List It) (listed : Array Bool) (E : Env), its.length ≤ fuel → listed.size = ops.size →
    (∀ i, i < ops.size → (listed.getD i true = false ↔ ∃ x ∈ its, x.i = i)) → okPls (its.map (plOf ops.toList)) = true → (∀ x ∈ its, x.i < ops.size ∧ ∀ e ∈ aftOf ops.toList x.i, e < x.i) →
    (∀ x ∈ its, x.free = true) → JN C ops (fun E' => K C (Q .normal) E' L) L its E → K C (fun a w => wpAnyIn (Fw C.ro) 0 C.P .any ops Q fuel listed a w) E L := by
  intro fuel
  induction fuel with
  | zero =>
    intro its listed E hlen hsz hin _ _ _ hJ
    have : its = [] := List.length_eq_zero_iff.1 (by omega)
    subst this
    intro a w p
    refine ⟨?_, hJ a w p⟩
    rw [List.eq_nil_iff_forall_not_mem]
    intro i hi
    obtain ⟨h1, h2, _⟩ := mem_ready.1 hi
    obtain ⟨x, hx, _⟩ := (hin i h1).1 h2
    cases hx
  | succ fuel ih =>
    intro its listed E hlen hsz hin hok hlt hfr hJ
    -- if nothing is ready, nothing is left
    have hdone : Region.ready .any ops listed = [] → its = [] := by
      intro hr
      have hall : ∀ i, i < ops.size → listed.getD i true = true := by
        intro i
        induction i using Nat.strongRecOn with
        | _ i ihi =>
          intro hi
          cases hl : listed.getD i true with
          | true => rfl
          | false =>
            have ho : ops[i]? = some ops[i] := Array.getElem?_eq_getElem hi
            obtain ⟨x, hx, hxi⟩ := (hin i hi).1 hl
            have h1 := (hlt x hx).2
            rw [hxi] at h1
            have hm : i ∈ Region.ready .any ops listed := mem_ready.2 ⟨hi, hl, _, ho, fun e he => by
              have he' : e < i := h1 e (by simpa [aftOf, hi] using he)
              rw [getD_any (by omega) false true]
              exact ihi e he' (by omega)⟩
            rw [hr] at hm; cases hm
      match its with
      | [] => rfl
      | x :: _ =>
        have h1 := (hlt x (by simp)).1
        have := (hin x.i h1).2 ⟨x, by simp, rfl⟩
        rw [hall x.i h1] at this; cases this
    intro a w p
    refine ⟨fun hr => ?_, fun i hi => ?_⟩
    · have := hdone hr
      subst this
      exact hJ a w p
    · obtain ⟨hlti, hnl, o, ho, haft⟩ := mem_ready.1 hi
      obtain ⟨b, hb, hbi⟩ := (hin i hlti).1 hnl
      obtain ⟨l1, l2, rfl⟩ := List.append_of_mem hb
      have hoi : ops.toList[b.i]? = some o := by rw [hbi]; simpa using ho
      have haft' : aftOf ops.toList b.i = aftN o := by simp only [aftOf, hoi]
      -- what is left is not listed
      have hleft : ∀ x ∈ l1 ++ b :: l2, x.i ∉ aftOf ops.toList b.i := fun x hx hm => by
        rw [haft'] at hm
        have h1 := haft _ hm
        have h2 := (hlt x hx).1
        have h3 := (hin x.i h2).2 ⟨x, hx, rfl⟩
        rw [getD_any (by omega) true false, h1] at h3; cases h3
      rw [List.map_append, List.map_cons] at hok
      have hpair : ∀ a ∈ l1, okPair (plOf ops.toList a) (plOf ops.toList b) = true := fun a ha => okPls_pair hok _ (List.mem_map_of_mem ha)
      have hfree : ∀ a ∈ l1, a.free = true := fun x hx => hfr x (by simp [hx])
      have hJ' := JN_pull hpair (fun a ha => hleft a (by simp [ha])) hJ
      have hsub : ∀ x ∈ l1 ++ l2, x ∈ l1 ++ b :: l2 := fun x hx => by
        rcases List.mem_append.1 hx with hx | hx <;> simp [hx]
      have hpairs : ∀ x ∈ l1 ++ l2, x.i ≠ b.i := fun x hx => by
        rcases List.mem_append.1 hx with hx | hx
        · have := hpair x hx
          simp only [okPair, plOf, Bool.and_eq_true, Bool.not_eq_true'] at this
          intro e; rw [e] at this; simp at this
        · have h2 : ∀ {l1 : List Pl} {b : Pl} {l2 : List Pl}, okPls (l1 ++ b :: l2) = true → okPls (b :: l2) = true := by
            intro l1
            induction l1 with
            | nil => intro b l2 h; exact h
            | cons c l1 ih => intro b l2 h; simp only [List.cons_append, okPls, Bool.and_eq_true] at h; exact ih h.2
          have := h2 hok
          simp only [okPls, Bool.and_eq_true, List.all_eq_true] at this
          have := this.1.1 _ (List.mem_map_of_mem hx)
          simp only [okPair, plOf, Bool.and_eq_true, Bool.not_eq_true'] at this
          intro e; rw [e] at this; simp at this
      have rest : ∀ E', JN C ops (fun E' => K C (Q .normal) E' L) L (l1 ++ l2) E' → K C (fun a w => wpAnyIn (Fw C.ro) 0 C.P .any ops Q fuel (listed.setIfInBounds i true) a w) E' L := by
        intro E' hk
        refine ih (l1 ++ l2) _ E' (by simp only [List.length_append, List.length_cons] at hlen ⊢; omega) (by simpa using hsz) (fun j hj => ?_) (by
          rw [List.map_append]
          exact okPls_sub hok fun x hx => (List.mem_map.1 hx).elim fun y hy => hy.2 ▸ hfree y hy.1) (fun x hx => hlt x (hsub x hx)) (fun x hx => hfr x (hsub x hx)) hk
        by_cases hji : i = j
        · subst hji
          rw [getD_set_same (by omega)]
          constructor
          · intro h; cases h
          · rintro ⟨x, hx, e⟩
            exact absurd (e.trans hbi.symm) (hpairs x hx)
        · rw [getD_set_ne hji, hin j hj]
          constructor
          · rintro ⟨x, hx, e⟩
            refine ⟨x, ?_, e⟩
            rcases List.mem_append.1 hx with hx | hx
            · simp [hx]
            · rcases List.mem_cons.1 hx with rfl | hx
              · exact absurd (hbi.symm.trans e) hji
              · simp [hx]
          · rintro ⟨x, hx, e⟩
            exact ⟨x, hsub x hx, e⟩
      obtain ⟨bi, tb, fb⟩ := b
      simp only at hbi hoi
      subst hbi
      have ho' : ops[bi]? = some o := ho
      obtain ⟨o', A, ho2, hl, hs, hk⟩ := hJ'
      rw [ho'] at ho2; cases ho2
      exact hs.op ho' hl (rest _ hk) a w p
theorem J_drawN {C : Cx} {id : Nat} {ops : Array Oper} (its : List It) {Q : Exit → Act → World → Prop} {E : Env} {L : List SP} (hmix : C.P.follows .mixedOrders = true) (hok : okM ops.toList its = true) (hfr : its.all (·.free) = true)
    (hJ : JN C ops (fun E' => K C (Q .normal) E' L) L its E) : J C (.region id ops true) Q E L := fun a w p => by
  refine wpIn_region_draw (fun t => ?_)
  simp only [Region.schedule, hmix, Bool.true_or, if_true]
  refine wpAnyIn_sound ops.size t _ a _ ?_
  simp only [okM, Bool.and_eq_true, List.all_eq_true, List.any_eq_true] at hok
  obtain ⟨⟨⟨h1, h2⟩, h3⟩, h4⟩ := hok
  have h5 : ∀ x ∈ its, x.i < ops.size := fun x hx => by have := h4 x hx; simpa using this
  have hnd : (its.map (·.i)).Nodup := by
    have : ∀ {l : List It}, okPls (l.map (plOf ops.toList)) = true → (l.map (·.i)).Nodup := by
      intro l
      induction l with
      | nil => intro _; simp
      | cons x l ih =>
        intro h
        simp only [List.map_cons, okPls, Bool.and_eq_true, List.all_eq_true] at h
        simp only [List.map_cons, List.nodup_cons]
        refine ⟨fun hm => ?_, ih h.2⟩
        obtain ⟨y, hy, e⟩ := List.mem_map.1 hm
        have := h.1.1 _ (List.mem_map_of_mem hy)
        simp only [okPair, plOf, Bool.and_eq_true, Bool.not_eq_true'] at this
        rw [e] at this; simp at this
    exact this h1
  have hlen : its.length ≤ ops.size := by
    have := nodup_le hnd (n := ops.size) (fun i hi => by
      obtain ⟨x, hx, rfl⟩ := List.mem_map.1 hi
      exact h5 x hx)
    simpa using this
  refine wpAny_JN ops.size its _ E hlen (by simp) (fun i hi => ?_) h1 (fun x hx => ⟨h5 x hx, fun e he => ?_⟩) (fun x hx => List.all_eq_true.1 hfr x hx) hJ a _ ?_
  · constructor
    · intro _
      obtain ⟨x, hx, e⟩ := h3 i (by simpa using hi)
      exact ⟨x, hx, (Nat.eq_of_beq_eq_true e).symm⟩
    · intro _; simp [Array.getD_eq_getD_getElem?, hi]
  · have := h2 _ (List.mem_map_of_mem hx) e he
    simpa [plOf] using this
  · obtain ⟨hsz, hds, h, m, hl, sp, st, fr⟩ := p
    exact ⟨hsz, hds, h, m, hl.trans (HL.same (Same.drew _)), ⟨(by first | exact Sep.inv (by assumption) | exact Inv.mono (PH.le_join_left _ _) (Sep.inv (by assumption))), sp.hm, sp.hr, sp.mr, sp.hw, sp.mw, sp.rw⟩, st, fr⟩
open Go
section
variable {C : Cx} {E : Env} {L : List SP} {d : Option Nat} {ty : Nat} {pos : String} {af : Array Edge} {g : Option (Nat × Bool)}
/-- s[:n] of a slice that may not change. -/
theorem step_slice_toI {α : Type} {T e n : Nat} {R : Rp α} {x y : Operand} {xs : List α} {k : IntKind} {i : Int} (hu : C.P.underlying T = some (.slice e)) (hR : TyOf C.P e R)
    (hx : Sub (opTy E x) (tSl R xs)) (hy : Sub (opTy E y) (tV (.int k i))) (hi : i = n) (hn : n ≤ xs.length) :
    Step1 C ⟨d, .slice T x none (some y) none, ty, pos, af, g⟩ E L (tSl R (xs.take n)) :=
  Step.of_run (by intro c h; cases h) fun a w h m l sp st fr => by
    obtain ⟨ao, ⟨cap, hlc⟩, hv, H⟩ := fr.get hx
    have hv : a.eval x = .slice ao xs.length cap := hv
    have h2 : a.eval y = .int k i := fr.get hy
    subst hi
    refine ⟨(), .slice (if cap = 0 then ao else ao.map (·.add 0)) n cap, w, h, _, ?_, HL.refl, sp, st, ⟨_, ⟨cap, by rw [List.length_take, Nat.min_eq_left hn]; omega⟩, by show Value.slice _ n cap = Value.slice _ (xs.take n).length cap; rw [List.length_take, Nat.min_eq_left hn], fun hne => ?_⟩⟩
    · simp [execOp, Instr.sliceAt, run_underlying hu, hv, h2, Instr.slice, Instr.sliceBounds, Instr.sliceBound, asIntOf, hR.size, show n ≤ cap by omega]
    · have h0 : 0 < n := by
        rcases Nat.eq_zero_or_pos n with q | q
        · subst q; exact absurd (by simp) hne
        · exact q
      obtain ⟨b, off, ea, H'⟩ := H (fun e => by rw [e] at hn; simp at hn; omega)
      refine ⟨b, off, by rw [if_neg (by omega), ea]; simp [addr_add], fun j z hz => H' j z ?_⟩
      rw [List.getElem?_take] at hz
      split at hz
      · exact hz
      · cases hz
theorem step_eql_bool {T U : Nat} {x y : Operand} {a b : Bool} (hu : C.P.underlying T = some .bool) (hx : Sub (opTy E x) (tV (.bool a))) (hy : Sub (opTy E y) (tV (.bool b))) :
    Step1 C ⟨d, .binOp .eql T x y U, ty, pos, af, g⟩ E L (tV (.bool (a == b))) := step_int_bool hx hy (fun w => by
  have h1 := run_equalIn_bool' (P := C.P) w 9999 T a b hu
  have h2 : (Op.equal T (.bool a) (.bool b)).run C.P w = .ok (a == b) w := h1
  simp [binOp, h2])
theorem step_neq_bool {T U : Nat} {x y : Operand} {a b : Bool} (hu : C.P.underlying T = some .bool) (hx : Sub (opTy E x) (tV (.bool a))) (hy : Sub (opTy E y) (tV (.bool b))) :
    Step1 C ⟨d, .binOp .neq T x y U, ty, pos, af, g⟩ E L (tV (.bool (!(a == b)))) := step_int_bool hx hy (fun w => by
  have h1 := run_equalIn_bool' (P := C.P) w 9999 T a b hu
  have h2 : (Op.equal T (.bool a) (.bool b)).run C.P w = .ok (a == b) w := h1
  simp [binOp, h2, bne])
end
open Go
section
variable {C : Cx} {E : Env} {L : List SP} {d : Option Nat} {ty : Nat} {pos : String} {af : Array Edge} {g : Option (Nat × Bool)}
end
open Go
abbrev toB (s : List UInt8) : ByteArray := ⟨s.toArray⟩
abbrev ofB (b : ByteArray) : List UInt8 := b.data.toList
theorem toB_ofB (b : ByteArray) : toB (ofB b) = b := by cases b; simp
theorem ofB_toB (s : List UInt8) : ofB (toB s) = s := by simp
theorem relAll_str {h : PH} : ∀ {xs : List ByteArray} {cs : List Value}, relAll rStr h xs cs ↔ cs = xs.map (.string ·)
  | [], cs => Iff.rfl
  | x :: xs, cs => by
    constructor
    · rintro ⟨c1, c2, rfl, r1, r2⟩
      have r1 : c1 = [.string x] := r1
      rw [relAll_str.1 r2, r1]; rfl
    · rintro rfl
      exact ⟨[.string x], xs.map (.string ·), rfl, rfl, relAll_str.2 rfl⟩
open Go
section
variable {κ β : Type} [DecidableEq κ] {kv : κ → Value} {R : Rp β}
variable {C : Cx} {E : Env} {L : List SP} {d : Option Nat} {ty : Nat} {pos : String} {af : Array Edge} {g : Option (Nat × Bool)}
theorem step_insert {T kt e : Nat} {x y u : Operand} {v : Value} {m : List (κ × β)} {S : List SP} {q : κ} {z : β} (K : KeyT C.P kt kv) (hu : C.P.underlying T = some (.map kt e))
    (hx : Sub (opTy E x) (tV v)) (hy : Sub (opTy E y) (tV (kv q))) (hz : Sub (opTy E u) (R.ty z)) (sel : Sel L [mapOwn kv R v m] S) :
    Step C ⟨d, .insert T x y u, ty, pos, af, g⟩ E L (fun _ : Unit => tAny) (fun _ => mapOwn kv R v (mput m q z) :: S) :=
  fun a w h mm hn l sp st fr next Q hk => by
    have h2 := (step_mapUpdate (C := C) (d := d) (ty := ty) (pos := pos) (af := af) (g := g) K hu hx hy hz sel a w h mm hn l sp st fr next Q hk).2
    refine ⟨fun _ _ => trivial, ?_⟩
    rw [Fw_round, Oper.semAt_eq _ _ _ (by intro c h; cases h)] at h2 ⊢
    exact h2
end
section
variable {C : Cx} {E : Env} {L : List SP} {d : Option Nat} {ty : Nat} {pos : String} {af : Array Edge} {g : Option (Nat × Bool)}
theorem nth_bytes {s : ByteArray} {i : Nat} (h : i < s.size) : s[i]? = some (s.data.toList.getD i 0) := by
  have h2 : i < s.data.size := h
  rw [getElem?_pos s i h]
  simp [List.getD, h2]
  rw [Array.getElem?_eq_getElem h2]; rfl
theorem step_index_str {T i : Nat} {x y : Operand} {s : ByteArray} {k : IntKind} {n : Int} (hu : C.P.underlying T = some .string) (hx : Sub (opTy E x) (tV (.string s))) (hy : Sub (opTy E y) (tV (.int k n))) (hi : n = i) (hl : i < s.size) :
    Step1 C ⟨d, .index T x y, ty, pos, af, g⟩ E L (tV (.int .u8 (nth (bytesOf s) i))) :=
  Step.of_same (by intro c h; cases h) fun a w h hh f => by
    have h1 : a.eval x = .string s := f.get hx
    have h2 : a.eval y = .int k n := f.get hy
    subst hi
    have e : nth (bytesOf s) i = ((s.data.toList.getD i 0).toNat : Int) := by
      have hl' : i < (bytesOf s).length := by rw [bytesOf_len]; exact hl
      rw [nth_get hl']
      have h2 : i < s.data.toList.length := hl
      have h3 : i < s.data.size := hl
      simp only [bytesOf, List.getElem_map]
      rw [List.getD_eq_getElem?_getD, List.getElem?_eq_getElem h2]
      rfl
    refine ⟨.int .u8 (nth (bytesOf s) i), ?_, rfl⟩
    rw [e]
    simp [execOp, Instr.index, h1, h2, run_underlying hu, asIntOf, nth_bytes hl]
theorem step_max {T U : Nat} {x y : Operand} {k k' : IntKind} {a b : Int} (hx : Sub (opTy E x) (tV (.int k a))) (hy : Sub (opTy E y) (tV (.int k' b))) :
    Step1 C ⟨d, .call { callee := .builtin .max, args := #[x, y], argTypes := #[T, U] }, ty, pos, af, g⟩ E L (tV (.int k (if b > a then b else a))) :=
  Step.of_same (by intro c h; cases h) fun a' w h hw f => by
    have h1 : a'.eval x = .int k a := f.get hx
    have h2 : a'.eval y = .int k' b := f.get hy
    refine ⟨.int k (if b > a then b else a), ?_, rfl⟩
    simp [execOp, resolve, invoke, builtin, Builtin.max_, Builtin.max2, h1, h2]
    try split <;> simp_all
theorem step_min {T U : Nat} {x y : Operand} {k k' : IntKind} {a b : Int} (hx : Sub (opTy E x) (tV (.int k a))) (hy : Sub (opTy E y) (tV (.int k' b))) :
    Step1 C ⟨d, .call { callee := .builtin .min, args := #[x, y], argTypes := #[T, U] }, ty, pos, af, g⟩ E L (tV (.int k (if b < a then b else a))) :=
  Step.of_same (by intro c h; cases h) fun a' w h hw f => by
    have h1 : a'.eval x = .int k a := f.get hx
    have h2 : a'.eval y = .int k' b := f.get hy
    refine ⟨.int k (if b < a then b else a), ?_, rfl⟩
    simp [execOp, resolve, invoke, builtin, Builtin.min_, Builtin.min2, h1, h2]
    try split <;> simp_all
/-- s == nil -/
theorem step_eql_slnil {α : Type} {T U e : Nat} {R : Rp α} {x : Operand} {xs : List α} (hu : C.P.underlying T = some (.slice e)) (hx : Sub (opTy E x) (tSl R xs)) :
    Step (X := { b : Bool // b = true → xs = [] }) C ⟨d, .binOp .eql T x (.const (.slice none 0 0)) U, ty, pos, af, g⟩ E L (fun b => tV (.bool b.1)) (fun _ => L) :=
  Step.of_run (by intro c h; cases h) fun a w h m l sp st fr => by
    obtain ⟨ao, cap, hv, H⟩ := fr.get hx
    refine ⟨⟨ao.isNone, fun hb => ?_⟩, .bool ao.isNone, w, h, m, ?_, HL.refl, sp, st, rfl⟩
    · by_cases hne : xs = []
      · exact hne
      · obtain ⟨b, off, rfl, _⟩ := H hne
        cases hb
    · have he : ∀ w, (eqGuard .eql T x (.const (.slice none 0 0)) (a.eval x) (.slice none 0 0)).run C.P w = .ok () w := by intro w; rw [hv]; simp [eqGuard]
      have h2 : a.eval (.const (.slice none 0 0)) = .slice none 0 0 := rfl
      have hr := Lib.run_eql_slice_nil (P := C.P) w T e ao xs.length cap 0 0 hu
      rw [hv] at he
      simp [execOp, hv, h2, Sem.run_bind, he, hr]
end
open Go
section
variable {κ β : Type} [DecidableEq κ]
/-- A map in immutable memory. -/
def tMapI (kv : κ → Value) (R : Rp β) (m : List (κ × β)) : Ty := ⟨fun h v => ∃ m1 : PH, m1.le h ∧ (mapOwn kv R v m).p h m1, fun {h h' v} l ⟨m1, a, b⟩ => ⟨m1, PH.le_trans a l, (mapOwn kv R v m).mono l b⟩⟩
theorem Frz.mapI {kv : κ → Value} {R : Rp β} {v : Value} {m : List (κ × β)} {S : List SP} : Frz (mapOwn kv R v m :: S) (tV v) (tMapI kv R m) := fun h mm u d ⟨m1, m2, d12, em, ho, _⟩ hu => by
  subst em
  have hu : u = v := hu
  subst hu
  have hd := PH.disj_join'.1 d
  exact ⟨m1, fun b o e => PH.le_join_right d _ _ (PH.le_join_left _ _ _ _ e), (mapOwn kv R u m).mono (PH.le_join_left _ _) ho⟩
variable {kv : κ → Value} {R : Rp β}
variable {C : Cx} {E : Env} {L : List SP} {d : Option Nat} {ty : Nat} {pos : String} {af : Array Edge} {g : Option (Nat × Bool)}
theorem step_lookupI_ok {T kt e : Nat} {x y : Operand} {m : List (κ × β)} {q : κ} {z : β} {zv : Value} (K : KeyT C.P kt kv) (hu : C.P.underlying T = some (.map kt e)) (hz : ∀ w, (zeroValue e).run C.P w = .ok zv w) (hzr : ∀ h, (R.ty z).p h zv)
    (hx : Sub (opTy E x) (tMapI kv R m)) (hy : Sub (opTy E y) (tV (kv q))) : Step1 C ⟨d, .lookup T x y true, ty, pos, af, g⟩ E L (tTup [R.ty ((mget m q).getD z), tV (.bool (mget m q).isSome)]) :=
  Step.of_run (by intro c h; cases h) fun a w h mm l sp st fr => by
    obtain ⟨m1, hle, ho⟩ := fr.get hx
    have h2 : a.eval y = kv q := fr.get hy
    obtain ⟨u, hu1, hrun⟩ := run_lookup (P := C.P) K hu hz hzr ho (fun b o e => sp.hw _ _ (hle _ _ e)) q true
    exact ⟨(), _, w, h, _, by simp [execOp, h2, hrun], HL.refl, sp, st, ⟨[u, .bool _], rfl, hu1, rfl, trivial⟩⟩
end
section
variable {C : Cx} {E : Env} {L : List SP} {d : Option Nat} {ty : Nat} {pos : String} {af : Array Edge} {g : Option (Nat × Bool)}
end
open Go Go.Proofs
/-- One cell of a semantic type. -/
def rTyp (A : Ty) (ho : ∀ h v, A.p h v → v.oneCell' = true) : Rp Unit where
  k := 1
  agg := false
  rel := fun h _ cs => ∃ u, cs = [u] ∧ A.p h u
  ty := fun _ => A
  len := by rintro _ _ _ ⟨u, rfl, _⟩; rfl
  one := by rintro _ _ _ ⟨u, rfl, h⟩ c hc; simp at hc; subst hc; exact ho _ _ h
  mono := fun l ⟨u, e, a⟩ => ⟨u, e, A.mono l a⟩
  scalar := fun _ => rfl
  iff := by
    intro h x v
    constructor
    · intro h1; exact ⟨[v], ⟨v, rfl, h1⟩, rfl⟩
    · rintro ⟨cs, ⟨u, rfl, h1⟩, rfl⟩; exact h1
section
variable {C : Cx} {E : Env} {L : List SP} {d : Option Nat} {ty : Nat} {pos : String} {af : Array Edge} {g : Option (Nat × Bool)}
theorem step_nilCheck {x : Operand} {b o : Nat} (hx : Sub (opTy E x) (tAt b o)) : Step1 C ⟨d, .nilCheck x, ty, pos, af, g⟩ E L (tAt b o) :=
  Step.of_same (by intro c h; cases h) fun a w h hw fr => by
    have hv : a.eval x = .pointer (some ⟨b, o, none⟩) := fr.get hx
    exact ⟨_, by simp [execOp, hv], rfl⟩
theorem step_nilCheckP {α : Type} {R : Rp α} {x : Operand} {y : α} (hx : Sub (opTy E x) (tPtr R y)) : Step1 C ⟨d, .nilCheck x, ty, pos, af, g⟩ E L (tPtr R y) :=
  Step.of_same (by intro c h; cases h) fun a w h hw fr => by
    have hp := fr.get hx
    obtain ⟨b, off, cs, hv, H⟩ := hp
    exact ⟨_, by simp [execOp, hv], ⟨b, off, cs, rfl, H⟩⟩
end
open Go Go.Proofs
section
variable {κ β : Type} [DecidableEq κ] (kv : κ → Value) (R : Rp β)
/-- The state of a range over a map that may not change. -/
def itI (b : Nat) (m : List (κ × β)) (done : List Nat) : SP where
  p := fun h mm => ∃ r es, h r = some (.map (List.toArray es) es.length) ∧ entR kv R h m es 0 ∧ mm = PH.one b (.mapIter (some r) m.length done.toArray m.length)
  mono := fun {h h' mm} l ⟨r, es, e1, e2, e3⟩ => ⟨r, es, l _ _ e1, by
    have := (mapOwn kv R (.map (some r)) m).mono l ⟨r, es, rfl, rfl, e2⟩
    obtain ⟨r', es', q1, q2, q3⟩ := this
    injection q1 with q1; injection q1 with q1; subst q1
    have q4 := congrFun q2 r
    rw [PH.one_same, PH.one_same] at q4
    injection q4 with q4; injection q4 with q4 _
    have : es = es' := by simpa using congrArg Array.toList q4
    subst this; exact q3, e3⟩
end
section
variable {κ β : Type} [DecidableEq κ] {kv : κ → Value} {R : Rp β}
variable {C : Cx} {E : Env} {L : List SP} {d : Option Nat} {ty : Nat} {pos : String} {af : Array Edge} {g : Option (Nat × Bool)}
theorem tMapI_iff {h : PH} {v : Value} {m : List (κ × β)} (a : (tMapI kv R m).p h v) : ∃ r es, v = .map (some r) ∧ h r = some (.map (List.toArray es) es.length) ∧ entR kv R h m es 0 := by
  obtain ⟨m1, l, r, es, rfl, rfl, hr⟩ := a
  exact ⟨r, es, rfl, l _ _ (PH.one_same _ _), hr⟩
theorem step_rangeI {T kt e : Nat} {x : Operand} {m : List (κ × β)} (hu : C.P.underlying T = some (.map kt e)) (hx : Sub (opTy E x) (tMapI kv R m)) :
    Step C ⟨d, .range T x, ty, pos, af, g⟩ E L (fun b : Nat => tAt b 0) (fun b => itI kv R b m [] :: L) :=
  Step.of_run (by intro c h; cases h) fun a w h mm l sp st fr => by
    obtain ⟨r, es, h1, hb0, hr⟩ := tMapI_iff (fr.get hx)
    have hb := sp.hw _ _ hb0
    have hl := hr.length
    refine ⟨w.heap.size, .pointer (some ⟨w.heap.size, 0, none⟩), w.alloc (.mapIter (some r) es.length #[] es.length), h, (PH.one w.heap.size (.mapIter (some r) es.length #[] es.length)).join _, ?_, HL.own _, sp.allocOwn _, ?_, rfl⟩
    · simp [execOp, Instr.range, h1, Sem.run_bind, run_underlying hu, run_getObj_map hb, run_newObj_alloc]
    · exact ⟨_, _, PH.disj_symm (PH.one_disj_new sp.mw _), rfl, ⟨r, es, hb0, hr, by rw [hl]⟩, st⟩
theorem step_nextI {b : Nat} {T : Bool} {x : Operand} {m : List (κ × β)} {S : List SP} {done : List Nat} (hT : T = false) (hx : Sub (opTy E x) (tAt b 0)) (hL : LSub L (itI kv R b m done :: S)) :
    Step (X := { o : Option Nat // match o with | none => ∀ i, i < m.length → i ∈ done | some i => i < m.length ∧ i ∉ done }) C ⟨d, .next x T, ty, pos, af, g⟩ E L (fun o => tNx o.1) (fun o => itI kv R b m (done ++ o.1.toList) :: S) :=
  Step.of_run (by intro c h; cases h) fun a w h mm l sp st fr => by
    subst hT
    have h1 : a.eval x = .pointer (some ⟨b, 0, none⟩) := fr.get hx
    obtain ⟨m1, m0, d1, rfl, ⟨r, es, hmap0, hr, rfl⟩, s3⟩ := hL h mm st
    have hl := hr.length
    have hit := sp.heap_own
    have hmap : w.heap[r]? = some (.map es.toArray es.length) := sp.hw _ _ hmap0
    have hold : ∀ x ∈ es.toArray.toList, x.born < m.length := fun e he => by
      obtain ⟨i, hi⟩ := List.getElem?_of_mem he
      obtain ⟨k, x, _, _, _, hb⟩ := hr.get hi
      have := (List.getElem?_eq_some_iff.1 hi).1
      simp at this
      omega
    rcases run_next_at (P := C.P) w ty b r m.length m.length done.toArray es.toArray es.length hit hmap hold (Nat.le_refl _) with ⟨h0, hrun⟩ | ⟨e, he, w1, hw1, hrun⟩
    · refine ⟨⟨none, fun i hi => ?_⟩, _, w, h, _, by simp [execOp, h1, hrun], HL.refl, sp, ?_, ⟨[], rfl⟩⟩
      · rw [← hl] at hi
        have : es[i] ∈ es.toArray := by simp
        have hnot : ¬ (es[i] ∈ leftOf es.toArray done.toArray) := fun hm => by
          have := Array.eq_empty_of_size_eq_zero h0
          rw [this] at hm; simp at hm
        simp only [leftOf, Array.mem_filter, this, true_and, Bool.not_eq_true', Bool.not_eq_false] at hnot
        obtain ⟨k, x, _, _, _, hb⟩ := hr.get (List.getElem?_eq_getElem hi)
        rw [hb] at hnot
        simpa using hnot
      · simp only [Option.toList_none, List.append_nil]
        exact ⟨_, _, d1, rfl, ⟨r, es, hmap0, hr, rfl⟩, s3⟩
    · simp only [leftOf, Array.toList_filter, List.mem_filter, Bool.not_eq_true'] at he
      obtain ⟨i, hi⟩ := List.getElem?_of_mem he.1
      have hi : es[i]? = some e := by simpa using hi
      obtain ⟨k, x, hmi, hk, hx', hb⟩ := hr.get hi
      rw [Nat.zero_add] at hb
      have hlt := (List.getElem?_eq_some_iff.1 hi).1
      have hsp1 : Sep h ((PH.one b (.mapIter (some r) m.length done.toArray m.length)).join m0) C.r w1 := by
        rcases hw1 with rfl | rfl
        · exact sp
        · exact sp.drew
      have hsm : Same w (w1.putObj b (.mapIter (some r) m.length (done.toArray.push e.born) es.length)) := by
        rcases hw1 with rfl | rfl
        · exact Same.putObj _ _ _
        · exact (Same.drew _).trans (Same.putObj _ _ _)
      have hni : i ∉ done := fun hm => by
        have := he.2
        rw [hb] at this
        simp [hm] at this
      refine ⟨⟨some i, by rw [← hl]; exact hlt, hni⟩, _, _, h, _, by simp [execOp, h1, hrun]; rfl, HL.same hsm, Sep.put (.mapIter (some r) m.length (done.toArray.push e.born) es.length) d1 hsp1, ?_, ⟨[e.key, e.val], rfl⟩⟩
      · refine ⟨_, _, PH.one_disj_iff.2 (PH.one_disj_iff.1 d1), rfl, ⟨r, es, hmap0, hr, ?_⟩, s3⟩
        show PH.one b (Obj.mapIter (some r) m.length (done.toArray.push e.born) es.length) = PH.one b (Obj.mapIter (some r) m.length (done ++ [i]).toArray m.length)
        rw [hb, hl]; simp
theorem step_entryI {b i : Nat} {x : Operand} {m : List (κ × β)} {S : List SP} {done : List Nat} {k : κ} {y : β} (hx : Sub (opTy E x) (tAt b 0)) (hL : LSub L (itI kv R b m (done ++ [i]) :: S)) (hi : m[i]? = some (k, y)) :
    Step1 C ⟨d, .entry x, ty, pos, af, g⟩ E L (tTup [tV (kv k), R.ty y]) :=
  Step.of_run (by intro c h; cases h) fun a w h mm l sp st fr => by
    have h1 : a.eval x = .pointer (some ⟨b, 0, none⟩) := fr.get hx
    obtain ⟨m1, m0, d1, rfl, ⟨r, es, hmap0, hr, rfl⟩, s3⟩ := hL h mm st
    have hl := hr.length
    have hit := sp.heap_own
    have hmap : w.heap[r]? = some (.map es.toArray es.length) := sp.hw _ _ hmap0
    have hlt : i < es.length := by rw [hl]; exact (List.getElem?_eq_some_iff.1 hi).1
    obtain ⟨k', y', hmi, hk, hy, hb⟩ := hr.get (List.getElem?_eq_getElem hlt)
    rw [hi] at hmi; cases hmi
    rw [Nat.zero_add] at hb
    have hit' : w.heap[b]? = some (.mapIter (some r) m.length (done.toArray.push es[i].born) es.length) := by rw [hit, hb, hl]; simp
    have hrun := run_entry_at (P := C.P) w b r m.length done.toArray es.toArray es.length es[i] hit' hmap (by simp) (by rw [hr.born]; exact List.nodup_range' ..)
    exact ⟨(), _, w, h, _, by simp [execOp, h1, hrun], HL.refl, sp, st, ⟨[es[i].key, es[i].val], rfl, hk, hy, trivial⟩⟩
end
/-- A map that may not change, or none. -/
def tOM {κ β : Type} [DecidableEq κ] (kv : κ → Value) (R : Rp β) : Option (List (κ × β)) → Ty
  | none => tV (.map none)
  | some m => tMapI kv R m
theorem tOM_one {κ β : Type} [DecidableEq κ] {kv : κ → Value} {R : Rp β} {o : Option (List (κ × β))} {h : PH} {v : Value} (a : (tOM kv R o).p h v) : v.oneCell' = true := by
  cases o with
  | none => have a : v = .map none := a; subst a; rfl
  | some m => obtain ⟨r, es, rfl, _⟩ := tMapI_iff a; rfl
def rOM {κ β : Type} [DecidableEq κ] (kv : κ → Value) (R : Rp β) : Rp (Option (List (κ × β))) where
  k := 1
  agg := false
  rel := fun h o cs => ∃ u, cs = [u] ∧ (tOM kv R o).p h u
  ty := fun o => tOM kv R o
  len := by rintro _ _ _ ⟨u, rfl, _⟩; rfl
  one := by rintro _ _ _ ⟨u, rfl, h⟩ c hc; simp at hc; subst hc; exact tOM_one h
  mono := fun {h h' o cs} l ⟨u, e, a⟩ => ⟨u, e, (tOM kv R o).mono l a⟩
  scalar := fun _ => rfl
  iff := by
    intro h x v
    constructor
    · intro h1; exact ⟨[v], ⟨v, rfl, h1⟩, rfl⟩
    · rintro ⟨cs, ⟨u, rfl, h1⟩, rfl⟩; exact h1
open Go
section
variable {κ α : Type} [DecidableEq κ]
/-- Keys, the rows that are held under them, what these hold. -/
abbrev RowsL (κ α : Type) := List (κ × Value × List α)
variable {e : Nat} {R : Rp α} {L : List SP}
theorem LSub.head {A : SP} {L L' : List SP} (h : LSub L L') : LSub (A :: L) (A :: L') := LSub.cons (Sel.take (Sel.none _)) SPs.rfl h
theorem LSub.swap {A B : SP} {L : List SP} : LSub (A :: B :: L) (B :: A :: L) := LSub.cons (Sel.skip (Sel.take (Sel.none _))) SPs.rfl (LSub.cons (Sel.take (Sel.none _)) SPs.rfl LSub.rfl)
variable {kv : κ → Value}
variable {C : Cx} {E : Env} {d : Option Nat} {ty : Nat} {pos : String} {af : Array Edge} {g : Option (Nat × Bool)}
end
section
variable {κ α : Type} [DecidableEq κ] {kv : κ → Value} {e : Nat} {R : Rp α}
abbrev lists (q : RowsL κ α) : List (κ × List α) := q.map fun t => (t.1, t.2.2)
end
open Go
inductive GPl (A T : Type) where
  | mk (Kind Table : Int) (Kids : List (GPl A T)) (Tests : List T) (Cols : List Int) (Col Agg : Int) (Attrs : List A)
namespace GPl
variable {A T : Type}
def Kind : GPl A T → Int | mk k _ _ _ _ _ _ _ => k
def Table : GPl A T → Int | mk _ t _ _ _ _ _ _ => t
def Kids : GPl A T → List (GPl A T) | mk _ _ k _ _ _ _ _ => k
def Tests : GPl A T → List T | mk _ _ _ t _ _ _ _ => t
def Cols : GPl A T → List Int | mk _ _ _ _ c _ _ _ => c
def Col : GPl A T → Int | mk _ _ _ _ _ c _ _ => c
def Agg : GPl A T → Int | mk _ _ _ _ _ _ a _ => a
def Attrs : GPl A T → List A | mk _ _ _ _ _ _ _ a => a
def zero : GPl A T := mk 0 0 [] [] [] 0 0 []
instance : Inhabited (GPl A T) := ⟨zero⟩
end GPl
/-- Nothing is represented. -/
def rBot (α : Type) (k : Nat) : Rp α where
  k := k
  agg := true
  rel := fun _ _ _ => False
  ty := fun _ => ⟨fun _ _ => False, fun _ e => e⟩
  len := fun h => h.elim
  one := fun h => h.elim
  mono := fun _ h => h
  scalar := fun e => by cases e
  iff := ⟨fun h => h.elim, fun ⟨_, h, _⟩ => h⟩
/-- The numbers of the types of a plan's fields. -/
structure PlT where
  int : Nat
  kids : Nat
  tests : Nat
  ints : Nat
  attrs : Nat
section
variable {A T : Type} (c : PlT) (RA : Rp A) (RT : Rp T)
def fsPl (R : Rp (GPl A T)) : List (SF (GPl A T)) := [⟨Int, c.int, rInt, GPl.Kind⟩, ⟨Int, c.int, rInt, GPl.Table⟩, ⟨List (GPl A T), c.kids, rSl R, GPl.Kids⟩, ⟨List T, c.tests, rSl RT, GPl.Tests⟩, ⟨List Int, c.ints, rSl rInt, GPl.Cols⟩, ⟨Int, c.int, rInt, GPl.Col⟩, ⟨Int, c.int, rInt, GPl.Agg⟩, ⟨List A, c.attrs, rSl RA, GPl.Attrs⟩]
def rPl : Nat → Rp (GPl A T)
  | 0 => rBot _ 8
  | n + 1 => rStruct (fsPl c RA RT (rPl n))
theorem rPl_k : ∀ n, (rPl c RA RT n).k = 8
  | 0 => rfl
  | _ + 1 => rfl
theorem rPl_agg : ∀ n, (rPl c RA RT n).agg = true
  | 0 => rfl
  | _ + 1 => rfl
theorem rPl_ty {P : Program} {t : Nat} (ha : ∀ w, (isAgg t).run P w = .ok true w) (hs : ∀ w, (Go.sizeOf t).run P w = .ok 8 w) (n : Nat) : TyOf P t (rPl c RA RT n) :=
  ⟨fun w => by rw [rPl_agg]; exact ha w, fun w => by rw [rPl_k]; exact hs w⟩
theorem tSl_up {α : Type} {R R' : Rp α} (hk : R.k = R'.k) (hr : ∀ {h x cs}, R.rel h x cs → R'.rel h x cs) {h : PH} {xs : List α} {v : Value} (hv : (tSl R xs).p h v) : (tSl R' xs).p h v := by
  obtain ⟨ao, cap, e, H⟩ := hv
  refine ⟨ao, cap, e, fun hn => ?_⟩
  obtain ⟨b, off, ea, H2⟩ := H hn
  refine ⟨b, off, ea, fun i x hx => ?_⟩
  obtain ⟨cs, H1, r⟩ := H2 i x hx
  exact ⟨cs, by rw [← hk]; exact H1, hr r⟩
theorem rPl_up : ∀ (n : Nat) {h : PH} {x : GPl A T} {cs : List Value}, (rPl c RA RT n).rel h x cs → (rPl c RA RT (n + 1)).rel h x cs
  | 0, _, _, _, r => r.elim
  | n + 1, h, x, cs, r => by
    obtain ⟨c0, _, rfl, r0, c1, _, rfl, r1, c2, _, rfl, r2, rest⟩ := (show SF.rel h x (fsPl c RA RT (rPl c RA RT n)) cs from r)
    refine ⟨c0, _, rfl, r0, c1, _, rfl, r1, c2, _, rfl, ?_, rest⟩
    obtain ⟨v, e, hv⟩ := r2
    exact ⟨v, e, tSl_up ((rPl_k c RA RT n).trans (rPl_k c RA RT (n + 1)).symm) (fun q => rPl_up n q) hv⟩
theorem rPl_le {m n : Nat} (hmn : m ≤ n) {h : PH} {x : GPl A T} {cs : List Value} (r : (rPl c RA RT m).rel h x cs) : (rPl c RA RT n).rel h x cs := by
  induction n with
  | zero => obtain rfl : m = 0 := (by omega); exact r
  | succ n ih =>
    rcases Nat.lt_or_ge m (n + 1) with h1 | h1
    · exact rPl_up c RA RT n (ih (by omega))
    · obtain rfl : m = n + 1 := (by omega); exact r
/-- A plan of some depth has kids of a smaller one. -/
theorem rPl_pos {n : Nat} {h : PH} {x : GPl A T} {cs : List Value} (r : (rPl c RA RT n).rel h x cs) : ∃ m, n = m + 1 := by
  cases n with
  | zero => exact r.elim
  | succ m => exact ⟨m, rfl⟩
end
open Go
section
variable {H : Type} {enc : TypeId × Value → H} {P : Program} {W : World}
/-- A struct is read with a fuel. -/
theorem st_rd {α : Type} {t : Nat} {fs : List (SF α)} (S : StructOf P t fs) {fuel : Nat} {cs : List Value} {x : DataW H × List MemPlace} (h : DataW.trod enc P W 0 (fun _ => true) true fuel t cs = some x) :
    ∃ n, fuel = n + 1 ∧ cs.length = SF.width fs ∧ ∀ (i : Nat) (f : SF α), fs[i]? = some f → ∃ z, DataW.trod enc P W 0 (fun _ => true) true n f.T ((cs.drop (SF.off fs i)).take f.R.k) = some z := by
  obtain ⟨fls, hu, hl⟩ := S.lays
  obtain ⟨xs, n, hn, _, hlen, hxs, hf⟩ := DataW.trod_struct hu h
  refine ⟨n, hn, hlen.trans (S.ty.cells W), fun i f hi => ?_⟩
  obtain ⟨fl, h1, h2, h3, h4, _⟩ := hl.get hi
  have h1' : fls[i]? = some fl := by simpa using h1
  have h5 := hf i fl h1'
  have hlt : i < xs.length := by rw [hxs]; exact (Array.getElem?_eq_some_iff.1 h1').1
  rw [List.getElem?_eq_getElem hlt, h2, h3, h4.cells W, Nat.zero_add] at h5
  exact ⟨_, h5⟩
end
open Go
def fldAt (v : Value) (k i o : Nat) : Value := match v with
  | .slice (some a) _ _ => .pointer (some ⟨a.block, a.off + i * k + o, none⟩)
  | _ => undef
theorem splice_in {β : Type} (l c cz : List β) (a K o k : Nat) (hc : c.length = K) (ho : o + k ≤ K) (hl : a + K ≤ l.length) (hg : ∀ j, j < K → l[a + j]? = c[j]?) :
    l.take a ++ (c.take o ++ cz ++ c.drop (o + k)) ++ l.drop (a + K) = l.take (a + o) ++ cz ++ l.drop (a + o + k) := by
  have e : l = l.take a ++ (c ++ l.drop (a + K)) := by
    have e1 : (l.drop a).take K = c := by
      apply List.ext_getElem?
      intro j
      rw [List.getElem?_take]
      by_cases hj : j < K
      · rw [if_pos hj, List.getElem?_drop, hg j hj]
      · rw [if_neg hj, List.getElem?_eq_none (by omega)]
    have e2 : l.drop a = c ++ l.drop (a + K) := by
      rw [← e1, ← List.drop_drop, List.take_append_drop]
    rw [← e2, List.take_append_drop]
  have hA : (l.take a).length = a := by simp; omega
  have h1 : l.take (a + o) = l.take a ++ c.take o := by
    conv => lhs; rw [e]
    rw [List.take_append, hA, List.take_of_length_le (by omega)]
    congr 1
    rw [List.take_append, hc, show a + o - a = o by omega, show o - K = 0 by omega]; simp
  have h2 : l.drop (a + o + k) = c.drop (o + k) ++ l.drop (a + K) := by
    conv => lhs; rw [e]
    rw [List.drop_append, hA, List.drop_of_length_le (by omega), List.nil_append]
    rw [List.drop_append, hc, show a + o + k - a = o + k by omega, show o + k - K = 0 by omega]; simp
  rw [h1, h2]; simp [List.append_assoc]
section
variable {C : Cx} {E : Env} {L : List SP} {d : Option Nat} {ty : Nat} {pos : String} {af : Array Edge} {g : Option (Nat × Bool)}
theorem step_fieldAddr_elem {α : Type} {T e n i : Nat} {fs : List (SF α)} {x : Operand} {v : Value} {xs : List α} {f : SF α} {S : List SP} (So : StructOf C.P T fs) (hx : Sub (opTy E x) (tV (elemAt v (SF.width fs) i))) (hf : fs[n]? = some f)
    (sel : Sel L [own e (rStruct fs) v xs] S) (hi : i < xs.length) : Step1 C ⟨d, .fieldAddr T x n, ty, pos, af, g⟩ E L (tV (fldAt v (SF.width fs) i (SF.off fs n))) :=
  Step.of_run (by intro c h; cases h) fun a w h m l sp st fr => by
    have hp : a.eval x = elemAt v (SF.width fs) i := fr.get hx
    obtain ⟨m1, m2, d12, rfl, ho, s2⟩ := sel.one.1 st
    rcases ho with ⟨rfl, rfl, _⟩ | ⟨b, cap, cur, rfl, rfl, hl, hm, hs, r⟩
    · simp at hi
    · refine ⟨(), _, w, h, _, ?_, HL.refl, sp, st, rfl⟩
      simp only [elemAt, Nat.zero_add] at hp
      have := So.fieldAt hf b (i * SF.width fs) w
      simp [execOp, hp, this, fldAt]
theorem step_store_elemfld {α β : Type} {T e i n : Nat} {fs : List (SF α)} {R : Rp β} {z : β} {x u : Operand} {v : Value} {xs : List α} {y y' : α} {S : List SP} (hR : TyOf C.P T R) (hx : Sub (opTy E x) (tV (fldAt v (SF.width fs) i (SF.off fs n)))) (hv : Sub (opTy E u) (R.ty z))
    (sel : Sel L [own e (rStruct fs) v xs] S) (hy : xs[i]? = some y) (hu : SF.upd y y' R z fs n) :
    Step C ⟨d, .store T x u, ty, pos, af, g⟩ E L (fun _ : Unit => tAny) (fun _ => own e (rStruct fs) v (xs.set i y') :: S) :=
  Step.of_skip (by intro c h; cases h) fun a w h m l sp st fr => by
    have hp : a.eval x = fldAt v (SF.width fs) i (SF.off fs n) := fr.get hx
    have rz := R.cells (fr.get hv)
    have hi : i < xs.length := (List.getElem?_eq_some_iff.1 hy).1
    obtain ⟨m1, m2, d12, rfl, ho, s2⟩ := sel.one.1 st
    rcases ho with ⟨rfl, rfl, _⟩ | ⟨b, cap, cur, rfl, rfl, hl, hm, hs, r⟩
    · simp at hi
    · have hb := sp.heap_own
      have hK : (rStruct fs).k = SF.width fs := rfl
      rw [hK] at r hs
      obtain ⟨c, rc, hc⟩ := relAll_get r hy
      rw [hK] at hc
      have rc : SF.rel h y fs c := rc
      have hcl := SF.rel_len rc
      obtain ⟨rn, hle0⟩ := SF.rel_set rz hu rc
      rw [hcl] at hle0
      have hle : i * SF.width fs + SF.width fs ≤ xs.length * SF.width fs := by rw [← Nat.succ_mul]; exact Nat.mul_le_mul_right _ hi
      have hle2 : xs.length * SF.width fs ≤ cap * SF.width fs := Nat.mul_le_mul_right _ hl
      have hrz := R.len rz
      obtain ⟨w', hrun, hoth, hsame, hnew⟩ := run_storeVar_cells (P := C.P) (b := b) (o := i * SF.width fs + SF.off fs n) (v := a.eval u) hR.size (by simpa using hrz) hb (by rw [hs]; omega) (R.one rz)
      have rn2 := relAll_set (R := rStruct fs) rn hi r
      rw [hK] at rn2
      refine ⟨(), w', h, (PH.one b _).join m2, ?_, HL.same hsame, Sep.write d12 sp (fun b' hne _ => hoth b' hne) hnew, ?_⟩
      · simp only [fldAt, Nat.zero_add] at hp
        simp [execOp, Instr.storeAt, Instr.sureAddr, hp, hrun]
      · refine ⟨_, m2, PH.one_disj_iff.2 (PH.one_disj_iff.1 d12), rfl, .inr ⟨b, cap, _, by simp, rfl, by simpa using hl, hm, ?_, ?_⟩, s2⟩
        · simp only [Array.length_toList] at hrz
          simp only [List.size_toArray, List.length_append, List.length_take, List.length_drop, Array.length_toList, hs, hrz, hK]
          omega
        · have e0 := splice_in cur.toList c (a.eval u).cells.toList (i * SF.width fs) (SF.width fs) (SF.off fs n) R.k hcl hle0 (by simp [hs]; omega) (fun j hj => by
            have h1 := hc j (c[j]'(by omega)) (List.getElem?_eq_getElem (by omega))
            rw [List.getElem?_take] at h1
            split at h1
            · rw [h1, List.getElem?_eq_getElem (by omega)]
            · cases h1)
          have e1 := list_take_splice cur.toList (c.take (SF.off fs n) ++ (a.eval u).cells.toList ++ c.drop (SF.off fs n + R.k)) (i * SF.width fs) (SF.width fs) (xs.length * SF.width fs) hle (by simpa [hs] using hle2) (by simp only [List.length_append, List.length_take, List.length_drop, hrz, hcl]; omega)
          rw [List.length_set]
          show relAll (rStruct fs) h _ (List.take (xs.length * SF.width fs) (List.take (i * SF.width fs + SF.off fs n) cur.toList ++ (a.eval u).cells.toList ++ List.drop (i * SF.width fs + SF.off fs n + R.k) cur.toList).toArray.toList)
          rw [List.toList_toArray, ← e0, e1]
          exact rn2
end
open Go
section
variable {C : Cx} {E : Env} {L : List SP} {d : Option Nat} {ty : Nat} {pos : String} {af : Array Edge} {g : Option (Nat × Bool)}
theorem step_load_elemfld {α : Type} {T e i n : Nat} {fs : List (SF α)} {f : SF α} {x : Operand} {v : Value} {xs : List α} {y : α} {S : List SP} (hR : TyOf C.P T f.R) (hx : Sub (opTy E x) (tV (fldAt v (SF.width fs) i (SF.off fs n)))) (hf : fs[n]? = some f)
    (sel : Sel L [own e (rStruct fs) v xs] S) (hy : xs[i]? = some y) : Step1 C ⟨d, .load T x, ty, pos, af, g⟩ E L (f.R.ty (f.get y)) :=
  Step.of_run (by intro c h; cases h) fun a w h m l sp st fr => by
    have hp : a.eval x = fldAt v (SF.width fs) i (SF.off fs n) := fr.get hx
    obtain ⟨m1, m2, d12, rfl, ho, s2⟩ := sel.one.1 st
    rcases ho with ⟨rfl, rfl, _⟩ | ⟨b, cap, cur, rfl, rfl, hl, hm, hs, r⟩
    · simp at hy
    · have hb := sp.heap_own
      have hK : (rStruct fs).k = SF.width fs := rfl
      obtain ⟨c0, rc0, hc0⟩ := relAll_get r hy
      rw [hK] at hc0
      have rc0 : SF.rel h y fs c0 := rc0
      obtain ⟨c, rc, hc⟩ := SF.rel_field rc0 hf
      have := run_loadVar_cells (b := b) (o := i * SF.width fs + SF.off fs n) (w := w) hR.agg hR.size (f.R.len rc) f.R.scalar (fun j u hu => by
        rw [inw_cells (h := h) hb]
        have h1 := hc0 _ _ (hc j u hu)
        rw [List.getElem?_take] at h1
        split at h1
        · rw [show i * SF.width fs + SF.off fs n + j = i * SF.width fs + (SF.off fs n + j) by omega]; simpa using h1
        · cases h1)
      refine ⟨(), packV f.R.agg c, w, h, _, ?_, HL.refl, sp, st, f.R.pack rc⟩
      simp only [fldAt, Nat.zero_add] at hp
      simp [execOp, Instr.loadAt, Instr.sureAddr, hp, this]
end
open Go
/-- One cell of a semantic type that a key tells. -/
def rTypI {α : Type} (A : α → Ty) (ho : ∀ x h v, (A x).p h v → v.oneCell' = true) : Rp α where
  k := 1
  agg := false
  rel := fun h x cs => ∃ u, cs = [u] ∧ (A x).p h u
  ty := fun x => A x
  len := by rintro _ _ _ ⟨u, rfl, _⟩; rfl
  one := by rintro _ x _ ⟨u, rfl, h⟩ c hc; simp at hc; subst hc; exact ho x _ _ h
  mono := fun {h h' x cs} l ⟨u, e, a⟩ => ⟨u, e, (A x).mono l a⟩
  scalar := fun _ => rfl
  iff := by
    intro h x v
    constructor
    · intro h1; exact ⟨[v], ⟨v, rfl, h1⟩, rfl⟩
    · rintro ⟨cs, ⟨u, rfl, h1⟩, rfl⟩; exact h1
theorem run_eql_fnil0 {P : Program} {t : TypeId} {ps rs : Array TypeId} {va : Bool} (hu : P.underlying t = some (.func ps rs va)) (w : World) :
    (Go.binOp .eql t .nilFunc .nilFunc).run P w = .ok (.bool true) w := by
  have k : ∀ d, (Op.equalIn (d + 1) t .nilFunc .nilFunc).run P w = .ok true w := fun d => by simp [Op.equalIn, run_underlying hu]
  have h : (Op.equal t .nilFunc .nilFunc).run P w = .ok true w := k 9999
  simp only [Go.binOp]; simp [h]
theorem run_eql_fnil1 {P : Program} {t : TypeId} {ps rs : Array TypeId} {va : Bool} (hu : P.underlying t = some (.func ps rs va)) (f : Fn) (a c : Array Value) (w : World) :
    (Go.binOp .eql t (.func f a c) .nilFunc).run P w = .ok (.bool false) w := by
  have k : ∀ d, (Op.equalIn (d + 1) t (.func f a c) .nilFunc).run P w = .ok false w := fun d => by simp [Op.equalIn, run_underlying hu]
  have h : (Op.equal t (.func f a c) .nilFunc).run P w = .ok false w := k 9999
  simp only [Go.binOp]; simp [h]
section
variable {C : Cx} {E : Env} {L : List SP} {d : Option Nat} {ty : Nat} {pos : String} {af : Array Edge} {g : Option (Nat × Bool)}
theorem step_eql_fnil {T U : Nat} {ps rs : Array TypeId} {va : Bool} {x : Operand} {A : Ty} {b : Bool} (hu : C.P.underlying T = some (.func ps rs va)) (hx : Sub (opTy E x) A)
    (hA : ∀ h v, A.p h v → (v = .nilFunc ∧ b = true) ∨ ((∃ f a c, v = .func f a c) ∧ b = false)) :
    Step1 C ⟨d, .binOp .eql T x (.const .nilFunc) U, ty, pos, af, g⟩ E L (tV (.bool b)) :=
  Step.of_same (by intro c h; cases h) fun a w h hw fr => by
    have h1 := hA _ _ (fr.get hx)
    have h2 : a.eval (.const .nilFunc) = .nilFunc := rfl
    rcases h1 with ⟨e, rfl⟩ | ⟨⟨f, c, q, e⟩, rfl⟩
    · refine ⟨.bool true, ?_, rfl⟩
      have he : (eqGuard .eql T x (.const .nilFunc) .nilFunc .nilFunc).run C.P w = .ok () w := by simp [eqGuard]
      simp [execOp, h2, e, Sem.run_bind, he, run_eql_fnil0 hu]
    · refine ⟨.bool false, ?_, rfl⟩
      have he : (eqGuard .eql T x (.const .nilFunc) (.func f c q) .nilFunc).run C.P w = .ok () w := by simp [eqGuard]
      simp [execOp, h2, e, Sem.run_bind, he, run_eql_fnil1 hu]
theorem step_nilCheck_elem {α : Type} {e i : Nat} {R : Rp α} {x : Operand} {v : Value} {xs : List α} {S : List SP} (hx : Sub (opTy E x) (tV (elemAt v R.k i))) (sel : Sel L [own e R v xs] S) (hi : i < xs.length) :
    Step1 C ⟨d, .nilCheck x, ty, pos, af, g⟩ E L (tV (elemAt v R.k i)) :=
  Step.of_run (by intro c h; cases h) fun a w h m l sp st fr => by
    have hp : a.eval x = elemAt v R.k i := fr.get hx
    obtain ⟨m1, m2, d12, rfl, ho, s2⟩ := sel.one.1 st
    rcases ho with ⟨rfl, rfl, _⟩ | ⟨b, cap, cur, rfl, rfl, hl, hm, hs, r⟩
    · simp at hi
    · refine ⟨(), _, w, h, _, ?_, HL.refl, sp, st, rfl⟩
      simp only [elemAt] at hp
      simp [execOp, hp, elemAt]
end
/-- A fact that a slot's type tells. -/
theorem K_fact {C : Cx} {k : Act → World → Prop} {E : Env} {L : List SP} {φ : Prop} (t : Nat) (hf : ∀ h v, (E t).p h v → φ) (hk : φ → K C k E L) : K C k E L := fun a w p => by
  obtain ⟨h1, h2, h, m, l, sp, st, f⟩ := id p
  exact hk (hf _ _ (f t)) a w p
/-- A row of one's own tells how its slice is written. -/
theorem K_lenOwn {α : Type} {e : Nat} {R : Rp α} {v : Value} {xs : List α} {C : Cx} {k : Act → World → Prop} {E : Env} {L S : List SP} (sel : Sel L [own e R v xs] S) (hk : (∃ p cap, v = .slice p xs.length cap) → K C k E L) : K C k E L := fun a w p => by
  obtain ⟨h1, h2, h, m, l, sp, st, f⟩ := id p
  obtain ⟨m1, m2, d12, rfl, ho, s2⟩ := sel.one.1 st
  refine hk ?_ a w p
  rcases ho with ⟨rfl, rfl, rfl⟩ | ⟨g, cap, cur, rfl, rfl, hl, hm, hs, hr⟩
  · exact ⟨none, 0, rfl⟩
  · exact ⟨_, cap, rfl⟩
section
variable {C : Cx} {E : Env} {L : List SP} {d : Option Nat} {ty : Nat} {pos : String} {af : Array Edge} {g : Option (Nat × Bool)}
theorem step_lenV {T e n cap : Nat} {p : Option Addr} {x : Operand} (hu : C.P.underlying T = some (.slice e)) (hx : Sub (opTy E x) (rV.ty (.slice p n cap))) :
    Step1 C ⟨d, .call { callee := .builtin .len, args := #[x], argTypes := #[T] }, ty, pos, af, g⟩ E L (tV (.int .i64 n)) :=
  Step.of_same (by intro c h; cases h) fun a w h hw f => by
    have hv : a.eval x = .slice p n cap := (f.get hx).1
    exact ⟨.int .i64 n, by simp [execOp, resolve, invoke, builtin, Builtin.len_, hv, run_underlying hu, goInt], rfl⟩
end
open Go
theorem sortWorld_other {α : Type} [Inhabited α] {enc : α → Value} {w : World} {g off m : Nat} {dk : Array α} {os : Array Obj} {b : Nat} (hb : b < w.heap.size) (hne : b ≠ g) : (Go.Proofs.sortWorld enc w g off m dk os).heap[b]? = w.heap[b]? := by
  show ((Sort.mapBlock (Sort.ahead w m) g _).heap ++ os)[b]? = _
  rw [Array.getElem?_append_left (by simp [Sort.mapBlock, Sort.ahead, hb])]
  simp only [Sort.mapBlock, Sort.ahead, Array.getElem?_modify, Ne.symm hne, if_false]
theorem sortWorld_row {α : Type} [Inhabited α] {enc : α → Value} {w : World} {g off m : Nat} {dk : Array α} {os : Array Obj} {cur : Array Value} {e : Nat} {fz : Nat × Nat} (hb : w.heap[g]? = some (.cells cur e fz)) :
    (Go.Proofs.sortWorld enc w g off m dk os).heap[g]? = some (.cells (Sort.putCells enc off dk cur) e fz) := by
  have hlt := (Array.getElem?_eq_some_iff.1 hb).1
  show ((Sort.mapBlock (Sort.ahead w m) g _).heap ++ os)[g]? = _
  rw [Array.getElem?_append_left (by simp [Sort.mapBlock, Sort.ahead, hlt])]
  simp only [Sort.mapBlock, Sort.ahead, Array.getElem?_modify, if_true, hb, Option.map_some, Sort.onCells]
open Go
def sortI (xs : List Int) : List Int := xs.mergeSort fun x y => decide (x ≤ y)
theorem sortI_len (xs : List Int) : (sortI xs).length = xs.length := by simp [sortI]
theorem sortInts_spec {P : Program} {ρ : Shelf.Ren} (LL : Go.Proofs.Lays.n189 P ρ) (v : Value) (xs : List Int) (hn : xs.length < 4611686018427387904) :
    Spec (X := Unit) P (ρ.f 189) [rV.ty v] [own 3 rInt v xs] (fun _ => tTup []) (fun _ => [own 3 rInt v (sortI xs)]) := by
  intro vs h m r w ha sp st
  match vs, ha with
  | [u1], ⟨a1, _⟩ =>
  obtain ⟨e1, _⟩ := a1
  subst e1
  obtain ⟨m1, m2, d12, rfl, ho, e3⟩ := st
  rw [stars_nil] at e3; subst e3
  rw [PH.join_emp] at sp
  have none_case : ∀ (p : Option Addr) (cap : Nat), u1 = .slice p 0 cap → xs = [] → Calls P (ρ.f 189) [u1].toArray w (Ret (X := Unit) h w r (fun _ => tTup []) (fun _ => [own 3 rInt u1 (sortI xs)])) := by
    intro p cap hu hx
    subst hu; subst hx
    refine (Go.Proofs.Any.slices_Sort_int_none LL p cap w).mono ?_
    rintro e' w' ⟨rfl, rfl⟩
    exact ⟨(), _, h, m1, rfl, HL.refl, sp, ⟨m1, PH.emp, PH.disj_emp _, (PH.join_emp _).symm, by simpa [sortI] using ho, rfl⟩, ⟨[], rfl, trivial⟩⟩
  rcases ho with ⟨rfl, rfl, rfl⟩ | ⟨g, cap, cur, rfl, rfl, hl, hm, hs, hr⟩
  · exact none_case none 0 rfl rfl
  · by_cases hx : xs = []
    · subst hx; exact none_case _ cap rfl rfl
    · have hk : rInt.k = 1 := rfl
      rw [hk, Nat.mul_one] at hs hr
      rw [relAll_int] at hr
      have hb := sp.mw g _ (PH.one_same _ _)
      have hH : Sort.Holds (Value.int .i64) w g 0 xs.toArray := fun j hj => ⟨by
        rw [Nat.zero_add]; simp only [World.cell?, hb]
        have hj' : j < xs.length := by simpa using hj
        have : (cur.toList.take xs.length)[j]? = some (.int .i64 xs[j]) := by rw [hr]; simp [hj']
        rw [List.getElem?_take, if_pos hj'] at this
        rw [getElem!_pos _ j hj]
        simpa using this, by simp [World.frozen?, hb]⟩
      have hblk : g < w.heap.size := (Array.getElem?_eq_some_iff.1 hb).1
      refine (Go.Proofs.Any.slices_Sort_int LL g 0 cap xs w hH hblk hn).mono ?_
      rintro e' w' ⟨rfl, n, os, rfl⟩
      have hlen := sortI_len xs
      refine ⟨(), _, h, PH.one g (.cells (Sort.putCells (Value.int .i64) 0 (sortI xs).toArray cur) 3 (0, 0)), rfl, HL.same ⟨rfl, rfl, rfl⟩, ?_, ⟨_, PH.emp, PH.disj_emp _, (PH.join_emp _).symm, .inr ⟨g, cap, _, by rw [hlen], rfl, by rw [hlen]; exact hl, hm, ?_, ?_⟩, rfl⟩, ⟨[], rfl, trivial⟩⟩
      · have sp' : Sep h ((PH.one g (.cells cur 3 (0, 0))).join PH.emp) r w := by rw [PH.join_emp]; exact sp
        have := Sep.write (o' := .cells (Sort.putCells (Value.int .i64) 0 (sortI xs).toArray cur) 3 (0, 0)) (PH.disj_emp _) sp' (fun b hne' hb' => sortWorld_other (enc := Value.int .i64) (off := 0) (m := n) (dk := (sortI xs).toArray) (os := os) hb' hne') (sortWorld_row hb)
        rw [PH.join_emp] at this; exact this
      · simp [Sort.putCells, hs, hk]
      · rw [hlen, hk, Nat.mul_one, relAll_int]
        apply List.ext_getElem?
        intro j
        rw [List.getElem?_take]
        split
        · rename_i hj
          have hjc : j < cur.size := by omega
          have hjd : j < (sortI xs).length := by omega
          simp [Sort.putCells, hjc, hjd]
        · rw [List.getElem?_eq_none (by simp [hlen]; omega)]
open Go
/-- A function that sorts, cuts or thins a row of one's own strings. -/
theorem row_spec {P : Program} {f : Nat} {As : List Ty} {rest : List Value} (v : Value) (xs : List ByteArray) (ds : List (List UInt8)) (hd : ds.length = xs.length) (m : Nat) (hm : m ≤ xs.length) (ret : Option Addr → Nat → Value) (T : Value → Ty) (hT : ∀ h a n cap, (xs = [] → n = 0) → (xs ≠ [] → n = m) → (T (.slice a n cap)).p h (ret a cap)) (hrest : ∀ h vs, Args h As vs → vs = rest)
    (hk : ∀ (g cap : Nat) (w : World), Sort.Holds Go.Proofs.encStr w g 0 (xs.map ofB).toArray → g < w.heap.size → xs.length ≤ cap → Calls P f (.slice (some ⟨g, 0, none⟩) xs.length cap :: rest).toArray w fun e w' => e = .returned (ret (some ⟨g, 0, none⟩) cap) ∧ ∃ n os, w' = Go.Proofs.sortWorld Go.Proofs.encStr w g 0 n ds.toArray os)
    (hn : ∀ a cap w, xs = [] → Calls P f (.slice a 0 cap :: rest).toArray w fun e w' => e = .returned (ret a cap) ∧ w' = w) :
    Spec (X := { z : Value // m = xs.length → z = v }) P f (rV.ty v :: As) [own 9 rStr v xs] (fun z => T z.1) (fun z => [own 9 rStr z.1 ((ds.take m).map toB)]) := by
  intro vs h m0 r w ha sp st
  match vs, ha with
  | u1 :: us, ⟨a1, a2⟩ =>
  obtain ⟨e1, _⟩ := a1
  subst e1
  have := hrest _ _ a2
  subst this
  obtain ⟨m1, m2, d12, rfl, ho, e3⟩ := st
  rw [stars_nil] at e3; subst e3
  rw [PH.join_emp] at sp
  have none_case : ∀ (p : Option Addr) (cap : Nat), u1 = .slice p 0 cap → xs = [] → (own 9 rStr u1 xs).p h m1 → Calls P f (u1 :: us).toArray w (Ret (X := { z : Value // m = xs.length → z = u1 }) h w r (fun z => T z.1) (fun z => [own 9 rStr z.1 ((ds.take m).map toB)])) := by
    intro p cap hu hx ho
    subst hu; subst hx
    have hds : ds = [] := List.length_eq_zero_iff.1 hd
    subst hds
    refine (hn p cap w rfl).mono ?_
    rintro e' w' ⟨rfl, rfl⟩
    exact ⟨⟨.slice p 0 cap, fun _ => rfl⟩, _, h, m1, rfl, HL.refl, sp, ⟨m1, PH.emp, PH.disj_emp _, (PH.join_emp _).symm, by simpa using ho, rfl⟩, hT _ _ _ _ (fun _ => rfl) (fun q => absurd rfl q)⟩
  have ho0 := ho
  rcases ho with ⟨rfl, rfl, rfl⟩ | ⟨g, cap, cur, rfl, rfl, hl, hmx, hs, hr⟩
  · exact none_case none 0 rfl rfl ho0
  · by_cases hx : xs = []
    · subst hx; exact none_case _ cap rfl rfl ho0
    · have hk1 : rStr.k = 1 := rfl
      rw [hk1, Nat.mul_one] at hs hr
      rw [relAll_str] at hr
      have hb := sp.mw g _ (PH.one_same _ _)
      have hH : Sort.Holds Go.Proofs.encStr w g 0 (xs.map ofB).toArray := fun j hj => ⟨by
        rw [Nat.zero_add]; simp only [World.cell?, hb]
        have hj' : j < xs.length := by simpa using hj
        have : (cur.toList.take xs.length)[j]? = some (.string xs[j]) := by rw [hr]; simp [hj']
        rw [List.getElem?_take, if_pos hj'] at this
        rw [getElem!_pos _ j hj]
        have e2 : Go.Proofs.encStr ((xs.map ofB).toArray[j]) = .string xs[j] := by
          simp only [List.getElem_toArray, List.getElem_map]
        rw [e2]
        first | exact this | simpa using this, by simp [World.frozen?, hb]⟩
      have hblk : g < w.heap.size := (Array.getElem?_eq_some_iff.1 hb).1
      refine (hk g cap w hH hblk hl).mono ?_
      rintro e' w' ⟨rfl, n, os, rfl⟩
      have hlen : ((ds.take m).map toB).length = m := by rw [List.length_map, List.length_take, Nat.min_eq_left (by omega)]
      refine ⟨⟨.slice (some ⟨g, 0, none⟩) m cap, fun q => by rw [q]⟩, _, h, PH.one g (.cells (Sort.putCells Go.Proofs.encStr 0 ds.toArray cur) 9 (0, 0)), rfl, HL.same ⟨rfl, rfl, rfl⟩, ?_, ⟨_, PH.emp, PH.disj_emp _, (PH.join_emp _).symm, .inr ⟨g, cap, _, by rw [hlen], rfl, by rw [hlen]; omega, hmx, ?_, ?_⟩, rfl⟩, hT _ _ _ _ (fun q => absurd q hx) (fun _ => rfl)⟩
      · have sp' : Sep h ((PH.one g (.cells cur 9 (0, 0))).join PH.emp) r w := by rw [PH.join_emp]; exact sp
        have := Sep.write (o' := .cells (Sort.putCells Go.Proofs.encStr 0 ds.toArray cur) 9 (0, 0)) (PH.disj_emp _) sp' (fun b hne' hb' => sortWorld_other (enc := Go.Proofs.encStr) (off := 0) (m := n) (dk := ds.toArray) (os := os) hb' hne') (sortWorld_row hb)
        rw [PH.join_emp] at this; exact this
      · simp [Sort.putCells, hs, hk1]
      · rw [hlen, hk1, Nat.mul_one, relAll_str]
        apply List.ext_getElem?
        intro j
        rw [List.getElem?_take]
        split
        · rename_i hj
          have hjc : j < cur.size := by omega
          have hjd : j < ds.length := by omega
          simp [Sort.putCells, hjc, hjd, hj]
        · rw [List.getElem?_eq_none (by rw [List.length_map, hlen]; omega)]
def sortS (xs : List ByteArray) : List ByteArray := ((xs.map ofB).mergeSort fun x y => decide (x ≤ y)).map toB
theorem sortS_len (xs : List ByteArray) : (sortS xs).length = xs.length := by simp [sortS]
def compS (xs : List ByteArray) : List ByteArray := (Lib.compact (xs.map ofB)).map toB
theorem sortStr_spec {P : Program} {ρ : Shelf.Ren} (LL : Go.Proofs.Lays.n190 P ρ) (v : Value) (xs : List ByteArray) (hn : xs.length < 4611686018427387904) :
    Spec (X := Unit) P (ρ.f 190) [rV.ty v] [own 9 rStr v xs] (fun _ => tTup []) (fun _ => [own 9 rStr v (sortS xs)]) := by
  have h := row_spec (P := P) (f := ρ.f 190) (As := []) (rest := []) v xs ((xs.map ofB).mergeSort fun x y => decide (x ≤ y)) (by simp) xs.length (Nat.le_refl _) (fun _ _ => .tuple #[]) (fun _ => tTup []) (fun _ _ _ _ _ _ => ⟨[], rfl, trivial⟩) (fun h vs a => by match vs, a with | [], _ => rfl)
    (fun g cap w hH hb hc => by
      have := Go.Proofs.Any.slices_Sort_string LL g 0 cap (xs.map ofB) w hH hb (by simpa using hn)
      rw [List.length_map] at this
      exact this)
    (fun a cap w _ => Go.Proofs.Any.slices_Sort_string_none LL a cap w)
  intro vs h0 m r w ha sp st
  refine (h vs h0 m r w ha sp st).mono ?_
  rintro e w' ⟨⟨z, hz⟩, u, h', m', rfl, l, s, st', hu⟩
  have := hz rfl
  subst this
  refine ⟨(), u, h', m', rfl, l, s, ?_, hu⟩
  have e1 : (((xs.map ofB).mergeSort fun x y => decide (x ≤ y)).take xs.length) = ((xs.map ofB).mergeSort fun x y => decide (x ≤ y)) := List.take_of_length_le (by simp)
  rw [e1] at st'
  exact st'
theorem compact_len (zs : List (List UInt8)) : (Lib.compact zs).length ≤ zs.length := by
  unfold Lib.compact Lib.compactUpTo
  rw [List.length_map]
  refine Nat.le_trans (List.length_filter_le _ _) ?_
  rw [List.length_range]; exact Nat.le_refl _
theorem compStr_spec {P : Program} {ρ : Shelf.Ren} (LL : Go.Proofs.Lays.n194 P ρ) (v : Value) (xs : List ByteArray) (hn : xs.length ≤ 4611686018427387904) :
    Spec (X := Value) P (ρ.f 194) [rV.ty v] [own 9 rStr v xs] (fun z => rV.ty z) (fun z => [own 9 rStr z (compS xs)]) := by
  have hcl := compact_len (xs.map ofB)
  rw [List.length_map] at hcl
  have h := row_spec (P := P) (f := ρ.f 194) (As := []) (rest := []) v xs (Lib.compact (xs.map ofB) ++ List.replicate (xs.length - (Lib.compact (xs.map ofB)).length) []) (by simp; omega) (Lib.compact (xs.map ofB)).length hcl
    (fun a cap => .slice a (Lib.compact (xs.map ofB)).length cap) (fun z => rV.ty z) (fun _ a n cap h1 h2 => by
      by_cases hx : xs = []
      · rw [h1 hx]; subst hx; exact ⟨rfl, rfl⟩
      · rw [h2 hx]; exact ⟨rfl, rfl⟩) (fun h vs a => by match vs, a with | [], _ => rfl)
    (fun g cap w hH hb hc => by
      have := Go.Proofs.Any.slices_Compact_string LL g 0 cap (xs.map ofB) w hH (by rw [List.length_map]; omega) (by rw [List.length_map]; omega)
      rw [List.length_map] at this
      refine this.mono ?_
      rintro e w' ⟨he, q, hq⟩
      exact ⟨he, q, #[], by rw [hq]; unfold Go.Proofs.sortWorld; rw [Sort.grow_empty]⟩)
    (fun a cap w hx => by subst hx; exact Go.Proofs.Any.slices_Compact_string_empty LL a cap w)
  intro vs h0 m r w ha sp st
  refine (h vs h0 m r w ha sp st).mono ?_
  rintro e w' ⟨⟨z, hz⟩, u, h', m', rfl, l, s, st', hu⟩
  refine ⟨z, u, h', m', rfl, l, s, ?_, hu⟩
  rw [List.take_left' rfl] at st'
  exact st'
open Go
structure It3 where
  i : Nat
  ts : List Nat
  c : Nat
def JX (C : Cx) (ops : Array Oper) (k : Env → List SP → Prop) : List It3 → Env → List SP → Prop
  | [], E, L => k E L
  | ⟨i, ts, 0⟩ :: its, E, L => ∃ o A, ops[i]? = some o ∧ ltO o.dst C.N = true ∧ (∀ L, StepG C ops o (restr ts E) L A) ∧ JX C ops k its (updO E o.dst A) L
  | ⟨i, ts, 1⟩ :: its, E, L => ∃ o A, ops[i]? = some o ∧ ltO o.dst C.N = true ∧ StepG C ops o (restr ts E) L A ∧ JX C ops k its (updO E o.dst A) L
  | ⟨i, ts, _ + 2⟩ :: its, E, L => ∃ o, ops[i]? = some o ∧ ltO o.dst C.N = true ∧ ∃ (X : Type) (A : X → Ty) (L' : X → List SP), WantX ops o (restr ts E) ∧ Step C o (restr ts E) L A L' ∧ ∀ x, JX C ops k its (updO E o.dst (A x)) (L' x)
section
variable {C : Cx} {ops : Array Oper} {k : Env → List SP → Prop} {its : List It3} {E : Env} {L : List SP} {i : Nat} {ts : List Nat} {o : Oper}
theorem JX_nil (h : k E L) : JX C ops k [] E L := h
theorem JX_step {A : Ty} {d : Nat} (ho : ops.toList[i]? = some o) (hg : o.guard = none) (hd : o.dst = some d) (hN : Nat.blt d C.N = true) (hs : ∀ L, Step1 C o (restr ts E) L A)
    (hk : JX C ops k its (upd E d A) L) : JX C ops k (⟨i, ts, 0⟩ :: its) E L :=
  ⟨o, A, by simpa using ho, by rw [hd]; exact hN, fun L => .inl ⟨hg, hs L⟩, by rw [hd]; exact hk⟩
theorem JX_stepX {X : Type} {A : X → Ty} {L' : X → List SP} {d : Nat} (ho : ops.toList[i]? = some o) (hg : o.guard = none) (hd : o.dst = some d) (hN : Nat.blt d C.N = true) (hs : Step C o (restr ts E) L A L')
    (hk : ∀ x, JX C ops k its (upd E d (A x)) (L' x)) : JX C ops k (⟨i, ts, 2⟩ :: its) E L :=
  ⟨o, by simpa using ho, by rw [hd]; exact hN, X, A, L', .inl hg, hs, fun x => by rw [hd]; exact hk x⟩
theorem JX_stepU {X : Type} {A : X → Ty} {L' : X → List SP} (ho : ops.toList[i]? = some o) (hg : o.guard = none) (hd : o.dst = none) (hs : Step C o (restr ts E) L A L')
    (hk : ∀ x, JX C ops k its E (L' x)) : JX C ops k (⟨i, ts, 2⟩ :: its) E L :=
  ⟨o, by simpa using ho, by rw [hd]; rfl, X, A, L', .inl hg, hs, fun x => by rw [hd]; exact hk x⟩
end
structure Pl3 where
  i : Nat
  ts : List Nat
  c : Nat
  aft : List Nat
  dst : Option Nat
def plOf3 (ops : List Oper) (x : It3) : Pl3 := ⟨x.i, x.ts, x.c, aftOf ops x.i, dstOf ops x.i⟩
def okPair3 (a b : Pl3) : Bool := !Nat.beq a.i b.i && (memN a.i b.aft || (!inO a.dst b.ts && !inO b.dst a.ts && !eqO a.dst b.dst))
def okTail3 (m : Pl3) (l : List Pl3) : Bool := match m.c with
  | 0 => true
  | 1 => l.all fun q => Nat.ble q.c 1 || (memN m.i q.aft || q.aft.any fun r => l.any fun p => Nat.beq r p.i && memN m.i p.aft)
  | _ => l.all fun q => memN m.i q.aft || q.aft.any fun r => l.any fun p => Nat.beq r p.i
def okPls3 : List Pl3 → Bool
  | [] => true
  | a :: l => l.all (okPair3 a) && okTail3 a l && okPls3 l
theorem okPls3_sub : ∀ {l1 : List Pl3} {b : Pl3} {l2 : List Pl3}, okPls3 (l1 ++ b :: l2) = true → (∀ a ∈ l1, a.c ≤ 1) → (∀ a ∈ l1, a.i ∉ b.aft) → okPls3 (l1 ++ l2) = true
  | [], b, l2, h, _, _ => by simp only [List.nil_append, okPls3, Bool.and_eq_true] at h; exact h.2
  | a :: l1, b, l2, h, hf, hn => by
    simp only [List.cons_append, okPls3, Bool.and_eq_true, List.all_eq_true] at h ⊢
    have hsub : ∀ x ∈ l1 ++ l2, x ∈ l1 ++ b :: l2 := fun x hx => by rcases List.mem_append.1 hx with hx | hx <;> simp [hx]
    refine ⟨⟨fun x hx => h.1.1 x (hsub x hx), ?_⟩, okPls3_sub h.2 (fun x hx => hf x (by simp [hx])) (fun x hx => hn x (by simp [hx]))⟩
    have h1 := h.1.2
    have hc := hf a (by simp)
    unfold okTail3 at h1 ⊢
    match e : a.c, hc with
    | 0, _ => rfl
    | 1, _ =>
      rw [e] at h1
      simp only [List.all_eq_true, Bool.or_eq_true, List.any_eq_true, Bool.and_eq_true] at h1 ⊢
      intro x hx
      rcases h1 x (hsub x hx) with q | q | ⟨r, hr, p, hp, q1, q2⟩
      · exact .inl q
      · exact .inr (.inl q)
      · refine .inr (.inr ⟨r, hr, p, ?_, q1, q2⟩)
        rcases List.mem_append.1 hp with hp | hp
        · exact List.mem_append_left _ hp
        · rcases List.mem_cons.1 hp with rfl | hp
          · exact absurd (memN_iff.1 q2) (hn a (by simp))
          · exact List.mem_append_right _ hp
theorem okPls3_pair : ∀ {l1 : List Pl3} {b : Pl3} {l2 : List Pl3}, okPls3 (l1 ++ b :: l2) = true → ∀ a ∈ l1, okPair3 a b = true
  | [], _, _, _, a, ha => by cases ha
  | a :: l1, b, l2, h, x, hx => by
    simp only [List.cons_append, okPls3, Bool.and_eq_true, List.all_eq_true] at h
    rcases List.mem_cons.1 hx with rfl | hx
    · exact h.1.1 b (by simp)
    · exact okPls3_pair h.2 x hx
theorem okPls3_tail : ∀ {l1 : List Pl3} {b : Pl3} {l2 : List Pl3}, okPls3 (l1 ++ b :: l2) = true → ∀ (x y : List Pl3) (a : Pl3), l1 = x ++ a :: y → okTail3 a (y ++ b :: l2) = true
  | [], _, _, _, x, y, a, e => by simp at e
  | c :: l1, b, l2, h, [], y, a, e => by
    simp only [List.nil_append, List.cons.injEq] at e; obtain ⟨rfl, rfl⟩ := e
    simp only [List.cons_append, okPls3, Bool.and_eq_true] at h
    exact h.1.2
  | c :: l1, b, l2, h, d :: x, y, a, e => by
    simp only [List.cons_append, List.cons.injEq] at e
    simp only [List.cons_append, okPls3, Bool.and_eq_true] at h
    exact okPls3_tail h.2 x y a e.2
theorem JX_cons {C : Cx} {ops : Array Oper} {k : Env → List SP → Prop} {its its' : List It3} (h : ∀ E L, JX C ops k its E L → JX C ops k its' E L) : ∀ {a : It3} {E : Env} {L : List SP}, JX C ops k (a :: its) E L → JX C ops k (a :: its') E L
  | ⟨i, ts, 0⟩, _, _, ⟨o, A, h1, h2, h3, h4⟩ => ⟨o, A, h1, h2, h3, h _ _ h4⟩
  | ⟨i, ts, 1⟩, _, _, ⟨o, A, h1, h2, h3, h4⟩ => ⟨o, A, h1, h2, h3, h _ _ h4⟩
  | ⟨i, ts, _ + 2⟩, _, _, ⟨o, h1, h2, X, A, L', h3, h4, h5⟩ => ⟨o, h1, h2, X, A, L', h3, h4, fun x => h _ _ (h5 x)⟩
theorem pair_key {ops : Array Oper} {a b : It3} (hp : okPair3 (plOf3 ops.toList a) (plOf3 ops.toList b) = true) (hn : a.i ∉ aftOf ops.toList b.i) {oa ob : Oper} (ha : ops[a.i]? = some oa) (hb : ops[b.i]? = some ob) :
    inO oa.dst b.ts = false ∧ inO ob.dst a.ts = false ∧ eqO oa.dst ob.dst = false := by
  have hda : dstOf ops.toList a.i = oa.dst := by simp [dstOf, ha]
  have hdb : dstOf ops.toList b.i = ob.dst := by simp [dstOf, hb]
  simp only [okPair3, plOf3, hda, hdb, Bool.and_eq_true, Bool.or_eq_true, Bool.not_eq_true', memN_iff] at hp
  rcases hp.2 with q | q
  · exact absurd q hn
  · exact ⟨q.1.1, q.1.2, q.2⟩
section
variable {C : Cx} {ops : Array Oper} {k : Env → List SP → Prop} {ia ib : Nat} {ta tb : List Nat} {its : List It3} {E : Env} {L : List SP}
theorem JX_swap00 (hp : ∀ ca cb, okPair3 (plOf3 ops.toList ⟨ia, ta, ca⟩) (plOf3 ops.toList ⟨ib, tb, cb⟩) = true) (hn : ia ∉ aftOf ops.toList ib) (h : JX C ops k (⟨ia, ta, 0⟩ :: ⟨ib, tb, 0⟩ :: its) E L) : JX C ops k (⟨ib, tb, 0⟩ :: ⟨ia, ta, 0⟩ :: its) E L := by
  obtain ⟨oa, A, ha, hla, hsa, ob, B, hb, hlb, hsb, hk⟩ := h
  obtain ⟨p1, p2, p3⟩ := pair_key (a := ⟨ia, ta, 0⟩) (b := ⟨ib, tb, 0⟩) (hp 0 0) hn ha hb
  refine ⟨ob, B, hb, hlb, fun L => (hsb L).same (restr_updO p1), oa, A, ha, hla, fun L => (hsa L).same (restr_updO p2).symm, ?_⟩
  rw [updO_comm p3] at hk
  exact hk
theorem JX_swap01 (hp : ∀ ca cb, okPair3 (plOf3 ops.toList ⟨ia, ta, ca⟩) (plOf3 ops.toList ⟨ib, tb, cb⟩) = true) (hn : ia ∉ aftOf ops.toList ib) (h : JX C ops k (⟨ia, ta, 0⟩ :: ⟨ib, tb, 1⟩ :: its) E L) : JX C ops k (⟨ib, tb, 1⟩ :: ⟨ia, ta, 0⟩ :: its) E L := by
  obtain ⟨oa, A, ha, hla, hsa, ob, B, hb, hlb, hsb, hk⟩ := h
  obtain ⟨p1, p2, p3⟩ := pair_key (a := ⟨ia, ta, 0⟩) (b := ⟨ib, tb, 1⟩) (hp 0 1) hn ha hb
  refine ⟨ob, B, hb, hlb, hsb.same (restr_updO p1), oa, A, ha, hla, fun L => (hsa L).same (restr_updO p2).symm, ?_⟩
  rw [updO_comm p3] at hk
  exact hk
theorem JX_swap02 {c : Nat} (hp : ∀ ca cb, okPair3 (plOf3 ops.toList ⟨ia, ta, ca⟩) (plOf3 ops.toList ⟨ib, tb, cb⟩) = true) (hn : ia ∉ aftOf ops.toList ib) (h : JX C ops k (⟨ia, ta, 0⟩ :: ⟨ib, tb, c + 2⟩ :: its) E L) : JX C ops k (⟨ib, tb, c + 2⟩ :: ⟨ia, ta, 0⟩ :: its) E L := by
  obtain ⟨oa, A, ha, hla, hsa, ob, hb, hlb, X, B, L', hgb, hsb, hk⟩ := h
  obtain ⟨p1, p2, p3⟩ := pair_key (a := ⟨ia, ta, 0⟩) (b := ⟨ib, tb, c + 2⟩) (hp 0 (c + 2)) hn ha hb
  rw [restr_updO p1] at hsb hgb
  refine ⟨ob, hb, hlb, X, B, L', hgb, hsb, fun x => ⟨oa, A, ha, hla, fun L => (hsa L).same (restr_updO p2).symm, ?_⟩⟩
  have := hk x
  rw [updO_comm p3] at this
  exact this
theorem JX_swap10 (hp : ∀ ca cb, okPair3 (plOf3 ops.toList ⟨ia, ta, ca⟩) (plOf3 ops.toList ⟨ib, tb, cb⟩) = true) (hn : ia ∉ aftOf ops.toList ib) (h : JX C ops k (⟨ia, ta, 1⟩ :: ⟨ib, tb, 0⟩ :: its) E L) : JX C ops k (⟨ib, tb, 0⟩ :: ⟨ia, ta, 1⟩ :: its) E L := by
  obtain ⟨oa, A, ha, hla, hsa, ob, B, hb, hlb, hsb, hk⟩ := h
  obtain ⟨p1, p2, p3⟩ := pair_key (a := ⟨ia, ta, 1⟩) (b := ⟨ib, tb, 0⟩) (hp 1 0) hn ha hb
  refine ⟨ob, B, hb, hlb, fun L => (hsb L).same (restr_updO p1), oa, A, ha, hla, hsa.same (restr_updO p2).symm, ?_⟩
  rw [updO_comm p3] at hk
  exact hk
theorem JX_swap11 (hp : ∀ ca cb, okPair3 (plOf3 ops.toList ⟨ia, ta, ca⟩) (plOf3 ops.toList ⟨ib, tb, cb⟩) = true) (hn : ia ∉ aftOf ops.toList ib) (h : JX C ops k (⟨ia, ta, 1⟩ :: ⟨ib, tb, 1⟩ :: its) E L) : JX C ops k (⟨ib, tb, 1⟩ :: ⟨ia, ta, 1⟩ :: its) E L := by
  obtain ⟨oa, A, ha, hla, hsa, ob, B, hb, hlb, hsb, hk⟩ := h
  obtain ⟨p1, p2, p3⟩ := pair_key (a := ⟨ia, ta, 1⟩) (b := ⟨ib, tb, 1⟩) (hp 1 1) hn ha hb
  refine ⟨ob, B, hb, hlb, hsb.same (restr_updO p1), oa, A, ha, hla, hsa.same (restr_updO p2).symm, ?_⟩
  rw [updO_comm p3] at hk
  exact hk
end
theorem JX_swap {C : Cx} {ops : Array Oper} {k : Env → List SP → Prop} {a b : It3} {its : List It3} {E : Env} {L : List SP} (hf : a.c = 0 ∨ (a.c = 1 ∧ b.c ≤ 1)) (hp : okPair3 (plOf3 ops.toList a) (plOf3 ops.toList b) = true) (hn : a.i ∉ aftOf ops.toList b.i)
    (h : JX C ops k (a :: b :: its) E L) : JX C ops k (b :: a :: its) E L := by
  obtain ⟨ia, ta, ca⟩ := a
  obtain ⟨ib, tb, cb⟩ := b
  have hp' : ∀ ca cb, okPair3 (plOf3 ops.toList ⟨ia, ta, ca⟩) (plOf3 ops.toList ⟨ib, tb, cb⟩) = true := fun _ _ => hp
  rcases hf with h0 | ⟨h1, hb1⟩
  · have h0 : ca = 0 := h0
    subst h0
    rcases cb with _ | _ | c
    · exact JX_swap00 hp' hn h
    · exact JX_swap01 hp' hn h
    · exact JX_swap02 hp' hn h
  · have h1 : ca = 1 := h1
    have hb1 : cb ≤ 1 := hb1
    subst h1
    rcases cb with _ | _ | c
    · exact JX_swap10 hp' hn h
    · exact JX_swap11 hp' hn h
    · omega
theorem JX_pull {C : Cx} {ops : Array Oper} {k : Env → List SP → Prop} {b : It3} {l2 : List It3} : ∀ {l1 : List It3} {E : Env} {L : List SP}, (∀ a ∈ l1, a.c = 0 ∨ (a.c = 1 ∧ b.c ≤ 1)) →
    (∀ a ∈ l1, okPair3 (plOf3 ops.toList a) (plOf3 ops.toList b) = true) → (∀ a ∈ l1, a.i ∉ aftOf ops.toList b.i) → JX C ops k (l1 ++ b :: l2) E L → JX C ops k (b :: (l1 ++ l2)) E L := by
  intro l1
  induction l1 with
  | nil => intro E L _ _ _ h; exact h
  | cons a l1 ih =>
    intro E L hf hp hn h
    refine JX_swap (hf a (by simp)) (hp a (by simp)) (hn a (by simp)) ?_
    exact JX_cons (fun E L hk => ih (fun a m => hf a (by simp [m])) (fun a m => hp a (by simp [m])) (fun a m => hn a (by simp [m])) hk) h
theorem wpAny_JX {C : Cx} {ops : Array Oper} {Q : Exit → Act → World → Prop} : ∀ (fuel : Nat) (its : List It3) (listed : Array Bool) (E : Env) (L : List SP), its.length ≤ fuel → listed.size = ops.size →
    (∀ i, i < ops.size → (listed.getD i true = false ↔ ∃ x ∈ its, x.i = i)) → okPls3 (its.map (plOf3 ops.toList)) = true → (∀ x ∈ its, x.i < ops.size ∧ ∀ e ∈ aftOf ops.toList x.i, e < x.i) →
    JX C ops (fun E' L' => K C (Q .normal) E' L') its E L → K C (fun a w => wpAnyIn (Fw C.ro) 0 C.P .any ops Q fuel listed a w) E L := by
  intro fuel
  induction fuel with
  | zero =>
    intro its listed E L hlen hsz hin _ _ hJ
    have : its = [] := List.length_eq_zero_iff.1 (by omega)
    subst this
    intro a w p
    refine ⟨?_, hJ a w p⟩
    rw [List.eq_nil_iff_forall_not_mem]
    intro i hi
    obtain ⟨h1, h2, _⟩ := mem_ready.1 hi
    obtain ⟨x, hx, _⟩ := (hin i h1).1 h2
    cases hx
  | succ fuel ih =>
    intro its listed E L hlen hsz hin hok hlt hJ
    have hdone : Region.ready .any ops listed = [] → its = [] := by
      intro hr
      have hall : ∀ i, i < ops.size → listed.getD i true = true := by
        intro i
        induction i using Nat.strongRecOn with
        | _ i ihi =>
          intro hi
          cases hl : listed.getD i true with
          | true => rfl
          | false =>
            have ho : ops[i]? = some ops[i] := Array.getElem?_eq_getElem hi
            obtain ⟨x, hx, hxi⟩ := (hin i hi).1 hl
            have h1 := (hlt x hx).2
            rw [hxi] at h1
            have hm : i ∈ Region.ready .any ops listed := mem_ready.2 ⟨hi, hl, _, ho, fun e he => by
              have he' : e < i := h1 e (by simpa [aftOf, hi] using he)
              rw [getD_any (by omega) false true]
              exact ihi e he' (by omega)⟩
            rw [hr] at hm; cases hm
      match its with
      | [] => rfl
      | x :: _ =>
        have h1 := (hlt x (by simp)).1
        have := (hin x.i h1).2 ⟨x, by simp, rfl⟩
        rw [hall x.i h1] at this; cases this
    intro a w p
    refine ⟨fun hr => ?_, fun i hi => ?_⟩
    · have := hdone hr
      subst this
      exact hJ a w p
    · obtain ⟨hlti, hnl, o, ho, haft⟩ := mem_ready.1 hi
      obtain ⟨b, hb, hbi⟩ := (hin i hlti).1 hnl
      obtain ⟨l1, l2, rfl⟩ := List.append_of_mem hb
      have hoi : ops.toList[b.i]? = some o := by rw [hbi]; simpa using ho
      have haft' : aftOf ops.toList b.i = aftN o := by simp only [aftOf, hoi]
      have hleft : ∀ x ∈ l1 ++ b :: l2, x.i ∉ aftOf ops.toList b.i := fun x hx hm => by
        rw [haft'] at hm
        have h1 := haft _ hm
        have h2 := (hlt x hx).1
        have h3 := (hin x.i h2).2 ⟨x, hx, rfl⟩
        rw [getD_any (by omega) true false, h1] at h3; cases h3
      rw [List.map_append, List.map_cons] at hok
      have hpair : ∀ a ∈ l1, okPair3 (plOf3 ops.toList a) (plOf3 ops.toList b) = true := fun a ha => okPls3_pair hok _ (List.mem_map_of_mem ha)
      have hfree : ∀ a ∈ l1, a.c = 0 ∨ (a.c = 1 ∧ b.c ≤ 1) := fun x hx => by
        obtain ⟨y, z, rfl⟩ := List.append_of_mem hx
        have ht := okPls3_tail hok (y.map (plOf3 ops.toList)) (z.map (plOf3 ops.toList)) (plOf3 ops.toList x) (by simp)
        unfold okTail3 at ht
        have hxc : (plOf3 ops.toList x).c = x.c := rfl
        rw [hxc] at ht
        match e : x.c with
        | 0 => exact .inl rfl
        | 1 =>
          right
          rw [e] at ht
          simp only [List.all_eq_true, Bool.or_eq_true, List.any_eq_true, Bool.and_eq_true] at ht
          refine ⟨rfl, ?_⟩
          rcases ht (plOf3 ops.toList b) (by simp) with q | q | ⟨r, hr, p, hp, hq, _⟩
          · exact Nat.le_of_ble_eq_true q
          · exact absurd (memN_iff.1 q) (hleft x (by simp))
          · exfalso
            have hrp := Nat.eq_of_beq_eq_true hq
            have hp' : ∃ u ∈ z ++ b :: l2, plOf3 ops.toList u = p := by
              rcases List.mem_append.1 hp with hp | hp
              · obtain ⟨u, hu, e⟩ := List.mem_map.1 hp
                exact ⟨u, by simp [hu], e⟩
              · rcases List.mem_cons.1 hp with hp | hp
                · exact ⟨b, by simp, hp.symm⟩
                · obtain ⟨u, hu, e⟩ := List.mem_map.1 hp
                  exact ⟨u, by simp [hu], e⟩
            obtain ⟨u, hu, e⟩ := hp'
            have : u.i ∉ aftOf ops.toList b.i := hleft u (by
              rcases List.mem_append.1 hu with hu | hu
              · simp [hu]
              · simp only [List.mem_append]; exact .inr hu)
            rw [← e] at hrp
            have hr' : r ∈ aftOf ops.toList b.i := hr
            rw [hrp] at hr'
            exact absurd hr' this
        | c + 2 =>
          exfalso
          rw [e] at ht
          simp only [Bool.or_eq_true, List.all_eq_true, List.any_eq_true] at ht
          rcases ht (plOf3 ops.toList b) (by simp) with q | ⟨r, hr, p, hp, hq⟩
          · exact absurd (memN_iff.1 q) (hleft x (by simp))
          · have hrp := Nat.eq_of_beq_eq_true hq
            have hp' : ∃ u ∈ z ++ b :: l2, plOf3 ops.toList u = p := by
              rcases List.mem_append.1 hp with hp | hp
              · obtain ⟨u, hu, e⟩ := List.mem_map.1 hp
                exact ⟨u, by simp [hu], e⟩
              · rcases List.mem_cons.1 hp with hp | hp
                · exact ⟨b, by simp, hp.symm⟩
                · obtain ⟨u, hu, e⟩ := List.mem_map.1 hp
                  exact ⟨u, by simp [hu], e⟩
            obtain ⟨u, hu, e⟩ := hp'
            have : u.i ∉ aftOf ops.toList b.i := hleft u (by
              rcases List.mem_append.1 hu with hu | hu
              · simp [hu]
              · simp only [List.mem_append]; exact .inr hu)
            rw [← e] at hrp
            have hr' : r ∈ aftOf ops.toList b.i := hr
            rw [hrp] at hr'
            exact absurd hr' this
      have hJ' := JX_pull hfree hpair (fun a ha => hleft a (by simp [ha])) hJ
      have hsub : ∀ x ∈ l1 ++ l2, x ∈ l1 ++ b :: l2 := fun x hx => by
        rcases List.mem_append.1 hx with hx | hx <;> simp [hx]
      have hpairs : ∀ x ∈ l1 ++ l2, x.i ≠ b.i := fun x hx => by
        rcases List.mem_append.1 hx with hx | hx
        · have := hpair x hx
          simp only [okPair3, plOf3, Bool.and_eq_true, Bool.not_eq_true'] at this
          intro e; rw [e] at this; simp at this
        · have h2 : ∀ {l1 : List Pl3} {b : Pl3} {l2 : List Pl3}, okPls3 (l1 ++ b :: l2) = true → okPls3 (b :: l2) = true := by
            intro l1
            induction l1 with
            | nil => intro b l2 h; exact h
            | cons c l1 ih => intro b l2 h; simp only [List.cons_append, okPls3, Bool.and_eq_true] at h; exact ih h.2
          have := h2 hok
          simp only [okPls3, Bool.and_eq_true, List.all_eq_true] at this
          have := this.1.1 _ (List.mem_map_of_mem hx)
          simp only [okPair3, plOf3, Bool.and_eq_true, Bool.not_eq_true'] at this
          intro e; rw [e] at this; simp at this
      have rest : ∀ E' L', JX C ops (fun E' L' => K C (Q .normal) E' L') (l1 ++ l2) E' L' → K C (fun a w => wpAnyIn (Fw C.ro) 0 C.P .any ops Q fuel (listed.setIfInBounds i true) a w) E' L' := by
        intro E' L' hk
        refine ih (l1 ++ l2) _ E' L' (by simp only [List.length_append, List.length_cons] at hlen ⊢; omega) (by simpa using hsz) (fun j hj => ?_) (by
          rw [List.map_append]
          exact okPls3_sub hok (fun x hx => (List.mem_map.1 hx).elim fun y hy => hy.2 ▸ (by rcases hfree y hy.1 with q | ⟨q, _⟩ <;> (show y.c ≤ 1) <;> omega)) (fun x hx => (List.mem_map.1 hx).elim fun y hy => hy.2 ▸ hleft y (by simp [hy.1]))) (fun x hx => hlt x (hsub x hx)) hk
        by_cases hji : i = j
        · subst hji
          rw [getD_set_same (by omega)]
          constructor
          · intro h; cases h
          · rintro ⟨x, hx, e⟩
            exact absurd (e.trans hbi.symm) (hpairs x hx)
        · rw [getD_set_ne hji, hin j hj]
          constructor
          · rintro ⟨x, hx, e⟩
            refine ⟨x, ?_, e⟩
            rcases List.mem_append.1 hx with hx | hx
            · simp [hx]
            · rcases List.mem_cons.1 hx with rfl | hx
              · exact absurd (hbi.symm.trans e) hji
              · simp [hx]
          · rintro ⟨x, hx, e⟩
            exact ⟨x, hsub x hx, e⟩
      obtain ⟨bi, tb, cb⟩ := b
      simp only at hbi hoi
      subst hbi
      have ho' : ops[bi]? = some o := ho
      match cb, hJ' with
      | 0, hJ' =>
        obtain ⟨o', A, ho2, hl, hs, hk⟩ := hJ'
        rw [ho'] at ho2; cases ho2
        exact (hs L).op ho' hl (rest _ _ hk) a w p
      | 1, hJ' =>
        obtain ⟨o', A, ho2, hl, hs, hk⟩ := hJ'
        rw [ho'] at ho2; cases ho2
        exact hs.op ho' hl (rest _ _ hk) a w p
      | c + 2, hJ' =>
        obtain ⟨o', ho2, hl, X, A, L', hg, hs, hk⟩ := hJ'
        rw [ho'] at ho2; cases ho2
        obtain ⟨n, ds, h, m, l, sp, st, fr⟩ := p
        have hwt : Region.wanted o (yielded ops a.tmps) = true := hg.run (fr.sub restr_sub)
        unfold wpOpIn
        simp only [ho']
        rw [if_pos hwt]
        exact hs a w h m n l sp st (fr.sub restr_sub) _ Q fun x v w' h' m' l' sp' st' hv =>
          rest _ _ (hk x) _ _ ⟨by rw [put_size]; exact n, by rw [put_defers]; exact ds, h', m', HL.trans l l', sp', st', (fr.mono l'.1).putO (by rw [n]; exact hl) hv⟩
open Go
def PermK (k : Env → List SP → Prop) : Prop := ∀ E L L', L.Perm L' → k E L → k E L'
theorem upd_comm {E : Env} {d e : Nat} {A B : Ty} (h : d ≠ e) : upd (upd E d A) e B = upd (upd E e B) d A := by
  have := updO_comm (E := E) (d := some d) (e := some e) (A := A) (B := B) (natBeq_ne h)
  simpa [updO] using this
theorem restr_upd {ts : List Nat} {E : Env} {d : Nat} {A : Ty} (h : memN d ts = false) : restr ts (upd E d A) = restr ts E := by
  have := restr_updO (ts := ts) (E := E) (d := some d) (A := A) (by simpa [inO] using h)
  simpa [updO] using this
section
variable {C : Cx} {ops : Array Oper} {k : Env → List SP → Prop}
end
theorem LSub.of_perm {L L' : List SP} (p : L.Perm L') : LSub L L' := by
  induction p with
  | nil => exact LSub.rfl
  | cons x _ ih => exact LSub.head ih
  | swap x y l => exact LSub.swap
  | trans _ _ h1 h2 => exact LSub.trans h1 h2
open Go
/-- What is changed: which operation, what it looks at, where its value goes, what it takes, what is known of its value, what it leaves. -/
structure Al2 where
  i : Nat
  ts : List Nat
  d : Nat
  I : SP
  A : Value → Ty
  M : Value → SP
def AlOk2 (C : Cx) (ops : Array Oper) (E : Env) (a : Al2) : Prop := ∃ o, ops[a.i]? = some o ∧ o.dst = some a.d ∧ Nat.blt a.d C.N = true ∧ o.guard = none ∧ ∀ L, Step (X := Value) C o (restr a.ts E) (a.I :: L) a.A (fun v => a.M v :: L)
def Als2 (C : Cx) (ops : Array Oper) (k : Env → List SP → Prop) : List Al2 → Env → List SP → Prop
  | [], E, L => k E L
  | a :: als, E, L => AlOk2 C ops E a ∧ ∀ v, Als2 C ops k als (upd E a.d (a.A v)) (a.M v :: L)
def indA2 (a b : Al2) : Bool := !Nat.beq a.i b.i && !memN a.d b.ts && !memN b.d a.ts && !Nat.beq a.d b.d
def indAs2 : List Al2 → Bool
  | [] => true
  | a :: l => l.all (indA2 a) && indAs2 l
/-- A first part of what is owned that some operations look at. -/
def pre0 (F : List SP) : Nat → List SP
  | 0 => []
  | _ + 1 => F
def JF (C : Cx) (ops : Array Oper) (F : List SP) (k : Env → List SP → Prop) : List It3 → Env → List SP → Prop
  | [], E, L => k E L
  | x :: its, E, L => ∃ o A, ops[x.i]? = some o ∧ ltO o.dst C.N = true ∧ (∀ L, StepG C ops o (restr x.ts E) (pre0 F x.c ++ L) A) ∧ JF C ops F k its (updO E o.dst A) L
section
variable {C : Cx} {ops : Array Oper} {F : List SP} {k : Env → List SP → Prop} {its : List It3} {E : Env} {L : List SP} {i : Nat} {ts : List Nat} {o : Oper}
theorem JF_nil (h : k E L) : JF C ops F k [] E L := h
theorem JF_step {A : Ty} {d : Nat} (ho : ops.toList[i]? = some o) (hg : o.guard = none) (hd : o.dst = some d) (hN : Nat.blt d C.N = true) (hs : ∀ L, Step1 C o (restr ts E) L A)
    (hk : JF C ops F k its (upd E d A) L) : JF C ops F k (⟨i, ts, 0⟩ :: its) E L :=
  ⟨o, A, by simpa using ho, by rw [hd]; exact hN, fun L => .inl ⟨hg, hs L⟩, by rw [hd]; exact hk⟩
theorem JF_look {A : Ty} {d : Nat} (ho : ops.toList[i]? = some o) (hg : o.guard = none) (hd : o.dst = some d) (hN : Nat.blt d C.N = true) (hs : ∀ L, Step1 C o (restr ts E) (F ++ L) A)
    (hk : JF C ops F k its (upd E d A) L) : JF C ops F k (⟨i, ts, 1⟩ :: its) E L :=
  ⟨o, A, by simpa using ho, by rw [hd]; exact hN, fun L => .inl ⟨hg, hs L⟩, by rw [hd]; exact hk⟩
end
section
variable {C : Cx} {ops : Array Oper} {F : List SP} {k : Env → List SP → Prop}
theorem AlOk2.same {E : Env} {a : Al2} {d : Nat} {A : Ty} (h : memN d a.ts = false) : AlOk2 C ops (upd E d A) a ↔ AlOk2 C ops E a := by
  unfold AlOk2; rw [restr_upd h]
theorem Als2.perm (hk : PermK k) : ∀ {als : List Al2} {E : Env} {L L' : List SP}, L.Perm L' → Als2 C ops k als E L → Als2 C ops k als E L'
  | [], _, _, _, p, h => hk _ _ _ p h
  | a :: als, E, L, L', p, ⟨h1, h2⟩ => ⟨h1, fun v => Als2.perm hk (List.Perm.cons _ p) (h2 v)⟩
theorem Als2.pull (hk : PermK k) : ∀ {l1 : List Al2} {b : Al2} {l2 : List Al2} {E : Env} {L : List SP}, (∀ a ∈ l1, indA2 a b = true) → Als2 C ops k (l1 ++ b :: l2) E L → Als2 C ops k (b :: (l1 ++ l2)) E L
  | [], _, _, _, _, _, h => h
  | a :: l1, b, l2, E, L, hp, ⟨h1, h2⟩ => by
    have hab := hp a (by simp)
    simp only [indA2, Bool.and_eq_true, Bool.not_eq_true'] at hab
    obtain ⟨⟨⟨p1, p2⟩, p3⟩, p4⟩ := hab
    have p4 : a.d ≠ b.d := fun e => by rw [e] at p4; simp at p4
    have ih := fun v => Als2.pull hk (fun x hx => hp x (by simp [hx])) (h2 v)
    refine ⟨(AlOk2.same p2).1 (ih default).1, fun v => ⟨(AlOk2.same p3).2 h1, fun u => ?_⟩⟩
    have := (ih u).2 v
    rw [upd_comm p4] at this
    exact Als2.perm hk (List.Perm.swap _ _ _) this
theorem JF_permK (hk : PermK k) : ∀ {its : List It3}, PermK (JF C ops F k its)
  | [] => hk
  | x :: its => by
    rintro E L L' p ⟨o, A, h1, h2, h3, h4⟩
    exact ⟨o, A, h1, h2, h3, JF_permK hk _ _ _ p h4⟩
theorem JF_lay {k' : Env → List SP → Prop} {b : Al2} : ∀ {its : List It3} {E : Env} {L : List SP}, (∀ x ∈ its, memN b.d x.ts = false ∧ inO (dstOf ops.toList x.i) b.ts = false ∧ eqO (some b.d) (dstOf ops.toList x.i) = false) →
    (∀ E L, k E L → AlOk2 C ops E b ∧ ∀ v, k' (upd E b.d (b.A v)) (b.M v :: L)) → JF C ops F k its E L → AlOk2 C ops E b ∧ ∀ v, JF C ops F k' its (upd E b.d (b.A v)) (b.M v :: L)
  | [], E, L, _, hk, h => hk E L h
  | x :: its, E, L, hp, hk, h => by
    obtain ⟨o, A, h1, h2, h3, h4⟩ := h
    obtain ⟨p1, p2, p3⟩ := hp x (by simp)
    have hd : dstOf ops.toList x.i = o.dst := by simp [dstOf, h1]
    simp only [hd] at p2 p3
    obtain ⟨g1, g2⟩ := JF_lay (fun x hx => hp x (by simp [hx])) hk h4
    refine ⟨?_, fun v => ⟨o, A, h1, h2, fun L => ?_, ?_⟩⟩
    · obtain ⟨ob, q1, q2, q3, q4, q5⟩ := g1
      rw [restr_updO p2] at q5
      exact ⟨ob, q1, q2, q3, q4, q5⟩
    · rw [restr_upd p1]; exact h3 L
    · have := g2 v
      have e : upd (updO E o.dst A) b.d (b.A v) = updO (upd E b.d (b.A v)) o.dst A := by
        have := updO_comm (E := E) (d := some b.d) (e := o.dst) (A := b.A v) (B := A) p3
        simpa [updO] using this.symm
      rw [e] at this
      exact this
theorem JF_pull : ∀ {l1 : List It3} {b : It3} {l2 : List It3} {E : Env} {L : List SP},
    (∀ a ∈ l1, okPair3 (plOf3 ops.toList a) (plOf3 ops.toList b) = true) → (∀ a ∈ l1, a.i ∉ aftOf ops.toList b.i) → JF C ops F k (l1 ++ b :: l2) E L → JF C ops F k (b :: (l1 ++ l2)) E L
  | [], _, _, _, _, _, _, h => h
  | xa :: l1, xb, l2, E, L, hp, hn, h => by
    obtain ⟨oa, A, ha, hla, hsa, hk⟩ := h
    have ih := JF_pull (fun a m => hp a (by simp [m])) (fun a m => hn a (by simp [m])) hk
    have hpair := hp xa (by simp)
    have hna := hn xa (by simp)
    have hda : dstOf ops.toList xa.i = oa.dst := by simp [dstOf, ha]
    have hpair' : inO oa.dst xb.ts = false ∧ inO (dstOf ops.toList xb.i) xa.ts = false ∧ eqO oa.dst (dstOf ops.toList xb.i) = false := by
      simp only [okPair3, plOf3, hda, Bool.and_eq_true, Bool.or_eq_true, Bool.not_eq_true', memN_iff] at hpair
      rcases hpair.2 with q | q
      · exact absurd q hna
      · exact ⟨q.1.1, q.1.2, q.2⟩
    obtain ⟨p1, p2, p3⟩ := hpair'
    obtain ⟨ob, B, hb, hlb, hsb, hkb⟩ := ih
    have hdb : dstOf ops.toList xb.i = ob.dst := by simp [dstOf, hb]
    rw [hdb] at p2 p3
    refine ⟨ob, B, hb, hlb, fun L => (hsb L).same (restr_updO p1), oa, A, ha, hla, fun L => (hsa L).same (restr_updO p2).symm, ?_⟩
    rw [updO_comm p3] at hkb
    exact hkb
/-- What is behind, up to the order of what is owned. -/
def upP (k : Env → List SP → Prop) : Env → List SP → Prop := fun E L => ∃ L0, L.Perm L0 ∧ k E L0
theorem upP_perm : PermK (upP k) := fun E L L' p ⟨L0, q, h⟩ => ⟨L0, p.symm.trans q, h⟩
theorem JF_out : ∀ {its : List It3} {E : Env} {L : List SP}, JF C ops F (upP k) its E L → ∃ L0, L.Perm L0 ∧ JF C ops F k its E L0
  | [], _, _, h => h
  | x :: its, E, L, ⟨o, A, h1, h2, h3, h4⟩ => by
    obtain ⟨L0, p, h5⟩ := JF_out h4
    exact ⟨L0, p, o, A, h1, h2, h3, h5⟩
theorem JF_JX {tail : List It3} : ∀ {its : List It3} {E : Env} {L : List SP}, (∀ x ∈ its, x.c ≤ 1) → JF C ops F (fun E L => JX C ops k tail E (F ++ L)) its E L → JX C ops k (its ++ tail) E (F ++ L)
  | [], _, _, _, h => h
  | ⟨i, ts, 0⟩ :: its, E, L, hc, ⟨o, A, h1, h2, h3, h4⟩ => ⟨o, A, h1, h2, h3, JF_JX (fun x hx => hc x (by simp [hx])) h4⟩
  | ⟨i, ts, 1⟩ :: its, E, L, hc, ⟨o, A, h1, h2, h3, h4⟩ => ⟨o, A, h1, h2, h3 L, JF_JX (fun x hx => hc x (by simp [hx])) h4⟩
  | ⟨i, ts, c + 2⟩ :: its, E, L, hc, _ => by have := hc ⟨i, ts, c + 2⟩ (by simp); simp at this
end
def okAl2 (ops : List Oper) (frees tail : List It3) (a : Al2) : Bool :=
  (aftOf ops a.i).all (Nat.blt · a.i) && Nat.blt a.i ops.length &&
  (frees.all fun x => !memN a.d x.ts && (memN x.i (aftOf ops a.i) || !inO (dstOf ops x.i) a.ts) && !eqO (some a.d) (dstOf ops x.i) && !Nat.beq a.i x.i) &&
  (tail.all fun x => !Nat.beq a.i x.i && (memN a.i (aftOf ops x.i) || (aftOf ops x.i).any fun r => tail.any fun y => Nat.beq r y.i))
def okZ (ops : List Oper) (frees : List It3) (als : List Al2) (tail : List It3) : Bool :=
  let pls := (frees ++ tail).map (plOf3 ops)
  okPls3 pls && (pls.all fun p => p.aft.all (Nat.blt · p.i)) && ((frees ++ tail).all fun x => Nat.blt x.i ops.length) && (frees.all fun x => Nat.ble x.c 1) &&
  (List.range ops.length).all (fun i => ((frees ++ tail).any fun x => Nat.beq i x.i) || als.any fun a => Nat.beq i a.i) &&
  indAs2 als && als.all (okAl2 ops frees tail)
theorem okPls3_back : ∀ {l1 l2 : List Pl3}, okPls3 (l1 ++ l2) = true → okPls3 l2 = true
  | [], _, h => h
  | a :: l1, l2, h => by
    simp only [List.cons_append, okPls3, Bool.and_eq_true] at h
    exact okPls3_back h.2
theorem pls3_ne {ops : List Oper} {l1 l2 : List It3} {b : It3} (h : okPls3 ((l1 ++ b :: l2).map (plOf3 ops)) = true) : ∀ x ∈ l1 ++ l2, x.i ≠ b.i := fun x hx e => by
  rw [List.map_append, List.map_cons] at h
  rcases List.mem_append.1 hx with hx | hx
  · have := okPls3_pair h (plOf3 ops x) (List.mem_map_of_mem hx)
    simp only [okPair3, plOf3, Bool.and_eq_true, Bool.not_eq_true'] at this
    rw [e] at this; simp at this
  · have := okPls3_back h
    simp only [okPls3, Bool.and_eq_true, List.all_eq_true] at this
    have := this.1.1 _ (List.mem_map_of_mem hx)
    simp only [okPair3, plOf3, Bool.and_eq_true, Bool.not_eq_true'] at this
    rw [e] at this; simp at this
theorem indAs2_sub {b : Al2} {l2 : List Al2} : ∀ {l1 : List Al2}, indAs2 (l1 ++ b :: l2) = true → indAs2 (l1 ++ l2) = true ∧ (∀ x ∈ l1 ++ l2, x.i ≠ b.i) ∧ ∀ a ∈ l1, indA2 a b = true
  | [], h => by
    simp only [List.nil_append, indAs2, Bool.and_eq_true, List.all_eq_true] at h
    refine ⟨h.2, fun x hx e => ?_, fun a ha => by cases ha⟩
    have := h.1 x hx
    simp only [indA2, Bool.and_eq_true, Bool.not_eq_true'] at this
    rw [e] at this; simp at this
  | a :: l1, h => by
    simp only [List.cons_append, indAs2, Bool.and_eq_true, List.all_eq_true] at h ⊢
    obtain ⟨h1, h2, h3⟩ := indAs2_sub h.2
    refine ⟨⟨fun x hx => h.1 x ?_, h1⟩, fun x hx e => ?_, fun x hx => ?_⟩
    · rcases List.mem_append.1 hx with hx | hx <;> simp [hx]
    · rcases List.mem_cons.1 hx with rfl | hx
      · have := h.1 b (by simp)
        simp only [indA2, Bool.and_eq_true, Bool.not_eq_true'] at this
        rw [e] at this; simp at this
      · exact h2 x hx e
    · rcases List.mem_cons.1 hx with rfl | hx
      · exact h.1 b (by simp)
      · exact h3 x hx
theorem wpAny_JZ {C : Cx} {ops : Array Oper} {F : List SP} {Q : Exit → Act → World → Prop} {tail : List It3} : ∀ (fuel : Nat) (frees : List It3) (als : List Al2) (listed : Array Bool) (E : Env) (L : List SP), frees.length + als.length + tail.length ≤ fuel → listed.size = ops.size →
    (∀ i, i < ops.size → (listed.getD i true = false ↔ (∃ x ∈ frees ++ tail, x.i = i) ∨ ∃ a ∈ als, a.i = i)) → okPls3 ((frees ++ tail).map (plOf3 ops.toList)) = true → (∀ x ∈ frees ++ tail, x.i < ops.size ∧ ∀ e ∈ aftOf ops.toList x.i, e < x.i) → (∀ x ∈ frees, x.c ≤ 1) → indAs2 als = true → (∀ a ∈ als, okAl2 ops.toList frees tail a = true) →
    JF C ops F (Als2 C ops (upP fun E' L' => JX C ops (fun E' L' => K C (Q .normal) E' L') tail E' (F ++ L')) als) frees E L → K C (fun a w => wpAnyIn (Fw C.ro) 0 C.P .any ops Q fuel listed a w) E (F ++ (als.map (·.I) ++ L)) := by
  intro fuel
  induction fuel with
  | zero =>
    intro frees als listed E L hlen hsz hin hok hlt hc hi hal hJ
    have h1 : frees = [] := List.length_eq_zero_iff.1 (by omega)
    have h2 : als = [] := List.length_eq_zero_iff.1 (by omega)
    have h3 : tail = [] := List.length_eq_zero_iff.1 (by omega)
    subst h1; subst h2; subst h3
    obtain ⟨L0, p, hJ⟩ := hJ
    exact K_lsub (LSub.of_perm (List.Perm.append_left F p)) (wpAny_JX 0 [] listed E (F ++ L0) (by simp) hsz (fun i h => by rw [hin i h]; simp) rfl (fun x hx => by cases hx) hJ)
  | succ fuel ih =>
    intro frees als listed E L hlen hsz hin hok hlt hc hi hal hJ
    match als, hlen, hin, hi, hal, hJ with
    | [], hlen, hin, hi, hal, hJ =>
      obtain ⟨L0, p, hJ⟩ := JF_out hJ
      exact K_lsub (LSub.of_perm (List.Perm.append_left F p)) (wpAny_JX (fuel + 1) (frees ++ tail) listed E (F ++ L0) (by simp at hlen ⊢; omega) hsz (fun i h => by rw [hin i h]; simp) hok hlt (JF_JX hc hJ))
    | a0 :: als0, hlen, hin, hi, hal, hJ =>
      generalize hals : a0 :: als0 = als at *
      have ha0 : a0 ∈ als := by rw [← hals]; simp
      have hall : ∀ a ∈ als, a.i < ops.size ∧ ∀ e ∈ aftOf ops.toList a.i, e < a.i := fun a ha => by
        have := hal a ha
        simp only [okAl2, Bool.and_eq_true, List.all_eq_true] at this
        exact ⟨by simpa using this.1.1.2, fun e he => by simpa using this.1.1.1 e he⟩
      intro a w p
      refine ⟨fun hr => ?_, fun i hii => ?_⟩
      · exfalso
        have hall2 : ∀ i, i < ops.size → listed.getD i true = true := by
          intro i
          induction i using Nat.strongRecOn with
          | _ i ihi =>
            intro hilt
            cases hl : listed.getD i true with
            | true => rfl
            | false =>
              have ho : ops[i]? = some ops[i] := Array.getElem?_eq_getElem hilt
              have h1 : ∀ e ∈ aftOf ops.toList i, e < i := by
                rcases (hin i hilt).1 hl with ⟨x, hx, hxi⟩ | ⟨x, hx, hxi⟩
                · have := (hlt x hx).2; rwa [hxi] at this
                · have := (hall x hx).2; rwa [hxi] at this
              have hm : i ∈ Region.ready .any ops listed := mem_ready.2 ⟨hilt, hl, _, ho, fun e he => by
                have he' : e < i := h1 e (by simpa [aftOf, hilt] using he)
                rw [getD_any (by omega) false true]
                exact ihi e he' (by omega)⟩
              rw [hr] at hm; cases hm
        have h1 := (hall a0 ha0).1
        have := (hin a0.i h1).2 (.inr ⟨a0, ha0, rfl⟩)
        rw [hall2 a0.i h1] at this; cases this
      · obtain ⟨hlti, hnl, o, ho, haft⟩ := mem_ready.1 hii
        have haft' : aftOf ops.toList i = aftN o := by
          have : ops.toList[i]? = some o := by simpa using ho
          simp only [aftOf, this]
        have hno : ∀ j, j < ops.size → listed.getD j true = false → j ∉ aftOf ops.toList i := fun j hj hl hm => by
          rw [haft'] at hm
          have h1 := haft _ hm
          rw [getD_any (by omega) true false, h1] at hl; cases hl
        rcases (hin i hlti).1 hnl with ⟨b, hb, hbi⟩ | ⟨b, hb, hbi⟩
        · rcases List.mem_append.1 hb with hb | hb
          · obtain ⟨l1, l2, rfl⟩ := List.append_of_mem hb
            have hmap : (l1 ++ b :: l2 ++ tail).map (plOf3 ops.toList) = l1.map (plOf3 ops.toList) ++ plOf3 ops.toList b :: (l2 ++ tail).map (plOf3 ops.toList) := by simp
            have hpair : ∀ x ∈ l1, okPair3 (plOf3 ops.toList x) (plOf3 ops.toList b) = true := fun x hx => okPls3_pair (hmap ▸ hok) _ (List.mem_map_of_mem hx)
            have hleft : ∀ x ∈ l1, x.i ∉ aftOf ops.toList b.i := fun x hx => by
              rw [hbi]; exact hno x.i (hlt x (by simp [hx])).1 ((hin x.i (hlt x (by simp [hx])).1).2 (.inl ⟨x, by simp [hx], rfl⟩))
            have hne := pls3_ne (ops := ops.toList) (l1 := l1) (b := b) (l2 := l2 ++ tail) (by simpa using hok)
            have hJ' := JF_pull hpair hleft hJ
            obtain ⟨o', A, ho2, hl, hs, hk⟩ := hJ'
            subst hbi
            have hna : ∀ x ∈ als, x.i ≠ b.i := fun x hx e => by
              have := hal x hx
              simp only [okAl2, Bool.and_eq_true, List.all_eq_true] at this
              have := (this.1.2 b (by simp)).2
              rw [e] at this; simp at this
            have hs' : StepG C ops o' (restr b.ts E) (F ++ (als.map (·.I) ++ L)) A := by
              match e : b.c with
              | 0 => have := hs (F ++ (als.map (·.I) ++ L)); rw [e] at this; exact this
              | c + 1 => have := hs (als.map (·.I) ++ L); rw [e] at this; exact this
            refine hs'.op ho2 hl ?_ a w p
            refine ih (l1 ++ l2) als _ _ L (by simp only [List.length_append, List.length_cons] at hlen ⊢; omega) (by simpa using hsz) (fun j hj => ?_) ?_ (fun x hx => hlt x ?_) (fun x hx => hc x (by rcases List.mem_append.1 hx with hx | hx <;> simp [hx])) hi (fun x hx => ?_) hk
            · by_cases hji : b.i = j
              · subst hji
                rw [getD_set_same (by omega)]
                constructor
                · intro h; cases h
                · rintro (⟨x, hx, e⟩ | ⟨x, hx, e⟩)
                  · exact absurd e (hne x (by simpa [List.append_assoc] using hx))
                  · exact absurd e (hna x hx)
              · rw [getD_set_ne hji, hin j hj]
                constructor
                · rintro (⟨x, hx, e⟩ | h)
                  · refine .inl ⟨x, ?_, e⟩
                    simp only [List.mem_append, List.mem_cons] at hx ⊢
                    rcases hx with (hx | rfl | hx) | hx
                    · exact .inl (.inl hx)
                    · exact absurd e hji
                    · exact .inl (.inr hx)
                    · exact .inr hx
                  · exact .inr h
                · rintro (⟨x, hx, e⟩ | h)
                  · refine .inl ⟨x, ?_, e⟩
                    simp only [List.mem_append, List.mem_cons] at hx ⊢
                    rcases hx with (hx | hx) | hx
                    · exact .inl (.inl hx)
                    · exact .inl (.inr (.inr hx))
                    · exact .inr hx
                  · exact .inr h
            · have h3 := okPls3_sub (hmap ▸ hok) (fun x hx => (List.mem_map.1 hx).elim fun y hy => hy.2 ▸ hc y (by simp [hy.1])) (fun x hx => (List.mem_map.1 hx).elim fun y hy => hy.2 ▸ hleft y hy.1)
              simpa using h3
            · simp only [List.mem_append, List.mem_cons] at hx ⊢
              rcases hx with (hx | hx) | hx
              · exact .inl (.inl hx)
              · exact .inl (.inr (.inr hx))
              · exact .inr hx
            · have := hal x hx
              simp only [okAl2, Bool.and_eq_true, List.all_eq_true] at this ⊢
              refine ⟨⟨this.1.1, fun y hy => this.1.2 y ?_⟩, this.2⟩
              rcases List.mem_append.1 hy with hy | hy <;> simp [hy]
          · exfalso
            have := hal a0 ha0
            simp only [okAl2, Bool.and_eq_true, List.all_eq_true] at this
            have := (this.2 b hb).2
            rw [hbi] at this
            simp only [Bool.or_eq_true, List.any_eq_true] at this
            rcases this with q | ⟨r, hr, y, hy, e⟩
            · exact hno a0.i (hall a0 ha0).1 ((hin a0.i (hall a0 ha0).1).2 (.inr ⟨a0, ha0, rfl⟩)) (memN_iff.1 q)
            · have e := Nat.eq_of_beq_eq_true e
              subst e
              have hyl := (hlt y (by simp [hy])).1
              exact hno y.i hyl ((hin y.i hyl).2 (.inl ⟨y, by simp [hy], rfl⟩)) hr
        · have hbo := hal b hb
          simp only [okAl2, Bool.and_eq_true, List.all_eq_true] at hbo
          obtain ⟨l1, l2, hl12⟩ := List.append_of_mem hb
          rw [hl12] at hi
          obtain ⟨hi2, hne, hpA⟩ := indAs2_sub hi
          obtain ⟨hAl, hnext⟩ := JF_lay (C := C) (ops := ops) (F := F) (b := b) (k' := Als2 C ops (upP fun E' L' => JX C ops (fun E' L' => K C (Q .normal) E' L') tail E' (F ++ L')) (l1 ++ l2)) (its := frees) (fun x hx => by
            have hq := hbo.1.2 x hx
            simp only [Bool.and_eq_true, Bool.or_eq_true, Bool.not_eq_true'] at hq
            refine ⟨hq.1.1.1, ?_, hq.1.2⟩
            rcases hq.1.1.2 with q | q
            · exfalso
              have hxl := (hlt x (by simp [hx])).1
              rw [hbi] at q
              exact hno x.i hxl ((hin x.i hxl).2 (.inl ⟨x, by simp [hx], rfl⟩)) (memN_iff.1 q)
            · exact q) (fun E L h => by rw [hl12] at h; exact Als2.pull upP_perm hpA h) hJ
          obtain ⟨ob, q1, q2, q3, q4, q5⟩ := hAl
          rw [hbi, ho] at q1
          cases q1
          have hperm : (F ++ (als.map (·.I) ++ L)).Perm (b.I :: (F ++ ((l1 ++ l2).map (·.I) ++ L))) := by
            rw [hl12]
            simp only [List.map_append, List.map_cons]
            refine (List.Perm.append_left F ?_).trans List.perm_middle
            rw [List.append_assoc, List.append_assoc]
            exact List.perm_middle
          obtain ⟨n, ds, h, m, l, sp, st, fr⟩ := p.lsub (LSub.of_perm hperm)
          have hwt : Region.wanted o (yielded ops a.tmps) = true := by simp [Region.wanted, q4]
          unfold wpOpIn
          simp only [ho]
          rw [if_pos hwt]
          refine q5 (F ++ ((l1 ++ l2).map (·.I) ++ L)) a w h m n l sp st (fr.sub restr_sub) _ Q fun v v' w' h' m' l' sp' st' hv => ?_
          have hrest := ih frees (l1 ++ l2) (listed.setIfInBounds i true) (upd E b.d (b.A v)) (b.M v :: L) (by rw [hl12] at hlen; simp only [List.length_append, List.length_cons] at hlen ⊢; omega) (by simpa using hsz) (fun j hj => ?_) hok hlt hc hi2 (fun x hx => hal x (by
            rw [hl12]
            rcases List.mem_append.1 hx with hx | hx <;> simp [hx])) (hnext v)
          · have hperm2 : (b.M v :: (F ++ ((l1 ++ l2).map (·.I) ++ L))).Perm (F ++ ((l1 ++ l2).map (·.I) ++ b.M v :: L)) := by
              have e1 : F ++ ((l1 ++ l2).map (·.I) ++ b.M v :: L) = (F ++ (l1 ++ l2).map (·.I)) ++ b.M v :: L := by simp
              have e2 : b.M v :: (F ++ ((l1 ++ l2).map (·.I) ++ L)) = b.M v :: ((F ++ (l1 ++ l2).map (·.I)) ++ L) := by simp
              rw [e1, e2]
              exact List.perm_middle.symm
            have hpre : Pre C (updO E o.dst (b.A v)) (b.M v :: (F ++ ((l1 ++ l2).map (·.I) ++ L))) (a.put o.dst v') w' :=
              ⟨by rw [put_size]; exact n, by rw [put_defers]; exact ds, h', m', HL.trans l l', sp', st', (fr.mono l'.1).putO (by rw [n, q2]; exact q3) hv⟩
            have hpre2 := hpre.lsub (LSub.of_perm hperm2)
            rw [q2] at hpre2 ⊢
            exact hrest _ _ hpre2
          · by_cases hji : i = j
            · subst hji
              rw [getD_set_same (by omega)]
              constructor
              · intro h; cases h
              · rintro (⟨x, hx, e⟩ | ⟨x, hx, e⟩)
                · exfalso
                  rcases List.mem_append.1 hx with hx | hx
                  · have := (hbo.1.2 x hx).2
                    rw [hbi, e] at this; simp at this
                  · have := (hbo.2 x hx).1
                    rw [hbi, e] at this; simp at this
                · exact absurd (e.trans hbi.symm) (hne x hx)
            · rw [getD_set_ne hji, hin j hj, hl12]
              constructor
              · rintro (h | ⟨x, hx, e⟩)
                · exact .inl h
                · rcases List.mem_append.1 hx with hx | hx
                  · exact .inr ⟨x, by simp [hx], e⟩
                  · rcases List.mem_cons.1 hx with rfl | hx
                    · exact absurd (hbi.symm.trans e) hji
                    · exact .inr ⟨x, by simp [hx], e⟩
              · rintro (h | ⟨x, hx, e⟩)
                · exact .inl h
                · refine .inr ⟨x, ?_, e⟩
                  rcases List.mem_append.1 hx with hx | hx <;> simp [hx]
theorem J_drawZ {C : Cx} {id : Nat} {ops : Array Oper} (F : List SP) (frees : List It3) (als : List Al2) (tail : List It3) {Q : Exit → Act → World → Prop} {E : Env} {L0 L : List SP} (hL : LSub L0 (F ++ (als.map (·.I) ++ L))) (hmix : C.P.follows .mixedOrders = true) (hok : okZ ops.toList frees als tail = true) (hn : frees.length + als.length + tail.length ≤ ops.size)
    (hJ : JF C ops F (Als2 C ops (upP fun E' L' => JX C ops (fun E' L' => K C (Q .normal) E' L') tail E' (F ++ L')) als) frees E L) : J C (.region id ops true) Q E L0 := fun a w p => by
  refine wpIn_region_draw (fun t => ?_)
  simp only [Region.schedule, hmix, Bool.true_or, if_true]
  refine wpAnyIn_sound ops.size t _ a _ ?_
  simp only [okZ, Bool.and_eq_true, List.all_eq_true, List.any_eq_true, Bool.or_eq_true] at hok
  obtain ⟨⟨⟨⟨⟨⟨h1, h2⟩, h3⟩, h3c⟩, h4⟩, h5⟩, h6⟩ := hok
  refine K_lsub hL (wpAny_JZ ops.size frees als _ E L hn (by simp) (fun i hi => ?_) h1 (fun x hx => ⟨by have := h3 x hx; simpa using this, fun e he => ?_⟩) (fun x hx => by have := h3c x hx; simpa using this) h5 h6 hJ) a _ ?_
  · constructor
    · intro _
      rcases h4 i (by simpa using hi) with ⟨x, hx, e⟩ | ⟨x, hx, e⟩
      · exact .inl ⟨x, hx, (Nat.eq_of_beq_eq_true e).symm⟩
      · exact .inr ⟨x, hx, (Nat.eq_of_beq_eq_true e).symm⟩
    · intro _; simp [Array.getD_eq_getD_getElem?, hi]
  · have := h2 _ (List.mem_map_of_mem hx) e he
    simpa [plOf3] using this
  · obtain ⟨hsz, hds, h, m, hl, sp, st, fr⟩ := p
    exact ⟨hsz, hds, h, m, hl.trans (HL.same (Same.drew _)), ⟨(by first | exact Sep.inv (by assumption) | exact Inv.mono (PH.le_join_left _ _) (Sep.inv (by assumption))), sp.hm, sp.hr, sp.mr, sp.hw, sp.mw, sp.rw⟩, st, fr⟩
theorem upP_in {k : Env → List SP → Prop} {E : Env} {L : List SP} (h : k E L) : upP k E L := ⟨L, List.Perm.refl _, h⟩
open Go
section
variable {C : Cx} {ops : Array Oper} {F : List SP} {k k' : Env → List SP → Prop}
theorem JF_append {its' : List It3} : ∀ {its : List It3} {E : Env} {L : List SP}, JF C ops F (JF C ops F k its') its E L → JF C ops F k (its ++ its') E L
  | [], _, _, h => h
  | x :: its, E, L, ⟨o, A, h1, h2, h3, h4⟩ => ⟨o, A, h1, h2, h3, JF_append h4⟩
end
/-- okZ without the count of all. -/
def okZ0 (ops : List Oper) (frees : List It3) (als : List Al2) (tail : List It3) : Bool :=
  let pls := (frees ++ tail).map (plOf3 ops)
  okPls3 pls && (pls.all fun p => p.aft.all (Nat.blt · p.i)) && ((frees ++ tail).all fun x => Nat.blt x.i ops.length) && (frees.all fun x => Nat.ble x.c 1) && indAs2 als && als.all (okAl2 ops frees tail)
def okZ1' (ops : List Oper) (frees : List It3) (a1 : Al2) (po : List It3) (als : List Al2) (tail : List It3) : Bool :=
  okZ0 ops (frees ++ po) als tail && okAl2 ops frees tail a1 && (als.all fun b => indA2 a1 b) && (po.all fun x => memN a1.i (aftOf ops x.i) && !Nat.beq a1.i x.i) && (List.range ops.length).all (fun i => ((frees ++ po ++ tail).any fun x => Nat.beq i x.i) || als.any (fun a => Nat.beq i a.i) || Nat.beq i a1.i)
theorem wpAny_JZ1 {C : Cx} {ops : Array Oper} {F : List SP} {Q : Exit → Act → World → Prop} {tail po : List It3} {a1 : Al2} : ∀ (fuel : Nat) (frees : List It3) (als : List Al2) (listed : Array Bool) (E : Env) (L : List SP), frees.length + 1 + po.length + als.length + tail.length ≤ fuel → listed.size = ops.size →
    (∀ i, i < ops.size → (listed.getD i true = false ↔ (∃ x ∈ frees ++ po ++ tail, x.i = i) ∨ (∃ a ∈ als, a.i = i) ∨ a1.i = i)) → okPls3 ((frees ++ po ++ tail).map (plOf3 ops.toList)) = true → (∀ x ∈ frees ++ po ++ tail, x.i < ops.size ∧ ∀ e ∈ aftOf ops.toList x.i, e < x.i) → (∀ x ∈ frees ++ po, x.c ≤ 1) → indAs2 als = true → (∀ a ∈ als, okAl2 ops.toList (frees ++ po) tail a = true) →
    okAl2 ops.toList frees tail a1 = true → (∀ b ∈ als, indA2 a1 b = true) → (∀ x ∈ po, a1.i ∈ aftOf ops.toList x.i ∧ x.i ≠ a1.i) →
    JF C ops F (Als2 C ops (JF C ops F (Als2 C ops (upP fun E' L' => JX C ops (fun E' L' => K C (Q .normal) E' L') tail E' (F ++ L')) als) po) [a1]) frees E L → K C (fun a w => wpAnyIn (Fw C.ro) 0 C.P .any ops Q fuel listed a w) E (F ++ (a1.I :: als.map (·.I) ++ L)) := by
  intro fuel
  induction fuel with
  | zero => intro frees als listed E L hlen; omega
  | succ fuel ih =>
    intro frees als listed E L hlen hsz hin hok hlt hc hi hal h1ok h1ind hpo hJ
    have h1ok' := h1ok
    simp only [okAl2, Bool.and_eq_true, List.all_eq_true] at h1ok'
    have h1lt : a1.i < ops.size := by simpa using h1ok'.1.1.2
    have h1aft : ∀ e ∈ aftOf ops.toList a1.i, e < a1.i := fun e he => by simpa using h1ok'.1.1.1 e he
    have hall : ∀ a ∈ als, a.i < ops.size ∧ ∀ e ∈ aftOf ops.toList a.i, e < a.i := fun a ha => by
      have := hal a ha
      simp only [okAl2, Bool.and_eq_true, List.all_eq_true] at this
      exact ⟨by simpa using this.1.1.2, fun e he => by simpa using this.1.1.1 e he⟩
    intro a w p
    refine ⟨fun hr => ?_, fun i hii => ?_⟩
    · exfalso
      have hall2 : ∀ i, i < ops.size → listed.getD i true = true := by
        intro i
        induction i using Nat.strongRecOn with
        | _ i ihi =>
          intro hilt
          cases hl : listed.getD i true with
          | true => rfl
          | false =>
            have ho : ops[i]? = some ops[i] := Array.getElem?_eq_getElem hilt
            have h1 : ∀ e ∈ aftOf ops.toList i, e < i := by
              rcases (hin i hilt).1 hl with ⟨x, hx, hxi⟩ | ⟨x, hx, hxi⟩ | hxi
              · have := (hlt x hx).2; rwa [hxi] at this
              · have := (hall x hx).2; rwa [hxi] at this
              · have := h1aft; rwa [hxi] at this
            have hm : i ∈ Region.ready .any ops listed := mem_ready.2 ⟨hilt, hl, _, ho, fun e he => by
              have he' : e < i := h1 e (by simpa [aftOf, hilt] using he)
              rw [getD_any (by omega) false true]
              exact ihi e he' (by omega)⟩
            rw [hr] at hm; cases hm
      have := (hin a1.i h1lt).2 (.inr (.inr rfl))
      rw [hall2 a1.i h1lt] at this; cases this
    · obtain ⟨hlti, hnl, o, ho, haft⟩ := mem_ready.1 hii
      have haft' : aftOf ops.toList i = aftN o := by
        have : ops.toList[i]? = some o := by simpa using ho
        simp only [aftOf, this]
      have hno : ∀ j, j < ops.size → listed.getD j true = false → j ∉ aftOf ops.toList i := fun j hj hl hm => by
        rw [haft'] at hm
        have h1 := haft _ hm
        rw [getD_any (by omega) true false, h1] at hl; cases hl
      have hno1 : a1.i ∉ aftOf ops.toList i := hno a1.i h1lt ((hin a1.i h1lt).2 (.inr (.inr rfl)))
      rcases (hin i hlti).1 hnl with ⟨b, hb, hbi⟩ | ⟨b, hb, hbi⟩ | hbi
      · rcases List.mem_append.1 hb with hb | hb
        · rcases List.mem_append.1 hb with hb | hb
          · -- a free one
            obtain ⟨l1, l2, rfl⟩ := List.append_of_mem hb
            have hmap : (l1 ++ b :: l2 ++ po ++ tail).map (plOf3 ops.toList) = l1.map (plOf3 ops.toList) ++ plOf3 ops.toList b :: (l2 ++ po ++ tail).map (plOf3 ops.toList) := by simp
            have hpair : ∀ x ∈ l1, okPair3 (plOf3 ops.toList x) (plOf3 ops.toList b) = true := fun x hx => okPls3_pair (hmap ▸ hok) _ (List.mem_map_of_mem hx)
            have hleft : ∀ x ∈ l1, x.i ∉ aftOf ops.toList b.i := fun x hx => by
              rw [hbi]; exact hno x.i (hlt x (by simp [hx])).1 ((hin x.i (hlt x (by simp [hx])).1).2 (.inl ⟨x, by simp [hx], rfl⟩))
            have hne := pls3_ne (ops := ops.toList) (l1 := l1) (b := b) (l2 := l2 ++ po ++ tail) (by simpa using hok)
            have hJ' := JF_pull hpair hleft hJ
            obtain ⟨o', A, ho2, hl, hs, hk⟩ := hJ'
            subst hbi
            have hna : ∀ x ∈ als, x.i ≠ b.i := fun x hx e => by
              have := hal x hx
              simp only [okAl2, Bool.and_eq_true, List.all_eq_true] at this
              have := (this.1.2 b (by simp)).2
              rw [e] at this; simp at this
            have hn1 : a1.i ≠ b.i := fun e => by
              have := (h1ok'.1.2 b (by simp)).2
              rw [e] at this; simp at this
            have hs' : StepG C ops o' (restr b.ts E) (F ++ (a1.I :: als.map (·.I) ++ L)) A := by
              match e : b.c with
              | 0 => have := hs (F ++ (a1.I :: als.map (·.I) ++ L)); rw [e] at this; exact this
              | c + 1 => have := hs (a1.I :: als.map (·.I) ++ L); rw [e] at this; exact this
            refine hs'.op ho2 hl ?_ a w p
            refine ih (l1 ++ l2) als _ _ L (by simp only [List.length_append, List.length_cons] at hlen ⊢; omega) (by simpa using hsz) (fun j hj => ?_) ?_ (fun x hx => hlt x ?_) (fun x hx => hc x ?_) hi (fun x hx => ?_) ?_ h1ind hpo hk
            · by_cases hji : b.i = j
              · subst hji
                rw [getD_set_same (by omega)]
                constructor
                · intro h; cases h
                · rintro (⟨x, hx, e⟩ | ⟨x, hx, e⟩ | e)
                  · exact absurd e (hne x (by simpa [List.append_assoc] using hx))
                  · exact absurd e (hna x hx)
                  · exact absurd e hn1
              · rw [getD_set_ne hji, hin j hj]
                constructor
                · rintro (⟨x, hx, e⟩ | h)
                  · refine .inl ⟨x, ?_, e⟩
                    simp only [List.mem_append, List.mem_cons] at hx ⊢
                    rcases hx with ((hx | rfl | hx) | hx) | hx
                    · exact .inl (.inl (.inl hx))
                    · exact absurd e hji
                    · exact .inl (.inl (.inr hx))
                    · exact .inl (.inr hx)
                    · exact .inr hx
                  · exact .inr h
                · rintro (⟨x, hx, e⟩ | h)
                  · refine .inl ⟨x, ?_, e⟩
                    simp only [List.mem_append, List.mem_cons] at hx ⊢
                    rcases hx with ((hx | hx) | hx) | hx
                    · exact .inl (.inl (.inl hx))
                    · exact .inl (.inl (.inr (.inr hx)))
                    · exact .inl (.inr hx)
                    · exact .inr hx
                  · exact .inr h
            · have h3 := okPls3_sub (hmap ▸ hok) (fun x hx => (List.mem_map.1 hx).elim fun y hy => hy.2 ▸ hc y (by simp [hy.1])) (fun x hx => (List.mem_map.1 hx).elim fun y hy => hy.2 ▸ hleft y hy.1)
              simpa using h3
            · simp only [List.mem_append, List.mem_cons] at hx ⊢
              rcases hx with ((hx | hx) | hx) | hx
              · exact .inl (.inl (.inl hx))
              · exact .inl (.inl (.inr (.inr hx)))
              · exact .inl (.inr hx)
              · exact .inr hx
            · simp only [List.mem_append, List.mem_cons] at hx ⊢
              rcases hx with (hx | hx) | hx
              · exact .inl (.inl hx)
              · exact .inl (.inr (.inr hx))
              · exact .inr hx
            · have := hal x hx
              simp only [okAl2, Bool.and_eq_true, List.all_eq_true] at this ⊢
              refine ⟨⟨this.1.1, fun y hy => this.1.2 y ?_⟩, this.2⟩
              simp only [List.mem_append, List.mem_cons] at hy ⊢
              rcases hy with (hy | hy) | hy
              · exact .inl (.inl hy)
              · exact .inl (.inr (.inr hy))
              · exact .inr hy
            · simp only [okAl2, Bool.and_eq_true, List.all_eq_true]
              refine ⟨⟨h1ok'.1.1, fun y hy => ?_⟩, h1ok'.2⟩
              have := h1ok'.1.2 y (by rcases List.mem_append.1 hy with hy | hy <;> simp [hy])
              simpa only [Bool.and_eq_true] using this
          · -- one behind a1 cannot come yet
            exfalso
            have := (hpo b hb).1
            rw [hbi] at this
            exact hno1 this
        · -- one of the rest cannot come yet
          exfalso
          have := (h1ok'.2 b hb).2
          rw [hbi] at this
          simp only [Bool.or_eq_true, List.any_eq_true] at this
          rcases this with q | ⟨r, hr, y, hy, e⟩
          · exact hno1 (memN_iff.1 q)
          · have e := Nat.eq_of_beq_eq_true e
            subst e
            have hyl := (hlt y (by simp [hy])).1
            exact hno y.i hyl ((hin y.i hyl).2 (.inl ⟨y, by simp [hy], rfl⟩)) hr
      · -- another change
        have hbo := hal b hb
        simp only [okAl2, Bool.and_eq_true, List.all_eq_true] at hbo
        obtain ⟨l1, l2, hl12⟩ := List.append_of_mem hb
        have hi' := hi
        rw [hl12] at hi'
        obtain ⟨hi2, hne, hpA⟩ := indAs2_sub hi'
        have hlayc : ∀ x ∈ frees ++ po, memN b.d x.ts = false ∧ inO (dstOf ops.toList x.i) b.ts = false ∧ eqO (some b.d) (dstOf ops.toList x.i) = false := fun x hx => by
          have hq := hbo.1.2 x hx
          simp only [Bool.and_eq_true, Bool.or_eq_true, Bool.not_eq_true'] at hq
          refine ⟨hq.1.1.1, ?_, hq.1.2⟩
          rcases hq.1.1.2 with q | q
          · exfalso
            have hxm : x ∈ frees ++ po ++ tail := List.mem_append_left _ hx
            have hxl := (hlt x hxm).1
            rw [hbi] at q
            exact hno x.i hxl ((hin x.i hxl).2 (.inl ⟨x, hxm, rfl⟩)) (memN_iff.1 q)
          · exact q
        obtain ⟨hAl, hnext⟩ := JF_lay (C := C) (ops := ops) (F := F) (b := b) (k' := Als2 C ops (JF C ops F (Als2 C ops (upP fun E' L' => JX C ops (fun E' L' => K C (Q .normal) E' L') tail E' (F ++ L')) (l1 ++ l2)) po) [a1]) (its := frees) (fun x hx => hlayc x (List.mem_append_left _ hx)) (fun E L h => by
          obtain ⟨g1, g2⟩ := h
          have hab := h1ind b hb
          simp only [indA2, Bool.and_eq_true, Bool.not_eq_true'] at hab
          obtain ⟨⟨⟨p1, p2⟩, p3⟩, p4⟩ := hab
          have p4 : a1.d ≠ b.d := fun e => by rw [e] at p4; simp at p4
          have hin2 : ∀ v, AlOk2 C ops (upd E a1.d (a1.A v)) b ∧ ∀ u, JF C ops F (Als2 C ops (upP fun E' L' => JX C ops (fun E' L' => K C (Q .normal) E' L') tail E' (F ++ L')) (l1 ++ l2)) po (upd (upd E a1.d (a1.A v)) b.d (b.A u)) (b.M u :: a1.M v :: L) := fun v =>
            JF_lay (fun x hx => hlayc x (List.mem_append_right _ hx)) (fun E L h => by rw [hl12] at h; exact Als2.pull upP_perm hpA h) (g2 v)
          refine ⟨(AlOk2.same p2).1 (hin2 default).1, fun u => ⟨(AlOk2.same p3).2 g1, fun v => ?_⟩⟩
          have := (hin2 v).2 u
          rw [upd_comm p4] at this
          exact JF_permK (k := Als2 C ops (upP fun E' L' => JX C ops (fun E' L' => K C (Q .normal) E' L') tail E' (F ++ L')) (l1 ++ l2)) (fun E L L' p h => Als2.perm upP_perm p h) _ _ _ (List.Perm.swap _ _ _) this) hJ
        obtain ⟨ob, q1, q2, q3, q4, q5⟩ := hAl
        rw [hbi, ho] at q1
        cases q1
        have hperm : (F ++ (a1.I :: als.map (·.I) ++ L)).Perm (b.I :: (F ++ (a1.I :: (l1 ++ l2).map (·.I) ++ L))) := by
          rw [hl12]
          have e1 : F ++ (a1.I :: (l1 ++ b :: l2).map (·.I) ++ L) = (F ++ a1.I :: l1.map (·.I)) ++ b.I :: (l2.map (·.I) ++ L) := by simp
          have e2 : F ++ (a1.I :: (l1 ++ l2).map (·.I) ++ L) = (F ++ a1.I :: l1.map (·.I)) ++ (l2.map (·.I) ++ L) := by simp
          rw [e1, e2]
          exact List.perm_middle
        obtain ⟨n, ds, h, m, l, sp, st, fr⟩ := p.lsub (LSub.of_perm hperm)
        have hwt : Region.wanted o (yielded ops a.tmps) = true := by simp [Region.wanted, q4]
        unfold wpOpIn
        simp only [ho]
        rw [if_pos hwt]
        refine q5 (F ++ (a1.I :: (l1 ++ l2).map (·.I) ++ L)) a w h m n l sp st (fr.sub restr_sub) _ Q fun v v' w' h' m' l' sp' st' hv => ?_
        have hrest := ih frees (l1 ++ l2) (listed.setIfInBounds i true) (upd E b.d (b.A v)) (b.M v :: L) (by rw [hl12] at hlen; simp only [List.length_append, List.length_cons] at hlen ⊢; omega) (by simpa using hsz) (fun j hj => ?_) hok hlt hc hi2 (fun x hx => hal x (by
          rw [hl12]
          rcases List.mem_append.1 hx with hx | hx <;> simp [hx])) h1ok (fun x hx => h1ind x (by
          rw [hl12]
          rcases List.mem_append.1 hx with hx | hx <;> simp [hx])) hpo (hnext v)
        · have hperm2 : (b.M v :: (F ++ (a1.I :: (l1 ++ l2).map (·.I) ++ L))).Perm (F ++ (a1.I :: (l1 ++ l2).map (·.I) ++ b.M v :: L)) := by
            have e1 : F ++ (a1.I :: (l1 ++ l2).map (·.I) ++ b.M v :: L) = (F ++ a1.I :: (l1 ++ l2).map (·.I)) ++ b.M v :: L := by simp
            have e2 : b.M v :: (F ++ (a1.I :: (l1 ++ l2).map (·.I) ++ L)) = b.M v :: ((F ++ a1.I :: (l1 ++ l2).map (·.I)) ++ L) := by simp
            rw [e1, e2]
            exact List.perm_middle.symm
          have hpre : Pre C (updO E o.dst (b.A v)) (b.M v :: (F ++ (a1.I :: (l1 ++ l2).map (·.I) ++ L))) (a.put o.dst v') w' :=
            ⟨by rw [put_size]; exact n, by rw [put_defers]; exact ds, h', m', HL.trans l l', sp', st', (fr.mono l'.1).putO (by rw [n, q2]; exact q3) hv⟩
          have hpre2 := hpre.lsub (LSub.of_perm hperm2)
          rw [q2] at hpre2 ⊢
          exact hrest _ _ hpre2
        · by_cases hji : i = j
          · subst hji
            rw [getD_set_same (by omega)]
            constructor
            · intro h; cases h
            · rintro (⟨x, hx, e⟩ | ⟨x, hx, e⟩ | e)
              · exfalso
                rcases List.mem_append.1 hx with hx | hx
                · have := (hbo.1.2 x hx).2
                  rw [hbi, e] at this; simp at this
                · have := (hbo.2 x hx).1
                  rw [hbi, e] at this; simp at this
              · exact absurd (e.trans hbi.symm) (hne x hx)
              · exfalso
                have hab := h1ind b hb
                simp only [indA2, Bool.and_eq_true, Bool.not_eq_true'] at hab
                have := hab.1.1.1
                rw [e, hbi] at this; simp at this
          · rw [getD_set_ne hji, hin j hj, hl12]
            constructor
            · rintro (h | ⟨x, hx, e⟩ | h)
              · exact .inl h
              · rcases List.mem_append.1 hx with hx | hx
                · exact .inr (.inl ⟨x, by simp [hx], e⟩)
                · rcases List.mem_cons.1 hx with rfl | hx
                  · exact absurd (hbi.symm.trans e) hji
                  · exact .inr (.inl ⟨x, by simp [hx], e⟩)
              · exact .inr (.inr h)
            · rintro (h | ⟨x, hx, e⟩ | h)
              · exact .inl h
              · refine .inr (.inl ⟨x, ?_, e⟩)
                rcases List.mem_append.1 hx with hx | hx <;> simp [hx]
              · exact .inr (.inr h)
      · -- a1 itself
        obtain ⟨hAl, hnext⟩ := JF_lay (C := C) (ops := ops) (F := F) (b := a1) (k' := JF C ops F (Als2 C ops (upP fun E' L' => JX C ops (fun E' L' => K C (Q .normal) E' L') tail E' (F ++ L')) als) po) (its := frees) (fun x hx => by
          have hq := h1ok'.1.2 x hx
          simp only [Bool.and_eq_true, Bool.or_eq_true, Bool.not_eq_true'] at hq
          refine ⟨hq.1.1.1, ?_, hq.1.2⟩
          rcases hq.1.1.2 with q | q
          · exfalso
            have hxl := (hlt x (by simp [hx])).1
            rw [hbi] at q
            exact hno x.i hxl ((hin x.i hxl).2 (.inl ⟨x, by simp [hx], rfl⟩)) (memN_iff.1 q)
          · exact q) (fun E L h => h) hJ
        obtain ⟨ob, q1, q2, q3, q4, q5⟩ := hAl
        rw [hbi, ho] at q1
        cases q1
        have hperm : (F ++ (a1.I :: als.map (·.I) ++ L)).Perm (a1.I :: (F ++ (als.map (·.I) ++ L))) := by
          have e1 : F ++ (a1.I :: als.map (·.I) ++ L) = F ++ a1.I :: (als.map (·.I) ++ L) := by simp
          rw [e1]; exact List.perm_middle
        obtain ⟨n, ds, h, m, l, sp, st, fr⟩ := p.lsub (LSub.of_perm hperm)
        have hwt : Region.wanted o (yielded ops a.tmps) = true := by simp [Region.wanted, q4]
        unfold wpOpIn
        simp only [ho]
        rw [if_pos hwt]
        refine q5 (F ++ (als.map (·.I) ++ L)) a w h m n l sp st (fr.sub restr_sub) _ Q fun v v' w' h' m' l' sp' st' hv => ?_
        have hn1f : ∀ x ∈ frees ++ po ++ tail, x.i ≠ a1.i := fun x hx e => by
          rcases List.mem_append.1 hx with hx | hx
          · rcases List.mem_append.1 hx with hx | hx
            · have := (h1ok'.1.2 x hx).2
              rw [e] at this; simp at this
            · exact (hpo x hx).2 e
          · have := (h1ok'.2 x hx).1
            rw [e] at this; simp at this
        have hn1a : ∀ b ∈ als, b.i ≠ a1.i := fun b hb e => by
          have hab := h1ind b hb
          simp only [indA2, Bool.and_eq_true, Bool.not_eq_true'] at hab
          have := hab.1.1.1
          rw [e] at this; simp at this
        have hrest := wpAny_JZ fuel (frees ++ po) als (listed.setIfInBounds i true) (upd E a1.d (a1.A v)) (a1.M v :: L) (by simp only [List.length_append] at hlen ⊢; omega) (by simpa using hsz) (fun j hj => ?_) hok hlt hc hi hal (JF_append (hnext v))
        · have hperm2 : (a1.M v :: (F ++ (als.map (·.I) ++ L))).Perm (F ++ (als.map (·.I) ++ a1.M v :: L)) := by
            have e1 : F ++ (als.map (·.I) ++ a1.M v :: L) = (F ++ als.map (·.I)) ++ a1.M v :: L := by simp
            have e2 : a1.M v :: (F ++ (als.map (·.I) ++ L)) = a1.M v :: ((F ++ als.map (·.I)) ++ L) := by simp
            rw [e1, e2]
            exact List.perm_middle.symm
          have hpre : Pre C (updO E o.dst (a1.A v)) (a1.M v :: (F ++ (als.map (·.I) ++ L))) (a.put o.dst v') w' :=
            ⟨by rw [put_size]; exact n, by rw [put_defers]; exact ds, h', m', HL.trans l l', sp', st', (fr.mono l'.1).putO (by rw [n, q2]; exact q3) hv⟩
          have hpre2 := hpre.lsub (LSub.of_perm hperm2)
          rw [q2] at hpre2 ⊢
          exact hrest _ _ hpre2
        · by_cases hji : i = j
          · subst hji
            rw [getD_set_same (by omega)]
            constructor
            · intro h; cases h
            · rintro (⟨x, hx, e⟩ | ⟨x, hx, e⟩)
              · exact absurd (e.trans hbi.symm) (hn1f x hx)
              · exact absurd (e.trans hbi.symm) (hn1a x hx)
          · rw [getD_set_ne hji, hin j hj]
            constructor
            · rintro (h | h | h)
              · exact .inl h
              · exact .inr h
              · exact absurd (hbi.symm.trans h) hji
            · rintro (h | h)
              · exact .inl h
              · exact .inr (.inl h)
theorem J_drawZ1 {C : Cx} {id : Nat} {ops : Array Oper} (F : List SP) (frees : List It3) (a1 : Al2) (po : List It3) (als : List Al2) (tail : List It3) {Q : Exit → Act → World → Prop} {E : Env} {L0 L : List SP} (hL : LSub L0 (F ++ (a1.I :: als.map (·.I) ++ L))) (hmix : C.P.follows .mixedOrders = true) (hok : okZ1' ops.toList frees a1 po als tail = true) (hn : frees.length + 1 + po.length + als.length + tail.length ≤ ops.size)
    (hJ : JF C ops F (Als2 C ops (JF C ops F (Als2 C ops (upP fun E' L' => JX C ops (fun E' L' => K C (Q .normal) E' L') tail E' (F ++ L')) als) po) [a1]) frees E L) : J C (.region id ops true) Q E L0 := fun a w p => by
  refine wpIn_region_draw (fun t => ?_)
  simp only [Region.schedule, hmix, Bool.true_or, if_true]
  refine wpAnyIn_sound ops.size t _ a _ ?_
  simp only [okZ1', okZ0, Bool.and_eq_true, List.all_eq_true, List.any_eq_true, Bool.or_eq_true] at hok
  obtain ⟨⟨⟨⟨⟨⟨⟨⟨⟨h1, h2⟩, h3⟩, h3c⟩, h5⟩, h6⟩, g1⟩, g2⟩, g3⟩, h4⟩ := hok
  refine K_lsub hL (wpAny_JZ1 ops.size frees als _ E L hn (by simp) (fun i hi => ?_) h1 (fun x hx => ⟨by have := h3 x hx; simpa using this, fun e he => ?_⟩) (fun x hx => by have := h3c x hx; simpa using this) h5 h6 g1 g2 (fun x hx => ?_) hJ) a _ ?_
  · constructor
    · intro _
      rcases h4 i (by simpa using hi) with (⟨x, hx, e⟩ | ⟨x, hx, e⟩) | e
      · exact .inl ⟨x, hx, (Nat.eq_of_beq_eq_true e).symm⟩
      · exact .inr (.inl ⟨x, hx, (Nat.eq_of_beq_eq_true e).symm⟩)
      · exact .inr (.inr (Nat.eq_of_beq_eq_true e).symm)
    · intro _; simp [Array.getD_eq_getD_getElem?, hi]
  · have := h2 _ (List.mem_map_of_mem hx) e he
    simpa [plOf3] using this
  · have := g3 x hx
    refine ⟨memN_iff.1 this.1, fun e => ?_⟩
    have h := this.2
    rw [e] at h; simp at h
  · obtain ⟨hsz, hds, h, m, hl, sp, st, fr⟩ := p
    exact ⟨hsz, hds, h, m, hl.trans (HL.same (Same.drew _)), ⟨(by first | exact Sep.inv (by assumption) | exact Inv.mono (PH.le_join_left _ _) (Sep.inv (by assumption))), sp.hm, sp.hr, sp.mr, sp.hw, sp.mw, sp.rw⟩, st, fr⟩
open Go
/-- A method value of function g, bound to values of types Bs. -/
def tCloB (g : Nat) (Bs : List Ty) : Ty where
  p := fun h v => ∃ fst : List Value, v = .func (.func g) fst.toArray #[] ∧ Args h Bs fst
  mono := fun l ⟨cap, e, a⟩ => ⟨cap, e, a.mono l⟩
section
variable {C : Cx} {E : Env} {L : List SP} {d : Option Nat} {ty : Nat} {pos : String} {af : Array Edge} {g : Option (Nat × Bool)}
theorem step_makeFuncB {f : Nat} {xs : Array Operand} {As : List Ty} (ha : ArgsE E xs.toList As) : Step1 C ⟨d, .makeFunc (.func f) xs #[], ty, pos, af, g⟩ E L (tCloB f As) :=
  Step.of_same (by intro c h; cases h) fun a w h hw fr => ⟨.func (.func f) (xs.map a.eval) #[], by simp [execOp, Instr.makeFunc], xs.toList.map a.eval, by rw [← Array.toList_map], ha.args fr⟩
theorem step_callvB {X : Type} {S R : List SP} {x : Operand} {f : Nat} {xs : Array Operand} {ts : Array Nat} {aT Bs : List Ty} {res : X → Ty} {L' : X → List SP}
    (hx : Sub (opTy E x) (tCloB f Bs)) (sel : Sel L S R) (sp : Spec C.P f (Bs ++ aT) S res L') (ha : ArgsE E xs.toList aT) (he : ∀ args w, (callFunc f args).run C.P w = .ok (.enter f args) w) :
    Step C ⟨d, .call { callee := .value x, args := xs, argTypes := ts }, ty, pos, af, g⟩ E L res (fun x => L' x ++ R) := fun a w h m n l se st fr next Q hk => by
  obtain ⟨m1, m2, d12, rfl, s1, s2⟩ := sel.stars.1 st
  obtain ⟨fst, hv, hfst⟩ := fr.get hx
  have hA := hfst.append (ha.args fr)
  have hd := PH.disj_join'.1 se.hm
  have hr := PH.disj_join.1 se.mr
  have hc := sp _ h m1 (m2.join C.r) w hA ⟨(by first | exact Sep.inv (by assumption) | exact Inv.mono (PH.le_join_left _ _) (Sep.inv (by assumption))), hd.1, PH.disj_join'.2 ⟨hd.2, se.hr⟩, PH.disj_join'.2 ⟨d12, hr.1⟩, se.hw, fun b o e => se.mw _ _ (PH.le_join_left _ _ _ _ e),
    PH.join_inw (fun b o e => se.mw _ _ (PH.le_join_right d12 _ _ e)) se.rw⟩ s1
  refine ⟨fun _ _ => trivial, ?_⟩
  rw [Fw_round, Oper.semAt_eq _ _ _ (by intro c h; cases h)]
  have hrun : (execOp a.eval ⟨d, .call { callee := .value x, args := xs, argTypes := ts }, ty, pos, af, g⟩).run C.P w = .ok (.enter f (fst ++ xs.toList.map a.eval).toArray) w := by
    simp only [execOp, resolve, hv, Deferred.ofValue]
    simp [invoke, he]
  rw [hrun]
  refine ⟨by simp, (callsIn_wide (n := 0 - 1)).2 (hc.mono ?_)⟩
  rintro e w' ⟨x, v, h', m', rfl, l', se', st', hv⟩
  have e1 := PH.disj_join'.1 se'.hr
  have e2 := PH.disj_join'.1 se'.mr
  exact hk x v w' h' (m'.join m2) l' ⟨(by first | exact Sep.inv (by assumption) | exact Inv.mono (PH.le_join_left _ _) (Sep.inv (by assumption))), PH.disj_join'.2 ⟨se'.hm, e1.1⟩, e1.2, PH.disj_join.2 ⟨e2.2, hr.2⟩, se'.hw, PH.join_inw se'.mw (fun b o e => se'.rw _ _ (PH.le_join_left _ _ _ _ e)), fun b o e => se'.rw _ _ (PH.le_join_right hr.2 _ _ e)⟩
    (stars_append.2 ⟨m', m2, e2.1, rfl, st', by
      have : (stars R).p h' m2 := (stars R).mono l'.1 s2
      exact this⟩) hv
theorem step_callvB0 {X : Type} {x : Operand} {f : Nat} {xs : Array Operand} {ts : Array Nat} {aT Bs : List Ty} {res : X → Ty}
    (hx : Sub (opTy E x) (tCloB f Bs)) (sp : Fun C.P f (Bs ++ aT) res) (ha : ArgsE E xs.toList aT) (he : ∀ args w, (callFunc f args).run C.P w = .ok (.enter f args) w) :
    Step C ⟨d, .call { callee := .value x, args := xs, argTypes := ts }, ty, pos, af, g⟩ E L res (fun _ => L) := step_callvB hx (Sel.none L) sp ha he
end
/-- A ghost taken as another. -/
theorem Step.emb {X Y : Type} {C : Cx} {o : Oper} {E : Env} {L : List SP} {A : X → Ty} {L' : X → List SP} {A' : Y → Ty} {M' : Y → List SP} (f : X → Y) (h : Step C o E L A L') (hA : ∀ x, A' (f x) = A x) (hM : ∀ x, M' (f x) = L' x) : Step C o E L A' M' := fun a w hp m n l sp st fr next Q hk =>
  h a w hp m n l sp st fr next Q fun x v w' h' m' l' sp' st' hv => hk (f x) v w' h' m' l' sp' (by rw [hM]; exact st') (by rw [hA]; exact hv)
theorem Step.empty {X : Type} {C : Cx} {o : Oper} {E : Env} {L : List SP} {A : X → Ty} {L' : X → List SP} (h : Step C o E L A L') : Step C o E (SP.emp :: L) A L' := fun a w hp m n l sp st fr next Q hk =>
  h a w hp m n l sp (by
    obtain ⟨m1, m2, _, rfl, e, s2⟩ := st
    have e : m1 = PH.emp := e
    subst e; rw [PH.emp_join]; exact s2) fr next Q hk
theorem LSub.emp {L : List SP} : LSub L (SP.emp :: L) := fun h m st => ⟨PH.emp, m, PH.disj_emp_left m, (PH.emp_join m).symm, _root_.rfl, st⟩
/-- The block that a value points to. -/
def vN : Value → Nat
  | .pointer (some p) => p.block
  | _ => 0
def ptrV (n : Nat) : Value := .pointer (some ⟨n, 0, none⟩)
theorem Frz.ownV {α : Type} {e : Nat} {R : Rp α} {v : Value} {xs : List α} {S : List SP} : Frz (Lg.own e R v xs :: S) (tV v) (tSl R xs) := fun h m u d hs hu => by
  have hvo : v.oneCell' = true := by
    obtain ⟨m3, m4, _, _, ho, _⟩ := hs
    rcases ho with ⟨rfl, _⟩ | ⟨g, cap, cur, rfl, _⟩ <;> rfl
  have hu : u = v := hu
  exact Frz.own h m u d hs ⟨hu, hvo⟩
/-- A struct of one's own, with whatever it holds, made immutable. -/
theorem Frz.upS {α α' : Type} {b T : Nat} {fs : List (SF α)} {fs' : List (SF α')} {x : α} {y : α'} {S : List SP} (hup : ∀ h m cs, h.disj m → (stars S).p h m → SF.rel h x fs cs → SF.rel (h.join m) y fs' cs) :
    Frz (Lg.box b T (rStruct fs) x :: S) (tAt b 0) (tPtr (rStruct fs') y) := fun h m u d ⟨m1, m2, d12, e0, ⟨cs, r, e1⟩, hs⟩ hu => by
  subst e0
  have hd := PH.disj_join'.1 d
  have r' := hup h m2 cs hd.2 hs r
  have hle : (h.join m2).le (h.join (m1.join m2)) := fun b o e => by
    simp only [PH.join] at e ⊢
    cases hb : h b with
    | some x => rw [hb] at e; exact e
    | none =>
      rw [hb] at e
      have := PH.le_join_right d12 b o e
      simp only [PH.join] at this
      exact this
  have r2 := SF.rel_mono hle r'
  subst e1
  exact ⟨b, 0, cs, hu, ⟨cs.toArray, T, (0, 0), PH.le_join_right d _ _ (PH.le_join_left _ _ _ _ (PH.one_same _ _)), fun i u hu => by simpa using hu⟩, r2⟩
open Go
end Lg
namespace Lg
open Go Go.Proofs
section
variable {P : Program} (w : World)
theorem run_append_room_off (t ty e : TypeId) (i : TypeInfo) (ht : P.underlying t = some (.slice e)) (hi : P.info? e = some i)
    (g off sLen sCap : Nat) (cur : Array Value) (hg : w.heap[g]? = some (.cells cur e (0, 0)))
    (a : Addr) (m c : Nat) (news : List Value) (hl : news.length = m * i.size) (hnews : ∀ j u, news[j]? = some u → w.cell? (a.add j) = some u) (h1 : ∀ u ∈ news, u.oneCell' = true)
    (hroom : sLen + m ≤ sCap) (hfit : off + sLen * i.size + news.length ≤ cur.size) :
    (Builtin.append_ #[t, t] ty #[.slice (some ⟨g, off, none⟩) sLen sCap, .slice (some a) m c]).run P w =
      .ok (.slice (some ⟨g, off, none⟩) (sLen + m) sCap) (w.setRow g (cur.toList.take (off + sLen * i.size) ++ news ++ cur.toList.drop (off + sLen * i.size + news.length)).toArray) := by
  have hf := run_firstCells_some (P := P) w i.size m a m c news hl hnews
  have hst := run_storeCells_at P g (off + sLen * i.size) e news 0 cur w hg (by simpa using hfit) h1
  simp only [Nat.add_zero] at hst
  simp [Builtin.append_, run_underlying ht, Go.sizeOf, typeInfo, hi, Builtin.lenOf, hroom, hf, Addr.add_lit, hst]
end
/-- A queue: numbers in a row of one's own, from some place on. -/
def que (v : Value) (xs : List Int) : SP where
  p := fun _ m => ∃ g off cap cur, v = .slice (some ⟨g, off, none⟩) xs.length cap ∧ m = PH.one g (.cells cur 3 (0, 0)) ∧ xs.length ≤ cap ∧ cap ≤ maxLen ∧ off + cap ≤ cur.size ∧ (cur.toList.drop off).take xs.length = xs.map (.int .i64 ·)
  mono := fun _ e => e
theorem relAll_int' {h : PH} {xs : List Int} {cs : List Value} (r : relAll rInt h xs cs) : cs = xs.map (.int .i64 ·) := relAll_int.1 r
theorem own_que {v : Value} {xs : List Int} (hne : xs ≠ []) : SPs (own 3 rInt v xs) (que v xs) := fun h m o => by
  rcases o with ⟨_, q, _⟩ | ⟨g, cap, cur, rfl, rfl, hl, hm, hs, r⟩
  · exact absurd q hne
  · have hk : rInt.k = 1 := rfl
    rw [hk, Nat.mul_one] at hs r
    exact ⟨g, 0, cap, cur, rfl, rfl, hl, hm, by omega, by rw [List.drop_zero]; exact relAll_int' r⟩
section
variable {C : Cx} {E : Env} {L : List SP} {d : Option Nat} {ty : Nat} {pos : String} {af : Array Edge} {g : Option (Nat × Bool)}
theorem step_len_que {T e : Nat} {x : Operand} {v : Value} {xs : List Int} {S : List SP} (hu : C.P.underlying T = some (.slice e)) (hx : Sub (opTy E x) (rV.ty v)) (sel : Sel L [que v xs] S) :
    Step1 C ⟨d, .call { callee := .builtin .len, args := #[x], argTypes := #[T] }, ty, pos, af, g⟩ E L (tV (.int .i64 xs.length)) :=
  Step.of_run (by intro c h; cases h) fun a w h m l sp st fr => by
    have hv : a.eval x = v := (fr.get hx).1
    obtain ⟨m1, m2, d12, rfl, ⟨b, off, cap, cur, rfl, rfl, hl, hm, hs, r⟩, s2⟩ := sel.one.1 st
    exact ⟨(), .int .i64 xs.length, w, h, _, by simp [execOp, resolve, invoke, builtin, Builtin.len_, hv, run_underlying hu, goInt], HL.refl, sp, st, rfl⟩
/-- Where a queue begins. -/
def qAt (v : Value) : Value := match v with
  | .slice (some a) _ _ => .pointer (some a)
  | _ => undef
theorem step_index_que {T e : Nat} {x ix : Operand} {v : Value} {y : Int} {xs : List Int} {k : IntKind} {S : List SP} (hu : C.P.underlying T = some (.slice e)) (hR : TyOf C.P e rInt)
    (hx : Sub (opTy E x) (rV.ty v)) (hi : Sub (opTy E ix) (tV (.int k 0))) (sel : Sel L [que v (y :: xs)] S) :
    Step1 C ⟨d, .indexAddr T x ix, ty, pos, af, g⟩ E L (tV (qAt v)) :=
  Step.of_run (by intro c h; cases h) fun a w h m l sp st fr => by
    have hv : a.eval x = v := (fr.get hx).1
    have h2 : a.eval ix = .int k 0 := fr.get hi
    obtain ⟨m1, m2, d12, rfl, ⟨b, off, cap, cur, rfl, rfl, hl, hm, hs, r⟩, s2⟩ := sel.one.1 st
    refine ⟨(), qAt _, w, h, _, ?_, HL.refl, sp, st, rfl⟩
    simp [execOp, Instr.indexAt, hv, h2, asIntOf, run_underlying hu, hR.size, addr_add, qAt]
theorem step_load_que {T : Nat} {x : Operand} {v : Value} {y : Int} {xs : List Int} {S : List SP} (hR : TyOf C.P T rInt) (hx : Sub (opTy E x) (tV (qAt v))) (sel : Sel L [que v (y :: xs)] S) :
    Step1 C ⟨d, .load T x, ty, pos, af, g⟩ E L (tV (.int .i64 y)) :=
  Step.of_run (by intro c h; cases h) fun a w h m l sp st fr => by
    have hv : a.eval x = qAt v := fr.get hx
    obtain ⟨m1, m2, d12, rfl, ⟨b, off, cap, cur, rfl, rfl, hl, hm, hs, r⟩, s2⟩ := sel.one.1 st
    have hb := sp.heap_own
    have h0 : cur.toList[off]? = some (.int .i64 y) := by
      have := congrArg (fun l => l[0]?) r
      simp only [List.getElem?_take, List.getElem?_drop, List.length_cons, Nat.zero_lt_succ, if_true, Nat.add_zero, List.map_cons, List.getElem?_cons_zero] at this
      exact this
    have := run_loadVar_cells (b := b) (o := off) (w := w) (cs := [.int .i64 y]) hR.agg hR.size rfl (fun _ => rfl) (fun j u hu => by
      rw [inw_cells (h := h) hb]
      match j with
      | 0 => simp only [List.getElem?_cons_zero, Option.some.injEq] at hu; subst hu; simpa using h0
      | j + 1 => simp at hu)
    refine ⟨(), .int .i64 y, w, h, _, ?_, HL.refl, sp, st, rfl⟩
    have this2 : (loadVar T ⟨b, off, none⟩).run C.P w = .ok (.int .i64 y) w := this
    simp [execOp, Instr.loadAt, Instr.sureAddr, hv, qAt, this2]
/-- Its beginning cut off. -/
theorem step_slice_que {T e : Nat} {x z : Operand} {v : Value} {y : Int} {xs : List Int} {k : IntKind} {S : List SP} (hu : C.P.underlying T = some (.slice e)) (hR : TyOf C.P e rInt)
    (hx : Sub (opTy E x) (rV.ty v)) (hz : Sub (opTy E z) (tV (.int k 1))) (sel : Sel L [que v (y :: xs)] S) :
    Step C ⟨d, .slice T x (some z) none none, ty, pos, af, g⟩ E L (fun v' : Value => rV.ty v') (fun v' => que v' xs :: S) :=
  Step.of_run (by intro c h; cases h) fun a w h m l sp st fr => by
    have hv : a.eval x = v := (fr.get hx).1
    have h2 : a.eval z = .int k 1 := fr.get hz
    obtain ⟨m1, m2, d12, rfl, ⟨b, off, cap, cur, rfl, rfl, hl, hm, hs, r⟩, s2⟩ := sel.one.1 st
    have hsz : ∀ w, (Go.sizeOf e).run C.P w = .ok 1 w := fun w => hR.size w
    simp only [List.length_cons] at hl hv
    refine ⟨.slice (some ⟨b, if cap = 1 then off else off + 1, none⟩) xs.length (cap - 1), .slice (some ⟨b, if cap = 1 then off else off + 1, none⟩) xs.length (cap - 1), w, h, _, ?_, HL.refl, sp, ⟨_, m2, d12, rfl, ⟨b, _, cap - 1, cur, rfl, rfl, by omega, by omega, ?_, ?_⟩, s2⟩, ⟨rfl, rfl⟩⟩
    · have h1 : (1 : Int) ≤ (xs.length : Int) + 1 := by omega
      simp [execOp, Instr.sliceAt, run_underlying hu, hv, h2, Instr.slice, Instr.sliceBounds, Instr.sliceBound, asIntOf, hsz, h1]
      by_cases hc1 : cap = 1 <;> simp [hc1, addr_add]
    · split <;> omega
    · split
      · have hx0 : xs = [] := List.eq_nil_of_length_eq_zero (by omega)
        subst hx0; rfl
      · have := congrArg (fun l => l.drop 1) r
        simp only [List.drop_take, List.drop_drop, List.length_cons, List.map_cons, List.drop_succ_cons, List.drop_zero, Nat.add_sub_cancel] at this
        exact this
/-- Something put at its end. -/
theorem step_append_que {T e : Nat} {x y : Operand} {v : Value} {xs ys : List Int} {S : List SP} (hu : C.P.underlying T = some (.slice e)) (he3 : e = 3) (hE : ElT C.P e rInt 8 0)
    (hx : Sub (opTy E x) (rV.ty v)) (hy : Sub (opTy E y) (tSl rInt ys)) (hys : ys ≠ []) (sel : Sel L [que v xs] S) (hb : (xs.length + ys.length) * 8 ≤ 140737488355328) :
    Step C ⟨d, .call { callee := .builtin .append, args := #[x, y], argTypes := #[T, T] }, ty, pos, af, g⟩ E L (fun v' : Value => rV.ty v') (fun v' => que v' (xs ++ ys) :: S) :=
  Step.of_run (by intro c h; cases h) fun a w h m l sp st fr => by
    subst he3
    have hv : a.eval x = v := (fr.get hx).1
    obtain ⟨ao, c, cs, hyv, rs, H⟩ := tSl.cells (fr.get hy)
    obtain ⟨m1, m2, d12, rfl, ⟨b', off', cap, cur, rfl, rfl, hl, hm, hs, r⟩, s2⟩ := sel.one.1 st
    obtain ⟨i, zv, hi, hz, hk, hby, hzr⟩ := hE.inf
    have hk1 : i.size = 1 := hk
    have hop : ∀ u w', (Builtin.append_ #[T, T] ty #[.slice (some ⟨b', off', none⟩) xs.length cap, .slice ao ys.length c]).run C.P w = .ok u w' →
        (execOp a.eval ⟨d, .call { callee := .builtin .append, args := #[x, y], argTypes := #[T, T] }, ty, pos, af, g⟩).run C.P w = .ok (.value u) w' := by
      intro u w' hr
      simp [execOp, resolve, invoke, builtin, hv, hyv, hr]
    have hrl := relAll_len rs
    have hro := relAll_one rs
    have hce := relAll_int' rs
    rw [show rInt.k = 1 from rfl, Nat.mul_one] at hrl
    obtain ⟨b, off, rfl, HH⟩ := H hys
    have hcell : ∀ j u, cs[j]? = some u → w.cell? ((⟨b, off, none⟩ : Addr).add j) = some u := fun j u hu' => by rw [addr_add]; exact HH.cell sp.hw hu'
    have hb' := sp.heap_own
    have hlen : (xs ++ ys).length = xs.length + ys.length := List.length_append
    by_cases hroom : xs.length + ys.length ≤ cap
    · have hr' := run_append_room_off (P := C.P) w T ty 3 i hu hi b' off' xs.length cap cur hb' ⟨b, off, none⟩ ys.length c cs (by rw [hk1]; omega) hcell hro hroom (by rw [hk1]; omega)
      rw [hk1, Nat.mul_one] at hr'
      refine ⟨_, _, _, h, (PH.one b' _).join m2, hop _ _ hr', HL.same ⟨rfl, rfl, rfl⟩, Sep.write d12 sp (fun b0 hne _ => setRow_other w b' b0 _ hne) (setRow_heap w b' cur _ 3 _ hb'), ?_, ⟨rfl, rfl⟩⟩
      refine ⟨_, m2, PH.one_disj_iff.2 (PH.one_disj_iff.1 d12), rfl, ⟨b', off', cap, _, by rw [hlen], rfl, by omega, hm, ?_, ?_⟩, s2⟩
      · simp only [List.size_toArray, List.length_append, List.length_take, List.length_drop, Array.length_toList]
        omega
      · have hcl : cur.toList.length = cur.size := Array.length_toList
        rw [List.toList_toArray, hlen, List.map_append, ← r, ← hce]
        have e1 : cur.toList.take (off' + xs.length) = cur.toList.take off' ++ (cur.toList.drop off').take xs.length := by rw [← List.take_add]
        rw [e1, List.append_assoc, List.append_assoc, List.drop_append_of_le_length (by rw [List.length_take]; omega), List.drop_of_length_le (by rw [List.length_take]; omega), List.nil_append]
        have hx1 : ((cur.toList.drop off').take xs.length).length = xs.length := by rw [List.length_take, List.length_drop]; omega
        rw [← List.append_assoc, List.take_append_of_le_length (by rw [List.length_append, hx1]; omega), List.take_of_length_le (by rw [List.length_append, hx1]; omega)]
    · have hcl : cur.toList.length = cur.size := Array.length_toList
      have hx1 : ((cur.toList.drop off').take xs.length).length = xs.length := by rw [List.length_take, List.length_drop]; omega
      have holds : ∀ j u, ((cur.toList.drop off').take xs.length)[j]? = some u → w.cell? ((⟨b', off', none⟩ : Addr).add j) = some u := fun j u hu' => by
        rw [addr_add, inw_cells (h := h) hb']
        rw [List.getElem?_take] at hu'
        split at hu'
        · simpa [List.getElem?_drop] using hu'
        · cases hu'
      have hr' := run_append_grow (P := C.P) w T ty 3 i zv hu hi hz ⟨b', off', none⟩ xs.length cap _ (by rw [hk1, hx1]; omega) holds ⟨b, off, none⟩ ys.length c cs (by rw [hk1]; omega) hcell
        (by omega) (by omega) (by rw [hby]; exact growslice_fits (by omega) hb)
      have sp2 : Sep h m2 C.r w := ⟨(by first | exact Sep.inv (by assumption) | exact Inv.mono (PH.le_join_left _ _) (Sep.inv (by assumption))), (PH.disj_join'.1 sp.hm).2, sp.hr, (PH.disj_join.1 sp.mr).2, sp.hw, fun b o e => sp.mw _ _ (PH.le_join_right d12 _ _ e), sp.rw⟩
      have hge := grownCap_ge w (xs.length + ys.length) cap 3
      refine ⟨_, _, _, h, (PH.one w.heap.size _).join m2, hop _ _ hr', HL.same (Same.drewAlloc _ _), sp2.drew.allocOwn (w := w.drew) _, ?_, ⟨rfl, rfl⟩⟩
      refine ⟨_, m2, PH.disj_symm (PH.one_disj_new sp2.mw _), rfl, ⟨w.heap.size, 0, _, _, by rw [hlen], rfl, by omega, grownCap_le_maxLen w _ _ _ (by unfold maxLen; omega), ?_, ?_⟩, s2⟩
      · have hzl : zv.cells.size = 1 := by have := rInt.len (rInt.cells (hzr h)); rw [Array.length_toList] at this; exact this
        simp only [Array.size_append, List.size_toArray, hx1, hrl, size_zeroCells, hzl]; omega
      · rw [List.drop_zero, hlen, List.map_append, ← r, ← hce]
        simp only [Array.toList_append, List.toList_toArray, List.append_assoc]
        rw [← List.append_assoc, List.take_append_of_le_length (by rw [List.length_append, hx1]; omega), List.take_of_length_le (by rw [List.length_append, hx1]; omega)]
end
section
variable {κ β : Type} [DecidableEq κ] {kv : κ → Value} {R : Rp β}
variable {C : Cx} {E : Env} {L : List SP} {d : Option Nat} {ty : Nat} {pos : String} {af : Array Edge} {g : Option (Nat × Bool)}
theorem step_len_map {T kt e : Nat} {x : Operand} {v : Value} {m : List (κ × β)} {S : List SP} (hu : C.P.underlying T = some (.map kt e)) (hx : Sub (opTy E x) (rV.ty v)) (sel : Sel L [mapOwn kv R v m] S) :
    Step1 C ⟨d, .call { callee := .builtin .len, args := #[x], argTypes := #[T] }, ty, pos, af, g⟩ E L (tV (.int .i64 m.length)) :=
  Step.of_run (by intro c h; cases h) fun a w h mm l sp st fr => by
    have hv : a.eval x = v := (fr.get hx).1
    obtain ⟨m1, m2, d12, rfl, ⟨r, es, rfl, rfl, hr⟩, s2⟩ := sel.one.1 st
    have hb := sp.heap_own
    have hl := hr.length
    exact ⟨(), .int .i64 m.length, w, h, _, by simp [execOp, resolve, invoke, builtin, Builtin.len_, hv, run_underlying hu, goInt, run_getObj_map hb, Sem.run_bind, hl], HL.refl, sp, st, rfl⟩
theorem step_lookupI {T kt e : Nat} {x y : Operand} {m : List (κ × β)} {q : κ} {z : β} {zv : Value} (K : KeyT C.P kt kv) (hu : C.P.underlying T = some (.map kt e)) (hz : ∀ w, (zeroValue e).run C.P w = .ok zv w) (hzr : ∀ h, (R.ty z).p h zv)
    (hx : Sub (opTy E x) (tMapI kv R m)) (hy : Sub (opTy E y) (tV (kv q))) : Step1 C ⟨d, .lookup T x y false, ty, pos, af, g⟩ E L (R.ty ((mget m q).getD z)) :=
  Step.of_run (by intro c h; cases h) fun a w h mm l sp st fr => by
    obtain ⟨m1, hle, ho⟩ := fr.get hx
    have h2 : a.eval y = kv q := fr.get hy
    obtain ⟨u, hu1, hrun⟩ := run_lookup (P := C.P) K hu hz hzr ho (fun b o e => sp.hw _ _ (hle _ _ e)) q false
    exact ⟨(), u, w, h, _, by simp [execOp, h2, hrun], HL.refl, sp, st, hu1⟩
end
open Go
theorem Sr {A : Ty} : Sub A A := Sub.rfl
theorem Sel.h {A : SP} {L : List SP} : Sel (A :: L) [A] L := Sel.take (Sel.none _)
theorem NF : (∀ (p : Prop) [Decidable p], (decide p = true) = p) ∧ (∀ (p : Prop) [Decidable p], (decide p = false) = ¬ p) ∧ (∀ a b : Bool, ((a && b) = true) = (a = true ∧ b = true)) ∧ (∀ a b : Bool, ((a || b) = true) = (a = true ∨ b = true)) ∧ (∀ a b : Bool, ((a && b) = false) = (a = false ∨ b = false)) ∧ (∀ a b : Bool, ((a || b) = false) = (a = false ∧ b = false)) ∧ (∀ b : Bool, ((!b) = true) = (b = false)) ∧ (∀ b : Bool, ((!b) = false) = (b = true)) ∧ (∀ a b : Int, (¬ a < b) = (b ≤ a)) ∧ (∀ a b : Int, (¬ a ≤ b) = (b < a)) ∧ ((!true) = false) ∧ ((!false) = true) :=
  ⟨fun p _ => by simp, fun p _ => by simp, fun a b => by simp, fun a b => by simp, fun a b => propext Bool.and_eq_false_iff, fun a b => by simp, fun b => by simp, fun b => by simp, fun a b => by simp, fun a b => by simp, rfl, rfl⟩
/-- What is owned is found. -/
theorem zS {L S R : List SP} (h : Sel L S R := by repeat first | exact .h | apply Sel.skip) : Sel L S R := h
theorem zO {p : Prop} (h : p := by first | omega | (dsimp only; omega) | (simp_all; omega)) : p := h
theorem zG {p : Prop} (h : p := by omega) : p := h
theorem z6 {x : Int} (h : in64 x := by unfold in64; omega) : in64 x := h
section
variable {C : Cx} {ops : Array Oper} {rest : List Oper} {Q : Exit → Act → World → Prop} {E : Env} {L : List SP} {d ty T : Nat} {pos : String} {af : Array Edge} {x : Operand} {op : Op}
theorem Js {A : Ty} (hN : Nat.blt d C.N = true) (hs : Step1 C ⟨some d, op, ty, pos, af, none⟩ E L A) (hk : JL C ops rest Q (upd E d A) L) : JL C ops (⟨some d, op, ty, pos, af, none⟩ :: rest) Q E L := JL_step rfl rfl hN hs hk
theorem Jm (hN : Nat.blt d C.N = true) (hk : JL C ops rest Q (upd E d (opTy E x)) L) : JL C ops (⟨some d, .move x, ty, pos, af, none⟩ :: rest) Q E L := JL_step rfl rfl hN (step_move Sub.rfl) hk
theorem Ja (hN : Nat.blt d C.N = true) (hk : JL C ops rest Q (upd E d (opTy E x)) L) : JL C ops (⟨some d, .assign x, ty, pos, af, none⟩ :: rest) Q E L := JL_step rfl rfl hN (step_assign Sub.rfl) hk
theorem Jl {α : Type} {R : Rp α} {y : α} (hN : Nat.blt d C.N = true) (hR : TyOf C.P T R) (hx : Sub (opTy E x) (tPtr R y)) (hk : JL C ops rest Q (upd E d (R.ty y)) L) : JL C ops (⟨some d, .load T x, ty, pos, af, none⟩ :: rest) Q E L := JL_step rfl rfl hN (step_load_ptr hR hx) hk
theorem Jr {id : Nat} {y : Code} (h : JL C ops ops.toList (Exit.then (fun a w => y.wpIn (Fw C.ro) 0 C.P Q a w) Q) E L) : J C (.seq (.region id ops false) y) Q E L := J_seq (J_region h)
theorem Jg {A : Ty} {j t : Nat} {b v : Bool} {opg : Op} {tyg : Nat} {posg : String} {afg : Array Edge} {gg : Option (Nat × Bool)} (hj : ops[j]? = some ⟨some t, opg, tyg, posg, afg, gg⟩) (hc : Sub (E t) (tV (.bool v))) (hN : Nat.blt d C.N = true)
    (hs : beqB v b = true → Step1 C ⟨some d, op, ty, pos, af, some (j, b)⟩ E L A) (hk : JL C ops rest Q (upd E d (tW (beqB v b) A)) L) : JL C ops (⟨some d, op, ty, pos, af, some (j, b)⟩ :: rest) Q E L := JL_stepG rfl hj rfl (Gd.plain hc) rfl hN hs hk
theorem Jh {A : Ty} {j t : Nat} {b v w : Bool} {opg : Op} {tyg : Nat} {posg : String} {afg : Array Edge} {gg : Option (Nat × Bool)} (hj : ops[j]? = some ⟨some t, opg, tyg, posg, afg, gg⟩) (hc : Sub (E t) (tW w (tV (.bool v)))) (hN : Nat.blt d C.N = true)
    (hs : (w && beqB v b) = true → Step1 C ⟨some d, op, ty, pos, af, some (j, b)⟩ E L A) (hk : JL C ops rest Q (upd E d (tW (w && beqB v b) A)) L) : JL C ops (⟨some d, op, ty, pos, af, some (j, b)⟩ :: rest) Q E L := JL_stepG rfl hj rfl (Gd.nest hc) rfl hN hs hk
theorem Jx {X : Type} {A : X → Ty} {L' : X → List SP} (hN : Nat.blt d C.N = true) (hs : Step C ⟨some d, op, ty, pos, af, none⟩ E L A L') (hk : ∀ x, JL C ops rest Q (upd E d (A x)) (L' x)) : JL C ops (⟨some d, op, ty, pos, af, none⟩ :: rest) Q E L := JL_stepX rfl rfl hN hs hk
theorem Ju {X : Type} {A : X → Ty} {L' : X → List SP} (hs : Step C ⟨none, op, ty, pos, af, none⟩ E L A L') (hk : ∀ x, JL C ops rest Q E (L' x)) : JL C ops (⟨none, op, ty, pos, af, none⟩ :: rest) Q E L := JL_stepU rfl rfl hs hk
theorem SubE.u {E E' : Env} {t : Nat} (h : SubE E E') : SubE E (Lg.upd E' t (E t)) := SubE.upd Sub.rfl h
theorem zU {E E' : Env} (h : SubE E E' := by (repeat refine SubE.upd Sub.rfl ?_); exact SubE.any) : SubE E E' := h
theorem Jk {A : Ty} {j t : Nat} {b v : Bool} {opg : Op} {tyg : Nat} {posg : String} {afg : Array Edge} {gg : Option (Nat × Bool)} (hj : ops[j]? = some ⟨some t, opg, tyg, posg, afg, gg⟩) (hc : Sub (E t) (tV (.bool v))) (hN : Nat.blt d C.N = true)
    (hs : Step1 C ⟨some d, op, ty, pos, af, some (j, b)⟩ E L A) (hk : JL C ops rest Q (upd E d (tW (beqB v b) A)) L) : JL C ops (⟨some d, op, ty, pos, af, some (j, b)⟩ :: rest) Q E L := Jg hj hc hN (fun _ => hs) hk
theorem Ji {A : Ty} {j t : Nat} {b v w : Bool} {opg : Op} {tyg : Nat} {posg : String} {afg : Array Edge} {gg : Option (Nat × Bool)} (hj : ops[j]? = some ⟨some t, opg, tyg, posg, afg, gg⟩) (hc : Sub (E t) (tW w (tV (.bool v)))) (hN : Nat.blt d C.N = true)
    (hs : Step1 C ⟨some d, op, ty, pos, af, some (j, b)⟩ E L A) (hk : JL C ops rest Q (upd E d (tW (w && beqB v b) A)) L) : JL C ops (⟨some d, op, ty, pos, af, some (j, b)⟩ :: rest) Q E L := Jh hj hc hN (fun _ => hs) hk
end
/-- What is owned is what is asked for, in another order. -/
theorem zL {L M : List SP} (h : LSub L M := by repeat first | exact LSub.nil | refine LSub.cons (by repeat first | exact .h | apply Sel.skip) SPs.rfl ?_) : LSub L M := h
theorem LSub.c {A B : SP} {L R M : List SP} (s : Sel L [A] R) (h : SPs A B) (k : LSub R M) : LSub L (B :: M) := LSub.cons s h k
theorem LSub.r {A : SP} {L R M : List SP} (s : Sel L [A] R) (k : LSub R M) : LSub L (A :: M) := LSub.cons s SPs.rfl k
section
variable {C : Cx} {ops : Array Oper} {k : Env → List SP → Prop} {its : List It} {E : Env} {L : List SP} {i d ty : Nat} {ts : List Nat} {op : Op} {x : Operand} {pos : String} {af : Array Edge}
theorem Mf {A : Ty} (ho : ops.toList[i]? = some ⟨some d, op, ty, pos, af, none⟩) (hN : Nat.blt d C.N = true) (hs : ∀ {L}, Step1 C ⟨some d, op, ty, pos, af, none⟩ (restr ts E) L A) (hk : JM C ops k its (upd E d A) L) : JM C ops k (⟨i, ts, true⟩ :: its) E L := JM_step ho rfl rfl hN (fun _ => hs) hk
theorem Mv (ho : ops.toList[i]? = some ⟨some d, .move x, ty, pos, af, none⟩) (hN : Nat.blt d C.N = true) (hk : JM C ops k its (upd E d (opTy (restr ts E) x)) L) : JM C ops k (⟨i, ts, true⟩ :: its) E L := JM_step ho rfl rfl hN (fun _ => step_move Sub.rfl) hk
theorem Mg {A : Ty} {j t : Nat} {b v : Bool} {opg : Op} {tyg : Nat} {posg : String} {afg : Array Edge} {gg : Option (Nat × Bool)} (ho : ops.toList[i]? = some ⟨some d, op, ty, pos, af, some (j, b)⟩) (hj : ops.toList[j]? = some ⟨some t, opg, tyg, posg, afg, gg⟩) (hc : Sub (restr ts E t) (tV (.bool v))) (hN : Nat.blt d C.N = true)
    (hs : beqB v b = true → ∀ {L}, Step1 C ⟨some d, op, ty, pos, af, some (j, b)⟩ (restr ts E) L A) (hk : JM C ops k its (upd E d (tW (beqB v b) A)) L) : JM C ops k (⟨i, ts, true⟩ :: its) E L := JM_stepG ho rfl hj rfl (Gd.plain hc) rfl hN (fun h _ => hs h) hk
theorem Mk {A : Ty} {j t : Nat} {b v : Bool} {opg : Op} {tyg : Nat} {posg : String} {afg : Array Edge} {gg : Option (Nat × Bool)} (ho : ops.toList[i]? = some ⟨some d, op, ty, pos, af, some (j, b)⟩) (hj : ops.toList[j]? = some ⟨some t, opg, tyg, posg, afg, gg⟩) (hc : Sub (restr ts E t) (tV (.bool v))) (hN : Nat.blt d C.N = true)
    (hs : ∀ {L}, Step1 C ⟨some d, op, ty, pos, af, some (j, b)⟩ (restr ts E) L A) (hk : JM C ops k its (upd E d (tW (beqB v b) A)) L) : JM C ops k (⟨i, ts, true⟩ :: its) E L := Mg ho hj hc hN (fun _ => hs) hk
end
open Go Go.Proofs
theorem ty3 : TyOf Tryz.prog 3 rInt := ⟨fun w => Tryz.isAgg3 w, fun w => Tryz.sizeOf3 w⟩
theorem zr3 : ∀ h, (rInt.ty 0).p h (Value.int .i64 0) := fun _ => rfl
theorem el3 : ElT Tryz.prog 3 rInt 8 0 := ⟨ty3, by decide, Tryz.t3, (Value.int .i64 0), by kernel_rfl, by kernel_rfl, by kernel_rfl, by kernel_rfl, zr3⟩
theorem ty4 : TyOf Tryz.prog 4 rBool := ⟨fun w => Tryz.isAgg4 w, fun w => Tryz.sizeOf4 w⟩
theorem zr4 : ∀ h, (rBool.ty false).p h (Value.bool false) := fun _ => rfl
theorem el4 : ElT Tryz.prog 4 rBool 1 false := ⟨ty4, by decide, Tryz.t4, (Value.bool false), by kernel_rfl, by kernel_rfl, by kernel_rfl, by kernel_rfl, zr4⟩
theorem ty9 : TyOf Tryz.prog 9 rStr := ⟨fun w => Tryz.isAgg9 w, fun w => Tryz.sizeOf9 w⟩
theorem zr9 : ∀ h, (rStr.ty ⟨#[]⟩).p h (Value.string ⟨#[]⟩) := fun _ => rfl
theorem el9 : ElT Tryz.prog 9 rStr 16 ⟨#[]⟩ := ⟨ty9, by decide, Tryz.t9, (Value.string ⟨#[]⟩), by kernel_rfl, by kernel_rfl, by kernel_rfl, by kernel_rfl, zr9⟩
structure GValue where
  Kind : Int
  N : Int
  Text : ByteArray
def zValue : GValue := { Kind := 0, N := 0, Text := ⟨#[]⟩ }
instance : Inhabited GValue := ⟨zValue⟩
def fsValue : List (SF GValue) := [⟨Int, 3, rInt, GValue.Kind⟩, ⟨Int, 3, rInt, GValue.N⟩, ⟨ByteArray, 9, rStr, GValue.Text⟩]
abbrev rValue : Rp GValue := rStruct fsValue
theorem ty87 : TyOf Tryz.prog 87 rValue := ⟨fun w => Tryz.isAgg87 w, fun w => Tryz.sizeOf87 w⟩
theorem so87 : StructOf Tryz.prog 87 fsValue := ⟨⟨_, Tryz.underlying87, ⟨rfl, rfl, ty3, by decide, ⟨rfl, rfl, ty3, by decide, ⟨rfl, rfl, ty9, by decide, trivial⟩⟩⟩⟩, ty87⟩
theorem zr87 : ∀ h, (rValue.ty zValue).p h (.agg #[Value.int .i64 0, Value.int .i64 0, Value.string ⟨#[]⟩]) := fun _ => ⟨_, ⟨[Value.int .i64 0], _, rfl, rfl, ⟨[Value.int .i64 0], _, rfl, rfl, ⟨[Value.string ⟨#[]⟩], _, rfl, rfl, rfl⟩⟩⟩, rfl⟩
theorem el87 : ElT Tryz.prog 87 rValue 32 zValue := ⟨ty87, by decide, Tryz.t87, (.agg #[Value.int .i64 0, Value.int .i64 0, Value.string ⟨#[]⟩]), by kernel_rfl, by kernel_rfl, by kernel_rfl, by kernel_rfl, zr87⟩
theorem ty22 : TyOf Tryz.prog 22 (rSl rValue) := ⟨fun w => Tryz.isAgg22 w, fun w => Tryz.sizeOf22 w⟩
theorem ty73 : TyOf Tryz.prog 73 (rSl (rSl rValue)) := ⟨fun w => Tryz.isAgg73 w, fun w => Tryz.sizeOf73 w⟩
theorem ty36 : TyOf Tryz.prog 36 (rSl rInt) := ⟨fun w => Tryz.isAgg36 w, fun w => Tryz.sizeOf36 w⟩
theorem ty36V : TyOf Tryz.prog 36 rV := ⟨fun w => Tryz.isAgg36 w, fun w => Tryz.sizeOf36 w⟩
theorem zr36 : ∀ h, ((rSl rInt).ty []).p h (Value.slice none 0 0) := fun _ => ⟨none, ⟨0, Nat.le_refl _⟩, rfl, fun q => absurd rfl q⟩
theorem el36 : ElT Tryz.prog 36 (rSl rInt) 24 [] := ⟨ty36, by decide, Tryz.t36, (Value.slice none 0 0), by kernel_rfl, by kernel_rfl, by kernel_rfl, by kernel_rfl, zr36⟩
theorem ty35 : TyOf Tryz.prog 35 (rSl rBool) := ⟨fun w => Tryz.isAgg35 w, fun w => Tryz.sizeOf35 w⟩
theorem zr35 : ∀ h, ((rSl rBool).ty []).p h (Value.slice none 0 0) := fun _ => ⟨none, ⟨0, Nat.le_refl _⟩, rfl, fun q => absurd rfl q⟩
theorem el35 : ElT Tryz.prog 35 (rSl rBool) 24 [] := ⟨ty35, by decide, Tryz.t35, (Value.slice none 0 0), by kernel_rfl, by kernel_rfl, by kernel_rfl, by kernel_rfl, zr35⟩
theorem ty29 : TyOf Tryz.prog 29 (rSl (rSl rBool)) := ⟨fun w => Tryz.isAgg29 w, fun w => Tryz.sizeOf29 w⟩
theorem zr29 : ∀ h, ((rSl (rSl rBool)).ty []).p h (Value.slice none 0 0) := fun _ => ⟨none, ⟨0, Nat.le_refl _⟩, rfl, fun q => absurd rfl q⟩
structure GAtom where
  Table : Int
  Cols : List Int
  Terms : List Int
  Key : Int
def zAtom : GAtom := { Table := 0, Cols := [], Terms := [], Key := 0 }
instance : Inhabited GAtom := ⟨zAtom⟩
def fsAtom : List (SF GAtom) := [⟨Int, 3, rInt, GAtom.Table⟩, ⟨List Int, 36, (rSl rInt), GAtom.Cols⟩, ⟨List Int, 36, (rSl rInt), GAtom.Terms⟩, ⟨Int, 3, rInt, GAtom.Key⟩]
abbrev rAtom : Rp GAtom := rStruct fsAtom
theorem ty38 : TyOf Tryz.prog 38 rAtom := ⟨fun w => Tryz.isAgg38 w, fun w => Tryz.sizeOf38 w⟩
theorem so38 : StructOf Tryz.prog 38 fsAtom := ⟨⟨_, Tryz.underlying38, ⟨rfl, rfl, ty3, by decide, ⟨rfl, rfl, ty36, by decide, ⟨rfl, rfl, ty36, by decide, ⟨rfl, rfl, ty3, by decide, trivial⟩⟩⟩⟩⟩, ty38⟩
theorem zr38 : ∀ h, (rAtom.ty zAtom).p h (.agg #[Value.int .i64 0, Value.slice none 0 0, Value.slice none 0 0, Value.int .i64 0]) := fun _ => ⟨_, ⟨[Value.int .i64 0], _, rfl, rfl, ⟨[Value.slice none 0 0], _, rfl, ⟨_, rfl, none, ⟨0, Nat.le_refl _⟩, rfl, fun q => absurd rfl q⟩, ⟨[Value.slice none 0 0], _, rfl, ⟨_, rfl, none, ⟨0, Nat.le_refl _⟩, rfl, fun q => absurd rfl q⟩, ⟨[Value.int .i64 0], _, rfl, rfl, rfl⟩⟩⟩⟩, rfl⟩
theorem el38 : ElT Tryz.prog 38 rAtom 64 zAtom := ⟨ty38, by decide, Tryz.t38, (.agg #[Value.int .i64 0, Value.slice none 0 0, Value.slice none 0 0, Value.int .i64 0]), by kernel_rfl, by kernel_rfl, by kernel_rfl, by kernel_rfl, zr38⟩
theorem ty23 : TyOf Tryz.prog 23 (rSl rAtom) := ⟨fun w => Tryz.isAgg23 w, fun w => Tryz.sizeOf23 w⟩
structure GConj where
  Vars : Int
  Consts : List GValue
  Atoms : List GAtom
def zConj : GConj := { Vars := 0, Consts := [], Atoms := [] }
instance : Inhabited GConj := ⟨zConj⟩
def fsConj : List (SF GConj) := [⟨Int, 3, rInt, GConj.Vars⟩, ⟨List GValue, 22, (rSl rValue), GConj.Consts⟩, ⟨List GAtom, 23, (rSl rAtom), GConj.Atoms⟩]
abbrev rConj : Rp GConj := rStruct fsConj
theorem ty25 : TyOf Tryz.prog 25 rConj := ⟨fun w => Tryz.isAgg25 w, fun w => Tryz.sizeOf25 w⟩
theorem so25 : StructOf Tryz.prog 25 fsConj := ⟨⟨_, Tryz.underlying25, ⟨rfl, rfl, ty3, by decide, ⟨rfl, rfl, ty22, by decide, ⟨rfl, rfl, ty23, by decide, trivial⟩⟩⟩⟩, ty25⟩
theorem zr25 : ∀ h, (rConj.ty zConj).p h (.agg #[Value.int .i64 0, Value.slice none 0 0, Value.slice none 0 0]) := fun _ => ⟨_, ⟨[Value.int .i64 0], _, rfl, rfl, ⟨[Value.slice none 0 0], _, rfl, ⟨_, rfl, none, ⟨0, Nat.le_refl _⟩, rfl, fun q => absurd rfl q⟩, ⟨[Value.slice none 0 0], _, rfl, ⟨_, rfl, none, ⟨0, Nat.le_refl _⟩, rfl, fun q => absurd rfl q⟩, rfl⟩⟩⟩, rfl⟩
structure GSide where
  Var : Int
  Col : Int
  Value : GValue
def zSide : GSide := { Var := 0, Col := 0, Value := zValue }
instance : Inhabited GSide := ⟨zSide⟩
def fsSide : List (SF GSide) := [⟨Int, 3, rInt, GSide.Var⟩, ⟨Int, 3, rInt, GSide.Col⟩, ⟨GValue, 87, rValue, GSide.Value⟩]
abbrev rSide : Rp GSide := rStruct fsSide
theorem ty91 : TyOf Tryz.prog 91 rSide := ⟨fun w => Tryz.isAgg91 w, fun w => Tryz.sizeOf91 w⟩
theorem so91 : StructOf Tryz.prog 91 fsSide := ⟨⟨_, Tryz.underlying91, ⟨rfl, rfl, ty3, by decide, ⟨rfl, rfl, ty3, by decide, ⟨rfl, rfl, ty87, by decide, trivial⟩⟩⟩⟩, ty91⟩
structure GTest where
  Left : GSide
  Op : Int
  Right : GSide
  Add : Int
def zTest : GTest := { Left := zSide, Op := 0, Right := zSide, Add := 0 }
instance : Inhabited GTest := ⟨zTest⟩
def fsTest : List (SF GTest) := [⟨GSide, 91, rSide, GTest.Left⟩, ⟨Int, 3, rInt, GTest.Op⟩, ⟨GSide, 91, rSide, GTest.Right⟩, ⟨Int, 3, rInt, GTest.Add⟩]
abbrev rTest : Rp GTest := rStruct fsTest
theorem ty93 : TyOf Tryz.prog 93 rTest := ⟨fun w => Tryz.isAgg93 w, fun w => Tryz.sizeOf93 w⟩
theorem so93 : StructOf Tryz.prog 93 fsTest := ⟨⟨_, Tryz.underlying93, ⟨rfl, rfl, ty91, by decide, ⟨rfl, rfl, ty3, by decide, ⟨rfl, rfl, ty91, by decide, ⟨rfl, rfl, ty3, by decide, trivial⟩⟩⟩⟩⟩, ty93⟩
theorem zr93 : ∀ h, (rTest.ty zTest).p h (.agg #[Value.int .i64 0, Value.int .i64 0, Value.int .i64 0, Value.int .i64 0, Value.string ⟨#[]⟩, Value.int .i64 0, Value.int .i64 0, Value.int .i64 0, Value.int .i64 0, Value.int .i64 0, Value.string ⟨#[]⟩, Value.int .i64 0]) := fun _ => ⟨_, ⟨[Value.int .i64 0, Value.int .i64 0, Value.int .i64 0, Value.int .i64 0, Value.string ⟨#[]⟩], _, rfl, ⟨[Value.int .i64 0], _, rfl, rfl, ⟨[Value.int .i64 0], _, rfl, rfl, ⟨[Value.int .i64 0, Value.int .i64 0, Value.string ⟨#[]⟩], _, rfl, ⟨[Value.int .i64 0], _, rfl, rfl, ⟨[Value.int .i64 0], _, rfl, rfl, ⟨[Value.string ⟨#[]⟩], _, rfl, rfl, rfl⟩⟩⟩, rfl⟩⟩⟩, ⟨[Value.int .i64 0], _, rfl, rfl, ⟨[Value.int .i64 0, Value.int .i64 0, Value.int .i64 0, Value.int .i64 0, Value.string ⟨#[]⟩], _, rfl, ⟨[Value.int .i64 0], _, rfl, rfl, ⟨[Value.int .i64 0], _, rfl, rfl, ⟨[Value.int .i64 0, Value.int .i64 0, Value.string ⟨#[]⟩], _, rfl, ⟨[Value.int .i64 0], _, rfl, rfl, ⟨[Value.int .i64 0], _, rfl, rfl, ⟨[Value.string ⟨#[]⟩], _, rfl, rfl, rfl⟩⟩⟩, rfl⟩⟩⟩, ⟨[Value.int .i64 0], _, rfl, rfl, rfl⟩⟩⟩⟩, rfl⟩
theorem el93 : ElT Tryz.prog 93 rTest 112 zTest := ⟨ty93, by decide, Tryz.t93, (.agg #[Value.int .i64 0, Value.int .i64 0, Value.int .i64 0, Value.int .i64 0, Value.string ⟨#[]⟩, Value.int .i64 0, Value.int .i64 0, Value.int .i64 0, Value.int .i64 0, Value.int .i64 0, Value.string ⟨#[]⟩, Value.int .i64 0]), by kernel_rfl, by kernel_rfl, by kernel_rfl, by kernel_rfl, zr93⟩
theorem ty43 : TyOf Tryz.prog 43 (rSl rTest) := ⟨fun w => Tryz.isAgg43 w, fun w => Tryz.sizeOf43 w⟩
theorem ty85 : TyOf Tryz.prog 85 (rSl rStr) := ⟨fun w => Tryz.isAgg85 w, fun w => Tryz.sizeOf85 w⟩
structure GAttr where
  Name : ByteArray
  Kind : Int
  Was : List ByteArray
  Default : GValue
def zAttr : GAttr := { Name := ⟨#[]⟩, Kind := 0, Was := [], Default := zValue }
instance : Inhabited GAttr := ⟨zAttr⟩
def fsAttr : List (SF GAttr) := [⟨ByteArray, 9, rStr, GAttr.Name⟩, ⟨Int, 3, rInt, GAttr.Kind⟩, ⟨List ByteArray, 85, (rSl rStr), GAttr.Was⟩, ⟨GValue, 87, rValue, GAttr.Default⟩]
abbrev rAttr : Rp GAttr := rStruct fsAttr
theorem ty89 : TyOf Tryz.prog 89 rAttr := ⟨fun w => Tryz.isAgg89 w, fun w => Tryz.sizeOf89 w⟩
theorem so89 : StructOf Tryz.prog 89 fsAttr := ⟨⟨_, Tryz.underlying89, ⟨rfl, rfl, ty9, by decide, ⟨rfl, rfl, ty3, by decide, ⟨rfl, rfl, ty85, by decide, ⟨rfl, rfl, ty87, by decide, trivial⟩⟩⟩⟩⟩, ty89⟩
theorem zr89 : ∀ h, (rAttr.ty zAttr).p h (.agg #[Value.string ⟨#[]⟩, Value.int .i64 0, Value.slice none 0 0, Value.int .i64 0, Value.int .i64 0, Value.string ⟨#[]⟩]) := fun _ => ⟨_, ⟨[Value.string ⟨#[]⟩], _, rfl, rfl, ⟨[Value.int .i64 0], _, rfl, rfl, ⟨[Value.slice none 0 0], _, rfl, ⟨_, rfl, none, ⟨0, Nat.le_refl _⟩, rfl, fun q => absurd rfl q⟩, ⟨[Value.int .i64 0, Value.int .i64 0, Value.string ⟨#[]⟩], _, rfl, ⟨[Value.int .i64 0], _, rfl, rfl, ⟨[Value.int .i64 0], _, rfl, rfl, ⟨[Value.string ⟨#[]⟩], _, rfl, rfl, rfl⟩⟩⟩, rfl⟩⟩⟩⟩, rfl⟩
theorem el89 : ElT Tryz.prog 89 rAttr 80 zAttr := ⟨ty89, by decide, Tryz.t89, (.agg #[Value.string ⟨#[]⟩, Value.int .i64 0, Value.slice none 0 0, Value.int .i64 0, Value.int .i64 0, Value.string ⟨#[]⟩]), by kernel_rfl, by kernel_rfl, by kernel_rfl, by kernel_rfl, zr89⟩
theorem ty44 : TyOf Tryz.prog 44 (rSl rAttr) := ⟨fun w => Tryz.isAgg44 w, fun w => Tryz.sizeOf44 w⟩
theorem zr44 : ∀ h, ((rSl rAttr).ty []).p h (Value.slice none 0 0) := fun _ => ⟨none, ⟨0, Nat.le_refl _⟩, rfl, fun q => absurd rfl q⟩
structure GTable where
  Name : ByteArray
  Attrs : List GAttr
  Key : List Int
def zTable : GTable := { Name := ⟨#[]⟩, Attrs := [], Key := [] }
instance : Inhabited GTable := ⟨zTable⟩
def fsTable : List (SF GTable) := [⟨ByteArray, 9, rStr, GTable.Name⟩, ⟨List GAttr, 44, (rSl rAttr), GTable.Attrs⟩, ⟨List Int, 36, (rSl rInt), GTable.Key⟩]
abbrev rTable : Rp GTable := rStruct fsTable
theorem ty76 : TyOf Tryz.prog 76 rTable := ⟨fun w => Tryz.isAgg76 w, fun w => Tryz.sizeOf76 w⟩
theorem so76 : StructOf Tryz.prog 76 fsTable := ⟨⟨_, Tryz.underlying76, ⟨rfl, rfl, ty9, by decide, ⟨rfl, rfl, ty44, by decide, ⟨rfl, rfl, ty36, by decide, trivial⟩⟩⟩⟩, ty76⟩
theorem zr76 : ∀ h, (rTable.ty zTable).p h (.agg #[Value.string ⟨#[]⟩, Value.slice none 0 0, Value.slice none 0 0]) := fun _ => ⟨_, ⟨[Value.string ⟨#[]⟩], _, rfl, rfl, ⟨[Value.slice none 0 0], _, rfl, ⟨_, rfl, none, ⟨0, Nat.le_refl _⟩, rfl, fun q => absurd rfl q⟩, ⟨[Value.slice none 0 0], _, rfl, ⟨_, rfl, none, ⟨0, Nat.le_refl _⟩, rfl, fun q => absurd rfl q⟩, rfl⟩⟩⟩, rfl⟩
theorem el76 : ElT Tryz.prog 76 rTable 64 zTable := ⟨ty76, by decide, Tryz.t76, (.agg #[Value.string ⟨#[]⟩, Value.slice none 0 0, Value.slice none 0 0]), by kernel_rfl, by kernel_rfl, by kernel_rfl, by kernel_rfl, zr76⟩
theorem ty39 : TyOf Tryz.prog 39 (rSl rTable) := ⟨fun w => Tryz.isAgg39 w, fun w => Tryz.sizeOf39 w⟩
structure GSchema where
  Tables : List GTable
def zSchema : GSchema := { Tables := [] }
instance : Inhabited GSchema := ⟨zSchema⟩
def fsSchema : List (SF GSchema) := [⟨List GTable, 39, (rSl rTable), GSchema.Tables⟩]
abbrev rSchema : Rp GSchema := rStruct fsSchema
theorem ty41 : TyOf Tryz.prog 41 rSchema := ⟨fun w => Tryz.isAgg41 w, fun w => Tryz.sizeOf41 w⟩
theorem so41 : StructOf Tryz.prog 41 fsSchema := ⟨⟨_, Tryz.underlying41, ⟨rfl, rfl, ty39, by decide, trivial⟩⟩, ty41⟩
theorem zr41 : ∀ h, (rSchema.ty zSchema).p h (.agg #[Value.slice none 0 0]) := fun _ => ⟨_, ⟨[Value.slice none 0 0], _, rfl, ⟨_, rfl, none, ⟨0, Nat.le_refl _⟩, rfl, fun q => absurd rfl q⟩, rfl⟩, rfl⟩
/-- Plans of a depth. -/
abbrev GPlan : Type := GPl GAttr GTest
def cPl : PlT := ⟨3, 42, 43, 36, 44⟩
abbrev rPlan (n : Nat) : Rp GPlan := rPl cPl rAttr rTest n
theorem ty46 {n : Nat} : TyOf Tryz.prog 46 (rPlan n) := rPl_ty cPl rAttr rTest (fun w => Tryz.isAgg46 w) (fun w => Tryz.sizeOf46 w) n
theorem ty42 {n : Nat} : TyOf Tryz.prog 42 (rSl (rPlan n)) := ⟨fun w => Tryz.isAgg42 w, fun w => Tryz.sizeOf42 w⟩
theorem so46 {n : Nat} : StructOf Tryz.prog 46 (fsPl cPl rAttr rTest (rPlan n)) := ⟨⟨_, Tryz.underlying46, ⟨rfl, rfl, ty3, by decide, ⟨rfl, rfl, ty3, by decide, ⟨rfl, rfl, ty42, (by show (1 : Nat) ≠ 0; decide), ⟨rfl, rfl, ty43, by decide, ⟨rfl, rfl, ty36, by decide, ⟨rfl, rfl, ty3, by decide, ⟨rfl, rfl, ty3, by decide, ⟨rfl, rfl, ty44, by decide, trivial⟩⟩⟩⟩⟩⟩⟩⟩⟩, ty46 (n := n + 1)⟩
theorem zr46 {n : Nat} : ∀ h, ((rPlan (n + 1)).ty GPl.zero).p h (.agg #[Value.int .i64 0, Value.int .i64 0, Value.slice none 0 0, Value.slice none 0 0, Value.slice none 0 0, Value.int .i64 0, Value.int .i64 0, Value.slice none 0 0]) := fun _ => ⟨_, ⟨[Value.int .i64 0], _, rfl, rfl, ⟨[Value.int .i64 0], _, rfl, rfl, ⟨[Value.slice none 0 0], _, rfl, ⟨_, rfl, none, ⟨0, Nat.le_refl _⟩, rfl, fun q => absurd rfl q⟩, ⟨[Value.slice none 0 0], _, rfl, ⟨_, rfl, none, ⟨0, Nat.le_refl _⟩, rfl, fun q => absurd rfl q⟩, ⟨[Value.slice none 0 0], _, rfl, ⟨_, rfl, none, ⟨0, Nat.le_refl _⟩, rfl, fun q => absurd rfl q⟩, ⟨[Value.int .i64 0], _, rfl, rfl, ⟨[Value.int .i64 0], _, rfl, rfl, ⟨[Value.slice none 0 0], _, rfl, ⟨_, rfl, none, ⟨0, Nat.le_refl _⟩, rfl, fun q => absurd rfl q⟩, rfl⟩⟩⟩⟩⟩⟩⟩⟩, rfl⟩
theorem el46 {n : Nat} : ElT Tryz.prog 46 (rPlan (n + 1)) 128 GPl.zero := ⟨ty46, (by rw [rPl_k]; decide), Tryz.t46, (.agg #[Value.int .i64 0, Value.int .i64 0, Value.slice none 0 0, Value.slice none 0 0, Value.slice none 0 0, Value.int .i64 0, Value.int .i64 0, Value.slice none 0 0]), by kernel_rfl, by kernel_rfl, by kernel_rfl, by kernel_rfl, zr46⟩
structure Gplan where
  Plan : GPlan
  schema : GSchema
def fsplan (n : Nat) : List (SF Gplan) := [⟨GPlan, 46, rPlan (n + 1), Gplan.Plan⟩, ⟨GSchema, 41, rSchema, Gplan.schema⟩]
abbrev rplan (n : Nat) : Rp Gplan := rStruct (fsplan n)
theorem ty217 {n : Nat} : TyOf Tryz.prog 217 (rplan n) := ⟨fun w => Tryz.isAgg217 w, fun w => Tryz.sizeOf217 w⟩
theorem so217 {n : Nat} : StructOf Tryz.prog 217 (fsplan n) := ⟨⟨_, Tryz.underlying217, ⟨rfl, rfl, ty46, (by show (rPl _ _ _ _).k ≠ 0; rw [rPl_k]; decide), ⟨rfl, rfl, ty41, by decide, trivial⟩⟩⟩, ty217⟩
theorem ty210 : TyOf Tryz.prog 210 rV := ⟨fun w => Tryz.isAgg210 w, fun w => Tryz.sizeOf210 w⟩
theorem ty211 : TyOf Tryz.prog 211 rV := ⟨fun w => Tryz.isAgg211 w, fun w => Tryz.sizeOf211 w⟩
theorem ty79 : TyOf Tryz.prog 79 rV := ⟨fun w => Tryz.isAgg79 w, fun w => Tryz.sizeOf79 w⟩
structure Gkind where
  kids : Int
  columns : Value
  rows : Value
  rest : Value
def zkind : Gkind := { kids := 0, columns := Value.nilFunc, rows := Value.nilFunc, rest := Value.nilFunc }
instance : Inhabited Gkind := ⟨zkind⟩
def fskind : List (SF Gkind) := [⟨Int, 3, rInt, Gkind.kids⟩, ⟨Value, 210, rV, Gkind.columns⟩, ⟨Value, 211, rV, Gkind.rows⟩, ⟨Value, 79, rV, Gkind.rest⟩]
abbrev rkind : Rp Gkind := rStruct fskind
theorem ty213 : TyOf Tryz.prog 213 rkind := ⟨fun w => Tryz.isAgg213 w, fun w => Tryz.sizeOf213 w⟩
theorem so213 : StructOf Tryz.prog 213 fskind := ⟨⟨_, Tryz.underlying213, ⟨rfl, rfl, ty3, by decide, ⟨rfl, rfl, ty210, by decide, ⟨rfl, rfl, ty211, by decide, ⟨rfl, rfl, ty79, by decide, trivial⟩⟩⟩⟩⟩, ty213⟩
theorem zr213 : ∀ h, (rkind.ty zkind).p h (.agg #[Value.int .i64 0, Value.nilFunc, Value.nilFunc, Value.nilFunc]) := fun _ => ⟨_, ⟨[Value.int .i64 0], _, rfl, rfl, ⟨[Value.nilFunc], _, rfl, ⟨rfl, rfl⟩, ⟨[Value.nilFunc], _, rfl, ⟨rfl, rfl⟩, ⟨[Value.nilFunc], _, rfl, ⟨rfl, rfl⟩, rfl⟩⟩⟩⟩, rfl⟩
structure Gplace where
  up : Int
  value : GValue
  fixed : Bool
def zplace : Gplace := { up := 0, value := zValue, fixed := false }
instance : Inhabited Gplace := ⟨zplace⟩
def fsplace : List (SF Gplace) := [⟨Int, 3, rInt, Gplace.up⟩, ⟨GValue, 87, rValue, Gplace.value⟩, ⟨Bool, 4, rBool, Gplace.fixed⟩]
abbrev rplace : Rp Gplace := rStruct fsplace
theorem ty168 : TyOf Tryz.prog 168 rplace := ⟨fun w => Tryz.isAgg168 w, fun w => Tryz.sizeOf168 w⟩
theorem so168 : StructOf Tryz.prog 168 fsplace := ⟨⟨_, Tryz.underlying168, ⟨rfl, rfl, ty3, by decide, ⟨rfl, rfl, ty87, by decide, ⟨rfl, rfl, ty4, by decide, trivial⟩⟩⟩⟩, ty168⟩
theorem zr168 : ∀ h, (rplace.ty zplace).p h (.agg #[Value.int .i64 0, Value.int .i64 0, Value.int .i64 0, Value.string ⟨#[]⟩, Value.bool false]) := fun _ => ⟨_, ⟨[Value.int .i64 0], _, rfl, rfl, ⟨[Value.int .i64 0, Value.int .i64 0, Value.string ⟨#[]⟩], _, rfl, ⟨[Value.int .i64 0], _, rfl, rfl, ⟨[Value.int .i64 0], _, rfl, rfl, ⟨[Value.string ⟨#[]⟩], _, rfl, rfl, rfl⟩⟩⟩, ⟨[Value.bool false], _, rfl, rfl, rfl⟩⟩⟩, rfl⟩
theorem el168 : ElT Tryz.prog 168 rplace 48 zplace := ⟨ty168, by decide, Tryz.t168, (.agg #[Value.int .i64 0, Value.int .i64 0, Value.int .i64 0, Value.string ⟨#[]⟩, Value.bool false]), by kernel_rfl, by kernel_rfl, by kernel_rfl, by kernel_rfl, zr168⟩
theorem ty105 : TyOf Tryz.prog 105 (rSl rplace) := ⟨fun w => Tryz.isAgg105 w, fun w => Tryz.sizeOf105 w⟩
structure Gbuilder where
  schema : GSchema
  tables : List Int
  start : List Int
  places : List Gplace
  self : List Int
  bad : Bool
def zbuilder : Gbuilder := { schema := zSchema, tables := [], start := [], places := [], self := [], bad := false }
instance : Inhabited Gbuilder := ⟨zbuilder⟩
def fsbuilder : List (SF Gbuilder) := [⟨GSchema, 41, rSchema, Gbuilder.schema⟩, ⟨List Int, 36, (rSl rInt), Gbuilder.tables⟩, ⟨List Int, 36, (rSl rInt), Gbuilder.start⟩, ⟨List Gplace, 105, (rSl rplace), Gbuilder.places⟩, ⟨List Int, 36, (rSl rInt), Gbuilder.self⟩, ⟨Bool, 4, rBool, Gbuilder.bad⟩]
abbrev rbuilder : Rp Gbuilder := rStruct fsbuilder
theorem ty107 : TyOf Tryz.prog 107 rbuilder := ⟨fun w => Tryz.isAgg107 w, fun w => Tryz.sizeOf107 w⟩
theorem so107 : StructOf Tryz.prog 107 fsbuilder := ⟨⟨_, Tryz.underlying107, ⟨rfl, rfl, ty41, by decide, ⟨rfl, rfl, ty36, by decide, ⟨rfl, rfl, ty36, by decide, ⟨rfl, rfl, ty105, by decide, ⟨rfl, rfl, ty36, by decide, ⟨rfl, rfl, ty4, by decide, trivial⟩⟩⟩⟩⟩⟩⟩, ty107⟩
structure GPlace where
  Atom : Int
  Col : Int
  To : Int
  Const : GValue
  Fixed : Bool
def zPlace : GPlace := { Atom := 0, Col := 0, To := 0, Const := zValue, Fixed := false }
instance : Inhabited GPlace := ⟨zPlace⟩
def fsPlace : List (SF GPlace) := [⟨Int, 3, rInt, GPlace.Atom⟩, ⟨Int, 3, rInt, GPlace.Col⟩, ⟨Int, 3, rInt, GPlace.To⟩, ⟨GValue, 87, rValue, GPlace.Const⟩, ⟨Bool, 4, rBool, GPlace.Fixed⟩]
abbrev rPlace : Rp GPlace := rStruct fsPlace
theorem ty121 : TyOf Tryz.prog 121 rPlace := ⟨fun w => Tryz.isAgg121 w, fun w => Tryz.sizeOf121 w⟩
theorem so121 : StructOf Tryz.prog 121 fsPlace := ⟨⟨_, Tryz.underlying121, ⟨rfl, rfl, ty3, by decide, ⟨rfl, rfl, ty3, by decide, ⟨rfl, rfl, ty3, by decide, ⟨rfl, rfl, ty87, by decide, ⟨rfl, rfl, ty4, by decide, trivial⟩⟩⟩⟩⟩⟩, ty121⟩
theorem zr121 : ∀ h, (rPlace.ty zPlace).p h (.agg #[Value.int .i64 0, Value.int .i64 0, Value.int .i64 0, Value.int .i64 0, Value.int .i64 0, Value.string ⟨#[]⟩, Value.bool false]) := fun _ => ⟨_, ⟨[Value.int .i64 0], _, rfl, rfl, ⟨[Value.int .i64 0], _, rfl, rfl, ⟨[Value.int .i64 0], _, rfl, rfl, ⟨[Value.int .i64 0, Value.int .i64 0, Value.string ⟨#[]⟩], _, rfl, ⟨[Value.int .i64 0], _, rfl, rfl, ⟨[Value.int .i64 0], _, rfl, rfl, ⟨[Value.string ⟨#[]⟩], _, rfl, rfl, rfl⟩⟩⟩, ⟨[Value.bool false], _, rfl, rfl, rfl⟩⟩⟩⟩⟩, rfl⟩
theorem el121 : ElT Tryz.prog 121 rPlace 64 zPlace := ⟨ty121, by decide, Tryz.t121, (.agg #[Value.int .i64 0, Value.int .i64 0, Value.int .i64 0, Value.int .i64 0, Value.int .i64 0, Value.string ⟨#[]⟩, Value.bool false]), by kernel_rfl, by kernel_rfl, by kernel_rfl, by kernel_rfl, zr121⟩
theorem ty114 : TyOf Tryz.prog 114 (rSl rPlace) := ⟨fun w => Tryz.isAgg114 w, fun w => Tryz.sizeOf114 w⟩
structure GBuilder where
  S : GSchema
  Tables : List Int
  Places : List GPlace
  Self : List Int
  Bad : Bool
def zBuilder : GBuilder := { S := zSchema, Tables := [], Places := [], Self := [], Bad := false }
instance : Inhabited GBuilder := ⟨zBuilder⟩
structure GStats where
  Rows : List Int
  Distinct : List (List Int)
def zStats : GStats := { Rows := [], Distinct := [] }
instance : Inhabited GStats := ⟨zStats⟩
structure GbuilderW where
  schema : GSchema
  tables : Value
  start : Value
  places : Value
  self : Value
  bad : Bool
def fsbuilderW : List (SF GbuilderW) := [⟨GSchema, 41, rSchema, GbuilderW.schema⟩, ⟨Value, 36, rV, GbuilderW.tables⟩, ⟨Value, 36, rV, GbuilderW.start⟩, ⟨Value, 105, rV, GbuilderW.places⟩, ⟨Value, 36, rV, GbuilderW.self⟩, ⟨Bool, 4, rBool, GbuilderW.bad⟩]
abbrev rbuilderW : Rp GbuilderW := rStruct fsbuilderW
theorem ty36V107 : TyOf Tryz.prog 36 rV := ⟨fun w => Tryz.isAgg36 w, fun w => Tryz.sizeOf36 w⟩
theorem ty105V107 : TyOf Tryz.prog 105 rV := ⟨fun w => Tryz.isAgg105 w, fun w => Tryz.sizeOf105 w⟩
theorem ty107W : TyOf Tryz.prog 107 rbuilderW := ⟨fun w => Tryz.isAgg107 w, fun w => Tryz.sizeOf107 w⟩
theorem so107W : StructOf Tryz.prog 107 fsbuilderW := ⟨⟨_, Tryz.underlying107, ⟨rfl, rfl, ty41, by decide, ⟨rfl, rfl, ty36V107, by decide, ⟨rfl, rfl, ty36V107, by decide, ⟨rfl, rfl, ty105V107, by decide, ⟨rfl, rfl, ty36V107, by decide, ⟨rfl, rfl, ty4, by decide, trivial⟩⟩⟩⟩⟩⟩⟩, ty107W⟩
def GbuilderW.up (x : GbuilderW) (atables : List Int) (astart : List Int) (aplaces : List Gplace) (aself : List Int) : Gbuilder := { schema := x.schema, tables := atables, start := astart, places := aplaces, self := aself, bad := x.bad }
theorem up107W {h h' : PH} {x : GbuilderW} (atables : List Int) (astart : List Int) (aplaces : List Gplace) (aself : List Int) {cs : List Value} (l : h.le h') (vtables : (tSl rInt atables).p h' x.tables) (vstart : (tSl rInt astart).p h' x.start) (vplaces : (tSl rplace aplaces).p h' x.places) (vself : (tSl rInt aself).p h' x.self) (r : SF.rel h x fsbuilderW cs) : SF.rel h' (x.up atables astart aplaces aself) fsbuilder cs := by
  obtain ⟨c0, _, rfl, r0, c1, _, rfl, r1, c2, _, rfl, r2, c3, _, rfl, r3, c4, _, rfl, r4, c5, _, rfl, r5, rz⟩ := r
  exact ⟨c0, _, rfl, (rSchema).mono l r0, ⟨c1, _, rfl, ⟨_, r1.1, vtables⟩, ⟨c2, _, rfl, ⟨_, r2.1, vstart⟩, ⟨c3, _, rfl, ⟨_, r3.1, vplaces⟩, ⟨c4, _, rfl, ⟨_, r4.1, vself⟩, ⟨c5, _, rfl, (rBool).mono l r5, rz⟩⟩⟩⟩⟩⟩
structure GBuilderW where
  S : GSchema
  Tables : Value
  Places : Value
  Self : Value
  Bad : Bool
def fsBuilderW : List (SF GBuilderW) := [⟨GSchema, 41, rSchema, GBuilderW.S⟩, ⟨Value, 36, rV, GBuilderW.Tables⟩, ⟨Value, 114, rV, GBuilderW.Places⟩, ⟨Value, 36, rV, GBuilderW.Self⟩, ⟨Bool, 4, rBool, GBuilderW.Bad⟩]
abbrev rBuilderW : Rp GBuilderW := rStruct fsBuilderW
theorem ty36V116 : TyOf Tryz.prog 36 rV := ⟨fun w => Tryz.isAgg36 w, fun w => Tryz.sizeOf36 w⟩
theorem ty114V116 : TyOf Tryz.prog 114 rV := ⟨fun w => Tryz.isAgg114 w, fun w => Tryz.sizeOf114 w⟩
theorem ty116W : TyOf Tryz.prog 116 rBuilderW := ⟨fun w => Tryz.isAgg116 w, fun w => Tryz.sizeOf116 w⟩
theorem so116W : StructOf Tryz.prog 116 fsBuilderW := ⟨⟨_, Tryz.underlying116, ⟨rfl, rfl, ty41, by decide, ⟨rfl, rfl, ty36V116, by decide, ⟨rfl, rfl, ty114V116, by decide, ⟨rfl, rfl, ty36V116, by decide, ⟨rfl, rfl, ty4, by decide, trivial⟩⟩⟩⟩⟩⟩, ty116W⟩
structure GConjW where
  Vars : Int
  Consts : Value
  Atoms : Value
def zConjW : GConjW := { Vars := 0, Consts := Value.slice none 0 0, Atoms := Value.slice none 0 0 }
def fsConjW : List (SF GConjW) := [⟨Int, 3, rInt, GConjW.Vars⟩, ⟨Value, 22, rV, GConjW.Consts⟩, ⟨Value, 23, rV, GConjW.Atoms⟩]
abbrev rConjW : Rp GConjW := rStruct fsConjW
theorem ty22V25 : TyOf Tryz.prog 22 rV := ⟨fun w => Tryz.isAgg22 w, fun w => Tryz.sizeOf22 w⟩
theorem ty23V25 : TyOf Tryz.prog 23 rV := ⟨fun w => Tryz.isAgg23 w, fun w => Tryz.sizeOf23 w⟩
theorem ty25W : TyOf Tryz.prog 25 rConjW := ⟨fun w => Tryz.isAgg25 w, fun w => Tryz.sizeOf25 w⟩
theorem so25W : StructOf Tryz.prog 25 fsConjW := ⟨⟨_, Tryz.underlying25, ⟨rfl, rfl, ty3, by decide, ⟨rfl, rfl, ty22V25, by decide, ⟨rfl, rfl, ty23V25, by decide, trivial⟩⟩⟩⟩, ty25W⟩
theorem zr25W : ∀ h, (rConjW.ty zConjW).p h (.agg #[Value.int .i64 0, Value.slice none 0 0, Value.slice none 0 0]) := fun _ => ⟨_, ⟨[Value.int .i64 0], _, rfl, rfl, ⟨[Value.slice none 0 0], _, rfl, ⟨rfl, rfl⟩, ⟨[Value.slice none 0 0], _, rfl, ⟨rfl, rfl⟩, rfl⟩⟩⟩, rfl⟩
def GConjW.up (x : GConjW) (aConsts : List GValue) (aAtoms : List GAtom) : GConj := { Vars := x.Vars, Consts := aConsts, Atoms := aAtoms }
theorem up25W {h h' : PH} {x : GConjW} (aConsts : List GValue) (aAtoms : List GAtom) {cs : List Value} (l : h.le h') (vConsts : (tSl rValue aConsts).p h' x.Consts) (vAtoms : (tSl rAtom aAtoms).p h' x.Atoms) (r : SF.rel h x fsConjW cs) : SF.rel h' (x.up aConsts aAtoms) fsConj cs := by
  obtain ⟨c0, _, rfl, r0, c1, _, rfl, r1, c2, _, rfl, r2, rz⟩ := r
  exact ⟨c0, _, rfl, (rInt).mono l r0, ⟨c1, _, rfl, ⟨_, r1.1, vConsts⟩, ⟨c2, _, rfl, ⟨_, r2.1, vAtoms⟩, rz⟩⟩⟩
structure GAtomW where
  Table : Int
  Cols : Value
  Terms : Value
  Key : Int
def zAtomW : GAtomW := { Table := 0, Cols := Value.slice none 0 0, Terms := Value.slice none 0 0, Key := 0 }
def fsAtomW : List (SF GAtomW) := [⟨Int, 3, rInt, GAtomW.Table⟩, ⟨Value, 36, rV, GAtomW.Cols⟩, ⟨Value, 36, rV, GAtomW.Terms⟩, ⟨Int, 3, rInt, GAtomW.Key⟩]
abbrev rAtomW : Rp GAtomW := rStruct fsAtomW
theorem ty36V38 : TyOf Tryz.prog 36 rV := ⟨fun w => Tryz.isAgg36 w, fun w => Tryz.sizeOf36 w⟩
theorem ty38W : TyOf Tryz.prog 38 rAtomW := ⟨fun w => Tryz.isAgg38 w, fun w => Tryz.sizeOf38 w⟩
theorem so38W : StructOf Tryz.prog 38 fsAtomW := ⟨⟨_, Tryz.underlying38, ⟨rfl, rfl, ty3, by decide, ⟨rfl, rfl, ty36V38, by decide, ⟨rfl, rfl, ty36V38, by decide, ⟨rfl, rfl, ty3, by decide, trivial⟩⟩⟩⟩⟩, ty38W⟩
theorem zr38W : ∀ h, (rAtomW.ty zAtomW).p h (.agg #[Value.int .i64 0, Value.slice none 0 0, Value.slice none 0 0, Value.int .i64 0]) := fun _ => ⟨_, ⟨[Value.int .i64 0], _, rfl, rfl, ⟨[Value.slice none 0 0], _, rfl, ⟨rfl, rfl⟩, ⟨[Value.slice none 0 0], _, rfl, ⟨rfl, rfl⟩, ⟨[Value.int .i64 0], _, rfl, rfl, rfl⟩⟩⟩⟩, rfl⟩
def GAtomW.up (x : GAtomW) (aCols : List Int) (aTerms : List Int) : GAtom := { Table := x.Table, Cols := aCols, Terms := aTerms, Key := x.Key }
theorem up38W {h h' : PH} {x : GAtomW} (aCols : List Int) (aTerms : List Int) {cs : List Value} (l : h.le h') (vCols : (tSl rInt aCols).p h' x.Cols) (vTerms : (tSl rInt aTerms).p h' x.Terms) (r : SF.rel h x fsAtomW cs) : SF.rel h' (x.up aCols aTerms) fsAtom cs := by
  obtain ⟨c0, _, rfl, r0, c1, _, rfl, r1, c2, _, rfl, r2, c3, _, rfl, r3, rz⟩ := r
  exact ⟨c0, _, rfl, (rInt).mono l r0, ⟨c1, _, rfl, ⟨_, r1.1, vCols⟩, ⟨c2, _, rfl, ⟨_, r2.1, vTerms⟩, ⟨c3, _, rfl, (rInt).mono l r3, rz⟩⟩⟩⟩
end Lg
