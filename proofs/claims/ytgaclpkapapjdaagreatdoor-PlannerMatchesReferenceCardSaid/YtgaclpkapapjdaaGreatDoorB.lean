/- A part of the proof of the law PlannerMatchesReference: the program logic. -/
import Derived.Test.YtgaclpkapapjdaaGreatDoorA
import Derived.ChangeArms
import Derived.ChangeKeysEq
import Derived.WideShapes
import Derived.Carry
import Derived.Laws.StructEq
import Derived.Shelf.Small.Strs
import Derived.Lib.SliceRun
import Derived.Lib.ConvBytes
import Derived.Lib.LazyBuf
import Derived.Test.YtgaclpkapapjdaaGreatDoorProg
import Derived.Shelf.Sort.Plain
import Derived.Shelf.Slices.In.SortNone
import Derived.Shelf.GgSortFunc.Insertion
import Derived.Shelf.Slices.CompactS
import Derived.Ground.NamesProg
set_option linter.unusedVariables false
set_option linter.unusedSimpArgs false
set_option linter.unusedSectionVars false
set_option maxHeartbeats 16000000
namespace Lg
open Go
def cH (W : World) : PH := fun b => W.heap[b]?
theorem td (W : World) : (cH W).inw W := fun _ _ e => e
theorem TyOf.cells {α : Type} {P : Program} {T : Nat} {R : Rp α} (h : TyOf P T R) (W : World) : P.cellsOf T = R.k := by
 have h1 := h.size W
 cases hi : P.info? T with
 | none => simp [Go.sizeOf, typeInfo, hi] at h1
 | some i =>
   rw [run_sizeOf W hi] at h1
   injection h1
section
variable {H : Type} {enc : TypeId × Value -> H} {P : Program} {W : World}
structure Rd {α H : Type} (enc : TypeId × Value -> H) (P : Program) (W : World) (t : Nat) (R : Rp α) : Prop where
 k : P.cellsOf t = R.k
 rd : ∀ fuel cs x, DataW.trod enc P W 0 (fun _ => true) true fuel t cs = some x -> ∃ y, R.rel (cH W) y cs
theorem Rd.int {t : Nat} (hT : TyOf P t bg) (hu : P.underlying t = some (.int .i64)) : Rd enc P W t bg where
 k := hT.cells W
 rd := fun _ _ _ h => by
  obtain ⟨n, rfl, _, _⟩ := DataW.trod_int hu h
  exact ⟨n, rfl⟩
theorem Rd.str {t : Nat} (hT : TyOf P t eH) (hu : P.underlying t = some .string) : Rd enc P W t eH where
 k := hT.cells W
 rd := fun _ _ _ h => by
  obtain ⟨n, rfl, _, _⟩ := DataW.trod_string hu h
  exact ⟨n, rfl⟩
theorem np {b off k : Nat} {cs : List Value} (hk : 0 < k) (hl : cs.length = k) (hc : ∀ j, j < k -> W.cell? ⟨b, off + j, none⟩ = cs[j]?) : Holds (cH W) b off cs := by
 have h0 := hc 0 hk
 have h0' : cs[0]? = some (cs[0]'(by omega)) := List.getElem?_eq_getElem (by omega)
 rw [h0'] at h0
 unfold World.cell? at h0
 simp only at h0
 split at h0
 · rename_i c e fr hb
   refine ⟨c, e, fr, hb, fun j v hv => ?_⟩
   have hj : j < k := by have := (List.getElem?_eq_some_iff.1 hv).1; omega
   have h1 := hc j hj
   unfold World.cell? at h1
   simp only [hb] at h1
   simpa [hv] using h1
 · cases h0
theorem Rd.sl {α : Type} {t e : Nat} {R : Rp α} (hT : TyOf P t (rSl R)) (hu : P.underlying t = some (.slice e)) (hR : Rd enc P W e R) (hk : 0 < R.k) : Rd enc P W t (rSl R) where
 k := hT.cells W
 rd := fun fuel cs x h => by
  rcases DataW.trod_slice hu h with ⟨rfl, _⟩ | ⟨a, len, cap, elems, rest, n, _, rfl, _, _, hlc, _, hlen, hel, _, _⟩
  · exact ⟨[], _, rfl, none, ⟨0, Nat.le_refl _⟩, rfl, fun q => absurd rfl q⟩
  have hall : ∀ i : Fin len, ∃ y cs, W.cells? 0 (a.add (i.1 * R.k)) R.k = some cs /\ R.rel (cH W) y cs := fun i => by
   have h1 := hel i.1 i.2
   rw [List.getElem?_eq_getElem (by omega : i.1 < elems.length), Option.bind_eq_some_iff] at h1
   obtain ⟨cs, h2, h3⟩ := h1
   obtain ⟨y, hy⟩ := hR.rd _ _ _ h3
   rw [hR.k] at h2
   exact ⟨y, cs, h2, hy⟩
  let f : Fin len -> α := fun i => Classical.choose (hall i)
  have hf : ∀ i : Fin len, ∃ cs, W.cells? 0 (a.add (i.1 * R.k)) R.k = some cs /\ R.rel (cH W) (f i) cs := fun i => Classical.choose_spec (hall i)
  refine ⟨List.ofFn f, _, rfl, some a, ⟨cap, by rw [List.length_ofFn]; exact hlc⟩, by show Value.slice (some a) len cap = Value.slice (some a) (List.ofFn f).length cap; rw [List.length_ofFn], fun hne => ?_⟩
  have hl0 : 0 < len := by
   rcases Nat.eq_zero_or_pos len with h0 | h0
   · exfalso; apply hne; subst h0; simp
   · exact h0
  have hsp : a.spot = none := by
   obtain ⟨cs, h1, h2⟩ := hf ⟨0, hl0⟩
   obtain ⟨_, h3, h4⟩ := World.cells?_some h1
   have h5 := h4 0 hk
   rw [List.getElem?_eq_getElem (by omega : 0 < cs.length)] at h5
   have h6 : (a.add (0 * R.k)).add 0 = a := by simp [Addr.add]
   rw [h6] at h5
   exact World.cell?_spot h5
  obtain ⟨b, off, sp⟩ := a
  simp only at hsp
  subst hsp
  refine ⟨b, off, rfl, fun i y hy => ?_⟩
  have hi : i < len := by have := (List.getElem?_eq_some_iff.1 hy).1; simpa using this
  have hy' : f ⟨i, hi⟩ = y := by
   rw [List.getElem?_eq_getElem (by simpa using hi)] at hy
   simpa using hy
  obtain ⟨cs, h1, h2⟩ := hf ⟨i, hi⟩
  obtain ⟨_, h3, h4⟩ := World.cells?_some h1
  rw [hy'] at h2
  refine ⟨cs, np hk h3 fun j hj => ?_, h2⟩
  have := h4 j hj
  simp only [cK] at this
  exact this
theorem DY {α : Type} {h : PH} {x : α} : ∀ {fs : List (SF α)} {cs : List Value}, cs.length = SF.width fs -> (∀ (i : Nat) (f : SF α), fs[i]? = some f -> f.R.rel h (f.get x) ((cs.drop (SF.off fs i)).take f.R.k)) -> SF.rel h x fs cs
 | [], cs, hl, _ => List.eq_nil_of_length_eq_zero hl
 | f :: fs, cs, hl, hr => by
   refine ⟨cs.take f.R.k, cs.drop f.R.k, (List.take_append_drop _ _).symm, by simpa [SF.off] using hr 0 f rfl, DY (by simp [hl, SF.width]) fun i g hg => ?_⟩
   have := hr (i + 1) g (by simpa using hg)
   simpa [SF.off, List.drop_drop] using this
theorem dW {α : Type} {t : Nat} {fs : List (SF α)} (S : StructOf P t fs) {fuel : Nat} {cs : List Value} {x : DataW H × List MemPlace} (h : DataW.trod enc P W 0 (fun _ => true) true fuel t cs = some x) :
  cs.length = SF.width fs /\ ∀ (i : Nat) (f : SF α), fs[i]? = some f -> ∃ n z, DataW.trod enc P W 0 (fun _ => true) true n f.T ((cs.drop (SF.off fs i)).take f.R.k) = some z := by
 obtain ⟨fls, hu, hl⟩ := S.lays
 obtain ⟨xs, n, _, _, hlen, hxs, hf⟩ := DataW.trod_struct hu h
 refine ⟨hlen.trans (S.ty.cells W), fun i f hi => ?_⟩
 obtain ⟨fl, h1, h2, h3, h4, _⟩ := hl.get hi
 have h1' : fls[i]? = some fl := by simpa using h1
 have h5 := hf i fl h1'
 have hlt : i < xs.length := by rw [hxs]; exact (Array.getElem?_eq_some_iff.1 h1').1
 rw [List.getElem?_eq_getElem hlt, h2, h3, h4.cells W, Nat.zero_add] at h5
 exact ⟨n, _, h5⟩
theorem Rd.at {α β : Type} {t : Nat} {fs : List (SF α)} {cs : List Value} {i : Nat} {T : Nat} {R : Rp β} {get : α -> β} (hf : ∀ (i : Nat) (f : SF α), fs[i]? = some f -> ∃ n z, DataW.trod enc P W 0 (fun _ => true) true n f.T ((cs.drop (SF.off fs i)).take f.R.k) = some z)
  (hR : Rd enc P W T R) (hi : fs[i]? = some ⟨β, T, R, get⟩) : ∃ y, R.rel (cH W) y ((cs.drop (SF.off fs i)).take R.k) := by
 obtain ⟨n, z, h⟩ := hf i _ hi
 exact hR.rd _ _ _ h
end
theorem xp {W W' : World} {h' : PH} (hl : (cH W).le h') (hw : h'.inw W') (s : Same W W') : Go.RowKit.Below W.heap.size W W' where
 os := s.os
 tape := s.tape
 output := s.output
 size := by
  rcases Nat.eq_zero_or_pos W.heap.size with h0 | h0
  · omega
  · have h1 : W.heap[W.heap.size - 1]? = some (W.heap[W.heap.size - 1]'(by omega)) := Array.getElem?_eq_getElem (by omega)
    have h2 := hw _ _ (hl _ _ h1)
    have := (Array.getElem?_eq_some_iff.1 h2).1
    omega
 block := fun k hk => by
  have h1 : W.heap[k]? = some (W.heap[k]'hk) := Array.getElem?_eq_getElem hk
  rw [h1]
  exact hw _ _ (hl _ _ h1)
def JN (C : Cx) (ops : Array Oper) (k : Env -> Prop) (L : List SP) : List It -> Env -> Prop
 | [], E => k E
 | ⟨i, ts, _⟩ :: its, E => ∃ o A, ops[i]? = some o /\ ltO o.dst C.N = true /\ StepG C ops o (cQ ts E) L A /\ JN C ops k L its (ll E o.dst A)
section
variable {C : Cx} {ops : Array Oper} {k : Env -> Prop} {its : List It} {E : Env} {L : List SP} {i : Nat} {ts : List Nat} {f : Bool} {o : Oper}
theorem yC (h : k E) : JN C ops k L [] E := h
theorem cS {A : Ty} {d : Nat} (ho : ops.toList[i]? = some o) (hg : o.guard = none) (hd : o.dst = some d) (hN : Nat.blt d C.N = true) (hs : bs C o (cQ ts E) L A)
  (hk : JN C ops k L its (upd E d A)) : JN C ops k L (⟨i, ts, f⟩ :: its) E :=
 ⟨o, A, by simpa using ho, by rw [hd]; exact hN, .inl ⟨hg, hs⟩, by rw [hd]; exact hk⟩
end
theorem uz {C : Cx} {ops : Array Oper} {k : Env -> Prop} {L : List SP} : ∀ {l1 : List It} {b : It} {l2 : List It} {E : Env},
  (∀ a ∈ l1, fU (ke ops.toList a) (ke ops.toList b) = true) -> (∀ a ∈ l1, a.i ∉ cv ops.toList b.i) -> JN C ops k L (l1 ++ b :: l2) E -> JN C ops k L (b :: (l1 ++ l2)) E
 | [], _, _, _, _, _, h => h
 | ⟨ia, ta, fa⟩ :: l1, ⟨ib, tb, fb⟩, l2, E, hp, hn, h => by
   obtain ⟨oa, A, ha, hla, hsa, hk⟩ := h
   have ih := uz (fun a m => hp a (by simp [m])) (fun a m => hn a (by simp [m])) hk
   have hpair := hp ⟨ia, ta, fa⟩ (by simp)
   have hna := hn ⟨ia, ta, fa⟩ (by simp)
   have hda : dV ops.toList ia = oa.dst := by simp [dV, ha]
   have hpair' : inO oa.dst tb = false /\ inO (dV ops.toList ib) ta = false /\ eqO oa.dst (dV ops.toList ib) = false := by
    simp only [fU, ke, hda, Bool.and_eq_true, Bool.or_eq_true, Bool.not_eq_true', dC] at hpair
    rcases hpair.2 with q | q
    · exact absurd q hna
    · exact ⟨q.1.1, q.1.2, q.2⟩
   obtain ⟨p1, p2, p3⟩ := hpair'
   obtain ⟨ob, B, hb, hlb, hsb, hkb⟩ := ih
   have hdb : dV ops.toList ib = ob.dst := by simp [dV, hb]
   rw [hdb] at p2 p3
   refine ⟨ob, B, hb, hlb, hsb.same (bP p1), oa, A, ha, hla, hsa.same (bP p2).symm, ?_⟩
   rw [dI p3] at hkb
   exact hkb
theorem xq {C : Cx} {ops : Array Oper} {Q : Exit -> Act -> World -> Prop} {L : List SP} : ∀ (fuel : Nat) (its : List It) (listed : Array Bool) (E : Env), its.length <= fuel -> listed.size = ops.size ->
  (∀ i, i < ops.size -> (listed.getD i true = false ↔ ∃ x ∈ its, x.i = i)) -> fg (its.map (ke ops.toList)) = true -> (∀ x ∈ its, x.i < ops.size /\ ∀ e ∈ cv ops.toList x.i, e < x.i) ->
  (∀ x ∈ its, x.free = true) -> JN C ops (fun E' => K C (Q .normal) E' L) L its E -> K C (fun a w => wpAnyIn (Fw C.ro) 0 C.P .any ops Q fuel listed a w) E L := by
 intro fuel
 induction fuel with
 | zero =>
   intro its listed E hlen hsz hin _ _ _ hJ
   have : its = [] := List.length_eq_zero_iff.1 (by omega)
   subst this
   intro a w p
   refine ⟨?_, hJ a w p⟩
   rw [List.eq_nil_iff_forall_not_mem]
   intro i hi
   obtain ⟨h1, h2, _⟩ := dt.1 hi
   obtain ⟨x, hx, _⟩ := (hin i h1).1 h2
   cases hx
 | succ fuel ih =>
   intro its listed E hlen hsz hin hok hlt hfr hJ
   -- if nothing is ready, nothing is left
   have hdone : Region.ready .any ops listed = [] -> its = [] := by
    intro hr
    have hall : ∀ i, i < ops.size -> listed.getD i true = true := by
     intro i
     induction i using Nat.strongRecOn with
     | _ i ihi =>
       intro hi
       cases hl : listed.getD i true with
       | true => rfl
       | false =>
         have ho : ops[i]? = some ops[i] := Array.getElem?_eq_getElem hi
         obtain ⟨x, hx, hxi⟩ := (hin i hi).1 hl
         have h1 := (hlt x hx).2
         rw [hxi] at h1
         have hm : i ∈ Region.ready .any ops listed := dt.2 ⟨hi, hl, _, ho, fun e he => by
          have he' : e < i := h1 e (by simpa [cv, hi] using he)
          rw [eQ (by omega) false true]
          exact ihi e he' (by omega)⟩
         rw [hr] at hm; cases hm
    match its with
    | [] => rfl
    | x :: _ =>
      have h1 := (hlt x (by simp)).1
      have := (hin x.i h1).2 ⟨x, by simp, rfl⟩
      rw [hall x.i h1] at this; cases this
   intro a w p
   refine ⟨fun hr => ?_, fun i hi => ?_⟩
   · have := hdone hr
     subst this
     exact hJ a w p
   · obtain ⟨hlti, hnl, o, ho, haft⟩ := dt.1 hi
     obtain ⟨b, hb, hbi⟩ := (hin i hlti).1 hnl
     obtain ⟨l1, l2, rfl⟩ := List.append_of_mem hb
     have hoi : ops.toList[b.i]? = some o := by rw [hbi]; simpa using ho
     have haft' : cv ops.toList b.i = aftN o := by simp only [cv, hoi]
     -- what is left is not listed
     have hleft : ∀ x ∈ l1 ++ b :: l2, x.i ∉ cv ops.toList b.i := fun x hx hm => by
      rw [haft'] at hm
      have h1 := haft _ hm
      have h2 := (hlt x hx).1
      have h3 := (hin x.i h2).2 ⟨x, hx, rfl⟩
      rw [eQ (by omega) true false, h1] at h3; cases h3
     rw [List.map_append, List.map_cons] at hok
     have hpair : ∀ a ∈ l1, fU (ke ops.toList a) (ke ops.toList b) = true := fun a ha => km hok _ (List.mem_map_of_mem ha)
     have hfree : ∀ a ∈ l1, a.free = true := fun x hx => hfr x (by simp [hx])
     have hJ' := uz hpair (fun a ha => hleft a (by simp [ha])) hJ
     have hsub : ∀ x ∈ l1 ++ l2, x ∈ l1 ++ b :: l2 := fun x hx => by
      rcases List.mem_append.1 hx with hx | hx <;> simp [hx]
     have hpairs : ∀ x ∈ l1 ++ l2, x.i ≠ b.i := fun x hx => by
      rcases List.mem_append.1 hx with hx | hx
      · have := hpair x hx
        simp only [fU, ke, Bool.and_eq_true, Bool.not_eq_true'] at this
        intro e; rw [e] at this; simp at this
      · have h2 : ∀ {l1 : List Pl} {b : Pl} {l2 : List Pl}, fg (l1 ++ b :: l2) = true -> fg (b :: l2) = true := by
          intro l1
          induction l1 with
          | nil => intro b l2 h; exact h
          | cons c l1 ih => intro b l2 h; simp only [List.cons_append, fg, Bool.and_eq_true] at h; exact ih h.2
        have := h2 hok
        simp only [fg, Bool.and_eq_true, List.all_eq_true] at this
        have := this.1.1 _ (List.mem_map_of_mem hx)
        simp only [fU, ke, Bool.and_eq_true, Bool.not_eq_true'] at this
        intro e; rw [e] at this; simp at this
     have rest : ∀ E', JN C ops (fun E' => K C (Q .normal) E' L) L (l1 ++ l2) E' -> K C (fun a w => wpAnyIn (Fw C.ro) 0 C.P .any ops Q fuel (listed.setIfInBounds i true) a w) E' L := by
      intro E' hk
      refine ih (l1 ++ l2) _ E' (by simp only [List.length_append, List.length_cons] at hlen ⊢; omega) (by simpa using hsz) (fun j hj => ?_) (by
       rw [List.map_append]
       exact lJ hok fun x hx => (List.mem_map.1 hx).elim fun y hy => hy.2 ▸ hfree y hy.1) (fun x hx => hlt x (hsub x hx)) (fun x hx => hfr x (hsub x hx)) hk
      by_cases hji : i = j
      · subst hji
        rw [de (by omega)]
        constructor
        · intro h; cases h
        · rintro ⟨x, hx, e⟩
          exact absurd (e.trans hbi.symm) (hpairs x hx)
      · rw [dS hji, hin j hj]
        constructor
        · rintro ⟨x, hx, e⟩
          refine ⟨x, ?_, e⟩
          rcases List.mem_append.1 hx with hx | hx
          · simp [hx]
          · rcases List.mem_cons.1 hx with rfl | hx
            · exact absurd (hbi.symm.trans e) hji
            · simp [hx]
        · rintro ⟨x, hx, e⟩
          exact ⟨x, hsub x hx, e⟩
     obtain ⟨bi, tb, fb⟩ := b
     simp only at hbi hoi
     subst hbi
     have ho' : ops[bi]? = some o := ho
     obtain ⟨o', A, ho2, hl, hs, hk⟩ := hJ'
     rw [ho'] at ho2; cases ho2
     exact hs.op ho' hl (rest _ hk) a w p
theorem uA {C : Cx} {id : Nat} {ops : Array Oper} (its : List It) {Q : Exit -> Act -> World -> Prop} {E : Env} {L : List SP} (hmix : C.P.follows .mixedOrders = true) (hok : okM ops.toList its = true) (hfr : its.all (·.free) = true)
  (hJ : JN C ops (fun E' => K C (Q .normal) E' L) L its E) : J C (.region id ops true) Q E L := fun a w p => by
 refine wpIn_region_draw (fun t => ?_)
 simp only [Region.schedule, hmix, Bool.true_or, if_true]
 refine wpAnyIn_sound ops.size t _ a _ ?_
 simp only [okM, Bool.and_eq_true, List.all_eq_true, List.any_eq_true] at hok
 obtain ⟨⟨⟨h1, h2⟩, h3⟩, h4⟩ := hok
 have h5 : ∀ x ∈ its, x.i < ops.size := fun x hx => by have := h4 x hx; simpa using this
 have hnd : (its.map (·.i)).Nodup := by
  have : ∀ {l : List It}, fg (l.map (ke ops.toList)) = true -> (l.map (·.i)).Nodup := by
   intro l
   induction l with
   | nil => intro _; simp
   | cons x l ih =>
     intro h
     simp only [List.map_cons, fg, Bool.and_eq_true, List.all_eq_true] at h
     simp only [List.map_cons, List.nodup_cons]
     refine ⟨fun hm => ?_, ih h.2⟩
     obtain ⟨y, hy, e⟩ := List.mem_map.1 hm
     have := h.1.1 _ (List.mem_map_of_mem hy)
     simp only [fU, ke, Bool.and_eq_true, Bool.not_eq_true'] at this
     rw [e] at this; simp at this
  exact this h1
 have hlen : its.length <= ops.size := by
  have := nT hnd (n := ops.size) (fun i hi => by
   obtain ⟨x, hx, rfl⟩ := List.mem_map.1 hi
   exact h5 x hx)
  simpa using this
 refine xq ops.size its _ E hlen (by simp) (fun i hi => ?_) h1 (fun x hx => ⟨h5 x hx, fun e he => ?_⟩) (fun x hx => List.all_eq_true.1 hfr x hx) hJ a _ ?_
 · constructor
   · intro _
     obtain ⟨x, hx, e⟩ := h3 i (by simpa using hi)
     exact ⟨x, hx, (Nat.eq_of_beq_eq_true e).symm⟩
   · intro _; simp [Array.getD_eq_getD_getElem?, hi]
 · have := h2 _ (List.mem_map_of_mem hx) e he
   simpa [ke] using this
 · obtain ⟨hsz, hds, h, m, hl, sp, st, fr⟩ := p
   exact ⟨hsz, hds, h, m, hl.trans (HL.same (Same.drew _)), ⟨(by first | exact Sep.inv (by assumption) | exact Inv.mono (Dy _ _) (Sep.inv (by assumption))), sp.hm, sp.hr, sp.mr, sp.hw, sp.mw, sp.rw⟩, st, fr⟩
section
variable {C : Cx} {E : Env} {L : List SP} {d : Option Nat} {ty : Nat} {pos : String} {af : Array Edge} {g : Option (Nat × Bool)}
theorem eR {α : Type} {T e n : Nat} {R : Rp α} {x y : Operand} {xs : List α} {k : IntKind} {i : Int} (hu : C.P.underlying T = some (.slice e)) (hR : TyOf C.P e R)
  (hx : Sub (opTy E x) (tSl R xs)) (hy : Sub (opTy E y) (tV (.int k i))) (hi : i = n) (hn : n <= xs.length) :
  bs C ⟨d, .slice T x none (some y) none, ty, pos, af, g⟩ E L (tSl R (xs.take n)) :=
 DC (by intro c h; cases h) fun a w h m l sp st fr => by
  obtain ⟨ao, ⟨cap, hlc⟩, hv, H⟩ := fr.get hx
  have hv : a.eval x = .slice ao xs.length cap := hv
  have h2 : a.eval y = .int k i := fr.get hy
  subst hi
  refine ⟨(), .slice (if cap = 0 then ao else ao.map (·.add 0)) n cap, w, h, _, ?_, HL.refl, sp, st, ⟨_, ⟨cap, by rw [List.length_take, Nat.min_eq_left hn]; omega⟩, by show Value.slice _ n cap = Value.slice _ (xs.take n).length cap; rw [List.length_take, Nat.min_eq_left hn], fun hne => ?_⟩⟩
  · simp [execOp, Instr.sliceAt, run_underlying hu, hv, h2, Instr.slice, Instr.sliceBounds, Instr.sliceBound, asIntOf, hR.size, show n <= cap by omega]
  · have h0 : 0 < n := by
      rcases Nat.eq_zero_or_pos n with q | q
      · subst q; exact absurd (by simp) hne
      · exact q
    obtain ⟨b, off, ea, H'⟩ := H (fun e => by rw [e] at hn; simp at hn; omega)
    refine ⟨b, off, by rw [if_neg (by omega), ea]; simp [cK], fun j z hz => H' j z ?_⟩
    rw [List.getElem?_take] at hz
    split at hz
    · exact hz
    · cases hz
end
abbrev toB (s : List UInt8) : ByteArray := ⟨s.toArray⟩
abbrev ofB (b : ByteArray) : List UInt8 := b.data.toList
theorem nY (b : ByteArray) : toB (ofB b) = b := by cases b; simp
theorem zu (s : List UInt8) : ofB (toB s) = s := by simp
theorem iB {h : PH} : ∀ {xs : List ByteArray} {cs : List Value}, relAll eH h xs cs ↔ cs = xs.map (.string ·)
 | [], cs => Iff.rfl
 | x :: xs, cs => by
   constructor
   · rintro ⟨c1, c2, rfl, r1, r2⟩
     have r1 : c1 = [.string x] := r1
     rw [iB.1 r2, r1]; rfl
   · rintro rfl
     exact ⟨[.string x], xs.map (.string ·), rfl, rfl, iB.2 rfl⟩
section
variable {κ β : Type} [DecidableEq κ] {kv : κ -> Value} {R : Rp β}
variable {C : Cx} {E : Env} {L : List SP} {d : Option Nat} {ty : Nat} {pos : String} {af : Array Edge} {g : Option (Nat × Bool)}
theorem dT {T kt e : Nat} {x y u : Operand} {v : Value} {m : List (κ × β)} {S : List SP} {q : κ} {z : β} (K : KeyT C.P kt kv) (hu : C.P.underlying T = some (.map kt e))
  (hx : Sub (opTy E x) (tV v)) (hy : Sub (opTy E y) (tV (kv q))) (hz : Sub (opTy E u) (R.ty z)) (sel : Sel L [fF kv R v m] S) :
  Step C ⟨d, .insert T x y u, ty, pos, af, g⟩ E L (fun _ : Unit => tAny) (fun _ => fF kv R v (mput m q z) :: S) :=
 fun a w h mm hn l sp st fr next Q hk => by
  have h2 := (iW (C := C) (d := d) (ty := ty) (pos := pos) (af := af) (g := g) K hu hx hy hz sel a w h mm hn l sp st fr next Q hk).2
  refine ⟨fun _ _ => trivial, ?_⟩
  rw [Fw_round, Oper.semAt_eq _ _ _ (by intro c h; cases h)] at h2 ⊢
  exact h2
end
section
variable {C : Cx} {E : Env} {L : List SP} {d : Option Nat} {ty : Nat} {pos : String} {af : Array Edge} {g : Option (Nat × Bool)}
theorem uB {s : ByteArray} {i : Nat} (h : i < s.size) : s[i]? = some (s.data.toList.getD i 0) := by
 have h2 : i < s.data.size := h
 rw [getElem?_pos s i h]
 simp [List.getD, h2]
 rw [Array.getElem?_eq_getElem h2]; rfl
theorem cO {T i : Nat} {x y : Operand} {s : ByteArray} {k : IntKind} {n : Int} (hu : C.P.underlying T = some .string) (hx : Sub (opTy E x) (tV (.string s))) (hy : Sub (opTy E y) (tV (.int k n))) (hi : n = i) (hl : i < s.size) :
  bs C ⟨d, .index T x y, ty, pos, af, g⟩ E L (tV (.int .u8 (nth (gK s) i))) :=
 DF (by intro c h; cases h) fun a w h hh f => by
  have h1 : a.eval x = .string s := f.get hx
  have h2 : a.eval y = .int k n := f.get hy
  subst hi
  have e : nth (gK s) i = ((s.data.toList.getD i 0).toNat : Int) := by
   have hl' : i < (gK s).length := by rw [qW]; exact hl
   rw [nth_get hl']
   have h2 : i < s.data.toList.length := hl
   have h3 : i < s.data.size := hl
   simp only [gK, List.getElem_map]
   rw [List.getD_eq_getElem?_getD, List.getElem?_eq_getElem h2]
   rfl
  refine ⟨.int .u8 (nth (gK s) i), ?_, rfl⟩
  rw [e]
  simp [execOp, Instr.index, h1, h2, run_underlying hu, asIntOf, uB hl]
theorem lA {T U : Nat} {x y : Operand} {a b : Int} (hx : Sub (opTy E x) (tV (.int .i64 a))) (hy : Sub (opTy E y) (tV (.int .i64 b))) (ha : 0 <= a) (hb : 0 < b) (hr : fe (a / b)) :
  bs C ⟨d, .binOp .quo T x y U, ty, pos, af, g⟩ E L (tV (.int .i64 (a / b))) := eo hx hy (fun P w => by
 have h1 : a.tdiv b = a / b := Int.tdiv_eq_ediv_of_nonneg ha
 have h2 : ¬ b = 0 := by omega
 simp [binOp, Op.intDiv, h1, h2, gr hr])
theorem xr {T U : Nat} {x y : Operand} {k k' : IntKind} {a b : Int} (hx : Sub (opTy E x) (tV (.int k a))) (hy : Sub (opTy E y) (tV (.int k' b))) :
  bs C ⟨d, .call { callee := .builtin .max, args := #[x, y], argTypes := #[T, U] }, ty, pos, af, g⟩ E L (tV (.int k (if b > a then b else a))) :=
 DF (by intro c h; cases h) fun a' w h hw f => by
  have h1 : a'.eval x = .int k a := f.get hx
  have h2 : a'.eval y = .int k' b := f.get hy
  refine ⟨.int k (if b > a then b else a), ?_, rfl⟩
  simp [execOp, resolve, invoke, builtin, Builtin.max_, Builtin.max2, h1, h2]
  try split <;> simp_all
theorem sq {T U : Nat} {x y : Operand} {k k' : IntKind} {a b : Int} (hx : Sub (opTy E x) (tV (.int k a))) (hy : Sub (opTy E y) (tV (.int k' b))) :
  bs C ⟨d, .call { callee := .builtin .min, args := #[x, y], argTypes := #[T, U] }, ty, pos, af, g⟩ E L (tV (.int k (if b < a then b else a))) :=
 DF (by intro c h; cases h) fun a' w h hw f => by
  have h1 : a'.eval x = .int k a := f.get hx
  have h2 : a'.eval y = .int k' b := f.get hy
  refine ⟨.int k (if b < a then b else a), ?_, rfl⟩
  simp [execOp, resolve, invoke, builtin, Builtin.min_, Builtin.min2, h1, h2]
  try split <;> simp_all
theorem d8 {α : Type} {T U e : Nat} {R : Rp α} {x : Operand} {xs : List α} (hu : C.P.underlying T = some (.slice e)) (hx : Sub (opTy E x) (tSl R xs)) :
  Step (X := { b : Bool // b = true -> xs = [] }) C ⟨d, .binOp .eql T x (.const (.slice none 0 0)) U, ty, pos, af, g⟩ E L (fun b => tV (.bool b.1)) (fun _ => L) :=
 DC (by intro c h; cases h) fun a w h m l sp st fr => by
  obtain ⟨ao, cap, hv, H⟩ := fr.get hx
  refine ⟨⟨ao.isNone, fun hb => ?_⟩, .bool ao.isNone, w, h, m, ?_, HL.refl, sp, st, rfl⟩
  · by_cases hne : xs = []
    · exact hne
    · obtain ⟨b, off, rfl, _⟩ := H hne
      cases hb
  · have he : ∀ w, (eqGuard .eql T x (.const (.slice none 0 0)) (a.eval x) (.slice none 0 0)).run C.P w = .ok () w := by intro w; rw [hv]; simp [eqGuard]
    have h2 : a.eval (.const (.slice none 0 0)) = .slice none 0 0 := rfl
    have hr := Lib.run_eql_slice_nil (P := C.P) w T e ao xs.length cap 0 0 hu
    rw [hv] at he
    simp [execOp, hv, h2, Sem.run_bind, he, hr]
theorem lm {α : Type} {T e n : Nat} {R : Rp α} {x y : Operand} {xs : List α} {k : IntKind} {i : Int} (hu : C.P.underlying T = some (.slice e)) (hR : TyOf C.P e R) (hk : R.k = 1)
  (hx : Sub (opTy E x) (tSl R xs)) (hy : Sub (opTy E y) (tV (.int k i))) (hi : i = n) (hn : n <= xs.length) :
  bs C ⟨d, .slice T x (some y) none none, ty, pos, af, g⟩ E L (tSl R (xs.drop n)) :=
 DC (by intro c h; cases h) fun a w h m l sp st fr => by
  obtain ⟨ao, ⟨cap, hlc⟩, hv, H⟩ := fr.get hx
  have hv : a.eval x = .slice ao xs.length cap := hv
  have h2 : a.eval y = .int k i := fr.get hy
  have hsz : ∀ w, (Go.sizeOf e).run C.P w = .ok 1 w := fun w => by have := hR.size w; rw [hk] at this; exact this
  subst hi
  refine ⟨(), .slice (if cap = n then ao else ao.map (·.add n)) (xs.length - n) (cap - n), w, h, _, ?_, HL.refl, sp, st, ⟨_, ⟨cap - n, by rw [List.length_drop]; omega⟩, by show Value.slice _ (xs.length - n) (cap - n) = Value.slice _ (xs.drop n).length (cap - n); rw [List.length_drop], fun hne => ?_⟩⟩
  · simp [execOp, Instr.sliceAt, run_underlying hu, hv, h2, Instr.slice, Instr.sliceBounds, Instr.sliceBound, asIntOf, hsz, hn]
  · have hlt : n < xs.length := by
      rcases Nat.lt_or_ge n xs.length with q | q
      · exact q
      · exact absurd (List.drop_of_length_le q) hne
    obtain ⟨b, off, ea, H'⟩ := H (fun e => by rw [e] at hlt; simp at hlt)
    refine ⟨b, off + n, by rw [if_neg (by omega), ea]; simp [cK], fun j z hz => ?_⟩
    obtain ⟨cs, q1, q2⟩ := H' (n + j) z (by simpa [List.getElem?_drop] using hz)
    rw [hk, Nat.mul_one] at q1 ⊢
    exact ⟨cs, by rw [show off + n + j = off + (n + j) by omega]; exact q1, q2⟩
end
section
variable {κ β : Type} [DecidableEq κ]
def mT (kv : κ -> Value) (R : Rp β) (m : List (κ × β)) : Ty := ⟨fun h v => ∃ m1 : PH, m1.le h /\ (fF kv R v m).p h m1, fun {h h' v} l ⟨m1, a, b⟩ => ⟨m1, PH.le_trans a l, (fF kv R v m).mono l b⟩⟩
theorem Frz.mapI {kv : κ -> Value} {R : Rp β} {v : Value} {m : List (κ × β)} {S : List SP} : Frz (fF kv R v m :: S) (tV v) (mT kv R m) := fun h mm u d ⟨m1, m2, d12, em, ho, _⟩ hu => by
 subst em
 have hu : u = v := hu
 subst hu
 have hd := PH.disj_join'.1 d
 exact ⟨m1, fun b o e => DA d _ _ (Dy _ _ _ _ e), (fF kv R u m).mono (Dy _ _) ho⟩
variable {kv : κ -> Value} {R : Rp β}
variable {C : Cx} {E : Env} {L : List SP} {d : Option Nat} {ty : Nat} {pos : String} {af : Array Edge} {g : Option (Nat × Bool)}
theorem lO {T kt e : Nat} {x y : Operand} {m : List (κ × β)} {q : κ} {z : β} {zv : Value} (K : KeyT C.P kt kv) (hu : C.P.underlying T = some (.map kt e)) (hz : ∀ w, (zeroValue e).run C.P w = .ok zv w) (hzr : ∀ h, (R.ty z).p h zv)
  (hx : Sub (opTy E x) (mT kv R m)) (hy : Sub (opTy E y) (tV (kv q))) : bs C ⟨d, .lookup T x y true, ty, pos, af, g⟩ E L (fA [R.ty ((pj m q).getD z), tV (.bool (pj m q).isSome)]) :=
 DC (by intro c h; cases h) fun a w h mm l sp st fr => by
  obtain ⟨m1, hle, ho⟩ := fr.get hx
  have h2 : a.eval y = kv q := fr.get hy
  obtain ⟨u, hu1, hrun⟩ := no (P := C.P) K hu hz hzr ho (fun b o e => sp.hw _ _ (hle _ _ e)) q true
  exact ⟨(), _, w, h, _, by simp [execOp, h2, hrun], HL.refl, sp, st, ⟨[u, .bool _], rfl, hu1, rfl, trivial⟩⟩
end
section
variable {C : Cx} {E : Env} {L : List SP} {d : Option Nat} {ty : Nat} {pos : String} {af : Array Edge} {g : Option (Nat × Bool)}
end
open Go Go.Proofs Go.Proofs.Tryz
section
variable {C : Cx} {E : Env} {L : List SP} {d : Option Nat} {ty : Nat} {pos : String} {af : Array Edge} {g : Option (Nat × Bool)}
theorem ft {x : Operand} {b o : Nat} (hx : Sub (opTy E x) (tAt b o)) : bs C ⟨d, .nilCheck x, ty, pos, af, g⟩ E L (tAt b o) :=
 DF (by intro c h; cases h) fun a w h hw fr => by
  have hv : a.eval x = .pointer (some ⟨b, o, none⟩) := fr.get hx
  exact ⟨_, by simp [execOp, hv], rfl⟩
theorem iX {α : Type} {R : Rp α} {x : Operand} {y : α} (hx : Sub (opTy E x) (bx R y)) : bs C ⟨d, .nilCheck x, ty, pos, af, g⟩ E L (bx R y) :=
 DF (by intro c h; cases h) fun a w h hw fr => by
  have hp := fr.get hx
  obtain ⟨b, off, cs, hv, H⟩ := hp
  exact ⟨_, by simp [execOp, hv], ⟨b, off, cs, rfl, H⟩⟩
end
section
variable {κ β : Type} [DecidableEq κ] (kv : κ -> Value) (R : Rp β)
end
section
variable {κ β : Type} [DecidableEq κ] {kv : κ -> Value} {R : Rp β}
variable {C : Cx} {E : Env} {L : List SP} {d : Option Nat} {ty : Nat} {pos : String} {af : Array Edge} {g : Option (Nat × Bool)}
theorem uC {h : PH} {v : Value} {m : List (κ × β)} (a : (mT kv R m).p h v) : ∃ r es, v = .map (some r) /\ h r = some (.map (List.toArray es) es.length) /\ entR kv R h m es 0 := by
 obtain ⟨m1, l, r, es, rfl, rfl, hr⟩ := a
 exact ⟨r, es, rfl, l _ _ (DS _ _), hr⟩
end
section
variable {κ α : Type} [DecidableEq κ]
abbrev BW (κ α : Type) := List (κ × Value × List α)
variable {e : Nat} {R : Rp α} {L : List SP}
theorem LSub.head {A : SP} {L L' : List SP} (h : LSub L L') : LSub (A :: L) (A :: L') := LSub.cons (Sel.take (Dz _)) SPs.rfl h
theorem LSub.swap {A B : SP} {L : List SP} : LSub (A :: B :: L) (B :: A :: L) := LSub.cons (Sel.skip (Sel.take (Dz _))) SPs.rfl (LSub.cons (Sel.take (Dz _)) SPs.rfl LSub.rfl)
variable {kv : κ -> Value}
variable {C : Cx} {E : Env} {d : Option Nat} {ty : Nat} {pos : String} {af : Array Edge} {g : Option (Nat × Bool)}
end
section
variable {κ α : Type} [DecidableEq κ] {kv : κ -> Value} {e : Nat} {R : Rp α}
abbrev CS (q : BW κ α) : List (κ × List α) := q.map fun t => (t.1, t.2.2)
end
section
variable {P : Program} (w : World)
end
section
variable {C : Cx} {E : Env} {L : List SP} {d : Option Nat} {ty : Nat} {pos : String} {af : Array Edge} {g : Option (Nat × Bool)}
end
section
variable {κ β : Type} [DecidableEq κ] {kv : κ -> Value} {R : Rp β}
variable {C : Cx} {E : Env} {L : List SP} {d : Option Nat} {ty : Nat} {pos : String} {af : Array Edge} {g : Option (Nat × Bool)}
theorem pm {T kt e : Nat} {x y : Operand} {m : List (κ × β)} {q : κ} {z : β} {zv : Value} (K : KeyT C.P kt kv) (hu : C.P.underlying T = some (.map kt e)) (hz : ∀ w, (zeroValue e).run C.P w = .ok zv w) (hzr : ∀ h, (R.ty z).p h zv)
  (hx : Sub (opTy E x) (mT kv R m)) (hy : Sub (opTy E y) (tV (kv q))) : bs C ⟨d, .lookup T x y false, ty, pos, af, g⟩ E L (R.ty ((pj m q).getD z)) :=
 DC (by intro c h; cases h) fun a w h mm l sp st fr => by
  obtain ⟨m1, hle, ho⟩ := fr.get hx
  have h2 : a.eval y = kv q := fr.get hy
  obtain ⟨u, hu1, hrun⟩ := no (P := C.P) K hu hz hzr ho (fun b o e => sp.hw _ _ (hle _ _ e)) q false
  exact ⟨(), u, w, h, _, by simp [execOp, h2, hrun], HL.refl, sp, st, hu1⟩
end
theorem Sr {A : Ty} : Sub A A := Sub.rfl
theorem Sel.h {A : SP} {L : List SP} : Sel (A :: L) [A] L := Sel.take (Dz _)
theorem NF : (∀ (p : Prop) [Decidable p], (decide p = true) = p) /\ (∀ (p : Prop) [Decidable p], (decide p = false) = ¬ p) /\ (∀ a b : Bool, ((a && b) = true) = (a = true /\ b = true)) /\ (∀ a b : Bool, ((a || b) = true) = (a = true \/ b = true)) /\ (∀ a b : Bool, ((a && b) = false) = (a = false \/ b = false)) /\ (∀ a b : Bool, ((a || b) = false) = (a = false /\ b = false)) /\ (∀ b : Bool, ((!b) = true) = (b = false)) /\ (∀ b : Bool, ((!b) = false) = (b = true)) /\ (∀ a b : Int, (¬ a < b) = (b <= a)) /\ (∀ a b : Int, (¬ a <= b) = (b < a)) /\ ((!true) = false) /\ ((!false) = true) :=
 ⟨fun p _ => by simp, fun p _ => by simp, fun a b => by simp, fun a b => by simp, fun a b => propext Bool.and_eq_false_iff, fun a b => by simp, fun b => by simp, fun b => by simp, fun a b => by simp, fun a b => by simp, rfl, rfl⟩
theorem zS {L S R : List SP} (h : Sel L S R := by repeat first | exact .h | apply Sel.skip) : Sel L S R := h
theorem zO {p : Prop} (h : p := by first | omega | (dsimp only; omega) | (simp_all; omega)) : p := h
theorem zG {p : Prop} (h : p := by omega) : p := h
theorem z6 {x : Int} (h : fe x := by unfold fe; omega) : fe x := h
section
variable {C : Cx} {ops : Array Oper} {rest : List Oper} {Q : Exit -> Act -> World -> Prop} {E : Env} {L : List SP} {d ty T : Nat} {pos : String} {af : Array Edge} {x : Operand} {op : Op}
theorem Js {A : Ty} (hN : Nat.blt d C.N = true) (hs : bs C ⟨some d, op, ty, pos, af, none⟩ E L A) (hk : JL C ops rest Q (upd E d A) L) : JL C ops (⟨some d, op, ty, pos, af, none⟩ :: rest) Q E L := nR rfl rfl hN hs hk
theorem Jm (hN : Nat.blt d C.N = true) (hk : JL C ops rest Q (upd E d (opTy E x)) L) : JL C ops (⟨some d, .move x, ty, pos, af, none⟩ :: rest) Q E L := nR rfl rfl hN (al Sub.rfl) hk
theorem Ja (hN : Nat.blt d C.N = true) (hk : JL C ops rest Q (upd E d (opTy E x)) L) : JL C ops (⟨some d, .assign x, ty, pos, af, none⟩ :: rest) Q E L := nR rfl rfl hN (aW Sub.rfl) hk
theorem Jl {α : Type} {R : Rp α} {y : α} (hN : Nat.blt d C.N = true) (hR : TyOf C.P T R) (hx : Sub (opTy E x) (bx R y)) (hk : JL C ops rest Q (upd E d (R.ty y)) L) : JL C ops (⟨some d, .load T x, ty, pos, af, none⟩ :: rest) Q E L := nR rfl rfl hN (ab hR hx) hk
theorem Jr {id : Nat} {y : Code} (h : JL C ops ops.toList (Exit.then (fun a w => y.wpIn (Fw C.ro) 0 C.P Q a w) Q) E L) : J C (.seq (.region id ops false) y) Q E L := ar (aq h)
theorem Jg {A : Ty} {j t : Nat} {b v : Bool} {opg : Op} {tyg : Nat} {posg : String} {afg : Array Edge} {gg : Option (Nat × Bool)} (hj : ops[j]? = some ⟨some t, opg, tyg, posg, afg, gg⟩) (hc : Sub (E t) (tV (.bool v))) (hN : Nat.blt d C.N = true)
  (hs : mQ v b = true -> bs C ⟨some d, op, ty, pos, af, some (j, b)⟩ E L A) (hk : JL C ops rest Q (upd E d (tW (mQ v b) A)) L) : JL C ops (⟨some d, op, ty, pos, af, some (j, b)⟩ :: rest) Q E L := sh rfl hj rfl (DV hc) rfl hN hs hk
theorem Jh {A : Ty} {j t : Nat} {b v w : Bool} {opg : Op} {tyg : Nat} {posg : String} {afg : Array Edge} {gg : Option (Nat × Bool)} (hj : ops[j]? = some ⟨some t, opg, tyg, posg, afg, gg⟩) (hc : Sub (E t) (tW w (tV (.bool v)))) (hN : Nat.blt d C.N = true)
  (hs : (w && mQ v b) = true -> bs C ⟨some d, op, ty, pos, af, some (j, b)⟩ E L A) (hk : JL C ops rest Q (upd E d (tW (w && mQ v b) A)) L) : JL C ops (⟨some d, op, ty, pos, af, some (j, b)⟩ :: rest) Q E L := sh rfl hj rfl (DK hc) rfl hN hs hk
theorem Jx {X : Type} {A : X -> Ty} {L' : X -> List SP} (hN : Nat.blt d C.N = true) (hs : Step C ⟨some d, op, ty, pos, af, none⟩ E L A L') (hk : ∀ x, JL C ops rest Q (upd E d (A x)) (L' x)) : JL C ops (⟨some d, op, ty, pos, af, none⟩ :: rest) Q E L := sg rfl rfl hN hs hk
theorem Ju {X : Type} {A : X -> Ty} {L' : X -> List SP} (hs : Step C ⟨none, op, ty, pos, af, none⟩ E L A L') (hk : ∀ x, JL C ops rest Q E (L' x)) : JL C ops (⟨none, op, ty, pos, af, none⟩ :: rest) Q E L := xj rfl rfl hs hk
theorem SubE.u {E E' : Env} {t : Nat} (h : SubE E E') : SubE E (Lg.upd E' t (E t)) := SubE.upd Sub.rfl h
theorem zU {E E' : Env} (h : SubE E E' := by (repeat refine SubE.upd Sub.rfl ?_); exact SubE.any) : SubE E E' := h
theorem Jk {A : Ty} {j t : Nat} {b v : Bool} {opg : Op} {tyg : Nat} {posg : String} {afg : Array Edge} {gg : Option (Nat × Bool)} (hj : ops[j]? = some ⟨some t, opg, tyg, posg, afg, gg⟩) (hc : Sub (E t) (tV (.bool v))) (hN : Nat.blt d C.N = true)
  (hs : bs C ⟨some d, op, ty, pos, af, some (j, b)⟩ E L A) (hk : JL C ops rest Q (upd E d (tW (mQ v b) A)) L) : JL C ops (⟨some d, op, ty, pos, af, some (j, b)⟩ :: rest) Q E L := Jg hj hc hN (fun _ => hs) hk
theorem Ji {A : Ty} {j t : Nat} {b v w : Bool} {opg : Op} {tyg : Nat} {posg : String} {afg : Array Edge} {gg : Option (Nat × Bool)} (hj : ops[j]? = some ⟨some t, opg, tyg, posg, afg, gg⟩) (hc : Sub (E t) (tW w (tV (.bool v)))) (hN : Nat.blt d C.N = true)
  (hs : bs C ⟨some d, op, ty, pos, af, some (j, b)⟩ E L A) (hk : JL C ops rest Q (upd E d (tW (w && mQ v b) A)) L) : JL C ops (⟨some d, op, ty, pos, af, some (j, b)⟩ :: rest) Q E L := Jh hj hc hN (fun _ => hs) hk
end
theorem zL {L M : List SP} (h : LSub L M := by repeat first | exact LSub.nil | refine LSub.cons (by repeat first | exact .h | apply Sel.skip) SPs.rfl ?_) : LSub L M := h
theorem LSub.c {A B : SP} {L R M : List SP} (s : Sel L [A] R) (h : SPs A B) (k : LSub R M) : LSub L (B :: M) := LSub.cons s h k
theorem LSub.r {A : SP} {L R M : List SP} (s : Sel L [A] R) (k : LSub R M) : LSub L (A :: M) := LSub.cons s SPs.rfl k
section
variable {C : Cx} {ops : Array Oper} {k : Env -> List SP -> Prop} {its : List It} {E : Env} {L : List SP} {i d ty : Nat} {ts : List Nat} {op : Op} {x : Operand} {pos : String} {af : Array Edge}
theorem Mf {A : Ty} (ho : ops.toList[i]? = some ⟨some d, op, ty, pos, af, none⟩) (hN : Nat.blt d C.N = true) (hs : ∀ {L}, bs C ⟨some d, op, ty, pos, af, none⟩ (cQ ts E) L A) (hk : JM C ops k its (upd E d A) L) : JM C ops k (⟨i, ts, true⟩ :: its) E L := uw ho rfl rfl hN (fun _ => hs) hk
theorem Mv (ho : ops.toList[i]? = some ⟨some d, .move x, ty, pos, af, none⟩) (hN : Nat.blt d C.N = true) (hk : JM C ops k its (upd E d (opTy (cQ ts E) x)) L) : JM C ops k (⟨i, ts, true⟩ :: its) E L := uw ho rfl rfl hN (fun _ => al Sub.rfl) hk
theorem Mg {A : Ty} {j t : Nat} {b v : Bool} {opg : Op} {tyg : Nat} {posg : String} {afg : Array Edge} {gg : Option (Nat × Bool)} (ho : ops.toList[i]? = some ⟨some d, op, ty, pos, af, some (j, b)⟩) (hj : ops.toList[j]? = some ⟨some t, opg, tyg, posg, afg, gg⟩) (hc : Sub (cQ ts E t) (tV (.bool v))) (hN : Nat.blt d C.N = true)
  (hs : mQ v b = true -> ∀ {L}, bs C ⟨some d, op, ty, pos, af, some (j, b)⟩ (cQ ts E) L A) (hk : JM C ops k its (upd E d (tW (mQ v b) A)) L) : JM C ops k (⟨i, ts, true⟩ :: its) E L := cA ho rfl hj rfl (DV hc) rfl hN (fun h _ => hs h) hk
theorem Mk {A : Ty} {j t : Nat} {b v : Bool} {opg : Op} {tyg : Nat} {posg : String} {afg : Array Edge} {gg : Option (Nat × Bool)} (ho : ops.toList[i]? = some ⟨some d, op, ty, pos, af, some (j, b)⟩) (hj : ops.toList[j]? = some ⟨some t, opg, tyg, posg, afg, gg⟩) (hc : Sub (cQ ts E t) (tV (.bool v))) (hN : Nat.blt d C.N = true)
  (hs : ∀ {L}, bs C ⟨some d, op, ty, pos, af, some (j, b)⟩ (cQ ts E) L A) (hk : JM C ops k its (upd E d (tW (mQ v b) A)) L) : JM C ops k (⟨i, ts, true⟩ :: its) E L := Mg ho hj hc hN (fun _ => hs) hk
end
section
variable {C : Cx} {ops : Array Oper} {rest : List Oper} {Q : Exit -> Act -> World -> Prop} {E : Env} {L : List SP} {d ty T : Nat} {pos : String} {af : Array Edge} {x : Operand} {op : Op}
theorem Zs {A : Ty} (hs : bs C ⟨some d, op, ty, pos, af, none⟩ E L A) (hk : JL C ops rest Q (upd E d A) L) (hN : Nat.blt d C.N = true := by rfl) : JL C ops (⟨some d, op, ty, pos, af, none⟩ :: rest) Q E L := Js hN hs hk
theorem Zm (hk : JL C ops rest Q (upd E d (opTy E x)) L) (hN : Nat.blt d C.N = true := by rfl) : JL C ops (⟨some d, .move x, ty, pos, af, none⟩ :: rest) Q E L := Jm hN hk
theorem Za (hk : JL C ops rest Q (upd E d (opTy E x)) L) (hN : Nat.blt d C.N = true := by rfl) : JL C ops (⟨some d, .assign x, ty, pos, af, none⟩ :: rest) Q E L := Ja hN hk
theorem Zl {α : Type} {R : Rp α} {y : α} (hR : TyOf C.P T R) (hx : Sub (opTy E x) (bx R y)) (hk : JL C ops rest Q (upd E d (R.ty y)) L) (hN : Nat.blt d C.N = true := by rfl) : JL C ops (⟨some d, .load T x, ty, pos, af, none⟩ :: rest) Q E L := Jl hN hR hx hk
theorem Zx {X : Type} {A : X -> Ty} {L' : X -> List SP} (hs : Step C ⟨some d, op, ty, pos, af, none⟩ E L A L') (hk : ∀ x, JL C ops rest Q (upd E d (A x)) (L' x)) (hN : Nat.blt d C.N = true := by rfl) : JL C ops (⟨some d, op, ty, pos, af, none⟩ :: rest) Q E L := Jx hN hs hk
theorem Zg {A : Ty} {j t : Nat} {b v : Bool} {opg : Op} {tyg : Nat} {posg : String} {afg : Array Edge} {gg : Option (Nat × Bool)} (hs : mQ v b = true -> bs C ⟨some d, op, ty, pos, af, some (j, b)⟩ E L A) (hk : JL C ops rest Q (upd E d (tW (mQ v b) A)) L) (hj : ops[j]? = some ⟨some t, opg, tyg, posg, afg, gg⟩ := by rfl) (hc : Sub (E t) (tV (.bool v)) := by exact Sub.rfl) (hN : Nat.blt d C.N = true := by rfl) : JL C ops (⟨some d, op, ty, pos, af, some (j, b)⟩ :: rest) Q E L := Jg hj hc hN hs hk
theorem Zk {A : Ty} {j t : Nat} {b v : Bool} {opg : Op} {tyg : Nat} {posg : String} {afg : Array Edge} {gg : Option (Nat × Bool)} (hs : bs C ⟨some d, op, ty, pos, af, some (j, b)⟩ E L A) (hk : JL C ops rest Q (upd E d (tW (mQ v b) A)) L) (hj : ops[j]? = some ⟨some t, opg, tyg, posg, afg, gg⟩ := by rfl) (hc : Sub (E t) (tV (.bool v)) := by exact Sub.rfl) (hN : Nat.blt d C.N = true := by rfl) : JL C ops (⟨some d, op, ty, pos, af, some (j, b)⟩ :: rest) Q E L := Jk hj hc hN hs hk
end
section
variable {C : Cx} {ops : Array Oper} {k : Env -> List SP -> Prop} {its : List It} {E : Env} {L : List SP} {i d ty : Nat} {ts : List Nat} {op : Op} {x : Operand} {pos : String} {af : Array Edge}
theorem Zf {A : Ty} (ho : ops.toList[i]? = some ⟨some d, op, ty, pos, af, none⟩) (hs : ∀ {L}, bs C ⟨some d, op, ty, pos, af, none⟩ (cQ ts E) L A) (hk : JM C ops k its (upd E d A) L) (hN : Nat.blt d C.N = true := by rfl) : JM C ops k (⟨i, ts, true⟩ :: its) E L := Mf ho hN hs hk
theorem Zv (ho : ops.toList[i]? = some ⟨some d, .move x, ty, pos, af, none⟩) (hk : JM C ops k its (upd E d (opTy (cQ ts E) x)) L) (hN : Nat.blt d C.N = true := by rfl) : JM C ops k (⟨i, ts, true⟩ :: its) E L := Mv ho hN hk
end
inductive GPl (A T : Type) where
 | mk (Kind Table : Int) (Kids : List (GPl A T)) (Tests : List T) (Cols : List Int) (Col Agg : Int) (Attrs : List A)
namespace GPl
variable {A T : Type}
def Kind : GPl A T -> Int | mk k _ _ _ _ _ _ _ => k
def Table : GPl A T -> Int | mk _ t _ _ _ _ _ _ => t
def Kids : GPl A T -> List (GPl A T) | mk _ _ k _ _ _ _ _ => k
def Tests : GPl A T -> List T | mk _ _ _ t _ _ _ _ => t
def Cols : GPl A T -> List Int | mk _ _ _ _ c _ _ _ => c
def Col : GPl A T -> Int | mk _ _ _ _ _ c _ _ => c
def Agg : GPl A T -> Int | mk _ _ _ _ _ _ a _ => a
def Attrs : GPl A T -> List A | mk _ _ _ _ _ _ _ a => a
def zero : GPl A T := mk 0 0 [] [] [] 0 0 []
instance : Inhabited (GPl A T) := ⟨zero⟩
end GPl
def rBot (α : Type) (k : Nat) : Rp α where
 k := k
 agg := true
 rel := fun _ _ _ => False
 ty := fun _ => ⟨fun _ _ => False, fun _ e => e⟩
 len := fun h => h.elim
 one := fun h => h.elim
 mono := fun _ h => h
 scalar := fun e => by cases e
 iff := ⟨fun h => h.elim, fun ⟨_, h, _⟩ => h⟩
structure PlT where
 int : Nat
 kids : Nat
 tests : Nat
 ints : Nat
 attrs : Nat
section
variable {A T : Type} (c : PlT) (RA : Rp A) (RT : Rp T)
def fsPl (R : Rp (GPl A T)) : List (SF (GPl A T)) := [⟨Int, c.int, bg, GPl.Kind⟩, ⟨Int, c.int, bg, GPl.Table⟩, ⟨List (GPl A T), c.kids, rSl R, GPl.Kids⟩, ⟨List T, c.tests, rSl RT, GPl.Tests⟩, ⟨List Int, c.ints, rSl bg, GPl.Cols⟩, ⟨Int, c.int, bg, GPl.Col⟩, ⟨Int, c.int, bg, GPl.Agg⟩, ⟨List A, c.attrs, rSl RA, GPl.Attrs⟩]
def rPl : Nat -> Rp (GPl A T)
 | 0 => rBot _ 8
 | n + 1 => bG (fsPl c RA RT (rPl n))
theorem rPl_k : ∀ n, (rPl c RA RT n).k = 8
 | 0 => rfl
 | _ + 1 => rfl
theorem rPl_agg : ∀ n, (rPl c RA RT n).agg = true
 | 0 => rfl
 | _ + 1 => rfl
theorem rPl_ty {P : Program} {t : Nat} (ha : ∀ w, (isAgg t).run P w = .ok true w) (hs : ∀ w, (Go.sizeOf t).run P w = .ok 8 w) (n : Nat) : TyOf P t (rPl c RA RT n) :=
 ⟨fun w => by rw [rPl_agg]; exact ha w, fun w => by rw [rPl_k]; exact hs w⟩
theorem tSl_up {α : Type} {R R' : Rp α} (hk : R.k = R'.k) (hr : ∀ {h x cs}, R.rel h x cs -> R'.rel h x cs) {h : PH} {xs : List α} {v : Value} (hv : (tSl R xs).p h v) : (tSl R' xs).p h v := by
 obtain ⟨ao, cap, e, H⟩ := hv
 refine ⟨ao, cap, e, fun hn => ?_⟩
 obtain ⟨b, off, ea, H2⟩ := H hn
 refine ⟨b, off, ea, fun i x hx => ?_⟩
 obtain ⟨cs, H1, r⟩ := H2 i x hx
 exact ⟨cs, by rw [<- hk]; exact H1, hr r⟩
theorem rPl_up : ∀ (n : Nat) {h : PH} {x : GPl A T} {cs : List Value}, (rPl c RA RT n).rel h x cs -> (rPl c RA RT (n + 1)).rel h x cs
 | 0, _, _, _, r => r.elim
 | n + 1, h, x, cs, r => by
   obtain ⟨c0, _, rfl, r0, c1, _, rfl, r1, c2, _, rfl, r2, rest⟩ := (show SF.rel h x (fsPl c RA RT (rPl c RA RT n)) cs from r)
   refine ⟨c0, _, rfl, r0, c1, _, rfl, r1, c2, _, rfl, ?_, rest⟩
   obtain ⟨v, e, hv⟩ := r2
   exact ⟨v, e, tSl_up ((rPl_k c RA RT n).trans (rPl_k c RA RT (n + 1)).symm) (fun q => rPl_up n q) hv⟩
theorem rPl_le {m n : Nat} (hmn : m <= n) {h : PH} {x : GPl A T} {cs : List Value} (r : (rPl c RA RT m).rel h x cs) : (rPl c RA RT n).rel h x cs := by
 induction n with
 | zero => obtain rfl : m = 0 := (by omega); exact r
 | succ n ih =>
   rcases Nat.lt_or_ge m (n + 1) with h1 | h1
   · exact rPl_up c RA RT n (ih (by omega))
   · obtain rfl : m = n + 1 := (by omega); exact r
theorem rPl_pos {n : Nat} {h : PH} {x : GPl A T} {cs : List Value} (r : (rPl c RA RT n).rel h x cs) : ∃ m, n = m + 1 := by
 cases n with
 | zero => exact r.elim
 | succ m => exact ⟨m, rfl⟩
end
open Go
section
variable {H : Type} {enc : TypeId × Value -> H} {P : Program} {W : World}
theorem BX {α : Type} {t : Nat} {fs : List (SF α)} (S : StructOf P t fs) {fuel : Nat} {cs : List Value} {x : DataW H × List MemPlace} (h : DataW.trod enc P W 0 (fun _ => true) true fuel t cs = some x) :
  ∃ n, fuel = n + 1 /\ cs.length = SF.width fs /\ ∀ (i : Nat) (f : SF α), fs[i]? = some f -> ∃ z, DataW.trod enc P W 0 (fun _ => true) true n f.T ((cs.drop (SF.off fs i)).take f.R.k) = some z := by
 obtain ⟨fls, hu, hl⟩ := S.lays
 obtain ⟨xs, n, hn, _, hlen, hxs, hf⟩ := DataW.trod_struct hu h
 refine ⟨n, hn, hlen.trans (S.ty.cells W), fun i f hi => ?_⟩
 obtain ⟨fl, h1, h2, h3, h4, _⟩ := hl.get hi
 have h1' : fls[i]? = some fl := by simpa using h1
 have h5 := hf i fl h1'
 have hlt : i < xs.length := by rw [hxs]; exact (Array.getElem?_eq_some_iff.1 h1').1
 rw [List.getElem?_eq_getElem hlt, h2, h3, h4.cells W, Nat.zero_add] at h5
 exact ⟨_, h5⟩
end
open Go Go.Proofs Go.Proofs.Tryz
theorem ty3 : TyOf Tryz.prog 3 bg := ⟨fun w => Tryz.isAgg3 w, fun w => Tryz.sizeOf3 w⟩
theorem zr3 : ∀ h, (bg.ty 0).p h (Value.int .i64 0) := fun _ => rfl
theorem el3 : ElT Tryz.prog 3 bg 8 0 := ⟨ty3, by decide, Tryz.t3, (Value.int .i64 0), by kernel_rfl, by kernel_rfl, by kernel_rfl, by kernel_rfl, zr3⟩
theorem ty4 : TyOf Tryz.prog 4 lk := ⟨fun w => Tryz.isAgg4 w, fun w => Tryz.sizeOf4 w⟩
theorem zr4 : ∀ h, (lk.ty false).p h (Value.bool false) := fun _ => rfl
theorem el4 : ElT Tryz.prog 4 lk 1 false := ⟨ty4, by decide, Tryz.t4, (Value.bool false), by kernel_rfl, by kernel_rfl, by kernel_rfl, by kernel_rfl, zr4⟩
theorem ty9 : TyOf Tryz.prog 9 eH := ⟨fun w => Tryz.isAgg9 w, fun w => Tryz.sizeOf9 w⟩
theorem zr9 : ∀ h, (eH.ty ⟨#[]⟩).p h (Value.string ⟨#[]⟩) := fun _ => rfl
theorem el9 : ElT Tryz.prog 9 eH 16 ⟨#[]⟩ := ⟨ty9, by decide, Tryz.t9, (Value.string ⟨#[]⟩), by kernel_rfl, by kernel_rfl, by kernel_rfl, by kernel_rfl, zr9⟩
structure GValue where
 Kind : Int
 N : Int
 Text : ByteArray
def zValue : GValue := { Kind := 0, N := 0, Text := ⟨#[]⟩ }
instance : Inhabited GValue := ⟨zValue⟩
def qX : List (SF GValue) := [⟨Int, 3, bg, GValue.Kind⟩, ⟨Int, 3, bg, GValue.N⟩, ⟨ByteArray, 9, eH, GValue.Text⟩]
abbrev rValue : Rp GValue := bG qX
theorem jp : TyOf Tryz.prog 87 rValue := ⟨fun w => Tryz.isAgg87 w, fun w => Tryz.sizeOf87 w⟩
theorem eT : StructOf Tryz.prog 87 qX := ⟨⟨_, Tryz.underlying87, ⟨rfl, rfl, ty3, by decide, ⟨rfl, rfl, ty3, by decide, ⟨rfl, rfl, ty9, by decide, trivial⟩⟩⟩⟩, jp⟩
theorem Cu : ∀ h, (rValue.ty zValue).p h (.agg #[Value.int .i64 0, Value.int .i64 0, Value.string ⟨#[]⟩]) := fun _ => ⟨_, ⟨[Value.int .i64 0], _, rfl, rfl, ⟨[Value.int .i64 0], _, rfl, rfl, ⟨[Value.string ⟨#[]⟩], _, rfl, rfl, rfl⟩⟩⟩, rfl⟩
theorem zw : ElT Tryz.prog 87 rValue 32 zValue := ⟨jp, by decide, Tryz.t87, (.agg #[Value.int .i64 0, Value.int .i64 0, Value.string ⟨#[]⟩]), by kernel_rfl, by kernel_rfl, by kernel_rfl, by kernel_rfl, Cu⟩
theorem fh : TyOf Tryz.prog 22 (rSl rValue) := ⟨fun w => Tryz.isAgg22 w, fun w => Tryz.sizeOf22 w⟩
theorem CT : ∀ h, ((rSl rValue).ty []).p h (Value.slice none 0 0) := fun _ => ⟨none, ⟨0, Nat.le_refl _⟩, rfl, fun q => absurd rfl q⟩
theorem pp : ElT Tryz.prog 22 (rSl rValue) 24 [] := ⟨fh, by decide, Tryz.t22, (Value.slice none 0 0), by kernel_rfl, by kernel_rfl, by kernel_rfl, by kernel_rfl, CT⟩
theorem kp : TyOf Tryz.prog 73 (rSl (rSl rValue)) := ⟨fun w => Tryz.isAgg73 w, fun w => Tryz.sizeOf73 w⟩
theorem ln : TyOf Tryz.prog 73 rV := ⟨fun w => Tryz.isAgg73 w, fun w => Tryz.sizeOf73 w⟩
theorem CU : ∀ h, ((rSl (rSl rValue)).ty []).p h (Value.slice none 0 0) := fun _ => ⟨none, ⟨0, Nat.le_refl _⟩, rfl, fun q => absurd rfl q⟩
theorem CV : ElT Tryz.prog 73 (rSl (rSl rValue)) 24 [] := ⟨kp, by decide, Tryz.t73, (Value.slice none 0 0), by kernel_rfl, by kernel_rfl, by kernel_rfl, by kernel_rfl, CU⟩
theorem BY : TyOf Tryz.prog 61 (rSl (rSl (rSl rValue))) := ⟨fun w => Tryz.isAgg61 w, fun w => Tryz.sizeOf61 w⟩
theorem bY : TyOf Tryz.prog 36 (rSl bg) := ⟨fun w => Tryz.isAgg36 w, fun w => Tryz.sizeOf36 w⟩
theorem pq : TyOf Tryz.prog 36 rV := ⟨fun w => Tryz.isAgg36 w, fun w => Tryz.sizeOf36 w⟩
theorem CW : ∀ h, ((rSl bg).ty []).p h (Value.slice none 0 0) := fun _ => ⟨none, ⟨0, Nat.le_refl _⟩, rfl, fun q => absurd rfl q⟩
theorem BN : ElT Tryz.prog 36 (rSl bg) 24 [] := ⟨bY, by decide, Tryz.t36, (Value.slice none 0 0), by kernel_rfl, by kernel_rfl, by kernel_rfl, by kernel_rfl, CW⟩
theorem nq : TyOf Tryz.prog 58 (rSl (rSl bg)) := ⟨fun w => Tryz.isAgg58 w, fun w => Tryz.sizeOf58 w⟩
structure GAtom where
 Table : Int
 Cols : List Int
 Terms : List Int
 Key : Int
def BZ : GAtom := { Table := 0, Cols := [], Terms := [], Key := 0 }
instance : Inhabited GAtom := ⟨BZ⟩
def uD : List (SF GAtom) := [⟨Int, 3, bg, GAtom.Table⟩, ⟨List Int, 36, (rSl bg), GAtom.Cols⟩, ⟨List Int, 36, (rSl bg), GAtom.Terms⟩, ⟨Int, 3, bg, GAtom.Key⟩]
abbrev uE : Rp GAtom := bG uD
theorem Cv : TyOf Tryz.prog 38 uE := ⟨fun w => Tryz.isAgg38 w, fun w => Tryz.sizeOf38 w⟩
theorem CX : StructOf Tryz.prog 38 uD := ⟨⟨_, Tryz.underlying38, ⟨rfl, rfl, ty3, by decide, ⟨rfl, rfl, bY, by decide, ⟨rfl, rfl, bY, by decide, ⟨rfl, rfl, ty3, by decide, trivial⟩⟩⟩⟩⟩, Cv⟩
theorem Cw : TyOf Tryz.prog 23 (rSl uE) := ⟨fun w => Tryz.isAgg23 w, fun w => Tryz.sizeOf23 w⟩
structure GConj where
 Vars : Int
 Consts : List GValue
 Atoms : List GAtom
def B0 : GConj := { Vars := 0, Consts := [], Atoms := [] }
instance : Inhabited GConj := ⟨B0⟩
def uF : List (SF GConj) := [⟨Int, 3, bg, GConj.Vars⟩, ⟨List GValue, 22, (rSl rValue), GConj.Consts⟩, ⟨List GAtom, 23, (rSl uE), GConj.Atoms⟩]
abbrev te : Rp GConj := bG uF
theorem CY : TyOf Tryz.prog 25 te := ⟨fun w => Tryz.isAgg25 w, fun w => Tryz.sizeOf25 w⟩
theorem CZ : StructOf Tryz.prog 25 uF := ⟨⟨_, Tryz.underlying25, ⟨rfl, rfl, ty3, by decide, ⟨rfl, rfl, fh, by decide, ⟨rfl, rfl, Cw, by decide, trivial⟩⟩⟩⟩, CY⟩
structure GSide where
 Var : Int
 Col : Int
 Value : GValue
def uG : GSide := { Var := 0, Col := 0, Value := zValue }
instance : Inhabited GSide := ⟨uG⟩
def uH : List (SF GSide) := [⟨Int, 3, bg, GSide.Var⟩, ⟨Int, 3, bg, GSide.Col⟩, ⟨GValue, 87, rValue, GSide.Value⟩]
abbrev kq : Rp GSide := bG uH
theorem sr : TyOf Tryz.prog 91 kq := ⟨fun w => Tryz.isAgg91 w, fun w => Tryz.sizeOf91 w⟩
theorem fQ : StructOf Tryz.prog 91 uH := ⟨⟨_, Tryz.underlying91, ⟨rfl, rfl, ty3, by decide, ⟨rfl, rfl, ty3, by decide, ⟨rfl, rfl, jp, by decide, trivial⟩⟩⟩⟩, sr⟩
theorem Cy : ∀ h, (kq.ty uG).p h (.agg #[Value.int .i64 0, Value.int .i64 0, Value.int .i64 0, Value.int .i64 0, Value.string ⟨#[]⟩]) := fun _ => ⟨_, ⟨[Value.int .i64 0], _, rfl, rfl, ⟨[Value.int .i64 0], _, rfl, rfl, ⟨[Value.int .i64 0, Value.int .i64 0, Value.string ⟨#[]⟩], _, rfl, ⟨[Value.int .i64 0], _, rfl, rfl, ⟨[Value.int .i64 0], _, rfl, rfl, ⟨[Value.string ⟨#[]⟩], _, rfl, rfl, rfl⟩⟩⟩, rfl⟩⟩⟩, rfl⟩
theorem C0 : ElT Tryz.prog 91 kq 48 uG := ⟨sr, by decide, Tryz.t91, (.agg #[Value.int .i64 0, Value.int .i64 0, Value.int .i64 0, Value.int .i64 0, Value.string ⟨#[]⟩]), by kernel_rfl, by kernel_rfl, by kernel_rfl, by kernel_rfl, Cy⟩
structure GTest where
 Left : GSide
 Op : Int
 Right : GSide
 Add : Int
def xu : GTest := { Left := uG, Op := 0, Right := uG, Add := 0 }
instance : Inhabited GTest := ⟨xu⟩
def uI : List (SF GTest) := [⟨GSide, 91, kq, GTest.Left⟩, ⟨Int, 3, bg, GTest.Op⟩, ⟨GSide, 91, kq, GTest.Right⟩, ⟨Int, 3, bg, GTest.Add⟩]
abbrev be : Rp GTest := bG uI
theorem fd : TyOf Tryz.prog 93 be := ⟨fun w => Tryz.isAgg93 w, fun w => Tryz.sizeOf93 w⟩
theorem gd : StructOf Tryz.prog 93 uI := ⟨⟨_, Tryz.underlying93, ⟨rfl, rfl, sr, by decide, ⟨rfl, rfl, ty3, by decide, ⟨rfl, rfl, sr, by decide, ⟨rfl, rfl, ty3, by decide, trivial⟩⟩⟩⟩⟩, fd⟩
theorem zx : ∀ h, (be.ty xu).p h (.agg #[Value.int .i64 0, Value.int .i64 0, Value.int .i64 0, Value.int .i64 0, Value.string ⟨#[]⟩, Value.int .i64 0, Value.int .i64 0, Value.int .i64 0, Value.int .i64 0, Value.int .i64 0, Value.string ⟨#[]⟩, Value.int .i64 0]) := fun _ => ⟨_, ⟨[Value.int .i64 0, Value.int .i64 0, Value.int .i64 0, Value.int .i64 0, Value.string ⟨#[]⟩], _, rfl, ⟨[Value.int .i64 0], _, rfl, rfl, ⟨[Value.int .i64 0], _, rfl, rfl, ⟨[Value.int .i64 0, Value.int .i64 0, Value.string ⟨#[]⟩], _, rfl, ⟨[Value.int .i64 0], _, rfl, rfl, ⟨[Value.int .i64 0], _, rfl, rfl, ⟨[Value.string ⟨#[]⟩], _, rfl, rfl, rfl⟩⟩⟩, rfl⟩⟩⟩, ⟨[Value.int .i64 0], _, rfl, rfl, ⟨[Value.int .i64 0, Value.int .i64 0, Value.int .i64 0, Value.int .i64 0, Value.string ⟨#[]⟩], _, rfl, ⟨[Value.int .i64 0], _, rfl, rfl, ⟨[Value.int .i64 0], _, rfl, rfl, ⟨[Value.int .i64 0, Value.int .i64 0, Value.string ⟨#[]⟩], _, rfl, ⟨[Value.int .i64 0], _, rfl, rfl, ⟨[Value.int .i64 0], _, rfl, rfl, ⟨[Value.string ⟨#[]⟩], _, rfl, rfl, rfl⟩⟩⟩, rfl⟩⟩⟩, ⟨[Value.int .i64 0], _, rfl, rfl, rfl⟩⟩⟩⟩, rfl⟩
theorem pr : ElT Tryz.prog 93 be 112 xu := ⟨fd, by decide, Tryz.t93, (.agg #[Value.int .i64 0, Value.int .i64 0, Value.int .i64 0, Value.int .i64 0, Value.string ⟨#[]⟩, Value.int .i64 0, Value.int .i64 0, Value.int .i64 0, Value.int .i64 0, Value.int .i64 0, Value.string ⟨#[]⟩, Value.int .i64 0]), by kernel_rfl, by kernel_rfl, by kernel_rfl, by kernel_rfl, zx⟩
theorem iN : TyOf Tryz.prog 43 (rSl be) := ⟨fun w => Tryz.isAgg43 w, fun w => Tryz.sizeOf43 w⟩
theorem C1 : ∀ h, ((rSl be).ty []).p h (Value.slice none 0 0) := fun _ => ⟨none, ⟨0, Nat.le_refl _⟩, rfl, fun q => absurd rfl q⟩
theorem C2 : ElT Tryz.prog 43 (rSl be) 24 [] := ⟨iN, by decide, Tryz.t43, (Value.slice none 0 0), by kernel_rfl, by kernel_rfl, by kernel_rfl, by kernel_rfl, C1⟩
theorem yD : TyOf Tryz.prog 85 (rSl eH) := ⟨fun w => Tryz.isAgg85 w, fun w => Tryz.sizeOf85 w⟩
structure GAttr where
 Name : ByteArray
 Kind : Int
 Was : List ByteArray
 Default : GValue
def zy : GAttr := { Name := ⟨#[]⟩, Kind := 0, Was := [], Default := zValue }
instance : Inhabited GAttr := ⟨zy⟩
def uJ : List (SF GAttr) := [⟨ByteArray, 9, eH, GAttr.Name⟩, ⟨Int, 3, bg, GAttr.Kind⟩, ⟨List ByteArray, 85, (rSl eH), GAttr.Was⟩, ⟨GValue, 87, rValue, GAttr.Default⟩]
abbrev aS : Rp GAttr := bG uJ
theorem ct : TyOf Tryz.prog 89 aS := ⟨fun w => Tryz.isAgg89 w, fun w => Tryz.sizeOf89 w⟩
theorem dH : StructOf Tryz.prog 89 uJ := ⟨⟨_, Tryz.underlying89, ⟨rfl, rfl, ty9, by decide, ⟨rfl, rfl, ty3, by decide, ⟨rfl, rfl, yD, by decide, ⟨rfl, rfl, jp, by decide, trivial⟩⟩⟩⟩⟩, ct⟩
theorem qY : ∀ h, (aS.ty zy).p h (.agg #[Value.string ⟨#[]⟩, Value.int .i64 0, Value.slice none 0 0, Value.int .i64 0, Value.int .i64 0, Value.string ⟨#[]⟩]) := fun _ => ⟨_, ⟨[Value.string ⟨#[]⟩], _, rfl, rfl, ⟨[Value.int .i64 0], _, rfl, rfl, ⟨[Value.slice none 0 0], _, rfl, ⟨_, rfl, none, ⟨0, Nat.le_refl _⟩, rfl, fun q => absurd rfl q⟩, ⟨[Value.int .i64 0, Value.int .i64 0, Value.string ⟨#[]⟩], _, rfl, ⟨[Value.int .i64 0], _, rfl, rfl, ⟨[Value.int .i64 0], _, rfl, rfl, ⟨[Value.string ⟨#[]⟩], _, rfl, rfl, rfl⟩⟩⟩, rfl⟩⟩⟩⟩, rfl⟩
theorem gv : ElT Tryz.prog 89 aS 80 zy := ⟨ct, by decide, Tryz.t89, (.agg #[Value.string ⟨#[]⟩, Value.int .i64 0, Value.slice none 0 0, Value.int .i64 0, Value.int .i64 0, Value.string ⟨#[]⟩]), by kernel_rfl, by kernel_rfl, by kernel_rfl, by kernel_rfl, qY⟩
theorem bQ : TyOf Tryz.prog 44 (rSl aS) := ⟨fun w => Tryz.isAgg44 w, fun w => Tryz.sizeOf44 w⟩
theorem zz : TyOf Tryz.prog 44 rV := ⟨fun w => Tryz.isAgg44 w, fun w => Tryz.sizeOf44 w⟩
theorem C3 : ∀ h, ((rSl aS).ty []).p h (Value.slice none 0 0) := fun _ => ⟨none, ⟨0, Nat.le_refl _⟩, rfl, fun q => absurd rfl q⟩
structure GTable where
 Name : ByteArray
 Attrs : List GAttr
 Key : List Int
def uK : GTable := { Name := ⟨#[]⟩, Attrs := [], Key := [] }
instance : Inhabited GTable := ⟨uK⟩
def qZ : List (SF GTable) := [⟨ByteArray, 9, eH, GTable.Name⟩, ⟨List GAttr, 44, (rSl aS), GTable.Attrs⟩, ⟨List Int, 36, (rSl bg), GTable.Key⟩]
abbrev cc : Rp GTable := bG qZ
theorem g8 : TyOf Tryz.prog 76 cc := ⟨fun w => Tryz.isAgg76 w, fun w => Tryz.sizeOf76 w⟩
theorem eu : StructOf Tryz.prog 76 qZ := ⟨⟨_, Tryz.underlying76, ⟨rfl, rfl, ty9, by decide, ⟨rfl, rfl, bQ, by decide, ⟨rfl, rfl, bY, by decide, trivial⟩⟩⟩⟩, g8⟩
theorem BO : ∀ h, (cc.ty uK).p h (.agg #[Value.string ⟨#[]⟩, Value.slice none 0 0, Value.slice none 0 0]) := fun _ => ⟨_, ⟨[Value.string ⟨#[]⟩], _, rfl, rfl, ⟨[Value.slice none 0 0], _, rfl, ⟨_, rfl, none, ⟨0, Nat.le_refl _⟩, rfl, fun q => absurd rfl q⟩, ⟨[Value.slice none 0 0], _, rfl, ⟨_, rfl, none, ⟨0, Nat.le_refl _⟩, rfl, fun q => absurd rfl q⟩, rfl⟩⟩⟩, rfl⟩
theorem C4 : ElT Tryz.prog 76 cc 64 uK := ⟨g8, by decide, Tryz.t76, (.agg #[Value.string ⟨#[]⟩, Value.slice none 0 0, Value.slice none 0 0]), by kernel_rfl, by kernel_rfl, by kernel_rfl, by kernel_rfl, BO⟩
theorem g5 : TyOf Tryz.prog 39 (rSl cc) := ⟨fun w => Tryz.isAgg39 w, fun w => Tryz.sizeOf39 w⟩
structure GSchema where
 Tables : List GTable
def lP : GSchema := { Tables := [] }
instance : Inhabited GSchema := ⟨lP⟩
def nZ : List (SF GSchema) := [⟨List GTable, 39, (rSl cc), GSchema.Tables⟩]
abbrev aV : Rp GSchema := bG nZ
theorem fR : TyOf Tryz.prog 41 aV := ⟨fun w => Tryz.isAgg41 w, fun w => Tryz.sizeOf41 w⟩
theorem g6 : StructOf Tryz.prog 41 nZ := ⟨⟨_, Tryz.underlying41, ⟨rfl, rfl, g5, by decide, trivial⟩⟩, fR⟩
theorem Cz : ∀ h, (aV.ty lP).p h (.agg #[Value.slice none 0 0]) := fun _ => ⟨_, ⟨[Value.slice none 0 0], _, rfl, ⟨_, rfl, none, ⟨0, Nat.le_refl _⟩, rfl, fun q => absurd rfl q⟩, rfl⟩, rfl⟩
abbrev aG : Type := GPl GAttr GTest
def cPl : PlT := ⟨3, 42, 43, 36, 44⟩
abbrev aR (n : Nat) : Rp aG := rPl cPl aS be n
theorem dl {n : Nat} : TyOf Tryz.prog 46 (aR n) := rPl_ty cPl aS be (fun w => Tryz.isAgg46 w) (fun w => Tryz.sizeOf46 w) n
theorem gp {n : Nat} : TyOf Tryz.prog 42 (rSl (aR n)) := ⟨fun w => Tryz.isAgg42 w, fun w => Tryz.sizeOf42 w⟩
theorem AS : TyOf Tryz.prog 42 rV := ⟨fun w => Tryz.isAgg42 w, fun w => Tryz.sizeOf42 w⟩
theorem br {n : Nat} : StructOf Tryz.prog 46 (fsPl cPl aS be (aR n)) := ⟨⟨_, Tryz.underlying46, ⟨rfl, rfl, ty3, by decide, ⟨rfl, rfl, ty3, by decide, ⟨rfl, rfl, gp, (by show (1 : Nat) ≠ 0; decide), ⟨rfl, rfl, iN, by decide, ⟨rfl, rfl, bY, by decide, ⟨rfl, rfl, ty3, by decide, ⟨rfl, rfl, ty3, by decide, ⟨rfl, rfl, bQ, by decide, trivial⟩⟩⟩⟩⟩⟩⟩⟩⟩, dl (n := n + 1)⟩
theorem ss {n : Nat} : ∀ h, ((aR (n + 1)).ty GPl.zero).p h (.agg #[Value.int .i64 0, Value.int .i64 0, Value.slice none 0 0, Value.slice none 0 0, Value.slice none 0 0, Value.int .i64 0, Value.int .i64 0, Value.slice none 0 0]) := fun _ => ⟨_, ⟨[Value.int .i64 0], _, rfl, rfl, ⟨[Value.int .i64 0], _, rfl, rfl, ⟨[Value.slice none 0 0], _, rfl, ⟨_, rfl, none, ⟨0, Nat.le_refl _⟩, rfl, fun q => absurd rfl q⟩, ⟨[Value.slice none 0 0], _, rfl, ⟨_, rfl, none, ⟨0, Nat.le_refl _⟩, rfl, fun q => absurd rfl q⟩, ⟨[Value.slice none 0 0], _, rfl, ⟨_, rfl, none, ⟨0, Nat.le_refl _⟩, rfl, fun q => absurd rfl q⟩, ⟨[Value.int .i64 0], _, rfl, rfl, ⟨[Value.int .i64 0], _, rfl, rfl, ⟨[Value.slice none 0 0], _, rfl, ⟨_, rfl, none, ⟨0, Nat.le_refl _⟩, rfl, fun q => absurd rfl q⟩, rfl⟩⟩⟩⟩⟩⟩⟩⟩, rfl⟩
theorem C5 {n : Nat} : ElT Tryz.prog 46 (aR (n + 1)) 128 GPl.zero := ⟨dl, (by rw [rPl_k]; decide), Tryz.t46, (.agg #[Value.int .i64 0, Value.int .i64 0, Value.slice none 0 0, Value.slice none 0 0, Value.slice none 0 0, Value.int .i64 0, Value.int .i64 0, Value.slice none 0 0]), by kernel_rfl, by kernel_rfl, by kernel_rfl, by kernel_rfl, ss⟩
structure Gplan where
 Plan : aG
 schema : GSchema
def yE (n : Nat) : List (SF Gplan) := [⟨aG, 46, aR (n + 1), Gplan.Plan⟩, ⟨GSchema, 41, aV, Gplan.schema⟩]
abbrev gL (n : Nat) : Rp Gplan := bG (yE n)
theorem B1 {n : Nat} : TyOf Tryz.prog 217 (gL n) := ⟨fun w => Tryz.isAgg217 w, fun w => Tryz.sizeOf217 w⟩
theorem dw {n : Nat} : StructOf Tryz.prog 217 (yE n) := ⟨⟨_, Tryz.underlying217, ⟨rfl, rfl, dl, (by show (rPl _ _ _ _).k ≠ 0; rw [rPl_k]; decide), ⟨rfl, rfl, fR, by decide, trivial⟩⟩⟩, B1⟩
theorem AT : TyOf Tryz.prog 210 rV := ⟨fun w => Tryz.isAgg210 w, fun w => Tryz.sizeOf210 w⟩
theorem B2 : TyOf Tryz.prog 211 rV := ⟨fun w => Tryz.isAgg211 w, fun w => Tryz.sizeOf211 w⟩
theorem CA : TyOf Tryz.prog 79 rV := ⟨fun w => Tryz.isAgg79 w, fun w => Tryz.sizeOf79 w⟩
structure Gkind where
 kids : Int
 columns : Value
 rows : Value
 rest : Value
def tf : Gkind := { kids := 0, columns := Value.nilFunc, rows := Value.nilFunc, rest := Value.nilFunc }
instance : Inhabited Gkind := ⟨tf⟩
def yF : List (SF Gkind) := [⟨Int, 3, bg, Gkind.kids⟩, ⟨Value, 210, rV, Gkind.columns⟩, ⟨Value, 211, rV, Gkind.rows⟩, ⟨Value, 79, rV, Gkind.rest⟩]
abbrev ge : Rp Gkind := bG yF
theorem AU : TyOf Tryz.prog 213 ge := ⟨fun w => Tryz.isAgg213 w, fun w => Tryz.sizeOf213 w⟩
theorem lo : StructOf Tryz.prog 213 yF := ⟨⟨_, Tryz.underlying213, ⟨rfl, rfl, ty3, by decide, ⟨rfl, rfl, AT, by decide, ⟨rfl, rfl, B2, by decide, ⟨rfl, rfl, CA, by decide, trivial⟩⟩⟩⟩⟩, AU⟩
theorem zA : ∀ h, (ge.ty tf).p h (.agg #[Value.int .i64 0, Value.nilFunc, Value.nilFunc, Value.nilFunc]) := fun _ => ⟨_, ⟨[Value.int .i64 0], _, rfl, rfl, ⟨[Value.nilFunc], _, rfl, ⟨rfl, rfl⟩, ⟨[Value.nilFunc], _, rfl, ⟨rfl, rfl⟩, ⟨[Value.nilFunc], _, rfl, ⟨rfl, rfl⟩, rfl⟩⟩⟩⟩, rfl⟩
structure Gplace where
 up : Int
 value : GValue
 fixed : Bool
def AV : Gplace := { up := 0, value := zValue, fixed := false }
instance : Inhabited Gplace := ⟨AV⟩
structure Gbuilder where
 schema : GSchema
 tables : List Int
 start : List Int
 places : List Gplace
 self : List Int
 bad : Bool
def xv : Gbuilder := { schema := lP, tables := [], start := [], places := [], self := [], bad := false }
instance : Inhabited Gbuilder := ⟨xv⟩
structure GPlace where
 Atom : Int
 Col : Int
 To : Int
 Const : GValue
 Fixed : Bool
def AW : GPlace := { Atom := 0, Col := 0, To := 0, Const := zValue, Fixed := false }
instance : Inhabited GPlace := ⟨AW⟩
structure GBuilder where
 S : GSchema
 Tables : List Int
 Places : List GPlace
 Self : List Int
 Bad : Bool
def xw : GBuilder := { S := lP, Tables := [], Places := [], Self := [], Bad := false }
instance : Inhabited GBuilder := ⟨xw⟩
structure GStats where
 Rows : List Int
 Distinct : List (List Int)
def zStats : GStats := { Rows := [], Distinct := [] }
instance : Inhabited GStats := ⟨zStats⟩
def n3 : List (SF GStats) := [⟨List Int, 36, (rSl bg), GStats.Rows⟩, ⟨List (List Int), 58, (rSl (rSl bg)), GStats.Distinct⟩]
abbrev bA : Rp GStats := bG n3
theorem gh : TyOf Tryz.prog 60 bA := ⟨fun w => Tryz.isAgg60 w, fun w => Tryz.sizeOf60 w⟩
theorem iO : StructOf Tryz.prog 60 n3 := ⟨⟨_, Tryz.underlying60, ⟨rfl, rfl, bY, by decide, ⟨rfl, rfl, nq, by decide, trivial⟩⟩⟩, gh⟩
theorem BP : ∀ h, (bA.ty zStats).p h (.agg #[Value.slice none 0 0, Value.slice none 0 0]) := fun _ => ⟨_, ⟨[Value.slice none 0 0], _, rfl, ⟨_, rfl, none, ⟨0, Nat.le_refl _⟩, rfl, fun q => absurd rfl q⟩, ⟨[Value.slice none 0 0], _, rfl, ⟨_, rfl, none, ⟨0, Nat.le_refl _⟩, rfl, fun q => absurd rfl q⟩, rfl⟩⟩, rfl⟩
def eK (v : GValue) : Bool :=
  if v.Kind ≠ 1 /\ v.Text ≠ ⟨#[]⟩ then false
  else if v.Kind = 0 then decide (0 <= v.N) && decide (v.N <= 0)
  else if v.Kind = 1 then (if 200 < (v.Text.size : Int) then false else decide (0 <= v.N) && decide (v.N <= 0))
  else if v.Kind = 2 then decide (-1000000000 <= v.N) && decide (v.N <= 1000000000)
  else if v.Kind = 3 then decide (0 <= v.N) && decide (v.N <= 73048)
  else if v.Kind = 4 then decide (0 <= v.N) && decide (v.N <= 1)
  else false
theorem nr (v : GValue) : Fun1 prog 50 [rValue.ty v] (tV (.bool (eK v))) := by
 refine Spec.enter func50 rfl rfl fun h0 w0 fr0 => ?_
 refine Jr (Zs (aJ (R := rValue) Sr) (Za (ae (ar (Jr ?_)))))
 refine Zs (aa eT Sr rfl) (Zl ty3 Sr (Zs (bb Sr Sr) (Zm ?_)))
 refine Zk (aa eT Sr rfl) ?_
 refine Zg (fun hw => ab ty9 (Sub.w hw)) (Zg (fun hw => fV (Sub.w hw) Sr) (Zs (aw Sr Sr) (ae ?_)))
 refine au Sr (fun hc1 => ?_) (fun hc1 => ?_)
 ·
  try simp only [NF] at hc1
  refine Jr (Za (ae (aF ?_)))
  refine aK (t := 2) rfl () ?_
  refine Sub.bool ?_
  simp [eK, hc1]
 try simp only [NF] at hc1
 refine ay (Jr (Za (Za (ae (ar ?_)))))
 refine Jr (Zs (aa eT Sr rfl) (Zl ty3 Sr (ae (av (Jr ?_)))))
 refine Zs (aC Sr Sr) (Za (ae ?_))
 refine au Sr (fun hc2 => ?_) (fun hc2 => ?_)
 ·
  try simp only [NF] at hc2
  refine ay (Jr (Zm (Zs (aa eT Sr rfl) (Zl ty3 Sr (Zs (bM Sr Sr) ?_)))))
  refine Zm ?_
  refine Zk (aa eT Sr rfl) ?_
  refine Zg (fun hw => ab ty3 (Sub.w hw)) ?_
  refine Zk (al Sr) ?_
  refine Zg (fun hw => bM (Sub.w hw) (Sub.w hw)) (Zs (aw Sr Sr) (Za (ae (aF ?_))))
  refine aK (t := 2) rfl () ?_
  refine Sub.bool ?_
  have h1 : ¬ (v.Kind ≠ 1 /\ v.Text ≠ ⟨#[]⟩) := by rintro ⟨p, q⟩; rcases hc1 with hc1 | hc1 <;> contradiction
  simp only [eK, if_neg h1]
  simp [*]
 try simp only [NF] at hc2
 refine Jr (Zs (aC Sr Sr) (Za (ae ?_)))
 refine au Sr (fun hc3 => ?_) (fun hc3 => ?_)
 ·
  try simp only [NF] at hc3
  refine Jr (Zs (aa eT Sr rfl) (Zl ty9 Sr (Zs (df underlying9 Sr) (Zs (bD Sr Sr) (ae ?_)))))
  refine au Sr (fun hc4 => ?_) (fun hc4 => ?_)
  ·
   try simp only [NF] at hc4
   refine Jr (Za (ae (aF ?_)))
   refine aK (t := 2) rfl () ?_
   refine Sub.bool ?_
   have h1 : ¬ (v.Kind ≠ 1 /\ v.Text ≠ ⟨#[]⟩) := by rintro ⟨p, q⟩; rcases hc1 with hc1 | hc1 <;> contradiction
   simp only [eK, if_neg h1]
   first | (simp [*]; done) | (simp_all; omega)
  try simp only [NF] at hc4
  refine ay (Jr (Zm (Zs (aa eT Sr rfl) (Zl ty3 Sr (Zs (bM Sr Sr) ?_)))))
  refine Zm ?_
  refine Zk (aa eT Sr rfl) ?_
  refine Zg (fun hw => ab ty3 (Sub.w hw)) ?_
  refine Zk (al Sr) ?_
  refine Zg (fun hw => bM (Sub.w hw) (Sub.w hw)) (Zs (aw Sr Sr) (Za (ae (aF ?_))))
  refine aK (t := 2) rfl () ?_
  refine Sub.bool ?_
  have h1 : ¬ (v.Kind ≠ 1 /\ v.Text ≠ ⟨#[]⟩) := by rintro ⟨p, q⟩; rcases hc1 with hc1 | hc1 <;> contradiction
  simp only [eK, if_neg h1]
  first | (simp [*]; done) | (simp_all; omega)
 try simp only [NF] at hc3
 refine Jr (Zs (aC Sr Sr) (Za (ae ?_)))
 refine au Sr (fun hc5 => ?_) (fun hc5 => ?_)
 ·
  try simp only [NF] at hc5
  refine aq (Za (Za (ae (Jr (Zm ?_)))))
  refine Zs (aa eT Sr rfl) (Zl ty3 Sr (Zs (bM Sr Sr) (Zm ?_)))
  refine Zk (aa eT Sr rfl) ?_
  refine Zg (fun hw => ab ty3 (Sub.w hw)) ?_
  refine Zk (al Sr) ?_
  refine Zg (fun hw => bM (Sub.w hw) (Sub.w hw)) (Zs (aw Sr Sr) (Za (ae (aF ?_))))
  refine aK (t := 2) rfl () ?_
  refine Sub.bool ?_
  have h1 : ¬ (v.Kind ≠ 1 /\ v.Text ≠ ⟨#[]⟩) := by rintro ⟨p, q⟩; rcases hc1 with hc1 | hc1 <;> contradiction
  simp only [eK, if_neg h1]
  first | (simp [*]; done) | (simp_all; omega)
 try simp only [NF] at hc5
 refine Jr (Zs (aC Sr Sr) (Za (ae ?_)))
 refine au Sr (fun hc6 => ?_) (fun hc6 => ?_)
 ·
  try simp only [NF] at hc6
  refine aq (Za (ae (Jr (Zm (Zs (aa eT Sr rfl) ?_)))))
  refine Zl ty3 Sr (Zs (bM Sr Sr) (Zm ?_))
  refine Zk (aa eT Sr rfl) ?_
  refine Zg (fun hw => ab ty3 (Sub.w hw)) ?_
  refine Zk (al Sr) ?_
  refine Zg (fun hw => bM (Sub.w hw) (Sub.w hw)) (Zs (aw Sr Sr) (Za (ae (aF ?_))))
  refine aK (t := 2) rfl () ?_
  refine Sub.bool ?_
  have h1 : ¬ (v.Kind ≠ 1 /\ v.Text ≠ ⟨#[]⟩) := by rintro ⟨p, q⟩; rcases hc1 with hc1 | hc1 <;> contradiction
  simp only [eK, if_neg h1]
  first | (simp [*]; done) | (simp_all; omega)
 try simp only [NF] at hc6
 refine Jr (Zs (aC Sr Sr) (Za (ae ?_)))
 refine au Sr (fun hc7 => ?_) (fun hc7 => ?_)
 ·
  try simp only [NF] at hc7
  refine aq (Za (ae (Jr (Zm (Zs (aa eT Sr rfl) ?_)))))
  refine Zl ty3 Sr (Zs (bM Sr Sr) (Zm ?_))
  refine Zk (aa eT Sr rfl) ?_
  refine Zg (fun hw => ab ty3 (Sub.w hw)) ?_
  refine Zk (al Sr) ?_
  refine Zg (fun hw => bM (Sub.w hw) (Sub.w hw)) (Zs (aw Sr Sr) (Za (ae (aF ?_))))
  refine aK (t := 2) rfl () ?_
  refine Sub.bool ?_
  have h1 : ¬ (v.Kind ≠ 1 /\ v.Text ≠ ⟨#[]⟩) := by rintro ⟨p, q⟩; rcases hc1 with hc1 | hc1 <;> contradiction
  simp only [eK, if_neg h1]
  first | (simp [*]; done) | (simp_all; omega)
 try simp only [NF] at hc7
 refine Jr (Za (ae (aF ?_)))
 refine aK (t := 2) rfl () ?_
 refine Sub.bool ?_
 have h1 : ¬ (v.Kind ≠ 1 /\ v.Text ≠ ⟨#[]⟩) := by rintro ⟨p, q⟩; rcases hc1 with hc1 | hc1 <;> contradiction
 simp only [eK, if_neg h1]
 first | (simp [*]; done) | (simp_all; omega)
abbrev kvV (v : GValue) : Value := .agg #[.int .i64 v.Kind, .int .i64 v.N, .string v.Text]
instance : DecidableEq GValue := fun a b => decidable_of_iff (a.Kind = b.Kind /\ a.N = b.N /\ a.Text = b.Text) ⟨fun ⟨h1, h2, h3⟩ => by cases a; cases b; simp_all, fun h => by subst h; exact ⟨rfl, rfl, rfl⟩⟩
theorem Sub.val {x : GValue} : Sub (rValue.ty x) (tV (kvV x)) := fun h v r => by
  obtain ⟨cs, r, rfl⟩ := r
  obtain ⟨c0, _, rfl, r0, c1, _, rfl, r1, c2, _, rfl, r2, rz⟩ := r
  have r0 : c0 = [.int .i64 x.Kind] := r0
  have r1 : c1 = [.int .i64 x.N] := r1
  have r2 : c2 = [.string x.Text] := r2
  subst r0 r1 r2; rw [show _ = [] from rz]; rfl
theorem toL_eq (a b : ByteArray) : (a.toList == b.toList) = decide (a = b) := by
  rw [<- beq_toListBytes]
  obtain ⟨⟨x⟩⟩ := a
  obtain ⟨⟨y⟩⟩ := b
  show ((⟨x⟩ : Array UInt8) == ⟨y⟩) = _
  rw [Bool.eq_iff_iff]; simp
theorem su (a b : GValue) (w : World) : (Op.equalIn 10000 87 (kvV a) (kvV b)).run prog w = .ok (decide (a = b)) w := by
  have u3 := underlying3
  have u9 := underlying9
  have a3 := isAgg3
  have a9 := isAgg9
  have z3 := sizeOf3
  have z9 := sizeOf9
  have hS : prog.underlying 87 = some (.struct (prog.fieldsOf 87)) := by kernel_rfl
  have hp : prog.stoodInHeld 87 = false := by kernel_rfl
  rw [show (10000 : Nat) = 9999 + 1 from rfl, run_equalIn_agg w 9999 87 _ _ hS hp]
  simp only [Program.fieldsOf, underlying87]
  go_simp
  have e : decide (a = b) = (decide (a.Kind = b.Kind) && (decide (a.N = b.N) && decide (a.Text = b.Text))) := by
    rw [Bool.eq_iff_iff]; simp
    constructor
    · intro h; subst h; exact ⟨rfl, rfl, rfl⟩
    · rintro ⟨h1, h2, h3⟩; cases a; cases b; simp_all
  have e2 : (a.Text.toList = b.Text.toList) ↔ a.Text = b.Text := by
    have := toL_eq a.Text b.Text
    rw [Bool.eq_iff_iff] at this
    simpa using this
  rw [e]
  by_cases h1 : a.Kind = b.Kind <;> by_cases h2 : a.N = b.N <;> by_cases h3 : a.Text = b.Text <;> simp [h1, h2, h3, e2]
theorem xx : prog.eqGuardType prog.depth 87 = false := by kernel_rfl
theorem kP {ro : Option Nat} {N : Nat} {ds : List Deferred} {h0 : PH} {w0 : World} {r : PH} {E : Env} {L : List SP} {d : Option Nat} {ty : Nat} {pos : String} {af : Array Edge} {g : Option (Nat × Bool)} {x y : Operand} {U : Nat} {a b : GValue} (hx : Sub (opTy E x) (rValue.ty a)) (hy : Sub (opTy E y) (rValue.ty b)) :
    bs ⟨prog, ro, N, ds, h0, w0, r⟩ ⟨d, .binOp .eql 87 x y U, ty, pos, af, g⟩ E L (tV (.bool (decide (a = b)))) :=
  DF (by intro c h; cases h) fun ac w h hw f => by
    have h1 : ac.eval x = kvV a := f.get (Sub.trans hx Sub.val)
    have h2 : ac.eval y = kvV b := f.get (Sub.trans hy Sub.val)
    have he := run_eqGuard_agg (P := prog) w .eql 87 x y #[.int .i64 a.Kind, .int .i64 a.N, .string a.Text] #[.int .i64 b.Kind, .int .i64 b.N, .string b.Text] xx
    refine ⟨.bool (decide (a = b)), ?_, rfl⟩
    simp [execOp, h1, h2, Sem.run_bind, he, run_eql_struct, su]
def findI {α : Type} (p : α -> Bool) : Int -> List α -> Int
  | _, [] => -1
  | i, x :: l => if p x then i else findI p (i + 1) l
theorem fu {α : Type} (p : α -> Bool) : ∀ (l : List α) (i : Int), 0 <= i -> -1 <= findI p i l /\ findI p i l < i + l.length /\ (0 <= findI p i l ↔ l.any p = true)
  | [], i, h => by simp [findI]; omega
  | x :: l, i, h => by
    have ih := fu p l (i + 1) (by omega)
    simp only [findI, List.length_cons, List.any_cons]
    by_cases hx : p x = true
    · simp [hx]; omega
    · simp only [hx, Bool.false_or]
      simp only [Bool.false_eq_true, if_false]
      refine ⟨ih.1, by have := ih.2.1; omega, ih.2.2⟩
theorem B3 {α : Type} [Inhabited α] {p : α -> Bool} {l : List α} (h : ∀ k, k < l.length -> p (nth l k) = false) : l.any p = false := by
  rw [List.any_eq_false]
  intro x hx
  obtain ⟨k, hk, rfl⟩ := List.getElem_of_mem hx
  have := h k hk
  rw [nth_get hk] at this
  simp [this]
theorem AX {α : Type} [Inhabited α] {p : α -> Bool} {l : List α} {k : Nat} (hk : k < l.length) (h : p (nth l k) = true) : l.any p = true := by
  rw [List.any_eq_true]
  exact ⟨_, aH hk, h⟩
theorem iP {α : Type} [Inhabited α] {p : α -> Bool} {l : List α} (h : ∀ k, k < l.length -> p (nth l k) = true) : l.all p = true := by
  rw [List.all_eq_true]
  intro x hx
  obtain ⟨k, hk, rfl⟩ := List.getElem_of_mem hx
  have := h k hk
  rwa [nth_get hk] at this
theorem gZ {α : Type} [Inhabited α] {p : α -> Bool} {l : List α} {k : Nat} (hk : k < l.length) (h : p (nth l k) = false) : l.all p = false := by
  rw [List.all_eq_false]
  exact ⟨_, aH hk, by simp [h]⟩
theorem kr {α : Type} [Inhabited α] {p : α -> Prop} {l : List α} {i : Nat} (hlt : i < l.length) (hv : ∀ k, k < i -> p (nth l k)) (h : p (nth l i)) : i + 1 <= l.length /\ ∀ k, k < i + 1 -> p (nth l k) :=
  ⟨hlt, fun k hk => by
    by_cases e : k = i
    · subst e; exact h
    · exact hv k (by omega)⟩
theorem lQ (l : List Int) (hl : l.length <= 1000000000000) (gi : Nat) (As : List Ty) (p : Int -> Bool) (hp : ∀ x ∈ l, Fun1 prog gi ([tV (.int .i64 x)] ++ As) (tV (.bool (p x)))) (he : ∀ args w, (callFunc gi args).run prog w = .ok (.enter gi args) w) : Fun1 prog 117 [tSl bg l, g4 gi As] (tV (.int .i64 (findI p 0 l))) := by
 refine Spec.enter func117 rfl rfl fun h0 w0 fr0 => ?_
 refine Jr (Za (ae (ar (Jr (Zm ?_)))))
 refine Zs (ah underlying36 Sr) (Zm (ae (av ?_)))
 refine aO (σ := Nat) (fun i => i <= l.length /\ findI p 0 l = findI p i (l.drop i)) (fun i => upd (upd (upd (upd cg 0 (tSl bg l)) 1 (g4 gi As)) 7 (tV (.int .i64 l.length))) 8 (tV (.int .i64 i))) (fun i => []) (fun i => l.length - i) 0 ⟨by omega, by simp⟩ (zU) (LSub.rfl) ?_
 rintro i ⟨hi, hv⟩
 refine Jr (Zs (aA Sr Sr) (ae (ar ?_)))
 refine au Sr (fun h9 => ?_) (fun h9 => ?_)
 ·
  try simp only [NF] at h9
  have hlt : i < l.length := by omega
  have hd := nU hlt
  refine ay (ar (av (Jr (Zm (Za ?_)))))
  refine ae (Jr (Zm (Zm (Zm ?_))))
  refine Zs (ad  underlying36 ty3 Sr Sr rfl (gb (by first | assumption | omega))) ?_
  refine Zl ty3 Sr (Zs (bH (aT := [_]) Sr (hp _ (aH hlt)) ⟨Sr, trivial⟩ he) (ae ?_))
  refine au Sr (fun h16 => ?_) (fun h16 => ?_)
  ·
   try simp only [NF] at h16
   refine Jr (Zm (Za (ae (aF ?_))))
   refine cW (rv := .tmp 4) rfl () (.tmp Sr) (Sub.int ?_)
   rw [hv, hd]; simp only [findI]; rw [if_pos h16]
  try simp only [NF] at h16
  refine ay (aq (Zs (aB Sr Sr z6) (Zm (ae ?_))))
  refine aE (σ := Nat) (s := i) (i + 1) zO ?_ (zU) (LSub.rfl)
  refine ⟨by omega, ?_⟩
  rw [hv, hd]; simp only [findI]; rw [if_neg (by simp [h16])]; simp
 try simp only [NF] at h9
 refine aY (Jr (Za (ae (aF ?_))))
 refine cW (rv := .tmp 4) rfl () (.tmp Sr) (Sub.int ?_)
 rw [hv, List.drop_of_length_le zG]; rfl
theorem jy (l : List Int) (hl : l.length <= 1000000000000) (gi : Nat) (As : List Ty) (p : Int -> Bool) (hp : ∀ x ∈ l, Fun1 prog gi ([tV (.int .i64 x)] ++ As) (tV (.bool (p x)))) (he : ∀ args w, (callFunc gi args).run prog w = .ok (.enter gi args) w) : Fun1 prog 63 [tSl bg l, g4 gi As] (tV (.bool (l.any p))) := by
 refine Spec.enter func63 rfl rfl fun h0 w0 fr0 => ?_
 refine Jr (Za (ae (Jr (Zm (Zm ?_)))))
 refine Zs (ai (lQ l hl gi As p hp he) ⟨Sr, Sr, trivial⟩ call117) (Zs (bE Sr Sr) (Za (ae (aF ?_))))
 refine cW (rv := .tmp 4) rfl () (.tmp Sr) (Sub.bool ?_)
 have hq := (fu p l 0 zG).2.2
 by_cases ha : l.any p = true
 ·
  rw [ha]; simp; exact hq.2 ha
 simp only [Bool.not_eq_true] at ha; rw [ha]; simp; have : ¬ 0 <= findI p 0 l := (fun h => by rw [hq.1 h] at ha; cases ha)
 omega
theorem lR (l : List ByteArray) (hl : l.length <= 1000000000000) (gi : Nat) (As : List Ty) (p : ByteArray -> Bool) (hp : ∀ x ∈ l, Fun1 prog gi ([tV (.string x)] ++ As) (tV (.bool (p x)))) (he : ∀ args w, (callFunc gi args).run prog w = .ok (.enter gi args) w) : Fun1 prog 292 [tSl eH l, g4 gi As] (tV (.int .i64 (findI p 0 l))) := by
 refine Spec.enter func292 rfl rfl fun h0 w0 fr0 => ?_
 refine Jr (Za (ae (ar (Jr (Zm ?_)))))
 refine Zs (ah underlying85 Sr) (Zm (ae (av ?_)))
 refine aO (σ := Nat) (fun i => i <= l.length /\ findI p 0 l = findI p i (l.drop i)) (fun i => upd (upd (upd (upd cg 0 (tSl eH l)) 1 (g4 gi As)) 7 (tV (.int .i64 l.length))) 8 (tV (.int .i64 i))) (fun i => []) (fun i => l.length - i) 0 ⟨by omega, by simp⟩ (zU) (LSub.rfl) ?_
 rintro i ⟨hi, hv⟩
 refine Jr (Zs (aA Sr Sr) (ae (ar ?_)))
 refine au Sr (fun h9 => ?_) (fun h9 => ?_)
 ·
  try simp only [NF] at h9
  have hlt : i < l.length := by omega
  have hd := nU hlt
  refine ay (ar (av (Jr (Zm (Za ?_)))))
  refine ae (Jr (Zm (Zm (Zm ?_))))
  refine Zs (ad  underlying85 ty9 Sr Sr rfl (gb (by first | assumption | omega))) ?_
  refine Zl ty9 Sr (Zs (bH (aT := [_]) Sr (hp _ (aH hlt)) ⟨Sr, trivial⟩ he) (ae ?_))
  refine au Sr (fun h16 => ?_) (fun h16 => ?_)
  ·
   try simp only [NF] at h16
   refine Jr (Zm (Za (ae (aF ?_))))
   refine cW (rv := .tmp 4) rfl () (.tmp Sr) (Sub.int ?_)
   rw [hv, hd]; simp only [findI]; rw [if_pos h16]
  try simp only [NF] at h16
  refine ay (aq (Zs (aB Sr Sr z6) (Zm (ae ?_))))
  refine aE (σ := Nat) (s := i) (i + 1) zO ?_ (zU) (LSub.rfl)
  refine ⟨by omega, ?_⟩
  rw [hv, hd]; simp only [findI]; rw [if_neg (by simp [h16])]; simp
 try simp only [NF] at h9
 refine aY (Jr (Za (ae (aF ?_))))
 refine cW (rv := .tmp 4) rfl () (.tmp Sr) (Sub.int ?_)
 rw [hv, List.drop_of_length_le zG]; rfl
theorem jz (l : List ByteArray) (hl : l.length <= 1000000000000) (gi : Nat) (As : List Ty) (p : ByteArray -> Bool) (hp : ∀ x ∈ l, Fun1 prog gi ([tV (.string x)] ++ As) (tV (.bool (p x)))) (he : ∀ args w, (callFunc gi args).run prog w = .ok (.enter gi args) w) : Fun1 prog 236 [tSl eH l, g4 gi As] (tV (.bool (l.any p))) := by
 refine Spec.enter func236 rfl rfl fun h0 w0 fr0 => ?_
 refine Jr (Za (ae (Jr (Zm (Zm ?_)))))
 refine Zs (ai (lR l hl gi As p hp he) ⟨Sr, Sr, trivial⟩ call292) (Zs (bE Sr Sr) (Za (ae (aF ?_))))
 refine cW (rv := .tmp 4) rfl () (.tmp Sr) (Sub.bool ?_)
 have hq := (fu p l 0 zG).2.2
 by_cases ha : l.any p = true
 ·
  rw [ha]; simp; exact hq.2 ha
 simp only [Bool.not_eq_true] at ha; rw [ha]; simp; have : ¬ 0 <= findI p 0 l := (fun h => by rw [hq.1 h] at ha; cases ha)
 omega
theorem lS (l : List GTest) (hl : l.length <= 1000000000000) (gi : Nat) (As : List Ty) (p : GTest -> Bool) (hp : ∀ x ∈ l, Fun1 prog gi ([be.ty x] ++ As) (tV (.bool (p x)))) (he : ∀ args w, (callFunc gi args).run prog w = .ok (.enter gi args) w) : Fun1 prog 297 [tSl be l, g4 gi As] (tV (.int .i64 (findI p 0 l))) := by
 refine Spec.enter func297 rfl rfl fun h0 w0 fr0 => ?_
 refine Jr (Za (ae (ar (Jr (Zm ?_)))))
 refine Zs (ah underlying43 Sr) (Zm (ae (av ?_)))
 refine aO (σ := Nat) (fun i => i <= l.length /\ findI p 0 l = findI p i (l.drop i)) (fun i => upd (upd (upd (upd cg 0 (tSl be l)) 1 (g4 gi As)) 7 (tV (.int .i64 l.length))) 8 (tV (.int .i64 i))) (fun i => []) (fun i => l.length - i) 0 ⟨by omega, by simp⟩ (zU) (LSub.rfl) ?_
 rintro i ⟨hi, hv⟩
 refine Jr (Zs (aA Sr Sr) (ae (ar ?_)))
 refine au Sr (fun h9 => ?_) (fun h9 => ?_)
 ·
  try simp only [NF] at h9
  have hlt : i < l.length := by omega
  have hd := nU hlt
  refine ay (ar (av (Jr (Zm (Za ?_)))))
  refine ae (Jr (Zm (Zm (Zm ?_))))
  refine Zs (ad  underlying43 fd Sr Sr rfl (gb (by first | assumption | omega))) ?_
  refine Zl fd Sr (Zs (bH (aT := [_]) Sr (hp _ (aH hlt)) ⟨Sr, trivial⟩ he) (ae ?_))
  refine au Sr (fun h16 => ?_) (fun h16 => ?_)
  ·
   try simp only [NF] at h16
   refine Jr (Zm (Za (ae (aF ?_))))
   refine cW (rv := .tmp 4) rfl () (.tmp Sr) (Sub.int ?_)
   rw [hv, hd]; simp only [findI]; rw [if_pos h16]
  try simp only [NF] at h16
  refine ay (aq (Zs (aB Sr Sr z6) (Zm (ae ?_))))
  refine aE (σ := Nat) (s := i) (i + 1) zO ?_ (zU) (LSub.rfl)
  refine ⟨by omega, ?_⟩
  rw [hv, hd]; simp only [findI]; rw [if_neg (by simp [h16])]; simp
 try simp only [NF] at h9
 refine aY (Jr (Za (ae (aF ?_))))
 refine cW (rv := .tmp 4) rfl () (.tmp Sr) (Sub.int ?_)
 rw [hv, List.drop_of_length_le zG]; rfl
theorem jA (l : List GTest) (hl : l.length <= 1000000000000) (gi : Nat) (As : List Ty) (p : GTest -> Bool) (hp : ∀ x ∈ l, Fun1 prog gi ([be.ty x] ++ As) (tV (.bool (p x)))) (he : ∀ args w, (callFunc gi args).run prog w = .ok (.enter gi args) w) : Fun1 prog 246 [tSl be l, g4 gi As] (tV (.bool (l.any p))) := by
 refine Spec.enter func246 rfl rfl fun h0 w0 fr0 => ?_
 refine Jr (Za (ae (Jr (Zm (Zm ?_)))))
 refine Zs (ai (lS l hl gi As p hp he) ⟨Sr, Sr, trivial⟩ call297) (Zs (bE Sr Sr) (Za (ae (aF ?_))))
 refine cW (rv := .tmp 4) rfl () (.tmp Sr) (Sub.bool ?_)
 have hq := (fu p l 0 zG).2.2
 by_cases ha : l.any p = true
 ·
  rw [ha]; simp; exact hq.2 ha
 simp only [Bool.not_eq_true] at ha; rw [ha]; simp; have : ¬ 0 <= findI p 0 l := (fun h => by rw [hq.1 h] at ha; cases ha)
 omega
theorem dO (l : List GAttr) (hl : l.length <= 1000000000000) (gi : Nat) (As : List Ty) (p : GAttr -> Bool) (hp : ∀ x ∈ l, Fun1 prog gi ([aS.ty x] ++ As) (tV (.bool (p x)))) (he : ∀ args w, (callFunc gi args).run prog w = .ok (.enter gi args) w) : Fun1 prog 114 [tSl aS l, g4 gi As] (tV (.int .i64 (findI p 0 l))) := by
 refine Spec.enter func114 rfl rfl fun h0 w0 fr0 => ?_
 refine Jr (Za (ae (ar (Jr (Zm ?_)))))
 refine Zs (ah underlying44 Sr) (Zm (ae (av ?_)))
 refine aO (σ := Nat) (fun i => i <= l.length /\ findI p 0 l = findI p i (l.drop i)) (fun i => upd (upd (upd (upd cg 0 (tSl aS l)) 1 (g4 gi As)) 7 (tV (.int .i64 l.length))) 8 (tV (.int .i64 i))) (fun i => []) (fun i => l.length - i) 0 ⟨by omega, by simp⟩ (zU) (LSub.rfl) ?_
 rintro i ⟨hi, hv⟩
 refine Jr (Zs (aA Sr Sr) (ae (ar ?_)))
 refine au Sr (fun h9 => ?_) (fun h9 => ?_)
 ·
  try simp only [NF] at h9
  have hlt : i < l.length := by omega
  have hd := nU hlt
  refine ay (ar (av (Jr (Zm (Za ?_)))))
  refine ae (Jr (Zm (Zm (Zm ?_))))
  refine Zs (ad  underlying44 ct Sr Sr rfl (gb (by first | assumption | omega))) ?_
  refine Zl ct Sr (Zs (bH (aT := [_]) Sr (hp _ (aH hlt)) ⟨Sr, trivial⟩ he) (ae ?_))
  refine au Sr (fun h16 => ?_) (fun h16 => ?_)
  ·
   try simp only [NF] at h16
   refine Jr (Zm (Za (ae (aF ?_))))
   refine cW (rv := .tmp 4) rfl () (.tmp Sr) (Sub.int ?_)
   rw [hv, hd]; simp only [findI]; rw [if_pos h16]
  try simp only [NF] at h16
  refine ay (aq (Zs (aB Sr Sr z6) (Zm (ae ?_))))
  refine aE (σ := Nat) (s := i) (i + 1) zO ?_ (zU) (LSub.rfl)
  refine ⟨by omega, ?_⟩
  rw [hv, hd]; simp only [findI]; rw [if_neg (by simp [h16])]; simp
 try simp only [NF] at h9
 refine aY (Jr (Za (ae (aF ?_))))
 refine cW (rv := .tmp 4) rfl () (.tmp Sr) (Sub.int ?_)
 rw [hv, List.drop_of_length_le zG]; rfl
theorem kw (l : List GTable) (hl : l.length <= 1000000000000) (gi : Nat) (As : List Ty) (p : GTable -> Bool) (hp : ∀ x ∈ l, Fun1 prog gi ([cc.ty x] ++ As) (tV (.bool (p x)))) (he : ∀ args w, (callFunc gi args).run prog w = .ok (.enter gi args) w) : Fun1 prog 240 [tSl cc l, g4 gi As] (tV (.int .i64 (findI p 0 l))) := by
 refine Spec.enter func240 rfl rfl fun h0 w0 fr0 => ?_
 refine Jr (Za (ae (ar (Jr (Zm ?_)))))
 refine Zs (ah underlying39 Sr) (Zm (ae (av ?_)))
 refine aO (σ := Nat) (fun i => i <= l.length /\ findI p 0 l = findI p i (l.drop i)) (fun i => upd (upd (upd (upd cg 0 (tSl cc l)) 1 (g4 gi As)) 7 (tV (.int .i64 l.length))) 8 (tV (.int .i64 i))) (fun i => []) (fun i => l.length - i) 0 ⟨by omega, by simp⟩ (zU) (LSub.rfl) ?_
 rintro i ⟨hi, hv⟩
 refine Jr (Zs (aA Sr Sr) (ae (ar ?_)))
 refine au Sr (fun h9 => ?_) (fun h9 => ?_)
 ·
  try simp only [NF] at h9
  have hlt : i < l.length := by omega
  have hd := nU hlt
  refine ay (ar (av (Jr (Zm (Za ?_)))))
  refine ae (Jr (Zm (Zm (Zm ?_))))
  refine Zs (ad  underlying39 g8 Sr Sr rfl (gb (by first | assumption | omega))) ?_
  refine Zl g8 Sr (Zs (bH (aT := [_]) Sr (hp _ (aH hlt)) ⟨Sr, trivial⟩ he) (ae ?_))
  refine au Sr (fun h16 => ?_) (fun h16 => ?_)
  ·
   try simp only [NF] at h16
   refine Jr (Zm (Za (ae (aF ?_))))
   refine cW (rv := .tmp 4) rfl () (.tmp Sr) (Sub.int ?_)
   rw [hv, hd]; simp only [findI]; rw [if_pos h16]
  try simp only [NF] at h16
  refine ay (aq (Zs (aB Sr Sr z6) (Zm (ae ?_))))
  refine aE (σ := Nat) (s := i) (i + 1) zO ?_ (zU) (LSub.rfl)
  refine ⟨by omega, ?_⟩
  rw [hv, hd]; simp only [findI]; rw [if_neg (by simp [h16])]; simp
 try simp only [NF] at h9
 refine aY (Jr (Za (ae (aF ?_))))
 refine cW (rv := .tmp 4) rfl () (.tmp Sr) (Sub.int ?_)
 rw [hv, List.drop_of_length_le zG]; rfl
theorem re (l : List ByteArray) (v : ByteArray) (hl : l.length <= 1000000000000) : Fun1 prog 324 [tSl eH l, tV (.string v)] (tV (.int .i64 (findI (fun x => decide (v = x)) 0 l))) := by
 refine Spec.enter func324 rfl rfl fun h0 w0 fr0 => ?_
 refine Jr (Za (ae (ar (Jr (Zm ?_)))))
 refine Zs (ah underlying85 Sr) (Zm (ae (av ?_)))
 refine aO (σ := Nat) (fun i => i <= l.length /\ findI (fun x => decide (v = x)) 0 l = findI (fun x => decide (v = x)) i (l.drop i)) (fun i => upd (upd (upd (upd cg 0 (tSl eH l)) 1 (tV (.string v))) 7 (tV (.int .i64 l.length))) 8 (tV (.int .i64 i))) (fun i => []) (fun i => l.length - i) 0 ⟨by omega, by simp⟩ (zU) (LSub.rfl) ?_
 rintro i ⟨hi, hv⟩
 refine Jr (Zs (aA Sr Sr) (ae (ar ?_)))
 refine au Sr (fun h9 => ?_) (fun h9 => ?_)
 ·
  try simp only [NF] at h9
  have hlt : i < l.length := by omega
  have hd := nU hlt
  refine ay (ar (av (Jr (Zm (Za ?_)))))
  refine ae (Jr (Zm (Zm (Zm ?_))))
  refine Zs (ad  underlying85 ty9 Sr Sr rfl (gb (by first | assumption | omega))) ?_
  refine Zl ty9 Sr (Zs (bU Sr Sr) (ae ?_))
  refine au Sr (fun h16 => ?_) (fun h16 => ?_)
  ·
   try simp only [NF] at h16
   have he : v = nth l i := by first | exact h16 | simpa using h16
   refine Jr (Zm (Za (ae (aF ?_))))
   refine aZ (rv := .tmp 4) rfl () (Sel.all _) (.tmp Sr) (Frz.sub (Sub.int ?_))
   rw [hv, hd]; simp [findI, he]
  try simp only [NF] at h16
  have hne : ¬ v = nth l i := by first | exact h16 | simpa using h16
  refine ay (aq (Zs (aB Sr Sr z6) (Zm (ae ?_))))
  refine aE (σ := Nat) (s := i) (i + 1) zO ?_ (zU) (LSub.rfl)
  refine ⟨by omega, ?_⟩
  rw [hv, hd]; simp [findI, hne]
 try simp only [NF] at h9
 refine aY (Jr (Za (ae (aF ?_))))
 refine aZ (rv := .tmp 4) rfl () (Sel.all _) (.tmp Sr) (Frz.sub (Sub.int ?_))
 rw [hv, List.drop_of_length_le zG]; rfl
theorem mU (l : List ByteArray) (v : ByteArray) (hl : l.length <= 1000000000000) : Fun1 prog 296 [tSl eH l, tV (.string v)] (tV (.bool (l.any fun x => decide (v = x)))) := by
 refine Spec.enter func296 rfl rfl fun h0 w0 fr0 => ?_
 refine Jr (Za (ae (Jr (Zm (Zm ?_)))))
 refine Zs (ai (re _ _ hl) ⟨Sr, Sr, trivial⟩ call324) (Zs (bE Sr Sr) (Za (ae (aF ?_))))
 refine aZ (rv := .tmp 4) rfl () (Sel.all _) (.tmp Sr) (Frz.sub (Sub.bool ?_))
 rw [Bool.eq_iff_iff, decide_eq_true_eq]; exact (fu _ l 0 zG).2.2
section
variable {C : Cx} {E : Env} {L : List SP} {d : Option Nat} {ty : Nat} {pos : String} {af : Array Edge} {g : Option (Nat × Bool)}
end
theorem eU {n : Nat} {f : Nat -> Bool} (h : ∀ k, k < n -> f k = true) : (List.range n).all f = true := by
  rw [List.all_eq_true]; intro x hx; exact h x (List.mem_range.1 hx)
theorem eV {n i : Nat} {f : Nat -> Bool} (hi : i < n) (h : f i = false) : (List.range n).all f = false := by
  rw [List.all_eq_false]; exact ⟨i, List.mem_range.2 hi, by simp [h]⟩
theorem n4 {n : Nat} {f : Nat -> Bool} : (List.range n).all f = true ↔ ∀ k, k < n -> f k = true := by
  rw [List.all_eq_true]; exact ⟨fun h k hk => h k (List.mem_range.2 hk), fun h x hx => h x (List.mem_range.1 hx)⟩
theorem eW {α : Type} [Inhabited α] {l m : List α} (h : l.length = m.length) (hn : ∀ i, i < l.length -> nth l i = nth m i) : l = m := by
  refine List.ext_getElem h fun i h1 h2 => ?_
  have := hn i h1
  rwa [nth_get h1, nth_get h2] at this
def uL (c : Int) : Bool := (decide (97 <= c) && decide (c <= 122)) || (decide (65 <= c) && decide (c <= 90))
def uM (c : Int) : Bool := (decide (48 <= c) && decide (c <= 57)) || decide (c = 95)
def nmC (s : ByteArray) (i : Nat) : Bool := uL (nth (gK s) i) || (decide (0 < i) && uM (nth (gK s) i))
def gM (s : ByteArray) : Bool := (List.range s.size).all (nmC s) && (!decide (s = ⟨#[]⟩) && decide ((s.size : Int) <= 24))
def tg (kind : Int) (v : GValue) : Bool := eK v && (decide (v.Kind = 0) || decide (v.Kind = kind))
def n5 (s : GSchema) (n : ByteArray) : Int := findI (fun t => decide (t.Name = n)) 0 s.Tables
def d6 (t : GTable) (n : ByteArray) : Int :=
  if 0 <= findI (fun a => decide (a.Name = n)) 0 t.Attrs then findI (fun a => decide (a.Name = n)) 0 t.Attrs
  else findI (fun a => a.Was.any fun x => decide (n = x)) 0 t.Attrs
def namesL (l : List GAttr) : List ByteArray := l.flatMap fun a => a.Name :: a.Was
theorem th (l : List GAttr) (a : GAttr) : namesL (l ++ [a]) = (namesL l ++ [a.Name]) ++ a.Was := by simp [namesL]
theorem g9 {l : List GAttr} {M : Nat} (h : ∀ a ∈ l, a.Was.length <= M) : (namesL l).length <= l.length * (M + 1) := by
  induction l with
  | nil => simp [namesL]
  | cons a l ih =>
    have h1 := h a List.mem_cons_self
    have h2 := ih fun x hx => h x (List.mem_cons_of_mem _ hx)
    have e : namesL (a :: l) = (a.Name :: a.Was) ++ namesL l := by simp [namesL]
    rw [e, List.length_append, List.length_cons, List.length_cons, Nat.add_mul]
    omega
structure TabSz (t : GTable) : Prop where
  nm : t.Name.size <= 9223372036854775807
  at' : t.Attrs.length <= 1000000000
  key : t.Key.length <= 1000000000000
  was : ∀ a ∈ t.Attrs, a.Was.length <= 1000000
  nms : ∀ s ∈ namesL t.Attrs, s.size <= 9223372036854775807
structure SchSz (s : GSchema) : Prop where
  tabs : s.Tables.length <= 1000000000000
  tab : ∀ t ∈ s.Tables, TabSz t
theorem pt (s : ByteArray) (hs : s.size <= 9223372036854775807) : Fun1 prog 235 [tV (.string s)] (tV (.bool (gM s))) := by
 refine Spec.enter func235 rfl rfl fun h0 w0 fr0 => ?_
 refine Jr (Za (ae (ar (Jr (Zm ?_)))))
 refine Zs (df underlying9 Sr) (Zm (ae (av ?_)))
 refine aO (σ := Nat) (fun i => i <= s.size /\ ∀ k, k < i -> nmC s k = true) (fun i => upd (upd (upd cg 0 (tV (.string s))) 6 (tV (.int .i64 s.size))) 7 (tV (.int .i64 i))) (fun i => []) (fun i => s.size - i) 0 ⟨by omega, fun k hk => by omega⟩ (zU) (LSub.rfl) ?_
 rintro i ⟨hi, hv⟩
 refine Jr (Zs (aA Sr Sr) (ae (ar ?_)))
 refine au Sr (fun h8 => ?_) (fun h8 => ?_)
 ·
  try simp only [NF] at h8
  have hlt : i < s.size := by omega
  refine ay (ar (av (Jr (Zm (Za ?_)))))
  refine ae (Jr (Zm (Zm ?_)))
  refine Zs (cO (i := i) underlying9 Sr Sr (by rfl) (by exact hlt)) ?_
  refine Za (ae (av (ar (Jr (Zm ?_)))))
  refine Zs (bE Sr Sr) (Zm ?_)
  refine Zk (al Sr) ?_
  refine Zg (fun hw => bM (Sub.w hw) Sr) (Zs (aw Sr Sr) (Za (ae ?_)))
  refine au Sr (fun hc2 => ?_) (fun hc2 => ?_)
  ·
   try simp only [NF] at hc2
   refine ay ?_
   refine au Sr (fun hc3 => ?_) (fun hc3 => ?_)
   ·
    try simp only [NF] at hc3
    refine ay (aq (Zs (aB Sr Sr z6) (Zm (ae ?_))))
    refine aE (σ := Nat) (s := i) (i + 1) zO ?_ (zU) (LSub.rfl)
    refine ⟨by omega, fun k hk => ?_⟩
    by_cases e : k = i
    ·
     subst e; first | exact hnm | (simp_all [nmC, uL, uM]; done) | (simp_all [nmC, uL, uM]; omega)
    exact hv k zG
   try simp only [NF] at hc3
   first | contradiction | omega | (simp_all; done)
  try simp only [NF] at hc2
  refine aq (Zm (Zs (bE Sr Sr) (Zm ?_)))
  refine Zk (al Sr) ?_
  refine Zg (fun hw => bM (Sub.w hw) Sr) (Zs (aw Sr Sr) (Za (ae ?_)))
  refine au Sr (fun hc4 => ?_) (fun hc4 => ?_)
  ·
   try simp only [NF] at hc4
   refine ay (aq (Zs (aB Sr Sr z6) (Zm (ae ?_))))
   refine aE (σ := Nat) (s := i) (i + 1) zO ?_ (zU) (LSub.rfl)
   refine ⟨by omega, fun k hk => ?_⟩
   by_cases e : k = i
   ·
    subst e; first | exact hnm | (simp_all [nmC, uL, uM]; done) | (simp_all [nmC, uL, uM]; omega)
   exact hv k zG
  try simp only [NF] at hc4
  refine Jr (Zm (Zs (bD Sr Sr) (Zm ?_)))
  refine Zk (al Sr) ?_
  refine Zg (fun hw => bE (Sub.w hw) Sr) (Zg (fun hw => al (Sub.w hw)) ?_)
  refine Ji rfl Sr rfl (al Sr) ?_
  refine Jh rfl Sr rfl (fun hw => bM (Sub.w hw) Sr) (Zg (fun hw => aw (Sub.w hw) (D9 hw)) (Zg (fun hw => al (Sub.w hw)) ?_))
  refine Ji rfl Sr rfl (al Sr) ?_
  refine Jh rfl Sr rfl (fun hw => aC (Sub.w hw) Sr) (Zg (fun hw => az (Sub.w hw) (D9 hw)) (Zs (aw Sr Sr) (Za (ae ?_))))
  refine au Sr (fun hc5 => ?_) (fun hc5 => ?_)
  ·
   try simp only [NF] at hc5
   refine ay (aq (Zs (aB Sr Sr z6) (Zm (ae ?_))))
   refine aE (σ := Nat) (s := i) (i + 1) zO ?_ (zU) (LSub.rfl)
   refine ⟨by omega, fun k hk => ?_⟩
   by_cases e : k = i
   ·
    subst e; first | exact hnm | (simp_all [nmC, uL, uM]; done) | (simp_all [nmC, uL, uM]; omega)
   exact hv k zG
  try simp only [NF] at hc5
  refine Jr (Za (ae (aF ?_)))
  refine aK (t := 2) rfl () ?_
  refine Sub.bool ?_
  have : nmC s i = false := by simp_all [nmC, uL, uM]; omega
  simp only [gM, eV hlt this]; simp
 try simp only [NF] at h8
 have hall : (List.range s.size).all (nmC s) = true := eU (fun k hk => hv k zG)
 refine aY (Jr (Zm (Zs (fV Sr Sr) (Zm ?_))))
 refine Zk (al Sr) ?_
 refine Zg (fun hw => df underlying9 (Sub.w hw)) (Zg (fun hw => bM (Sub.w hw) Sr) (Zs (aw Sr Sr) (Za (ae (aF ?_)))))
 refine aK (t := 2) rfl () ?_
 refine Sub.bool ?_
 simp only [gM, hall]; simp
theorem sv (kind : Int) (v : GValue) : Fun1 prog 207 [tV (.int .i64 kind), rValue.ty v] (tV (.bool (tg kind v))) := by
 refine Spec.enter func207 rfl rfl fun h0 w0 fr0 => ?_
 refine Jr (Zs (aJ (R := rValue) Sr) (Za (ae (Jr (Zl jp Sr ?_)))))
 refine Zs (ai (nr _) ⟨Sr, trivial⟩ call50) (Zm ?_)
 refine Zk (aa eT Sr rfl) ?_
 refine Zg (fun hw => ab ty3 (Sub.w hw)) (Zg (fun hw => aC (Sub.w hw) Sr) (Zg (fun hw => al (Sub.w hw)) ?_))
 refine Ji rfl Sr rfl (aa eT Sr rfl) ?_
 refine Jh rfl Sr rfl (fun hw => ab ty3 (Sub.w hw)) ?_
 refine Ji rfl Sr rfl (al Sr) ?_
 refine Jh rfl Sr rfl (fun hw => aC (Sub.w hw) (Sub.w hw)) (Zg (fun hw => az (Sub.w hw) (D9 hw)) (Zs (aw Sr Sr) (Za (ae (aF ?_)))))
 exact aK (t := 4) rfl () Sr
theorem tj (t : GTable) (n : ByteArray) : Fun1 prog 241 [cc.ty t, bx eH n] (tV (.bool (decide (t.Name = n)))) := by
 refine Spec.enter func241 rfl rfl fun h0 w0 fr0 => ?_
 refine Jr (Zs (aJ (R := cc) Sr) (Za (ae (Jr (Zs (aa eu Sr rfl) ?_)))))
 refine Zl ty9 Sr (Zl ty9 Sr (Zs (bU Sr Sr) (Za (ae (aF ?_)))))
 exact aK (t := 3) rfl () Sr
theorem uN (s : GSchema) (n : ByteArray) (hl : s.Tables.length <= 1000000000000) : Fun1 prog 165 [aV.ty s, tV (.string n)] (tV (.int .i64 (n5 s n))) := by
 refine Spec.enter func165 rfl rfl fun h0 w0 fr0 => ?_
 refine Jr (Zs (aJ (R := aV) Sr) (Zs (aJ (R := eH) Sr) (Za (ae (Jr ?_)))))
 refine Zs (aa g6 Sr rfl) (Zl g5 Sr (Zs (bK (As := [_]) ⟨Sr, trivial⟩) (Zs (ai (kw s.Tables hl 241 [bx eH n] (fun t => decide (t.Name = n)) (fun x _ => tj x n) call241) ⟨Sr, Sr, trivial⟩ call240) (Za (ae ?_)))))
 refine aF ?_
 exact aK (t := 4) rfl () Sr
theorem tm (t : GAttr) (n : ByteArray) : Fun1 prog 294 [aS.ty t, bx eH n] (tV (.bool (decide (t.Name = n)))) := by
 refine Spec.enter func294 rfl rfl fun h0 w0 fr0 => ?_
 refine Jr (Zs (aJ (R := aS) Sr) (Za (ae (Jr (Zs (aa dH Sr rfl) ?_)))))
 refine Zl ty9 Sr (Zl ty9 Sr (Zs (bU Sr Sr) (Za (ae (aF ?_)))))
 exact aK (t := 3) rfl () Sr
theorem tp (t : GAttr) (n : ByteArray) (hl : t.Was.length <= 1000000000000) : Fun1 prog 295 [aS.ty t, bx eH n] (tV (.bool (t.Was.any fun x => decide (n = x)))) := by
 refine Spec.enter func295 rfl rfl fun h0 w0 fr0 => ?_
 refine Jr (Zs (aJ (R := aS) Sr) (Za (ae (Jr (Zs (aa dH Sr rfl) ?_)))))
 refine Zl yD Sr (Zl ty9 Sr (Zs (ai (mU _ _ hl) ⟨Sr, Sr, trivial⟩ call296) (Za (ae (aF ?_)))))
 exact aK (t := 3) rfl () Sr
theorem rf (t : GTable) (n : ByteArray) (hl : t.Attrs.length <= 1000000000000) (hw : ∀ a ∈ t.Attrs, a.Was.length <= 1000000000000) : Fun1 prog 245 [cc.ty t, tV (.string n)] (tV (.int .i64 (d6 t n))) := by
 refine Spec.enter func245 rfl rfl fun h0 w0 fr0 => ?_
 refine Jr (Zs (aJ (R := cc) Sr) (Zs (aJ (R := eH) Sr) (Za (ae (ar ?_)))))
 refine Jr (Zs (aa eu Sr rfl) (Zl bQ Sr (Zs (bK (As := [_]) ⟨Sr, trivial⟩) (Zs (ai (dO t.Attrs hl 294 [bx eH n] (fun a => decide (a.Name = n)) (fun x _ => tm x n) call294) ⟨Sr, Sr, trivial⟩ call114) (Za ?_)))))
 refine ae (Jr (Zm (Zs (bE Sr Sr) (ae ?_))))
 refine au Sr (fun h11 => ?_) (fun h11 => ?_)
 ·
  try simp only [NF] at h11
  refine Jr (Zm (Za (ae (aF ?_))))
  refine aK (t := 4) rfl () (Sub.int ?_)
  rw [d6, if_pos h11]
 try simp only [NF] at h11
 refine ay (Jr (Zs (aa eu Sr rfl) (Zl bQ Sr (Zs (bK (As := [_]) ⟨Sr, trivial⟩) (Zs (ai (dO t.Attrs hl 295 [bx eH n] (fun a => a.Was.any fun x => decide (n = x)) (fun x hx => tp x n (hw x hx)) call295) ⟨Sr, Sr, trivial⟩ call114) ?_)))))
 refine Za (ae (aF ?_))
 refine aK (t := 4) rfl () (Sub.int ?_)
 rw [d6, if_neg zG]
theorem tq (t : GAttr) (n : ByteArray) : Fun1 prog 242 [aS.ty t, bx eH n] (tV (.bool (decide (t.Name = n)))) := by
 refine Spec.enter func242 rfl rfl fun h0 w0 fr0 => ?_
 refine Jr (Zs (aJ (R := aS) Sr) (Za (ae (Jr (Zs (aa dH Sr rfl) ?_)))))
 refine Zl ty9 Sr (Zl ty9 Sr (Zs (bU Sr Sr) (Za (ae (aF ?_)))))
 exact aK (t := 3) rfl () Sr
def columnL (l : List GAttr) (n : ByteArray) : Int := findI (fun a => decide (a.Name = n)) 0 l
theorem kQ (l : List GAttr) (n : ByteArray) (hl : l.length <= 1000000000000) : Fun1 prog 166 [tSl aS l, tV (.string n)] (tV (.int .i64 (columnL l n))) := by
 refine Spec.enter func166 rfl rfl fun h0 w0 fr0 => ?_
 refine Jr (Zs (aJ (R := eH) Sr) (Za (ae (Jr (Zm ?_)))))
 refine Zs (bK (As := [_]) ⟨Sr, trivial⟩) (Zs (ai (dO l hl 242 [bx eH n] (fun a => decide (a.Name = n)) (fun x _ => tq x n) call242) ⟨Sr, Sr, trivial⟩ call114) (Za (ae (aF ?_))))
 exact aK (t := 4) rfl () Sr
theorem tu (s : ByteArray) (hs : s.size <= 9223372036854775807) : Fun1 prog 237 [tV (.string s)] (tV (.bool (!gM s))) := by
 refine Spec.enter func237 rfl rfl fun h0 w0 fr0 => ?_
 refine Jr (Za (ae (Jr (Zm (Zs (ai (pt _ hs) ⟨Sr, trivial⟩ call235) ?_)))))
 refine Zs (bf Sr) (Za (ae (aF ?_)))
 exact aK (t := 2) rfl () Sr
def pu (v : Value) (k i o : Nat) : Value := match v with
 | .slice (some a) _ _ => .pointer (some ⟨a.block, a.off + i * k + o, none⟩)
 | _ => undef
theorem uO {β : Type} (l c cz : List β) (a K o k : Nat) (hc : c.length = K) (ho : o + k <= K) (hl : a + K <= l.length) (hg : ∀ j, j < K -> l[a + j]? = c[j]?) :
  l.take a ++ (c.take o ++ cz ++ c.drop (o + k)) ++ l.drop (a + K) = l.take (a + o) ++ cz ++ l.drop (a + o + k) := by
 have e : l = l.take a ++ (c ++ l.drop (a + K)) := by
  have e1 : (l.drop a).take K = c := by
   apply List.ext_getElem?
   intro j
   rw [List.getElem?_take]
   by_cases hj : j < K
   · rw [if_pos hj, List.getElem?_drop, hg j hj]
   · rw [if_neg hj, List.getElem?_eq_none (by omega)]
  have e2 : l.drop a = c ++ l.drop (a + K) := by
   rw [<- e1, <- List.drop_drop, List.take_append_drop]
  rw [<- e2, List.take_append_drop]
 have hA : (l.take a).length = a := by simp; omega
 have h1 : l.take (a + o) = l.take a ++ c.take o := by
  conv => lhs; rw [e]
  rw [List.take_append, hA, List.take_of_length_le (by omega)]
  congr 1
  rw [List.take_append, hc, show a + o - a = o by omega, show o - K = 0 by omega]; simp
 have h2 : l.drop (a + o + k) = c.drop (o + k) ++ l.drop (a + K) := by
  conv => lhs; rw [e]
  rw [List.drop_append, hA, List.drop_of_length_le (by omega), List.nil_append]
  rw [List.drop_append, hc, show a + o + k - a = o + k by omega, show o + k - K = 0 by omega]; simp
 rw [h1, h2]; simp [List.append_assoc]
section
variable {C : Cx} {E : Env} {L : List SP} {d : Option Nat} {ty : Nat} {pos : String} {af : Array Edge} {g : Option (Nat × Bool)}
theorem bV {α : Type} {T e n i : Nat} {fs : List (SF α)} {x : Operand} {v : Value} {xs : List α} {f : SF α} {S : List SP} (So : StructOf C.P T fs) (hx : Sub (opTy E x) (tV (fE v (SF.width fs) i))) (hf : fs[n]? = some f)
  (sel : Sel L [own e (bG fs) v xs] S) (hi : i < xs.length) : bs C ⟨d, .fieldAddr T x n, ty, pos, af, g⟩ E L (tV (pu v (SF.width fs) i (SF.off fs n))) :=
 DC (by intro c h; cases h) fun a w h m l sp st fr => by
  have hp : a.eval x = fE v (SF.width fs) i := fr.get hx
  obtain ⟨m1, m2, d12, rfl, ho, s2⟩ := sel.one.1 st
  rcases ho with ⟨rfl, rfl, _⟩ | ⟨b, cap, cur, rfl, rfl, hl, hm, hs, r⟩
  · simp at hi
  · refine ⟨(), _, w, h, _, ?_, HL.refl, sp, st, rfl⟩
    simp only [fE, Nat.zero_add] at hp
    have := So.fieldAt hf b (i * SF.width fs) w
    simp [execOp, hp, this, pu]
theorem dg {α β : Type} {T e i n : Nat} {fs : List (SF α)} {R : Rp β} {z : β} {x u : Operand} {v : Value} {xs : List α} {y y' : α} {S : List SP} (hR : TyOf C.P T R) (hx : Sub (opTy E x) (tV (pu v (SF.width fs) i (SF.off fs n)))) (hv : Sub (opTy E u) (R.ty z))
  (sel : Sel L [own e (bG fs) v xs] S) (hy : xs[i]? = some y) (hu : SF.upd y y' R z fs n) :
  Step C ⟨d, .store T x u, ty, pos, af, g⟩ E L (fun _ : Unit => tAny) (fun _ => own e (bG fs) v (xs.set i y') :: S) :=
 D3 (by intro c h; cases h) fun a w h m l sp st fr => by
  have hp : a.eval x = pu v (SF.width fs) i (SF.off fs n) := fr.get hx
  have rz := R.cells (fr.get hv)
  have hi : i < xs.length := (List.getElem?_eq_some_iff.1 hy).1
  obtain ⟨m1, m2, d12, rfl, ho, s2⟩ := sel.one.1 st
  rcases ho with ⟨rfl, rfl, _⟩ | ⟨b, cap, cur, rfl, rfl, hl, hm, hs, r⟩
  · simp at hi
  · have hb := sp.heap_own
    have hK : (bG fs).k = SF.width fs := rfl
    rw [hK] at r hs
    obtain ⟨c, rc, hc⟩ := gu r hy
    rw [hK] at hc
    have rc : SF.rel h y fs c := rc
    have hcl := Eg rc
    obtain ⟨rn, hle0⟩ := Eh rz hu rc
    rw [hcl] at hle0
    have hle : i * SF.width fs + SF.width fs <= xs.length * SF.width fs := by rw [<- Nat.succ_mul]; exact Nat.mul_le_mul_right _ hi
    have hle2 : xs.length * SF.width fs <= cap * SF.width fs := Nat.mul_le_mul_right _ hl
    have hrz := R.len rz
    obtain ⟨w', hrun, hoth, hsame, hnew⟩ := db (P := C.P) (b := b) (o := i * SF.width fs + SF.off fs n) (v := a.eval u) hR.size (by simpa using hrz) hb (by rw [hs]; omega) (R.one rz)
    have rn2 := kh (R := bG fs) rn hi r
    rw [hK] at rn2
    refine ⟨(), w', h, (PH.one b _).join m2, ?_, HL.same hsame, DX d12 sp (fun b' hne _ => hoth b' hne) hnew, ?_⟩
    · simp only [pu, Nat.zero_add] at hp
      simp [execOp, Instr.storeAt, Instr.sureAddr, hp, hrun]
    · refine ⟨_, m2, PH.one_disj_iff.2 (PH.one_disj_iff.1 d12), rfl, .inr ⟨b, cap, _, by simp, rfl, by simpa using hl, hm, ?_, ?_⟩, s2⟩
      · simp only [Array.length_toList] at hrz
        simp only [List.size_toArray, List.length_append, List.length_take, List.length_drop, Array.length_toList, hs, hrz, hK]
        omega
      · have e0 := uO cur.toList c (a.eval u).cells.toList (i * SF.width fs) (SF.width fs) (SF.off fs n) R.k hcl hle0 (by simp [hs]; omega) (fun j hj => by
          have h1 := hc j (c[j]'(by omega)) (List.getElem?_eq_getElem (by omega))
          rw [List.getElem?_take] at h1
          split at h1
          · rw [h1, List.getElem?_eq_getElem (by omega)]
          · cases h1)
        have e1 := gV cur.toList (c.take (SF.off fs n) ++ (a.eval u).cells.toList ++ c.drop (SF.off fs n + R.k)) (i * SF.width fs) (SF.width fs) (xs.length * SF.width fs) hle (by simpa [hs] using hle2) (by simp only [List.length_append, List.length_take, List.length_drop, hrz, hcl]; omega)
        rw [List.length_set]
        show relAll (bG fs) h _ (List.take (xs.length * SF.width fs) (List.take (i * SF.width fs + SF.off fs n) cur.toList ++ (a.eval u).cells.toList ++ List.drop (i * SF.width fs + SF.off fs n + R.k) cur.toList).toArray.toList)
        rw [List.toList_toArray, <- e0, e1]
        exact rn2
end
section
variable {C : Cx} {E : Env} {L : List SP} {d : Option Nat} {ty : Nat} {pos : String} {af : Array Edge} {g : Option (Nat × Bool)}
theorem eM {α : Type} {T e i n : Nat} {fs : List (SF α)} {f : SF α} {x : Operand} {v : Value} {xs : List α} {y : α} {S : List SP} (hR : TyOf C.P T f.R) (hx : Sub (opTy E x) (tV (pu v (SF.width fs) i (SF.off fs n)))) (hf : fs[n]? = some f)
  (sel : Sel L [own e (bG fs) v xs] S) (hy : xs[i]? = some y) : bs C ⟨d, .load T x, ty, pos, af, g⟩ E L (f.R.ty (f.get y)) :=
 DC (by intro c h; cases h) fun a w h m l sp st fr => by
  have hp : a.eval x = pu v (SF.width fs) i (SF.off fs n) := fr.get hx
  obtain ⟨m1, m2, d12, rfl, ho, s2⟩ := sel.one.1 st
  rcases ho with ⟨rfl, rfl, _⟩ | ⟨b, cap, cur, rfl, rfl, hl, hm, hs, r⟩
  · simp at hy
  · have hb := sp.heap_own
    have hK : (bG fs).k = SF.width fs := rfl
    obtain ⟨c0, rc0, hc0⟩ := gu r hy
    rw [hK] at hc0
    have rc0 : SF.rel h y fs c0 := rc0
    obtain ⟨c, rc, hc⟩ := D4 rc0 hf
    have := ce (b := b) (o := i * SF.width fs + SF.off fs n) (w := w) hR.agg hR.size (f.R.len rc) f.R.scalar (fun j u hu => by
     rw [ep (h := h) hb]
     have h1 := hc0 _ _ (hc j u hu)
     rw [List.getElem?_take] at h1
     split at h1
     · rw [show i * SF.width fs + SF.off fs n + j = i * SF.width fs + (SF.off fs n + j) by omega]; simpa using h1
     · cases h1)
    refine ⟨(), packV f.R.agg c, w, h, _, ?_, HL.refl, sp, st, f.R.pack rc⟩
    simp only [pu, Nat.zero_add] at hp
    simp [execOp, Instr.loadAt, Instr.sureAddr, hp, this]
end
section
variable {C : Cx} {E : Env} {L : List SP} {d : Option Nat} {ty : Nat} {pos : String} {af : Array Edge} {g : Option (Nat × Bool)}
end
theorem eX {C : Cx} {k : Act -> World -> Prop} {E : Env} {L : List SP} {φ : Prop} (t : Nat) (hf : ∀ h v, (E t).p h v -> φ) (hk : φ -> K C k E L) : K C k E L := fun a w p => by
 obtain ⟨h1, h2, h, m, l, sp, st, f⟩ := id p
 exact hk (hf _ _ (f t)) a w p
theorem xy {α : Type} {e : Nat} {R : Rp α} {v : Value} {xs : List α} {C : Cx} {k : Act -> World -> Prop} {E : Env} {L S : List SP} (sel : Sel L [own e R v xs] S) (hk : (∃ p cap, v = .slice p xs.length cap) -> K C k E L) : K C k E L := fun a w p => by
 obtain ⟨h1, h2, h, m, l, sp, st, f⟩ := id p
 obtain ⟨m1, m2, d12, rfl, ho, s2⟩ := sel.one.1 st
 refine hk ?_ a w p
 rcases ho with ⟨rfl, rfl, rfl⟩ | ⟨g, cap, cur, rfl, rfl, hl, hm, hs, hr⟩
 · exact ⟨none, 0, rfl⟩
 · exact ⟨_, cap, rfl⟩
section
variable {C : Cx} {E : Env} {L : List SP} {d : Option Nat} {ty : Nat} {pos : String} {af : Array Edge} {g : Option (Nat × Bool)}
theorem uP {T e n cap : Nat} {p : Option Addr} {x : Operand} (hu : C.P.underlying T = some (.slice e)) (hx : Sub (opTy E x) (rV.ty (.slice p n cap))) :
  bs C ⟨d, .call { callee := .builtin .len, args := #[x], argTypes := #[T] }, ty, pos, af, g⟩ E L (tV (.int .i64 n)) :=
 DF (by intro c h; cases h) fun a w h hw f => by
  have hv : a.eval x = .slice p n cap := (f.get hx).1
  exact ⟨.int .i64 n, by simp [execOp, resolve, invoke, builtin, Builtin.len_, hv, run_underlying hu, goInt], rfl⟩
end
def eqL (p : GAttr -> GAttr -> Bool) (a b : List GAttr) : Bool := decide (a.length = b.length) && (List.range a.length).all fun i => p (nth a i) (nth b i)
def alikeA (x y : GAttr) : Bool := decide (x.Name = y.Name) && decide (x.Kind = y.Kind)
def cq (a b : List GAttr) : Bool := eqL alikeA a b
def dU (n : Nat) (cols : List Int) : Bool := cols.all fun c => decide (0 <= c) && decide (c < n)
def bv (l : List GAttr) (cols : List Int) : List GAttr := cols.map fun c => nth l c.toNat
def ej (l : List GAttr) (cols : List Int) : List GAttr := if dU l.length cols = true then bv l cols else []
def iQ (x : GSide) (n : Int) : Bool := if x.Var = -1 then decide (x.Col = 0) && eK x.Value else decide (x.Var = 0) && decide (0 <= x.Col) && decide (x.Col < n) && decide (x.Value = ⟨0, 0, ⟨#[]⟩⟩)
def ew (t : GTest) (n : Int) : Bool := decide (1 <= t.Op) && decide (t.Op <= 4) && iQ t.Left n && iQ t.Right n && (decide (t.Left.Var = 0) || decide (t.Right.Var = 0))
def xd (t : GTable) (l : List GAttr) (i : Nat) : GAttr := if i < l.length /\ d6 t (nth l i).Name = i then { nth t.Attrs i with Name := (nth l i).Name } else nth t.Attrs i
def lq (t : GTable) (l : List GAttr) (n : Nat) : List GAttr := (List.range t.Attrs.length).map fun i => if i < n then xd t l i else nth t.Attrs i
def ee (t : GTable) (l : List GAttr) : List GAttr := (List.range t.Attrs.length).map (xd t l)
def fG (a b : List GAttr) : Bool := b.all fun x => decide (columnL a x.Name < 0) || decide ((nth a (columnL a x.Name).toNat).Kind = x.Kind)
def bL (a b : List GAttr) : List GAttr := a ++ b.filter fun x => decide (columnL a x.Name < 0)
def gw (p : aG) : Bool := decide (0 <= p.Col /\ p.Col < (nth p.Kids 0).Attrs.length /\ p.Attrs.length = (nth p.Kids 0).Attrs.length)
def tv (p : aG) : List GAttr := (nth p.Kids 0).Attrs.set p.Col.toNat { nth (nth p.Kids 0).Attrs p.Col.toNat with Name := (nth p.Attrs p.Col.toNat).Name }
def fS (p : aG) : Bool := dU (nth p.Kids 0).Attrs.length p.Cols && decide (p.Attrs.length = p.Cols.length + 1 /\ 1 <= p.Agg /\ p.Agg <= 4)
def n7 (p : aG) : Bool := decide (0 <= p.Col /\ p.Col < (nth p.Kids 0).Attrs.length)
def jq (p : aG) : Bool := if p.Agg = 1 then decide (p.Col = -1) else if n7 p = false then false else if p.Agg = 2 then decide ((nth (nth p.Kids 0).Attrs p.Col.toNat).Kind = 2) else true
def n8 (p : aG) : Int := if p.Agg = 1 then 2 else if n7 p = false then 2 else if p.Agg = 2 then 2 else (nth (nth p.Kids 0).Attrs p.Col.toNat).Kind
def jB (p : aG) : List GAttr := bv (nth p.Kids 0).Attrs p.Cols ++ [⟨(nth p.Attrs p.Cols.length).Name, n8 p, [], ⟨0, 0, ⟨#[]⟩⟩⟩]
def colsM (s : GSchema) (p : aG) : List GAttr × Bool :=
  if p.Kind = 1 then (if 0 <= p.Table /\ p.Table < s.Tables.length then (ee (nth s.Tables p.Table.toNat) p.Attrs, true) else ([], false))
  else if p.Kind = 2 then ((nth p.Kids 0).Attrs, decide (0 < (p.Tests.length : Int)) && !(p.Tests.any fun t => !ew t (nth p.Kids 0).Attrs.length))
  else if p.Kind = 3 then (ej (nth p.Kids 0).Attrs p.Cols, dU (nth p.Kids 0).Attrs.length p.Cols)
  else if p.Kind = 4 then (if fG (nth p.Kids 0).Attrs (nth p.Kids 1).Attrs = true then (bL (nth p.Kids 0).Attrs (nth p.Kids 1).Attrs, true) else ([], false))
  else if p.Kind = 5 \/ p.Kind = 6 then ((nth p.Kids 0).Attrs, cq (nth p.Kids 0).Attrs (nth p.Kids 1).Attrs)
  else if p.Kind = 7 then (if gw p = true then (tv p, true) else ([], false))
  else (if fS p = true then (jB p, jq p) else ([], false))
theorem C6 (t : GTable) (l : List GAttr) : lq t l 0 = t.Attrs := by
  refine eW (by simp [lq]) fun i hi => ?_
  have hi' : i < t.Attrs.length := by simpa [lq] using hi
  rw [nth_get hi]; simp [lq]
theorem ey (t : GTable) (l : List GAttr) (n : Nat) : (lq t l n).length = t.Attrs.length := by simp [lq]
theorem jC {t : GTable} {l : List GAttr} {n i : Nat} (h : i < t.Attrs.length) : nth (lq t l n) i = if i < n then xd t l i else nth t.Attrs i := by
  rw [nth_get (by rw [ey]; exact h)]; simp [lq]
theorem xz {t : GTable} {l : List GAttr} {n : Nat} (h : ¬ (n < t.Attrs.length /\ n < l.length)) : lq t l n = ee t l := by
  unfold lq ee
  refine List.map_congr_left fun i hi => ?_
  have hi := List.mem_range.1 hi
  by_cases hn : i < n
  · rw [if_pos hn]
  · rw [if_neg hn, xd, if_neg (by omega)]
theorem xA {t : GTable} {l : List GAttr} {n : Nat} (h1 : n < t.Attrs.length) (h : ¬ d6 t (nth l n).Name = n) : lq t l (n + 1) = lq t l n := by
  refine eW (by rw [ey, ey]) fun i hi => ?_
  rw [ey] at hi
  rw [jC hi, jC hi]
  by_cases e : i = n
  · subst e; rw [if_pos (by omega), if_neg (by omega), xd, if_neg fun q => h q.2]
  · by_cases e2 : i < n
    · rw [if_pos (by omega), if_pos e2]
    · rw [if_neg (by omega), if_neg e2]
theorem zB {t : GTable} {l : List GAttr} {n : Nat} (h1 : n < t.Attrs.length) (h2 : n < l.length) (h : d6 t (nth l n).Name = n) : (lq t l n).set n { nth (lq t l n) n with Name := (nth l n).Name } = lq t l (n + 1) := by
  refine eW (by rw [List.length_set, ey, ey]) fun i hi => ?_
  rw [List.length_set, ey] at hi
  rw [Lg.nth_set (by rw [ey]; exact hi), jC hi, jC hi]
  by_cases e : n = i
  · subst e; rw [if_pos rfl, if_pos (by omega), jC hi, if_neg (by omega), xd, if_pos ⟨h2, h⟩]
  · rw [if_neg e]
    by_cases e2 : i < n
    · rw [if_pos e2, if_pos (by omega)]
    · rw [if_neg e2, if_neg (by omega)]
theorem lT {a l : List GAttr} {x : GAttr} : bL a (l ++ [x]) = if columnL a x.Name < 0 then bL a l ++ [x] else bL a l := by
  unfold bL
  rw [List.filter_append]
  by_cases h : columnL a x.Name < 0
  · rw [if_pos h, List.filter_cons_of_pos (by simpa using h)]; simp
  · rw [if_neg h, List.filter_cons_of_neg (by simpa using h)]; simp
theorem hG (a b : List GAttr) : (bL a b).length <= a.length + b.length := by
  unfold bL; rw [List.length_append]; have := List.length_filter_le (fun x : GAttr => decide (columnL a x.Name < 0)) b; omega
theorem xB {a b : List GAttr} {i : Nat} (h : i < a.length) : nth (bL a b) i = nth a i := by
  have h2 : i < (bL a b).length := by unfold bL; rw [List.length_append]; omega
  rw [nth_get h2, nth_get h]; unfold bL; exact List.getElem_append_left h
theorem iY (a : List GAttr) (n : ByteArray) : -1 <= columnL a n /\ columnL a n < a.length := by
  have := fu (fun a : GAttr => decide (a.Name = n)) a 0 (by omega)
  unfold columnL; omega
theorem fH (l : List GAttr) (hl : l.length <= 1000000000) : Spec (X := Value) prog 158 [tSl aS l] ([]) (fun v => rV.ty v) (fun v => [own 89 aS v l]) := by
 refine Spec.enter func158 rfl rfl fun h0 w0 fr0 => ?_
 refine Jr (Za (ae (ar (Jr (Zm ?_)))))
 refine Zx (d8 underlying44 Sr) fun v4 => ?_
 refine ae ?_
 refine au Sr (fun h4 => ?_) (fun h4 => ?_)
 ·
  try simp only [NF] at h4
  refine Jr (Za (ae (aF ?_)))
  have hl0 := v4.2 h4
  subst hl0
  refine bZ (DB (e := 89) (R := aS)) ?_
  refine aZ (rv := .tmp 2) rfl (.slice none 0 0) (Dz _) (.tmp (DG rfl)) (Frz.sub Sr)
 try simp only [NF] at h4
 refine ay (Jr ?_)
 refine Zx (cx (ys := []) underlying44 gv trivial rfl (by decide)) fun v5 => ?_
 refine Zm ?_
 refine Zx (aL underlying44 gv Sr Sr zS (by simp; omega) (by simp; omega)) fun v7 => ?_
 refine Za (ae (aF ?_))
 refine aZ (rv := .tmp 2) rfl v7 (Dz _) (.tmp Sr) (Frz.sub Sr)
theorem rg (x y : GAttr) : Fun1 prog 244 [aS.ty x, aS.ty y] (tV (.bool (alikeA x y))) := by
 refine Spec.enter func244 rfl rfl fun h0 w0 fr0 => ?_
 refine Jr (Zs (aJ (R := aS) Sr) (Zs (aJ (R := aS) Sr) (Za (ae (Jr ?_)))))
 refine Zs (aa dH Sr rfl) (Zl ty9 Sr (Zs (aa dH Sr rfl) (Zl ty9 Sr (Zs (bU Sr Sr) (Zm ?_)))))
 refine Zk (aa dH Sr rfl) ?_
 refine Zg (fun hw => ab ty3 (Sub.w hw)) ?_
 refine Zk (aa dH Sr rfl) ?_
 refine Zg (fun hw => ab ty3 (Sub.w hw)) (Zg (fun hw => aC (Sub.w hw) (Sub.w hw)) (Zs (aw Sr Sr) (Za (ae (aF ?_)))))
 exact aK (t := 4) rfl () Sr
theorem lU (a b : List GAttr) (hl : a.length <= 1000000000000) (gi : Nat) (As : List Ty) (p : GAttr -> GAttr -> Bool) (hp : ∀ x y, Fun1 prog gi ([aS.ty x, aS.ty y] ++ As) (tV (.bool (p x y)))) (he : ∀ args w, (callFunc gi args).run prog w = .ok (.enter gi args) w) : Fun1 prog 243 [tSl aS a, tSl aS b, g4 gi As] (tV (.bool (eqL p a b))) := by
 refine Spec.enter func243 rfl rfl fun h0 w0 fr0 => ?_
 refine Jr (Za (ae (ar (Jr (Zm ?_)))))
 refine Zs (ah underlying44 Sr) (Zm (Zs (ah underlying44 Sr) (Zs (bb Sr Sr) (ae ?_))))
 refine au Sr (fun h14 => ?_) (fun h14 => ?_)
 ·
  try simp only [NF] at h14
  refine Jr (Za (ae (aF ?_)))
  refine aK (t := 6) rfl () ?_
  refine Sub.bool ?_
  have : ¬ a.length = b.length := by omega
  simp [eqL, this]
 try simp only [NF] at h14
 have heq : a.length = b.length := by omega
 refine ay (ar (Jr (Zm (Zs (ah underlying44 Sr) (Zm ?_)))))
 refine ae (av ?_)
 refine aO (σ := Nat) (fun i => i <= a.length /\ ∀ k, k < i -> p (nth a k) (nth b k) = true) (fun i => upd (upd (upd (upd (upd cg 1 (tSl aS b)) 2 (g4 gi As)) 15 (tSl aS a)) 16 (tV (.int .i64 a.length))) 17 (tV (.int .i64 i))) (fun i => []) (fun i => a.length - i) 0 ⟨by omega, fun k hk => by omega⟩ (zU) (LSub.rfl) ?_
 rintro i ⟨hi, hv⟩
 refine Jr (Zs (aA Sr Sr) (ae (ar ?_)))
 refine au Sr (fun h18 => ?_) (fun h18 => ?_)
 ·
  try simp only [NF] at h18
  have hlt : i < a.length := by omega
  refine ay (ar (av (Jr (Zm ?_))))
  refine Zs (ad  underlying44 ct Sr Sr rfl (gb (by exact hlt))) ?_
  refine Zl ct Sr ?_
  refine Zx (aD (fun w => zeroValue89 w) qY) fun v8 => ?_
  refine Za ?_
  refine Ju (aj ct Sr Sr zS) fun _ => ?_
  refine bc (t := 8) (Sel.take (Dz _)) Frz.box ?_
  refine ae (Jr (Zm (Zm ?_)))
  refine Zs (ad (i := i) underlying44 ct Sr Sr (by rfl) (gb (by show i < b.length; omega))) ?_
  refine Zl ct Sr ?_
  refine Zx (aD (fun w => zeroValue89 w) qY) fun v9 => ?_
  refine Ju (aj ct Sr Sr zS) fun _ => ?_
  refine bc (t := 9) (Sel.take (Dz _)) Frz.box ?_
  refine ae (Jr (Zm (Zl ct Sr (Zl ct Sr (Zs (bH (aT := [_, _]) Sr (hp _ _) ⟨Sr, Sr, trivial⟩ he) ?_)))))
  refine Zs (bf Sr) (ae ?_)
  refine au Sr (fun h30 => ?_) (fun h30 => ?_)
  ·
   try simp only [NF] at h30
   refine Jr (Za (ae (aF ?_)))
   refine aK (t := 6) rfl () ?_
   refine Sub.bool ?_
   have : p (nth a i) (nth b i) = false := by simpa using h30
   simp only [eqL, eV (f := fun i => p (nth a i) (nth b i)) hlt this]; simp
  try simp only [NF] at h30
  refine ay (aq (Zs (aB Sr Sr z6) (Zm (ae ?_))))
  refine aE (σ := Nat) (s := i) (i + 1) zO ?_ (zU) (LSub.rfl)
  refine ⟨by omega, fun k hk => ?_⟩
  by_cases e : k = i
  ·
   subst e; simpa using h30
  exact hv k zG
 try simp only [NF] at h18
 have hall := eU (n := a.length) (fun k hk => hv k zG)
 refine aY (Jr (Za (ae (aF ?_))))
 refine aK (t := 6) rfl () ?_
 refine Sub.bool ?_
 rw [eqL, hall]; simp [heq]
theorem nt (a b : List GAttr) (hl : a.length <= 1000000000000) : Fun1 prog 167 [tSl aS a, tSl aS b] (tV (.bool (cq a b))) := by
 refine Spec.enter func167 rfl rfl fun h0 w0 fr0 => ?_
 refine Jr (Za (ae (Jr (Zm (Zm ?_)))))
 refine Zs (ai (lU a b hl 244 [] alikeA (fun x y => rg x y) call244) ⟨Sr, Sr, D2, trivial⟩ call243) (Za (ae (aF ?_)))
 exact aK (t := 4) rfl () Sr
theorem nu (l : List GAttr) (cols : List Int) (hc : cols.length <= 1000000000) : Spec (X := Value) prog 255 [tSl aS l, tSl bg cols] ([]) (fun v => fA [rV.ty v, tV (.bool (dU l.length cols))]) (fun v => [own 89 aS v (ej l cols)]) := by
 refine Spec.enter func255 rfl rfl fun h0 w0 fr0 => ?_
 refine Jr (Za (Za (ae (Jr (Za ?_)))))
 refine ae (ar (Jr (Zm (Zs (ah underlying36 Sr) (Zm ?_)))))
 refine ae (av ?_)
 refine aO (σ := Nat × Value) (fun ⟨i, v⟩ => i <= cols.length /\ ∀ k, k < i -> (decide (0 <= nth cols k) && decide (nth cols k < l.length)) = true) (fun ⟨i, v⟩ => upd (upd (upd (upd (upd cg 0 (tSl aS l)) 6 (rV.ty v)) 9 (tSl bg cols)) 10 (tV (.int .i64 cols.length))) 11 (tV (.int .i64 i))) (fun ⟨i, v⟩ => [own 89 aS v (bv l (cols.take i))]) (fun ⟨i, v⟩ => cols.length - i) (0, .slice none 0 0) ⟨by omega, fun k hk => by omega⟩ (.u (.u (.u (SubE.upd (DG rfl) (zU))))) (DB) ?_
 rintro ⟨i, v⟩ ⟨hi, hv⟩
 refine Jr (Zs (aA Sr Sr) (ae (ar ?_)))
 refine au Sr (fun h12 => ?_) (fun h12 => ?_)
 ·
  try simp only [NF] at h12
  have hlt : i < cols.length := by omega
  have hpl : (bv l (cols.take i)).length <= 1000000000 := by simp [bv]; omega
  refine ay (ar (av (Jr ?_)))
  refine Zs (ad  underlying36 ty3 Sr Sr rfl (gb (by exact hlt))) ?_
  refine Zl ty3 Sr (Za (ae (ar (Jr (Zm ?_)))))
  refine Zs (aA Sr Sr) (Zm ?_)
  refine Zk (al Sr) ?_
  refine Zk (al Sr) ?_
  refine Zg (fun hw => ah underlying44 (Sub.w hw)) (Zg (fun hw => bE (Sub.w hw) (Sub.w hw)) (Zs (az Sr Sr) (ae ?_)))
  refine au Sr (fun h22 => ?_) (fun h22 => ?_)
  ·
   try simp only [NF] at h22
   refine Jr (Za (Za (ae (aF ?_))))
   have hno : dU l.length cols = false := gZ hlt (by rcases h22 with h | h <;> simp <;> omega)
   have hpm : ej l cols = [] := by rw [ej, if_neg (by rw [hno]; simp)]
   refine ut zS ?_
   refine bZ (L' := [own 89 aS (.slice none 0 0) (ej l cols)]) (LSub.trans (DB (e := 89) (R := aS)) (.c zS (SPs.of (A := own 89 aS (.slice none 0 0) ([] : List GAttr)) (by rw [hpm])) (LSub.nil))) ?_
   refine bJ (rv := .tmp 4) (rv' := .tmp 5) rfl (.slice none 0 0) (Dz _) (.tmp (DG rfl)) (.tmp Sr) (Frz.sub Sr) (Frz.sub (Sub.bool hno.symm)) Sr
  try simp only [NF] at h22
  refine ay (aq (Zm (Zm (Zm (Zs (ad (i := (nth cols i).toNat) underlying44 ct Sr Sr zG (gb zG)) ?_)))))
  refine Zl ct Sr ?_
  refine Zs (ax (ys := [_]) underlying44 gv ⟨rfl, Sr, trivial⟩ rfl (by decide)) ?_
  refine Zx (aL underlying44 gv Sr Sr zS (by simp; omega) (by simp; omega)) fun v29 => ?_
  refine Za (ae (aq (Zs (aB Sr Sr z6) (Zm (ae ?_)))))
  refine aE (σ := Nat × Value) (s := (i, v)) (i + 1, v29) zO ?_ (zU) (.c zS (SPs.of (A := own 89 aS v29 (bv l (cols.take i) ++ [nth l (nth cols i).toNat])) (by rw [dM hlt]; simp [bv])) (LSub.nil))
  refine ⟨by omega, fun k hk => ?_⟩
  by_cases e : k = i
  ·
   subst e; simp; omega
  exact hv k zG
 try simp only [NF] at h12
 obtain rfl : i = cols.length := by omega
 have hok : dU l.length cols = true := iP hv
 refine aY (Jr (Zm (Za (Za (ae ?_)))))
 refine aF ?_
 have hpm : ej l cols = bv l cols := by rw [ej, if_pos hok]
 refine bZ (L' := [own 89 aS v (ej l cols)]) (.c zS (SPs.of (A := own 89 aS v (bv l (cols.take cols.length))) (by rw [hpm, List.take_length])) (LSub.nil)) ?_
 refine bJ (rv := .tmp 4) (rv' := .tmp 5) rfl v (Dz _) (.tmp Sr) (.tmp Sr) (Frz.sub Sr) (Frz.sub (Sub.bool hok.symm)) Sr
theorem pv (x : GSide) (n : Int) : Fun1 prog 298 [kq.ty x, tV (.int .i64 n)] (tV (.bool (iQ x n))) := by
 refine Spec.enter func298 rfl rfl fun h0 w0 fr0 => ?_
 refine Jr (Zs (aJ (R := kq) Sr) (Za (ae (ar (Jr ?_)))))
 refine Zs (aa fQ Sr rfl) (Zl ty3 Sr (Zs (aC Sr Sr) (ae ?_)))
 refine au Sr (fun h7 => ?_) (fun h7 => ?_)
 ·
  try simp only [NF] at h7
  refine Jr (Zs (aa fQ Sr rfl) (Zl ty3 Sr (Zs (aC Sr Sr) (Zm ?_))))
  refine Zk (aa fQ Sr rfl) ?_
  refine Zg (fun hw => ab jp (Sub.w hw)) (Zg (fun hw => ai (nr _) ⟨(Sub.w hw), trivial⟩ call50) (Zs (aw Sr Sr) (Za (ae (aF ?_)))))
  refine aK (t := 4) rfl () ?_
  refine Sub.bool ?_
  simp [iQ, h7]
 try simp only [NF] at h7
 refine ay (Jr (Zs (aa fQ Sr rfl) (Zl ty3 Sr (Zs (aC Sr Sr) (Zm ?_)))))
 refine Zk (aa fQ Sr rfl) ?_
 refine Zg (fun hw => ab ty3 (Sub.w hw)) (Zg (fun hw => bE (Sub.w hw) Sr) (Zs (aw Sr Sr) (Zm ?_)))
 refine Zk (aa fQ Sr rfl) ?_
 refine Zg (fun hw => ab ty3 (Sub.w hw)) ?_
 refine Zk (al Sr) ?_
 refine Zg (fun hw => aA (Sub.w hw) (Sub.w hw)) (Zs (aw Sr Sr) (Zm ?_))
 refine Zk (aa fQ Sr rfl) ?_
 refine Zg (fun hw => ab jp (Sub.w hw)) ?_
 refine Zk (aU (x := (⟨0, 0, ⟨#[]⟩⟩ : GValue)) (zs := [[Value.int .i64 0], [Value.int .i64 0], [Value.string ⟨#[]⟩]]) eT (fun w => zeroValue87 w) trivial ⟨fun _ => rfl, fun _ => rfl, fun _ => rfl, trivial⟩) ?_
 refine Zg (fun hw => kP (Sub.w hw) (Sub.w hw)) (Zs (aw Sr Sr) (Za (ae (aF ?_))))
 refine aK (t := 4) rfl () ?_
 refine Sub.bool ?_
 simp [iQ, h7]
theorem tw (t : GTest) (n : Int) : Fun1 prog 248 [be.ty t, tV (.int .i64 n)] (tV (.bool (ew t n))) := by
 refine Spec.enter func248 rfl rfl fun h0 w0 fr0 => ?_
 refine Jr (Zs (aJ (R := be) Sr) (Za (ae (Jr (Zs (aa gd Sr rfl) ?_)))))
 refine Zl ty3 Sr (Zs (bE Sr Sr) (Zm ?_))
 refine Zk (aa gd Sr rfl) ?_
 refine Zg (fun hw => ab ty3 (Sub.w hw)) (Zg (fun hw => bM (Sub.w hw) Sr) (Zs (aw Sr Sr) (Zm ?_)))
 refine Zk (aa gd Sr rfl) ?_
 refine Zg (fun hw => ab sr (Sub.w hw)) ?_
 refine Zk (al Sr) ?_
 refine Zg (fun hw => ai (pv _ _) ⟨(Sub.w hw), (Sub.w hw), trivial⟩ call298) (Zs (aw Sr Sr) (Zm ?_))
 refine Zk (aa gd Sr rfl) ?_
 refine Zg (fun hw => ab sr (Sub.w hw)) ?_
 refine Zk (al Sr) ?_
 refine Zg (fun hw => ai (pv _ _) ⟨(Sub.w hw), (Sub.w hw), trivial⟩ call298) (Zs (aw Sr Sr) (Zm ?_))
 refine Zk (aa gd Sr rfl) ?_
 refine Zg (fun hw => aa fQ (Sub.w hw) rfl) (Zg (fun hw => ab ty3 (Sub.w hw)) (Zg (fun hw => aC (Sub.w hw) Sr) (Zg (fun hw => al (Sub.w hw)) ?_)))
 refine Ji rfl Sr rfl (aa gd Sr rfl) ?_
 refine Jh rfl Sr rfl (fun hw => aa fQ (Sub.w hw) rfl) (Jh rfl Sr rfl (fun hw => ab ty3 (Sub.w hw)) (Jh rfl Sr rfl (fun hw => aC (Sub.w hw) Sr) (Zg (fun hw => az (Sub.w hw) (D9 hw)) (Zs (aw Sr Sr) (Za ?_)))))
 refine ae (aF ?_)
 exact aK (t := 4) rfl () Sr
theorem uQ (t : GTest) (kid : List GAttr) : Fun1 prog 247 [be.ty t, bx (rSl aS) kid] (tV (.bool (!ew t kid.length))) := by
 refine Spec.enter func247 rfl rfl fun h0 w0 fr0 => ?_
 refine Jr (Zs (aJ (R := be) Sr) (Za (ae (Jr (Zl fd Sr ?_)))))
 refine Zl bQ Sr (Zs (ah underlying44 Sr) (Zs (ai (tw _ _) ⟨Sr, Sr, trivial⟩ call248) (Zs (bf Sr) (Za (ae ?_)))))
 refine aF ?_
 exact aK (t := 3) rfl () Sr
theorem Ee {α : Type} {R : Rp α} {xs ys : List α} {a b : Bool} (h1 : xs = ys) (h2 : a = b) : Sub (fA [tSl R xs, tV (.bool a)]) (fA [tSl R ys, tV (.bool b)]) := by subst h1 h2; exact Sr
theorem pw (l : List GAttr) (cols : List Int) : (ej l cols).length <= cols.length := by unfold ej; split <;> simp [bv]
theorem n9 {n : Nat} {xs : List aG} {h : PH} {v : Value} (hp : 0 < xs.length) (hv : (tSl (aR n) xs).p h v) : ∃ m, n = m + 1 := by
  obtain ⟨ao, cap, e, H⟩ := hv
  obtain ⟨b, off, ea, H2⟩ := H (by intro q; subst q; simp at hp)
  obtain ⟨cs, _, r⟩ := H2 0 (xs[0]) (List.getElem?_eq_getElem hp)
  exact rPl_pos cPl aS be r
theorem iC {n : Nat} {p : Gplan} {h : PH} {v : Value} (hp : 0 < p.Plan.Kids.length) (hv : ((gL n).ty p).p h v) : ∃ m, n = m + 1 := by
  obtain ⟨cs, r, _⟩ := hv
  obtain ⟨c0, _, rfl, r0, _⟩ := r
  obtain ⟨d0, _, rfl, _, d1, _, rfl, _, d2, _, rfl, r2, _⟩ := (show SF.rel h p.Plan (fsPl cPl aS be (aR n)) c0 from r0)
  obtain ⟨u, _, hu⟩ := r2
  exact n9 hp hu
theorem px (n : Nat) (p : Gplan) (hz : SchSz p.schema) (hl : p.Plan.Attrs.length <= 1000000000) : Fun1 prog 170 [(gL n).ty p] (fA [tSl aS (if 0 <= p.Plan.Table /\ p.Plan.Table < p.schema.Tables.length then ee (nth p.schema.Tables p.Plan.Table.toNat) p.Plan.Attrs else []), tV (.bool (decide (0 <= p.Plan.Table /\ p.Plan.Table < p.schema.Tables.length)))]) := by
 refine Spec.enter func170 rfl rfl fun h0 w0 fr0 => ?_
 refine Jr (Zs (aJ (R := (gL n)) Sr) (Za (Za (ae (ar ?_)))))
 refine Jr (Zs (aa dw Sr rfl) (Zs (aa br Sr rfl) (Zl ty3 Sr (Zs (aA Sr Sr) (Zm ?_)))))
 refine Zk (aa dw Sr rfl) ?_
 refine Zg (fun hw => aa br (Sub.w hw) rfl) (Zg (fun hw => ab ty3 (Sub.w hw)) ?_)
 refine Zk (aa dw Sr rfl) ?_
 refine Zg (fun hw => aa g6 (Sub.w hw) rfl) (Zg (fun hw => ab g5 (Sub.w hw)) (Zg (fun hw => ah underlying39 (Sub.w hw)) (Zg (fun hw => bE (Sub.w hw) (Sub.w hw)) (Zs (az Sr Sr) (ae ?_)))))
 refine au Sr (fun h20 => ?_) (fun h20 => ?_)
 ·
  try simp only [NF] at h20
  refine Jr (Za (Za (ae (aF ?_))))
  refine bJ (rv := .tmp 2) (rv' := .tmp 3) rfl () (Sel.all _) (.tmp Sr) (.tmp Sr) (B := tSl aS []) (B' := tV (.bool false)) (Frz.sub DT) (Frz.sub Sr) ?_
  rw [if_neg zG, decide_eq_false zG]
  exact Sr
 try simp only [NF] at h20
 have hin : 0 <= p.Plan.Table /\ p.Plan.Table < p.schema.Tables.length := by omega
 have hT := hz.tab _ (aH (l := p.schema.Tables) (i := p.Plan.Table.toNat) zG)
 have hTl := hT.at'
 refine ay (Jr (Zs (aa dw Sr rfl) (Zs (aa g6 Sr rfl) (Zl g5 Sr (Zs (aa dw Sr rfl) ?_)))))
 refine Zs (aa br Sr rfl) (Zl ty3 Sr ?_)
 refine Zs (ad (i := p.Plan.Table.toNat) underlying39 g8 Sr Sr (by show p.Plan.Table = _; omega) (gb (by show p.Plan.Table.toNat < p.schema.Tables.length; omega))) ?_
 refine Zl g8 Sr ?_
 refine Zx (aD (fun w => zeroValue76 w) BO) fun v4 => ?_
 refine Ju (aj g8 Sr Sr zS) fun _ => ?_
 refine bc (t := 4) (Sel.take (Dz _)) Frz.box ?_
 refine ae (Jr (Zs (aa eu Sr rfl) (Zl bQ Sr ?_)))
 refine Zx (bz (Dz _) (fH _ hTl) ⟨Sr, trivial⟩ call158) fun v31 => ?_
 refine Za (ae (ar (Jr (Zm ?_))))
 refine Zs (cj underlying44 Sr zS) ?_
 refine Zs (aa dw Sr rfl) (Zs (aa br Sr rfl) (Zl bQ Sr (Zs (ah underlying44 Sr) (Zs (sq Sr Sr) (Zm ?_)))))
 refine ae (av ?_)
 refine aO (σ := Nat) (fun i => i <= (nth p.schema.Tables p.Plan.Table.toNat).Attrs.length /\ i <= p.Plan.Attrs.length) (fun i => upd (upd (upd (upd (upd (upd (upd cg 1 (bx (gL n) p)) 2 (tV (.slice none 0 0))) 3 (tV (.bool false))) 4 (bx cc (nth p.schema.Tables p.Plan.Table.toNat))) 5 (rV.ty v31)) 38 (tV (.int .i64 (if (p.Plan.Attrs.length : Int) < ((nth p.schema.Tables p.Plan.Table.toNat).Attrs.length : Int) then (p.Plan.Attrs.length : Int) else ((nth p.schema.Tables p.Plan.Table.toNat).Attrs.length : Int))))) 39 (tV (.int .i64 i))) (fun i => [own 89 aS v31 (lq (nth p.schema.Tables p.Plan.Table.toNat) p.Plan.Attrs i)]) (fun i => (nth p.schema.Tables p.Plan.Table.toNat).Attrs.length - i) 0 ⟨by omega, by omega⟩ (zU) (.c zS (SPs.of (A := own 89 aS v31 (nth p.schema.Tables p.Plan.Table.toNat).Attrs) (by rw [C6])) (LSub.nil)) ?_
 rintro i ⟨hi, hi2⟩
 refine Jr (Zs (aA Sr Sr) (ae (ar ?_)))
 refine au Sr (fun h40 => ?_) (fun h40 => ?_)
 ·
  try simp only [NF] at h40
  have hlt : i < (nth p.schema.Tables p.Plan.Table.toNat).Attrs.length /\ i < p.Plan.Attrs.length := by split at h40 <;> omega
  have hlt1 := hlt.1
  have hlt2 := hlt.2
  refine ay (ar (av (Jr (Zm (Za ?_)))))
  refine ae (ar ?_)
  refine bl [⟨0, [4], true⟩, ⟨1, [1], true⟩, ⟨2, [43], true⟩, ⟨3, [44], true⟩, ⟨4, [6], true⟩, ⟨5, [45, 46], true⟩, ⟨6, [47], true⟩, ⟨7, [48], true⟩, ⟨8, [42, 49], true⟩, ⟨9, [6], true⟩, ⟨10, [50, 51], true⟩] rfl (by kernel_rfl) ?_
  refine Zf rfl (ab g8 Sr) (Zf rfl (aa dw Sr rfl) (Zf rfl (aa br Sr rfl) (Zf rfl (ab bQ Sr) (Zv rfl ?_))))
  refine Zf rfl (ad (i := i) underlying44 ct Sr Sr (by rfl) (gb (by exact hlt2))) ?_
  refine Zf rfl (aa dH Sr rfl) (Zf rfl (ab ty9 Sr) ?_)
  refine Zf rfl (ai (rf _ _ zG (fun a ha => Nat.le_trans (hT.was a ha) (by decide))) ⟨Sr, Sr, trivial⟩ call245) ?_
  refine Zv rfl (Zf rfl (aC Sr Sr) (bj ?_))
  refine au Sr (fun h52 => ?_) (fun h52 => ?_)
  ·
   try simp only [NF] at h52
   refine aq (Zm (Zm (Zs (aa dw Sr rfl) (Zs (aa br Sr rfl) (Zl bQ Sr ?_)))))
   refine Zm ?_
   refine Zs (ad (i := i) underlying44 ct Sr Sr (by rfl) (gb (by exact hlt2))) ?_
   refine Zs (aa dH Sr rfl) (Zl ty9 Sr ?_)
   refine Zs (bd (i := i) underlying44 ct Sr zS Sr (by rfl) (by show i < (lq _ _ _).length; rw [ey]; exact hlt1)) ?_
   refine Zs (bV (i := i) dH Sr rfl zS (by show i < (lq _ _ _).length; rw [ey]; exact hlt1)) ?_
   refine Ju (dg (i := i) (y := nth (lq (nth p.schema.Tables p.Plan.Table.toNat) p.Plan.Attrs i) i) (y' := { nth (lq (nth p.schema.Tables p.Plan.Table.toNat) p.Plan.Attrs i) i with Name := (nth p.Plan.Attrs i).Name }) ty9 Sr Sr zS (gb (by rw [ey]; exact hlt1)) ⟨fun _ _ q => q, rfl, by intro g hg; simp only [List.mem_cons, List.not_mem_nil, or_false] at hg; rcases hg with rfl | rfl | rfl <;> rfl⟩) fun _ => ?_
   refine ae (aq (Zs (aB Sr Sr z6) (Zm (ae ?_))))
   refine aE (σ := Nat) (s := i) (i + 1) zO ⟨by omega, by omega⟩ (zU) (.c zS (SPs.of (A := own 89 aS v31 ((lq (nth p.schema.Tables p.Plan.Table.toNat) p.Plan.Attrs i).set i { nth (lq (nth p.schema.Tables p.Plan.Table.toNat) p.Plan.Attrs i) i with Name := (nth p.Plan.Attrs i).Name })) (by rw [zB hlt1 hlt2 h52])) (LSub.nil))
  try simp only [NF] at h52
  refine ay (aq (Zs (aB Sr Sr z6) (Zm (ae ?_))))
  refine aE (σ := Nat) (s := i) (i + 1) zO ⟨by omega, by omega⟩ (zU) (.c zS (SPs.of (A := own 89 aS v31 (lq (nth p.schema.Tables p.Plan.Table.toNat) p.Plan.Attrs i)) (by rw [xA hlt1 h52])) (LSub.nil))
 try simp only [NF] at h40
 have hfull : lq (nth p.schema.Tables p.Plan.Table.toNat) p.Plan.Attrs i = ee (nth p.schema.Tables p.Plan.Table.toNat) p.Plan.Attrs := xz (by split at h40 <;> omega)
 refine aY (Jr (Zm (Za (Za (ae ?_)))))
 refine aF ?_
 refine bJ (rv := .tmp 2) (rv' := .tmp 3) rfl () (Sel.all _) (.tmp Sr) (.tmp Sr) (B := tSl aS (lq (nth p.schema.Tables p.Plan.Table.toNat) p.Plan.Attrs i)) (B' := tV (.bool true)) (Frz.own) (Frz.sub Sr) ?_
 rw [if_pos hin, decide_eq_true hin, hfull]
 exact Sr
theorem tx (n : Nat) (p : Gplan) (hk0 : 0 < p.Plan.Kids.length) (hl : p.Plan.Tests.length <= 1000000000) : Fun1 prog 173 [(gL n).ty p] (fA [tSl aS (nth p.Plan.Kids 0).Attrs, tV (.bool (decide (0 < (p.Plan.Tests.length : Int)) && !(p.Plan.Tests.any fun t => !ew t (nth p.Plan.Kids 0).Attrs.length)))]) := by
 refine Spec.enter func173 rfl rfl fun h0 w0 fr0 => ?_
 refine eX 0 (fun _ _ r => iC hk0 r) fun hm => ?_
 obtain ⟨n, rfl⟩ := hm
 refine Jr (Zs (aJ (R := (gL (n + 1))) Sr) (Za (Za (ae (Jr ?_)))))
 refine Zs (aa dw Sr rfl) (Zs (aa br Sr rfl) (Zl gp Sr ?_))
 refine Zs (ad (i := 0) underlying42 dl Sr Sr (by rfl) (gb (by exact hk0))) ?_
 refine Zs (aa br Sr rfl) (Zl bQ Sr ?_)
 refine Zx (aD (fun w => zeroValue44 w) C3) fun v4 => ?_
 refine Ju (aj bQ Sr Sr zS) fun _ => ?_
 refine bc (t := 4) (Sel.take (Dz _)) Frz.box ?_
 refine ae (ar ?_)
 refine bl [⟨0, [4], true⟩, ⟨1, [1], true⟩, ⟨2, [12], true⟩, ⟨3, [13], true⟩, ⟨4, [14], true⟩, ⟨5, [15], true⟩, ⟨6, [16], true⟩, ⟨7, [1, 17], true⟩, ⟨8, [17, 18], true⟩, ⟨9, [17, 19], true⟩, ⟨10, [4, 17], true⟩, ⟨11, [17, 20, 21], true⟩, ⟨12, [17, 22], true⟩, ⟨13, [17, 23], true⟩, ⟨14, [11], true⟩, ⟨15, [24], true⟩] rfl (by kernel_rfl) ?_
 refine Zf rfl (ab bQ Sr) (Zf rfl (aa dw Sr rfl) (Zf rfl (aa br Sr rfl) (Zf rfl (ab iN Sr) (Zf rfl (ah underlying43 Sr) (Zf rfl (bD Sr Sr) ?_)))))
 refine Zv rfl ?_
 refine Mk rfl rfl Sr rfl (aa dw Sr rfl) ?_
 refine Mg rfl rfl Sr rfl (fun hw => aa br (Sub.w hw) rfl) (Mg rfl rfl Sr rfl (fun hw => ab iN (Sub.w hw)) ?_)
 refine Mk rfl rfl Sr rfl (bK (As := [_]) ⟨Sr, trivial⟩) ?_
 refine Mg rfl rfl Sr rfl (fun hw => ai (jA p.Plan.Tests zG 247 [bx (rSl aS) (nth p.Plan.Kids 0).Attrs] (fun t => !ew t (nth p.Plan.Kids 0).Attrs.length) (fun x _ => uQ x _) call247) ⟨(Sub.w hw), (Sub.w hw), trivial⟩ call246) (Mg rfl rfl Sr rfl (fun hw => bf (Sub.w hw)) (Zf rfl (aw Sr Sr) (Zf rfl (aW Sr) (Zf rfl (aW Sr) (bj ?_)))))
 refine aF ?_
 refine bJ (rv := .tmp 2) (rv' := .tmp 3) rfl () (Sel.all _) (.tmp Sr) (.tmp Sr) (Frz.sub Sr) (Frz.sub Sr) Sr
theorem rh (n : Nat) (p : Gplan) (hk0 : 0 < p.Plan.Kids.length) (hl : p.Plan.Cols.length <= 1000000000) : Fun1 prog 176 [(gL n).ty p] (fA [tSl aS (ej (nth p.Plan.Kids 0).Attrs p.Plan.Cols), tV (.bool (dU (nth p.Plan.Kids 0).Attrs.length p.Plan.Cols))]) := by
 refine Spec.enter func176 rfl rfl fun h0 w0 fr0 => ?_
 refine eX 0 (fun _ _ r => iC hk0 r) fun hm => ?_
 obtain ⟨n, rfl⟩ := hm
 refine Jr (Zs (aJ (R := (gL (n + 1))) Sr) (Za (Za (ae (ar ?_)))))
 refine bl [⟨0, [1], true⟩, ⟨1, [4], true⟩, ⟨2, [5], true⟩, ⟨3, [6], true⟩, ⟨4, [7], true⟩, ⟨5, [8], true⟩, ⟨6, [1], true⟩, ⟨7, [10], true⟩, ⟨8, [11], true⟩, ⟨9, [9, 12], false⟩, ⟨10, [13], true⟩, ⟨11, [13], true⟩, ⟨12, [14], true⟩, ⟨13, [15], true⟩] rfl (by kernel_rfl) ?_
 refine Zf rfl (aa dw Sr rfl) (Zf rfl (aa br Sr rfl) (Zf rfl (ab gp Sr) ?_))
 refine Zf rfl (ad (i := 0) underlying42 dl Sr Sr (by rfl) (gb (by exact hk0))) ?_
 refine Zf rfl (aa br Sr rfl) (Zf rfl (ab bQ Sr) (Zf rfl (aa dw Sr rfl) (Zf rfl (aa br Sr rfl) (Zf rfl (ab bY Sr) ?_))))
 refine cB rfl rfl rfl rfl (bz (Dz _) (nu _ _ hl) ⟨Sr, Sr, trivial⟩ call255) fun v13 => ?_
 refine Zf rfl (aM Sr rfl) (Zf rfl (aM Sr rfl) (Zf rfl (aW Sr) (Zf rfl (aW Sr) (bj (aF ?_)))))
 refine bJ (rv := .tmp 2) (rv' := .tmp 3) rfl () (Sel.all _) (.tmp Sr) (.tmp Sr) (Frz.own) (Frz.sub Sr) Sr
theorem ri (n : Nat) (p : Gplan) (hk1 : 1 < p.Plan.Kids.length) (hl0 : (nth p.Plan.Kids 0).Attrs.length <= 100000000) (hl1 : (nth p.Plan.Kids 1).Attrs.length <= 100000000) : Fun1 prog 178 [(gL n).ty p] (fA [tSl aS (if fG (nth p.Plan.Kids 0).Attrs (nth p.Plan.Kids 1).Attrs = true then bL (nth p.Plan.Kids 0).Attrs (nth p.Plan.Kids 1).Attrs else []), tV (.bool (fG (nth p.Plan.Kids 0).Attrs (nth p.Plan.Kids 1).Attrs))]) := by
 refine Spec.enter func178 rfl rfl fun h0 w0 fr0 => ?_
 have hk0 : 0 < p.Plan.Kids.length := by omega
 refine eX 0 (fun _ _ r => iC hk0 r) fun hm => ?_
 obtain ⟨n, rfl⟩ := hm
 refine Jr (Zs (aJ (R := (gL (n + 1))) Sr) (Za (Za (ae (Jr ?_)))))
 refine Zs (aa dw Sr rfl) (Zs (aa br Sr rfl) (Zl gp Sr ?_))
 refine Zs (ad (i := 0) underlying42 dl Sr Sr (by rfl) (gb (by exact hk0))) ?_
 refine Zs (aa br Sr rfl) (Zl bQ Sr ?_)
 refine Zx (bz (Dz _) (fH _ (by show (nth p.Plan.Kids 0).Attrs.length <= _; omega)) ⟨Sr, trivial⟩ call158) fun v14 => ?_
 refine Za (ae (ar (Jr (Zs (aa dw Sr rfl) (Zs (aa br Sr rfl) ?_)))))
 refine Zl gp Sr ?_
 refine Zs (ad (i := 1) underlying42 dl Sr Sr (by rfl) (gb (by exact hk1))) ?_
 refine Zs (aa br Sr rfl) (Zl bQ Sr (Zs (ah underlying44 Sr) (Zm (ae (av ?_)))))
 refine aO (σ := Nat × Value) (fun ⟨i, v⟩ => i <= (nth p.Plan.Kids 1).Attrs.length /\ ∀ k, k < i -> (decide (columnL (nth p.Plan.Kids 0).Attrs (nth (nth p.Plan.Kids 1).Attrs k).Name < 0) || decide ((nth (nth p.Plan.Kids 0).Attrs (columnL (nth p.Plan.Kids 0).Attrs (nth (nth p.Plan.Kids 1).Attrs k).Name).toNat).Kind = (nth (nth p.Plan.Kids 1).Attrs k).Kind)) = true) (fun ⟨i, v⟩ => upd (upd (upd (upd (upd cg 1 (bx (gL (n + 1)) p)) 4 (rV.ty v)) 20 (tSl aS (nth p.Plan.Kids 1).Attrs)) 21 (tV (.int .i64 (nth p.Plan.Kids 1).Attrs.length))) 22 (tV (.int .i64 i))) (fun ⟨i, v⟩ => [own 89 aS v (bL (nth p.Plan.Kids 0).Attrs ((nth p.Plan.Kids 1).Attrs.take i))]) (fun ⟨i, v⟩ => (nth p.Plan.Kids 1).Attrs.length - i) (0, v14) ⟨by omega, fun k hk => by omega⟩ (zU) (.c zS (SPs.of (A := own 89 aS v14 (nth p.Plan.Kids 0).Attrs) (by rw [List.take_zero]; simp [bL])) (LSub.nil)) ?_
 rintro ⟨i, v⟩ ⟨hi, hv⟩
 refine Jr (Zs (aA Sr Sr) (ae (ar ?_)))
 refine au Sr (fun h23 => ?_) (fun h23 => ?_)
 ·
  try simp only [NF] at h23
  have hlt : i < (nth p.Plan.Kids 1).Attrs.length := by omega
  have hcl := iY (nth p.Plan.Kids 0).Attrs (nth (nth p.Plan.Kids 1).Attrs i).Name
  have hjl := hG (nth p.Plan.Kids 0).Attrs ((nth p.Plan.Kids 1).Attrs.take i)
  rw [List.length_take] at hjl
  have hsn := lT (a := (nth p.Plan.Kids 0).Attrs) (l := (nth p.Plan.Kids 1).Attrs.take i) (x := nth (nth p.Plan.Kids 1).Attrs i)
  rw [<- dM hlt] at hsn
  refine ay (ar (av (Jr ?_)))
  refine Zs (ad  underlying44 ct Sr Sr rfl (gb (by exact hlt))) ?_
  refine Zl ct Sr ?_
  refine Zx (aD (fun w => zeroValue89 w) qY) fun v6 => ?_
  refine Ju (aj ct Sr Sr zS) fun _ => ?_
  refine bc (t := 6) (Sel.take (Dz _)) Frz.box ?_
  refine ae (ar ?_)
  refine bl [⟨0, [1], true⟩, ⟨1, [26], true⟩, ⟨2, [27], true⟩, ⟨3, [28], true⟩, ⟨4, [29], true⟩, ⟨5, [30], true⟩, ⟨6, [6], true⟩, ⟨7, [32], true⟩, ⟨8, [31, 33], true⟩, ⟨9, [34], true⟩] rfl (by kernel_rfl) ?_
  refine Zf rfl (aa dw Sr rfl) (Zf rfl (aa br Sr rfl) (Zf rfl (ab gp Sr) ?_))
  refine Zf rfl (ad (i := 0) underlying42 dl Sr Sr (by rfl) (gb (by exact hk0))) ?_
  refine Zf rfl (aa br Sr rfl) (Zf rfl (ab bQ Sr) (Zf rfl (aa dH Sr rfl) (Zf rfl (ab ty9 Sr) ?_)))
  refine Zf rfl (ai (kQ _ _ (by show (nth p.Plan.Kids 0).Attrs.length <= _; omega)) ⟨Sr, Sr, trivial⟩ call166) ?_
  refine Zf rfl (aW Sr) (bj (av (Jr (Zm (Zs (aA Sr Sr) ?_)))))
  refine Za (ae ?_)
  refine au Sr (fun h35 => ?_) (fun h35 => ?_)
  ·
   try simp only [NF] at h35
   refine aq (Zm (Zl ct Sr ?_))
   refine Zs (ax (ys := [_]) underlying44 gv ⟨rfl, Sr, trivial⟩ rfl (by decide)) ?_
   refine Zx (aL underlying44 gv Sr Sr zS (by simp; omega) (by simp; omega)) fun v41 => ?_
   refine Za (ae (aq (Zs (aB Sr Sr z6) (Zm (ae ?_)))))
   refine aE (σ := Nat × Value) (s := (i, v)) (i + 1, v41) zO ?_ (zU) (.c zS (SPs.of (A := own 89 aS v41 ((bL (nth p.Plan.Kids 0).Attrs ((nth p.Plan.Kids 1).Attrs.take i)) ++ [nth (nth p.Plan.Kids 1).Attrs i])) (by rw [hsn, if_pos h35])) (LSub.nil))
   refine ⟨by omega, fun k hk => ?_⟩
   by_cases e : k = i
   ·
    subst e; simp [h35]
   exact hv k zG
  try simp only [NF] at h35
  have hjn : nth (bL (nth p.Plan.Kids 0).Attrs ((nth p.Plan.Kids 1).Attrs.take i)) (columnL (nth p.Plan.Kids 0).Attrs (nth (nth p.Plan.Kids 1).Attrs i).Name).toNat = nth (nth p.Plan.Kids 0).Attrs (columnL (nth p.Plan.Kids 0).Attrs (nth (nth p.Plan.Kids 1).Attrs i).Name).toNat := xB zG
  refine ar ?_
  refine bl [⟨0, [4], true⟩, ⟨1, [7], true⟩, ⟨5, [6], true⟩, ⟨6, [48], true⟩, ⟨2, [43, 44], false⟩, ⟨3, [45], false⟩, ⟨4, [46], false⟩, ⟨7, [47, 49], true⟩, ⟨8, [50], true⟩] rfl (by kernel_rfl) ?_
  refine Zv rfl (Zv rfl (Zf rfl (aa dH Sr rfl) (Zf rfl (ab ty3 Sr) ?_)))
  refine ff rfl rfl rfl rfl (bd (i := (columnL (nth p.Plan.Kids 0).Attrs (nth (nth p.Plan.Kids 1).Attrs i).Name).toNat) underlying44 ct Sr zS Sr (by show columnL (nth p.Plan.Kids 0).Attrs (nth (nth p.Plan.Kids 1).Attrs i).Name = _; omega) (by show _ < (bL _ _).length; unfold bL; rw [List.length_append]; omega)) ?_
  refine ff rfl rfl rfl rfl (bV (i := (columnL (nth p.Plan.Kids 0).Attrs (nth (nth p.Plan.Kids 1).Attrs i).Name).toNat) dH Sr rfl zS (by show _ < (bL _ _).length; unfold bL; rw [List.length_append]; omega)) ?_
  refine ff rfl rfl rfl rfl (eM (i := (columnL (nth p.Plan.Kids 0).Attrs (nth (nth p.Plan.Kids 1).Attrs i).Name).toNat) (f := ⟨Int, 3, bg, GAttr.Kind⟩) ty3 Sr rfl zS (gb (by unfold bL; rw [List.length_append]; omega))) ?_
  refine Zf rfl (bb Sr Sr) (Zf rfl (aW Sr) (bj ?_))
  refine au Sr (fun h42 => ?_) (fun h42 => ?_)
  ·
   try simp only [NF] at h42
   refine Jr (Za (Za (ae (aF ?_))))
   refine bJ (rv := .tmp 2) (rv' := .tmp 3) rfl () (Sel.all _) (.tmp Sr) (.tmp Sr) (B := tSl aS []) (B' := tV (.bool false)) (Frz.sub DT) (Frz.sub Sr) ?_
   have hno : fG (nth p.Plan.Kids 0).Attrs (nth p.Plan.Kids 1).Attrs = false := gZ hlt (by rw [hjn] at h42; simp [h42]; omega)
   rw [if_neg (by rw [hno]; simp), hno]
   exact Sr
  try simp only [NF] at h42
  refine ay (aq (Zs (aB Sr Sr z6) (Zm (ae ?_))))
  refine aE (σ := Nat × Value) (s := (i, v)) (i + 1, v) zO ?_ (zU) (.c zS (SPs.of (A := own 89 aS v (bL (nth p.Plan.Kids 0).Attrs ((nth p.Plan.Kids 1).Attrs.take i))) (by rw [hsn, if_neg zG])) (LSub.nil))
  refine ⟨by omega, fun k hk => ?_⟩
  by_cases e : k = i
  ·
   subst e; rw [hjn] at h42; simp [h42]
  exact hv k zG
 try simp only [NF] at h23
 obtain rfl : i = (nth p.Plan.Kids 1).Attrs.length := by omega
 have hok : fG (nth p.Plan.Kids 0).Attrs (nth p.Plan.Kids 1).Attrs = true := iP hv
 refine bZ (L' := [own 89 aS v (bL (nth p.Plan.Kids 0).Attrs (nth p.Plan.Kids 1).Attrs)]) (.c zS (SPs.of (A := own 89 aS v (bL (nth p.Plan.Kids 0).Attrs ((nth p.Plan.Kids 1).Attrs.take (nth p.Plan.Kids 1).Attrs.length))) (by rw [List.take_length])) (LSub.nil)) ?_
 refine aY (Jr (Zm (Za (Za (ae ?_)))))
 refine aF ?_
 refine bJ (rv := .tmp 2) (rv' := .tmp 3) rfl () (Sel.all _) (.tmp Sr) (.tmp Sr) (B := tSl aS (bL (nth p.Plan.Kids 0).Attrs (nth p.Plan.Kids 1).Attrs)) (B' := tV (.bool true)) (Frz.own) (Frz.sub Sr) ?_
 rw [if_pos hok, hok]
 exact Sr
theorem lV (n : Nat) (p : Gplan) (hk1 : 1 < p.Plan.Kids.length) (hl0 : (nth p.Plan.Kids 0).Attrs.length <= 100000000) : Fun1 prog 180 [(gL n).ty p] (fA [tSl aS (nth p.Plan.Kids 0).Attrs, tV (.bool (cq (nth p.Plan.Kids 0).Attrs (nth p.Plan.Kids 1).Attrs))]) := by
 refine Spec.enter func180 rfl rfl fun h0 w0 fr0 => ?_
 have hk0 : 0 < p.Plan.Kids.length := by omega
 refine eX 0 (fun _ _ r => iC hk0 r) fun hm => ?_
 obtain ⟨n, rfl⟩ := hm
 refine Jr (Zs (aJ (R := (gL (n + 1))) Sr) (Za (Za (ae (ar ?_)))))
 refine bl [⟨0, [1], true⟩, ⟨1, [4], true⟩, ⟨2, [5], true⟩, ⟨3, [6], true⟩, ⟨4, [7], true⟩, ⟨5, [8], true⟩, ⟨6, [1], true⟩, ⟨7, [10], true⟩, ⟨8, [11], true⟩, ⟨9, [12], true⟩, ⟨10, [13], true⟩, ⟨11, [14], true⟩, ⟨12, [1], true⟩, ⟨13, [16], true⟩, ⟨14, [17], true⟩, ⟨15, [18], true⟩, ⟨16, [19], true⟩, ⟨17, [20], true⟩, ⟨18, [15, 21], true⟩, ⟨19, [9], true⟩, ⟨20, [22], true⟩] rfl (by kernel_rfl) ?_
 refine Zf rfl (aa dw Sr rfl) (Zf rfl (aa br Sr rfl) (Zf rfl (ab gp Sr) ?_))
 refine Zf rfl (ad (i := 0) underlying42 dl Sr Sr (by rfl) (gb (by exact hk0))) ?_
 refine Zf rfl (aa br Sr rfl) (Zf rfl (ab bQ Sr) (Zf rfl (aa dw Sr rfl) (Zf rfl (aa br Sr rfl) (Zf rfl (ab gp Sr) ?_))))
 refine Zf rfl (ad (i := 0) underlying42 dl Sr Sr (by rfl) (gb (by exact hk0))) ?_
 refine Zf rfl (aa br Sr rfl) (Zf rfl (ab bQ Sr) (Zf rfl (aa dw Sr rfl) (Zf rfl (aa br Sr rfl) (Zf rfl (ab gp Sr) ?_))))
 refine Zf rfl (ad (i := 1) underlying42 dl Sr Sr (by rfl) (gb (by exact hk1))) ?_
 refine Zf rfl (aa br Sr rfl) (Zf rfl (ab bQ Sr) ?_)
 refine Zf rfl (ai (nt _ _ (by show (nth p.Plan.Kids 0).Attrs.length <= _; omega)) ⟨Sr, Sr, trivial⟩ call167) ?_
 refine Zf rfl (aW Sr) (Zf rfl (aW Sr) (bj (aF ?_)))
 refine bJ (rv := .tmp 2) (rv' := .tmp 3) rfl () (Sel.all _) (.tmp Sr) (.tmp Sr) (Frz.sub Sr) (Frz.sub Sr) Sr
theorem tz (n : Nat) (p : Gplan) (hk0 : 0 < p.Plan.Kids.length) (hl0 : (nth p.Plan.Kids 0).Attrs.length <= 100000000) : Fun1 prog 183 [(gL n).ty p] (fA [tSl aS (if gw p.Plan = true then tv p.Plan else []), tV (.bool (gw p.Plan))]) := by
 refine Spec.enter func183 rfl rfl fun h0 w0 fr0 => ?_
 refine eX 0 (fun _ _ r => iC hk0 r) fun hm => ?_
 obtain ⟨n, rfl⟩ := hm
 refine Jr (Zs (aJ (R := (gL (n + 1))) Sr) (Za (Za (ae (Jr ?_)))))
 refine Zs (aa dw Sr rfl) (Zs (aa br Sr rfl) (Zl gp Sr ?_))
 refine Zs (ad (i := 0) underlying42 dl Sr Sr (by rfl) (gb (by exact hk0))) ?_
 refine Zs (aa br Sr rfl) (Zl bQ Sr ?_)
 refine Zx (bz (Dz _) (fH _ (by show (nth p.Plan.Kids 0).Attrs.length <= _; omega)) ⟨Sr, trivial⟩ call158) fun v11 => ?_
 refine Za (ae (ar (Jr (Zs (aa dw Sr rfl) (Zs (aa br Sr rfl) ?_)))))
 refine Zl ty3 Sr (Zs (aA Sr Sr) (Zm ?_))
 refine Zk (aa dw Sr rfl) ?_
 refine Zg (fun hw => aa br (Sub.w hw) rfl) (Zg (fun hw => ab ty3 (Sub.w hw)) ?_)
 refine Zk (al Sr) ?_
 refine Zg (fun hw => cj underlying44 (Sub.w hw) zS) ?_
 refine Zg (fun hw => bE (Sub.w hw) (Sub.w hw)) (Zs (az Sr Sr) (Zm ?_))
 refine Zk (aa dw Sr rfl) ?_
 refine Zg (fun hw => aa br (Sub.w hw) rfl) (Zg (fun hw => ab bQ (Sub.w hw)) (Zg (fun hw => ah underlying44 (Sub.w hw)) ?_))
 refine Zk (al Sr) ?_
 refine Zg (fun hw => cj underlying44 (Sub.w hw) zS) ?_
 refine Zg (fun hw => bb (Sub.w hw) (Sub.w hw)) (Zs (az Sr Sr) (ae ?_))
 refine au Sr (fun h32 => ?_) (fun h32 => ?_)
 ·
  try simp only [NF] at h32
  refine Jr (Za (Za (ae (aF ?_))))
  refine bJ (rv := .tmp 2) (rv' := .tmp 3) rfl () (Sel.all _) (.tmp Sr) (.tmp Sr) (B := tSl aS []) (B' := tV (.bool false)) (Frz.sub DT) (Frz.sub Sr) ?_
  have hno : gw p.Plan = false := by unfold gw; rw [decide_eq_false_iff_not]; omega
  rw [if_neg (by rw [hno]; simp), hno]
  exact Sr
 try simp only [NF] at h32
 have hok : gw p.Plan = true := by unfold gw; rw [decide_eq_true_eq]; omega
 have hr : 0 <= p.Plan.Col /\ p.Plan.Col < (nth p.Plan.Kids 0).Attrs.length /\ p.Plan.Attrs.length = (nth p.Plan.Kids 0).Attrs.length := by omega
 refine ay (ar ?_)
 refine bl [⟨0, [4], true⟩, ⟨1, [1], true⟩, ⟨2, [34], true⟩, ⟨3, [35], true⟩, ⟨4, [1], true⟩, ⟨5, [37], true⟩, ⟨6, [38], true⟩, ⟨7, [1], true⟩, ⟨8, [40], true⟩, ⟨9, [41], true⟩, ⟨10, [39, 42], true⟩, ⟨11, [43], true⟩, ⟨12, [44], true⟩, ⟨13, [33, 36], false⟩, ⟨14, [46], false⟩, ⟨15, [45, 47], false⟩] rfl (by kernel_rfl) ?_
 refine Zv rfl (Zf rfl (aa dw Sr rfl) (Zf rfl (aa br Sr rfl) (Zf rfl (ab ty3 Sr) (Zf rfl (aa dw Sr rfl) (Zf rfl (aa br Sr rfl) ?_)))))
 refine Zf rfl (ab bQ Sr) (Zf rfl (aa dw Sr rfl) (Zf rfl (aa br Sr rfl) (Zf rfl (ab ty3 Sr) ?_)))
 refine Zf rfl (ad (i := p.Plan.Col.toNat) underlying44 ct Sr Sr (by show p.Plan.Col = _; omega) (gb (by show p.Plan.Col.toNat < p.Plan.Attrs.length; omega))) ?_
 refine Zf rfl (aa dH Sr rfl) (Zf rfl (ab ty9 Sr) ?_)
 refine ff rfl rfl rfl rfl (bd (i := p.Plan.Col.toNat) underlying44 ct Sr zS Sr (by show p.Plan.Col = _; omega) (by show _ < (nth p.Plan.Kids 0).Attrs.length; omega)) ?_
 refine ff rfl rfl rfl rfl (bV (i := p.Plan.Col.toNat) dH Sr rfl zS (by show _ < (nth p.Plan.Kids 0).Attrs.length; omega)) ?_
 refine cV rfl rfl rfl (dg (i := p.Plan.Col.toNat) (y := nth (nth p.Plan.Kids 0).Attrs p.Plan.Col.toNat) (y' := { nth (nth p.Plan.Kids 0).Attrs p.Plan.Col.toNat with Name := (nth p.Plan.Attrs p.Plan.Col.toNat).Name }) ty9 Sr Sr zS (gb (by show _ < (nth p.Plan.Kids 0).Attrs.length; omega)) ⟨fun _ _ q => q, rfl, by intro g hg; simp only [List.mem_cons, List.not_mem_nil, or_false] at hg; rcases hg with rfl | rfl | rfl <;> rfl⟩) fun _ => ?_
 refine bj (Jr (Zm (Za (Za (ae ?_)))))
 refine aF ?_
 refine bJ (rv := .tmp 2) (rv' := .tmp 3) rfl () (Sel.all _) (.tmp Sr) (.tmp Sr) (B := tSl aS (tv p.Plan)) (B' := tV (.bool true)) (Frz.own) (Frz.sub Sr) ?_
 rw [if_pos hok, hok]
 exact Sr
theorem tA (n : Nat) (p : Gplan) (hk0 : 0 < p.Plan.Kids.length) (hl0 : (nth p.Plan.Kids 0).Attrs.length <= 100000000) (hc : p.Plan.Cols.length <= 100000000) : Fun1 prog 186 [(gL n).ty p] (fA [tSl aS (if fS p.Plan = true then jB p.Plan else []), tV (.bool (fS p.Plan && jq p.Plan))]) := by
 refine Spec.enter func186 rfl rfl fun h0 w0 fr0 => ?_
 refine eX 0 (fun _ _ r => iC hk0 r) fun hm => ?_
 obtain ⟨n, rfl⟩ := hm
 refine Jr (Zs (aJ (R := (gL (n + 1))) Sr) (Za (Za (ae (Jr ?_)))))
 refine Zs (aa dw Sr rfl) (Zs (aa br Sr rfl) (Zl gp Sr ?_))
 refine Zs (ad (i := 0) underlying42 dl Sr Sr (by rfl) (gb (by exact hk0))) ?_
 refine Zs (aa br Sr rfl) (Zl bQ Sr (Za (ae (Jr (Zm ?_)))))
 refine Zs (aa dw Sr rfl) (Zs (aa br Sr rfl) (Zl bY Sr ?_))
 refine Zx (bz (Dz _) (nu _ _ (by show p.Plan.Cols.length <= _; omega)) ⟨Sr, Sr, trivial⟩ call255) fun v19 => ?_
 refine Zm (Zs (aM Sr rfl) (Zs (aM Sr rfl) (Za (Za (ae ?_)))))
 refine ar (Jr (Zm (Zs (bf Sr) (Zm ?_))))
 refine Zk (aa dw Sr rfl) ?_
 refine Zg (fun hw => aa br (Sub.w hw) rfl) (Zg (fun hw => ab bQ (Sub.w hw)) (Zg (fun hw => ah underlying44 (Sub.w hw)) ?_))
 refine Zk (al Sr) ?_
 refine Zg (fun hw => cj underlying44 (Sub.w hw) zS) ?_
 refine Zg (fun hw => aB (Sub.w hw) Sr (by show fe (((ej (nth p.Plan.Kids 0).Attrs p.Plan.Cols).length : Int) + 1); have := pw (nth p.Plan.Kids 0).Attrs p.Plan.Cols; unfold fe; omega)) ?_
 refine Zg (fun hw => bb (Sub.w hw) (Sub.w hw)) (Zs (az Sr Sr) (Zm ?_))
 refine Zk (aa dw Sr rfl) ?_
 refine Zg (fun hw => aa br (Sub.w hw) rfl) (Zg (fun hw => ab ty3 (Sub.w hw)) (Zg (fun hw => aA (Sub.w hw) Sr) (Zs (az Sr Sr) (Zm ?_))))
 refine Zk (aa dw Sr rfl) ?_
 refine Zg (fun hw => aa br (Sub.w hw) rfl) (Zg (fun hw => ab ty3 (Sub.w hw)) (Zg (fun hw => bD (Sub.w hw) Sr) (Zs (az Sr Sr) (ae ?_))))
 refine au Sr (fun h45 => ?_) (fun h45 => ?_)
 ·
  try simp only [NF] at h45
  refine Jr (Za (Za (ae (aF ?_))))
  refine bJ (rv := .tmp 2) (rv' := .tmp 3) rfl () (Sel.all _) (.tmp Sr) (.tmp Sr) (B := tSl aS []) (B' := tV (.bool false)) (Frz.sub DT) (Frz.sub Sr) ?_
  have hno : fS p.Plan = false := by
   unfold fS
   by_cases hpk : dU (nth p.Plan.Kids 0).Attrs.length p.Plan.Cols = true
   ·
    have hpl : (ej (nth p.Plan.Kids 0).Attrs p.Plan.Cols).length = p.Plan.Cols.length := by rw [ej, if_pos hpk]; simp [bv]
    rw [hpk, Bool.true_and, decide_eq_false_iff_not]
    rcases h45 with ((h | h) | h) | h
    ·
     exact absurd hpk (by rw [show dU (nth p.Plan.Kids 0).Attrs.length p.Plan.Cols = false from h]; simp)
    all_goals omega
   rw [Bool.eq_false_iff.2 hpk, Bool.false_and]
  rw [if_neg (by rw [hno]; simp), hno]
  exact Sr
 try simp only [NF] at h45
 have hpk : dU (nth p.Plan.Kids 0).Attrs.length p.Plan.Cols = true := by simp_all
 have hpm : (ej (nth p.Plan.Kids 0).Attrs p.Plan.Cols) = bv (nth p.Plan.Kids 0).Attrs p.Plan.Cols := by rw [ej, if_pos hpk]
 have hpl : (ej (nth p.Plan.Kids 0).Attrs p.Plan.Cols).length = p.Plan.Cols.length := by rw [hpm]; simp [bv]
 have hok : fS p.Plan = true := by unfold fS; rw [hpk, Bool.true_and, decide_eq_true_eq]; omega
 refine ay (Jr (Zs (aa dw Sr rfl) (Zs (aa br Sr rfl) (Zl bQ Sr (Zm ?_)))))
 refine Zs (cj underlying44 Sr zS) ?_
 refine Zs (ad (i := p.Plan.Cols.length) underlying44 ct Sr Sr (by rw [hpl]) (gb (by show p.Plan.Cols.length < p.Plan.Attrs.length; omega))) ?_
 refine Zs (aa dH Sr rfl) (Zl ty9 Sr (Zs (aU (x := (⟨(nth p.Plan.Attrs p.Plan.Cols.length).Name, 2, [], ⟨0, 0, ⟨#[]⟩⟩⟩ : GAttr)) (zs := [[Value.string ⟨#[]⟩], [Value.int .i64 0], [Value.slice none 0 0], [Value.int .i64 0, Value.int .i64 0, Value.string ⟨#[]⟩]]) dH (fun w => zeroValue89 w) ⟨Sr, Sr, trivial⟩ ⟨⟨Sr, rfl⟩, ⟨Sr, rfl⟩, fun _ => ⟨_, rfl, none, ⟨0, Nat.le_refl _⟩, rfl, fun q => absurd rfl q⟩, fun _ => ⟨[Value.int .i64 0], _, rfl, rfl, ⟨[Value.int .i64 0], _, rfl, rfl, ⟨[Value.string ⟨#[]⟩], _, rfl, rfl, rfl⟩⟩⟩, trivial⟩) ?_))
 refine Zx (aD (fun w => zeroValue89 w) qY) fun b7 => ?_
 refine Ju (aj ct Sr Sr zS) fun _ => ?_
 refine ae (ar (av (Jr (Zs (aa dw Sr rfl) (Zs (aa br Sr rfl) ?_)))))
 refine Zl ty3 Sr (Zs (aC Sr Sr) (Za (ae ?_)))
 refine au Sr (fun h63 => ?_) (fun h63 => ?_)
 ·
  try simp only [NF] at h63
  refine aq (Zs (aa dw Sr rfl) (Zs (aa br Sr rfl) (Zl ty3 Sr (Zs (aC Sr Sr) (Za ?_)))))
  refine ae (Jr (Zm ?_))
  refine Zs (aN ct Sr zS) ?_
  refine Zs (ax (ys := [_]) underlying44 gv ⟨rfl, Sr, trivial⟩ rfl (by decide)) ?_
  refine Zx (aL underlying44 gv Sr Sr zS (by rw [hpl]; simp; omega) (by rw [hpl]; simp; omega)) fun v101 => ?_
  refine Zm (Za (Za (ae (aF ?_))))
  refine bJ (rv := .tmp 2) (rv' := .tmp 3) rfl () (Sel.all _) (.tmp Sr) (.tmp Sr) Frz.own (Frz.sub Sr) (Ee ?_ ?_)
  ·
   rw [if_pos hok]
   show (ej (nth p.Plan.Kids 0).Attrs p.Plan.Cols) ++ _ = _
   rw [hpm]
   first | (simp [jB, n8, h63]; done) | (simp [jB, n8, h63, hgi]; done) | (simp [jB, n8, h63, hgi, h85]; done)
  rw [hok, Bool.true_and]
  first | (simp [jq, h63]; done) | (simp [jq, h63, hgi]; done) | (simp [jq, h63, hgi, h85]; done) | (simp [jq, h63, hgi, h85]; exact hpk)
 try simp only [NF] at h63
 refine Jr (Zs (aa dw Sr rfl) (Zs (aa br Sr rfl) (Zl ty3 Sr (Zs (aA Sr Sr) (Zm ?_)))))
 refine Zk (aa dw Sr rfl) ?_
 refine Zg (fun hw => aa br (Sub.w hw) rfl) (Zg (fun hw => ab ty3 (Sub.w hw)) ?_)
 refine Zk (al Sr) ?_
 refine Zg (fun hw => ah underlying44 (Sub.w hw)) (Zg (fun hw => bE (Sub.w hw) (Sub.w hw)) (Zs (az Sr Sr) (Za (ae ?_))))
 refine au Sr (fun h72 => ?_) (fun h72 => ?_)
 ·
  try simp only [NF] at h72
  have hgi : n7 p.Plan = false := by unfold n7; rw [decide_eq_false_iff_not]; omega
  refine aq (Za (ae (Jr (Zm ?_))))
  refine Zs (aN ct Sr zS) ?_
  refine Zs (ax (ys := [_]) underlying44 gv ⟨rfl, Sr, trivial⟩ rfl (by decide)) ?_
  refine Zx (aL underlying44 gv Sr Sr zS (by rw [hpl]; simp; omega) (by rw [hpl]; simp; omega)) fun v101 => ?_
  refine Zm (Za (Za (ae (aF ?_))))
  refine bJ (rv := .tmp 2) (rv' := .tmp 3) rfl () (Sel.all _) (.tmp Sr) (.tmp Sr) Frz.own (Frz.sub Sr) (Ee ?_ ?_)
  ·
   rw [if_pos hok]
   show (ej (nth p.Plan.Kids 0).Attrs p.Plan.Cols) ++ _ = _
   rw [hpm]
   first | (simp [jB, n8, h63]; done) | (simp [jB, n8, h63, hgi]; done) | (simp [jB, n8, h63, hgi, h85]; done)
  rw [hok, Bool.true_and]
  first | (simp [jq, h63]; done) | (simp [jq, h63, hgi]; done) | (simp [jq, h63, hgi, h85]; done) | (simp [jq, h63, hgi, h85]; exact hpk)
 try simp only [NF] at h72
 have hgi : n7 p.Plan = true := by unfold n7; rw [decide_eq_true_eq]; omega
 have hin : 0 <= p.Plan.Col /\ p.Plan.Col < (nth p.Plan.Kids 0).Attrs.length := by omega
 refine Jr (Zs (aa dw Sr rfl) (Zs (aa br Sr rfl) (Zl ty3 Sr (Zs (aC Sr Sr) (Za ?_)))))
 refine ae ?_
 refine au Sr (fun h85 => ?_) (fun h85 => ?_)
 ·
  try simp only [NF] at h85
  refine aq (Zm (Zs (aa dw Sr rfl) (Zs (aa br Sr rfl) (Zl ty3 Sr ?_))))
  refine Zs (ad (i := p.Plan.Col.toNat) underlying44 ct Sr Sr (by show p.Plan.Col = _; omega) (gb (by show _ < (nth p.Plan.Kids 0).Attrs.length; omega))) ?_
  refine Zs (aa dH Sr rfl) (Zl ty3 Sr (Zs (aC Sr Sr) (Za (ae (Jr ?_)))))
  refine Zm ?_
  refine Zs (aN ct Sr zS) ?_
  refine Zs (ax (ys := [_]) underlying44 gv ⟨rfl, Sr, trivial⟩ rfl (by decide)) ?_
  refine Zx (aL underlying44 gv Sr Sr zS (by rw [hpl]; simp; omega) (by rw [hpl]; simp; omega)) fun v101 => ?_
  refine Zm (Za (Za (ae (aF ?_))))
  refine bJ (rv := .tmp 2) (rv' := .tmp 3) rfl () (Sel.all _) (.tmp Sr) (.tmp Sr) Frz.own (Frz.sub Sr) (Ee ?_ ?_)
  ·
   rw [if_pos hok]
   show (ej (nth p.Plan.Kids 0).Attrs p.Plan.Cols) ++ _ = _
   rw [hpm]
   first | (simp [jB, n8, h63]; done) | (simp [jB, n8, h63, hgi]; done) | (simp [jB, n8, h63, hgi, h85]; done)
  rw [hok, Bool.true_and]
  first | (simp [jq, h63]; done) | (simp [jq, h63, hgi]; done) | (simp [jq, h63, hgi, h85]; done) | (simp [jq, h63, hgi, h85]; exact hpk)
 try simp only [NF] at h85
 refine aq (Zm (Zs (aa dw Sr rfl) (Zs (aa br Sr rfl) (Zl ty3 Sr ?_))))
 refine Zs (ad (i := p.Plan.Col.toNat) underlying44 ct Sr Sr (by show p.Plan.Col = _; omega) (gb (by show _ < (nth p.Plan.Kids 0).Attrs.length; omega))) ?_
 refine Zs (aa dH Sr rfl) (Zl ty3 Sr (Zs (aP dH Sr rfl) ?_))
 refine Ju (aI (R := bg) (y' := (⟨(nth p.Plan.Attrs p.Plan.Cols.length).Name, (nth (nth p.Plan.Kids 0).Attrs p.Plan.Col.toNat).Kind, [], ⟨0, 0, ⟨#[]⟩⟩⟩ : GAttr)) ty3 Sr Sr zS (by exact ⟨rfl, fun _ _ q => q, rfl, by intro g hg; simp only [List.mem_cons, List.not_mem_nil, or_false] at hg; rcases hg with rfl | rfl <;> rfl⟩)) fun _ => ?_
 refine ae (Jr (Zm ?_))
 refine Zs (aN ct Sr zS) ?_
 refine Zs (ax (ys := [_]) underlying44 gv ⟨rfl, Sr, trivial⟩ rfl (by decide)) ?_
 refine Zx (aL underlying44 gv Sr Sr zS (by rw [hpl]; simp; omega) (by rw [hpl]; simp; omega)) fun v101 => ?_
 refine Zm (Za (Za (ae (aF ?_))))
 refine bJ (rv := .tmp 2) (rv' := .tmp 3) rfl () (Sel.all _) (.tmp Sr) (.tmp Sr) Frz.own (Frz.sub Sr) (Ee ?_ ?_)
 ·
  rw [if_pos hok]
  show (ej (nth p.Plan.Kids 0).Attrs p.Plan.Cols) ++ _ = _
  rw [hpm]
  first | (simp [jB, n8, h63]; done) | (simp [jB, n8, h63, hgi]; done) | (simp [jB, n8, h63, hgi, h85]; done)
 rw [hok, Bool.true_and]
 first | (simp [jq, h63]; done) | (simp [jq, h63, hgi]; done) | (simp [jq, h63, hgi, h85]; done) | (simp [jq, h63, hgi, h85]; exact hpk)
theorem fI {α : Type} [Inhabited α] {enc : α -> Value} {w : World} {g off m : Nat} {dk : Array α} {os : Array Obj} {b : Nat} (hb : b < w.heap.size) (hne : b ≠ g) : (Go.Proofs.sortWorld enc w g off m dk os).heap[b]? = w.heap[b]? := by
 show ((Sort.mapBlock (Sort.ahead w m) g _).heap ++ os)[b]? = _
 rw [Array.getElem?_append_left (by simp [Sort.mapBlock, Sort.ahead, hb])]
 simp only [Sort.mapBlock, Sort.ahead, Array.getElem?_modify, Ne.symm hne, if_false]
theorem jD {α : Type} [Inhabited α] {enc : α -> Value} {w : World} {g off m : Nat} {dk : Array α} {os : Array Obj} {cur : Array Value} {e : Nat} {fz : Nat × Nat} (hb : w.heap[g]? = some (.cells cur e fz)) :
  (Go.Proofs.sortWorld enc w g off m dk os).heap[g]? = some (.cells (Sort.putCells enc off dk cur) e fz) := by
 have hlt := (Array.getElem?_eq_some_iff.1 hb).1
 show ((Sort.mapBlock (Sort.ahead w m) g _).heap ++ os)[g]? = _
 rw [Array.getElem?_append_left (by simp [Sort.mapBlock, Sort.ahead, hlt])]
 simp only [Sort.mapBlock, Sort.ahead, Array.getElem?_modify, if_true, hb, Option.map_some, Sort.onCells]
theorem sw {P : Program} {f : Nat} {As : List Ty} {rest : List Value} (v : Value) (xs : List ByteArray) (ds : List (List UInt8)) (hd : ds.length = xs.length) (m : Nat) (hm : m <= xs.length) (ret : Option Addr -> Nat -> Value) (T : Value -> Ty) (hT : ∀ h a n cap, (xs = [] -> n = 0) -> (xs ≠ [] -> n = m) -> (T (.slice a n cap)).p h (ret a cap)) (hrest : ∀ h vs, Args h As vs -> vs = rest)
  (hk : ∀ (g cap : Nat) (w : World), Sort.Holds Go.Proofs.encStr w g 0 (xs.map ofB).toArray -> g < w.heap.size -> xs.length <= cap -> Calls P f (.slice (some ⟨g, 0, none⟩) xs.length cap :: rest).toArray w fun e w' => e = .returned (ret (some ⟨g, 0, none⟩) cap) /\ ∃ n os, w' = Go.Proofs.sortWorld Go.Proofs.encStr w g 0 n ds.toArray os)
  (hn : ∀ a cap w, xs = [] -> Calls P f (.slice a 0 cap :: rest).toArray w fun e w' => e = .returned (ret a cap) /\ w' = w) :
  Spec (X := { z : Value // m = xs.length -> z = v }) P f (rV.ty v :: As) [own 9 eH v xs] (fun z => T z.1) (fun z => [own 9 eH z.1 ((ds.take m).map toB)]) := by
 intro vs h m0 r w ha sp st
 match vs, ha with
 | u1 :: us, ⟨a1, a2⟩ =>
 obtain ⟨e1, _⟩ := a1
 subst e1
 have := hrest _ _ a2
 subst this
 obtain ⟨m1, m2, d12, rfl, ho, e3⟩ := st
 rw [en] at e3; subst e3
 rw [DJ] at sp
 have none_case : ∀ (p : Option Addr) (cap : Nat), u1 = .slice p 0 cap -> xs = [] -> (own 9 eH u1 xs).p h m1 -> Calls P f (u1 :: us).toArray w (Ret (X := { z : Value // m = xs.length -> z = u1 }) h w r (fun z => T z.1) (fun z => [own 9 eH z.1 ((ds.take m).map toB)])) := by
  intro p cap hu hx ho
  subst hu; subst hx
  have hds : ds = [] := List.length_eq_zero_iff.1 hd
  subst hds
  refine (hn p cap w rfl).mono ?_
  rintro e' w' ⟨rfl, rfl⟩
  exact ⟨⟨.slice p 0 cap, fun _ => rfl⟩, _, h, m1, rfl, HL.refl, sp, ⟨m1, PH.emp, DM _, (DJ _).symm, by simpa using ho, rfl⟩, hT _ _ _ _ (fun _ => rfl) (fun q => absurd rfl q)⟩
 have ho0 := ho
 rcases ho with ⟨rfl, rfl, rfl⟩ | ⟨g, cap, cur, rfl, rfl, hl, hmx, hs, hr⟩
 · exact none_case none 0 rfl rfl ho0
 · by_cases hx : xs = []
   · subst hx; exact none_case _ cap rfl rfl ho0
   · have hk1 : eH.k = 1 := rfl
     rw [hk1, Nat.mul_one] at hs hr
     rw [iB] at hr
     have hb := sp.mw g _ (DS _ _)
     have hH : Sort.Holds Go.Proofs.encStr w g 0 (xs.map ofB).toArray := fun j hj => ⟨by
      rw [Nat.zero_add]; simp only [World.cell?, hb]
      have hj' : j < xs.length := by simpa using hj
      have : (cur.toList.take xs.length)[j]? = some (.string xs[j]) := by rw [hr]; simp [hj']
      rw [List.getElem?_take, if_pos hj'] at this
      rw [getElem!_pos _ j hj]
      have e2 : Go.Proofs.encStr ((xs.map ofB).toArray[j]) = .string xs[j] := by
       simp only [List.getElem_toArray, List.getElem_map]
      rw [e2]
      first | exact this | simpa using this, by simp [World.frozen?, hb]⟩
     have hblk : g < w.heap.size := (Array.getElem?_eq_some_iff.1 hb).1
     refine (hk g cap w hH hblk hl).mono ?_
     rintro e' w' ⟨rfl, n, os, rfl⟩
     have hlen : ((ds.take m).map toB).length = m := by rw [List.length_map, List.length_take, Nat.min_eq_left (by omega)]
     refine ⟨⟨.slice (some ⟨g, 0, none⟩) m cap, fun q => by rw [q]⟩, _, h, PH.one g (.cells (Sort.putCells Go.Proofs.encStr 0 ds.toArray cur) 9 (0, 0)), rfl, HL.same ⟨rfl, rfl, rfl⟩, ?_, ⟨_, PH.emp, DM _, (DJ _).symm, .inr ⟨g, cap, _, by rw [hlen], rfl, by rw [hlen]; omega, hmx, ?_, ?_⟩, rfl⟩, hT _ _ _ _ (fun q => absurd q hx) (fun _ => rfl)⟩
     · have sp' : Sep h ((PH.one g (.cells cur 9 (0, 0))).join PH.emp) r w := by rw [DJ]; exact sp
       have := DX (o' := .cells (Sort.putCells Go.Proofs.encStr 0 ds.toArray cur) 9 (0, 0)) (DM _) sp' (fun b hne' hb' => fI (enc := Go.Proofs.encStr) (off := 0) (m := n) (dk := ds.toArray) (os := os) hb' hne') (jD hb)
       rw [DJ] at this; exact this
     · simp [Sort.putCells, hs, hk1]
     · rw [hlen, hk1, Nat.mul_one, iB]
       apply List.ext_getElem?
       intro j
       rw [List.getElem?_take]
       split
       · rename_i hj
         have hjc : j < cur.size := by omega
         have hjd : j < ds.length := by omega
         simp [Sort.putCells, hjc, hjd, hj]
       · rw [List.getElem?_eq_none (by rw [List.length_map, hlen]; omega)]
def rj (xs : List ByteArray) : List ByteArray := ((xs.map ofB).mergeSort fun x y => decide (x <= y)).map toB
theorem lW (xs : List ByteArray) : (rj xs).length = xs.length := by simp [rj]
def xC (xs : List ByteArray) : List ByteArray := (Lib.compact (xs.map ofB)).map toB
theorem py {P : Program} {ρ : Shelf.Ren} (LL : Go.Proofs.Lays.n190 P ρ) (v : Value) (xs : List ByteArray) (hn : xs.length < 4611686018427387904) :
  Spec (X := Unit) P (ρ.f 190) [rV.ty v] [own 9 eH v xs] (fun _ => fA []) (fun _ => [own 9 eH v (rj xs)]) := by
 have h := sw (P := P) (f := ρ.f 190) (As := []) (rest := []) v xs ((xs.map ofB).mergeSort fun x y => decide (x <= y)) (by simp) xs.length (Nat.le_refl _) (fun _ _ => .tuple #[]) (fun _ => fA []) (fun _ _ _ _ _ _ => ⟨[], rfl, trivial⟩) (fun h vs a => by match vs, a with | [], _ => rfl)
  (fun g cap w hH hb hc => by
   have := Go.Proofs.Any.slices_Sort_string LL g 0 cap (xs.map ofB) w hH hb (by simpa using hn)
   rw [List.length_map] at this
   exact this)
  (fun a cap w _ => Go.Proofs.Any.slices_Sort_string_none LL a cap w)
 intro vs h0 m r w ha sp st
 refine (h vs h0 m r w ha sp st).mono ?_
 rintro e w' ⟨⟨z, hz⟩, u, h', m', rfl, l, s, st', hu⟩
 have := hz rfl
 subst this
 refine ⟨(), u, h', m', rfl, l, s, ?_, hu⟩
 have e1 : (((xs.map ofB).mergeSort fun x y => decide (x <= y)).take xs.length) = ((xs.map ofB).mergeSort fun x y => decide (x <= y)) := List.take_of_length_le (by simp)
 rw [e1] at st'
 exact st'
theorem rk (zs : List (List UInt8)) : (Lib.compact zs).length <= zs.length := by
 unfold Lib.compact Lib.compactUpTo
 rw [List.length_map]
 refine Nat.le_trans (List.length_filter_le _ _) ?_
 rw [List.length_range]; exact Nat.le_refl _
theorem pA {P : Program} {ρ : Shelf.Ren} (LL : Go.Proofs.Lays.n194 P ρ) (v : Value) (xs : List ByteArray) (hn : xs.length <= 4611686018427387904) :
  Spec (X := Value) P (ρ.f 194) [rV.ty v] [own 9 eH v xs] (fun z => rV.ty z) (fun z => [own 9 eH z (xC xs)]) := by
 have hcl := rk (xs.map ofB)
 rw [List.length_map] at hcl
 have h := sw (P := P) (f := ρ.f 194) (As := []) (rest := []) v xs (Lib.compact (xs.map ofB) ++ List.replicate (xs.length - (Lib.compact (xs.map ofB)).length) []) (by simp; omega) (Lib.compact (xs.map ofB)).length hcl
  (fun a cap => .slice a (Lib.compact (xs.map ofB)).length cap) (fun z => rV.ty z) (fun _ a n cap h1 h2 => by
   by_cases hx : xs = []
   · rw [h1 hx]; subst hx; exact ⟨rfl, rfl⟩
   · rw [h2 hx]; exact ⟨rfl, rfl⟩) (fun h vs a => by match vs, a with | [], _ => rfl)
  (fun g cap w hH hb hc => by
   have := Go.Proofs.Any.slices_Compact_string LL g 0 cap (xs.map ofB) w hH (by rw [List.length_map]; omega) (by rw [List.length_map]; omega)
   rw [List.length_map] at this
   refine this.mono ?_
   rintro e w' ⟨he, q, hq⟩
   exact ⟨he, q, #[], by rw [hq]; unfold Go.Proofs.sortWorld; rw [Sort.grow_empty]⟩)
  (fun a cap w hx => by subst hx; exact Go.Proofs.Any.slices_Compact_string_empty LL a cap w)
 intro vs h0 m r w ha sp st
 refine (h vs h0 m r w ha sp st).mono ?_
 rintro e w' ⟨⟨z, hz⟩, u, h', m', rfl, l, s, st', hu⟩
 refine ⟨z, u, h', m', rfl, l, s, ?_, hu⟩
 rw [List.take_left' rfl] at st'
 exact st'
theorem zC (a b : List UInt8) : (decide (a <= b) || decide (b <= a)) = true := by
 rcases List.le_total a b with h | h <;> simp [h]
theorem uR (a b c : List UInt8) (h1 : decide (a <= b) = true) (h2 : decide (b <= c) = true) : decide (a <= c) = true := by
 simp only [decide_eq_true_eq] at *; exact List.le_trans h1 h2
theorem zD {x y : ByteArray} (h : ofB x = ofB y) : x = y := by rw [<- nY x, h, nY]
theorem rl {α : Type} {p : α -> Bool} {l : List α} (h : l.length <= (l.filter p).length) : ∀ x ∈ l, p x = true := by
 induction l with
 | nil => intro x hx; cases hx
 | cons a l ih =>
   intro x hx
   have hle := List.length_filter_le p l
   by_cases ha : p a = true
   · rw [List.filter_cons_of_pos ha, List.length_cons, List.length_cons] at h
     rcases List.mem_cons.1 hx with rfl | hx
     · exact ha
     · exact ih (by omega) x hx
   · rw [List.filter_cons_of_neg ha, List.length_cons] at h; omega
theorem pB (zs : List (List UInt8)) (hs : zs.Pairwise fun a b => decide (a <= b) = true) : zs.length <= (Lib.compact zs).length ↔ zs.Nodup := by
 have e : (Lib.compact zs).length = ((List.range zs.length).filter (Lib.keeps zs.toArray)).length := by simp [Lib.compact, Lib.compactUpTo]
 have hk : ∀ j, j < zs.length -> (Lib.keeps zs.toArray j = true ↔ (j = 0 \/ ∀ (h1 : j < zs.length) (h2 : j - 1 < zs.length), zs[j] ≠ zs[j - 1])) := by
  intro j hj
  have h2 : j - 1 < zs.length := by omega
  unfold Lib.keeps
  rw [decide_eq_true_eq]
  rw [getElem!_pos zs.toArray j (by simpa using hj), getElem!_pos zs.toArray (j - 1) (by simpa using h2)]
  simp only [List.getElem_toArray]
  constructor
  · rintro (h | h)
    · exact .inl h
    · exact .inr fun _ _ => h
  · rintro (h | h)
    · exact .inl h
    · exact .inr (h hj h2)
 rw [e]
 constructor
 · intro h
   have hall := rl (p := Lib.keeps zs.toArray) (l := List.range zs.length) (by rw [List.length_range]; exact h)
   have hadj : ∀ j (h1 : j + 1 < zs.length), zs[j] < zs[j + 1] := by
    intro j h1
    have h2 := (hk (j + 1) h1).1 (hall _ (List.mem_range.2 h1))
    rcases h2 with h2 | h2
    · omega
    · have h3 := h2 h1 (by omega)
      have h4 := List.pairwise_iff_getElem.1 hs j (j + 1) (by omega) h1 (by omega)
      simp only [decide_eq_true_eq] at h4
      simp only [Nat.add_sub_cancel] at h3
      rcases Decidable.em (zs[j] < zs[j + 1]) with h5 | h5
      · exact h5
      · exact absurd (List.le_antisymm (List.not_lt.1 h5) h4) h3
   have hlt : ∀ d i (h1 : i + d + 1 < zs.length), zs[i] < zs[i + d + 1] := by
    intro d
    induction d with
    | zero => intro i h1; exact hadj i h1
    | succ d ih =>
      intro i h1
      exact List.lt_trans (ih i (by omega)) (hadj (i + d + 1) h1)
   refine List.pairwise_iff_getElem.2 fun i j hi hj hij he => ?_
   have := hlt (j - i - 1) i (by omega)
   simp only [show i + (j - i - 1) + 1 = j by omega] at this
   rw [he] at this
   exact List.lt_irrefl _ this
 · intro h
   have : (List.range zs.length).filter (Lib.keeps zs.toArray) = List.range zs.length := by
    refine List.filter_eq_self.2 fun j hj => ?_
    have hj := List.mem_range.1 hj
    rw [hk j hj]
    by_cases h0 : j = 0
    · exact .inl h0
    · refine .inr fun h1 h2 he => ?_
      exact List.pairwise_iff_getElem.1 h (j - 1) j h2 h1 (by omega) he.symm
   rw [this, List.length_range]; exact Nat.le_refl _
theorem uS (l : List ByteArray) : (l.map ofB).Nodup ↔ l.Nodup := by
 unfold List.Nodup
 rw [List.pairwise_map]
 exact ⟨fun h => h.imp fun {a b} h e => h (by rw [e]), fun h => h.imp fun {a b} h e => h (zD e)⟩
theorem nv (l : List ByteArray) : l.length <= (xC (rj l)).length ↔ l.Nodup := by
 have e : (xC (rj l)).length = (Lib.compact ((l.map ofB).mergeSort fun x y => decide (x <= y))).length := by
  unfold xC rj
  rw [List.length_map, List.map_map]
  congr 2
  conv => rhs; rw [<- List.map_id ((l.map ofB).mergeSort fun x y => decide (x <= y))]
  exact List.map_congr_left fun x _ => zu x
 have hl : l.length = ((l.map ofB).mergeSort fun x y => decide (x <= y)).length := by simp
 rw [e]
 conv => lhs; lhs; rw [hl]
 rw [pB _ (List.pairwise_mergeSort uR zC (l.map ofB)), <- uS l]
 exact (List.mergeSort_perm (l.map ofB) _).nodup_iff
end Lg
namespace Go.Proofs
open Go.Shelf
def Tryz.sortSJ_ren : Go.Shelf.Ren := ⟨fun | 190 => 238 | 125 => 129 | 258 => 293 | 128 => 204 | 129 => 205 | 302 => 315 | 303 => 316 | 304 => 317 | 305 => 318 | 306 => 319 | 307 => 320 | 308 => 321 | 309 => 322 | 310 => 323 | 333 => 334 | 329 => 272 | 330 => 273 | 334 => 335 | 335 => 336 | 336 => 337 | 344 => 342 | n => n, fun | 31 => 85 | 9 => 9 | 3 => 3 | 46 => 182 | 0 => 0 | 51 => 230 | 53 => 232 | 4 => 4 | 183 => 223 | 182 => 222 | 131 => 175 | 5 => 5 | 218 => 284 | 222 => 288 | 228 => 318 | 229 => 319 | n => n, fun | n => n⟩
theorem Tryz.sortSJ : Go.Proofs.Lays.n190 Tryz.prog Tryz.sortSJ_ren := {
 mixed := by kernel_rfl
 f125 := Tryz.func129.trans (congrArg some (by kernel_rfl))
 f128 := Tryz.func204.trans (congrArg some (by kernel_rfl))
 f129 := Tryz.func205.trans (congrArg some (by kernel_rfl))
 f190 := Tryz.func238.trans (congrArg some (by kernel_rfl))
 f258 := Tryz.func293.trans (congrArg some (by kernel_rfl))
 f302 := Tryz.func315.trans (congrArg some (by kernel_rfl))
 f303 := Tryz.func316.trans (congrArg some (by kernel_rfl))
 f304 := Tryz.func317.trans (congrArg some (by kernel_rfl))
 f305 := Tryz.func318.trans (congrArg some (by kernel_rfl))
 f306 := Tryz.func319.trans (congrArg some (by kernel_rfl))
 f307 := Tryz.func320.trans (congrArg some (by kernel_rfl))
 f308 := Tryz.func321.trans (congrArg some (by kernel_rfl))
 f309 := Tryz.func322.trans (congrArg some (by kernel_rfl))
 f310 := Tryz.func323.trans (congrArg some (by kernel_rfl))
 f329 := Tryz.func272.trans (congrArg some (by kernel_rfl))
 f330 := Tryz.func273.trans (congrArg some (by kernel_rfl))
 f333 := Tryz.func334.trans (congrArg some (by kernel_rfl))
 f334 := Tryz.func335.trans (congrArg some (by kernel_rfl))
 f335 := Tryz.func336.trans (congrArg some (by kernel_rfl))
 f336 := Tryz.func337.trans (congrArg some (by kernel_rfl))
 f344 := Tryz.func342.trans (congrArg some (by kernel_rfl))
 t0 := Tryz.underlying0
 a0 := Tryz.isAgg0
 z0 := Tryz.sizeOf0
 v0 := Tryz.zeroValue0
 t3 := Tryz.underlying3
 a3 := Tryz.isAgg3
 z3 := Tryz.sizeOf3
 v3 := Tryz.zeroValue3
 t4 := Tryz.underlying4
 a4 := Tryz.isAgg4
 z4 := Tryz.sizeOf4
 v4 := Tryz.zeroValue4
 t5 := Tryz.underlying5
 a5 := Tryz.isAgg5
 z5 := Tryz.sizeOf5
 v5 := Tryz.zeroValue5
 t9 := Tryz.underlying9
 a9 := Tryz.isAgg9
 z9 := Tryz.sizeOf9
 v9 := Tryz.zeroValue9
 t31 := Tryz.underlying85
 a31 := Tryz.isAgg85
 z31 := Tryz.sizeOf85
 v31 := Tryz.zeroValue85
 t46 := Tryz.underlying182
 a46 := Tryz.isAgg182
 z46 := Tryz.sizeOf182
 v46 := Tryz.zeroValue182
 t51 := Tryz.underlying230
 a51 := Tryz.isAgg230
 z51 := Tryz.sizeOf230
 v51 := Tryz.zeroValue230
 t53 := Tryz.underlying232
 a53 := Tryz.isAgg232
 z53 := Tryz.sizeOf232
 v53 := Tryz.zeroValue232
 t131 := Tryz.underlying175
 a131 := Tryz.isAgg175
 z131 := Tryz.sizeOf175
 v131 := Tryz.zeroValue175
 t182 := Tryz.underlying222
 a182 := Tryz.isAgg222
 z182 := Tryz.sizeOf222
 v182 := Tryz.zeroValue222
 t183 := Tryz.underlying223
 a183 := Tryz.isAgg223
 z183 := Tryz.sizeOf223
 v183 := Tryz.zeroValue223
 t218 := Tryz.underlying284
 a218 := Tryz.isAgg284
 z218 := Tryz.sizeOf284
 v218 := Tryz.zeroValue284
 t222 := Tryz.underlying288
 a222 := Tryz.isAgg288
 z222 := Tryz.sizeOf288
 v222 := Tryz.zeroValue288
 t228 := Tryz.underlying318
 a228 := Tryz.isAgg318
 z228 := Tryz.sizeOf318
 v228 := Tryz.zeroValue318
 t229 := Tryz.underlying319
 a229 := Tryz.isAgg319
 z229 := Tryz.sizeOf319
 v229 := Tryz.zeroValue319 }
def Tryz.compJ_ren : Go.Shelf.Ren := ⟨fun | 194 => 239 | n => n, fun | 31 => 85 | 9 => 9 | 3 => 3 | 4 => 4 | 0 => 0 | n => n, fun | n => n⟩
theorem Tryz.compJ : Go.Proofs.Lays.n194 Tryz.prog Tryz.compJ_ren := {
 mixed := by kernel_rfl
 f194 := Tryz.func239.trans (congrArg some (by kernel_rfl))
 t0 := Tryz.underlying0
 a0 := Tryz.isAgg0
 z0 := Tryz.sizeOf0
 v0 := Tryz.zeroValue0
 t3 := Tryz.underlying3
 a3 := Tryz.isAgg3
 z3 := Tryz.sizeOf3
 v3 := Tryz.zeroValue3
 t4 := Tryz.underlying4
 a4 := Tryz.isAgg4
 z4 := Tryz.sizeOf4
 v4 := Tryz.zeroValue4
 t9 := Tryz.underlying9
 a9 := Tryz.isAgg9
 z9 := Tryz.sizeOf9
 v9 := Tryz.zeroValue9
 t31 := Tryz.underlying85
 a31 := Tryz.isAgg85
 z31 := Tryz.sizeOf85
 v31 := Tryz.zeroValue85 }
end Go.Proofs
namespace Lg
open Go Go.Proofs Go.Proofs.Tryz
def gz (a : GAttr) : Bool := decide (1 <= a.Kind) && decide (a.Kind <= 4) && tg a.Kind a.Default
def jE (t : GTable) (i : Nat) : Bool := decide (0 <= nth t.Key i) && decide (nth t.Key i < t.Attrs.length) && (decide (i = 0) || decide (nth t.Key (i - 1) < nth t.Key i))
def szT (t : GTable) : Bool := decide (1 <= t.Attrs.length /\ t.Attrs.length <= 12 /\ 1 <= t.Key.length)
def rightM (t : GTable) : Bool := gM t.Name && szT t && t.Attrs.all gz && (namesL t.Attrs).all gM && decide (namesL t.Attrs).Nodup && (List.range t.Key.length).all (jE t)
theorem nw {l : List GAttr} {i : Nat} (h : i < l.length) : namesL (l.take (i + 1)) = (namesL (l.take i) ++ [(nth l i).Name]) ++ (nth l i).Was := by rw [dM h, th]
theorem yG {α : Type} {p : α -> Bool} {l : List α} : (l.any fun x => !p x) = !(l.all p) := by
  rw [List.any_eq_not_all_not]; simp
theorem tB (t : GTable) (hz : TabSz t) : Fun1 prog 164 [cc.ty t] (tV (.bool (rightM t))) := by
 refine Spec.enter func164 rfl rfl fun h0 w0 fr0 => ?_
 have hz1 := hz.nm
 have hz2 := hz.at'
 have hz3 := hz.key
 refine Jr (Zs (aJ (R := cc) Sr) (Za (ae (ar (Jr ?_)))))
 refine Zs (aa eu Sr rfl) (Zl ty9 Sr (Zs (ai (pt _ hz1) ⟨Sr, trivial⟩ call235) (Zs (bf Sr) (Zm ?_))))
 refine Zk (aa eu Sr rfl) ?_
 refine Zg (fun hw => ab bQ (Sub.w hw)) (Zg (fun hw => ah underlying44 (Sub.w hw)) (Zg (fun hw => aC (Sub.w hw) Sr) (Zs (az Sr Sr) (Zm ?_))))
 refine Zk (aa eu Sr rfl) ?_
 refine Zg (fun hw => ab bQ (Sub.w hw)) (Zg (fun hw => ah underlying44 (Sub.w hw)) (Zg (fun hw => bD (Sub.w hw) Sr) (Zs (az Sr Sr) (Zm ?_))))
 refine Zk (aa eu Sr rfl) ?_
 refine Zg (fun hw => ab bY (Sub.w hw)) (Zg (fun hw => ah underlying36 (Sub.w hw)) (Zg (fun hw => aC (Sub.w hw) Sr) (Zs (az Sr Sr) (ae ?_))))
 refine au Sr (fun h29 => ?_) (fun h29 => ?_)
 ·
  try simp only [NF] at h29
  refine Jr (Za (ae (aF ?_)))
  refine aK (t := 2) rfl () ?_
  refine Sub.bool ?_
  have hs : gM t.Name = false \/ szT t = false := by
   rcases h29 with ((h | h) | h) | h
   ·
    exact .inl h
   all_goals exact .inr (by unfold szT; rw [decide_eq_false_iff_not]; omega)
  rcases hs with h | h <;> simp [rightM, h]
 try simp only [NF] at h29
 have hsz : szT t = true := by unfold szT; rw [decide_eq_true_eq]; omega
 have hA12 : t.Attrs.length <= 12 := by omega
 have hnmT : gM t.Name = true := by simp_all
 have hnl := g9 hz.was
 have hnl2 : (namesL t.Attrs).length <= 12 * 1000001 := Nat.le_trans hnl (Nat.mul_le_mul_right _ hA12)
 refine ay (Jr (Za (ae (ar (Jr ?_)))))
 refine Zs (aa eu Sr rfl) (Zl bQ Sr (Zs (ah underlying44 Sr) (Zm (ae (av ?_)))))
 refine aO (σ := Nat × Value) (fun ⟨i, v⟩ => i <= t.Attrs.length /\ ∀ k, k < i -> gz (nth t.Attrs k) = true) (fun ⟨i, v⟩ => upd (upd (upd (upd (upd cg 1 (bx cc t)) 3 (rV.ty v)) 31 (tSl aS t.Attrs)) 32 (tV (.int .i64 t.Attrs.length))) 33 (tV (.int .i64 i))) (fun ⟨i, v⟩ => [own 9 eH v (namesL (t.Attrs.take i))]) (fun ⟨i, v⟩ => t.Attrs.length - i) (0, .slice none 0 0) ⟨by omega, fun k hk => by omega⟩ (.u (.u (.u (SubE.upd (DG rfl) (zU))))) (DB) ?_
 rintro ⟨i, v⟩ ⟨hi, hv⟩
 refine Jr (Zs (aA Sr Sr) (ae (ar ?_)))
 refine au Sr (fun h34 => ?_) (fun h34 => ?_)
 ·
  try simp only [NF] at h34
  have hlt : i < t.Attrs.length := by omega
  have hnt := nw hlt
  have hnl3 := g9 (l := t.Attrs.take i) (M := 1000000) (fun a ha => hz.was a (List.mem_of_mem_take ha))
  have hnl4 : (namesL (t.Attrs.take i)).length <= 12 * 1000001 := Nat.le_trans hnl3 (Nat.mul_le_mul_right _ (by rw [List.length_take]; omega))
  have hwl := hz.was _ (aH hlt)
  refine ay (ar (av (Jr ?_)))
  refine Zs (ad  underlying44 ct Sr Sr rfl (gb (by exact hlt))) ?_
  refine Zl ct Sr ?_
  refine Zx (aD (fun w => zeroValue89 w) qY) fun v5 => ?_
  refine Ju (aj ct Sr Sr zS) fun _ => ?_
  refine bc (t := 5) (Sel.take (Dz _)) Frz.box ?_
  refine ae (ar (Jr (Zs (aa dH Sr rfl) (Zl ty3 Sr (Zs (aA Sr Sr) ?_)))))
  refine Zm ?_
  refine Zk (aa dH Sr rfl) ?_
  refine Zg (fun hw => ab ty3 (Sub.w hw)) (Zg (fun hw => bD (Sub.w hw) Sr) (Zs (az Sr Sr) (Zm ?_)))
  refine Zk (aa dH Sr rfl) ?_
  refine Zg (fun hw => ab ty3 (Sub.w hw)) ?_
  refine Zk (aa dH Sr rfl) ?_
  refine Zg (fun hw => ab jp (Sub.w hw)) (Zg (fun hw => ai (sv _ _) ⟨(Sub.w hw), (Sub.w hw), trivial⟩ call207) (Zg (fun hw => bf (Sub.w hw)) (Zs (az Sr Sr) (ae ?_))))
  refine au Sr (fun h52 => ?_) (fun h52 => ?_)
  ·
   try simp only [NF] at h52
   refine Jr (Za (ae (aF ?_)))
   refine aZ (rv := .tmp 2) rfl () (Sel.all _) (.tmp Sr) (Frz.sub (Sub.bool ?_))
   have : gz (nth t.Attrs i) = false := by
    unfold gz
    rcases h52 with (h | h) | h
    ·
     simp [show ¬ 1 <= (nth t.Attrs i).Kind by omega]
    ·
     simp [show ¬ (nth t.Attrs i).Kind <= 4 by omega]
    simp [h]
   simp [rightM, gZ hlt this]
  try simp only [NF] at h52
  refine ay ?_
  refine bl [⟨0, [3], true⟩, ⟨1, [5], true⟩, ⟨2, [54], true⟩, ⟨3, [55], true⟩, ⟨5, [5], true⟩, ⟨6, [58], true⟩, ⟨4, [53, 56], false⟩, ⟨7, [57, 59], false⟩, ⟨8, [60], true⟩] rfl (by kernel_rfl) ?_
  refine Zv rfl (Zf rfl (aa dH Sr rfl) (Zf rfl (ab ty9 Sr) ?_))
  refine Zf rfl (ax (ys := [_]) underlying85 el9 ⟨rfl, Sr, trivial⟩ rfl (by decide)) ?_
  refine Zf rfl (aa dH Sr rfl) (Zf rfl (ab yD Sr) ?_)
  refine cB rfl rfl rfl rfl (aL underlying85 el9 Sr Sr zS (by simp; omega) (by simp; omega)) fun v57 => ?_
  refine cB rfl rfl rfl rfl (aL underlying85 el9 Sr Sr zS (by simp; omega) (by simp; omega)) fun v60 => ?_
  refine Zf rfl (aW Sr) (bj (aq (Zs (aB Sr Sr z6) (Zm (ae ?_)))))
  refine aE (σ := Nat × Value) (s := (i, v)) (i + 1, v60) zO ?_ (zU) (.c zS (SPs.of (A := own 9 eH v60 ((namesL (t.Attrs.take i) ++ [(nth t.Attrs i).Name]) ++ (nth t.Attrs i).Was)) (by rw [hnt])) (LSub.nil))
  refine ⟨by omega, fun k hk => ?_⟩
  by_cases e : k = i
  ·
   subst e; first | (simp_all [gz]; done) | (simp_all [gz]; omega)
  exact hv k zG
 try simp only [NF] at h34
 obtain rfl : i = t.Attrs.length := by omega
 have hats : t.Attrs.all gz = true := iP hv
 refine bZ (L' := [own 9 eH v (namesL t.Attrs)]) (.c zS (SPs.of (A := own 9 eH v (namesL (t.Attrs.take t.Attrs.length))) (by rw [List.take_length])) (LSub.nil)) ?_
 refine aY (ar (Jr (Zm ?_)))
 refine Zs (ga zS (jz (namesL t.Attrs) zG 237 [] (fun s => !gM s) (fun x hx => tu x (hz.nms x hx)) call237) (fun _ => Eo _) ⟨(Frz.own), (Frz.sub D2), trivial⟩ call236) ?_
 refine ae ?_
 refine au Sr (fun h63 => ?_) (fun h63 => ?_)
 ·
  try simp only [NF] at h63
  refine Jr (Za (ae (aF ?_)))
  refine aZ (rv := .tmp 2) rfl () (Sel.all _) (.tmp Sr) (Frz.sub (Sub.bool ?_))
  have : (namesL t.Attrs).all gM = false := by rw [yG] at h63; simpa using h63
  simp [rightM, this]
 try simp only [NF] at h63
 have hnms : (namesL t.Attrs).all gM = true := by rw [yG] at h63; simpa using h63
 refine ay (Jr (Zm ?_))
 refine Zx (bz zS (py Tryz.sortSJ v (namesL t.Attrs) zG) ⟨Sr, trivial⟩ call238) fun v65 => ?_
 refine ae (ar (ar ?_))
 refine xy zS fun hv14 => ?_
 obtain ⟨p14, cap14, hv14⟩ := hv14
 subst hv14
 refine aq (Zm ?_)
 refine Zx (bz zS (pA Tryz.compJ _ (rj (namesL t.Attrs)) (by rw [lW]; omega)) ⟨Sr, trivial⟩ call239) fun v67 => ?_
 refine Zs (cj underlying85 Sr zS) ?_
 refine Zm (Zs (uP underlying85 Sr) (Zs (aA Sr Sr) (ae ?_)))
 refine au Sr (fun h71 => ?_) (fun h71 => ?_)
 ·
  try simp only [NF] at h71
  refine Jr (Za (ae (aF ?_)))
  refine aZ (rv := .tmp 2) rfl () (Sel.all _) (.tmp Sr) (Frz.sub (Sub.bool ?_))
  have : ¬ (namesL t.Attrs).Nodup := fun h => by have := (nv _).2 h; rw [lW] at h71; omega
  simp [rightM, this]
 try simp only [NF] at h71
 rw [lW] at h71
 have hnd : (namesL t.Attrs).Nodup := (nv _).1 zG
 refine ut (Sel.all _) ?_
 refine ay (ar (Jr (Zs (aa eu Sr rfl) (Zl bY Sr (Zs (ah underlying36 Sr) ?_)))))
 refine Zm (ae (av ?_))
 refine aO (σ := Nat) (fun i => i <= t.Key.length /\ ∀ k, k < i -> jE t k = true) (fun i => upd (upd (upd (upd cg 1 (bx cc t)) 73 (tSl bg t.Key)) 74 (tV (.int .i64 t.Key.length))) 75 (tV (.int .i64 i))) (fun i => []) (fun i => t.Key.length - i) 0 ⟨by omega, fun k hk => by omega⟩ (zU) (LSub.rfl) ?_
 rintro i ⟨hi2, hv2⟩
 refine Jr (Zs (aA Sr Sr) (ae (ar ?_)))
 refine au Sr (fun h76 => ?_) (fun h76 => ?_)
 ·
  try simp only [NF] at h76
  have hkt : i < t.Key.length := by omega
  refine ay (ar (av (Jr (Zm ?_))))
  refine Zs (ad  underlying36 ty3 Sr Sr rfl (gb (by exact hkt))) ?_
  refine Zl ty3 Sr (Za (Za (ae (Jr (Zm ?_)))))
  refine Zs (aA Sr Sr) (Zm ?_)
  refine Zk (al Sr) ?_
  refine Zk (aa eu Sr rfl) ?_
  refine Zg (fun hw => ab bQ (Sub.w hw)) (Zg (fun hw => ah underlying44 (Sub.w hw)) (Zg (fun hw => bE (Sub.w hw) (Sub.w hw)) (Zs (az Sr Sr) (Zm ?_))))
  refine Zk (al Sr) ?_
  refine Zg (fun hw => bD (Sub.w hw) Sr) (Zg (fun hw => al (Sub.w hw)) ?_)
  refine Ji rfl Sr rfl (al Sr) ?_
  refine Ji rfl Sr rfl (aa eu Sr rfl) ?_
  refine Jh rfl Sr rfl (fun hw => ab bY (Sub.w hw)) ?_
  refine Ji rfl Sr rfl (al Sr) ?_
  refine Jh rfl Sr rfl (fun hw => dN (Sub.w hw) Sr (by have hwq := hw; (try simp only [beqB_t, beqB_f, NF] at hwq); unfold fe; omega)) ?_
  refine Jh rfl Sr rfl (fun hw => ad (i := (i - 1)) underlying36 ty3 (Sub.w hw) (Sub.w hw) (by have hwq := hw; (try simp only [beqB_t, beqB_f, NF] at hwq); omega) (gb (by have hwq := hw; (try simp only [beqB_t, beqB_f, NF] at hwq); show i - 1 < t.Key.length; omega))) ?_
  refine Jh rfl Sr rfl (fun hw => ab ty3 (Sub.w hw)) (Jh rfl Sr rfl (fun hw => bM (Sub.w hw) (Sub.w hw)) (Zg (fun hw => aw (Sub.w hw) (D9 hw)) (Zs (az Sr Sr) (ae ?_))))
  refine au Sr (fun h102 => ?_) (fun h102 => ?_)
  ·
   try simp only [NF] at h102
   refine Jr (Za (ae (aF ?_)))
   refine aZ (rv := .tmp 2) rfl () (Sel.all _) (.tmp Sr) (Frz.sub (Sub.bool ?_))
   have : jE t i = false := by
    unfold jE
    rcases h102 with (h | h) | ⟨h1, h2⟩
    ·
     simp [show ¬ 0 <= nth t.Key i by omega]
    ·
     simp [show ¬ nth t.Key i < t.Attrs.length by omega]
    simp [show ¬ nth t.Key (i - 1) < nth t.Key i by omega, show ¬ i = 0 by omega]
   simp [rightM, eV hkt this]
  try simp only [NF] at h102
  refine ay (aq (Zs (aB Sr Sr z6) (Zm (ae ?_))))
  refine aE (σ := Nat) (s := i) (i + 1) zO ?_ (zU) (LSub.rfl)
  refine ⟨by omega, fun k hk => ?_⟩
  by_cases e : k = i
  ·
   subst e; first | (simp_all [jE]; done) | (simp_all [jE]; omega)
  exact hv2 k zG
 try simp only [NF] at h76
 have hks : (List.range t.Key.length).all (jE t) = true := eU (fun k hk => hv2 k zG)
 refine aY (Jr (Za (ae (aF ?_))))
 refine aZ (rv := .tmp 2) rfl () (Sel.all _) (.tmp Sr) (Frz.sub (Sub.bool ?_))
 simp [rightM, hnmT, hsz, hats, hnms, hnd, hks]
def lX (s : GSchema) : Bool := decide (s.Tables.length <= 20) && (List.range s.Tables.length).all fun i => rightM (nth s.Tables i) && decide (n5 s (nth s.Tables i).Name = i)
theorem oc (s : GSchema) (hz : SchSz s) : Fun1 prog 104 [aV.ty s] (tV (.bool (lX s))) := by
 refine Spec.enter func104 rfl rfl fun h0 w0 fr0 => ?_
 have hz1 := hz.tabs
 refine Jr (Zs (aJ (R := aV) Sr) (Za (ae (ar (Jr ?_)))))
 refine Zs (aa g6 Sr rfl) (Zl g5 Sr (Zs (ah underlying39 Sr) (Zs (bD Sr Sr) (ae ?_))))
 refine au Sr (fun h7 => ?_) (fun h7 => ?_)
 ·
  try simp only [NF] at h7
  refine Jr (Za (ae (aF ?_)))
  refine aK (t := 2) rfl () ?_
  refine Sub.bool ?_
  have : ¬ s.Tables.length <= 20 := by omega
  simp [lX, this]
 try simp only [NF] at h7
 refine ay (ar (Jr (Zs (aa g6 Sr rfl) (Zl g5 Sr (Zs (ah underlying39 Sr) ?_)))))
 refine Zm (ae (av ?_))
 refine aO (σ := Nat) (fun i => i <= s.Tables.length /\ ∀ k, k < i -> (rightM (nth s.Tables k) && decide (n5 s (nth s.Tables k).Name = k)) = true) (fun i => upd (upd (upd cg 1 (bx aV s)) 10 (tV (.int .i64 s.Tables.length))) 11 (tV (.int .i64 i))) (fun i => []) (fun i => s.Tables.length - i) 0 ⟨by omega, fun k hk => by omega⟩ (zU) (LSub.rfl) ?_
 rintro i ⟨hi, hv⟩
 refine Jr (Zs (aA Sr Sr) (ae (ar ?_)))
 refine au Sr (fun h12 => ?_) (fun h12 => ?_)
 ·
  try simp only [NF] at h12
  have hlt : i < s.Tables.length := by omega
  refine ay (ar (av (Jr (Zm (Za ?_)))))
  refine ae (ar ?_)
  refine bl [⟨0, [1], true⟩, ⟨1, [14], true⟩, ⟨2, [3], true⟩, ⟨3, [15, 16], true⟩, ⟨4, [17], true⟩, ⟨5, [18], true⟩, ⟨6, [19], true⟩, ⟨7, [20], true⟩, ⟨8, [1, 21], true⟩, ⟨9, [1, 21], true⟩, ⟨10, [21, 23], true⟩, ⟨11, [3, 21], true⟩, ⟨12, [21, 24, 25], true⟩, ⟨13, [21, 26], true⟩, ⟨14, [21, 27], true⟩, ⟨15, [21, 22, 28], true⟩, ⟨16, [3, 21], true⟩, ⟨17, [21, 29, 30], true⟩, ⟨18, [21, 31], true⟩] rfl (by kernel_rfl) ?_
  refine Zf rfl (aa g6 Sr rfl) (Zf rfl (ab g5 Sr) (Zv rfl ?_))
  refine Zf rfl (ad (i := i) underlying39 g8 Sr Sr (by rfl) (gb (by exact hlt))) ?_
  refine Zf rfl (ab g8 Sr) (Zf rfl (ai (tB _ (hz.tab _ (aH hlt))) ⟨Sr, trivial⟩ call164) (Zf rfl (bf Sr) (Zv rfl ?_)))
  refine Mk rfl rfl Sr rfl (ab fR Sr) ?_
  refine Mk rfl rfl Sr rfl (aa g6 Sr rfl) ?_
  refine Mg rfl rfl Sr rfl (fun hw => ab g5 (Sub.w hw)) ?_
  refine Mk rfl rfl Sr rfl (al Sr) ?_
  refine Mg rfl rfl Sr rfl (fun hw => ad (i := i) underlying39 g8 (Sub.w hw) (Sub.w hw) (by rfl) (gb (by have hwq := hw; (try simp only [beqB_t, beqB_f, NF] at hwq); exact hlt))) ?_
  refine Mg rfl rfl Sr rfl (fun hw => aa eu (Sub.w hw) rfl) (Mg rfl rfl Sr rfl (fun hw => ab ty9 (Sub.w hw)) (Mg rfl rfl Sr rfl (fun hw => ai (uN _ _ hz1) ⟨(Sub.w hw), (Sub.w hw), trivial⟩ call165) ?_))
  refine Mk rfl rfl Sr rfl (al Sr) ?_
  refine Mg rfl rfl Sr rfl (fun hw => bb (Sub.w hw) (Sub.w hw)) (Zf rfl (az Sr Sr) (bj ?_))
  refine au Sr (fun h32 => ?_) (fun h32 => ?_)
  ·
   try simp only [NF] at h32
   refine Jr (Za (ae (aF ?_)))
   refine aK (t := 2) rfl () ?_
   refine Sub.bool ?_
   have : (rightM (nth s.Tables i) && decide (n5 s (nth s.Tables i).Name = i)) = false := by rcases h32 with h | h <;> simp [h]
   simp only [lX, eV (f := fun i => rightM (nth s.Tables i) && decide (n5 s (nth s.Tables i).Name = i)) hlt this]; simp
  try simp only [NF] at h32
  refine ay (aq (Zs (aB Sr Sr z6) (Zm (ae ?_))))
  refine aE (σ := Nat) (s := i) (i + 1) zO ?_ (zU) (LSub.rfl)
  refine ⟨by omega, fun k hk => ?_⟩
  by_cases e : k = i
  ·
   subst e; simp_all
  exact hv k zG
 try simp only [NF] at h12
 have hall := eU (n := s.Tables.length) (fun k hk => hv k zG)
 refine aY (Jr (Za (ae (aF ?_))))
 refine aK (t := 2) rfl () ?_
 refine Sub.bool ?_
 have : s.Tables.length <= 20 := by omega
 simp only [lX, hall, this]; simp
end Lg
namespace Lg
theorem hQ {α : Type} [DecidableEq α] : ∀ {l U : List α}, l.Nodup -> (∀ x ∈ l, x ∈ U) -> l.length <= U.length
 | [], _, _, _ => Nat.zero_le _
 | x :: l, U, hd, hs => by
   have hx := hs x (by simp)
   have h1 : (U.erase x).length + 1 = U.length := by
    have := List.length_erase_of_mem hx
    have := List.length_pos_of_mem hx
    omega
   have hd := List.nodup_cons.1 hd
   have := hQ (U := U.erase x) hd.2 (fun y hy => (List.mem_erase_of_ne (fun e => hd.1 (by rw [<- e]; exact hy))).2 (hs y (by simp [hy])))
   simp; omega
section
variable (rec : Nat -> List Int -> Bool × List Int)
end
section
variable (l : List (List Bool))
end
open Go Go.Proofs Go.Proofs.Tryz
theorem iZ (v : GValue) : Fun1 prog 75 [rValue.ty v] (tV (.bool (eK v))) := by
 refine Spec.enter func75 rfl rfl fun h0 w0 fr0 => ?_
 refine Jr (Zs (aJ (R := rValue) Sr) (Za (ae (ar (Jr ?_)))))
 refine Zs (aa eT Sr rfl) (Zl ty3 Sr (ae (av (Jr (Zs (aC Sr Sr) ?_)))))
 refine Za (ae ?_)
 refine au Sr (fun k0 => ?_) (fun k0 => ?_)
 ·
  try simp only [NF] at k0
  refine Jr (Zs (aa eT Sr rfl) (Zl ty3 Sr (Zs (aC Sr Sr) (Zm ?_))))
  refine Zk (aa eT Sr rfl) ?_
  refine Zg (fun hw => ab ty9 (Sub.w hw)) (Zg (fun hw => bU (Sub.w hw) Sr) (Zs (aw Sr Sr) (Za (ae (aF ?_)))))
  refine aZ (rv := .tmp 2) rfl () (Sel.all _) (.tmp Sr) (Frz.sub (Sub.bool ?_))
  rw [Bool.eq_iff_iff]
  by_cases ht : v.Text = ⟨#[]⟩ <;> simp [eK, *] <;> omega
 try simp only [NF] at k0
 refine Jr (Zs (aC Sr Sr) (Za (ae ?_)))
 refine au Sr (fun k1 => ?_) (fun k1 => ?_)
 ·
  try simp only [NF] at k1
  refine Jr (Zs (aa eT Sr rfl) (Zl ty3 Sr (Zs (aC Sr Sr) (Zm ?_))))
  refine Zk (aa eT Sr rfl) ?_
  refine Zg (fun hw => ab ty9 (Sub.w hw)) (Zg (fun hw => df underlying9 (Sub.w hw)) (Zg (fun hw => bM (Sub.w hw) Sr) (Zs (aw Sr Sr) (Za (ae ?_)))))
  refine aF ?_
  refine aZ (rv := .tmp 2) rfl () (Sel.all _) (.tmp Sr) (Frz.sub (Sub.bool ?_))
  rw [Bool.eq_iff_iff]
  by_cases ht : v.Text = ⟨#[]⟩ <;> simp [eK, *] <;> omega
 try simp only [NF] at k1
 refine Jr (Zs (aC Sr Sr) (Za (ae ?_)))
 refine au Sr (fun k2 => ?_) (fun k2 => ?_)
 ·
  try simp only [NF] at k2
  refine Jr (Zs (aa eT Sr rfl) (Zl ty3 Sr (Zs (bE Sr Sr) (Zm ?_))))
  refine Zk (aa eT Sr rfl) ?_
  refine Zg (fun hw => ab ty3 (Sub.w hw)) (Zg (fun hw => bM (Sub.w hw) Sr) (Zs (aw Sr Sr) (Zm ?_)))
  refine Zk (aa eT Sr rfl) ?_
  refine Zg (fun hw => ab ty9 (Sub.w hw)) (Zg (fun hw => bU (Sub.w hw) Sr) (Zs (aw Sr Sr) (Za (ae (aF ?_)))))
  refine aZ (rv := .tmp 2) rfl () (Sel.all _) (.tmp Sr) (Frz.sub (Sub.bool ?_))
  rw [Bool.eq_iff_iff]
  by_cases ht : v.Text = ⟨#[]⟩ <;> simp [eK, *] <;> omega
 try simp only [NF] at k2
 refine Jr (Zs (aC Sr Sr) (Za (ae ?_)))
 refine au Sr (fun k3 => ?_) (fun k3 => ?_)
 ·
  try simp only [NF] at k3
  refine Jr (Zs (aa eT Sr rfl) (Zl ty3 Sr (Zs (bE Sr Sr) (Zm ?_))))
  refine Zk (aa eT Sr rfl) ?_
  refine Zg (fun hw => ab ty3 (Sub.w hw)) (Zg (fun hw => bM (Sub.w hw) Sr) (Zs (aw Sr Sr) (Zm ?_)))
  refine Zk (aa eT Sr rfl) ?_
  refine Zg (fun hw => ab ty9 (Sub.w hw)) (Zg (fun hw => bU (Sub.w hw) Sr) (Zs (aw Sr Sr) (Za (ae (aF ?_)))))
  refine aZ (rv := .tmp 2) rfl () (Sel.all _) (.tmp Sr) (Frz.sub (Sub.bool ?_))
  rw [Bool.eq_iff_iff]
  by_cases ht : v.Text = ⟨#[]⟩ <;> simp [eK, *] <;> omega
 try simp only [NF] at k3
 refine Jr (Zs (aC Sr Sr) (Za (ae ?_)))
 refine au Sr (fun k4 => ?_) (fun k4 => ?_)
 ·
  try simp only [NF] at k4
  refine Jr (Zs (aa eT Sr rfl) (Zl ty3 Sr (Zs (aC Sr Sr) (Zm ?_))))
  refine Zk (aa eT Sr rfl) ?_
  refine Zg (fun hw => ab ty3 (Sub.w hw)) (Zg (fun hw => aC (Sub.w hw) Sr) (Zs (az Sr Sr) (Zm ?_)))
  refine Zk (aa eT Sr rfl) ?_
  refine Zg (fun hw => ab ty9 (Sub.w hw)) (Zg (fun hw => bU (Sub.w hw) Sr) (Zs (aw Sr Sr) (Za (ae (aF ?_)))))
  refine aZ (rv := .tmp 2) rfl () (Sel.all _) (.tmp Sr) (Frz.sub (Sub.bool ?_))
  rw [Bool.eq_iff_iff]
  by_cases ht : v.Text = ⟨#[]⟩ <;> simp [eK, *] <;> omega
 try simp only [NF] at k4
 refine ay (Jr (Za (ae (aF ?_))))
 refine aZ (rv := .tmp 2) rfl () (Sel.all _) (.tmp Sr) (Frz.sub (Sub.bool ?_))
 rw [Bool.eq_iff_iff]
 by_cases ht : v.Text = ⟨#[]⟩ <;> simp [eK, *] <;> omega
end Lg
