/- A part of the proof of the law PlannerSelections: the program logic. -/
import Derived.Test.YtgaclpkapapjdaaGreatDoorA
import Derived.Maps.RangeRun
import Derived.Laws.BytesString
import Derived.Laws.Strings2
import Derived.ChangeArms
import Derived.ChangeKeysEq
import Derived.WideShapes
import Derived.Carry
import Derived.Shelf.Small.Strs
import Derived.Lib.SliceRun
import Derived.Lib.ConvBytes
import Derived.Lib.LazyBuf
import Derived.Test.YtgaclpkapapjdaaGreatDoorProg
import Derived.Laws.StructEq
import Derived.Shelf.Sort.Plain
import Derived.Shelf.Slices.In.SortNone
import Derived.Shelf.GgSortFunc.Insertion
import Derived.Shelf.Slices.CompactS
set_option linter.unusedVariables false
set_option linter.unusedSimpArgs false
set_option linter.unusedSectionVars false
namespace Lg
open Go
section
variable {κ β : Type} [DecidableEq κ]
def mget : List (κ × β) → κ → Option β
  | [], _ => none
  | (k, x) :: m, q => if q = k then some x else mget m q
def mput : List (κ × β) → κ → β → List (κ × β)
  | [], q, y => [(q, y)]
  | (k, x) :: m, q, y => if q = k then (q, y) :: m else (k, x) :: mput m q y
end
/-- The place of a key among keys, and the value there. -/
def fnd {κ : Type} [DecidableEq κ] (q : κ) : List κ → List MapEntry → Nat → Option (Nat × Value)
  | k :: ks, e :: es, i => if q = k then some (i, e.val) else fnd q ks es (i + 1)
  | _, _, _ => none
/-- What a type of keys must bring. -/
structure KeyT {κ : Type} [DecidableEq κ] (P : Program) (kt : Nat) (kv : κ → Value) : Prop where
  chk : ∀ b a w, (Instr.checkKey b 10000 kt (kv a)).run P w = .ok () w
  find : ∀ (q : κ) (ks : List κ) (es : List MapEntry) w, es.map (·.key) = ks.map kv → (Instr.findKey kt (kv q) es).run P w = .ok (fnd q ks es 0) w
  bits : ∀ a, Instr.sameBits 10000 (kv a) (kv a) = true
theorem find_now {κ : Type} [DecidableEq κ] {P : Program} {kt : Nat} {kv : κ → Value} {kd : TypeDesc} (h : P.underlying kt = some kd) (hs : ∀ a b, Instr.sameNow kd (kv a) (kv b) = some (decide (a = b))) (q : κ) (ks : List κ) (es : List MapEntry) (w : World) (hk : es.map (·.key) = ks.map kv) :
    (Instr.findKey kt (kv q) es).run P w = .ok (fnd q ks es 0) w := by
  have key : ∀ (ks : List κ) (es : List MapEntry) (i : Nat), es.map (·.key) = ks.map kv → Instr.findNow kd (kv q) es i = some (fnd q ks es i) := by
    intro ks
    induction ks with
    | nil =>
      intro es i hk
      have : es = [] := by simpa using hk
      subst this; rfl
    | cons k ks ih =>
      intro es i hk
      match es, hk with
      | e :: es, hk =>
        simp only [List.map_cons, List.cons.injEq] at hk
        have := ih es (i + 1) hk.2
        by_cases hq : q = k
        · simp [Instr.findNow, fnd, hk.1, hs, hq]
        · simp [Instr.findNow, fnd, hk.1, hs, hq, this]
  simp [Instr.findKey, Sem.run_bind, run_underlying h, key ks es 0 hk]
theorem find_asking {κ : Type} [DecidableEq κ] {P : Program} {kt : Nat} {kv : κ → Value} {kd : TypeDesc} (h : P.underlying kt = some kd) (hs : ∀ a b, Instr.sameNow kd (kv a) (kv b) = none) (he : ∀ a b w, (Op.equal kt (kv a) (kv b)).run P w = .ok (decide (a = b)) w) (q : κ) (ks : List κ) (es : List MapEntry) (w : World) (hk : es.map (·.key) = ks.map kv) :
    (Instr.findKey kt (kv q) es).run P w = .ok (fnd q ks es 0) w := by
  have key : ∀ (ks : List κ) (es : List MapEntry) (i : Nat), es.map (·.key) = ks.map kv → (Instr.findAsking kt (kv q) es i).run P w = .ok (fnd q ks es i) w := by
    intro ks
    induction ks with
    | nil =>
      intro es i hk
      have : es = [] := by simpa using hk
      subst this; simp [Instr.findAsking, fnd]
    | cons k ks ih =>
      intro es i hk
      match es, hk with
      | e :: es, hk =>
        simp only [List.map_cons, List.cons.injEq] at hk
        have := ih es (i + 1) hk.2
        by_cases hq : q = k
        · subst hq
          simp [Instr.findAsking, fnd, hk.1, he, Sem.run_bind]
        · simp [Instr.findAsking, fnd, hk.1, he, Sem.run_bind, hq, this]
  match ks, es, hk with
  | [], [], _ => simp [Instr.findKey, Sem.run_bind, run_underlying h, Instr.findNow, fnd]
  | k :: ks, e :: es, hk =>
    have h2 := key (k :: ks) (e :: es) 0 hk
    simp only [List.map_cons, List.cons.injEq] at hk
    simp only [Instr.findKey, Sem.run_bind, run_underlying h, Result.andThen_ok, Instr.findNow, hk.1, hs]
    exact h2
theorem KeyT.int {P : Program} {kt : Nat} (h : P.underlying kt = some (.int .i64)) : KeyT P kt (fun n : Int => .int .i64 n) where
  chk := fun b a w => by
    have : ∀ n, (Instr.checkKey b (n + 1) kt (.int .i64 a)).run P w = .ok () w := fun n => by simp [Instr.checkKey, run_underlying h]
    exact this 9999
  find := find_now h fun a b => by simp [Instr.sameNow]; rfl
  bits := fun a => by
    have : ∀ n, Instr.sameBits n (.int .i64 a) (.int .i64 a) = true := fun n => by cases n <;> simp [Instr.sameBits]
    exact this _
section
variable {κ β : Type} [DecidableEq κ] (kv : κ → Value) (R : Rp β)
def entR (h : PH) : List (κ × β) → List MapEntry → Nat → Prop
  | [], [], _ => True
  | (k, x) :: m, e :: es, n => e.key = kv k ∧ (R.ty x).p h e.val ∧ e.born = n ∧ entR h m es (n + 1)
  | _, _, _ => False
def mapOwn (v : Value) (m : List (κ × β)) : SP where
  p := fun h mm => ∃ r es, v = .map (some r) ∧ mm = PH.one r (.map (List.toArray es) es.length) ∧ entR kv R h m es 0
  mono := fun {h h' mm} l ⟨r, es, e1, e2, e3⟩ => ⟨r, es, e1, e2, by
    have : ∀ (m : List (κ × β)) (es : List MapEntry) (n : Nat), entR kv R h m es n → entR kv R h' m es n := by
      intro m
      induction m with
      | nil => intro es n q; cases es with
        | nil => trivial
        | cons => exact q.elim
      | cons a m ih => intro es n q; cases es with
        | nil => exact q.elim
        | cons e es => exact ⟨q.1, (R.ty a.2).mono l q.2.1, q.2.2.1, ih es _ q.2.2.2⟩
    exact this _ _ _ e3⟩
end
section
variable {κ β : Type} [DecidableEq κ] {kv : κ → Value} {R : Rp β} {h : PH}
theorem entR.length : ∀ {m : List (κ × β)} {es : List MapEntry} {n : Nat}, entR kv R h m es n → es.length = m.length
  | [], [], _, _ => rfl
  | _ :: _, _ :: _, _, q => by simp [q.2.2.2.length]
theorem entR.keys : ∀ {m : List (κ × β)} {es : List MapEntry} {n : Nat}, entR kv R h m es n → es.map (·.key) = (m.map (·.1)).map kv
  | [], [], _, _ => rfl
  | (k, x) :: m, e :: es, n, q => by simp [q.1, q.2.2.2.keys]
theorem entR.find (q : κ) : ∀ {m : List (κ × β)} {es : List MapEntry} {n i : Nat}, entR kv R h m es n →
    (mget m q = none ∧ fnd q (m.map (·.1)) es i = none ∧ ∀ y u, (R.ty y).p h u → entR kv R h (mput m q y) (es ++ [(⟨kv q, u, n + es.length⟩ : MapEntry)]) n) ∨
    ∃ x j e, mget m q = some x ∧ es[j]? = some e ∧ e.key = kv q ∧ (R.ty x).p h e.val ∧ fnd q (m.map (·.1)) es i = some (i + j, e.val) ∧ ∀ y u, (R.ty y).p h u → entR kv R h (mput m q y) (es.modify j fun e => { e with key := kv q, val := u }) n
  | [], [], n, i, _ => .inl ⟨rfl, rfl, fun y u hu => ⟨rfl, hu, rfl, trivial⟩⟩
  | (k, x) :: m, e :: es, n, i, hq => by
    obtain ⟨h1, h2, h3, h4⟩ := hq
    by_cases hk : q = k
    · subst hk
      right
      refine ⟨x, 0, e, by simp [mget], rfl, h1, h2, ?_, fun y u hu => ?_⟩
      · simp [fnd]
      · simp only [mput, if_true]
        exact ⟨rfl, hu, h3, h4⟩
    · rcases entR.find q (i := i + 1) h4 with ⟨a, b, c⟩ | ⟨x', j, e', a, b, c, d, f, g⟩
      · left
        refine ⟨by simp [mget, hk, a], by simp [fnd, hk, b], fun y u hu => ?_⟩
        simp only [mput, if_neg hk]
        refine ⟨h1, h2, h3, ?_⟩
        have := c y u hu
        rw [show n + 1 + es.length = n + (e :: es).length from by simp; omega] at this
        exact this
      · right
        refine ⟨x', j + 1, e', by simp [mget, hk, a], by simpa using b, c, d, ?_, fun y u hu => ?_⟩
        · simp [fnd, hk, f]; omega
        · simp only [mput, if_neg hk]
          exact ⟨h1, h2, h3, g y u hu⟩
end
theorem run_setObj_map {P : Program} {w : World} {r : Nat} {es : Array MapEntry} {c : Nat} (o : Obj) (h : w.heap[r]? = some (.map es c)) : (setObj r o).run P w = .ok () (w.putObj r o) := by simp [setObj, Sem.run, h, World.putObj]
theorem run_getObj_map {P : Program} {w : World} {r : Nat} {es : Array MapEntry} {c : Nat} (h : w.heap[r]? = some (.map es c)) : (getObj r).run P w = .ok (.map es c) w := by simp [getObj, Sem.run, h]
section
variable {κ β : Type} [DecidableEq κ] {kv : κ → Value} {R : Rp β}
variable {C : Cx} {E : Env} {L : List SP} {d : Option Nat} {ty : Nat} {pos : String} {af : Array Edge} {g : Option (Nat × Bool)}
theorem step_makeMap {T : Nat} : Step C ⟨d, .makeMap T none, ty, pos, af, g⟩ E L (fun v : Value => tV v) (fun v => mapOwn kv R v ([] : List (κ × β)) :: L) :=
  Step.of_run (by intro c h; cases h) fun a w h m l sp st fr => by
    refine ⟨.map (some w.heap.size), .map (some w.heap.size), w.alloc (.map #[] 0), h, (PH.one w.heap.size (.map #[] 0)).join m, ?_, HL.own _, sp.allocOwn _, ?_, rfl⟩
    · simp [execOp, Instr.makeMap, run_newObj_alloc]
    · exact ⟨_, m, PH.disj_symm (PH.one_disj_new sp.mw _), rfl, ⟨w.heap.size, [], rfl, rfl, trivial⟩, st⟩
/-- What a look into a map comes to. -/
theorem run_lookup {P : Program} {T kt e : Nat} (K : KeyT P kt kv) (hu : P.underlying T = some (.map kt e)) {z : β} {zv : Value} (hz : ∀ w, (zeroValue e).run P w = .ok zv w) (hzr : ∀ h, (R.ty z).p h zv) {w : World} {h : PH} {v : Value} {m : List (κ × β)} {m1 : PH}
    (ho : (mapOwn kv R v m).p h m1) (hw : m1.inw w) (q : κ) (ok : Bool) :
    ∃ u, (R.ty ((mget m q).getD z)).p h u ∧ (Instr.lookup T v (kv q) ok).run P w = .ok (if ok then .tuple #[u, .bool (mget m q).isSome] else u) w := by
  obtain ⟨r, es, rfl, rfl, hr⟩ := ho
  have hchk := K.chk
  have hfk := K.find q _ es w hr.keys
  have hb := hw _ _ (PH.one_same r _)
  rcases hr.find q (i := 0) with ⟨a, b, _⟩ | ⟨x, j, e', a, _, _, dd, f, _⟩
  · refine ⟨zv, by rw [a]; exact hzr h, ?_⟩
    rw [b] at hfk
    simp only [Instr.lookup, run_underlying hu, Sem.run_bind, Result.andThen, run_getObj_map hb, hchk, hfk, hz, a]
    cases ok <;> simp [Sem.run_bind, run_underlying hu, hb, hchk, hfk, hz, run_getObj_map hb]
  · refine ⟨e'.val, by rw [a]; exact dd, ?_⟩
    rw [f] at hfk
    simp only [Instr.lookup, run_underlying hu, Sem.run_bind, Result.andThen, run_getObj_map hb, hchk, hfk, a]
    cases ok <;> simp [Sem.run_bind, run_underlying hu, hb, hchk, hfk, run_getObj_map hb]
theorem step_mapUpdate {T kt e : Nat} {x y u : Operand} {v : Value} {m : List (κ × β)} {S : List SP} {q : κ} {z : β} (K : KeyT C.P kt kv) (hu : C.P.underlying T = some (.map kt e))
    (hx : Sub (opTy E x) (tV v)) (hy : Sub (opTy E y) (tV (kv q))) (hz : Sub (opTy E u) (R.ty z)) (sel : Sel L [mapOwn kv R v m] S) :
    Step C ⟨d, .mapUpdate T x y u, ty, pos, af, g⟩ E L (fun _ : Unit => tAny) (fun _ => mapOwn kv R v (mput m q z) :: S) := by
  refine Step.of_skip (by intro c h; cases h) fun a w h mm l sp st fr => by
    have h1 : a.eval x = v := fr.get hx
    have h2 : a.eval y = kv q := fr.get hy
    have h3 := fr.get hz
    obtain ⟨m1, m2, d12, rfl, ⟨r, es, rfl, rfl, hr⟩, s2⟩ := sel.one.1 st
    have hchk := K.chk
    have hfk := K.find q _ es w hr.keys
    have hb := sp.heap_own
    rcases hr.find q (i := 0) with ⟨a1, b1, c1⟩ | ⟨x', j, e', a1, b1, c1, dd, f1, g1⟩
    · refine ⟨(), w.putObj r (.map (es ++ [(⟨kv q, a.eval u, es.length⟩ : MapEntry)]).toArray (es.length + 1)), h, (PH.one r (.map (es ++ [(⟨kv q, a.eval u, es.length⟩ : MapEntry)]).toArray (es.length + 1))).join m2, ?_, HL.same (Same.putObj _ _ _), Sep.put _ d12 sp, ?_⟩
      · rw [b1] at hfk
        simp [execOp, Instr.mapUpdate, h1, h2, Sem.run_bind, run_underlying hu, run_getObj_map hb, hchk, hfk, run_setObj_map _ hb]
      · refine ⟨_, m2, PH.one_disj_iff.2 (PH.one_disj_iff.1 d12), rfl, ⟨r, es ++ [(⟨kv q, a.eval u, es.length⟩ : MapEntry)], rfl, by simp, ?_⟩, s2⟩
        have := c1 z _ h3
        rw [Nat.zero_add] at this
        exact this
    · have hold : es.toArray.modify j (fun e => { e with key := kv q, val := a.eval u }) = (es.modify j fun e => { e with key := kv q, val := a.eval u }).toArray := by simp
      refine ⟨(), w.putObj r (.map (es.modify j fun e => { e with key := kv q, val := a.eval u }).toArray es.length), h, (PH.one r (.map (es.modify j fun e => { e with key := kv q, val := a.eval u }).toArray es.length)).join m2, ?_, HL.same (Same.putObj _ _ _), Sep.put _ d12 sp, ?_⟩
      · have hkey : (Instr.keyThatStays (((es.toArray[j]?).map (·.key)).getD (kv q)) (kv q)).run C.P w = .ok (kv q) w := by
          have : ((es.toArray[j]?).map (·.key)).getD (kv q) = kv q := by simp [b1, c1]
          rw [this]; simp [Instr.keyThatStays, K.bits]
        rw [Nat.zero_add] at f1
        rw [f1] at hfk
        rw [← hold]
        simp [execOp, Instr.mapUpdate, h1, h2, Sem.run_bind, run_underlying hu, run_getObj_map hb, hchk, hfk]
        simp [Instr.keyThatStays, b1, c1, K.bits, run_setObj_map _ hb]
      · exact ⟨_, m2, PH.one_disj_iff.2 (PH.one_disj_iff.1 d12), rfl, ⟨r, _, rfl, by simp, g1 z _ h3⟩, s2⟩
/-! Ranging -/
end
/-! ### A struct that holds a slice of one's own, made immutable -/
open Go
/-- A yield in a cell. -/
abbrev rY {α : Type} (P : Program) (T : α → List Ty) (Ok : List α → Prop) (M Mx : List α → SP) : Rp Unit := rT (fun _ : Unit => tYield P T Ok M Mx) (by rintro h x v ⟨l, rfl, _⟩; rfl)
section
variable {C : Cx} {E : Env} {L : List SP} {d : Option Nat} {ty : Nat} {pos : String} {af : Array Edge} {g : Option (Nat × Bool)}
end
open Go
abbrev kvI : Int → Value := fun n => .int .i64 n
abbrev Ent := List (Int × (Value × List Int))
def hdr (m : Ent) : List (Int × Value) := m.map fun p => (p.1, p.2.1)
def rows (m : Ent) : List SP := m.map fun p => own 3 rInt p.2.1 p.2.2
open Go
def bytesOf (s : ByteArray) : List Int := s.data.toList.map fun b => (b.toNat : Int)
theorem bytesOf_len (s : ByteArray) : (bytesOf s).length = s.size := by unfold bytesOf; rw [List.length_map]; rfl
section
variable {P : Program} (w : World)
end
section
variable {C : Cx} {E : Env} {L : List SP} {d : Option Nat} {ty : Nat} {pos : String} {af : Array Edge} {g : Option (Nat × Bool)}
end
open Go
def wholeH (W : World) : PH := fun b => W.heap[b]?
theorem wholeH_inw (W : World) : (wholeH W).inw W := fun _ _ e => e
theorem TyOf.cells {α : Type} {P : Program} {T : Nat} {R : Rp α} (h : TyOf P T R) (W : World) : P.cellsOf T = R.k := by
  have h1 := h.size W
  cases hi : P.info? T with
  | none => simp [Go.sizeOf, typeInfo, hi] at h1
  | some i =>
    rw [run_sizeOf W hi] at h1
    injection h1
section
variable {H : Type} {enc : TypeId × Value → H} {P : Program} {W : World}
/-- Whatever the kit reads at type t is represented by R. -/
structure Rd {α H : Type} (enc : TypeId × Value → H) (P : Program) (W : World) (t : Nat) (R : Rp α) : Prop where
  k : P.cellsOf t = R.k
  rd : ∀ fuel cs x, DataW.trod enc P W 0 (fun _ => true) true fuel t cs = some x → ∃ y, R.rel (wholeH W) y cs
theorem Rd.int {t : Nat} (hT : TyOf P t rInt) (hu : P.underlying t = some (.int .i64)) : Rd enc P W t rInt where
  k := hT.cells W
  rd := fun _ _ _ h => by
    obtain ⟨n, rfl, _, _⟩ := DataW.trod_int hu h
    exact ⟨n, rfl⟩
theorem Rd.str {t : Nat} (hT : TyOf P t rStr) (hu : P.underlying t = some .string) : Rd enc P W t rStr where
  k := hT.cells W
  rd := fun _ _ _ h => by
    obtain ⟨n, rfl, _, _⟩ := DataW.trod_string hu h
    exact ⟨n, rfl⟩
theorem cell_holds {b off k : Nat} {cs : List Value} (hk : 0 < k) (hl : cs.length = k) (hc : ∀ j, j < k → W.cell? ⟨b, off + j, none⟩ = cs[j]?) : Holds (wholeH W) b off cs := by
  have h0 := hc 0 hk
  have h0' : cs[0]? = some (cs[0]'(by omega)) := List.getElem?_eq_getElem (by omega)
  rw [h0'] at h0
  unfold World.cell? at h0
  simp only at h0
  split at h0
  · rename_i c e fr hb
    refine ⟨c, e, fr, hb, fun j v hv => ?_⟩
    have hj : j < k := by have := (List.getElem?_eq_some_iff.1 hv).1; omega
    have h1 := hc j hj
    unfold World.cell? at h1
    simp only [hb] at h1
    simpa [hv] using h1
  · cases h0
theorem Rd.sl {α : Type} {t e : Nat} {R : Rp α} (hT : TyOf P t (rSl R)) (hu : P.underlying t = some (.slice e)) (hR : Rd enc P W e R) (hk : 0 < R.k) : Rd enc P W t (rSl R) where
  k := hT.cells W
  rd := fun fuel cs x h => by
    rcases DataW.trod_slice hu h with ⟨rfl, _⟩ | ⟨a, len, cap, elems, rest, n, _, rfl, _, _, hlc, _, hlen, hel, _, _⟩
    · exact ⟨[], _, rfl, none, ⟨0, Nat.le_refl _⟩, rfl, fun q => absurd rfl q⟩
    have hall : ∀ i : Fin len, ∃ y cs, W.cells? 0 (a.add (i.1 * R.k)) R.k = some cs ∧ R.rel (wholeH W) y cs := fun i => by
      have h1 := hel i.1 i.2
      rw [List.getElem?_eq_getElem (by omega : i.1 < elems.length), Option.bind_eq_some_iff] at h1
      obtain ⟨cs, h2, h3⟩ := h1
      obtain ⟨y, hy⟩ := hR.rd _ _ _ h3
      rw [hR.k] at h2
      exact ⟨y, cs, h2, hy⟩
    let f : Fin len → α := fun i => Classical.choose (hall i)
    have hf : ∀ i : Fin len, ∃ cs, W.cells? 0 (a.add (i.1 * R.k)) R.k = some cs ∧ R.rel (wholeH W) (f i) cs := fun i => Classical.choose_spec (hall i)
    refine ⟨List.ofFn f, _, rfl, some a, ⟨cap, by rw [List.length_ofFn]; exact hlc⟩, by show Value.slice (some a) len cap = Value.slice (some a) (List.ofFn f).length cap; rw [List.length_ofFn], fun hne => ?_⟩
    have hl0 : 0 < len := by
      rcases Nat.eq_zero_or_pos len with h0 | h0
      · exfalso; apply hne; subst h0; simp
      · exact h0
    have hsp : a.spot = none := by
      obtain ⟨cs, h1, h2⟩ := hf ⟨0, hl0⟩
      obtain ⟨_, h3, h4⟩ := World.cells?_some h1
      have h5 := h4 0 hk
      rw [List.getElem?_eq_getElem (by omega : 0 < cs.length)] at h5
      have h6 : (a.add (0 * R.k)).add 0 = a := by simp [Addr.add]
      rw [h6] at h5
      exact World.cell?_spot h5
    obtain ⟨b, off, sp⟩ := a
    simp only at hsp
    subst hsp
    refine ⟨b, off, rfl, fun i y hy => ?_⟩
    have hi : i < len := by have := (List.getElem?_eq_some_iff.1 hy).1; simpa using this
    have hy' : f ⟨i, hi⟩ = y := by
      rw [List.getElem?_eq_getElem (by simpa using hi)] at hy
      simpa using hy
    obtain ⟨cs, h1, h2⟩ := hf ⟨i, hi⟩
    obtain ⟨_, h3, h4⟩ := World.cells?_some h1
    rw [hy'] at h2
    refine ⟨cs, cell_holds hk h3 fun j hj => ?_, h2⟩
    have := h4 j hj
    simp only [addr_add] at this
    exact this
theorem SF.rel_of {α : Type} {h : PH} {x : α} : ∀ {fs : List (SF α)} {cs : List Value}, cs.length = SF.width fs → (∀ (i : Nat) (f : SF α), fs[i]? = some f → f.R.rel h (f.get x) ((cs.drop (SF.off fs i)).take f.R.k)) → SF.rel h x fs cs
  | [], cs, hl, _ => List.eq_nil_of_length_eq_zero hl
  | f :: fs, cs, hl, hr => by
    refine ⟨cs.take f.R.k, cs.drop f.R.k, (List.take_append_drop _ _).symm, by simpa [SF.off] using hr 0 f rfl, SF.rel_of (by simp [hl, SF.width]) fun i g hg => ?_⟩
    have := hr (i + 1) g (by simpa using hg)
    simpa [SF.off, List.drop_drop] using this
theorem readStruct {α : Type} {t : Nat} {fs : List (SF α)} (S : StructOf P t fs) {fuel : Nat} {cs : List Value} {x : DataW H × List MemPlace} (h : DataW.trod enc P W 0 (fun _ => true) true fuel t cs = some x) :
    cs.length = SF.width fs ∧ ∀ (i : Nat) (f : SF α), fs[i]? = some f → ∃ n z, DataW.trod enc P W 0 (fun _ => true) true n f.T ((cs.drop (SF.off fs i)).take f.R.k) = some z := by
  obtain ⟨fls, hu, hl⟩ := S.lays
  obtain ⟨xs, n, _, _, hlen, hxs, hf⟩ := DataW.trod_struct hu h
  refine ⟨hlen.trans (S.ty.cells W), fun i f hi => ?_⟩
  obtain ⟨fl, h1, h2, h3, h4, _⟩ := hl.get hi
  have h1' : fls[i]? = some fl := by simpa using h1
  have h5 := hf i fl h1'
  have hlt : i < xs.length := by rw [hxs]; exact (Array.getElem?_eq_some_iff.1 h1').1
  rw [List.getElem?_eq_getElem hlt, h2, h3, h4.cells W, Nat.zero_add] at h5
  exact ⟨n, _, h5⟩
theorem Rd.at {α β : Type} {t : Nat} {fs : List (SF α)} {cs : List Value} {i : Nat} {T : Nat} {R : Rp β} {get : α → β} (hf : ∀ (i : Nat) (f : SF α), fs[i]? = some f → ∃ n z, DataW.trod enc P W 0 (fun _ => true) true n f.T ((cs.drop (SF.off fs i)).take f.R.k) = some z)
    (hR : Rd enc P W T R) (hi : fs[i]? = some ⟨β, T, R, get⟩) : ∃ y, R.rel (wholeH W) y ((cs.drop (SF.off fs i)).take R.k) := by
  obtain ⟨n, z, h⟩ := hf i _ hi
  exact hR.rd _ _ _ h
end
/-- Below the first heap nothing has turned. -/
theorem below_of {W W' : World} {h' : PH} (hl : (wholeH W).le h') (hw : h'.inw W') (s : Same W W') : Go.RowKit.Below W.heap.size W W' where
  os := s.os
  tape := s.tape
  output := s.output
  size := by
    rcases Nat.eq_zero_or_pos W.heap.size with h0 | h0
    · omega
    · have h1 : W.heap[W.heap.size - 1]? = some (W.heap[W.heap.size - 1]'(by omega)) := Array.getElem?_eq_getElem (by omega)
      have h2 := hw _ _ (hl _ _ h1)
      have := (Array.getElem?_eq_some_iff.1 h2).1
      omega
  block := fun k hk => by
    have h1 : W.heap[k]? = some (W.heap[k]'hk) := Array.getElem?_eq_getElem hk
    rw [h1]
    exact hw _ _ (hl _ _ h1)
open Go
def JN (C : Cx) (ops : Array Oper) (k : Env → Prop) (L : List SP) : List It → Env → Prop
  | [], E => k E
  | ⟨i, ts, _⟩ :: its, E => ∃ o A, ops[i]? = some o ∧ ltO o.dst C.N = true ∧ StepG C ops o (restr ts E) L A ∧ JN C ops k L its (updO E o.dst A)
section
variable {C : Cx} {ops : Array Oper} {k : Env → Prop} {its : List It} {E : Env} {L : List SP} {i : Nat} {ts : List Nat} {f : Bool} {o : Oper}
theorem JN_nil (h : k E) : JN C ops k L [] E := h
theorem JN_step {A : Ty} {d : Nat} (ho : ops.toList[i]? = some o) (hg : o.guard = none) (hd : o.dst = some d) (hN : Nat.blt d C.N = true) (hs : Step1 C o (restr ts E) L A)
    (hk : JN C ops k L its (upd E d A)) : JN C ops k L (⟨i, ts, f⟩ :: its) E :=
  ⟨o, A, by simpa using ho, by rw [hd]; exact hN, .inl ⟨hg, hs⟩, by rw [hd]; exact hk⟩
end
theorem JN_pull {C : Cx} {ops : Array Oper} {k : Env → Prop} {L : List SP} : ∀ {l1 : List It} {b : It} {l2 : List It} {E : Env},
    (∀ a ∈ l1, okPair (plOf ops.toList a) (plOf ops.toList b) = true) → (∀ a ∈ l1, a.i ∉ aftOf ops.toList b.i) → JN C ops k L (l1 ++ b :: l2) E → JN C ops k L (b :: (l1 ++ l2)) E
  | [], _, _, _, _, _, h => h
  | ⟨ia, ta, fa⟩ :: l1, ⟨ib, tb, fb⟩, l2, E, hp, hn, h => by
    obtain ⟨oa, A, ha, hla, hsa, hk⟩ := h
    have ih := JN_pull (fun a m => hp a (by simp [m])) (fun a m => hn a (by simp [m])) hk
    have hpair := hp ⟨ia, ta, fa⟩ (by simp)
    have hna := hn ⟨ia, ta, fa⟩ (by simp)
    have hda : dstOf ops.toList ia = oa.dst := by simp [dstOf, ha]
    have hpair' : inO oa.dst tb = false ∧ inO (dstOf ops.toList ib) ta = false ∧ eqO oa.dst (dstOf ops.toList ib) = false := by
      simp only [okPair, plOf, hda, Bool.and_eq_true, Bool.or_eq_true, Bool.not_eq_true', memN_iff] at hpair
      rcases hpair.2 with q | q
      · exact absurd q hna
      · exact ⟨q.1.1, q.1.2, q.2⟩
    obtain ⟨p1, p2, p3⟩ := hpair'
    obtain ⟨ob, B, hb, hlb, hsb, hkb⟩ := ih
    have hdb : dstOf ops.toList ib = ob.dst := by simp [dstOf, hb]
    rw [hdb] at p2 p3
    refine ⟨ob, B, hb, hlb, hsb.same (restr_updO p1), oa, A, ha, hla, hsa.same (restr_updO p2).symm, ?_⟩
    rw [updO_comm p3] at hkb
    exact hkb
theorem wpAny_JN {C : Cx} {ops : Array Oper} {Q : Exit → Act → World → Prop} {L : List SP} : ∀ (fuel : Nat) (its : List It) (listed : Array Bool) (E : Env), its.length ≤ fuel → listed.size = ops.size →
    (∀ i, i < ops.size → (listed.getD i true = false ↔ ∃ x ∈ its, x.i = i)) → okPls (its.map (plOf ops.toList)) = true → (∀ x ∈ its, x.i < ops.size ∧ ∀ e ∈ aftOf ops.toList x.i, e < x.i) →
    (∀ x ∈ its, x.free = true) → JN C ops (fun E' => K C (Q .normal) E' L) L its E → K C (fun a w => wpAnyIn (Fw C.ro) 0 C.P .any ops Q fuel listed a w) E L := by
  intro fuel
  induction fuel with
  | zero =>
    intro its listed E hlen hsz hin _ _ _ hJ
    have : its = [] := List.length_eq_zero_iff.1 (by omega)
    subst this
    intro a w p
    refine ⟨?_, hJ a w p⟩
    rw [List.eq_nil_iff_forall_not_mem]
    intro i hi
    obtain ⟨h1, h2, _⟩ := mem_ready.1 hi
    obtain ⟨x, hx, _⟩ := (hin i h1).1 h2
    cases hx
  | succ fuel ih =>
    intro its listed E hlen hsz hin hok hlt hfr hJ
    -- if nothing is ready, nothing is left
    have hdone : Region.ready .any ops listed = [] → its = [] := by
      intro hr
      have hall : ∀ i, i < ops.size → listed.getD i true = true := by
        intro i
        induction i using Nat.strongRecOn with
        | _ i ihi =>
          intro hi
          cases hl : listed.getD i true with
          | true => rfl
          | false =>
            have ho : ops[i]? = some ops[i] := Array.getElem?_eq_getElem hi
            obtain ⟨x, hx, hxi⟩ := (hin i hi).1 hl
            have h1 := (hlt x hx).2
            rw [hxi] at h1
            have hm : i ∈ Region.ready .any ops listed := mem_ready.2 ⟨hi, hl, _, ho, fun e he => by
              have he' : e < i := h1 e (by simpa [aftOf, hi] using he)
              rw [getD_any (by omega) false true]
              exact ihi e he' (by omega)⟩
            rw [hr] at hm; cases hm
      match its with
      | [] => rfl
      | x :: _ =>
        have h1 := (hlt x (by simp)).1
        have := (hin x.i h1).2 ⟨x, by simp, rfl⟩
        rw [hall x.i h1] at this; cases this
    intro a w p
    refine ⟨fun hr => ?_, fun i hi => ?_⟩
    · have := hdone hr
      subst this
      exact hJ a w p
    · obtain ⟨hlti, hnl, o, ho, haft⟩ := mem_ready.1 hi
      obtain ⟨b, hb, hbi⟩ := (hin i hlti).1 hnl
      obtain ⟨l1, l2, rfl⟩ := List.append_of_mem hb
      have hoi : ops.toList[b.i]? = some o := by rw [hbi]; simpa using ho
      have haft' : aftOf ops.toList b.i = aftN o := by simp only [aftOf, hoi]
      -- what is left is not listed
      have hleft : ∀ x ∈ l1 ++ b :: l2, x.i ∉ aftOf ops.toList b.i := fun x hx hm => by
        rw [haft'] at hm
        have h1 := haft _ hm
        have h2 := (hlt x hx).1
        have h3 := (hin x.i h2).2 ⟨x, hx, rfl⟩
        rw [getD_any (by omega) true false, h1] at h3; cases h3
      rw [List.map_append, List.map_cons] at hok
      have hpair : ∀ a ∈ l1, okPair (plOf ops.toList a) (plOf ops.toList b) = true := fun a ha => okPls_pair hok _ (List.mem_map_of_mem ha)
      have hfree : ∀ a ∈ l1, a.free = true := fun x hx => hfr x (by simp [hx])
      have hJ' := JN_pull hpair (fun a ha => hleft a (by simp [ha])) hJ
      have hsub : ∀ x ∈ l1 ++ l2, x ∈ l1 ++ b :: l2 := fun x hx => by
        rcases List.mem_append.1 hx with hx | hx <;> simp [hx]
      have hpairs : ∀ x ∈ l1 ++ l2, x.i ≠ b.i := fun x hx => by
        rcases List.mem_append.1 hx with hx | hx
        · have := hpair x hx
          simp only [okPair, plOf, Bool.and_eq_true, Bool.not_eq_true'] at this
          intro e; rw [e] at this; simp at this
        · have h2 : ∀ {l1 : List Pl} {b : Pl} {l2 : List Pl}, okPls (l1 ++ b :: l2) = true → okPls (b :: l2) = true := by
            intro l1
            induction l1 with
            | nil => intro b l2 h; exact h
            | cons c l1 ih => intro b l2 h; simp only [List.cons_append, okPls, Bool.and_eq_true] at h; exact ih h.2
          have := h2 hok
          simp only [okPls, Bool.and_eq_true, List.all_eq_true] at this
          have := this.1.1 _ (List.mem_map_of_mem hx)
          simp only [okPair, plOf, Bool.and_eq_true, Bool.not_eq_true'] at this
          intro e; rw [e] at this; simp at this
      have rest : ∀ E', JN C ops (fun E' => K C (Q .normal) E' L) L (l1 ++ l2) E' → K C (fun a w => wpAnyIn (Fw C.ro) 0 C.P .any ops Q fuel (listed.setIfInBounds i true) a w) E' L := by
        intro E' hk
        refine ih (l1 ++ l2) _ E' (by simp only [List.length_append, List.length_cons] at hlen ⊢; omega) (by simpa using hsz) (fun j hj => ?_) (by
          rw [List.map_append]
          exact okPls_sub hok fun x hx => (List.mem_map.1 hx).elim fun y hy => hy.2 ▸ hfree y hy.1) (fun x hx => hlt x (hsub x hx)) (fun x hx => hfr x (hsub x hx)) hk
        by_cases hji : i = j
        · subst hji
          rw [getD_set_same (by omega)]
          constructor
          · intro h; cases h
          · rintro ⟨x, hx, e⟩
            exact absurd (e.trans hbi.symm) (hpairs x hx)
        · rw [getD_set_ne hji, hin j hj]
          constructor
          · rintro ⟨x, hx, e⟩
            refine ⟨x, ?_, e⟩
            rcases List.mem_append.1 hx with hx | hx
            · simp [hx]
            · rcases List.mem_cons.1 hx with rfl | hx
              · exact absurd (hbi.symm.trans e) hji
              · simp [hx]
          · rintro ⟨x, hx, e⟩
            exact ⟨x, hsub x hx, e⟩
      obtain ⟨bi, tb, fb⟩ := b
      simp only at hbi hoi
      subst hbi
      have ho' : ops[bi]? = some o := ho
      obtain ⟨o', A, ho2, hl, hs, hk⟩ := hJ'
      rw [ho'] at ho2; cases ho2
      exact hs.op ho' hl (rest _ hk) a w p
theorem J_drawN {C : Cx} {id : Nat} {ops : Array Oper} (its : List It) {Q : Exit → Act → World → Prop} {E : Env} {L : List SP} (hmix : C.P.follows .mixedOrders = true) (hok : okM ops.toList its = true) (hfr : its.all (·.free) = true)
    (hJ : JN C ops (fun E' => K C (Q .normal) E' L) L its E) : J C (.region id ops true) Q E L := fun a w p => by
  refine wpIn_region_draw (fun t => ?_)
  simp only [Region.schedule, hmix, Bool.true_or, if_true]
  refine wpAnyIn_sound ops.size t _ a _ ?_
  simp only [okM, Bool.and_eq_true, List.all_eq_true, List.any_eq_true] at hok
  obtain ⟨⟨⟨h1, h2⟩, h3⟩, h4⟩ := hok
  have h5 : ∀ x ∈ its, x.i < ops.size := fun x hx => by have := h4 x hx; simpa using this
  have hnd : (its.map (·.i)).Nodup := by
    have : ∀ {l : List It}, okPls (l.map (plOf ops.toList)) = true → (l.map (·.i)).Nodup := by
      intro l
      induction l with
      | nil => intro _; simp
      | cons x l ih =>
        intro h
        simp only [List.map_cons, okPls, Bool.and_eq_true, List.all_eq_true] at h
        simp only [List.map_cons, List.nodup_cons]
        refine ⟨fun hm => ?_, ih h.2⟩
        obtain ⟨y, hy, e⟩ := List.mem_map.1 hm
        have := h.1.1 _ (List.mem_map_of_mem hy)
        simp only [okPair, plOf, Bool.and_eq_true, Bool.not_eq_true'] at this
        rw [e] at this; simp at this
    exact this h1
  have hlen : its.length ≤ ops.size := by
    have := nodup_le hnd (n := ops.size) (fun i hi => by
      obtain ⟨x, hx, rfl⟩ := List.mem_map.1 hi
      exact h5 x hx)
    simpa using this
  refine wpAny_JN ops.size its _ E hlen (by simp) (fun i hi => ?_) h1 (fun x hx => ⟨h5 x hx, fun e he => ?_⟩) (fun x hx => List.all_eq_true.1 hfr x hx) hJ a _ ?_
  · constructor
    · intro _
      obtain ⟨x, hx, e⟩ := h3 i (by simpa using hi)
      exact ⟨x, hx, (Nat.eq_of_beq_eq_true e).symm⟩
    · intro _; simp [Array.getD_eq_getD_getElem?, hi]
  · have := h2 _ (List.mem_map_of_mem hx) e he
    simpa [plOf] using this
  · obtain ⟨hsz, hds, h, m, hl, sp, st, fr⟩ := p
    exact ⟨hsz, hds, h, m, hl.trans (HL.same (Same.drew _)), ⟨(by first | exact Sep.inv (by assumption) | exact Inv.mono (PH.le_join_left _ _) (Sep.inv (by assumption))), sp.hm, sp.hr, sp.mr, sp.hw, sp.mw, sp.rw⟩, st, fr⟩
open Go
abbrev toB (s : List UInt8) : ByteArray := ⟨s.toArray⟩
abbrev ofB (b : ByteArray) : List UInt8 := b.data.toList
theorem toB_ofB (b : ByteArray) : toB (ofB b) = b := by cases b; simp
theorem ofB_toB (s : List UInt8) : ofB (toB s) = s := by simp
theorem relAll_str {h : PH} : ∀ {xs : List ByteArray} {cs : List Value}, relAll rStr h xs cs ↔ cs = xs.map (.string ·)
  | [], cs => Iff.rfl
  | x :: xs, cs => by
    constructor
    · rintro ⟨c1, c2, rfl, r1, r2⟩
      have r1 : c1 = [.string x] := r1
      rw [relAll_str.1 r2, r1]; rfl
    · rintro rfl
      exact ⟨[.string x], xs.map (.string ·), rfl, rfl, relAll_str.2 rfl⟩
open Go
section
variable {κ β : Type} [DecidableEq κ] {kv : κ → Value} {R : Rp β}
variable {C : Cx} {E : Env} {L : List SP} {d : Option Nat} {ty : Nat} {pos : String} {af : Array Edge} {g : Option (Nat × Bool)}
theorem step_insert {T kt e : Nat} {x y u : Operand} {v : Value} {m : List (κ × β)} {S : List SP} {q : κ} {z : β} (K : KeyT C.P kt kv) (hu : C.P.underlying T = some (.map kt e))
    (hx : Sub (opTy E x) (tV v)) (hy : Sub (opTy E y) (tV (kv q))) (hz : Sub (opTy E u) (R.ty z)) (sel : Sel L [mapOwn kv R v m] S) :
    Step C ⟨d, .insert T x y u, ty, pos, af, g⟩ E L (fun _ : Unit => tAny) (fun _ => mapOwn kv R v (mput m q z) :: S) :=
  fun a w h mm hn l sp st fr next Q hk => by
    have h2 := (step_mapUpdate (C := C) (d := d) (ty := ty) (pos := pos) (af := af) (g := g) K hu hx hy hz sel a w h mm hn l sp st fr next Q hk).2
    refine ⟨fun _ _ => trivial, ?_⟩
    rw [Fw_round, Oper.semAt_eq _ _ _ (by intro c h; cases h)] at h2 ⊢
    exact h2
end
section
variable {C : Cx} {E : Env} {L : List SP} {d : Option Nat} {ty : Nat} {pos : String} {af : Array Edge} {g : Option (Nat × Bool)}
theorem nth_bytes {s : ByteArray} {i : Nat} (h : i < s.size) : s[i]? = some (s.data.toList.getD i 0) := by
  have h2 : i < s.data.size := h
  rw [getElem?_pos s i h]
  simp [List.getD, h2]
  rw [Array.getElem?_eq_getElem h2]; rfl
theorem step_index_str {T i : Nat} {x y : Operand} {s : ByteArray} {k : IntKind} {n : Int} (hu : C.P.underlying T = some .string) (hx : Sub (opTy E x) (tV (.string s))) (hy : Sub (opTy E y) (tV (.int k n))) (hi : n = i) (hl : i < s.size) :
    Step1 C ⟨d, .index T x y, ty, pos, af, g⟩ E L (tV (.int .u8 (nth (bytesOf s) i))) :=
  Step.of_same (by intro c h; cases h) fun a w h hh f => by
    have h1 : a.eval x = .string s := f.get hx
    have h2 : a.eval y = .int k n := f.get hy
    subst hi
    have e : nth (bytesOf s) i = ((s.data.toList.getD i 0).toNat : Int) := by
      have hl' : i < (bytesOf s).length := by rw [bytesOf_len]; exact hl
      rw [nth_get hl']
      have h2 : i < s.data.toList.length := hl
      have h3 : i < s.data.size := hl
      simp only [bytesOf, List.getElem_map]
      rw [List.getD_eq_getElem?_getD, List.getElem?_eq_getElem h2]
      rfl
    refine ⟨.int .u8 (nth (bytesOf s) i), ?_, rfl⟩
    rw [e]
    simp [execOp, Instr.index, h1, h2, run_underlying hu, asIntOf, nth_bytes hl]
theorem step_quo {T U : Nat} {x y : Operand} {a b : Int} (hx : Sub (opTy E x) (tV (.int .i64 a))) (hy : Sub (opTy E y) (tV (.int .i64 b))) (ha : 0 ≤ a) (hb : 0 < b) (hr : in64 (a / b)) :
    Step1 C ⟨d, .binOp .quo T x y U, ty, pos, af, g⟩ E L (tV (.int .i64 (a / b))) := step_int hx hy (fun P w => by
  have h1 : a.tdiv b = a / b := Int.tdiv_eq_ediv_of_nonneg ha
  have h2 : ¬ b = 0 := by omega
  simp [binOp, Op.intDiv, h1, h2, wrap64_in hr])
theorem step_max {T U : Nat} {x y : Operand} {k k' : IntKind} {a b : Int} (hx : Sub (opTy E x) (tV (.int k a))) (hy : Sub (opTy E y) (tV (.int k' b))) :
    Step1 C ⟨d, .call { callee := .builtin .max, args := #[x, y], argTypes := #[T, U] }, ty, pos, af, g⟩ E L (tV (.int k (if b > a then b else a))) :=
  Step.of_same (by intro c h; cases h) fun a' w h hw f => by
    have h1 : a'.eval x = .int k a := f.get hx
    have h2 : a'.eval y = .int k' b := f.get hy
    refine ⟨.int k (if b > a then b else a), ?_, rfl⟩
    simp [execOp, resolve, invoke, builtin, Builtin.max_, Builtin.max2, h1, h2]
    try split <;> simp_all
theorem step_min {T U : Nat} {x y : Operand} {k k' : IntKind} {a b : Int} (hx : Sub (opTy E x) (tV (.int k a))) (hy : Sub (opTy E y) (tV (.int k' b))) :
    Step1 C ⟨d, .call { callee := .builtin .min, args := #[x, y], argTypes := #[T, U] }, ty, pos, af, g⟩ E L (tV (.int k (if b < a then b else a))) :=
  Step.of_same (by intro c h; cases h) fun a' w h hw f => by
    have h1 : a'.eval x = .int k a := f.get hx
    have h2 : a'.eval y = .int k' b := f.get hy
    refine ⟨.int k (if b < a then b else a), ?_, rfl⟩
    simp [execOp, resolve, invoke, builtin, Builtin.min_, Builtin.min2, h1, h2]
    try split <;> simp_all
/-- s == nil -/
theorem step_eql_slnil {α : Type} {T U e : Nat} {R : Rp α} {x : Operand} {xs : List α} (hu : C.P.underlying T = some (.slice e)) (hx : Sub (opTy E x) (tSl R xs)) :
    Step (X := { b : Bool // b = true → xs = [] }) C ⟨d, .binOp .eql T x (.const (.slice none 0 0)) U, ty, pos, af, g⟩ E L (fun b => tV (.bool b.1)) (fun _ => L) :=
  Step.of_run (by intro c h; cases h) fun a w h m l sp st fr => by
    obtain ⟨ao, cap, hv, H⟩ := fr.get hx
    refine ⟨⟨ao.isNone, fun hb => ?_⟩, .bool ao.isNone, w, h, m, ?_, HL.refl, sp, st, rfl⟩
    · by_cases hne : xs = []
      · exact hne
      · obtain ⟨b, off, rfl, _⟩ := H hne
        cases hb
    · have he : ∀ w, (eqGuard .eql T x (.const (.slice none 0 0)) (a.eval x) (.slice none 0 0)).run C.P w = .ok () w := by intro w; rw [hv]; simp [eqGuard]
      have h2 : a.eval (.const (.slice none 0 0)) = .slice none 0 0 := rfl
      have hr := Lib.run_eql_slice_nil (P := C.P) w T e ao xs.length cap 0 0 hu
      rw [hv] at he
      simp [execOp, hv, h2, Sem.run_bind, he, hr]
end
open Go
section
variable {κ β : Type} [DecidableEq κ]
/-- A map in immutable memory. -/
def tMapI (kv : κ → Value) (R : Rp β) (m : List (κ × β)) : Ty := ⟨fun h v => ∃ m1 : PH, m1.le h ∧ (mapOwn kv R v m).p h m1, fun {h h' v} l ⟨m1, a, b⟩ => ⟨m1, PH.le_trans a l, (mapOwn kv R v m).mono l b⟩⟩
theorem Frz.mapI {kv : κ → Value} {R : Rp β} {v : Value} {m : List (κ × β)} {S : List SP} : Frz (mapOwn kv R v m :: S) (tV v) (tMapI kv R m) := fun h mm u d ⟨m1, m2, d12, em, ho, _⟩ hu => by
  subst em
  have hu : u = v := hu
  subst hu
  have hd := PH.disj_join'.1 d
  exact ⟨m1, fun b o e => PH.le_join_right d _ _ (PH.le_join_left _ _ _ _ e), (mapOwn kv R u m).mono (PH.le_join_left _ _) ho⟩
variable {kv : κ → Value} {R : Rp β}
variable {C : Cx} {E : Env} {L : List SP} {d : Option Nat} {ty : Nat} {pos : String} {af : Array Edge} {g : Option (Nat × Bool)}
theorem step_lookupI_ok {T kt e : Nat} {x y : Operand} {m : List (κ × β)} {q : κ} {z : β} {zv : Value} (K : KeyT C.P kt kv) (hu : C.P.underlying T = some (.map kt e)) (hz : ∀ w, (zeroValue e).run C.P w = .ok zv w) (hzr : ∀ h, (R.ty z).p h zv)
    (hx : Sub (opTy E x) (tMapI kv R m)) (hy : Sub (opTy E y) (tV (kv q))) : Step1 C ⟨d, .lookup T x y true, ty, pos, af, g⟩ E L (tTup [R.ty ((mget m q).getD z), tV (.bool (mget m q).isSome)]) :=
  Step.of_run (by intro c h; cases h) fun a w h mm l sp st fr => by
    obtain ⟨m1, hle, ho⟩ := fr.get hx
    have h2 : a.eval y = kv q := fr.get hy
    obtain ⟨u, hu1, hrun⟩ := run_lookup (P := C.P) K hu hz hzr ho (fun b o e => sp.hw _ _ (hle _ _ e)) q true
    exact ⟨(), _, w, h, _, by simp [execOp, h2, hrun], HL.refl, sp, st, ⟨[u, .bool _], rfl, hu1, rfl, trivial⟩⟩
end
section
variable {C : Cx} {E : Env} {L : List SP} {d : Option Nat} {ty : Nat} {pos : String} {af : Array Edge} {g : Option (Nat × Bool)}
end
open Go Go.Proofs Go.Proofs.Tryz
section
variable {C : Cx} {E : Env} {L : List SP} {d : Option Nat} {ty : Nat} {pos : String} {af : Array Edge} {g : Option (Nat × Bool)}
theorem step_nilCheck {x : Operand} {b o : Nat} (hx : Sub (opTy E x) (tAt b o)) : Step1 C ⟨d, .nilCheck x, ty, pos, af, g⟩ E L (tAt b o) :=
  Step.of_same (by intro c h; cases h) fun a w h hw fr => by
    have hv : a.eval x = .pointer (some ⟨b, o, none⟩) := fr.get hx
    exact ⟨_, by simp [execOp, hv], rfl⟩
theorem step_nilCheckP {α : Type} {R : Rp α} {x : Operand} {y : α} (hx : Sub (opTy E x) (tPtr R y)) : Step1 C ⟨d, .nilCheck x, ty, pos, af, g⟩ E L (tPtr R y) :=
  Step.of_same (by intro c h; cases h) fun a w h hw fr => by
    have hp := fr.get hx
    obtain ⟨b, off, cs, hv, H⟩ := hp
    exact ⟨_, by simp [execOp, hv], ⟨b, off, cs, rfl, H⟩⟩
end
open Go Go.Proofs Go.Proofs.Tryz
section
variable {κ β : Type} [DecidableEq κ] (kv : κ → Value) (R : Rp β)
end
section
variable {κ β : Type} [DecidableEq κ] {kv : κ → Value} {R : Rp β}
variable {C : Cx} {E : Env} {L : List SP} {d : Option Nat} {ty : Nat} {pos : String} {af : Array Edge} {g : Option (Nat × Bool)}
theorem tMapI_iff {h : PH} {v : Value} {m : List (κ × β)} (a : (tMapI kv R m).p h v) : ∃ r es, v = .map (some r) ∧ h r = some (.map (List.toArray es) es.length) ∧ entR kv R h m es 0 := by
  obtain ⟨m1, l, r, es, rfl, rfl, hr⟩ := a
  exact ⟨r, es, rfl, l _ _ (PH.one_same _ _), hr⟩
end
open Go
section
variable {κ α : Type} [DecidableEq κ]
/-- Keys, the rows that are held under them, what these hold. -/
abbrev RowsL (κ α : Type) := List (κ × Value × List α)
variable {e : Nat} {R : Rp α} {L : List SP}
theorem LSub.head {A : SP} {L L' : List SP} (h : LSub L L') : LSub (A :: L) (A :: L') := LSub.cons (Sel.take (Sel.none _)) SPs.rfl h
theorem LSub.swap {A B : SP} {L : List SP} : LSub (A :: B :: L) (B :: A :: L) := LSub.cons (Sel.skip (Sel.take (Sel.none _))) SPs.rfl (LSub.cons (Sel.take (Sel.none _)) SPs.rfl LSub.rfl)
variable {kv : κ → Value}
variable {C : Cx} {E : Env} {d : Option Nat} {ty : Nat} {pos : String} {af : Array Edge} {g : Option (Nat × Bool)}
end
section
variable {κ α : Type} [DecidableEq κ] {kv : κ → Value} {e : Nat} {R : Rp α}
abbrev lists (q : RowsL κ α) : List (κ × List α) := q.map fun t => (t.1, t.2.2)
end
open Go Go.Proofs Go.Proofs.Tryz
section
variable {P : Program} (w : World)
end
section
variable {C : Cx} {E : Env} {L : List SP} {d : Option Nat} {ty : Nat} {pos : String} {af : Array Edge} {g : Option (Nat × Bool)}
end
section
variable {κ β : Type} [DecidableEq κ] {kv : κ → Value} {R : Rp β}
variable {C : Cx} {E : Env} {L : List SP} {d : Option Nat} {ty : Nat} {pos : String} {af : Array Edge} {g : Option (Nat × Bool)}
theorem step_lookupI {T kt e : Nat} {x y : Operand} {m : List (κ × β)} {q : κ} {z : β} {zv : Value} (K : KeyT C.P kt kv) (hu : C.P.underlying T = some (.map kt e)) (hz : ∀ w, (zeroValue e).run C.P w = .ok zv w) (hzr : ∀ h, (R.ty z).p h zv)
    (hx : Sub (opTy E x) (tMapI kv R m)) (hy : Sub (opTy E y) (tV (kv q))) : Step1 C ⟨d, .lookup T x y false, ty, pos, af, g⟩ E L (R.ty ((mget m q).getD z)) :=
  Step.of_run (by intro c h; cases h) fun a w h mm l sp st fr => by
    obtain ⟨m1, hle, ho⟩ := fr.get hx
    have h2 : a.eval y = kv q := fr.get hy
    obtain ⟨u, hu1, hrun⟩ := run_lookup (P := C.P) K hu hz hzr ho (fun b o e => sp.hw _ _ (hle _ _ e)) q false
    exact ⟨(), u, w, h, _, by simp [execOp, h2, hrun], HL.refl, sp, st, hu1⟩
end
open Go
theorem Sr {A : Ty} : Sub A A := Sub.rfl
theorem Sel.h {A : SP} {L : List SP} : Sel (A :: L) [A] L := Sel.take (Sel.none _)
theorem NF : (∀ (p : Prop) [Decidable p], (decide p = true) = p) ∧ (∀ (p : Prop) [Decidable p], (decide p = false) = ¬ p) ∧ (∀ a b : Bool, ((a && b) = true) = (a = true ∧ b = true)) ∧ (∀ a b : Bool, ((a || b) = true) = (a = true ∨ b = true)) ∧ (∀ a b : Bool, ((a && b) = false) = (a = false ∨ b = false)) ∧ (∀ a b : Bool, ((a || b) = false) = (a = false ∧ b = false)) ∧ (∀ b : Bool, ((!b) = true) = (b = false)) ∧ (∀ b : Bool, ((!b) = false) = (b = true)) ∧ (∀ a b : Int, (¬ a < b) = (b ≤ a)) ∧ (∀ a b : Int, (¬ a ≤ b) = (b < a)) ∧ ((!true) = false) ∧ ((!false) = true) :=
  ⟨fun p _ => by simp, fun p _ => by simp, fun a b => by simp, fun a b => by simp, fun a b => propext Bool.and_eq_false_iff, fun a b => by simp, fun b => by simp, fun b => by simp, fun a b => by simp, fun a b => by simp, rfl, rfl⟩
/-- What is owned is found. -/
theorem zS {L S R : List SP} (h : Sel L S R := by repeat first | exact .h | apply Sel.skip) : Sel L S R := h
theorem zO {p : Prop} (h : p := by first | omega | (dsimp only; omega) | (simp_all; omega)) : p := h
theorem zG {p : Prop} (h : p := by omega) : p := h
theorem z6 {x : Int} (h : in64 x := by unfold in64; omega) : in64 x := h
section
variable {C : Cx} {ops : Array Oper} {rest : List Oper} {Q : Exit → Act → World → Prop} {E : Env} {L : List SP} {d ty T : Nat} {pos : String} {af : Array Edge} {x : Operand} {op : Op}
theorem Js {A : Ty} (hN : Nat.blt d C.N = true) (hs : Step1 C ⟨some d, op, ty, pos, af, none⟩ E L A) (hk : JL C ops rest Q (upd E d A) L) : JL C ops (⟨some d, op, ty, pos, af, none⟩ :: rest) Q E L := JL_step rfl rfl hN hs hk
theorem Jm (hN : Nat.blt d C.N = true) (hk : JL C ops rest Q (upd E d (opTy E x)) L) : JL C ops (⟨some d, .move x, ty, pos, af, none⟩ :: rest) Q E L := JL_step rfl rfl hN (step_move Sub.rfl) hk
theorem Ja (hN : Nat.blt d C.N = true) (hk : JL C ops rest Q (upd E d (opTy E x)) L) : JL C ops (⟨some d, .assign x, ty, pos, af, none⟩ :: rest) Q E L := JL_step rfl rfl hN (step_assign Sub.rfl) hk
theorem Jl {α : Type} {R : Rp α} {y : α} (hN : Nat.blt d C.N = true) (hR : TyOf C.P T R) (hx : Sub (opTy E x) (tPtr R y)) (hk : JL C ops rest Q (upd E d (R.ty y)) L) : JL C ops (⟨some d, .load T x, ty, pos, af, none⟩ :: rest) Q E L := JL_step rfl rfl hN (step_load_ptr hR hx) hk
theorem Jr {id : Nat} {y : Code} (h : JL C ops ops.toList (Exit.then (fun a w => y.wpIn (Fw C.ro) 0 C.P Q a w) Q) E L) : J C (.seq (.region id ops false) y) Q E L := J_seq (J_region h)
theorem Jg {A : Ty} {j t : Nat} {b v : Bool} {opg : Op} {tyg : Nat} {posg : String} {afg : Array Edge} {gg : Option (Nat × Bool)} (hj : ops[j]? = some ⟨some t, opg, tyg, posg, afg, gg⟩) (hc : Sub (E t) (tV (.bool v))) (hN : Nat.blt d C.N = true)
    (hs : beqB v b = true → Step1 C ⟨some d, op, ty, pos, af, some (j, b)⟩ E L A) (hk : JL C ops rest Q (upd E d (tW (beqB v b) A)) L) : JL C ops (⟨some d, op, ty, pos, af, some (j, b)⟩ :: rest) Q E L := JL_stepG rfl hj rfl (Gd.plain hc) rfl hN hs hk
theorem Jh {A : Ty} {j t : Nat} {b v w : Bool} {opg : Op} {tyg : Nat} {posg : String} {afg : Array Edge} {gg : Option (Nat × Bool)} (hj : ops[j]? = some ⟨some t, opg, tyg, posg, afg, gg⟩) (hc : Sub (E t) (tW w (tV (.bool v)))) (hN : Nat.blt d C.N = true)
    (hs : (w && beqB v b) = true → Step1 C ⟨some d, op, ty, pos, af, some (j, b)⟩ E L A) (hk : JL C ops rest Q (upd E d (tW (w && beqB v b) A)) L) : JL C ops (⟨some d, op, ty, pos, af, some (j, b)⟩ :: rest) Q E L := JL_stepG rfl hj rfl (Gd.nest hc) rfl hN hs hk
theorem Jx {X : Type} {A : X → Ty} {L' : X → List SP} (hN : Nat.blt d C.N = true) (hs : Step C ⟨some d, op, ty, pos, af, none⟩ E L A L') (hk : ∀ x, JL C ops rest Q (upd E d (A x)) (L' x)) : JL C ops (⟨some d, op, ty, pos, af, none⟩ :: rest) Q E L := JL_stepX rfl rfl hN hs hk
theorem Ju {X : Type} {A : X → Ty} {L' : X → List SP} (hs : Step C ⟨none, op, ty, pos, af, none⟩ E L A L') (hk : ∀ x, JL C ops rest Q E (L' x)) : JL C ops (⟨none, op, ty, pos, af, none⟩ :: rest) Q E L := JL_stepU rfl rfl hs hk
theorem SubE.u {E E' : Env} {t : Nat} (h : SubE E E') : SubE E (Lg.upd E' t (E t)) := SubE.upd Sub.rfl h
theorem zU {E E' : Env} (h : SubE E E' := by (repeat refine SubE.upd Sub.rfl ?_); exact SubE.any) : SubE E E' := h
theorem Jk {A : Ty} {j t : Nat} {b v : Bool} {opg : Op} {tyg : Nat} {posg : String} {afg : Array Edge} {gg : Option (Nat × Bool)} (hj : ops[j]? = some ⟨some t, opg, tyg, posg, afg, gg⟩) (hc : Sub (E t) (tV (.bool v))) (hN : Nat.blt d C.N = true)
    (hs : Step1 C ⟨some d, op, ty, pos, af, some (j, b)⟩ E L A) (hk : JL C ops rest Q (upd E d (tW (beqB v b) A)) L) : JL C ops (⟨some d, op, ty, pos, af, some (j, b)⟩ :: rest) Q E L := Jg hj hc hN (fun _ => hs) hk
theorem Ji {A : Ty} {j t : Nat} {b v w : Bool} {opg : Op} {tyg : Nat} {posg : String} {afg : Array Edge} {gg : Option (Nat × Bool)} (hj : ops[j]? = some ⟨some t, opg, tyg, posg, afg, gg⟩) (hc : Sub (E t) (tW w (tV (.bool v)))) (hN : Nat.blt d C.N = true)
    (hs : Step1 C ⟨some d, op, ty, pos, af, some (j, b)⟩ E L A) (hk : JL C ops rest Q (upd E d (tW (w && beqB v b) A)) L) : JL C ops (⟨some d, op, ty, pos, af, some (j, b)⟩ :: rest) Q E L := Jh hj hc hN (fun _ => hs) hk
end
/-- What is owned is what is asked for, in another order. -/
theorem zL {L M : List SP} (h : LSub L M := by repeat first | exact LSub.nil | refine LSub.cons (by repeat first | exact .h | apply Sel.skip) SPs.rfl ?_) : LSub L M := h
theorem LSub.c {A B : SP} {L R M : List SP} (s : Sel L [A] R) (h : SPs A B) (k : LSub R M) : LSub L (B :: M) := LSub.cons s h k
theorem LSub.r {A : SP} {L R M : List SP} (s : Sel L [A] R) (k : LSub R M) : LSub L (A :: M) := LSub.cons s SPs.rfl k
section
variable {C : Cx} {ops : Array Oper} {k : Env → List SP → Prop} {its : List It} {E : Env} {L : List SP} {i d ty : Nat} {ts : List Nat} {op : Op} {x : Operand} {pos : String} {af : Array Edge}
theorem Mf {A : Ty} (ho : ops.toList[i]? = some ⟨some d, op, ty, pos, af, none⟩) (hN : Nat.blt d C.N = true) (hs : ∀ {L}, Step1 C ⟨some d, op, ty, pos, af, none⟩ (restr ts E) L A) (hk : JM C ops k its (upd E d A) L) : JM C ops k (⟨i, ts, true⟩ :: its) E L := JM_step ho rfl rfl hN (fun _ => hs) hk
theorem Mv (ho : ops.toList[i]? = some ⟨some d, .move x, ty, pos, af, none⟩) (hN : Nat.blt d C.N = true) (hk : JM C ops k its (upd E d (opTy (restr ts E) x)) L) : JM C ops k (⟨i, ts, true⟩ :: its) E L := JM_step ho rfl rfl hN (fun _ => step_move Sub.rfl) hk
theorem Mg {A : Ty} {j t : Nat} {b v : Bool} {opg : Op} {tyg : Nat} {posg : String} {afg : Array Edge} {gg : Option (Nat × Bool)} (ho : ops.toList[i]? = some ⟨some d, op, ty, pos, af, some (j, b)⟩) (hj : ops.toList[j]? = some ⟨some t, opg, tyg, posg, afg, gg⟩) (hc : Sub (restr ts E t) (tV (.bool v))) (hN : Nat.blt d C.N = true)
    (hs : beqB v b = true → ∀ {L}, Step1 C ⟨some d, op, ty, pos, af, some (j, b)⟩ (restr ts E) L A) (hk : JM C ops k its (upd E d (tW (beqB v b) A)) L) : JM C ops k (⟨i, ts, true⟩ :: its) E L := JM_stepG ho rfl hj rfl (Gd.plain hc) rfl hN (fun h _ => hs h) hk
theorem Mk {A : Ty} {j t : Nat} {b v : Bool} {opg : Op} {tyg : Nat} {posg : String} {afg : Array Edge} {gg : Option (Nat × Bool)} (ho : ops.toList[i]? = some ⟨some d, op, ty, pos, af, some (j, b)⟩) (hj : ops.toList[j]? = some ⟨some t, opg, tyg, posg, afg, gg⟩) (hc : Sub (restr ts E t) (tV (.bool v))) (hN : Nat.blt d C.N = true)
    (hs : ∀ {L}, Step1 C ⟨some d, op, ty, pos, af, some (j, b)⟩ (restr ts E) L A) (hk : JM C ops k its (upd E d (tW (beqB v b) A)) L) : JM C ops k (⟨i, ts, true⟩ :: its) E L := Mg ho hj hc hN (fun _ => hs) hk
end
open Go
inductive GPl (A T : Type) where
  | mk (Kind Table : Int) (Kids : List (GPl A T)) (Tests : List T) (Cols : List Int) (Col Agg : Int) (Attrs : List A)
namespace GPl
variable {A T : Type}
def Kind : GPl A T → Int | mk k _ _ _ _ _ _ _ => k
def Table : GPl A T → Int | mk _ t _ _ _ _ _ _ => t
def Kids : GPl A T → List (GPl A T) | mk _ _ k _ _ _ _ _ => k
def Tests : GPl A T → List T | mk _ _ _ t _ _ _ _ => t
def Cols : GPl A T → List Int | mk _ _ _ _ c _ _ _ => c
def Col : GPl A T → Int | mk _ _ _ _ _ c _ _ => c
def Agg : GPl A T → Int | mk _ _ _ _ _ _ a _ => a
def Attrs : GPl A T → List A | mk _ _ _ _ _ _ _ a => a
def zero : GPl A T := mk 0 0 [] [] [] 0 0 []
instance : Inhabited (GPl A T) := ⟨zero⟩
end GPl
/-- Nothing is represented. -/
def rBot (α : Type) (k : Nat) : Rp α where
  k := k
  agg := true
  rel := fun _ _ _ => False
  ty := fun _ => ⟨fun _ _ => False, fun _ e => e⟩
  len := fun h => h.elim
  one := fun h => h.elim
  mono := fun _ h => h
  scalar := fun e => by cases e
  iff := ⟨fun h => h.elim, fun ⟨_, h, _⟩ => h⟩
/-- The numbers of the types of a plan's fields. -/
structure PlT where
  int : Nat
  kids : Nat
  tests : Nat
  ints : Nat
  attrs : Nat
section
variable {A T : Type} (c : PlT) (RA : Rp A) (RT : Rp T)
def fsPl (R : Rp (GPl A T)) : List (SF (GPl A T)) := [⟨Int, c.int, rInt, GPl.Kind⟩, ⟨Int, c.int, rInt, GPl.Table⟩, ⟨List (GPl A T), c.kids, rSl R, GPl.Kids⟩, ⟨List T, c.tests, rSl RT, GPl.Tests⟩, ⟨List Int, c.ints, rSl rInt, GPl.Cols⟩, ⟨Int, c.int, rInt, GPl.Col⟩, ⟨Int, c.int, rInt, GPl.Agg⟩, ⟨List A, c.attrs, rSl RA, GPl.Attrs⟩]
def rPl : Nat → Rp (GPl A T)
  | 0 => rBot _ 8
  | n + 1 => rStruct (fsPl c RA RT (rPl n))
theorem rPl_k : ∀ n, (rPl c RA RT n).k = 8
  | 0 => rfl
  | _ + 1 => rfl
theorem rPl_agg : ∀ n, (rPl c RA RT n).agg = true
  | 0 => rfl
  | _ + 1 => rfl
theorem rPl_ty {P : Program} {t : Nat} (ha : ∀ w, (isAgg t).run P w = .ok true w) (hs : ∀ w, (Go.sizeOf t).run P w = .ok 8 w) (n : Nat) : TyOf P t (rPl c RA RT n) :=
  ⟨fun w => by rw [rPl_agg]; exact ha w, fun w => by rw [rPl_k]; exact hs w⟩
theorem tSl_up {α : Type} {R R' : Rp α} (hk : R.k = R'.k) (hr : ∀ {h x cs}, R.rel h x cs → R'.rel h x cs) {h : PH} {xs : List α} {v : Value} (hv : (tSl R xs).p h v) : (tSl R' xs).p h v := by
  obtain ⟨ao, cap, e, H⟩ := hv
  refine ⟨ao, cap, e, fun hn => ?_⟩
  obtain ⟨b, off, ea, H2⟩ := H hn
  refine ⟨b, off, ea, fun i x hx => ?_⟩
  obtain ⟨cs, H1, r⟩ := H2 i x hx
  exact ⟨cs, by rw [← hk]; exact H1, hr r⟩
theorem rPl_up : ∀ (n : Nat) {h : PH} {x : GPl A T} {cs : List Value}, (rPl c RA RT n).rel h x cs → (rPl c RA RT (n + 1)).rel h x cs
  | 0, _, _, _, r => r.elim
  | n + 1, h, x, cs, r => by
    obtain ⟨c0, _, rfl, r0, c1, _, rfl, r1, c2, _, rfl, r2, rest⟩ := (show SF.rel h x (fsPl c RA RT (rPl c RA RT n)) cs from r)
    refine ⟨c0, _, rfl, r0, c1, _, rfl, r1, c2, _, rfl, ?_, rest⟩
    obtain ⟨v, e, hv⟩ := r2
    exact ⟨v, e, tSl_up ((rPl_k c RA RT n).trans (rPl_k c RA RT (n + 1)).symm) (fun q => rPl_up n q) hv⟩
theorem rPl_le {m n : Nat} (hmn : m ≤ n) {h : PH} {x : GPl A T} {cs : List Value} (r : (rPl c RA RT m).rel h x cs) : (rPl c RA RT n).rel h x cs := by
  induction n with
  | zero => obtain rfl : m = 0 := (by omega); exact r
  | succ n ih =>
    rcases Nat.lt_or_ge m (n + 1) with h1 | h1
    · exact rPl_up c RA RT n (ih (by omega))
    · obtain rfl : m = n + 1 := (by omega); exact r
/-- A plan of some depth has kids of a smaller one. -/
theorem rPl_pos {n : Nat} {h : PH} {x : GPl A T} {cs : List Value} (r : (rPl c RA RT n).rel h x cs) : ∃ m, n = m + 1 := by
  cases n with
  | zero => exact r.elim
  | succ m => exact ⟨m, rfl⟩
end
open Go
section
variable {H : Type} {enc : TypeId × Value → H} {P : Program} {W : World}
/-- A struct is read with a fuel. -/
theorem st_rd {α : Type} {t : Nat} {fs : List (SF α)} (S : StructOf P t fs) {fuel : Nat} {cs : List Value} {x : DataW H × List MemPlace} (h : DataW.trod enc P W 0 (fun _ => true) true fuel t cs = some x) :
    ∃ n, fuel = n + 1 ∧ cs.length = SF.width fs ∧ ∀ (i : Nat) (f : SF α), fs[i]? = some f → ∃ z, DataW.trod enc P W 0 (fun _ => true) true n f.T ((cs.drop (SF.off fs i)).take f.R.k) = some z := by
  obtain ⟨fls, hu, hl⟩ := S.lays
  obtain ⟨xs, n, hn, _, hlen, hxs, hf⟩ := DataW.trod_struct hu h
  refine ⟨n, hn, hlen.trans (S.ty.cells W), fun i f hi => ?_⟩
  obtain ⟨fl, h1, h2, h3, h4, _⟩ := hl.get hi
  have h1' : fls[i]? = some fl := by simpa using h1
  have h5 := hf i fl h1'
  have hlt : i < xs.length := by rw [hxs]; exact (Array.getElem?_eq_some_iff.1 h1').1
  rw [List.getElem?_eq_getElem hlt, h2, h3, h4.cells W, Nat.zero_add] at h5
  exact ⟨_, h5⟩
end
open Go Go.Proofs Go.Proofs.Tryz
theorem ty3 : TyOf Tryz.prog 3 rInt := ⟨fun w => Tryz.isAgg3 w, fun w => Tryz.sizeOf3 w⟩
theorem zr3 : ∀ h, (rInt.ty 0).p h (Value.int .i64 0) := fun _ => rfl
theorem el3 : ElT Tryz.prog 3 rInt 8 0 := ⟨ty3, by decide, Tryz.t3, (Value.int .i64 0), by kernel_rfl, by kernel_rfl, by kernel_rfl, by kernel_rfl, zr3⟩
theorem ty9 : TyOf Tryz.prog 9 rStr := ⟨fun w => Tryz.isAgg9 w, fun w => Tryz.sizeOf9 w⟩
theorem zr9 : ∀ h, (rStr.ty ⟨#[]⟩).p h (Value.string ⟨#[]⟩) := fun _ => rfl
theorem el9 : ElT Tryz.prog 9 rStr 16 ⟨#[]⟩ := ⟨ty9, by decide, Tryz.t9, (Value.string ⟨#[]⟩), by kernel_rfl, by kernel_rfl, by kernel_rfl, by kernel_rfl, zr9⟩
structure GValue where
  Kind : Int
  N : Int
  Text : ByteArray
def zValue : GValue := { Kind := 0, N := 0, Text := ⟨#[]⟩ }
instance : Inhabited GValue := ⟨zValue⟩
def fsValue : List (SF GValue) := [⟨Int, 3, rInt, GValue.Kind⟩, ⟨Int, 3, rInt, GValue.N⟩, ⟨ByteArray, 9, rStr, GValue.Text⟩]
abbrev rValue : Rp GValue := rStruct fsValue
theorem ty87 : TyOf Tryz.prog 87 rValue := ⟨fun w => Tryz.isAgg87 w, fun w => Tryz.sizeOf87 w⟩
theorem so87 : StructOf Tryz.prog 87 fsValue := ⟨⟨_, Tryz.underlying87, ⟨rfl, rfl, ty3, by decide, ⟨rfl, rfl, ty3, by decide, ⟨rfl, rfl, ty9, by decide, trivial⟩⟩⟩⟩, ty87⟩
theorem zr87 : ∀ h, (rValue.ty zValue).p h (.agg #[Value.int .i64 0, Value.int .i64 0, Value.string ⟨#[]⟩]) := fun _ => ⟨_, ⟨[Value.int .i64 0], _, rfl, rfl, ⟨[Value.int .i64 0], _, rfl, rfl, ⟨[Value.string ⟨#[]⟩], _, rfl, rfl, rfl⟩⟩⟩, rfl⟩
theorem el87 : ElT Tryz.prog 87 rValue 32 zValue := ⟨ty87, by decide, Tryz.t87, (.agg #[Value.int .i64 0, Value.int .i64 0, Value.string ⟨#[]⟩]), by kernel_rfl, by kernel_rfl, by kernel_rfl, by kernel_rfl, zr87⟩
theorem ty22 : TyOf Tryz.prog 22 (rSl rValue) := ⟨fun w => Tryz.isAgg22 w, fun w => Tryz.sizeOf22 w⟩
theorem zr22 : ∀ h, ((rSl rValue).ty []).p h (Value.slice none 0 0) := fun _ => ⟨none, ⟨0, Nat.le_refl _⟩, rfl, fun q => absurd rfl q⟩
theorem el22 : ElT Tryz.prog 22 (rSl rValue) 24 [] := ⟨ty22, by decide, Tryz.t22, (Value.slice none 0 0), by kernel_rfl, by kernel_rfl, by kernel_rfl, by kernel_rfl, zr22⟩
theorem ty73 : TyOf Tryz.prog 73 (rSl (rSl rValue)) := ⟨fun w => Tryz.isAgg73 w, fun w => Tryz.sizeOf73 w⟩
theorem ty73V : TyOf Tryz.prog 73 rV := ⟨fun w => Tryz.isAgg73 w, fun w => Tryz.sizeOf73 w⟩
theorem zr73 : ∀ h, ((rSl (rSl rValue)).ty []).p h (Value.slice none 0 0) := fun _ => ⟨none, ⟨0, Nat.le_refl _⟩, rfl, fun q => absurd rfl q⟩
theorem el73 : ElT Tryz.prog 73 (rSl (rSl rValue)) 24 [] := ⟨ty73, by decide, Tryz.t73, (Value.slice none 0 0), by kernel_rfl, by kernel_rfl, by kernel_rfl, by kernel_rfl, zr73⟩
theorem ty61 : TyOf Tryz.prog 61 (rSl (rSl (rSl rValue))) := ⟨fun w => Tryz.isAgg61 w, fun w => Tryz.sizeOf61 w⟩
theorem ty36 : TyOf Tryz.prog 36 (rSl rInt) := ⟨fun w => Tryz.isAgg36 w, fun w => Tryz.sizeOf36 w⟩
theorem ty36V : TyOf Tryz.prog 36 rV := ⟨fun w => Tryz.isAgg36 w, fun w => Tryz.sizeOf36 w⟩
theorem zr36 : ∀ h, ((rSl rInt).ty []).p h (Value.slice none 0 0) := fun _ => ⟨none, ⟨0, Nat.le_refl _⟩, rfl, fun q => absurd rfl q⟩
theorem el36 : ElT Tryz.prog 36 (rSl rInt) 24 [] := ⟨ty36, by decide, Tryz.t36, (Value.slice none 0 0), by kernel_rfl, by kernel_rfl, by kernel_rfl, by kernel_rfl, zr36⟩
theorem ty58 : TyOf Tryz.prog 58 (rSl (rSl rInt)) := ⟨fun w => Tryz.isAgg58 w, fun w => Tryz.sizeOf58 w⟩
structure GAtom where
  Table : Int
  Cols : List Int
  Terms : List Int
  Key : Int
def zAtom : GAtom := { Table := 0, Cols := [], Terms := [], Key := 0 }
instance : Inhabited GAtom := ⟨zAtom⟩
def fsAtom : List (SF GAtom) := [⟨Int, 3, rInt, GAtom.Table⟩, ⟨List Int, 36, (rSl rInt), GAtom.Cols⟩, ⟨List Int, 36, (rSl rInt), GAtom.Terms⟩, ⟨Int, 3, rInt, GAtom.Key⟩]
abbrev rAtom : Rp GAtom := rStruct fsAtom
theorem ty38 : TyOf Tryz.prog 38 rAtom := ⟨fun w => Tryz.isAgg38 w, fun w => Tryz.sizeOf38 w⟩
theorem so38 : StructOf Tryz.prog 38 fsAtom := ⟨⟨_, Tryz.underlying38, ⟨rfl, rfl, ty3, by decide, ⟨rfl, rfl, ty36, by decide, ⟨rfl, rfl, ty36, by decide, ⟨rfl, rfl, ty3, by decide, trivial⟩⟩⟩⟩⟩, ty38⟩
theorem ty23 : TyOf Tryz.prog 23 (rSl rAtom) := ⟨fun w => Tryz.isAgg23 w, fun w => Tryz.sizeOf23 w⟩
structure GConj where
  Vars : Int
  Consts : List GValue
  Atoms : List GAtom
def zConj : GConj := { Vars := 0, Consts := [], Atoms := [] }
instance : Inhabited GConj := ⟨zConj⟩
def fsConj : List (SF GConj) := [⟨Int, 3, rInt, GConj.Vars⟩, ⟨List GValue, 22, (rSl rValue), GConj.Consts⟩, ⟨List GAtom, 23, (rSl rAtom), GConj.Atoms⟩]
abbrev rConj : Rp GConj := rStruct fsConj
theorem ty25 : TyOf Tryz.prog 25 rConj := ⟨fun w => Tryz.isAgg25 w, fun w => Tryz.sizeOf25 w⟩
theorem so25 : StructOf Tryz.prog 25 fsConj := ⟨⟨_, Tryz.underlying25, ⟨rfl, rfl, ty3, by decide, ⟨rfl, rfl, ty22, by decide, ⟨rfl, rfl, ty23, by decide, trivial⟩⟩⟩⟩, ty25⟩
structure GSide where
  Var : Int
  Col : Int
  Value : GValue
def zSide : GSide := { Var := 0, Col := 0, Value := zValue }
instance : Inhabited GSide := ⟨zSide⟩
def fsSide : List (SF GSide) := [⟨Int, 3, rInt, GSide.Var⟩, ⟨Int, 3, rInt, GSide.Col⟩, ⟨GValue, 87, rValue, GSide.Value⟩]
abbrev rSide : Rp GSide := rStruct fsSide
theorem ty91 : TyOf Tryz.prog 91 rSide := ⟨fun w => Tryz.isAgg91 w, fun w => Tryz.sizeOf91 w⟩
theorem so91 : StructOf Tryz.prog 91 fsSide := ⟨⟨_, Tryz.underlying91, ⟨rfl, rfl, ty3, by decide, ⟨rfl, rfl, ty3, by decide, ⟨rfl, rfl, ty87, by decide, trivial⟩⟩⟩⟩, ty91⟩
theorem zr91 : ∀ h, (rSide.ty zSide).p h (.agg #[Value.int .i64 0, Value.int .i64 0, Value.int .i64 0, Value.int .i64 0, Value.string ⟨#[]⟩]) := fun _ => ⟨_, ⟨[Value.int .i64 0], _, rfl, rfl, ⟨[Value.int .i64 0], _, rfl, rfl, ⟨[Value.int .i64 0, Value.int .i64 0, Value.string ⟨#[]⟩], _, rfl, ⟨[Value.int .i64 0], _, rfl, rfl, ⟨[Value.int .i64 0], _, rfl, rfl, ⟨[Value.string ⟨#[]⟩], _, rfl, rfl, rfl⟩⟩⟩, rfl⟩⟩⟩, rfl⟩
theorem el91 : ElT Tryz.prog 91 rSide 48 zSide := ⟨ty91, by decide, Tryz.t91, (.agg #[Value.int .i64 0, Value.int .i64 0, Value.int .i64 0, Value.int .i64 0, Value.string ⟨#[]⟩]), by kernel_rfl, by kernel_rfl, by kernel_rfl, by kernel_rfl, zr91⟩
structure GTest where
  Left : GSide
  Op : Int
  Right : GSide
  Add : Int
def zTest : GTest := { Left := zSide, Op := 0, Right := zSide, Add := 0 }
instance : Inhabited GTest := ⟨zTest⟩
def fsTest : List (SF GTest) := [⟨GSide, 91, rSide, GTest.Left⟩, ⟨Int, 3, rInt, GTest.Op⟩, ⟨GSide, 91, rSide, GTest.Right⟩, ⟨Int, 3, rInt, GTest.Add⟩]
abbrev rTest : Rp GTest := rStruct fsTest
theorem ty93 : TyOf Tryz.prog 93 rTest := ⟨fun w => Tryz.isAgg93 w, fun w => Tryz.sizeOf93 w⟩
theorem so93 : StructOf Tryz.prog 93 fsTest := ⟨⟨_, Tryz.underlying93, ⟨rfl, rfl, ty91, by decide, ⟨rfl, rfl, ty3, by decide, ⟨rfl, rfl, ty91, by decide, ⟨rfl, rfl, ty3, by decide, trivial⟩⟩⟩⟩⟩, ty93⟩
theorem zr93 : ∀ h, (rTest.ty zTest).p h (.agg #[Value.int .i64 0, Value.int .i64 0, Value.int .i64 0, Value.int .i64 0, Value.string ⟨#[]⟩, Value.int .i64 0, Value.int .i64 0, Value.int .i64 0, Value.int .i64 0, Value.int .i64 0, Value.string ⟨#[]⟩, Value.int .i64 0]) := fun _ => ⟨_, ⟨[Value.int .i64 0, Value.int .i64 0, Value.int .i64 0, Value.int .i64 0, Value.string ⟨#[]⟩], _, rfl, ⟨[Value.int .i64 0], _, rfl, rfl, ⟨[Value.int .i64 0], _, rfl, rfl, ⟨[Value.int .i64 0, Value.int .i64 0, Value.string ⟨#[]⟩], _, rfl, ⟨[Value.int .i64 0], _, rfl, rfl, ⟨[Value.int .i64 0], _, rfl, rfl, ⟨[Value.string ⟨#[]⟩], _, rfl, rfl, rfl⟩⟩⟩, rfl⟩⟩⟩, ⟨[Value.int .i64 0], _, rfl, rfl, ⟨[Value.int .i64 0, Value.int .i64 0, Value.int .i64 0, Value.int .i64 0, Value.string ⟨#[]⟩], _, rfl, ⟨[Value.int .i64 0], _, rfl, rfl, ⟨[Value.int .i64 0], _, rfl, rfl, ⟨[Value.int .i64 0, Value.int .i64 0, Value.string ⟨#[]⟩], _, rfl, ⟨[Value.int .i64 0], _, rfl, rfl, ⟨[Value.int .i64 0], _, rfl, rfl, ⟨[Value.string ⟨#[]⟩], _, rfl, rfl, rfl⟩⟩⟩, rfl⟩⟩⟩, ⟨[Value.int .i64 0], _, rfl, rfl, rfl⟩⟩⟩⟩, rfl⟩
theorem el93 : ElT Tryz.prog 93 rTest 112 zTest := ⟨ty93, by decide, Tryz.t93, (.agg #[Value.int .i64 0, Value.int .i64 0, Value.int .i64 0, Value.int .i64 0, Value.string ⟨#[]⟩, Value.int .i64 0, Value.int .i64 0, Value.int .i64 0, Value.int .i64 0, Value.int .i64 0, Value.string ⟨#[]⟩, Value.int .i64 0]), by kernel_rfl, by kernel_rfl, by kernel_rfl, by kernel_rfl, zr93⟩
theorem ty43 : TyOf Tryz.prog 43 (rSl rTest) := ⟨fun w => Tryz.isAgg43 w, fun w => Tryz.sizeOf43 w⟩
theorem zr43 : ∀ h, ((rSl rTest).ty []).p h (Value.slice none 0 0) := fun _ => ⟨none, ⟨0, Nat.le_refl _⟩, rfl, fun q => absurd rfl q⟩
theorem el43 : ElT Tryz.prog 43 (rSl rTest) 24 [] := ⟨ty43, by decide, Tryz.t43, (Value.slice none 0 0), by kernel_rfl, by kernel_rfl, by kernel_rfl, by kernel_rfl, zr43⟩
theorem ty85 : TyOf Tryz.prog 85 (rSl rStr) := ⟨fun w => Tryz.isAgg85 w, fun w => Tryz.sizeOf85 w⟩
structure GAttr where
  Name : ByteArray
  Kind : Int
  Was : List ByteArray
  Default : GValue
def zAttr : GAttr := { Name := ⟨#[]⟩, Kind := 0, Was := [], Default := zValue }
instance : Inhabited GAttr := ⟨zAttr⟩
def fsAttr : List (SF GAttr) := [⟨ByteArray, 9, rStr, GAttr.Name⟩, ⟨Int, 3, rInt, GAttr.Kind⟩, ⟨List ByteArray, 85, (rSl rStr), GAttr.Was⟩, ⟨GValue, 87, rValue, GAttr.Default⟩]
abbrev rAttr : Rp GAttr := rStruct fsAttr
theorem ty89 : TyOf Tryz.prog 89 rAttr := ⟨fun w => Tryz.isAgg89 w, fun w => Tryz.sizeOf89 w⟩
theorem so89 : StructOf Tryz.prog 89 fsAttr := ⟨⟨_, Tryz.underlying89, ⟨rfl, rfl, ty9, by decide, ⟨rfl, rfl, ty3, by decide, ⟨rfl, rfl, ty85, by decide, ⟨rfl, rfl, ty87, by decide, trivial⟩⟩⟩⟩⟩, ty89⟩
theorem zr89 : ∀ h, (rAttr.ty zAttr).p h (.agg #[Value.string ⟨#[]⟩, Value.int .i64 0, Value.slice none 0 0, Value.int .i64 0, Value.int .i64 0, Value.string ⟨#[]⟩]) := fun _ => ⟨_, ⟨[Value.string ⟨#[]⟩], _, rfl, rfl, ⟨[Value.int .i64 0], _, rfl, rfl, ⟨[Value.slice none 0 0], _, rfl, ⟨_, rfl, none, ⟨0, Nat.le_refl _⟩, rfl, fun q => absurd rfl q⟩, ⟨[Value.int .i64 0, Value.int .i64 0, Value.string ⟨#[]⟩], _, rfl, ⟨[Value.int .i64 0], _, rfl, rfl, ⟨[Value.int .i64 0], _, rfl, rfl, ⟨[Value.string ⟨#[]⟩], _, rfl, rfl, rfl⟩⟩⟩, rfl⟩⟩⟩⟩, rfl⟩
theorem el89 : ElT Tryz.prog 89 rAttr 80 zAttr := ⟨ty89, by decide, Tryz.t89, (.agg #[Value.string ⟨#[]⟩, Value.int .i64 0, Value.slice none 0 0, Value.int .i64 0, Value.int .i64 0, Value.string ⟨#[]⟩]), by kernel_rfl, by kernel_rfl, by kernel_rfl, by kernel_rfl, zr89⟩
theorem ty44 : TyOf Tryz.prog 44 (rSl rAttr) := ⟨fun w => Tryz.isAgg44 w, fun w => Tryz.sizeOf44 w⟩
theorem zr44 : ∀ h, ((rSl rAttr).ty []).p h (Value.slice none 0 0) := fun _ => ⟨none, ⟨0, Nat.le_refl _⟩, rfl, fun q => absurd rfl q⟩
structure GTable where
  Name : ByteArray
  Attrs : List GAttr
  Key : List Int
def zTable : GTable := { Name := ⟨#[]⟩, Attrs := [], Key := [] }
instance : Inhabited GTable := ⟨zTable⟩
def fsTable : List (SF GTable) := [⟨ByteArray, 9, rStr, GTable.Name⟩, ⟨List GAttr, 44, (rSl rAttr), GTable.Attrs⟩, ⟨List Int, 36, (rSl rInt), GTable.Key⟩]
abbrev rTable : Rp GTable := rStruct fsTable
theorem ty76 : TyOf Tryz.prog 76 rTable := ⟨fun w => Tryz.isAgg76 w, fun w => Tryz.sizeOf76 w⟩
theorem so76 : StructOf Tryz.prog 76 fsTable := ⟨⟨_, Tryz.underlying76, ⟨rfl, rfl, ty9, by decide, ⟨rfl, rfl, ty44, by decide, ⟨rfl, rfl, ty36, by decide, trivial⟩⟩⟩⟩, ty76⟩
theorem zr76 : ∀ h, (rTable.ty zTable).p h (.agg #[Value.string ⟨#[]⟩, Value.slice none 0 0, Value.slice none 0 0]) := fun _ => ⟨_, ⟨[Value.string ⟨#[]⟩], _, rfl, rfl, ⟨[Value.slice none 0 0], _, rfl, ⟨_, rfl, none, ⟨0, Nat.le_refl _⟩, rfl, fun q => absurd rfl q⟩, ⟨[Value.slice none 0 0], _, rfl, ⟨_, rfl, none, ⟨0, Nat.le_refl _⟩, rfl, fun q => absurd rfl q⟩, rfl⟩⟩⟩, rfl⟩
theorem el76 : ElT Tryz.prog 76 rTable 64 zTable := ⟨ty76, by decide, Tryz.t76, (.agg #[Value.string ⟨#[]⟩, Value.slice none 0 0, Value.slice none 0 0]), by kernel_rfl, by kernel_rfl, by kernel_rfl, by kernel_rfl, zr76⟩
theorem ty39 : TyOf Tryz.prog 39 (rSl rTable) := ⟨fun w => Tryz.isAgg39 w, fun w => Tryz.sizeOf39 w⟩
structure GSchema where
  Tables : List GTable
def zSchema : GSchema := { Tables := [] }
instance : Inhabited GSchema := ⟨zSchema⟩
def fsSchema : List (SF GSchema) := [⟨List GTable, 39, (rSl rTable), GSchema.Tables⟩]
abbrev rSchema : Rp GSchema := rStruct fsSchema
theorem ty41 : TyOf Tryz.prog 41 rSchema := ⟨fun w => Tryz.isAgg41 w, fun w => Tryz.sizeOf41 w⟩
theorem so41 : StructOf Tryz.prog 41 fsSchema := ⟨⟨_, Tryz.underlying41, ⟨rfl, rfl, ty39, by decide, trivial⟩⟩, ty41⟩
theorem zr41 : ∀ h, (rSchema.ty zSchema).p h (.agg #[Value.slice none 0 0]) := fun _ => ⟨_, ⟨[Value.slice none 0 0], _, rfl, ⟨_, rfl, none, ⟨0, Nat.le_refl _⟩, rfl, fun q => absurd rfl q⟩, rfl⟩, rfl⟩
/-- Plans of a depth. -/
abbrev GPlan : Type := GPl GAttr GTest
def cPl : PlT := ⟨3, 42, 43, 36, 44⟩
abbrev rPlan (n : Nat) : Rp GPlan := rPl cPl rAttr rTest n
theorem ty46 {n : Nat} : TyOf Tryz.prog 46 (rPlan n) := rPl_ty cPl rAttr rTest (fun w => Tryz.isAgg46 w) (fun w => Tryz.sizeOf46 w) n
theorem ty42 {n : Nat} : TyOf Tryz.prog 42 (rSl (rPlan n)) := ⟨fun w => Tryz.isAgg42 w, fun w => Tryz.sizeOf42 w⟩
theorem ty42V : TyOf Tryz.prog 42 rV := ⟨fun w => Tryz.isAgg42 w, fun w => Tryz.sizeOf42 w⟩
theorem so46 {n : Nat} : StructOf Tryz.prog 46 (fsPl cPl rAttr rTest (rPlan n)) := ⟨⟨_, Tryz.underlying46, ⟨rfl, rfl, ty3, by decide, ⟨rfl, rfl, ty3, by decide, ⟨rfl, rfl, ty42, (by show (1 : Nat) ≠ 0; decide), ⟨rfl, rfl, ty43, by decide, ⟨rfl, rfl, ty36, by decide, ⟨rfl, rfl, ty3, by decide, ⟨rfl, rfl, ty3, by decide, ⟨rfl, rfl, ty44, by decide, trivial⟩⟩⟩⟩⟩⟩⟩⟩⟩, ty46 (n := n + 1)⟩
theorem zr46 {n : Nat} : ∀ h, ((rPlan (n + 1)).ty GPl.zero).p h (.agg #[Value.int .i64 0, Value.int .i64 0, Value.slice none 0 0, Value.slice none 0 0, Value.slice none 0 0, Value.int .i64 0, Value.int .i64 0, Value.slice none 0 0]) := fun _ => ⟨_, ⟨[Value.int .i64 0], _, rfl, rfl, ⟨[Value.int .i64 0], _, rfl, rfl, ⟨[Value.slice none 0 0], _, rfl, ⟨_, rfl, none, ⟨0, Nat.le_refl _⟩, rfl, fun q => absurd rfl q⟩, ⟨[Value.slice none 0 0], _, rfl, ⟨_, rfl, none, ⟨0, Nat.le_refl _⟩, rfl, fun q => absurd rfl q⟩, ⟨[Value.slice none 0 0], _, rfl, ⟨_, rfl, none, ⟨0, Nat.le_refl _⟩, rfl, fun q => absurd rfl q⟩, ⟨[Value.int .i64 0], _, rfl, rfl, ⟨[Value.int .i64 0], _, rfl, rfl, ⟨[Value.slice none 0 0], _, rfl, ⟨_, rfl, none, ⟨0, Nat.le_refl _⟩, rfl, fun q => absurd rfl q⟩, rfl⟩⟩⟩⟩⟩⟩⟩⟩, rfl⟩
theorem el46 {n : Nat} : ElT Tryz.prog 46 (rPlan (n + 1)) 128 GPl.zero := ⟨ty46, (by rw [rPl_k]; decide), Tryz.t46, (.agg #[Value.int .i64 0, Value.int .i64 0, Value.slice none 0 0, Value.slice none 0 0, Value.slice none 0 0, Value.int .i64 0, Value.int .i64 0, Value.slice none 0 0]), by kernel_rfl, by kernel_rfl, by kernel_rfl, by kernel_rfl, zr46⟩
structure Gplan where
  Plan : GPlan
  schema : GSchema
def fsplan (n : Nat) : List (SF Gplan) := [⟨GPlan, 46, rPlan (n + 1), Gplan.Plan⟩, ⟨GSchema, 41, rSchema, Gplan.schema⟩]
abbrev rplan (n : Nat) : Rp Gplan := rStruct (fsplan n)
theorem ty217 {n : Nat} : TyOf Tryz.prog 217 (rplan n) := ⟨fun w => Tryz.isAgg217 w, fun w => Tryz.sizeOf217 w⟩
theorem so217 {n : Nat} : StructOf Tryz.prog 217 (fsplan n) := ⟨⟨_, Tryz.underlying217, ⟨rfl, rfl, ty46, (by show (rPl _ _ _ _).k ≠ 0; rw [rPl_k]; decide), ⟨rfl, rfl, ty41, by decide, trivial⟩⟩⟩, ty217⟩
theorem ty210 : TyOf Tryz.prog 210 rV := ⟨fun w => Tryz.isAgg210 w, fun w => Tryz.sizeOf210 w⟩
theorem ty211 : TyOf Tryz.prog 211 rV := ⟨fun w => Tryz.isAgg211 w, fun w => Tryz.sizeOf211 w⟩
theorem ty79 : TyOf Tryz.prog 79 rV := ⟨fun w => Tryz.isAgg79 w, fun w => Tryz.sizeOf79 w⟩
structure Gkind where
  kids : Int
  columns : Value
  rows : Value
  rest : Value
def zkind : Gkind := { kids := 0, columns := Value.nilFunc, rows := Value.nilFunc, rest := Value.nilFunc }
instance : Inhabited Gkind := ⟨zkind⟩
def fskind : List (SF Gkind) := [⟨Int, 3, rInt, Gkind.kids⟩, ⟨Value, 210, rV, Gkind.columns⟩, ⟨Value, 211, rV, Gkind.rows⟩, ⟨Value, 79, rV, Gkind.rest⟩]
abbrev rkind : Rp Gkind := rStruct fskind
theorem ty213 : TyOf Tryz.prog 213 rkind := ⟨fun w => Tryz.isAgg213 w, fun w => Tryz.sizeOf213 w⟩
theorem so213 : StructOf Tryz.prog 213 fskind := ⟨⟨_, Tryz.underlying213, ⟨rfl, rfl, ty3, by decide, ⟨rfl, rfl, ty210, by decide, ⟨rfl, rfl, ty211, by decide, ⟨rfl, rfl, ty79, by decide, trivial⟩⟩⟩⟩⟩, ty213⟩
theorem zr213 : ∀ h, (rkind.ty zkind).p h (.agg #[Value.int .i64 0, Value.nilFunc, Value.nilFunc, Value.nilFunc]) := fun _ => ⟨_, ⟨[Value.int .i64 0], _, rfl, rfl, ⟨[Value.nilFunc], _, rfl, ⟨rfl, rfl⟩, ⟨[Value.nilFunc], _, rfl, ⟨rfl, rfl⟩, ⟨[Value.nilFunc], _, rfl, ⟨rfl, rfl⟩, rfl⟩⟩⟩⟩, rfl⟩
structure Gplace where
  up : Int
  value : GValue
  fixed : Bool
def zplace : Gplace := { up := 0, value := zValue, fixed := false }
instance : Inhabited Gplace := ⟨zplace⟩
structure Gbuilder where
  schema : GSchema
  tables : List Int
  start : List Int
  places : List Gplace
  self : List Int
  bad : Bool
def zbuilder : Gbuilder := { schema := zSchema, tables := [], start := [], places := [], self := [], bad := false }
instance : Inhabited Gbuilder := ⟨zbuilder⟩
structure GPlace where
  Atom : Int
  Col : Int
  To : Int
  Const : GValue
  Fixed : Bool
def zPlace : GPlace := { Atom := 0, Col := 0, To := 0, Const := zValue, Fixed := false }
instance : Inhabited GPlace := ⟨zPlace⟩
structure GBuilder where
  S : GSchema
  Tables : List Int
  Places : List GPlace
  Self : List Int
  Bad : Bool
def zBuilder : GBuilder := { S := zSchema, Tables := [], Places := [], Self := [], Bad := false }
instance : Inhabited GBuilder := ⟨zBuilder⟩
structure GStats where
  Rows : List Int
  Distinct : List (List Int)
def zStats : GStats := { Rows := [], Distinct := [] }
instance : Inhabited GStats := ⟨zStats⟩
def fsStats : List (SF GStats) := [⟨List Int, 36, (rSl rInt), GStats.Rows⟩, ⟨List (List Int), 58, (rSl (rSl rInt)), GStats.Distinct⟩]
abbrev rStats : Rp GStats := rStruct fsStats
theorem ty60 : TyOf Tryz.prog 60 rStats := ⟨fun w => Tryz.isAgg60 w, fun w => Tryz.sizeOf60 w⟩
theorem so60 : StructOf Tryz.prog 60 fsStats := ⟨⟨_, Tryz.underlying60, ⟨rfl, rfl, ty36, by decide, ⟨rfl, rfl, ty58, by decide, trivial⟩⟩⟩, ty60⟩
theorem zr60 : ∀ h, (rStats.ty zStats).p h (.agg #[Value.slice none 0 0, Value.slice none 0 0]) := fun _ => ⟨_, ⟨[Value.slice none 0 0], _, rfl, ⟨_, rfl, none, ⟨0, Nat.le_refl _⟩, rfl, fun q => absurd rfl q⟩, ⟨[Value.slice none 0 0], _, rfl, ⟨_, rfl, none, ⟨0, Nat.le_refl _⟩, rfl, fun q => absurd rfl q⟩, rfl⟩⟩, rfl⟩
open Go Go.Proofs Go.Proofs.Tryz
def validV (v : GValue) : Bool :=
  if v.Kind ≠ 1 ∧ v.Text ≠ ⟨#[]⟩ then false
  else if v.Kind = 0 then decide (0 ≤ v.N) && decide (v.N ≤ 0)
  else if v.Kind = 1 then (if 200 < (v.Text.size : Int) then false else decide (0 ≤ v.N) && decide (v.N ≤ 0))
  else if v.Kind = 2 then decide (-1000000000 ≤ v.N) && decide (v.N ≤ 1000000000)
  else if v.Kind = 3 then decide (0 ≤ v.N) && decide (v.N ≤ 73048)
  else if v.Kind = 4 then decide (0 ≤ v.N) && decide (v.N ≤ 1)
  else false
theorem Valid_spec (v : GValue) : Fun1 prog 50 [rValue.ty v] (tV (.bool (validV v))) := by
 refine Spec.enter func50 rfl rfl fun h0 w0 fr0 => ?_
 refine Jr (Js rfl (step_box (R := rValue) Sr) (Ja rfl (JL_nil (J_seq (Jr ?_)))))
 refine Js rfl (step_fieldAddr so87 Sr rfl) (Jl rfl ty3 Sr (Js rfl (step_neq Sr Sr) (Jm rfl ?_)))
 refine Jk rfl Sr rfl (step_fieldAddr so87 Sr rfl) ?_
 refine Jg rfl Sr rfl (fun hw => step_load_ptr ty9 (Sub.w hw)) (Jg rfl Sr rfl (fun hw => step_neq_str (Sub.w hw) Sr) (Js rfl (step_pick_and Sr Sr) (JL_nil ?_)))
 refine J_cond Sr (fun hc1 => ?_) (fun hc1 => ?_)
 ·
  try simp only [NF] at hc1
  refine Jr (Ja rfl (JL_nil (J_ret ?_)))
  refine K_ret1 (t := 2) rfl () ?_
  refine Sub.bool ?_
  simp [validV, hc1]
 try simp only [NF] at hc1
 refine J_skip (Jr (Ja rfl (Ja rfl (JL_nil (J_seq ?_)))))
 refine Jr (Js rfl (step_fieldAddr so87 Sr rfl) (Jl rfl ty3 Sr (JL_nil (J_block (Jr ?_)))))
 refine Js rfl (step_eql Sr Sr) (Ja rfl (JL_nil ?_))
 refine J_cond Sr (fun hc2 => ?_) (fun hc2 => ?_)
 ·
  try simp only [NF] at hc2
  refine J_skip (Jr (Jm rfl (Js rfl (step_fieldAddr so87 Sr rfl) (Jl rfl ty3 Sr (Js rfl (step_leq Sr Sr) ?_)))))
  refine Jm rfl ?_
  refine Jk rfl Sr rfl (step_fieldAddr so87 Sr rfl) ?_
  refine Jg rfl Sr rfl (fun hw => step_load_ptr ty3 (Sub.w hw)) ?_
  refine Jk rfl Sr rfl (step_move Sr) ?_
  refine Jg rfl Sr rfl (fun hw => step_leq (Sub.w hw) (Sub.w hw)) (Js rfl (step_pick_and Sr Sr) (Ja rfl (JL_nil (J_ret ?_))))
  refine K_ret1 (t := 2) rfl () ?_
  refine Sub.bool ?_
  have h1 : ¬ (v.Kind ≠ 1 ∧ v.Text ≠ ⟨#[]⟩) := by rintro ⟨p, q⟩; rcases hc1 with hc1 | hc1 <;> contradiction
  simp only [validV, if_neg h1]
  simp [*]
 try simp only [NF] at hc2
 refine Jr (Js rfl (step_eql Sr Sr) (Ja rfl (JL_nil ?_)))
 refine J_cond Sr (fun hc3 => ?_) (fun hc3 => ?_)
 ·
  try simp only [NF] at hc3
  refine Jr (Js rfl (step_fieldAddr so87 Sr rfl) (Jl rfl ty9 Sr (Js rfl (step_len_str underlying9 Sr) (Js rfl (step_gtr Sr Sr) (JL_nil ?_)))))
  refine J_cond Sr (fun hc4 => ?_) (fun hc4 => ?_)
  ·
   try simp only [NF] at hc4
   refine Jr (Ja rfl (JL_nil (J_ret ?_)))
   refine K_ret1 (t := 2) rfl () ?_
   refine Sub.bool ?_
   have h1 : ¬ (v.Kind ≠ 1 ∧ v.Text ≠ ⟨#[]⟩) := by rintro ⟨p, q⟩; rcases hc1 with hc1 | hc1 <;> contradiction
   simp only [validV, if_neg h1]
   first | (simp [*]; done) | (simp_all; omega)
  try simp only [NF] at hc4
  refine J_skip (Jr (Jm rfl (Js rfl (step_fieldAddr so87 Sr rfl) (Jl rfl ty3 Sr (Js rfl (step_leq Sr Sr) ?_)))))
  refine Jm rfl ?_
  refine Jk rfl Sr rfl (step_fieldAddr so87 Sr rfl) ?_
  refine Jg rfl Sr rfl (fun hw => step_load_ptr ty3 (Sub.w hw)) ?_
  refine Jk rfl Sr rfl (step_move Sr) ?_
  refine Jg rfl Sr rfl (fun hw => step_leq (Sub.w hw) (Sub.w hw)) (Js rfl (step_pick_and Sr Sr) (Ja rfl (JL_nil (J_ret ?_))))
  refine K_ret1 (t := 2) rfl () ?_
  refine Sub.bool ?_
  have h1 : ¬ (v.Kind ≠ 1 ∧ v.Text ≠ ⟨#[]⟩) := by rintro ⟨p, q⟩; rcases hc1 with hc1 | hc1 <;> contradiction
  simp only [validV, if_neg h1]
  first | (simp [*]; done) | (simp_all; omega)
 try simp only [NF] at hc3
 refine Jr (Js rfl (step_eql Sr Sr) (Ja rfl (JL_nil ?_)))
 refine J_cond Sr (fun hc5 => ?_) (fun hc5 => ?_)
 ·
  try simp only [NF] at hc5
  refine J_region (Ja rfl (Ja rfl (JL_nil (Jr (Jm rfl ?_)))))
  refine Js rfl (step_fieldAddr so87 Sr rfl) (Jl rfl ty3 Sr (Js rfl (step_leq Sr Sr) (Jm rfl ?_)))
  refine Jk rfl Sr rfl (step_fieldAddr so87 Sr rfl) ?_
  refine Jg rfl Sr rfl (fun hw => step_load_ptr ty3 (Sub.w hw)) ?_
  refine Jk rfl Sr rfl (step_move Sr) ?_
  refine Jg rfl Sr rfl (fun hw => step_leq (Sub.w hw) (Sub.w hw)) (Js rfl (step_pick_and Sr Sr) (Ja rfl (JL_nil (J_ret ?_))))
  refine K_ret1 (t := 2) rfl () ?_
  refine Sub.bool ?_
  have h1 : ¬ (v.Kind ≠ 1 ∧ v.Text ≠ ⟨#[]⟩) := by rintro ⟨p, q⟩; rcases hc1 with hc1 | hc1 <;> contradiction
  simp only [validV, if_neg h1]
  first | (simp [*]; done) | (simp_all; omega)
 try simp only [NF] at hc5
 refine Jr (Js rfl (step_eql Sr Sr) (Ja rfl (JL_nil ?_)))
 refine J_cond Sr (fun hc6 => ?_) (fun hc6 => ?_)
 ·
  try simp only [NF] at hc6
  refine J_region (Ja rfl (JL_nil (Jr (Jm rfl (Js rfl (step_fieldAddr so87 Sr rfl) ?_)))))
  refine Jl rfl ty3 Sr (Js rfl (step_leq Sr Sr) (Jm rfl ?_))
  refine Jk rfl Sr rfl (step_fieldAddr so87 Sr rfl) ?_
  refine Jg rfl Sr rfl (fun hw => step_load_ptr ty3 (Sub.w hw)) ?_
  refine Jk rfl Sr rfl (step_move Sr) ?_
  refine Jg rfl Sr rfl (fun hw => step_leq (Sub.w hw) (Sub.w hw)) (Js rfl (step_pick_and Sr Sr) (Ja rfl (JL_nil (J_ret ?_))))
  refine K_ret1 (t := 2) rfl () ?_
  refine Sub.bool ?_
  have h1 : ¬ (v.Kind ≠ 1 ∧ v.Text ≠ ⟨#[]⟩) := by rintro ⟨p, q⟩; rcases hc1 with hc1 | hc1 <;> contradiction
  simp only [validV, if_neg h1]
  first | (simp [*]; done) | (simp_all; omega)
 try simp only [NF] at hc6
 refine Jr (Js rfl (step_eql Sr Sr) (Ja rfl (JL_nil ?_)))
 refine J_cond Sr (fun hc7 => ?_) (fun hc7 => ?_)
 ·
  try simp only [NF] at hc7
  refine J_region (Ja rfl (JL_nil (Jr (Jm rfl (Js rfl (step_fieldAddr so87 Sr rfl) ?_)))))
  refine Jl rfl ty3 Sr (Js rfl (step_leq Sr Sr) (Jm rfl ?_))
  refine Jk rfl Sr rfl (step_fieldAddr so87 Sr rfl) ?_
  refine Jg rfl Sr rfl (fun hw => step_load_ptr ty3 (Sub.w hw)) ?_
  refine Jk rfl Sr rfl (step_move Sr) ?_
  refine Jg rfl Sr rfl (fun hw => step_leq (Sub.w hw) (Sub.w hw)) (Js rfl (step_pick_and Sr Sr) (Ja rfl (JL_nil (J_ret ?_))))
  refine K_ret1 (t := 2) rfl () ?_
  refine Sub.bool ?_
  have h1 : ¬ (v.Kind ≠ 1 ∧ v.Text ≠ ⟨#[]⟩) := by rintro ⟨p, q⟩; rcases hc1 with hc1 | hc1 <;> contradiction
  simp only [validV, if_neg h1]
  first | (simp [*]; done) | (simp_all; omega)
 try simp only [NF] at hc7
 refine Jr (Ja rfl (JL_nil (J_ret ?_)))
 refine K_ret1 (t := 2) rfl () ?_
 refine Sub.bool ?_
 have h1 : ¬ (v.Kind ≠ 1 ∧ v.Text ≠ ⟨#[]⟩) := by rintro ⟨p, q⟩; rcases hc1 with hc1 | hc1 <;> contradiction
 simp only [validV, if_neg h1]
 first | (simp [*]; done) | (simp_all; omega)
open Go Go.Proofs Go.Proofs.Tryz
abbrev kvV (v : GValue) : Value := .agg #[.int .i64 v.Kind, .int .i64 v.N, .string v.Text]
instance : DecidableEq GValue := fun a b => decidable_of_iff (a.Kind = b.Kind ∧ a.N = b.N ∧ a.Text = b.Text) ⟨fun ⟨h1, h2, h3⟩ => by cases a; cases b; simp_all, fun h => by subst h; exact ⟨rfl, rfl, rfl⟩⟩
theorem Sub.val {x : GValue} : Sub (rValue.ty x) (tV (kvV x)) := fun h v r => by
  obtain ⟨cs, r, rfl⟩ := r
  obtain ⟨c0, _, rfl, r0, c1, _, rfl, r1, c2, _, rfl, r2, rz⟩ := r
  have r0 : c0 = [.int .i64 x.Kind] := r0
  have r1 : c1 = [.int .i64 x.N] := r1
  have r2 : c2 = [.string x.Text] := r2
  subst r0 r1 r2; rw [show _ = [] from rz]; rfl
theorem toL_eq (a b : ByteArray) : (a.toList == b.toList) = decide (a = b) := by
  rw [← beq_toListBytes]
  obtain ⟨⟨x⟩⟩ := a
  obtain ⟨⟨y⟩⟩ := b
  show ((⟨x⟩ : Array UInt8) == ⟨y⟩) = _
  rw [Bool.eq_iff_iff]; simp
theorem eq_value (a b : GValue) (w : World) : (Op.equalIn 10000 87 (kvV a) (kvV b)).run prog w = .ok (decide (a = b)) w := by
  have u3 := underlying3
  have u9 := underlying9
  have a3 := isAgg3
  have a9 := isAgg9
  have z3 := sizeOf3
  have z9 := sizeOf9
  have hS : prog.underlying 87 = some (.struct (prog.fieldsOf 87)) := by kernel_rfl
  have hp : prog.stoodInHeld 87 = false := by kernel_rfl
  rw [show (10000 : Nat) = 9999 + 1 from rfl, run_equalIn_agg w 9999 87 _ _ hS hp]
  simp only [Program.fieldsOf, underlying87]
  go_simp
  have e : decide (a = b) = (decide (a.Kind = b.Kind) && (decide (a.N = b.N) && decide (a.Text = b.Text))) := by
    rw [Bool.eq_iff_iff]; simp
    constructor
    · intro h; subst h; exact ⟨rfl, rfl, rfl⟩
    · rintro ⟨h1, h2, h3⟩; cases a; cases b; simp_all
  have e2 : (a.Text.toList = b.Text.toList) ↔ a.Text = b.Text := by
    have := toL_eq a.Text b.Text
    rw [Bool.eq_iff_iff] at this
    simpa using this
  rw [e]
  by_cases h1 : a.Kind = b.Kind <;> by_cases h2 : a.N = b.N <;> by_cases h3 : a.Text = b.Text <;> simp [h1, h2, h3, e2]
theorem ge_value : prog.eqGuardType prog.depth 87 = false := by kernel_rfl
theorem step_eql_val {ro : Option Nat} {N : Nat} {ds : List Deferred} {h0 : PH} {w0 : World} {r : PH} {E : Env} {L : List SP} {d : Option Nat} {ty : Nat} {pos : String} {af : Array Edge} {g : Option (Nat × Bool)} {x y : Operand} {U : Nat} {a b : GValue} (hx : Sub (opTy E x) (rValue.ty a)) (hy : Sub (opTy E y) (rValue.ty b)) :
    Step1 ⟨prog, ro, N, ds, h0, w0, r⟩ ⟨d, .binOp .eql 87 x y U, ty, pos, af, g⟩ E L (tV (.bool (decide (a = b)))) :=
  Step.of_same (by intro c h; cases h) fun ac w h hw f => by
    have h1 : ac.eval x = kvV a := f.get (Sub.trans hx Sub.val)
    have h2 : ac.eval y = kvV b := f.get (Sub.trans hy Sub.val)
    have he := run_eqGuard_agg (P := prog) w .eql 87 x y #[.int .i64 a.Kind, .int .i64 a.N, .string a.Text] #[.int .i64 b.Kind, .int .i64 b.N, .string b.Text] ge_value
    refine ⟨.bool (decide (a = b)), ?_, rfl⟩
    simp [execOp, h1, h2, Sem.run_bind, he, run_eql_struct, eq_value]
def findI {α : Type} (p : α → Bool) : Int → List α → Int
  | _, [] => -1
  | i, x :: l => if p x then i else findI p (i + 1) l
theorem findI_bd {α : Type} (p : α → Bool) : ∀ (l : List α) (i : Int), 0 ≤ i → -1 ≤ findI p i l ∧ findI p i l < i + l.length ∧ (0 ≤ findI p i l ↔ l.any p = true)
  | [], i, h => by simp [findI]; omega
  | x :: l, i, h => by
    have ih := findI_bd p l (i + 1) (by omega)
    simp only [findI, List.length_cons, List.any_cons]
    by_cases hx : p x = true
    · simp [hx]; omega
    · simp only [hx, Bool.false_or]
      simp only [Bool.false_eq_true, if_false]
      refine ⟨ih.1, by have := ih.2.1; omega, ih.2.2⟩
theorem all_t {α : Type} [Inhabited α] {p : α → Bool} {l : List α} (h : ∀ k, k < l.length → p (nth l k) = true) : l.all p = true := by
  rw [List.all_eq_true]
  intro x hx
  obtain ⟨k, hk, rfl⟩ := List.getElem_of_mem hx
  have := h k hk
  rwa [nth_get hk] at this
theorem all_f {α : Type} [Inhabited α] {p : α → Bool} {l : List α} {k : Nat} (hk : k < l.length) (h : p (nth l k) = false) : l.all p = false := by
  rw [List.all_eq_false]
  exact ⟨_, nth_mem hk, by simp [h]⟩
theorem pred_again {α : Type} [Inhabited α] {p : α → Prop} {l : List α} {i : Nat} (hlt : i < l.length) (hv : ∀ k, k < i → p (nth l k)) (h : p (nth l i)) : i + 1 ≤ l.length ∧ ∀ k, k < i + 1 → p (nth l k) :=
  ⟨hlt, fun k hk => by
    by_cases e : k = i
    · subst e; exact h
    · exact hv k (by omega)⟩
open Go Go.Proofs Go.Proofs.Tryz
theorem IndexFuncI_spec (l : List Int) (hl : l.length ≤ 1000000000000) (gi : Nat) (As : List Ty) (p : Int → Bool) (hp : ∀ x ∈ l, Fun1 prog gi ([tV (.int .i64 x)] ++ As) (tV (.bool (p x)))) (he : ∀ args w, (callFunc gi args).run prog w = .ok (.enter gi args) w) : Fun1 prog 117 [tSl rInt l, tClo gi As] (tV (.int .i64 (findI p 0 l))) := by
 refine Spec.enter func117 rfl rfl fun h0 w0 fr0 => ?_
 refine Jr (Ja rfl (JL_nil (J_seq (Jr (Jm rfl ?_)))))
 refine Js rfl (step_len_sl underlying36 Sr) (Jm rfl (JL_nil (J_block ?_)))
 refine J_loopL (σ := Nat) (fun i => i ≤ l.length ∧ findI p 0 l = findI p i (l.drop i)) (fun i => upd (upd (upd (upd env0 0 (tSl rInt l)) 1 (tClo gi As)) 7 (tV (.int .i64 l.length))) 8 (tV (.int .i64 i))) (fun i => []) (fun i => l.length - i) 0 ⟨by omega, by simp⟩ (zU) (LSub.rfl) ?_
 rintro i ⟨hi, hv⟩
 refine Jr (Js rfl (step_lss Sr Sr) (JL_nil (J_seq ?_)))
 refine J_cond Sr (fun h9 => ?_) (fun h9 => ?_)
 ·
  try simp only [NF] at h9
  have hlt : i < l.length := by omega
  have hd := dropB hlt
  refine J_skip (J_seq (J_block (Jr (Jm rfl (Ja rfl ?_)))))
  refine JL_nil (Jr (Jm rfl (Jm rfl (Jm rfl ?_))))
  refine Js rfl (step_indexAddr_sl  underlying36 ty3 Sr Sr rfl (gb (by first | assumption | omega))) ?_
  refine Jl rfl ty3 Sr (Js rfl (step_callv0 (aT := [_]) Sr (hp _ (nth_mem hlt)) ⟨Sr, trivial⟩ he) (JL_nil ?_))
  refine J_cond Sr (fun h16 => ?_) (fun h16 => ?_)
  ·
   try simp only [NF] at h16
   refine Jr (Jm rfl (Ja rfl (JL_nil (J_ret ?_))))
   refine K_retv (rv := .tmp 4) rfl () (.tmp Sr) (Sub.int ?_)
   rw [hv, hd]; simp only [findI]; rw [if_pos h16]
  try simp only [NF] at h16
  refine J_skip (J_region (Js rfl (step_add Sr Sr z6) (Jm rfl (JL_nil ?_))))
  refine K_againL (σ := Nat) (s := i) (i + 1) zO ?_ (zU) (LSub.rfl)
  refine ⟨by omega, ?_⟩
  rw [hv, hd]; simp only [findI]; rw [if_neg (by simp [h16])]; simp
 try simp only [NF] at h9
 refine J_exit (Jr (Ja rfl (JL_nil (J_ret ?_))))
 refine K_retv (rv := .tmp 4) rfl () (.tmp Sr) (Sub.int ?_)
 rw [hv, List.drop_of_length_le zG]; rfl
theorem ContainsFuncI_spec (l : List Int) (hl : l.length ≤ 1000000000000) (gi : Nat) (As : List Ty) (p : Int → Bool) (hp : ∀ x ∈ l, Fun1 prog gi ([tV (.int .i64 x)] ++ As) (tV (.bool (p x)))) (he : ∀ args w, (callFunc gi args).run prog w = .ok (.enter gi args) w) : Fun1 prog 63 [tSl rInt l, tClo gi As] (tV (.bool (l.any p))) := by
 refine Spec.enter func63 rfl rfl fun h0 w0 fr0 => ?_
 refine Jr (Ja rfl (JL_nil (Jr (Jm rfl (Jm rfl ?_)))))
 refine Js rfl (step_call0 (IndexFuncI_spec l hl gi As p hp he) ⟨Sr, Sr, trivial⟩ call117) (Js rfl (step_geq Sr Sr) (Ja rfl (JL_nil (J_ret ?_))))
 refine K_retv (rv := .tmp 4) rfl () (.tmp Sr) (Sub.bool ?_)
 have hq := (findI_bd p l 0 zG).2.2
 by_cases ha : l.any p = true
 ·
  rw [ha]; simp; exact hq.2 ha
 simp only [Bool.not_eq_true] at ha; rw [ha]; simp; have : ¬ 0 ≤ findI p 0 l := (fun h => by rw [hq.1 h] at ha; cases ha)
 omega
theorem IndexFuncS_spec (l : List ByteArray) (hl : l.length ≤ 1000000000000) (gi : Nat) (As : List Ty) (p : ByteArray → Bool) (hp : ∀ x ∈ l, Fun1 prog gi ([tV (.string x)] ++ As) (tV (.bool (p x)))) (he : ∀ args w, (callFunc gi args).run prog w = .ok (.enter gi args) w) : Fun1 prog 292 [tSl rStr l, tClo gi As] (tV (.int .i64 (findI p 0 l))) := by
 refine Spec.enter func292 rfl rfl fun h0 w0 fr0 => ?_
 refine Jr (Ja rfl (JL_nil (J_seq (Jr (Jm rfl ?_)))))
 refine Js rfl (step_len_sl underlying85 Sr) (Jm rfl (JL_nil (J_block ?_)))
 refine J_loopL (σ := Nat) (fun i => i ≤ l.length ∧ findI p 0 l = findI p i (l.drop i)) (fun i => upd (upd (upd (upd env0 0 (tSl rStr l)) 1 (tClo gi As)) 7 (tV (.int .i64 l.length))) 8 (tV (.int .i64 i))) (fun i => []) (fun i => l.length - i) 0 ⟨by omega, by simp⟩ (zU) (LSub.rfl) ?_
 rintro i ⟨hi, hv⟩
 refine Jr (Js rfl (step_lss Sr Sr) (JL_nil (J_seq ?_)))
 refine J_cond Sr (fun h9 => ?_) (fun h9 => ?_)
 ·
  try simp only [NF] at h9
  have hlt : i < l.length := by omega
  have hd := dropB hlt
  refine J_skip (J_seq (J_block (Jr (Jm rfl (Ja rfl ?_)))))
  refine JL_nil (Jr (Jm rfl (Jm rfl (Jm rfl ?_))))
  refine Js rfl (step_indexAddr_sl  underlying85 ty9 Sr Sr rfl (gb (by first | assumption | omega))) ?_
  refine Jl rfl ty9 Sr (Js rfl (step_callv0 (aT := [_]) Sr (hp _ (nth_mem hlt)) ⟨Sr, trivial⟩ he) (JL_nil ?_))
  refine J_cond Sr (fun h16 => ?_) (fun h16 => ?_)
  ·
   try simp only [NF] at h16
   refine Jr (Jm rfl (Ja rfl (JL_nil (J_ret ?_))))
   refine K_retv (rv := .tmp 4) rfl () (.tmp Sr) (Sub.int ?_)
   rw [hv, hd]; simp only [findI]; rw [if_pos h16]
  try simp only [NF] at h16
  refine J_skip (J_region (Js rfl (step_add Sr Sr z6) (Jm rfl (JL_nil ?_))))
  refine K_againL (σ := Nat) (s := i) (i + 1) zO ?_ (zU) (LSub.rfl)
  refine ⟨by omega, ?_⟩
  rw [hv, hd]; simp only [findI]; rw [if_neg (by simp [h16])]; simp
 try simp only [NF] at h9
 refine J_exit (Jr (Ja rfl (JL_nil (J_ret ?_))))
 refine K_retv (rv := .tmp 4) rfl () (.tmp Sr) (Sub.int ?_)
 rw [hv, List.drop_of_length_le zG]; rfl
theorem ContainsFuncS_spec (l : List ByteArray) (hl : l.length ≤ 1000000000000) (gi : Nat) (As : List Ty) (p : ByteArray → Bool) (hp : ∀ x ∈ l, Fun1 prog gi ([tV (.string x)] ++ As) (tV (.bool (p x)))) (he : ∀ args w, (callFunc gi args).run prog w = .ok (.enter gi args) w) : Fun1 prog 236 [tSl rStr l, tClo gi As] (tV (.bool (l.any p))) := by
 refine Spec.enter func236 rfl rfl fun h0 w0 fr0 => ?_
 refine Jr (Ja rfl (JL_nil (Jr (Jm rfl (Jm rfl ?_)))))
 refine Js rfl (step_call0 (IndexFuncS_spec l hl gi As p hp he) ⟨Sr, Sr, trivial⟩ call292) (Js rfl (step_geq Sr Sr) (Ja rfl (JL_nil (J_ret ?_))))
 refine K_retv (rv := .tmp 4) rfl () (.tmp Sr) (Sub.bool ?_)
 have hq := (findI_bd p l 0 zG).2.2
 by_cases ha : l.any p = true
 ·
  rw [ha]; simp; exact hq.2 ha
 simp only [Bool.not_eq_true] at ha; rw [ha]; simp; have : ¬ 0 ≤ findI p 0 l := (fun h => by rw [hq.1 h] at ha; cases ha)
 omega
theorem IndexFuncT_spec (l : List GTest) (hl : l.length ≤ 1000000000000) (gi : Nat) (As : List Ty) (p : GTest → Bool) (hp : ∀ x ∈ l, Fun1 prog gi ([rTest.ty x] ++ As) (tV (.bool (p x)))) (he : ∀ args w, (callFunc gi args).run prog w = .ok (.enter gi args) w) : Fun1 prog 297 [tSl rTest l, tClo gi As] (tV (.int .i64 (findI p 0 l))) := by
 refine Spec.enter func297 rfl rfl fun h0 w0 fr0 => ?_
 refine Jr (Ja rfl (JL_nil (J_seq (Jr (Jm rfl ?_)))))
 refine Js rfl (step_len_sl underlying43 Sr) (Jm rfl (JL_nil (J_block ?_)))
 refine J_loopL (σ := Nat) (fun i => i ≤ l.length ∧ findI p 0 l = findI p i (l.drop i)) (fun i => upd (upd (upd (upd env0 0 (tSl rTest l)) 1 (tClo gi As)) 7 (tV (.int .i64 l.length))) 8 (tV (.int .i64 i))) (fun i => []) (fun i => l.length - i) 0 ⟨by omega, by simp⟩ (zU) (LSub.rfl) ?_
 rintro i ⟨hi, hv⟩
 refine Jr (Js rfl (step_lss Sr Sr) (JL_nil (J_seq ?_)))
 refine J_cond Sr (fun h9 => ?_) (fun h9 => ?_)
 ·
  try simp only [NF] at h9
  have hlt : i < l.length := by omega
  have hd := dropB hlt
  refine J_skip (J_seq (J_block (Jr (Jm rfl (Ja rfl ?_)))))
  refine JL_nil (Jr (Jm rfl (Jm rfl (Jm rfl ?_))))
  refine Js rfl (step_indexAddr_sl  underlying43 ty93 Sr Sr rfl (gb (by first | assumption | omega))) ?_
  refine Jl rfl ty93 Sr (Js rfl (step_callv0 (aT := [_]) Sr (hp _ (nth_mem hlt)) ⟨Sr, trivial⟩ he) (JL_nil ?_))
  refine J_cond Sr (fun h16 => ?_) (fun h16 => ?_)
  ·
   try simp only [NF] at h16
   refine Jr (Jm rfl (Ja rfl (JL_nil (J_ret ?_))))
   refine K_retv (rv := .tmp 4) rfl () (.tmp Sr) (Sub.int ?_)
   rw [hv, hd]; simp only [findI]; rw [if_pos h16]
  try simp only [NF] at h16
  refine J_skip (J_region (Js rfl (step_add Sr Sr z6) (Jm rfl (JL_nil ?_))))
  refine K_againL (σ := Nat) (s := i) (i + 1) zO ?_ (zU) (LSub.rfl)
  refine ⟨by omega, ?_⟩
  rw [hv, hd]; simp only [findI]; rw [if_neg (by simp [h16])]; simp
 try simp only [NF] at h9
 refine J_exit (Jr (Ja rfl (JL_nil (J_ret ?_))))
 refine K_retv (rv := .tmp 4) rfl () (.tmp Sr) (Sub.int ?_)
 rw [hv, List.drop_of_length_le zG]; rfl
theorem ContainsFuncT_spec (l : List GTest) (hl : l.length ≤ 1000000000000) (gi : Nat) (As : List Ty) (p : GTest → Bool) (hp : ∀ x ∈ l, Fun1 prog gi ([rTest.ty x] ++ As) (tV (.bool (p x)))) (he : ∀ args w, (callFunc gi args).run prog w = .ok (.enter gi args) w) : Fun1 prog 246 [tSl rTest l, tClo gi As] (tV (.bool (l.any p))) := by
 refine Spec.enter func246 rfl rfl fun h0 w0 fr0 => ?_
 refine Jr (Ja rfl (JL_nil (Jr (Jm rfl (Jm rfl ?_)))))
 refine Js rfl (step_call0 (IndexFuncT_spec l hl gi As p hp he) ⟨Sr, Sr, trivial⟩ call297) (Js rfl (step_geq Sr Sr) (Ja rfl (JL_nil (J_ret ?_))))
 refine K_retv (rv := .tmp 4) rfl () (.tmp Sr) (Sub.bool ?_)
 have hq := (findI_bd p l 0 zG).2.2
 by_cases ha : l.any p = true
 ·
  rw [ha]; simp; exact hq.2 ha
 simp only [Bool.not_eq_true] at ha; rw [ha]; simp; have : ¬ 0 ≤ findI p 0 l := (fun h => by rw [hq.1 h] at ha; cases ha)
 omega
theorem IndexFuncAttr_spec (l : List GAttr) (hl : l.length ≤ 1000000000000) (gi : Nat) (As : List Ty) (p : GAttr → Bool) (hp : ∀ x ∈ l, Fun1 prog gi ([rAttr.ty x] ++ As) (tV (.bool (p x)))) (he : ∀ args w, (callFunc gi args).run prog w = .ok (.enter gi args) w) : Fun1 prog 114 [tSl rAttr l, tClo gi As] (tV (.int .i64 (findI p 0 l))) := by
 refine Spec.enter func114 rfl rfl fun h0 w0 fr0 => ?_
 refine Jr (Ja rfl (JL_nil (J_seq (Jr (Jm rfl ?_)))))
 refine Js rfl (step_len_sl underlying44 Sr) (Jm rfl (JL_nil (J_block ?_)))
 refine J_loopL (σ := Nat) (fun i => i ≤ l.length ∧ findI p 0 l = findI p i (l.drop i)) (fun i => upd (upd (upd (upd env0 0 (tSl rAttr l)) 1 (tClo gi As)) 7 (tV (.int .i64 l.length))) 8 (tV (.int .i64 i))) (fun i => []) (fun i => l.length - i) 0 ⟨by omega, by simp⟩ (zU) (LSub.rfl) ?_
 rintro i ⟨hi, hv⟩
 refine Jr (Js rfl (step_lss Sr Sr) (JL_nil (J_seq ?_)))
 refine J_cond Sr (fun h9 => ?_) (fun h9 => ?_)
 ·
  try simp only [NF] at h9
  have hlt : i < l.length := by omega
  have hd := dropB hlt
  refine J_skip (J_seq (J_block (Jr (Jm rfl (Ja rfl ?_)))))
  refine JL_nil (Jr (Jm rfl (Jm rfl (Jm rfl ?_))))
  refine Js rfl (step_indexAddr_sl  underlying44 ty89 Sr Sr rfl (gb (by first | assumption | omega))) ?_
  refine Jl rfl ty89 Sr (Js rfl (step_callv0 (aT := [_]) Sr (hp _ (nth_mem hlt)) ⟨Sr, trivial⟩ he) (JL_nil ?_))
  refine J_cond Sr (fun h16 => ?_) (fun h16 => ?_)
  ·
   try simp only [NF] at h16
   refine Jr (Jm rfl (Ja rfl (JL_nil (J_ret ?_))))
   refine K_retv (rv := .tmp 4) rfl () (.tmp Sr) (Sub.int ?_)
   rw [hv, hd]; simp only [findI]; rw [if_pos h16]
  try simp only [NF] at h16
  refine J_skip (J_region (Js rfl (step_add Sr Sr z6) (Jm rfl (JL_nil ?_))))
  refine K_againL (σ := Nat) (s := i) (i + 1) zO ?_ (zU) (LSub.rfl)
  refine ⟨by omega, ?_⟩
  rw [hv, hd]; simp only [findI]; rw [if_neg (by simp [h16])]; simp
 try simp only [NF] at h9
 refine J_exit (Jr (Ja rfl (JL_nil (J_ret ?_))))
 refine K_retv (rv := .tmp 4) rfl () (.tmp Sr) (Sub.int ?_)
 rw [hv, List.drop_of_length_le zG]; rfl
theorem IndexFuncTab_spec (l : List GTable) (hl : l.length ≤ 1000000000000) (gi : Nat) (As : List Ty) (p : GTable → Bool) (hp : ∀ x ∈ l, Fun1 prog gi ([rTable.ty x] ++ As) (tV (.bool (p x)))) (he : ∀ args w, (callFunc gi args).run prog w = .ok (.enter gi args) w) : Fun1 prog 240 [tSl rTable l, tClo gi As] (tV (.int .i64 (findI p 0 l))) := by
 refine Spec.enter func240 rfl rfl fun h0 w0 fr0 => ?_
 refine Jr (Ja rfl (JL_nil (J_seq (Jr (Jm rfl ?_)))))
 refine Js rfl (step_len_sl underlying39 Sr) (Jm rfl (JL_nil (J_block ?_)))
 refine J_loopL (σ := Nat) (fun i => i ≤ l.length ∧ findI p 0 l = findI p i (l.drop i)) (fun i => upd (upd (upd (upd env0 0 (tSl rTable l)) 1 (tClo gi As)) 7 (tV (.int .i64 l.length))) 8 (tV (.int .i64 i))) (fun i => []) (fun i => l.length - i) 0 ⟨by omega, by simp⟩ (zU) (LSub.rfl) ?_
 rintro i ⟨hi, hv⟩
 refine Jr (Js rfl (step_lss Sr Sr) (JL_nil (J_seq ?_)))
 refine J_cond Sr (fun h9 => ?_) (fun h9 => ?_)
 ·
  try simp only [NF] at h9
  have hlt : i < l.length := by omega
  have hd := dropB hlt
  refine J_skip (J_seq (J_block (Jr (Jm rfl (Ja rfl ?_)))))
  refine JL_nil (Jr (Jm rfl (Jm rfl (Jm rfl ?_))))
  refine Js rfl (step_indexAddr_sl  underlying39 ty76 Sr Sr rfl (gb (by first | assumption | omega))) ?_
  refine Jl rfl ty76 Sr (Js rfl (step_callv0 (aT := [_]) Sr (hp _ (nth_mem hlt)) ⟨Sr, trivial⟩ he) (JL_nil ?_))
  refine J_cond Sr (fun h16 => ?_) (fun h16 => ?_)
  ·
   try simp only [NF] at h16
   refine Jr (Jm rfl (Ja rfl (JL_nil (J_ret ?_))))
   refine K_retv (rv := .tmp 4) rfl () (.tmp Sr) (Sub.int ?_)
   rw [hv, hd]; simp only [findI]; rw [if_pos h16]
  try simp only [NF] at h16
  refine J_skip (J_region (Js rfl (step_add Sr Sr z6) (Jm rfl (JL_nil ?_))))
  refine K_againL (σ := Nat) (s := i) (i + 1) zO ?_ (zU) (LSub.rfl)
  refine ⟨by omega, ?_⟩
  rw [hv, hd]; simp only [findI]; rw [if_neg (by simp [h16])]; simp
 try simp only [NF] at h9
 refine J_exit (Jr (Ja rfl (JL_nil (J_ret ?_))))
 refine K_retv (rv := .tmp 4) rfl () (.tmp Sr) (Sub.int ?_)
 rw [hv, List.drop_of_length_le zG]; rfl
theorem IndexS_spec (l : List ByteArray) (v : ByteArray) (hl : l.length ≤ 1000000000000) : Fun1 prog 324 [tSl rStr l, tV (.string v)] (tV (.int .i64 (findI (fun x => decide (v = x)) 0 l))) := by
 refine Spec.enter func324 rfl rfl fun h0 w0 fr0 => ?_
 refine Jr (Ja rfl (JL_nil (J_seq (Jr (Jm rfl ?_)))))
 refine Js rfl (step_len_sl underlying85 Sr) (Jm rfl (JL_nil (J_block ?_)))
 refine J_loopL (σ := Nat) (fun i => i ≤ l.length ∧ findI (fun x => decide (v = x)) 0 l = findI (fun x => decide (v = x)) i (l.drop i)) (fun i => upd (upd (upd (upd env0 0 (tSl rStr l)) 1 (tV (.string v))) 7 (tV (.int .i64 l.length))) 8 (tV (.int .i64 i))) (fun i => []) (fun i => l.length - i) 0 ⟨by omega, by simp⟩ (zU) (LSub.rfl) ?_
 rintro i ⟨hi, hv⟩
 refine Jr (Js rfl (step_lss Sr Sr) (JL_nil (J_seq ?_)))
 refine J_cond Sr (fun h9 => ?_) (fun h9 => ?_)
 ·
  try simp only [NF] at h9
  have hlt : i < l.length := by omega
  have hd := dropB hlt
  refine J_skip (J_seq (J_block (Jr (Jm rfl (Ja rfl ?_)))))
  refine JL_nil (Jr (Jm rfl (Jm rfl (Jm rfl ?_))))
  refine Js rfl (step_indexAddr_sl  underlying85 ty9 Sr Sr rfl (gb (by first | assumption | omega))) ?_
  refine Jl rfl ty9 Sr (Js rfl (step_eql_str Sr Sr) (JL_nil ?_))
  refine J_cond Sr (fun h16 => ?_) (fun h16 => ?_)
  ·
   try simp only [NF] at h16
   have he : v = nth l i := by first | exact h16 | simpa using h16
   refine Jr (Jm rfl (Ja rfl (JL_nil (J_ret ?_))))
   refine K_ret1' (rv := .tmp 4) rfl () (Sel.all _) (.tmp Sr) (Frz.sub (Sub.int ?_))
   rw [hv, hd]; simp [findI, he]
  try simp only [NF] at h16
  have hne : ¬ v = nth l i := by first | exact h16 | simpa using h16
  refine J_skip (J_region (Js rfl (step_add Sr Sr z6) (Jm rfl (JL_nil ?_))))
  refine K_againL (σ := Nat) (s := i) (i + 1) zO ?_ (zU) (LSub.rfl)
  refine ⟨by omega, ?_⟩
  rw [hv, hd]; simp [findI, hne]
 try simp only [NF] at h9
 refine J_exit (Jr (Ja rfl (JL_nil (J_ret ?_))))
 refine K_ret1' (rv := .tmp 4) rfl () (Sel.all _) (.tmp Sr) (Frz.sub (Sub.int ?_))
 rw [hv, List.drop_of_length_le zG]; rfl
theorem ContainsS_spec (l : List ByteArray) (v : ByteArray) (hl : l.length ≤ 1000000000000) : Fun1 prog 296 [tSl rStr l, tV (.string v)] (tV (.bool (l.any fun x => decide (v = x)))) := by
 refine Spec.enter func296 rfl rfl fun h0 w0 fr0 => ?_
 refine Jr (Ja rfl (JL_nil (Jr (Jm rfl (Jm rfl ?_)))))
 refine Js rfl (step_call0 (IndexS_spec _ _ hl) ⟨Sr, Sr, trivial⟩ call324) (Js rfl (step_geq Sr Sr) (Ja rfl (JL_nil (J_ret ?_))))
 refine K_ret1' (rv := .tmp 4) rfl () (Sel.all _) (.tmp Sr) (Frz.sub (Sub.bool ?_))
 rw [Bool.eq_iff_iff, decide_eq_true_eq]; exact (findI_bd _ l 0 zG).2.2
open Go Go.Proofs Go.Proofs.Tryz
section
variable {C : Cx} {E : Env} {L : List SP} {d : Option Nat} {ty : Nat} {pos : String} {af : Array Edge} {g : Option (Nat × Bool)}
end
theorem rall_t {n : Nat} {f : Nat → Bool} (h : ∀ k, k < n → f k = true) : (List.range n).all f = true := by
  rw [List.all_eq_true]; intro x hx; exact h x (List.mem_range.1 hx)
theorem rall_f {n i : Nat} {f : Nat → Bool} (hi : i < n) (h : f i = false) : (List.range n).all f = false := by
  rw [List.all_eq_false]; exact ⟨i, List.mem_range.2 hi, by simp [h]⟩
theorem rall_iff {n : Nat} {f : Nat → Bool} : (List.range n).all f = true ↔ ∀ k, k < n → f k = true := by
  rw [List.all_eq_true]; exact ⟨fun h k hk => h k (List.mem_range.2 hk), fun h x hx => h x (List.mem_range.1 hx)⟩
open Go Go.Proofs Go.Proofs.Tryz
theorem list_extA {α : Type} [Inhabited α] {l m : List α} (h : l.length = m.length) (hn : ∀ i, i < l.length → nth l i = nth m i) : l = m := by
  refine List.ext_getElem h fun i h1 h2 => ?_
  have := hn i h1
  rwa [nth_get h1, nth_get h2] at this
def letC (c : Int) : Bool := (decide (97 ≤ c) && decide (c ≤ 122)) || (decide (65 ≤ c) && decide (c ≤ 90))
def digC (c : Int) : Bool := (decide (48 ≤ c) && decide (c ≤ 57)) || decide (c = 95)
def nmC (s : ByteArray) (i : Nat) : Bool := letC (nth (bytesOf s) i) || (decide (0 < i) && digC (nth (bytesOf s) i))
def nameM (s : ByteArray) : Bool := (List.range s.size).all (nmC s) && (!decide (s = ⟨#[]⟩) && decide ((s.size : Int) ≤ 24))
def fitM (kind : Int) (v : GValue) : Bool := validV v && (decide (v.Kind = 0) || decide (v.Kind = kind))
def findT (s : GSchema) (n : ByteArray) : Int := findI (fun t => decide (t.Name = n)) 0 s.Tables
def columnT (t : GTable) (n : ByteArray) : Int :=
  if 0 ≤ findI (fun a => decide (a.Name = n)) 0 t.Attrs then findI (fun a => decide (a.Name = n)) 0 t.Attrs
  else findI (fun a => a.Was.any fun x => decide (n = x)) 0 t.Attrs
def namesL (l : List GAttr) : List ByteArray := l.flatMap fun a => a.Name :: a.Was
theorem names_snoc (l : List GAttr) (a : GAttr) : namesL (l ++ [a]) = (namesL l ++ [a.Name]) ++ a.Was := by simp [namesL]
theorem names_len {l : List GAttr} {M : Nat} (h : ∀ a ∈ l, a.Was.length ≤ M) : (namesL l).length ≤ l.length * (M + 1) := by
  induction l with
  | nil => simp [namesL]
  | cons a l ih =>
    have h1 := h a List.mem_cons_self
    have h2 := ih fun x hx => h x (List.mem_cons_of_mem _ hx)
    have e : namesL (a :: l) = (a.Name :: a.Was) ++ namesL l := by simp [namesL]
    rw [e, List.length_append, List.length_cons, List.length_cons, Nat.add_mul]
    omega
/-- Sizes that hold of what is handed in. -/
structure TabSz (t : GTable) : Prop where
  nm : t.Name.size ≤ 9223372036854775807
  at' : t.Attrs.length ≤ 1000000000
  key : t.Key.length ≤ 1000000000000
  was : ∀ a ∈ t.Attrs, a.Was.length ≤ 1000000
  nms : ∀ s ∈ namesL t.Attrs, s.size ≤ 9223372036854775807
structure SchSz (s : GSchema) : Prop where
  tabs : s.Tables.length ≤ 1000000000000
  tab : ∀ t ∈ s.Tables, TabSz t
set_option maxHeartbeats 1000000 in
theorem name_spec (s : ByteArray) (hs : s.size ≤ 9223372036854775807) : Fun1 prog 235 [tV (.string s)] (tV (.bool (nameM s))) := by
 refine Spec.enter func235 rfl rfl fun h0 w0 fr0 => ?_
 refine Jr (Ja rfl (JL_nil (J_seq (Jr (Jm rfl ?_)))))
 refine Js rfl (step_len_str underlying9 Sr) (Jm rfl (JL_nil (J_block ?_)))
 refine J_loopL (σ := Nat) (fun i => i ≤ s.size ∧ ∀ k, k < i → nmC s k = true) (fun i => upd (upd (upd env0 0 (tV (.string s))) 6 (tV (.int .i64 s.size))) 7 (tV (.int .i64 i))) (fun i => []) (fun i => s.size - i) 0 ⟨by omega, fun k hk => by omega⟩ (zU) (LSub.rfl) ?_
 rintro i ⟨hi, hv⟩
 refine Jr (Js rfl (step_lss Sr Sr) (JL_nil (J_seq ?_)))
 refine J_cond Sr (fun h8 => ?_) (fun h8 => ?_)
 ·
  try simp only [NF] at h8
  have hlt : i < s.size := by omega
  refine J_skip (J_seq (J_block (Jr (Jm rfl (Ja rfl ?_)))))
  refine JL_nil (Jr (Jm rfl (Jm rfl ?_)))
  refine Js rfl (step_index_str (i := i) underlying9 Sr Sr (by rfl) (by exact hlt)) ?_
  refine Ja rfl (JL_nil (J_block (J_seq (Jr (Jm rfl ?_)))))
  refine Js rfl (step_geq Sr Sr) (Jm rfl ?_)
  refine Jk rfl Sr rfl (step_move Sr) ?_
  refine Jg rfl Sr rfl (fun hw => step_leq (Sub.w hw) Sr) (Js rfl (step_pick_and Sr Sr) (Ja rfl (JL_nil ?_)))
  refine J_cond Sr (fun hc2 => ?_) (fun hc2 => ?_)
  ·
   try simp only [NF] at hc2
   refine J_skip ?_
   refine J_cond Sr (fun hc3 => ?_) (fun hc3 => ?_)
   ·
    try simp only [NF] at hc3
    refine J_skip (J_region (Js rfl (step_add Sr Sr z6) (Jm rfl (JL_nil ?_))))
    refine K_againL (σ := Nat) (s := i) (i + 1) zO ?_ (zU) (LSub.rfl)
    refine ⟨by omega, fun k hk => ?_⟩
    by_cases e : k = i
    ·
     subst e; first | exact hnm | (simp_all [nmC, letC, digC]; done) | (simp_all [nmC, letC, digC]; omega)
    exact hv k zG
   try simp only [NF] at hc3
   first | contradiction | omega | (simp_all; done)
  try simp only [NF] at hc2
  refine J_region (Jm rfl (Js rfl (step_geq Sr Sr) (Jm rfl ?_)))
  refine Jk rfl Sr rfl (step_move Sr) ?_
  refine Jg rfl Sr rfl (fun hw => step_leq (Sub.w hw) Sr) (Js rfl (step_pick_and Sr Sr) (Ja rfl (JL_nil ?_)))
  refine J_cond Sr (fun hc4 => ?_) (fun hc4 => ?_)
  ·
   try simp only [NF] at hc4
   refine J_skip (J_region (Js rfl (step_add Sr Sr z6) (Jm rfl (JL_nil ?_))))
   refine K_againL (σ := Nat) (s := i) (i + 1) zO ?_ (zU) (LSub.rfl)
   refine ⟨by omega, fun k hk => ?_⟩
   by_cases e : k = i
   ·
    subst e; first | exact hnm | (simp_all [nmC, letC, digC]; done) | (simp_all [nmC, letC, digC]; omega)
   exact hv k zG
  try simp only [NF] at hc4
  refine Jr (Jm rfl (Js rfl (step_gtr Sr Sr) (Jm rfl ?_)))
  refine Jk rfl Sr rfl (step_move Sr) ?_
  refine Jg rfl Sr rfl (fun hw => step_geq (Sub.w hw) Sr) (Jg rfl Sr rfl (fun hw => step_move (Sub.w hw)) ?_)
  refine Ji rfl Sr rfl (step_move Sr) ?_
  refine Jh rfl Sr rfl (fun hw => step_leq (Sub.w hw) Sr) (Jg rfl Sr rfl (fun hw => step_pick_and (Sub.w hw) (Sub.ww hw)) (Jg rfl Sr rfl (fun hw => step_move (Sub.w hw)) ?_))
  refine Ji rfl Sr rfl (step_move Sr) ?_
  refine Jh rfl Sr rfl (fun hw => step_eql (Sub.w hw) Sr) (Jg rfl Sr rfl (fun hw => step_pick_or (Sub.w hw) (Sub.ww hw)) (Js rfl (step_pick_and Sr Sr) (Ja rfl (JL_nil ?_))))
  refine J_cond Sr (fun hc5 => ?_) (fun hc5 => ?_)
  ·
   try simp only [NF] at hc5
   refine J_skip (J_region (Js rfl (step_add Sr Sr z6) (Jm rfl (JL_nil ?_))))
   refine K_againL (σ := Nat) (s := i) (i + 1) zO ?_ (zU) (LSub.rfl)
   refine ⟨by omega, fun k hk => ?_⟩
   by_cases e : k = i
   ·
    subst e; first | exact hnm | (simp_all [nmC, letC, digC]; done) | (simp_all [nmC, letC, digC]; omega)
   exact hv k zG
  try simp only [NF] at hc5
  refine Jr (Ja rfl (JL_nil (J_ret ?_)))
  refine K_ret1 (t := 2) rfl () ?_
  refine Sub.bool ?_
  have : nmC s i = false := by simp_all [nmC, letC, digC]; omega
  simp only [nameM, rall_f hlt this]; simp
 try simp only [NF] at h8
 have hall : (List.range s.size).all (nmC s) = true := rall_t (fun k hk => hv k zG)
 refine J_exit (Jr (Jm rfl (Js rfl (step_neq_str Sr Sr) (Jm rfl ?_))))
 refine Jk rfl Sr rfl (step_move Sr) ?_
 refine Jg rfl Sr rfl (fun hw => step_len_str underlying9 (Sub.w hw)) (Jg rfl Sr rfl (fun hw => step_leq (Sub.w hw) Sr) (Js rfl (step_pick_and Sr Sr) (Ja rfl (JL_nil (J_ret ?_)))))
 refine K_ret1 (t := 2) rfl () ?_
 refine Sub.bool ?_
 simp only [nameM, hall]; simp
theorem fit_spec (kind : Int) (v : GValue) : Fun1 prog 207 [tV (.int .i64 kind), rValue.ty v] (tV (.bool (fitM kind v))) := by
 refine Spec.enter func207 rfl rfl fun h0 w0 fr0 => ?_
 refine Jr (Js rfl (step_box (R := rValue) Sr) (Ja rfl (JL_nil (Jr (Jl rfl ty87 Sr ?_)))))
 refine Js rfl (step_call0 (Valid_spec _) ⟨Sr, trivial⟩ call50) (Jm rfl ?_)
 refine Jk rfl Sr rfl (step_fieldAddr so87 Sr rfl) ?_
 refine Jg rfl Sr rfl (fun hw => step_load_ptr ty3 (Sub.w hw)) (Jg rfl Sr rfl (fun hw => step_eql (Sub.w hw) Sr) (Jg rfl Sr rfl (fun hw => step_move (Sub.w hw)) ?_))
 refine Ji rfl Sr rfl (step_fieldAddr so87 Sr rfl) ?_
 refine Jh rfl Sr rfl (fun hw => step_load_ptr ty3 (Sub.w hw)) ?_
 refine Ji rfl Sr rfl (step_move Sr) ?_
 refine Jh rfl Sr rfl (fun hw => step_eql (Sub.w hw) (Sub.w hw)) (Jg rfl Sr rfl (fun hw => step_pick_or (Sub.w hw) (Sub.ww hw)) (Js rfl (step_pick_and Sr Sr) (Ja rfl (JL_nil (J_ret ?_)))))
 exact K_ret1 (t := 4) rfl () Sr
theorem findF_spec (t : GTable) (n : ByteArray) : Fun1 prog 241 [rTable.ty t, tPtr rStr n] (tV (.bool (decide (t.Name = n)))) := by
 refine Spec.enter func241 rfl rfl fun h0 w0 fr0 => ?_
 refine Jr (Js rfl (step_box (R := rTable) Sr) (Ja rfl (JL_nil (Jr (Js rfl (step_fieldAddr so76 Sr rfl) ?_)))))
 refine Jl rfl ty9 Sr (Jl rfl ty9 Sr (Js rfl (step_eql_str Sr Sr) (Ja rfl (JL_nil (J_ret ?_)))))
 exact K_ret1 (t := 3) rfl () Sr
theorem Find_spec (s : GSchema) (n : ByteArray) (hl : s.Tables.length ≤ 1000000000000) : Fun1 prog 165 [rSchema.ty s, tV (.string n)] (tV (.int .i64 (findT s n))) := by
 refine Spec.enter func165 rfl rfl fun h0 w0 fr0 => ?_
 refine Jr (Js rfl (step_box (R := rSchema) Sr) (Js rfl (step_box (R := rStr) Sr) (Ja rfl (JL_nil (Jr ?_)))))
 refine Js rfl (step_fieldAddr so41 Sr rfl) (Jl rfl ty39 Sr (Js rfl (step_makeFunc (As := [_]) ⟨Sr, trivial⟩) (Js rfl (step_call0 (IndexFuncTab_spec s.Tables hl 241 [tPtr rStr n] (fun t => decide (t.Name = n)) (fun x _ => findF_spec x n) call241) ⟨Sr, Sr, trivial⟩ call240) (Ja rfl (JL_nil ?_)))))
 refine J_ret ?_
 exact K_ret1 (t := 4) rfl () Sr
theorem colF1_spec (t : GAttr) (n : ByteArray) : Fun1 prog 294 [rAttr.ty t, tPtr rStr n] (tV (.bool (decide (t.Name = n)))) := by
 refine Spec.enter func294 rfl rfl fun h0 w0 fr0 => ?_
 refine Jr (Js rfl (step_box (R := rAttr) Sr) (Ja rfl (JL_nil (Jr (Js rfl (step_fieldAddr so89 Sr rfl) ?_)))))
 refine Jl rfl ty9 Sr (Jl rfl ty9 Sr (Js rfl (step_eql_str Sr Sr) (Ja rfl (JL_nil (J_ret ?_)))))
 exact K_ret1 (t := 3) rfl () Sr
theorem colF2_spec (t : GAttr) (n : ByteArray) (hl : t.Was.length ≤ 1000000000000) : Fun1 prog 295 [rAttr.ty t, tPtr rStr n] (tV (.bool (t.Was.any fun x => decide (n = x)))) := by
 refine Spec.enter func295 rfl rfl fun h0 w0 fr0 => ?_
 refine Jr (Js rfl (step_box (R := rAttr) Sr) (Ja rfl (JL_nil (Jr (Js rfl (step_fieldAddr so89 Sr rfl) ?_)))))
 refine Jl rfl ty85 Sr (Jl rfl ty9 Sr (Js rfl (step_call0 (ContainsS_spec _ _ hl) ⟨Sr, Sr, trivial⟩ call296) (Ja rfl (JL_nil (J_ret ?_)))))
 exact K_ret1 (t := 3) rfl () Sr
theorem Column_spec (t : GTable) (n : ByteArray) (hl : t.Attrs.length ≤ 1000000000000) (hw : ∀ a ∈ t.Attrs, a.Was.length ≤ 1000000000000) : Fun1 prog 245 [rTable.ty t, tV (.string n)] (tV (.int .i64 (columnT t n))) := by
 refine Spec.enter func245 rfl rfl fun h0 w0 fr0 => ?_
 refine Jr (Js rfl (step_box (R := rTable) Sr) (Js rfl (step_box (R := rStr) Sr) (Ja rfl (JL_nil (J_seq ?_)))))
 refine Jr (Js rfl (step_fieldAddr so76 Sr rfl) (Jl rfl ty44 Sr (Js rfl (step_makeFunc (As := [_]) ⟨Sr, trivial⟩) (Js rfl (step_call0 (IndexFuncAttr_spec t.Attrs hl 294 [tPtr rStr n] (fun a => decide (a.Name = n)) (fun x _ => colF1_spec x n) call294) ⟨Sr, Sr, trivial⟩ call114) (Ja rfl ?_)))))
 refine JL_nil (Jr (Jm rfl (Js rfl (step_geq Sr Sr) (JL_nil ?_))))
 refine J_cond Sr (fun h11 => ?_) (fun h11 => ?_)
 ·
  try simp only [NF] at h11
  refine Jr (Jm rfl (Ja rfl (JL_nil (J_ret ?_))))
  refine K_ret1 (t := 4) rfl () (Sub.int ?_)
  rw [columnT, if_pos h11]
 try simp only [NF] at h11
 refine J_skip (Jr (Js rfl (step_fieldAddr so76 Sr rfl) (Jl rfl ty44 Sr (Js rfl (step_makeFunc (As := [_]) ⟨Sr, trivial⟩) (Js rfl (step_call0 (IndexFuncAttr_spec t.Attrs hl 295 [tPtr rStr n] (fun a => a.Was.any fun x => decide (n = x)) (fun x hx => colF2_spec x n (hw x hx)) call295) ⟨Sr, Sr, trivial⟩ call114) ?_)))))
 refine Ja rfl (JL_nil (J_ret ?_))
 refine K_ret1 (t := 4) rfl () (Sub.int ?_)
 rw [columnT, if_neg zG]
theorem acolF_spec (t : GAttr) (n : ByteArray) : Fun1 prog 242 [rAttr.ty t, tPtr rStr n] (tV (.bool (decide (t.Name = n)))) := by
 refine Spec.enter func242 rfl rfl fun h0 w0 fr0 => ?_
 refine Jr (Js rfl (step_box (R := rAttr) Sr) (Ja rfl (JL_nil (Jr (Js rfl (step_fieldAddr so89 Sr rfl) ?_)))))
 refine Jl rfl ty9 Sr (Jl rfl ty9 Sr (Js rfl (step_eql_str Sr Sr) (Ja rfl (JL_nil (J_ret ?_)))))
 exact K_ret1 (t := 3) rfl () Sr
def columnL (l : List GAttr) (n : ByteArray) : Int := findI (fun a => decide (a.Name = n)) 0 l
theorem acolumn_spec (l : List GAttr) (n : ByteArray) (hl : l.length ≤ 1000000000000) : Fun1 prog 166 [tSl rAttr l, tV (.string n)] (tV (.int .i64 (columnL l n))) := by
 refine Spec.enter func166 rfl rfl fun h0 w0 fr0 => ?_
 refine Jr (Js rfl (step_box (R := rStr) Sr) (Ja rfl (JL_nil (Jr (Jm rfl ?_)))))
 refine Js rfl (step_makeFunc (As := [_]) ⟨Sr, trivial⟩) (Js rfl (step_call0 (IndexFuncAttr_spec l hl 242 [tPtr rStr n] (fun a => decide (a.Name = n)) (fun x _ => acolF_spec x n) call242) ⟨Sr, Sr, trivial⟩ call114) (Ja rfl (JL_nil (J_ret ?_))))
 exact K_ret1 (t := 4) rfl () Sr
theorem nameF_spec (s : ByteArray) (hs : s.size ≤ 9223372036854775807) : Fun1 prog 237 [tV (.string s)] (tV (.bool (!nameM s))) := by
 refine Spec.enter func237 rfl rfl fun h0 w0 fr0 => ?_
 refine Jr (Ja rfl (JL_nil (Jr (Jm rfl (Js rfl (step_call0 (name_spec _ hs) ⟨Sr, trivial⟩ call235) ?_)))))
 refine Js rfl (step_not Sr) (Ja rfl (JL_nil (J_ret ?_)))
 exact K_ret1 (t := 2) rfl () Sr
open Go
def fldAt (v : Value) (k i o : Nat) : Value := match v with
  | .slice (some a) _ _ => .pointer (some ⟨a.block, a.off + i * k + o, none⟩)
  | _ => undef
theorem splice_in {β : Type} (l c cz : List β) (a K o k : Nat) (hc : c.length = K) (ho : o + k ≤ K) (hl : a + K ≤ l.length) (hg : ∀ j, j < K → l[a + j]? = c[j]?) :
    l.take a ++ (c.take o ++ cz ++ c.drop (o + k)) ++ l.drop (a + K) = l.take (a + o) ++ cz ++ l.drop (a + o + k) := by
  have e : l = l.take a ++ (c ++ l.drop (a + K)) := by
    have e1 : (l.drop a).take K = c := by
      apply List.ext_getElem?
      intro j
      rw [List.getElem?_take]
      by_cases hj : j < K
      · rw [if_pos hj, List.getElem?_drop, hg j hj]
      · rw [if_neg hj, List.getElem?_eq_none (by omega)]
    have e2 : l.drop a = c ++ l.drop (a + K) := by
      rw [← e1, ← List.drop_drop, List.take_append_drop]
    rw [← e2, List.take_append_drop]
  have hA : (l.take a).length = a := by simp; omega
  have h1 : l.take (a + o) = l.take a ++ c.take o := by
    conv => lhs; rw [e]
    rw [List.take_append, hA, List.take_of_length_le (by omega)]
    congr 1
    rw [List.take_append, hc, show a + o - a = o by omega, show o - K = 0 by omega]; simp
  have h2 : l.drop (a + o + k) = c.drop (o + k) ++ l.drop (a + K) := by
    conv => lhs; rw [e]
    rw [List.drop_append, hA, List.drop_of_length_le (by omega), List.nil_append]
    rw [List.drop_append, hc, show a + o + k - a = o + k by omega, show o + k - K = 0 by omega]; simp
  rw [h1, h2]; simp [List.append_assoc]
section
variable {C : Cx} {E : Env} {L : List SP} {d : Option Nat} {ty : Nat} {pos : String} {af : Array Edge} {g : Option (Nat × Bool)}
theorem step_fieldAddr_elem {α : Type} {T e n i : Nat} {fs : List (SF α)} {x : Operand} {v : Value} {xs : List α} {f : SF α} {S : List SP} (So : StructOf C.P T fs) (hx : Sub (opTy E x) (tV (elemAt v (SF.width fs) i))) (hf : fs[n]? = some f)
    (sel : Sel L [own e (rStruct fs) v xs] S) (hi : i < xs.length) : Step1 C ⟨d, .fieldAddr T x n, ty, pos, af, g⟩ E L (tV (fldAt v (SF.width fs) i (SF.off fs n))) :=
  Step.of_run (by intro c h; cases h) fun a w h m l sp st fr => by
    have hp : a.eval x = elemAt v (SF.width fs) i := fr.get hx
    obtain ⟨m1, m2, d12, rfl, ho, s2⟩ := sel.one.1 st
    rcases ho with ⟨rfl, rfl, _⟩ | ⟨b, cap, cur, rfl, rfl, hl, hm, hs, r⟩
    · simp at hi
    · refine ⟨(), _, w, h, _, ?_, HL.refl, sp, st, rfl⟩
      simp only [elemAt, Nat.zero_add] at hp
      have := So.fieldAt hf b (i * SF.width fs) w
      simp [execOp, hp, this, fldAt]
theorem step_store_elemfld {α β : Type} {T e i n : Nat} {fs : List (SF α)} {R : Rp β} {z : β} {x u : Operand} {v : Value} {xs : List α} {y y' : α} {S : List SP} (hR : TyOf C.P T R) (hx : Sub (opTy E x) (tV (fldAt v (SF.width fs) i (SF.off fs n)))) (hv : Sub (opTy E u) (R.ty z))
    (sel : Sel L [own e (rStruct fs) v xs] S) (hy : xs[i]? = some y) (hu : SF.upd y y' R z fs n) :
    Step C ⟨d, .store T x u, ty, pos, af, g⟩ E L (fun _ : Unit => tAny) (fun _ => own e (rStruct fs) v (xs.set i y') :: S) :=
  Step.of_skip (by intro c h; cases h) fun a w h m l sp st fr => by
    have hp : a.eval x = fldAt v (SF.width fs) i (SF.off fs n) := fr.get hx
    have rz := R.cells (fr.get hv)
    have hi : i < xs.length := (List.getElem?_eq_some_iff.1 hy).1
    obtain ⟨m1, m2, d12, rfl, ho, s2⟩ := sel.one.1 st
    rcases ho with ⟨rfl, rfl, _⟩ | ⟨b, cap, cur, rfl, rfl, hl, hm, hs, r⟩
    · simp at hi
    · have hb := sp.heap_own
      have hK : (rStruct fs).k = SF.width fs := rfl
      rw [hK] at r hs
      obtain ⟨c, rc, hc⟩ := relAll_get r hy
      rw [hK] at hc
      have rc : SF.rel h y fs c := rc
      have hcl := SF.rel_len rc
      obtain ⟨rn, hle0⟩ := SF.rel_set rz hu rc
      rw [hcl] at hle0
      have hle : i * SF.width fs + SF.width fs ≤ xs.length * SF.width fs := by rw [← Nat.succ_mul]; exact Nat.mul_le_mul_right _ hi
      have hle2 : xs.length * SF.width fs ≤ cap * SF.width fs := Nat.mul_le_mul_right _ hl
      have hrz := R.len rz
      obtain ⟨w', hrun, hoth, hsame, hnew⟩ := run_storeVar_cells (P := C.P) (b := b) (o := i * SF.width fs + SF.off fs n) (v := a.eval u) hR.size (by simpa using hrz) hb (by rw [hs]; omega) (R.one rz)
      have rn2 := relAll_set (R := rStruct fs) rn hi r
      rw [hK] at rn2
      refine ⟨(), w', h, (PH.one b _).join m2, ?_, HL.same hsame, Sep.write d12 sp (fun b' hne _ => hoth b' hne) hnew, ?_⟩
      · simp only [fldAt, Nat.zero_add] at hp
        simp [execOp, Instr.storeAt, Instr.sureAddr, hp, hrun]
      · refine ⟨_, m2, PH.one_disj_iff.2 (PH.one_disj_iff.1 d12), rfl, .inr ⟨b, cap, _, by simp, rfl, by simpa using hl, hm, ?_, ?_⟩, s2⟩
        · simp only [Array.length_toList] at hrz
          simp only [List.size_toArray, List.length_append, List.length_take, List.length_drop, Array.length_toList, hs, hrz, hK]
          omega
        · have e0 := splice_in cur.toList c (a.eval u).cells.toList (i * SF.width fs) (SF.width fs) (SF.off fs n) R.k hcl hle0 (by simp [hs]; omega) (fun j hj => by
            have h1 := hc j (c[j]'(by omega)) (List.getElem?_eq_getElem (by omega))
            rw [List.getElem?_take] at h1
            split at h1
            · rw [h1, List.getElem?_eq_getElem (by omega)]
            · cases h1)
          have e1 := list_take_splice cur.toList (c.take (SF.off fs n) ++ (a.eval u).cells.toList ++ c.drop (SF.off fs n + R.k)) (i * SF.width fs) (SF.width fs) (xs.length * SF.width fs) hle (by simpa [hs] using hle2) (by simp only [List.length_append, List.length_take, List.length_drop, hrz, hcl]; omega)
          rw [List.length_set]
          show relAll (rStruct fs) h _ (List.take (xs.length * SF.width fs) (List.take (i * SF.width fs + SF.off fs n) cur.toList ++ (a.eval u).cells.toList ++ List.drop (i * SF.width fs + SF.off fs n + R.k) cur.toList).toArray.toList)
          rw [List.toList_toArray, ← e0, e1]
          exact rn2
end
open Go
section
variable {C : Cx} {E : Env} {L : List SP} {d : Option Nat} {ty : Nat} {pos : String} {af : Array Edge} {g : Option (Nat × Bool)}
theorem step_load_elemfld {α : Type} {T e i n : Nat} {fs : List (SF α)} {f : SF α} {x : Operand} {v : Value} {xs : List α} {y : α} {S : List SP} (hR : TyOf C.P T f.R) (hx : Sub (opTy E x) (tV (fldAt v (SF.width fs) i (SF.off fs n)))) (hf : fs[n]? = some f)
    (sel : Sel L [own e (rStruct fs) v xs] S) (hy : xs[i]? = some y) : Step1 C ⟨d, .load T x, ty, pos, af, g⟩ E L (f.R.ty (f.get y)) :=
  Step.of_run (by intro c h; cases h) fun a w h m l sp st fr => by
    have hp : a.eval x = fldAt v (SF.width fs) i (SF.off fs n) := fr.get hx
    obtain ⟨m1, m2, d12, rfl, ho, s2⟩ := sel.one.1 st
    rcases ho with ⟨rfl, rfl, _⟩ | ⟨b, cap, cur, rfl, rfl, hl, hm, hs, r⟩
    · simp at hy
    · have hb := sp.heap_own
      have hK : (rStruct fs).k = SF.width fs := rfl
      obtain ⟨c0, rc0, hc0⟩ := relAll_get r hy
      rw [hK] at hc0
      have rc0 : SF.rel h y fs c0 := rc0
      obtain ⟨c, rc, hc⟩ := SF.rel_field rc0 hf
      have := run_loadVar_cells (b := b) (o := i * SF.width fs + SF.off fs n) (w := w) hR.agg hR.size (f.R.len rc) f.R.scalar (fun j u hu => by
        rw [inw_cells (h := h) hb]
        have h1 := hc0 _ _ (hc j u hu)
        rw [List.getElem?_take] at h1
        split at h1
        · rw [show i * SF.width fs + SF.off fs n + j = i * SF.width fs + (SF.off fs n + j) by omega]; simpa using h1
        · cases h1)
      refine ⟨(), packV f.R.agg c, w, h, _, ?_, HL.refl, sp, st, f.R.pack rc⟩
      simp only [fldAt, Nat.zero_add] at hp
      simp [execOp, Instr.loadAt, Instr.sureAddr, hp, this]
end
open Go
section
variable {C : Cx} {E : Env} {L : List SP} {d : Option Nat} {ty : Nat} {pos : String} {af : Array Edge} {g : Option (Nat × Bool)}
end
/-- A fact that a slot's type tells. -/
theorem K_fact {C : Cx} {k : Act → World → Prop} {E : Env} {L : List SP} {φ : Prop} (t : Nat) (hf : ∀ h v, (E t).p h v → φ) (hk : φ → K C k E L) : K C k E L := fun a w p => by
  obtain ⟨h1, h2, h, m, l, sp, st, f⟩ := id p
  exact hk (hf _ _ (f t)) a w p
/-- A row of one's own tells how its slice is written. -/
theorem K_lenOwn {α : Type} {e : Nat} {R : Rp α} {v : Value} {xs : List α} {C : Cx} {k : Act → World → Prop} {E : Env} {L S : List SP} (sel : Sel L [own e R v xs] S) (hk : (∃ p cap, v = .slice p xs.length cap) → K C k E L) : K C k E L := fun a w p => by
  obtain ⟨h1, h2, h, m, l, sp, st, f⟩ := id p
  obtain ⟨m1, m2, d12, rfl, ho, s2⟩ := sel.one.1 st
  refine hk ?_ a w p
  rcases ho with ⟨rfl, rfl, rfl⟩ | ⟨g, cap, cur, rfl, rfl, hl, hm, hs, hr⟩
  · exact ⟨none, 0, rfl⟩
  · exact ⟨_, cap, rfl⟩
section
variable {C : Cx} {E : Env} {L : List SP} {d : Option Nat} {ty : Nat} {pos : String} {af : Array Edge} {g : Option (Nat × Bool)}
theorem step_lenV {T e n cap : Nat} {p : Option Addr} {x : Operand} (hu : C.P.underlying T = some (.slice e)) (hx : Sub (opTy E x) (rV.ty (.slice p n cap))) :
    Step1 C ⟨d, .call { callee := .builtin .len, args := #[x], argTypes := #[T] }, ty, pos, af, g⟩ E L (tV (.int .i64 n)) :=
  Step.of_same (by intro c h; cases h) fun a w h hw f => by
    have hv : a.eval x = .slice p n cap := (f.get hx).1
    exact ⟨.int .i64 n, by simp [execOp, resolve, invoke, builtin, Builtin.len_, hv, run_underlying hu, goInt], rfl⟩
end
open Go Go.Proofs Go.Proofs.Tryz
def eqL (p : GAttr → GAttr → Bool) (a b : List GAttr) : Bool := decide (a.length = b.length) && (List.range a.length).all fun i => p (nth a i) (nth b i)
def alikeA (x y : GAttr) : Bool := decide (x.Name = y.Name) && decide (x.Kind = y.Kind)
def alikeM (a b : List GAttr) : Bool := eqL alikeA a b
def pickOk (n : Nat) (cols : List Int) : Bool := cols.all fun c => decide (0 ≤ c) && decide (c < n)
def pickL (l : List GAttr) (cols : List Int) : List GAttr := cols.map fun c => nth l c.toNat
def pickM (l : List GAttr) (cols : List Int) : List GAttr := if pickOk l.length cols = true then pickL l cols else []
def sideM (x : GSide) (n : Int) : Bool := if x.Var = -1 then decide (x.Col = 0) && validV x.Value else decide (x.Var = 0) && decide (0 ≤ x.Col) && decide (x.Col < n) && decide (x.Value = ⟨0, 0, ⟨#[]⟩⟩)
def testOk (t : GTest) (n : Int) : Bool := decide (1 ≤ t.Op) && decide (t.Op ≤ 4) && sideM t.Left n && sideM t.Right n && (decide (t.Left.Var = 0) || decide (t.Right.Var = 0))
def renA (t : GTable) (l : List GAttr) (i : Nat) : GAttr := if i < l.length ∧ columnT t (nth l i).Name = i then { nth t.Attrs i with Name := (nth l i).Name } else nth t.Attrs i
def tabI (t : GTable) (l : List GAttr) (n : Nat) : List GAttr := (List.range t.Attrs.length).map fun i => if i < n then renA t l i else nth t.Attrs i
def tableL (t : GTable) (l : List GAttr) : List GAttr := (List.range t.Attrs.length).map (renA t l)
def joinOk (a b : List GAttr) : Bool := b.all fun x => decide (columnL a x.Name < 0) || decide ((nth a (columnL a x.Name).toNat).Kind = x.Kind)
def joinL (a b : List GAttr) : List GAttr := a ++ b.filter fun x => decide (columnL a x.Name < 0)
def renOk (p : GPlan) : Bool := decide (0 ≤ p.Col ∧ p.Col < (nth p.Kids 0).Attrs.length ∧ p.Attrs.length = (nth p.Kids 0).Attrs.length)
def renL (p : GPlan) : List GAttr := (nth p.Kids 0).Attrs.set p.Col.toNat { nth (nth p.Kids 0).Attrs p.Col.toNat with Name := (nth p.Attrs p.Col.toNat).Name }
def grpOk (p : GPlan) : Bool := pickOk (nth p.Kids 0).Attrs.length p.Cols && decide (p.Attrs.length = p.Cols.length + 1 ∧ 1 ≤ p.Agg ∧ p.Agg ≤ 4)
def grpIn (p : GPlan) : Bool := decide (0 ≤ p.Col ∧ p.Col < (nth p.Kids 0).Attrs.length)
def grpB (p : GPlan) : Bool := if p.Agg = 1 then decide (p.Col = -1) else if grpIn p = false then false else if p.Agg = 2 then decide ((nth (nth p.Kids 0).Attrs p.Col.toNat).Kind = 2) else true
def grpK (p : GPlan) : Int := if p.Agg = 1 then 2 else if grpIn p = false then 2 else if p.Agg = 2 then 2 else (nth (nth p.Kids 0).Attrs p.Col.toNat).Kind
def grpL (p : GPlan) : List GAttr := pickL (nth p.Kids 0).Attrs p.Cols ++ [⟨(nth p.Attrs p.Cols.length).Name, grpK p, [], ⟨0, 0, ⟨#[]⟩⟩⟩]
/-- The columns of a query with valid kids. -/
def colsM (s : GSchema) (p : GPlan) : List GAttr × Bool :=
  if p.Kind = 1 then (if 0 ≤ p.Table ∧ p.Table < s.Tables.length then (tableL (nth s.Tables p.Table.toNat) p.Attrs, true) else ([], false))
  else if p.Kind = 2 then ((nth p.Kids 0).Attrs, decide (0 < (p.Tests.length : Int)) && !(p.Tests.any fun t => !testOk t (nth p.Kids 0).Attrs.length))
  else if p.Kind = 3 then (pickM (nth p.Kids 0).Attrs p.Cols, pickOk (nth p.Kids 0).Attrs.length p.Cols)
  else if p.Kind = 4 then (if joinOk (nth p.Kids 0).Attrs (nth p.Kids 1).Attrs = true then (joinL (nth p.Kids 0).Attrs (nth p.Kids 1).Attrs, true) else ([], false))
  else if p.Kind = 5 ∨ p.Kind = 6 then ((nth p.Kids 0).Attrs, alikeM (nth p.Kids 0).Attrs (nth p.Kids 1).Attrs)
  else if p.Kind = 7 then (if renOk p = true then (renL p, true) else ([], false))
  else (if grpOk p = true then (grpL p, grpB p) else ([], false))
theorem tab0 (t : GTable) (l : List GAttr) : tabI t l 0 = t.Attrs := by
  refine list_extA (by simp [tabI]) fun i hi => ?_
  have hi' : i < t.Attrs.length := by simpa [tabI] using hi
  rw [nth_get hi]; simp [tabI]
theorem tabI_len (t : GTable) (l : List GAttr) (n : Nat) : (tabI t l n).length = t.Attrs.length := by simp [tabI]
theorem tabI_nth {t : GTable} {l : List GAttr} {n i : Nat} (h : i < t.Attrs.length) : nth (tabI t l n) i = if i < n then renA t l i else nth t.Attrs i := by
  rw [nth_get (by rw [tabI_len]; exact h)]; simp [tabI]
theorem tab_full {t : GTable} {l : List GAttr} {n : Nat} (h : ¬ (n < t.Attrs.length ∧ n < l.length)) : tabI t l n = tableL t l := by
  unfold tabI tableL
  refine List.map_congr_left fun i hi => ?_
  have hi := List.mem_range.1 hi
  by_cases hn : i < n
  · rw [if_pos hn]
  · rw [if_neg hn, renA, if_neg (by omega)]
theorem tab_keep {t : GTable} {l : List GAttr} {n : Nat} (h1 : n < t.Attrs.length) (h : ¬ columnT t (nth l n).Name = n) : tabI t l (n + 1) = tabI t l n := by
  refine list_extA (by rw [tabI_len, tabI_len]) fun i hi => ?_
  rw [tabI_len] at hi
  rw [tabI_nth hi, tabI_nth hi]
  by_cases e : i = n
  · subst e; rw [if_pos (by omega), if_neg (by omega), renA, if_neg fun q => h q.2]
  · by_cases e2 : i < n
    · rw [if_pos (by omega), if_pos e2]
    · rw [if_neg (by omega), if_neg e2]
theorem tab_set {t : GTable} {l : List GAttr} {n : Nat} (h1 : n < t.Attrs.length) (h2 : n < l.length) (h : columnT t (nth l n).Name = n) : (tabI t l n).set n { nth (tabI t l n) n with Name := (nth l n).Name } = tabI t l (n + 1) := by
  refine list_extA (by rw [List.length_set, tabI_len, tabI_len]) fun i hi => ?_
  rw [List.length_set, tabI_len] at hi
  rw [Lg.nth_set (by rw [tabI_len]; exact hi), tabI_nth hi, tabI_nth hi]
  by_cases e : n = i
  · subst e; rw [if_pos rfl, if_pos (by omega), tabI_nth hi, if_neg (by omega), renA, if_pos ⟨h2, h⟩]
  · rw [if_neg e]
    by_cases e2 : i < n
    · rw [if_pos e2, if_pos (by omega)]
    · rw [if_neg e2, if_neg (by omega)]
theorem join_snoc {a l : List GAttr} {x : GAttr} : joinL a (l ++ [x]) = if columnL a x.Name < 0 then joinL a l ++ [x] else joinL a l := by
  unfold joinL
  rw [List.filter_append]
  by_cases h : columnL a x.Name < 0
  · rw [if_pos h, List.filter_cons_of_pos (by simpa using h)]; simp
  · rw [if_neg h, List.filter_cons_of_neg (by simpa using h)]; simp
theorem joinL_len (a b : List GAttr) : (joinL a b).length ≤ a.length + b.length := by
  unfold joinL; rw [List.length_append]; have := List.length_filter_le (fun x : GAttr => decide (columnL a x.Name < 0)) b; omega
theorem join_nth {a b : List GAttr} {i : Nat} (h : i < a.length) : nth (joinL a b) i = nth a i := by
  have h2 : i < (joinL a b).length := by unfold joinL; rw [List.length_append]; omega
  rw [nth_get h2, nth_get h]; unfold joinL; exact List.getElem_append_left h
theorem col_lt (a : List GAttr) (n : ByteArray) : -1 ≤ columnL a n ∧ columnL a n < a.length := by
  have := findI_bd (fun a : GAttr => decide (a.Name = n)) a 0 (by omega)
  unfold columnL; omega
theorem CloneA_spec (l : List GAttr) (hl : l.length ≤ 1000000000) : Spec (X := Value) prog 158 [tSl rAttr l] ([]) (fun v => rV.ty v) (fun v => [own 89 rAttr v l]) := by
 refine Spec.enter func158 rfl rfl fun h0 w0 fr0 => ?_
 refine Jr (Ja rfl (JL_nil (J_seq (Jr (Jm rfl ?_)))))
 refine Jx rfl (step_eql_slnil underlying44 Sr) fun v4 => ?_
 refine JL_nil ?_
 refine J_cond Sr (fun h4 => ?_) (fun h4 => ?_)
 ·
  try simp only [NF] at h4
  refine Jr (Ja rfl (JL_nil (J_ret ?_)))
  have hl0 := v4.2 h4
  subst hl0
  refine K_lsub (LSub.nilown (e := 89) (R := rAttr)) ?_
  refine K_ret1' (rv := .tmp 2) rfl (.slice none 0 0) (Sel.none _) (.tmp (Sub.rV rfl)) (Frz.sub Sr)
 try simp only [NF] at h4
 refine J_skip (Jr ?_)
 refine Jx rfl (step_literal_own (ys := []) underlying44 el89 trivial rfl (by decide)) fun v5 => ?_
 refine Jm rfl ?_
 refine Jx rfl (step_append underlying44 el89 Sr Sr zS (by simp; omega) (by simp; omega)) fun v7 => ?_
 refine Ja rfl (JL_nil (J_ret ?_))
 refine K_ret1' (rv := .tmp 2) rfl v7 (Sel.none _) (.tmp Sr) (Frz.sub Sr)
theorem alikeF_spec (x y : GAttr) : Fun1 prog 244 [rAttr.ty x, rAttr.ty y] (tV (.bool (alikeA x y))) := by
 refine Spec.enter func244 rfl rfl fun h0 w0 fr0 => ?_
 refine Jr (Js rfl (step_box (R := rAttr) Sr) (Js rfl (step_box (R := rAttr) Sr) (Ja rfl (JL_nil (Jr ?_)))))
 refine Js rfl (step_fieldAddr so89 Sr rfl) (Jl rfl ty9 Sr (Js rfl (step_fieldAddr so89 Sr rfl) (Jl rfl ty9 Sr (Js rfl (step_eql_str Sr Sr) (Jm rfl ?_)))))
 refine Jk rfl Sr rfl (step_fieldAddr so89 Sr rfl) ?_
 refine Jg rfl Sr rfl (fun hw => step_load_ptr ty3 (Sub.w hw)) ?_
 refine Jk rfl Sr rfl (step_fieldAddr so89 Sr rfl) ?_
 refine Jg rfl Sr rfl (fun hw => step_load_ptr ty3 (Sub.w hw)) (Jg rfl Sr rfl (fun hw => step_eql (Sub.w hw) (Sub.w hw)) (Js rfl (step_pick_and Sr Sr) (Ja rfl (JL_nil (J_ret ?_)))))
 exact K_ret1 (t := 4) rfl () Sr
set_option maxHeartbeats 1000000 in
theorem EqualFuncA_spec (a b : List GAttr) (hl : a.length ≤ 1000000000000) (gi : Nat) (As : List Ty) (p : GAttr → GAttr → Bool) (hp : ∀ x y, Fun1 prog gi ([rAttr.ty x, rAttr.ty y] ++ As) (tV (.bool (p x y)))) (he : ∀ args w, (callFunc gi args).run prog w = .ok (.enter gi args) w) : Fun1 prog 243 [tSl rAttr a, tSl rAttr b, tClo gi As] (tV (.bool (eqL p a b))) := by
 refine Spec.enter func243 rfl rfl fun h0 w0 fr0 => ?_
 refine Jr (Ja rfl (JL_nil (J_seq (Jr (Jm rfl ?_)))))
 refine Js rfl (step_len_sl underlying44 Sr) (Jm rfl (Js rfl (step_len_sl underlying44 Sr) (Js rfl (step_neq Sr Sr) (JL_nil ?_))))
 refine J_cond Sr (fun h14 => ?_) (fun h14 => ?_)
 ·
  try simp only [NF] at h14
  refine Jr (Ja rfl (JL_nil (J_ret ?_)))
  refine K_ret1 (t := 6) rfl () ?_
  refine Sub.bool ?_
  have : ¬ a.length = b.length := by omega
  simp [eqL, this]
 try simp only [NF] at h14
 have heq : a.length = b.length := by omega
 refine J_skip (J_seq (Jr (Jm rfl (Js rfl (step_len_sl underlying44 Sr) (Jm rfl ?_)))))
 refine JL_nil (J_block ?_)
 refine J_loopL (σ := Nat) (fun i => i ≤ a.length ∧ ∀ k, k < i → p (nth a k) (nth b k) = true) (fun i => upd (upd (upd (upd (upd env0 1 (tSl rAttr b)) 2 (tClo gi As)) 15 (tSl rAttr a)) 16 (tV (.int .i64 a.length))) 17 (tV (.int .i64 i))) (fun i => []) (fun i => a.length - i) 0 ⟨by omega, fun k hk => by omega⟩ (zU) (LSub.rfl) ?_
 rintro i ⟨hi, hv⟩
 refine Jr (Js rfl (step_lss Sr Sr) (JL_nil (J_seq ?_)))
 refine J_cond Sr (fun h18 => ?_) (fun h18 => ?_)
 ·
  try simp only [NF] at h18
  have hlt : i < a.length := by omega
  refine J_skip (J_seq (J_block (Jr (Jm rfl ?_))))
  refine Js rfl (step_indexAddr_sl  underlying44 ty89 Sr Sr rfl (gb (by exact hlt))) ?_
  refine Jl rfl ty89 Sr ?_
  refine Jx rfl (step_alloc (fun w => zeroValue89 w) zr89) fun v8 => ?_
  refine Ja rfl ?_
  refine Ju (step_store_box ty89 Sr Sr zS) fun _ => ?_
  refine JL_freeze (t := 8) (Sel.take (Sel.none _)) Frz.box ?_
  refine JL_nil (Jr (Jm rfl (Jm rfl ?_)))
  refine Js rfl (step_indexAddr_sl (i := i) underlying44 ty89 Sr Sr (by rfl) (gb (by show i < b.length; omega))) ?_
  refine Jl rfl ty89 Sr ?_
  refine Jx rfl (step_alloc (fun w => zeroValue89 w) zr89) fun v9 => ?_
  refine Ju (step_store_box ty89 Sr Sr zS) fun _ => ?_
  refine JL_freeze (t := 9) (Sel.take (Sel.none _)) Frz.box ?_
  refine JL_nil (Jr (Jm rfl (Jl rfl ty89 Sr (Jl rfl ty89 Sr (Js rfl (step_callv0 (aT := [_, _]) Sr (hp _ _) ⟨Sr, Sr, trivial⟩ he) ?_)))))
  refine Js rfl (step_not Sr) (JL_nil ?_)
  refine J_cond Sr (fun h30 => ?_) (fun h30 => ?_)
  ·
   try simp only [NF] at h30
   refine Jr (Ja rfl (JL_nil (J_ret ?_)))
   refine K_ret1 (t := 6) rfl () ?_
   refine Sub.bool ?_
   have : p (nth a i) (nth b i) = false := by simpa using h30
   simp only [eqL, rall_f (f := fun i => p (nth a i) (nth b i)) hlt this]; simp
  try simp only [NF] at h30
  refine J_skip (J_region (Js rfl (step_add Sr Sr z6) (Jm rfl (JL_nil ?_))))
  refine K_againL (σ := Nat) (s := i) (i + 1) zO ?_ (zU) (LSub.rfl)
  refine ⟨by omega, fun k hk => ?_⟩
  by_cases e : k = i
  ·
   subst e; simpa using h30
  exact hv k zG
 try simp only [NF] at h18
 have hall := rall_t (n := a.length) (fun k hk => hv k zG)
 refine J_exit (Jr (Ja rfl (JL_nil (J_ret ?_))))
 refine K_ret1 (t := 6) rfl () ?_
 refine Sub.bool ?_
 rw [eqL, hall]; simp [heq]
theorem alike_spec (a b : List GAttr) (hl : a.length ≤ 1000000000000) : Fun1 prog 167 [tSl rAttr a, tSl rAttr b] (tV (.bool (alikeM a b))) := by
 refine Spec.enter func167 rfl rfl fun h0 w0 fr0 => ?_
 refine Jr (Ja rfl (JL_nil (Jr (Jm rfl (Jm rfl ?_)))))
 refine Js rfl (step_call0 (EqualFuncA_spec a b hl 244 [] alikeA (fun x y => alikeF_spec x y) call244) ⟨Sr, Sr, Sub.clo0, trivial⟩ call243) (Ja rfl (JL_nil (J_ret ?_)))
 exact K_ret1 (t := 4) rfl () Sr
set_option maxHeartbeats 1000000 in
theorem pickA_spec (l : List GAttr) (cols : List Int) (hc : cols.length ≤ 1000000000) : Spec (X := Value) prog 255 [tSl rAttr l, tSl rInt cols] ([]) (fun v => tTup [rV.ty v, tV (.bool (pickOk l.length cols))]) (fun v => [own 89 rAttr v (pickM l cols)]) := by
 refine Spec.enter func255 rfl rfl fun h0 w0 fr0 => ?_
 refine Jr (Ja rfl (Ja rfl (JL_nil (Jr (Ja rfl ?_)))))
 refine JL_nil (J_seq (Jr (Jm rfl (Js rfl (step_len_sl underlying36 Sr) (Jm rfl ?_)))))
 refine JL_nil (J_block ?_)
 refine J_loopL (σ := Nat × Value) (fun ⟨i, v⟩ => i ≤ cols.length ∧ ∀ k, k < i → (decide (0 ≤ nth cols k) && decide (nth cols k < l.length)) = true) (fun ⟨i, v⟩ => upd (upd (upd (upd (upd env0 0 (tSl rAttr l)) 6 (rV.ty v)) 9 (tSl rInt cols)) 10 (tV (.int .i64 cols.length))) 11 (tV (.int .i64 i))) (fun ⟨i, v⟩ => [own 89 rAttr v (pickL l (cols.take i))]) (fun ⟨i, v⟩ => cols.length - i) (0, .slice none 0 0) ⟨by omega, fun k hk => by omega⟩ (.u (.u (.u (SubE.upd (Sub.rV rfl) (zU))))) (LSub.nilown) ?_
 rintro ⟨i, v⟩ ⟨hi, hv⟩
 refine Jr (Js rfl (step_lss Sr Sr) (JL_nil (J_seq ?_)))
 refine J_cond Sr (fun h12 => ?_) (fun h12 => ?_)
 ·
  try simp only [NF] at h12
  have hlt : i < cols.length := by omega
  have hpl : (pickL l (cols.take i)).length ≤ 1000000000 := by simp [pickL]; omega
  refine J_skip (J_seq (J_block (Jr ?_)))
  refine Js rfl (step_indexAddr_sl  underlying36 ty3 Sr Sr rfl (gb (by exact hlt))) ?_
  refine Jl rfl ty3 Sr (Ja rfl (JL_nil (J_seq (Jr (Jm rfl ?_)))))
  refine Js rfl (step_lss Sr Sr) (Jm rfl ?_)
  refine Jk rfl Sr rfl (step_move Sr) ?_
  refine Jk rfl Sr rfl (step_move Sr) ?_
  refine Jg rfl Sr rfl (fun hw => step_len_sl underlying44 (Sub.w hw)) (Jg rfl Sr rfl (fun hw => step_geq (Sub.w hw) (Sub.w hw)) (Js rfl (step_pick_or Sr Sr) (JL_nil ?_)))
  refine J_cond Sr (fun h22 => ?_) (fun h22 => ?_)
  ·
   try simp only [NF] at h22
   refine Jr (Ja rfl (Ja rfl (JL_nil (J_ret ?_))))
   have hno : pickOk l.length cols = false := all_f hlt (by rcases h22 with h | h <;> simp <;> omega)
   have hpm : pickM l cols = [] := by rw [pickM, if_neg (by rw [hno]; simp)]
   refine K_drop zS ?_
   refine K_lsub (L' := [own 89 rAttr (.slice none 0 0) (pickM l cols)]) (LSub.trans (LSub.nilown (e := 89) (R := rAttr)) (.c zS (SPs.of (A := own 89 rAttr (.slice none 0 0) ([] : List GAttr)) (by rw [hpm])) (LSub.nil))) ?_
   refine K_ret2' (rv := .tmp 4) (rv' := .tmp 5) rfl (.slice none 0 0) (Sel.none _) (.tmp (Sub.rV rfl)) (.tmp Sr) (Frz.sub Sr) (Frz.sub (Sub.bool hno.symm)) Sr
  try simp only [NF] at h22
  refine J_skip (J_region (Jm rfl (Jm rfl (Jm rfl (Js rfl (step_indexAddr_sl (i := (nth cols i).toNat) underlying44 ty89 Sr Sr zG (gb zG)) ?_)))))
  refine Jl rfl ty89 Sr ?_
  refine Js rfl (step_literal (ys := [_]) underlying44 el89 ⟨rfl, Sr, trivial⟩ rfl (by decide)) ?_
  refine Jx rfl (step_append underlying44 el89 Sr Sr zS (by simp; omega) (by simp; omega)) fun v29 => ?_
  refine Ja rfl (JL_nil (J_region (Js rfl (step_add Sr Sr z6) (Jm rfl (JL_nil ?_)))))
  refine K_againL (σ := Nat × Value) (s := (i, v)) (i + 1, v29) zO ?_ (zU) (.c zS (SPs.of (A := own 89 rAttr v29 (pickL l (cols.take i) ++ [nth l (nth cols i).toNat])) (by rw [takeB hlt]; simp [pickL])) (LSub.nil))
  refine ⟨by omega, fun k hk => ?_⟩
  by_cases e : k = i
  ·
   subst e; simp; omega
  exact hv k zG
 try simp only [NF] at h12
 obtain rfl : i = cols.length := by omega
 have hok : pickOk l.length cols = true := all_t hv
 refine J_exit (Jr (Jm rfl (Ja rfl (Ja rfl (JL_nil ?_)))))
 refine J_ret ?_
 have hpm : pickM l cols = pickL l cols := by rw [pickM, if_pos hok]
 refine K_lsub (L' := [own 89 rAttr v (pickM l cols)]) (.c zS (SPs.of (A := own 89 rAttr v (pickL l (cols.take cols.length))) (by rw [hpm, List.take_length])) (LSub.nil)) ?_
 refine K_ret2' (rv := .tmp 4) (rv' := .tmp 5) rfl v (Sel.none _) (.tmp Sr) (.tmp Sr) (Frz.sub Sr) (Frz.sub (Sub.bool hok.symm)) Sr
theorem side_spec (x : GSide) (n : Int) : Fun1 prog 298 [rSide.ty x, tV (.int .i64 n)] (tV (.bool (sideM x n))) := by
 refine Spec.enter func298 rfl rfl fun h0 w0 fr0 => ?_
 refine Jr (Js rfl (step_box (R := rSide) Sr) (Ja rfl (JL_nil (J_seq (Jr ?_)))))
 refine Js rfl (step_fieldAddr so91 Sr rfl) (Jl rfl ty3 Sr (Js rfl (step_eql Sr Sr) (JL_nil ?_)))
 refine J_cond Sr (fun h7 => ?_) (fun h7 => ?_)
 ·
  try simp only [NF] at h7
  refine Jr (Js rfl (step_fieldAddr so91 Sr rfl) (Jl rfl ty3 Sr (Js rfl (step_eql Sr Sr) (Jm rfl ?_))))
  refine Jk rfl Sr rfl (step_fieldAddr so91 Sr rfl) ?_
  refine Jg rfl Sr rfl (fun hw => step_load_ptr ty87 (Sub.w hw)) (Jg rfl Sr rfl (fun hw => step_call0 (Valid_spec _) ⟨(Sub.w hw), trivial⟩ call50) (Js rfl (step_pick_and Sr Sr) (Ja rfl (JL_nil (J_ret ?_)))))
  refine K_ret1 (t := 4) rfl () ?_
  refine Sub.bool ?_
  simp [sideM, h7]
 try simp only [NF] at h7
 refine J_skip (Jr (Js rfl (step_fieldAddr so91 Sr rfl) (Jl rfl ty3 Sr (Js rfl (step_eql Sr Sr) (Jm rfl ?_)))))
 refine Jk rfl Sr rfl (step_fieldAddr so91 Sr rfl) ?_
 refine Jg rfl Sr rfl (fun hw => step_load_ptr ty3 (Sub.w hw)) (Jg rfl Sr rfl (fun hw => step_geq (Sub.w hw) Sr) (Js rfl (step_pick_and Sr Sr) (Jm rfl ?_)))
 refine Jk rfl Sr rfl (step_fieldAddr so91 Sr rfl) ?_
 refine Jg rfl Sr rfl (fun hw => step_load_ptr ty3 (Sub.w hw)) ?_
 refine Jk rfl Sr rfl (step_move Sr) ?_
 refine Jg rfl Sr rfl (fun hw => step_lss (Sub.w hw) (Sub.w hw)) (Js rfl (step_pick_and Sr Sr) (Jm rfl ?_))
 refine Jk rfl Sr rfl (step_fieldAddr so91 Sr rfl) ?_
 refine Jg rfl Sr rfl (fun hw => step_load_ptr ty87 (Sub.w hw)) ?_
 refine Jk rfl Sr rfl (step_build (x := (⟨0, 0, ⟨#[]⟩⟩ : GValue)) (zs := [[Value.int .i64 0], [Value.int .i64 0], [Value.string ⟨#[]⟩]]) so87 (fun w => zeroValue87 w) trivial ⟨fun _ => rfl, fun _ => rfl, fun _ => rfl, trivial⟩) ?_
 refine Jg rfl Sr rfl (fun hw => step_eql_val (Sub.w hw) (Sub.w hw)) (Js rfl (step_pick_and Sr Sr) (Ja rfl (JL_nil (J_ret ?_))))
 refine K_ret1 (t := 4) rfl () ?_
 refine Sub.bool ?_
 simp [sideM, h7]
theorem testR_spec (t : GTest) (n : Int) : Fun1 prog 248 [rTest.ty t, tV (.int .i64 n)] (tV (.bool (testOk t n))) := by
 refine Spec.enter func248 rfl rfl fun h0 w0 fr0 => ?_
 refine Jr (Js rfl (step_box (R := rTest) Sr) (Ja rfl (JL_nil (Jr (Js rfl (step_fieldAddr so93 Sr rfl) ?_)))))
 refine Jl rfl ty3 Sr (Js rfl (step_geq Sr Sr) (Jm rfl ?_))
 refine Jk rfl Sr rfl (step_fieldAddr so93 Sr rfl) ?_
 refine Jg rfl Sr rfl (fun hw => step_load_ptr ty3 (Sub.w hw)) (Jg rfl Sr rfl (fun hw => step_leq (Sub.w hw) Sr) (Js rfl (step_pick_and Sr Sr) (Jm rfl ?_)))
 refine Jk rfl Sr rfl (step_fieldAddr so93 Sr rfl) ?_
 refine Jg rfl Sr rfl (fun hw => step_load_ptr ty91 (Sub.w hw)) ?_
 refine Jk rfl Sr rfl (step_move Sr) ?_
 refine Jg rfl Sr rfl (fun hw => step_call0 (side_spec _ _) ⟨(Sub.w hw), (Sub.w hw), trivial⟩ call298) (Js rfl (step_pick_and Sr Sr) (Jm rfl ?_))
 refine Jk rfl Sr rfl (step_fieldAddr so93 Sr rfl) ?_
 refine Jg rfl Sr rfl (fun hw => step_load_ptr ty91 (Sub.w hw)) ?_
 refine Jk rfl Sr rfl (step_move Sr) ?_
 refine Jg rfl Sr rfl (fun hw => step_call0 (side_spec _ _) ⟨(Sub.w hw), (Sub.w hw), trivial⟩ call298) (Js rfl (step_pick_and Sr Sr) (Jm rfl ?_))
 refine Jk rfl Sr rfl (step_fieldAddr so93 Sr rfl) ?_
 refine Jg rfl Sr rfl (fun hw => step_fieldAddr so91 (Sub.w hw) rfl) (Jg rfl Sr rfl (fun hw => step_load_ptr ty3 (Sub.w hw)) (Jg rfl Sr rfl (fun hw => step_eql (Sub.w hw) Sr) (Jg rfl Sr rfl (fun hw => step_move (Sub.w hw)) ?_)))
 refine Ji rfl Sr rfl (step_fieldAddr so93 Sr rfl) ?_
 refine Jh rfl Sr rfl (fun hw => step_fieldAddr so91 (Sub.w hw) rfl) (Jh rfl Sr rfl (fun hw => step_load_ptr ty3 (Sub.w hw)) (Jh rfl Sr rfl (fun hw => step_eql (Sub.w hw) Sr) (Jg rfl Sr rfl (fun hw => step_pick_or (Sub.w hw) (Sub.ww hw)) (Js rfl (step_pick_and Sr Sr) (Ja rfl ?_)))))
 refine JL_nil (J_ret ?_)
 exact K_ret1 (t := 4) rfl () Sr
theorem selF_spec (t : GTest) (kid : List GAttr) : Fun1 prog 247 [rTest.ty t, tPtr (rSl rAttr) kid] (tV (.bool (!testOk t kid.length))) := by
 refine Spec.enter func247 rfl rfl fun h0 w0 fr0 => ?_
 refine Jr (Js rfl (step_box (R := rTest) Sr) (Ja rfl (JL_nil (Jr (Jl rfl ty93 Sr ?_)))))
 refine Jl rfl ty44 Sr (Js rfl (step_len_sl underlying44 Sr) (Js rfl (step_call0 (testR_spec _ _) ⟨Sr, Sr, trivial⟩ call248) (Js rfl (step_not Sr) (Ja rfl (JL_nil ?_)))))
 refine J_ret ?_
 exact K_ret1 (t := 3) rfl () Sr
open Go Go.Proofs Go.Proofs.Tryz
theorem Sub.tupSB {α : Type} {R : Rp α} {xs ys : List α} {a b : Bool} (h1 : xs = ys) (h2 : a = b) : Sub (tTup [tSl R xs, tV (.bool a)]) (tTup [tSl R ys, tV (.bool b)]) := by subst h1 h2; exact Sr
theorem pickM_len (l : List GAttr) (cols : List Int) : (pickM l cols).length ≤ cols.length := by unfold pickM; split <;> simp [pickL]
theorem kids_pos {n : Nat} {xs : List GPlan} {h : PH} {v : Value} (hp : 0 < xs.length) (hv : (tSl (rPlan n) xs).p h v) : ∃ m, n = m + 1 := by
  obtain ⟨ao, cap, e, H⟩ := hv
  obtain ⟨b, off, ea, H2⟩ := H (by intro q; subst q; simp at hp)
  obtain ⟨cs, _, r⟩ := H2 0 (xs[0]) (List.getElem?_eq_getElem hp)
  exact rPl_pos cPl rAttr rTest r
theorem plan_pos {n : Nat} {p : Gplan} {h : PH} {v : Value} (hp : 0 < p.Plan.Kids.length) (hv : ((rplan n).ty p).p h v) : ∃ m, n = m + 1 := by
  obtain ⟨cs, r, _⟩ := hv
  obtain ⟨c0, _, rfl, r0, _⟩ := r
  obtain ⟨d0, _, rfl, _, d1, _, rfl, _, d2, _, rfl, r2, _⟩ := (show SF.rel h p.Plan (fsPl cPl rAttr rTest (rPlan n)) c0 from r0)
  obtain ⟨u, _, hu⟩ := r2
  exact kids_pos hp hu
set_option maxHeartbeats 2000000 in
theorem plTable_spec (n : Nat) (p : Gplan) (hz : SchSz p.schema) (hl : p.Plan.Attrs.length ≤ 1000000000) : Fun1 prog 170 [(rplan n).ty p] (tTup [tSl rAttr (if 0 ≤ p.Plan.Table ∧ p.Plan.Table < p.schema.Tables.length then tableL (nth p.schema.Tables p.Plan.Table.toNat) p.Plan.Attrs else []), tV (.bool (decide (0 ≤ p.Plan.Table ∧ p.Plan.Table < p.schema.Tables.length)))]) := by
 refine Spec.enter func170 rfl rfl fun h0 w0 fr0 => ?_
 refine Jr (Js rfl (step_box (R := (rplan n)) Sr) (Ja rfl (Ja rfl (JL_nil (J_seq ?_)))))
 refine Jr (Js rfl (step_fieldAddr so217 Sr rfl) (Js rfl (step_fieldAddr so46 Sr rfl) (Jl rfl ty3 Sr (Js rfl (step_lss Sr Sr) (Jm rfl ?_)))))
 refine Jk rfl Sr rfl (step_fieldAddr so217 Sr rfl) ?_
 refine Jg rfl Sr rfl (fun hw => step_fieldAddr so46 (Sub.w hw) rfl) (Jg rfl Sr rfl (fun hw => step_load_ptr ty3 (Sub.w hw)) ?_)
 refine Jk rfl Sr rfl (step_fieldAddr so217 Sr rfl) ?_
 refine Jg rfl Sr rfl (fun hw => step_fieldAddr so41 (Sub.w hw) rfl) (Jg rfl Sr rfl (fun hw => step_load_ptr ty39 (Sub.w hw)) (Jg rfl Sr rfl (fun hw => step_len_sl underlying39 (Sub.w hw)) (Jg rfl Sr rfl (fun hw => step_geq (Sub.w hw) (Sub.w hw)) (Js rfl (step_pick_or Sr Sr) (JL_nil ?_)))))
 refine J_cond Sr (fun h20 => ?_) (fun h20 => ?_)
 ·
  try simp only [NF] at h20
  refine Jr (Ja rfl (Ja rfl (JL_nil (J_ret ?_))))
  refine K_ret2' (rv := .tmp 2) (rv' := .tmp 3) rfl () (Sel.all _) (.tmp Sr) (.tmp Sr) (B := tSl rAttr []) (B' := tV (.bool false)) (Frz.sub Sub.nilsl) (Frz.sub Sr) ?_
  rw [if_neg zG, decide_eq_false zG]
  exact Sr
 try simp only [NF] at h20
 have hin : 0 ≤ p.Plan.Table ∧ p.Plan.Table < p.schema.Tables.length := by omega
 have hT := hz.tab _ (nth_mem (l := p.schema.Tables) (i := p.Plan.Table.toNat) zG)
 have hTl := hT.at'
 refine J_skip (Jr (Js rfl (step_fieldAddr so217 Sr rfl) (Js rfl (step_fieldAddr so41 Sr rfl) (Jl rfl ty39 Sr (Js rfl (step_fieldAddr so217 Sr rfl) ?_)))))
 refine Js rfl (step_fieldAddr so46 Sr rfl) (Jl rfl ty3 Sr ?_)
 refine Js rfl (step_indexAddr_sl (i := p.Plan.Table.toNat) underlying39 ty76 Sr Sr (by show p.Plan.Table = _; omega) (gb (by show p.Plan.Table.toNat < p.schema.Tables.length; omega))) ?_
 refine Jl rfl ty76 Sr ?_
 refine Jx rfl (step_alloc (fun w => zeroValue76 w) zr76) fun v4 => ?_
 refine Ju (step_store_box ty76 Sr Sr zS) fun _ => ?_
 refine JL_freeze (t := 4) (Sel.take (Sel.none _)) Frz.box ?_
 refine JL_nil (Jr (Js rfl (step_fieldAddr so76 Sr rfl) (Jl rfl ty44 Sr ?_)))
 refine Jx rfl (step_call (Sel.none _) (CloneA_spec _ hTl) ⟨Sr, trivial⟩ call158) fun v31 => ?_
 refine Ja rfl (JL_nil (J_seq (Jr (Jm rfl ?_))))
 refine Js rfl (step_len_own underlying44 Sr zS) ?_
 refine Js rfl (step_fieldAddr so217 Sr rfl) (Js rfl (step_fieldAddr so46 Sr rfl) (Jl rfl ty44 Sr (Js rfl (step_len_sl underlying44 Sr) (Js rfl (step_min Sr Sr) (Jm rfl ?_)))))
 refine JL_nil (J_block ?_)
 refine J_loopL (σ := Nat) (fun i => i ≤ (nth p.schema.Tables p.Plan.Table.toNat).Attrs.length ∧ i ≤ p.Plan.Attrs.length) (fun i => upd (upd (upd (upd (upd (upd (upd env0 1 (tPtr (rplan n) p)) 2 (tV (.slice none 0 0))) 3 (tV (.bool false))) 4 (tPtr rTable (nth p.schema.Tables p.Plan.Table.toNat))) 5 (rV.ty v31)) 38 (tV (.int .i64 (if (p.Plan.Attrs.length : Int) < ((nth p.schema.Tables p.Plan.Table.toNat).Attrs.length : Int) then (p.Plan.Attrs.length : Int) else ((nth p.schema.Tables p.Plan.Table.toNat).Attrs.length : Int))))) 39 (tV (.int .i64 i))) (fun i => [own 89 rAttr v31 (tabI (nth p.schema.Tables p.Plan.Table.toNat) p.Plan.Attrs i)]) (fun i => (nth p.schema.Tables p.Plan.Table.toNat).Attrs.length - i) 0 ⟨by omega, by omega⟩ (zU) (.c zS (SPs.of (A := own 89 rAttr v31 (nth p.schema.Tables p.Plan.Table.toNat).Attrs) (by rw [tab0])) (LSub.nil)) ?_
 rintro i ⟨hi, hi2⟩
 refine Jr (Js rfl (step_lss Sr Sr) (JL_nil (J_seq ?_)))
 refine J_cond Sr (fun h40 => ?_) (fun h40 => ?_)
 ·
  try simp only [NF] at h40
  have hlt : i < (nth p.schema.Tables p.Plan.Table.toNat).Attrs.length ∧ i < p.Plan.Attrs.length := by split at h40 <;> omega
  have hlt1 := hlt.1
  have hlt2 := hlt.2
  refine J_skip (J_seq (J_block (Jr (Jm rfl (Ja rfl ?_)))))
  refine JL_nil (J_seq ?_)
  refine J_draw [⟨0, [4], true⟩, ⟨1, [1], true⟩, ⟨2, [43], true⟩, ⟨3, [44], true⟩, ⟨4, [6], true⟩, ⟨5, [45, 46], true⟩, ⟨6, [47], true⟩, ⟨7, [48], true⟩, ⟨8, [42, 49], true⟩, ⟨9, [6], true⟩, ⟨10, [50, 51], true⟩] rfl (by kernel_rfl) ?_
  refine Mf rfl rfl (step_load_ptr ty76 Sr) (Mf rfl rfl (step_fieldAddr so217 Sr rfl) (Mf rfl rfl (step_fieldAddr so46 Sr rfl) (Mf rfl rfl (step_load_ptr ty44 Sr) (Mv rfl rfl ?_))))
  refine Mf rfl rfl (step_indexAddr_sl (i := i) underlying44 ty89 Sr Sr (by rfl) (gb (by exact hlt2))) ?_
  refine Mf rfl rfl (step_fieldAddr so89 Sr rfl) (Mf rfl rfl (step_load_ptr ty9 Sr) ?_)
  refine Mf rfl rfl (step_call0 (Column_spec _ _ zG (fun a ha => Nat.le_trans (hT.was a ha) (by decide))) ⟨Sr, Sr, trivial⟩ call245) ?_
  refine Mv rfl rfl (Mf rfl rfl (step_eql Sr Sr) (JM_nil ?_))
  refine J_cond Sr (fun h52 => ?_) (fun h52 => ?_)
  ·
   try simp only [NF] at h52
   refine J_region (Jm rfl (Jm rfl (Js rfl (step_fieldAddr so217 Sr rfl) (Js rfl (step_fieldAddr so46 Sr rfl) (Jl rfl ty44 Sr ?_)))))
   refine Jm rfl ?_
   refine Js rfl (step_indexAddr_sl (i := i) underlying44 ty89 Sr Sr (by rfl) (gb (by exact hlt2))) ?_
   refine Js rfl (step_fieldAddr so89 Sr rfl) (Jl rfl ty9 Sr ?_)
   refine Js rfl (step_indexAddr_own (i := i) underlying44 ty89 Sr zS Sr (by rfl) (by show i < (tabI _ _ _).length; rw [tabI_len]; exact hlt1)) ?_
   refine Js rfl (step_fieldAddr_elem (i := i) so89 Sr rfl zS (by show i < (tabI _ _ _).length; rw [tabI_len]; exact hlt1)) ?_
   refine Ju (step_store_elemfld (i := i) (y := nth (tabI (nth p.schema.Tables p.Plan.Table.toNat) p.Plan.Attrs i) i) (y' := { nth (tabI (nth p.schema.Tables p.Plan.Table.toNat) p.Plan.Attrs i) i with Name := (nth p.Plan.Attrs i).Name }) ty9 Sr Sr zS (gb (by rw [tabI_len]; exact hlt1)) ⟨fun _ _ q => q, rfl, by intro g hg; simp only [List.mem_cons, List.not_mem_nil, or_false] at hg; rcases hg with rfl | rfl | rfl <;> rfl⟩) fun _ => ?_
   refine JL_nil (J_region (Js rfl (step_add Sr Sr z6) (Jm rfl (JL_nil ?_))))
   refine K_againL (σ := Nat) (s := i) (i + 1) zO ⟨by omega, by omega⟩ (zU) (.c zS (SPs.of (A := own 89 rAttr v31 ((tabI (nth p.schema.Tables p.Plan.Table.toNat) p.Plan.Attrs i).set i { nth (tabI (nth p.schema.Tables p.Plan.Table.toNat) p.Plan.Attrs i) i with Name := (nth p.Plan.Attrs i).Name })) (by rw [tab_set hlt1 hlt2 h52])) (LSub.nil))
  try simp only [NF] at h52
  refine J_skip (J_region (Js rfl (step_add Sr Sr z6) (Jm rfl (JL_nil ?_))))
  refine K_againL (σ := Nat) (s := i) (i + 1) zO ⟨by omega, by omega⟩ (zU) (.c zS (SPs.of (A := own 89 rAttr v31 (tabI (nth p.schema.Tables p.Plan.Table.toNat) p.Plan.Attrs i)) (by rw [tab_keep hlt1 h52])) (LSub.nil))
 try simp only [NF] at h40
 have hfull : tabI (nth p.schema.Tables p.Plan.Table.toNat) p.Plan.Attrs i = tableL (nth p.schema.Tables p.Plan.Table.toNat) p.Plan.Attrs := tab_full (by split at h40 <;> omega)
 refine J_exit (Jr (Jm rfl (Ja rfl (Ja rfl (JL_nil ?_)))))
 refine J_ret ?_
 refine K_ret2' (rv := .tmp 2) (rv' := .tmp 3) rfl () (Sel.all _) (.tmp Sr) (.tmp Sr) (B := tSl rAttr (tabI (nth p.schema.Tables p.Plan.Table.toNat) p.Plan.Attrs i)) (B' := tV (.bool true)) (Frz.own) (Frz.sub Sr) ?_
 rw [if_pos hin, decide_eq_true hin, hfull]
 exact Sr
theorem plSel_spec (n : Nat) (p : Gplan) (hk0 : 0 < p.Plan.Kids.length) (hl : p.Plan.Tests.length ≤ 1000000000) : Fun1 prog 173 [(rplan n).ty p] (tTup [tSl rAttr (nth p.Plan.Kids 0).Attrs, tV (.bool (decide (0 < (p.Plan.Tests.length : Int)) && !(p.Plan.Tests.any fun t => !testOk t (nth p.Plan.Kids 0).Attrs.length)))]) := by
 refine Spec.enter func173 rfl rfl fun h0 w0 fr0 => ?_
 refine K_fact 0 (fun _ _ r => plan_pos hk0 r) fun hm => ?_
 obtain ⟨n, rfl⟩ := hm
 refine Jr (Js rfl (step_box (R := (rplan (n + 1))) Sr) (Ja rfl (Ja rfl (JL_nil (Jr ?_)))))
 refine Js rfl (step_fieldAddr so217 Sr rfl) (Js rfl (step_fieldAddr so46 Sr rfl) (Jl rfl ty42 Sr ?_))
 refine Js rfl (step_indexAddr_sl (i := 0) underlying42 ty46 Sr Sr (by rfl) (gb (by exact hk0))) ?_
 refine Js rfl (step_fieldAddr so46 Sr rfl) (Jl rfl ty44 Sr ?_)
 refine Jx rfl (step_alloc (fun w => zeroValue44 w) zr44) fun v4 => ?_
 refine Ju (step_store_box ty44 Sr Sr zS) fun _ => ?_
 refine JL_freeze (t := 4) (Sel.take (Sel.none _)) Frz.box ?_
 refine JL_nil (J_seq ?_)
 refine J_draw [⟨0, [4], true⟩, ⟨1, [1], true⟩, ⟨2, [12], true⟩, ⟨3, [13], true⟩, ⟨4, [14], true⟩, ⟨5, [15], true⟩, ⟨6, [16], true⟩, ⟨7, [1, 17], true⟩, ⟨8, [17, 18], true⟩, ⟨9, [17, 19], true⟩, ⟨10, [4, 17], true⟩, ⟨11, [17, 20, 21], true⟩, ⟨12, [17, 22], true⟩, ⟨13, [17, 23], true⟩, ⟨14, [11], true⟩, ⟨15, [24], true⟩] rfl (by kernel_rfl) ?_
 refine Mf rfl rfl (step_load_ptr ty44 Sr) (Mf rfl rfl (step_fieldAddr so217 Sr rfl) (Mf rfl rfl (step_fieldAddr so46 Sr rfl) (Mf rfl rfl (step_load_ptr ty43 Sr) (Mf rfl rfl (step_len_sl underlying43 Sr) (Mf rfl rfl (step_gtr Sr Sr) ?_)))))
 refine Mv rfl rfl ?_
 refine Mk rfl rfl Sr rfl (step_fieldAddr so217 Sr rfl) ?_
 refine Mg rfl rfl Sr rfl (fun hw => step_fieldAddr so46 (Sub.w hw) rfl) (Mg rfl rfl Sr rfl (fun hw => step_load_ptr ty43 (Sub.w hw)) ?_)
 refine Mk rfl rfl Sr rfl (step_makeFunc (As := [_]) ⟨Sr, trivial⟩) ?_
 refine Mg rfl rfl Sr rfl (fun hw => step_call0 (ContainsFuncT_spec p.Plan.Tests zG 247 [tPtr (rSl rAttr) (nth p.Plan.Kids 0).Attrs] (fun t => !testOk t (nth p.Plan.Kids 0).Attrs.length) (fun x _ => selF_spec x _) call247) ⟨(Sub.w hw), (Sub.w hw), trivial⟩ call246) (Mg rfl rfl Sr rfl (fun hw => step_not (Sub.w hw)) (Mf rfl rfl (step_pick_and Sr Sr) (Mf rfl rfl (step_assign Sr) (Mf rfl rfl (step_assign Sr) (JM_nil ?_)))))
 refine J_ret ?_
 refine K_ret2' (rv := .tmp 2) (rv' := .tmp 3) rfl () (Sel.all _) (.tmp Sr) (.tmp Sr) (Frz.sub Sr) (Frz.sub Sr) Sr
theorem plProj_spec (n : Nat) (p : Gplan) (hk0 : 0 < p.Plan.Kids.length) (hl : p.Plan.Cols.length ≤ 1000000000) : Fun1 prog 176 [(rplan n).ty p] (tTup [tSl rAttr (pickM (nth p.Plan.Kids 0).Attrs p.Plan.Cols), tV (.bool (pickOk (nth p.Plan.Kids 0).Attrs.length p.Plan.Cols))]) := by
 refine Spec.enter func176 rfl rfl fun h0 w0 fr0 => ?_
 refine K_fact 0 (fun _ _ r => plan_pos hk0 r) fun hm => ?_
 obtain ⟨n, rfl⟩ := hm
 refine Jr (Js rfl (step_box (R := (rplan (n + 1))) Sr) (Ja rfl (Ja rfl (JL_nil (J_seq ?_)))))
 refine J_draw [⟨0, [1], true⟩, ⟨1, [4], true⟩, ⟨2, [5], true⟩, ⟨3, [6], true⟩, ⟨4, [7], true⟩, ⟨5, [8], true⟩, ⟨6, [1], true⟩, ⟨7, [10], true⟩, ⟨8, [11], true⟩, ⟨9, [9, 12], false⟩, ⟨10, [13], true⟩, ⟨11, [13], true⟩, ⟨12, [14], true⟩, ⟨13, [15], true⟩] rfl (by kernel_rfl) ?_
 refine Mf rfl rfl (step_fieldAddr so217 Sr rfl) (Mf rfl rfl (step_fieldAddr so46 Sr rfl) (Mf rfl rfl (step_load_ptr ty42 Sr) ?_))
 refine Mf rfl rfl (step_indexAddr_sl (i := 0) underlying42 ty46 Sr Sr (by rfl) (gb (by exact hk0))) ?_
 refine Mf rfl rfl (step_fieldAddr so46 Sr rfl) (Mf rfl rfl (step_load_ptr ty44 Sr) (Mf rfl rfl (step_fieldAddr so217 Sr rfl) (Mf rfl rfl (step_fieldAddr so46 Sr rfl) (Mf rfl rfl (step_load_ptr ty36 Sr) ?_))))
 refine JM_stepX rfl rfl rfl rfl (step_call (Sel.none _) (pickA_spec _ _ hl) ⟨Sr, Sr, trivial⟩ call255) fun v13 => ?_
 refine Mf rfl rfl (step_extract Sr rfl) (Mf rfl rfl (step_extract Sr rfl) (Mf rfl rfl (step_assign Sr) (Mf rfl rfl (step_assign Sr) (JM_nil (J_ret ?_)))))
 refine K_ret2' (rv := .tmp 2) (rv' := .tmp 3) rfl () (Sel.all _) (.tmp Sr) (.tmp Sr) (Frz.own) (Frz.sub Sr) Sr
set_option maxHeartbeats 2000000 in
theorem plJoin_spec (n : Nat) (p : Gplan) (hk1 : 1 < p.Plan.Kids.length) (hl0 : (nth p.Plan.Kids 0).Attrs.length ≤ 100000000) (hl1 : (nth p.Plan.Kids 1).Attrs.length ≤ 100000000) : Fun1 prog 178 [(rplan n).ty p] (tTup [tSl rAttr (if joinOk (nth p.Plan.Kids 0).Attrs (nth p.Plan.Kids 1).Attrs = true then joinL (nth p.Plan.Kids 0).Attrs (nth p.Plan.Kids 1).Attrs else []), tV (.bool (joinOk (nth p.Plan.Kids 0).Attrs (nth p.Plan.Kids 1).Attrs))]) := by
 refine Spec.enter func178 rfl rfl fun h0 w0 fr0 => ?_
 have hk0 : 0 < p.Plan.Kids.length := by omega
 refine K_fact 0 (fun _ _ r => plan_pos hk0 r) fun hm => ?_
 obtain ⟨n, rfl⟩ := hm
 refine Jr (Js rfl (step_box (R := (rplan (n + 1))) Sr) (Ja rfl (Ja rfl (JL_nil (Jr ?_)))))
 refine Js rfl (step_fieldAddr so217 Sr rfl) (Js rfl (step_fieldAddr so46 Sr rfl) (Jl rfl ty42 Sr ?_))
 refine Js rfl (step_indexAddr_sl (i := 0) underlying42 ty46 Sr Sr (by rfl) (gb (by exact hk0))) ?_
 refine Js rfl (step_fieldAddr so46 Sr rfl) (Jl rfl ty44 Sr ?_)
 refine Jx rfl (step_call (Sel.none _) (CloneA_spec _ (by show (nth p.Plan.Kids 0).Attrs.length ≤ _; omega)) ⟨Sr, trivial⟩ call158) fun v14 => ?_
 refine Ja rfl (JL_nil (J_seq (Jr (Js rfl (step_fieldAddr so217 Sr rfl) (Js rfl (step_fieldAddr so46 Sr rfl) ?_)))))
 refine Jl rfl ty42 Sr ?_
 refine Js rfl (step_indexAddr_sl (i := 1) underlying42 ty46 Sr Sr (by rfl) (gb (by exact hk1))) ?_
 refine Js rfl (step_fieldAddr so46 Sr rfl) (Jl rfl ty44 Sr (Js rfl (step_len_sl underlying44 Sr) (Jm rfl (JL_nil (J_block ?_)))))
 refine J_loopL (σ := Nat × Value) (fun ⟨i, v⟩ => i ≤ (nth p.Plan.Kids 1).Attrs.length ∧ ∀ k, k < i → (decide (columnL (nth p.Plan.Kids 0).Attrs (nth (nth p.Plan.Kids 1).Attrs k).Name < 0) || decide ((nth (nth p.Plan.Kids 0).Attrs (columnL (nth p.Plan.Kids 0).Attrs (nth (nth p.Plan.Kids 1).Attrs k).Name).toNat).Kind = (nth (nth p.Plan.Kids 1).Attrs k).Kind)) = true) (fun ⟨i, v⟩ => upd (upd (upd (upd (upd env0 1 (tPtr (rplan (n + 1)) p)) 4 (rV.ty v)) 20 (tSl rAttr (nth p.Plan.Kids 1).Attrs)) 21 (tV (.int .i64 (nth p.Plan.Kids 1).Attrs.length))) 22 (tV (.int .i64 i))) (fun ⟨i, v⟩ => [own 89 rAttr v (joinL (nth p.Plan.Kids 0).Attrs ((nth p.Plan.Kids 1).Attrs.take i))]) (fun ⟨i, v⟩ => (nth p.Plan.Kids 1).Attrs.length - i) (0, v14) ⟨by omega, fun k hk => by omega⟩ (zU) (.c zS (SPs.of (A := own 89 rAttr v14 (nth p.Plan.Kids 0).Attrs) (by rw [List.take_zero]; simp [joinL])) (LSub.nil)) ?_
 rintro ⟨i, v⟩ ⟨hi, hv⟩
 refine Jr (Js rfl (step_lss Sr Sr) (JL_nil (J_seq ?_)))
 refine J_cond Sr (fun h23 => ?_) (fun h23 => ?_)
 ·
  try simp only [NF] at h23
  have hlt : i < (nth p.Plan.Kids 1).Attrs.length := by omega
  have hcl := col_lt (nth p.Plan.Kids 0).Attrs (nth (nth p.Plan.Kids 1).Attrs i).Name
  have hjl := joinL_len (nth p.Plan.Kids 0).Attrs ((nth p.Plan.Kids 1).Attrs.take i)
  rw [List.length_take] at hjl
  have hsn := join_snoc (a := (nth p.Plan.Kids 0).Attrs) (l := (nth p.Plan.Kids 1).Attrs.take i) (x := nth (nth p.Plan.Kids 1).Attrs i)
  rw [← takeB hlt] at hsn
  refine J_skip (J_seq (J_block (Jr ?_)))
  refine Js rfl (step_indexAddr_sl  underlying44 ty89 Sr Sr rfl (gb (by exact hlt))) ?_
  refine Jl rfl ty89 Sr ?_
  refine Jx rfl (step_alloc (fun w => zeroValue89 w) zr89) fun v6 => ?_
  refine Ju (step_store_box ty89 Sr Sr zS) fun _ => ?_
  refine JL_freeze (t := 6) (Sel.take (Sel.none _)) Frz.box ?_
  refine JL_nil (J_seq ?_)
  refine J_draw [⟨0, [1], true⟩, ⟨1, [26], true⟩, ⟨2, [27], true⟩, ⟨3, [28], true⟩, ⟨4, [29], true⟩, ⟨5, [30], true⟩, ⟨6, [6], true⟩, ⟨7, [32], true⟩, ⟨8, [31, 33], true⟩, ⟨9, [34], true⟩] rfl (by kernel_rfl) ?_
  refine Mf rfl rfl (step_fieldAddr so217 Sr rfl) (Mf rfl rfl (step_fieldAddr so46 Sr rfl) (Mf rfl rfl (step_load_ptr ty42 Sr) ?_))
  refine Mf rfl rfl (step_indexAddr_sl (i := 0) underlying42 ty46 Sr Sr (by rfl) (gb (by exact hk0))) ?_
  refine Mf rfl rfl (step_fieldAddr so46 Sr rfl) (Mf rfl rfl (step_load_ptr ty44 Sr) (Mf rfl rfl (step_fieldAddr so89 Sr rfl) (Mf rfl rfl (step_load_ptr ty9 Sr) ?_)))
  refine Mf rfl rfl (step_call0 (acolumn_spec _ _ (by show (nth p.Plan.Kids 0).Attrs.length ≤ _; omega)) ⟨Sr, Sr, trivial⟩ call166) ?_
  refine Mf rfl rfl (step_assign Sr) (JM_nil (J_block (Jr (Jm rfl (Js rfl (step_lss Sr Sr) ?_)))))
  refine Ja rfl (JL_nil ?_)
  refine J_cond Sr (fun h35 => ?_) (fun h35 => ?_)
  ·
   try simp only [NF] at h35
   refine J_region (Jm rfl (Jl rfl ty89 Sr ?_))
   refine Js rfl (step_literal (ys := [_]) underlying44 el89 ⟨rfl, Sr, trivial⟩ rfl (by decide)) ?_
   refine Jx rfl (step_append underlying44 el89 Sr Sr zS (by simp; omega) (by simp; omega)) fun v41 => ?_
   refine Ja rfl (JL_nil (J_region (Js rfl (step_add Sr Sr z6) (Jm rfl (JL_nil ?_)))))
   refine K_againL (σ := Nat × Value) (s := (i, v)) (i + 1, v41) zO ?_ (zU) (.c zS (SPs.of (A := own 89 rAttr v41 ((joinL (nth p.Plan.Kids 0).Attrs ((nth p.Plan.Kids 1).Attrs.take i)) ++ [nth (nth p.Plan.Kids 1).Attrs i])) (by rw [hsn, if_pos h35])) (LSub.nil))
   refine ⟨by omega, fun k hk => ?_⟩
   by_cases e : k = i
   ·
    subst e; simp [h35]
   exact hv k zG
  try simp only [NF] at h35
  have hjn : nth (joinL (nth p.Plan.Kids 0).Attrs ((nth p.Plan.Kids 1).Attrs.take i)) (columnL (nth p.Plan.Kids 0).Attrs (nth (nth p.Plan.Kids 1).Attrs i).Name).toNat = nth (nth p.Plan.Kids 0).Attrs (columnL (nth p.Plan.Kids 0).Attrs (nth (nth p.Plan.Kids 1).Attrs i).Name).toNat := join_nth zG
  refine J_seq ?_
  refine J_draw [⟨0, [4], true⟩, ⟨1, [7], true⟩, ⟨5, [6], true⟩, ⟨6, [48], true⟩, ⟨2, [43, 44], false⟩, ⟨3, [45], false⟩, ⟨4, [46], false⟩, ⟨7, [47, 49], true⟩, ⟨8, [50], true⟩] rfl (by kernel_rfl) ?_
  refine Mv rfl rfl (Mv rfl rfl (Mf rfl rfl (step_fieldAddr so89 Sr rfl) (Mf rfl rfl (step_load_ptr ty3 Sr) ?_)))
  refine JM_look rfl rfl rfl rfl (step_indexAddr_own (i := (columnL (nth p.Plan.Kids 0).Attrs (nth (nth p.Plan.Kids 1).Attrs i).Name).toNat) underlying44 ty89 Sr zS Sr (by show columnL (nth p.Plan.Kids 0).Attrs (nth (nth p.Plan.Kids 1).Attrs i).Name = _; omega) (by show _ < (joinL _ _).length; unfold joinL; rw [List.length_append]; omega)) ?_
  refine JM_look rfl rfl rfl rfl (step_fieldAddr_elem (i := (columnL (nth p.Plan.Kids 0).Attrs (nth (nth p.Plan.Kids 1).Attrs i).Name).toNat) so89 Sr rfl zS (by show _ < (joinL _ _).length; unfold joinL; rw [List.length_append]; omega)) ?_
  refine JM_look rfl rfl rfl rfl (step_load_elemfld (i := (columnL (nth p.Plan.Kids 0).Attrs (nth (nth p.Plan.Kids 1).Attrs i).Name).toNat) (f := ⟨Int, 3, rInt, GAttr.Kind⟩) ty3 Sr rfl zS (gb (by unfold joinL; rw [List.length_append]; omega))) ?_
  refine Mf rfl rfl (step_neq Sr Sr) (Mf rfl rfl (step_assign Sr) (JM_nil ?_))
  refine J_cond Sr (fun h42 => ?_) (fun h42 => ?_)
  ·
   try simp only [NF] at h42
   refine Jr (Ja rfl (Ja rfl (JL_nil (J_ret ?_))))
   refine K_ret2' (rv := .tmp 2) (rv' := .tmp 3) rfl () (Sel.all _) (.tmp Sr) (.tmp Sr) (B := tSl rAttr []) (B' := tV (.bool false)) (Frz.sub Sub.nilsl) (Frz.sub Sr) ?_
   have hno : joinOk (nth p.Plan.Kids 0).Attrs (nth p.Plan.Kids 1).Attrs = false := all_f hlt (by rw [hjn] at h42; simp [h42]; omega)
   rw [if_neg (by rw [hno]; simp), hno]
   exact Sr
  try simp only [NF] at h42
  refine J_skip (J_region (Js rfl (step_add Sr Sr z6) (Jm rfl (JL_nil ?_))))
  refine K_againL (σ := Nat × Value) (s := (i, v)) (i + 1, v) zO ?_ (zU) (.c zS (SPs.of (A := own 89 rAttr v (joinL (nth p.Plan.Kids 0).Attrs ((nth p.Plan.Kids 1).Attrs.take i))) (by rw [hsn, if_neg zG])) (LSub.nil))
  refine ⟨by omega, fun k hk => ?_⟩
  by_cases e : k = i
  ·
   subst e; rw [hjn] at h42; simp [h42]
  exact hv k zG
 try simp only [NF] at h23
 obtain rfl : i = (nth p.Plan.Kids 1).Attrs.length := by omega
 have hok : joinOk (nth p.Plan.Kids 0).Attrs (nth p.Plan.Kids 1).Attrs = true := all_t hv
 refine K_lsub (L' := [own 89 rAttr v (joinL (nth p.Plan.Kids 0).Attrs (nth p.Plan.Kids 1).Attrs)]) (.c zS (SPs.of (A := own 89 rAttr v (joinL (nth p.Plan.Kids 0).Attrs ((nth p.Plan.Kids 1).Attrs.take (nth p.Plan.Kids 1).Attrs.length))) (by rw [List.take_length])) (LSub.nil)) ?_
 refine J_exit (Jr (Jm rfl (Ja rfl (Ja rfl (JL_nil ?_)))))
 refine J_ret ?_
 refine K_ret2' (rv := .tmp 2) (rv' := .tmp 3) rfl () (Sel.all _) (.tmp Sr) (.tmp Sr) (B := tSl rAttr (joinL (nth p.Plan.Kids 0).Attrs (nth p.Plan.Kids 1).Attrs)) (B' := tV (.bool true)) (Frz.own) (Frz.sub Sr) ?_
 rw [if_pos hok, hok]
 exact Sr
theorem plBoth_spec (n : Nat) (p : Gplan) (hk1 : 1 < p.Plan.Kids.length) (hl0 : (nth p.Plan.Kids 0).Attrs.length ≤ 100000000) : Fun1 prog 180 [(rplan n).ty p] (tTup [tSl rAttr (nth p.Plan.Kids 0).Attrs, tV (.bool (alikeM (nth p.Plan.Kids 0).Attrs (nth p.Plan.Kids 1).Attrs))]) := by
 refine Spec.enter func180 rfl rfl fun h0 w0 fr0 => ?_
 have hk0 : 0 < p.Plan.Kids.length := by omega
 refine K_fact 0 (fun _ _ r => plan_pos hk0 r) fun hm => ?_
 obtain ⟨n, rfl⟩ := hm
 refine Jr (Js rfl (step_box (R := (rplan (n + 1))) Sr) (Ja rfl (Ja rfl (JL_nil (J_seq ?_)))))
 refine J_draw [⟨0, [1], true⟩, ⟨1, [4], true⟩, ⟨2, [5], true⟩, ⟨3, [6], true⟩, ⟨4, [7], true⟩, ⟨5, [8], true⟩, ⟨6, [1], true⟩, ⟨7, [10], true⟩, ⟨8, [11], true⟩, ⟨9, [12], true⟩, ⟨10, [13], true⟩, ⟨11, [14], true⟩, ⟨12, [1], true⟩, ⟨13, [16], true⟩, ⟨14, [17], true⟩, ⟨15, [18], true⟩, ⟨16, [19], true⟩, ⟨17, [20], true⟩, ⟨18, [15, 21], true⟩, ⟨19, [9], true⟩, ⟨20, [22], true⟩] rfl (by kernel_rfl) ?_
 refine Mf rfl rfl (step_fieldAddr so217 Sr rfl) (Mf rfl rfl (step_fieldAddr so46 Sr rfl) (Mf rfl rfl (step_load_ptr ty42 Sr) ?_))
 refine Mf rfl rfl (step_indexAddr_sl (i := 0) underlying42 ty46 Sr Sr (by rfl) (gb (by exact hk0))) ?_
 refine Mf rfl rfl (step_fieldAddr so46 Sr rfl) (Mf rfl rfl (step_load_ptr ty44 Sr) (Mf rfl rfl (step_fieldAddr so217 Sr rfl) (Mf rfl rfl (step_fieldAddr so46 Sr rfl) (Mf rfl rfl (step_load_ptr ty42 Sr) ?_))))
 refine Mf rfl rfl (step_indexAddr_sl (i := 0) underlying42 ty46 Sr Sr (by rfl) (gb (by exact hk0))) ?_
 refine Mf rfl rfl (step_fieldAddr so46 Sr rfl) (Mf rfl rfl (step_load_ptr ty44 Sr) (Mf rfl rfl (step_fieldAddr so217 Sr rfl) (Mf rfl rfl (step_fieldAddr so46 Sr rfl) (Mf rfl rfl (step_load_ptr ty42 Sr) ?_))))
 refine Mf rfl rfl (step_indexAddr_sl (i := 1) underlying42 ty46 Sr Sr (by rfl) (gb (by exact hk1))) ?_
 refine Mf rfl rfl (step_fieldAddr so46 Sr rfl) (Mf rfl rfl (step_load_ptr ty44 Sr) ?_)
 refine Mf rfl rfl (step_call0 (alike_spec _ _ (by show (nth p.Plan.Kids 0).Attrs.length ≤ _; omega)) ⟨Sr, Sr, trivial⟩ call167) ?_
 refine Mf rfl rfl (step_assign Sr) (Mf rfl rfl (step_assign Sr) (JM_nil (J_ret ?_)))
 refine K_ret2' (rv := .tmp 2) (rv' := .tmp 3) rfl () (Sel.all _) (.tmp Sr) (.tmp Sr) (Frz.sub Sr) (Frz.sub Sr) Sr
set_option maxHeartbeats 1000000 in
theorem plRen_spec (n : Nat) (p : Gplan) (hk0 : 0 < p.Plan.Kids.length) (hl0 : (nth p.Plan.Kids 0).Attrs.length ≤ 100000000) : Fun1 prog 183 [(rplan n).ty p] (tTup [tSl rAttr (if renOk p.Plan = true then renL p.Plan else []), tV (.bool (renOk p.Plan))]) := by
 refine Spec.enter func183 rfl rfl fun h0 w0 fr0 => ?_
 refine K_fact 0 (fun _ _ r => plan_pos hk0 r) fun hm => ?_
 obtain ⟨n, rfl⟩ := hm
 refine Jr (Js rfl (step_box (R := (rplan (n + 1))) Sr) (Ja rfl (Ja rfl (JL_nil (Jr ?_)))))
 refine Js rfl (step_fieldAddr so217 Sr rfl) (Js rfl (step_fieldAddr so46 Sr rfl) (Jl rfl ty42 Sr ?_))
 refine Js rfl (step_indexAddr_sl (i := 0) underlying42 ty46 Sr Sr (by rfl) (gb (by exact hk0))) ?_
 refine Js rfl (step_fieldAddr so46 Sr rfl) (Jl rfl ty44 Sr ?_)
 refine Jx rfl (step_call (Sel.none _) (CloneA_spec _ (by show (nth p.Plan.Kids 0).Attrs.length ≤ _; omega)) ⟨Sr, trivial⟩ call158) fun v11 => ?_
 refine Ja rfl (JL_nil (J_seq (Jr (Js rfl (step_fieldAddr so217 Sr rfl) (Js rfl (step_fieldAddr so46 Sr rfl) ?_)))))
 refine Jl rfl ty3 Sr (Js rfl (step_lss Sr Sr) (Jm rfl ?_))
 refine Jk rfl Sr rfl (step_fieldAddr so217 Sr rfl) ?_
 refine Jg rfl Sr rfl (fun hw => step_fieldAddr so46 (Sub.w hw) rfl) (Jg rfl Sr rfl (fun hw => step_load_ptr ty3 (Sub.w hw)) ?_)
 refine Jk rfl Sr rfl (step_move Sr) ?_
 refine Jg rfl Sr rfl (fun hw => step_len_own underlying44 (Sub.w hw) zS) ?_
 refine Jg rfl Sr rfl (fun hw => step_geq (Sub.w hw) (Sub.w hw)) (Js rfl (step_pick_or Sr Sr) (Jm rfl ?_))
 refine Jk rfl Sr rfl (step_fieldAddr so217 Sr rfl) ?_
 refine Jg rfl Sr rfl (fun hw => step_fieldAddr so46 (Sub.w hw) rfl) (Jg rfl Sr rfl (fun hw => step_load_ptr ty44 (Sub.w hw)) (Jg rfl Sr rfl (fun hw => step_len_sl underlying44 (Sub.w hw)) ?_))
 refine Jk rfl Sr rfl (step_move Sr) ?_
 refine Jg rfl Sr rfl (fun hw => step_len_own underlying44 (Sub.w hw) zS) ?_
 refine Jg rfl Sr rfl (fun hw => step_neq (Sub.w hw) (Sub.w hw)) (Js rfl (step_pick_or Sr Sr) (JL_nil ?_))
 refine J_cond Sr (fun h32 => ?_) (fun h32 => ?_)
 ·
  try simp only [NF] at h32
  refine Jr (Ja rfl (Ja rfl (JL_nil (J_ret ?_))))
  refine K_ret2' (rv := .tmp 2) (rv' := .tmp 3) rfl () (Sel.all _) (.tmp Sr) (.tmp Sr) (B := tSl rAttr []) (B' := tV (.bool false)) (Frz.sub Sub.nilsl) (Frz.sub Sr) ?_
  have hno : renOk p.Plan = false := by unfold renOk; rw [decide_eq_false_iff_not]; omega
  rw [if_neg (by rw [hno]; simp), hno]
  exact Sr
 try simp only [NF] at h32
 have hok : renOk p.Plan = true := by unfold renOk; rw [decide_eq_true_eq]; omega
 have hr : 0 ≤ p.Plan.Col ∧ p.Plan.Col < (nth p.Plan.Kids 0).Attrs.length ∧ p.Plan.Attrs.length = (nth p.Plan.Kids 0).Attrs.length := by omega
 refine J_skip (J_seq ?_)
 refine J_draw [⟨0, [4], true⟩, ⟨1, [1], true⟩, ⟨2, [34], true⟩, ⟨3, [35], true⟩, ⟨4, [1], true⟩, ⟨5, [37], true⟩, ⟨6, [38], true⟩, ⟨7, [1], true⟩, ⟨8, [40], true⟩, ⟨9, [41], true⟩, ⟨10, [39, 42], true⟩, ⟨11, [43], true⟩, ⟨12, [44], true⟩, ⟨13, [33, 36], false⟩, ⟨14, [46], false⟩, ⟨15, [45, 47], false⟩] rfl (by kernel_rfl) ?_
 refine Mv rfl rfl (Mf rfl rfl (step_fieldAddr so217 Sr rfl) (Mf rfl rfl (step_fieldAddr so46 Sr rfl) (Mf rfl rfl (step_load_ptr ty3 Sr) (Mf rfl rfl (step_fieldAddr so217 Sr rfl) (Mf rfl rfl (step_fieldAddr so46 Sr rfl) ?_)))))
 refine Mf rfl rfl (step_load_ptr ty44 Sr) (Mf rfl rfl (step_fieldAddr so217 Sr rfl) (Mf rfl rfl (step_fieldAddr so46 Sr rfl) (Mf rfl rfl (step_load_ptr ty3 Sr) ?_)))
 refine Mf rfl rfl (step_indexAddr_sl (i := p.Plan.Col.toNat) underlying44 ty89 Sr Sr (by show p.Plan.Col = _; omega) (gb (by show p.Plan.Col.toNat < p.Plan.Attrs.length; omega))) ?_
 refine Mf rfl rfl (step_fieldAddr so89 Sr rfl) (Mf rfl rfl (step_load_ptr ty9 Sr) ?_)
 refine JM_look rfl rfl rfl rfl (step_indexAddr_own (i := p.Plan.Col.toNat) underlying44 ty89 Sr zS Sr (by show p.Plan.Col = _; omega) (by show _ < (nth p.Plan.Kids 0).Attrs.length; omega)) ?_
 refine JM_look rfl rfl rfl rfl (step_fieldAddr_elem (i := p.Plan.Col.toNat) so89 Sr rfl zS (by show _ < (nth p.Plan.Kids 0).Attrs.length; omega)) ?_
 refine JM_stepU rfl rfl rfl (step_store_elemfld (i := p.Plan.Col.toNat) (y := nth (nth p.Plan.Kids 0).Attrs p.Plan.Col.toNat) (y' := { nth (nth p.Plan.Kids 0).Attrs p.Plan.Col.toNat with Name := (nth p.Plan.Attrs p.Plan.Col.toNat).Name }) ty9 Sr Sr zS (gb (by show _ < (nth p.Plan.Kids 0).Attrs.length; omega)) ⟨fun _ _ q => q, rfl, by intro g hg; simp only [List.mem_cons, List.not_mem_nil, or_false] at hg; rcases hg with rfl | rfl | rfl <;> rfl⟩) fun _ => ?_
 refine JM_nil (Jr (Jm rfl (Ja rfl (Ja rfl (JL_nil ?_)))))
 refine J_ret ?_
 refine K_ret2' (rv := .tmp 2) (rv' := .tmp 3) rfl () (Sel.all _) (.tmp Sr) (.tmp Sr) (B := tSl rAttr (renL p.Plan)) (B' := tV (.bool true)) (Frz.own) (Frz.sub Sr) ?_
 rw [if_pos hok, hok]
 exact Sr
set_option maxHeartbeats 4000000 in
theorem plGrp_spec (n : Nat) (p : Gplan) (hk0 : 0 < p.Plan.Kids.length) (hl0 : (nth p.Plan.Kids 0).Attrs.length ≤ 100000000) (hc : p.Plan.Cols.length ≤ 100000000) : Fun1 prog 186 [(rplan n).ty p] (tTup [tSl rAttr (if grpOk p.Plan = true then grpL p.Plan else []), tV (.bool (grpOk p.Plan && grpB p.Plan))]) := by
 refine Spec.enter func186 rfl rfl fun h0 w0 fr0 => ?_
 refine K_fact 0 (fun _ _ r => plan_pos hk0 r) fun hm => ?_
 obtain ⟨n, rfl⟩ := hm
 refine Jr (Js rfl (step_box (R := (rplan (n + 1))) Sr) (Ja rfl (Ja rfl (JL_nil (Jr ?_)))))
 refine Js rfl (step_fieldAddr so217 Sr rfl) (Js rfl (step_fieldAddr so46 Sr rfl) (Jl rfl ty42 Sr ?_))
 refine Js rfl (step_indexAddr_sl (i := 0) underlying42 ty46 Sr Sr (by rfl) (gb (by exact hk0))) ?_
 refine Js rfl (step_fieldAddr so46 Sr rfl) (Jl rfl ty44 Sr (Ja rfl (JL_nil (Jr (Jm rfl ?_)))))
 refine Js rfl (step_fieldAddr so217 Sr rfl) (Js rfl (step_fieldAddr so46 Sr rfl) (Jl rfl ty36 Sr ?_))
 refine Jx rfl (step_call (Sel.none _) (pickA_spec _ _ (by show p.Plan.Cols.length ≤ _; omega)) ⟨Sr, Sr, trivial⟩ call255) fun v19 => ?_
 refine Jm rfl (Js rfl (step_extract Sr rfl) (Js rfl (step_extract Sr rfl) (Ja rfl (Ja rfl (JL_nil ?_)))))
 refine J_seq (Jr (Jm rfl (Js rfl (step_not Sr) (Jm rfl ?_))))
 refine Jk rfl Sr rfl (step_fieldAddr so217 Sr rfl) ?_
 refine Jg rfl Sr rfl (fun hw => step_fieldAddr so46 (Sub.w hw) rfl) (Jg rfl Sr rfl (fun hw => step_load_ptr ty44 (Sub.w hw)) (Jg rfl Sr rfl (fun hw => step_len_sl underlying44 (Sub.w hw)) ?_))
 refine Jk rfl Sr rfl (step_move Sr) ?_
 refine Jg rfl Sr rfl (fun hw => step_len_own underlying44 (Sub.w hw) zS) ?_
 refine Jg rfl Sr rfl (fun hw => step_add (Sub.w hw) Sr (by show in64 (((pickM (nth p.Plan.Kids 0).Attrs p.Plan.Cols).length : Int) + 1); have := pickM_len (nth p.Plan.Kids 0).Attrs p.Plan.Cols; unfold in64; omega)) ?_
 refine Jg rfl Sr rfl (fun hw => step_neq (Sub.w hw) (Sub.w hw)) (Js rfl (step_pick_or Sr Sr) (Jm rfl ?_))
 refine Jk rfl Sr rfl (step_fieldAddr so217 Sr rfl) ?_
 refine Jg rfl Sr rfl (fun hw => step_fieldAddr so46 (Sub.w hw) rfl) (Jg rfl Sr rfl (fun hw => step_load_ptr ty3 (Sub.w hw)) (Jg rfl Sr rfl (fun hw => step_lss (Sub.w hw) Sr) (Js rfl (step_pick_or Sr Sr) (Jm rfl ?_))))
 refine Jk rfl Sr rfl (step_fieldAddr so217 Sr rfl) ?_
 refine Jg rfl Sr rfl (fun hw => step_fieldAddr so46 (Sub.w hw) rfl) (Jg rfl Sr rfl (fun hw => step_load_ptr ty3 (Sub.w hw)) (Jg rfl Sr rfl (fun hw => step_gtr (Sub.w hw) Sr) (Js rfl (step_pick_or Sr Sr) (JL_nil ?_))))
 refine J_cond Sr (fun h45 => ?_) (fun h45 => ?_)
 ·
  try simp only [NF] at h45
  refine Jr (Ja rfl (Ja rfl (JL_nil (J_ret ?_))))
  refine K_ret2' (rv := .tmp 2) (rv' := .tmp 3) rfl () (Sel.all _) (.tmp Sr) (.tmp Sr) (B := tSl rAttr []) (B' := tV (.bool false)) (Frz.sub Sub.nilsl) (Frz.sub Sr) ?_
  have hno : grpOk p.Plan = false := by
   unfold grpOk
   by_cases hpk : pickOk (nth p.Plan.Kids 0).Attrs.length p.Plan.Cols = true
   ·
    have hpl : (pickM (nth p.Plan.Kids 0).Attrs p.Plan.Cols).length = p.Plan.Cols.length := by rw [pickM, if_pos hpk]; simp [pickL]
    rw [hpk, Bool.true_and, decide_eq_false_iff_not]
    rcases h45 with ((h | h) | h) | h
    ·
     exact absurd hpk (by rw [show pickOk (nth p.Plan.Kids 0).Attrs.length p.Plan.Cols = false from h]; simp)
    all_goals omega
   rw [Bool.eq_false_iff.2 hpk, Bool.false_and]
  rw [if_neg (by rw [hno]; simp), hno]
  exact Sr
 try simp only [NF] at h45
 have hpk : pickOk (nth p.Plan.Kids 0).Attrs.length p.Plan.Cols = true := by simp_all
 have hpm : (pickM (nth p.Plan.Kids 0).Attrs p.Plan.Cols) = pickL (nth p.Plan.Kids 0).Attrs p.Plan.Cols := by rw [pickM, if_pos hpk]
 have hpl : (pickM (nth p.Plan.Kids 0).Attrs p.Plan.Cols).length = p.Plan.Cols.length := by rw [hpm]; simp [pickL]
 have hok : grpOk p.Plan = true := by unfold grpOk; rw [hpk, Bool.true_and, decide_eq_true_eq]; omega
 refine J_skip (Jr (Js rfl (step_fieldAddr so217 Sr rfl) (Js rfl (step_fieldAddr so46 Sr rfl) (Jl rfl ty44 Sr (Jm rfl ?_)))))
 refine Js rfl (step_len_own underlying44 Sr zS) ?_
 refine Js rfl (step_indexAddr_sl (i := p.Plan.Cols.length) underlying44 ty89 Sr Sr (by rw [hpl]) (gb (by show p.Plan.Cols.length < p.Plan.Attrs.length; omega))) ?_
 refine Js rfl (step_fieldAddr so89 Sr rfl) (Jl rfl ty9 Sr (Js rfl (step_build (x := (⟨(nth p.Plan.Attrs p.Plan.Cols.length).Name, 2, [], ⟨0, 0, ⟨#[]⟩⟩⟩ : GAttr)) (zs := [[Value.string ⟨#[]⟩], [Value.int .i64 0], [Value.slice none 0 0], [Value.int .i64 0, Value.int .i64 0, Value.string ⟨#[]⟩]]) so89 (fun w => zeroValue89 w) ⟨Sr, Sr, trivial⟩ ⟨⟨Sr, rfl⟩, ⟨Sr, rfl⟩, fun _ => ⟨_, rfl, none, ⟨0, Nat.le_refl _⟩, rfl, fun q => absurd rfl q⟩, fun _ => ⟨[Value.int .i64 0], _, rfl, rfl, ⟨[Value.int .i64 0], _, rfl, rfl, ⟨[Value.string ⟨#[]⟩], _, rfl, rfl, rfl⟩⟩⟩, trivial⟩) ?_))
 refine Jx rfl (step_alloc (fun w => zeroValue89 w) zr89) fun b7 => ?_
 refine Ju (step_store_box ty89 Sr Sr zS) fun _ => ?_
 refine JL_nil (J_seq (J_block (Jr (Js rfl (step_fieldAddr so217 Sr rfl) (Js rfl (step_fieldAddr so46 Sr rfl) ?_)))))
 refine Jl rfl ty3 Sr (Js rfl (step_eql Sr Sr) (Ja rfl (JL_nil ?_)))
 refine J_cond Sr (fun h63 => ?_) (fun h63 => ?_)
 ·
  try simp only [NF] at h63
  refine J_region (Js rfl (step_fieldAddr so217 Sr rfl) (Js rfl (step_fieldAddr so46 Sr rfl) (Jl rfl ty3 Sr (Js rfl (step_eql Sr Sr) (Ja rfl ?_)))))
  refine JL_nil (Jr (Jm rfl ?_))
  refine Js rfl (step_load_box ty89 Sr zS) ?_
  refine Js rfl (step_literal (ys := [_]) underlying44 el89 ⟨rfl, Sr, trivial⟩ rfl (by decide)) ?_
  refine Jx rfl (step_append underlying44 el89 Sr Sr zS (by rw [hpl]; simp; omega) (by rw [hpl]; simp; omega)) fun v101 => ?_
  refine Jm rfl (Ja rfl (Ja rfl (JL_nil (J_ret ?_))))
  refine K_ret2' (rv := .tmp 2) (rv' := .tmp 3) rfl () (Sel.all _) (.tmp Sr) (.tmp Sr) Frz.own (Frz.sub Sr) (Sub.tupSB ?_ ?_)
  ·
   rw [if_pos hok]
   show (pickM (nth p.Plan.Kids 0).Attrs p.Plan.Cols) ++ _ = _
   rw [hpm]
   first | (simp [grpL, grpK, h63]; done) | (simp [grpL, grpK, h63, hgi]; done) | (simp [grpL, grpK, h63, hgi, h85]; done)
  rw [hok, Bool.true_and]
  first | (simp [grpB, h63]; done) | (simp [grpB, h63, hgi]; done) | (simp [grpB, h63, hgi, h85]; done) | (simp [grpB, h63, hgi, h85]; exact hpk)
 try simp only [NF] at h63
 refine Jr (Js rfl (step_fieldAddr so217 Sr rfl) (Js rfl (step_fieldAddr so46 Sr rfl) (Jl rfl ty3 Sr (Js rfl (step_lss Sr Sr) (Jm rfl ?_)))))
 refine Jk rfl Sr rfl (step_fieldAddr so217 Sr rfl) ?_
 refine Jg rfl Sr rfl (fun hw => step_fieldAddr so46 (Sub.w hw) rfl) (Jg rfl Sr rfl (fun hw => step_load_ptr ty3 (Sub.w hw)) ?_)
 refine Jk rfl Sr rfl (step_move Sr) ?_
 refine Jg rfl Sr rfl (fun hw => step_len_sl underlying44 (Sub.w hw)) (Jg rfl Sr rfl (fun hw => step_geq (Sub.w hw) (Sub.w hw)) (Js rfl (step_pick_or Sr Sr) (Ja rfl (JL_nil ?_))))
 refine J_cond Sr (fun h72 => ?_) (fun h72 => ?_)
 ·
  try simp only [NF] at h72
  have hgi : grpIn p.Plan = false := by unfold grpIn; rw [decide_eq_false_iff_not]; omega
  refine J_region (Ja rfl (JL_nil (Jr (Jm rfl ?_))))
  refine Js rfl (step_load_box ty89 Sr zS) ?_
  refine Js rfl (step_literal (ys := [_]) underlying44 el89 ⟨rfl, Sr, trivial⟩ rfl (by decide)) ?_
  refine Jx rfl (step_append underlying44 el89 Sr Sr zS (by rw [hpl]; simp; omega) (by rw [hpl]; simp; omega)) fun v101 => ?_
  refine Jm rfl (Ja rfl (Ja rfl (JL_nil (J_ret ?_))))
  refine K_ret2' (rv := .tmp 2) (rv' := .tmp 3) rfl () (Sel.all _) (.tmp Sr) (.tmp Sr) Frz.own (Frz.sub Sr) (Sub.tupSB ?_ ?_)
  ·
   rw [if_pos hok]
   show (pickM (nth p.Plan.Kids 0).Attrs p.Plan.Cols) ++ _ = _
   rw [hpm]
   first | (simp [grpL, grpK, h63]; done) | (simp [grpL, grpK, h63, hgi]; done) | (simp [grpL, grpK, h63, hgi, h85]; done)
  rw [hok, Bool.true_and]
  first | (simp [grpB, h63]; done) | (simp [grpB, h63, hgi]; done) | (simp [grpB, h63, hgi, h85]; done) | (simp [grpB, h63, hgi, h85]; exact hpk)
 try simp only [NF] at h72
 have hgi : grpIn p.Plan = true := by unfold grpIn; rw [decide_eq_true_eq]; omega
 have hin : 0 ≤ p.Plan.Col ∧ p.Plan.Col < (nth p.Plan.Kids 0).Attrs.length := by omega
 refine Jr (Js rfl (step_fieldAddr so217 Sr rfl) (Js rfl (step_fieldAddr so46 Sr rfl) (Jl rfl ty3 Sr (Js rfl (step_eql Sr Sr) (Ja rfl ?_)))))
 refine JL_nil ?_
 refine J_cond Sr (fun h85 => ?_) (fun h85 => ?_)
 ·
  try simp only [NF] at h85
  refine J_region (Jm rfl (Js rfl (step_fieldAddr so217 Sr rfl) (Js rfl (step_fieldAddr so46 Sr rfl) (Jl rfl ty3 Sr ?_))))
  refine Js rfl (step_indexAddr_sl (i := p.Plan.Col.toNat) underlying44 ty89 Sr Sr (by show p.Plan.Col = _; omega) (gb (by show _ < (nth p.Plan.Kids 0).Attrs.length; omega))) ?_
  refine Js rfl (step_fieldAddr so89 Sr rfl) (Jl rfl ty3 Sr (Js rfl (step_eql Sr Sr) (Ja rfl (JL_nil (Jr ?_)))))
  refine Jm rfl ?_
  refine Js rfl (step_load_box ty89 Sr zS) ?_
  refine Js rfl (step_literal (ys := [_]) underlying44 el89 ⟨rfl, Sr, trivial⟩ rfl (by decide)) ?_
  refine Jx rfl (step_append underlying44 el89 Sr Sr zS (by rw [hpl]; simp; omega) (by rw [hpl]; simp; omega)) fun v101 => ?_
  refine Jm rfl (Ja rfl (Ja rfl (JL_nil (J_ret ?_))))
  refine K_ret2' (rv := .tmp 2) (rv' := .tmp 3) rfl () (Sel.all _) (.tmp Sr) (.tmp Sr) Frz.own (Frz.sub Sr) (Sub.tupSB ?_ ?_)
  ·
   rw [if_pos hok]
   show (pickM (nth p.Plan.Kids 0).Attrs p.Plan.Cols) ++ _ = _
   rw [hpm]
   first | (simp [grpL, grpK, h63]; done) | (simp [grpL, grpK, h63, hgi]; done) | (simp [grpL, grpK, h63, hgi, h85]; done)
  rw [hok, Bool.true_and]
  first | (simp [grpB, h63]; done) | (simp [grpB, h63, hgi]; done) | (simp [grpB, h63, hgi, h85]; done) | (simp [grpB, h63, hgi, h85]; exact hpk)
 try simp only [NF] at h85
 refine J_region (Jm rfl (Js rfl (step_fieldAddr so217 Sr rfl) (Js rfl (step_fieldAddr so46 Sr rfl) (Jl rfl ty3 Sr ?_))))
 refine Js rfl (step_indexAddr_sl (i := p.Plan.Col.toNat) underlying44 ty89 Sr Sr (by show p.Plan.Col = _; omega) (gb (by show _ < (nth p.Plan.Kids 0).Attrs.length; omega))) ?_
 refine Js rfl (step_fieldAddr so89 Sr rfl) (Jl rfl ty3 Sr (Js rfl (step_fieldAddr_own so89 Sr rfl) ?_))
 refine Ju (step_store_fld (R := rInt) (y' := (⟨(nth p.Plan.Attrs p.Plan.Cols.length).Name, (nth (nth p.Plan.Kids 0).Attrs p.Plan.Col.toNat).Kind, [], ⟨0, 0, ⟨#[]⟩⟩⟩ : GAttr)) ty3 Sr Sr zS (by exact ⟨rfl, fun _ _ q => q, rfl, by intro g hg; simp only [List.mem_cons, List.not_mem_nil, or_false] at hg; rcases hg with rfl | rfl <;> rfl⟩)) fun _ => ?_
 refine JL_nil (Jr (Jm rfl ?_))
 refine Js rfl (step_load_box ty89 Sr zS) ?_
 refine Js rfl (step_literal (ys := [_]) underlying44 el89 ⟨rfl, Sr, trivial⟩ rfl (by decide)) ?_
 refine Jx rfl (step_append underlying44 el89 Sr Sr zS (by rw [hpl]; simp; omega) (by rw [hpl]; simp; omega)) fun v101 => ?_
 refine Jm rfl (Ja rfl (Ja rfl (JL_nil (J_ret ?_))))
 refine K_ret2' (rv := .tmp 2) (rv' := .tmp 3) rfl () (Sel.all _) (.tmp Sr) (.tmp Sr) Frz.own (Frz.sub Sr) (Sub.tupSB ?_ ?_)
 ·
  rw [if_pos hok]
  show (pickM (nth p.Plan.Kids 0).Attrs p.Plan.Cols) ++ _ = _
  rw [hpm]
  first | (simp [grpL, grpK, h63]; done) | (simp [grpL, grpK, h63, hgi]; done) | (simp [grpL, grpK, h63, hgi, h85]; done)
 rw [hok, Bool.true_and]
 first | (simp [grpB, h63]; done) | (simp [grpB, h63, hgi]; done) | (simp [grpB, h63, hgi, h85]; done) | (simp [grpB, h63, hgi, h85]; exact hpk)
open Go
theorem sortWorld_other {α : Type} [Inhabited α] {enc : α → Value} {w : World} {g off m : Nat} {dk : Array α} {os : Array Obj} {b : Nat} (hb : b < w.heap.size) (hne : b ≠ g) : (Go.Proofs.sortWorld enc w g off m dk os).heap[b]? = w.heap[b]? := by
  show ((Sort.mapBlock (Sort.ahead w m) g _).heap ++ os)[b]? = _
  rw [Array.getElem?_append_left (by simp [Sort.mapBlock, Sort.ahead, hb])]
  simp only [Sort.mapBlock, Sort.ahead, Array.getElem?_modify, Ne.symm hne, if_false]
theorem sortWorld_row {α : Type} [Inhabited α] {enc : α → Value} {w : World} {g off m : Nat} {dk : Array α} {os : Array Obj} {cur : Array Value} {e : Nat} {fz : Nat × Nat} (hb : w.heap[g]? = some (.cells cur e fz)) :
    (Go.Proofs.sortWorld enc w g off m dk os).heap[g]? = some (.cells (Sort.putCells enc off dk cur) e fz) := by
  have hlt := (Array.getElem?_eq_some_iff.1 hb).1
  show ((Sort.mapBlock (Sort.ahead w m) g _).heap ++ os)[g]? = _
  rw [Array.getElem?_append_left (by simp [Sort.mapBlock, Sort.ahead, hlt])]
  simp only [Sort.mapBlock, Sort.ahead, Array.getElem?_modify, if_true, hb, Option.map_some, Sort.onCells]
open Go
/-- A function that sorts, cuts or thins a row of one's own strings. -/
theorem row_spec {P : Program} {f : Nat} {As : List Ty} {rest : List Value} (v : Value) (xs : List ByteArray) (ds : List (List UInt8)) (hd : ds.length = xs.length) (m : Nat) (hm : m ≤ xs.length) (ret : Option Addr → Nat → Value) (T : Value → Ty) (hT : ∀ h a n cap, (xs = [] → n = 0) → (xs ≠ [] → n = m) → (T (.slice a n cap)).p h (ret a cap)) (hrest : ∀ h vs, Args h As vs → vs = rest)
    (hk : ∀ (g cap : Nat) (w : World), Sort.Holds Go.Proofs.encStr w g 0 (xs.map ofB).toArray → g < w.heap.size → xs.length ≤ cap → Calls P f (.slice (some ⟨g, 0, none⟩) xs.length cap :: rest).toArray w fun e w' => e = .returned (ret (some ⟨g, 0, none⟩) cap) ∧ ∃ n os, w' = Go.Proofs.sortWorld Go.Proofs.encStr w g 0 n ds.toArray os)
    (hn : ∀ a cap w, xs = [] → Calls P f (.slice a 0 cap :: rest).toArray w fun e w' => e = .returned (ret a cap) ∧ w' = w) :
    Spec (X := { z : Value // m = xs.length → z = v }) P f (rV.ty v :: As) [own 9 rStr v xs] (fun z => T z.1) (fun z => [own 9 rStr z.1 ((ds.take m).map toB)]) := by
  intro vs h m0 r w ha sp st
  match vs, ha with
  | u1 :: us, ⟨a1, a2⟩ =>
  obtain ⟨e1, _⟩ := a1
  subst e1
  have := hrest _ _ a2
  subst this
  obtain ⟨m1, m2, d12, rfl, ho, e3⟩ := st
  rw [stars_nil] at e3; subst e3
  rw [PH.join_emp] at sp
  have none_case : ∀ (p : Option Addr) (cap : Nat), u1 = .slice p 0 cap → xs = [] → (own 9 rStr u1 xs).p h m1 → Calls P f (u1 :: us).toArray w (Ret (X := { z : Value // m = xs.length → z = u1 }) h w r (fun z => T z.1) (fun z => [own 9 rStr z.1 ((ds.take m).map toB)])) := by
    intro p cap hu hx ho
    subst hu; subst hx
    have hds : ds = [] := List.length_eq_zero_iff.1 hd
    subst hds
    refine (hn p cap w rfl).mono ?_
    rintro e' w' ⟨rfl, rfl⟩
    exact ⟨⟨.slice p 0 cap, fun _ => rfl⟩, _, h, m1, rfl, HL.refl, sp, ⟨m1, PH.emp, PH.disj_emp _, (PH.join_emp _).symm, by simpa using ho, rfl⟩, hT _ _ _ _ (fun _ => rfl) (fun q => absurd rfl q)⟩
  have ho0 := ho
  rcases ho with ⟨rfl, rfl, rfl⟩ | ⟨g, cap, cur, rfl, rfl, hl, hmx, hs, hr⟩
  · exact none_case none 0 rfl rfl ho0
  · by_cases hx : xs = []
    · subst hx; exact none_case _ cap rfl rfl ho0
    · have hk1 : rStr.k = 1 := rfl
      rw [hk1, Nat.mul_one] at hs hr
      rw [relAll_str] at hr
      have hb := sp.mw g _ (PH.one_same _ _)
      have hH : Sort.Holds Go.Proofs.encStr w g 0 (xs.map ofB).toArray := fun j hj => ⟨by
        rw [Nat.zero_add]; simp only [World.cell?, hb]
        have hj' : j < xs.length := by simpa using hj
        have : (cur.toList.take xs.length)[j]? = some (.string xs[j]) := by rw [hr]; simp [hj']
        rw [List.getElem?_take, if_pos hj'] at this
        rw [getElem!_pos _ j hj]
        have e2 : Go.Proofs.encStr ((xs.map ofB).toArray[j]) = .string xs[j] := by
          simp only [List.getElem_toArray, List.getElem_map]
        rw [e2]
        first | exact this | simpa using this, by simp [World.frozen?, hb]⟩
      have hblk : g < w.heap.size := (Array.getElem?_eq_some_iff.1 hb).1
      refine (hk g cap w hH hblk hl).mono ?_
      rintro e' w' ⟨rfl, n, os, rfl⟩
      have hlen : ((ds.take m).map toB).length = m := by rw [List.length_map, List.length_take, Nat.min_eq_left (by omega)]
      refine ⟨⟨.slice (some ⟨g, 0, none⟩) m cap, fun q => by rw [q]⟩, _, h, PH.one g (.cells (Sort.putCells Go.Proofs.encStr 0 ds.toArray cur) 9 (0, 0)), rfl, HL.same ⟨rfl, rfl, rfl⟩, ?_, ⟨_, PH.emp, PH.disj_emp _, (PH.join_emp _).symm, .inr ⟨g, cap, _, by rw [hlen], rfl, by rw [hlen]; omega, hmx, ?_, ?_⟩, rfl⟩, hT _ _ _ _ (fun q => absurd q hx) (fun _ => rfl)⟩
      · have sp' : Sep h ((PH.one g (.cells cur 9 (0, 0))).join PH.emp) r w := by rw [PH.join_emp]; exact sp
        have := Sep.write (o' := .cells (Sort.putCells Go.Proofs.encStr 0 ds.toArray cur) 9 (0, 0)) (PH.disj_emp _) sp' (fun b hne' hb' => sortWorld_other (enc := Go.Proofs.encStr) (off := 0) (m := n) (dk := ds.toArray) (os := os) hb' hne') (sortWorld_row hb)
        rw [PH.join_emp] at this; exact this
      · simp [Sort.putCells, hs, hk1]
      · rw [hlen, hk1, Nat.mul_one, relAll_str]
        apply List.ext_getElem?
        intro j
        rw [List.getElem?_take]
        split
        · rename_i hj
          have hjc : j < cur.size := by omega
          have hjd : j < ds.length := by omega
          simp [Sort.putCells, hjc, hjd, hj]
        · rw [List.getElem?_eq_none (by rw [List.length_map, hlen]; omega)]
def sortS (xs : List ByteArray) : List ByteArray := ((xs.map ofB).mergeSort fun x y => decide (x ≤ y)).map toB
theorem sortS_len (xs : List ByteArray) : (sortS xs).length = xs.length := by simp [sortS]
def compS (xs : List ByteArray) : List ByteArray := (Lib.compact (xs.map ofB)).map toB
theorem sortStr_spec {P : Program} {ρ : Shelf.Ren} (LL : Go.Proofs.Lays.n190 P ρ) (v : Value) (xs : List ByteArray) (hn : xs.length < 4611686018427387904) :
    Spec (X := Unit) P (ρ.f 190) [rV.ty v] [own 9 rStr v xs] (fun _ => tTup []) (fun _ => [own 9 rStr v (sortS xs)]) := by
  have h := row_spec (P := P) (f := ρ.f 190) (As := []) (rest := []) v xs ((xs.map ofB).mergeSort fun x y => decide (x ≤ y)) (by simp) xs.length (Nat.le_refl _) (fun _ _ => .tuple #[]) (fun _ => tTup []) (fun _ _ _ _ _ _ => ⟨[], rfl, trivial⟩) (fun h vs a => by match vs, a with | [], _ => rfl)
    (fun g cap w hH hb hc => by
      have := Go.Proofs.Any.slices_Sort_string LL g 0 cap (xs.map ofB) w hH hb (by simpa using hn)
      rw [List.length_map] at this
      exact this)
    (fun a cap w _ => Go.Proofs.Any.slices_Sort_string_none LL a cap w)
  intro vs h0 m r w ha sp st
  refine (h vs h0 m r w ha sp st).mono ?_
  rintro e w' ⟨⟨z, hz⟩, u, h', m', rfl, l, s, st', hu⟩
  have := hz rfl
  subst this
  refine ⟨(), u, h', m', rfl, l, s, ?_, hu⟩
  have e1 : (((xs.map ofB).mergeSort fun x y => decide (x ≤ y)).take xs.length) = ((xs.map ofB).mergeSort fun x y => decide (x ≤ y)) := List.take_of_length_le (by simp)
  rw [e1] at st'
  exact st'
theorem compact_len (zs : List (List UInt8)) : (Lib.compact zs).length ≤ zs.length := by
  unfold Lib.compact Lib.compactUpTo
  rw [List.length_map]
  refine Nat.le_trans (List.length_filter_le _ _) ?_
  rw [List.length_range]; exact Nat.le_refl _
theorem compStr_spec {P : Program} {ρ : Shelf.Ren} (LL : Go.Proofs.Lays.n194 P ρ) (v : Value) (xs : List ByteArray) (hn : xs.length ≤ 4611686018427387904) :
    Spec (X := Value) P (ρ.f 194) [rV.ty v] [own 9 rStr v xs] (fun z => rV.ty z) (fun z => [own 9 rStr z (compS xs)]) := by
  have hcl := compact_len (xs.map ofB)
  rw [List.length_map] at hcl
  have h := row_spec (P := P) (f := ρ.f 194) (As := []) (rest := []) v xs (Lib.compact (xs.map ofB) ++ List.replicate (xs.length - (Lib.compact (xs.map ofB)).length) []) (by simp; omega) (Lib.compact (xs.map ofB)).length hcl
    (fun a cap => .slice a (Lib.compact (xs.map ofB)).length cap) (fun z => rV.ty z) (fun _ a n cap h1 h2 => by
      by_cases hx : xs = []
      · rw [h1 hx]; subst hx; exact ⟨rfl, rfl⟩
      · rw [h2 hx]; exact ⟨rfl, rfl⟩) (fun h vs a => by match vs, a with | [], _ => rfl)
    (fun g cap w hH hb hc => by
      have := Go.Proofs.Any.slices_Compact_string LL g 0 cap (xs.map ofB) w hH (by rw [List.length_map]; omega) (by rw [List.length_map]; omega)
      rw [List.length_map] at this
      refine this.mono ?_
      rintro e w' ⟨he, q, hq⟩
      exact ⟨he, q, #[], by rw [hq]; unfold Go.Proofs.sortWorld; rw [Sort.grow_empty]⟩)
    (fun a cap w hx => by subst hx; exact Go.Proofs.Any.slices_Compact_string_empty LL a cap w)
  intro vs h0 m r w ha sp st
  refine (h vs h0 m r w ha sp st).mono ?_
  rintro e w' ⟨⟨z, hz⟩, u, h', m', rfl, l, s, st', hu⟩
  refine ⟨z, u, h', m', rfl, l, s, ?_, hu⟩
  rw [List.take_left' rfl] at st'
  exact st'
open Go
theorem leL_tot (a b : List UInt8) : (decide (a ≤ b) || decide (b ≤ a)) = true := by
  rcases List.le_total a b with h | h <;> simp [h]
theorem leL_trans (a b c : List UInt8) (h1 : decide (a ≤ b) = true) (h2 : decide (b ≤ c) = true) : decide (a ≤ c) = true := by
  simp only [decide_eq_true_eq] at *; exact List.le_trans h1 h2
theorem ofB_inj {x y : ByteArray} (h : ofB x = ofB y) : x = y := by rw [← toB_ofB x, h, toB_ofB]
theorem filter_full {α : Type} {p : α → Bool} {l : List α} (h : l.length ≤ (l.filter p).length) : ∀ x ∈ l, p x = true := by
  induction l with
  | nil => intro x hx; cases hx
  | cons a l ih =>
    intro x hx
    have hle := List.length_filter_le p l
    by_cases ha : p a = true
    · rw [List.filter_cons_of_pos ha, List.length_cons, List.length_cons] at h
      rcases List.mem_cons.1 hx with rfl | hx
      · exact ha
      · exact ih (by omega) x hx
    · rw [List.filter_cons_of_neg ha, List.length_cons] at h; omega
theorem compact_full (zs : List (List UInt8)) (hs : zs.Pairwise fun a b => decide (a ≤ b) = true) : zs.length ≤ (Lib.compact zs).length ↔ zs.Nodup := by
  have e : (Lib.compact zs).length = ((List.range zs.length).filter (Lib.keeps zs.toArray)).length := by simp [Lib.compact, Lib.compactUpTo]
  have hk : ∀ j, j < zs.length → (Lib.keeps zs.toArray j = true ↔ (j = 0 ∨ ∀ (h1 : j < zs.length) (h2 : j - 1 < zs.length), zs[j] ≠ zs[j - 1])) := by
    intro j hj
    have h2 : j - 1 < zs.length := by omega
    unfold Lib.keeps
    rw [decide_eq_true_eq]
    rw [getElem!_pos zs.toArray j (by simpa using hj), getElem!_pos zs.toArray (j - 1) (by simpa using h2)]
    simp only [List.getElem_toArray]
    constructor
    · rintro (h | h)
      · exact .inl h
      · exact .inr fun _ _ => h
    · rintro (h | h)
      · exact .inl h
      · exact .inr (h hj h2)
  rw [e]
  constructor
  · intro h
    have hall := filter_full (p := Lib.keeps zs.toArray) (l := List.range zs.length) (by rw [List.length_range]; exact h)
    have hadj : ∀ j (h1 : j + 1 < zs.length), zs[j] < zs[j + 1] := by
      intro j h1
      have h2 := (hk (j + 1) h1).1 (hall _ (List.mem_range.2 h1))
      rcases h2 with h2 | h2
      · omega
      · have h3 := h2 h1 (by omega)
        have h4 := List.pairwise_iff_getElem.1 hs j (j + 1) (by omega) h1 (by omega)
        simp only [decide_eq_true_eq] at h4
        simp only [Nat.add_sub_cancel] at h3
        rcases Decidable.em (zs[j] < zs[j + 1]) with h5 | h5
        · exact h5
        · exact absurd (List.le_antisymm (List.not_lt.1 h5) h4) h3
    have hlt : ∀ d i (h1 : i + d + 1 < zs.length), zs[i] < zs[i + d + 1] := by
      intro d
      induction d with
      | zero => intro i h1; exact hadj i h1
      | succ d ih =>
        intro i h1
        exact List.lt_trans (ih i (by omega)) (hadj (i + d + 1) h1)
    refine List.pairwise_iff_getElem.2 fun i j hi hj hij he => ?_
    have := hlt (j - i - 1) i (by omega)
    simp only [show i + (j - i - 1) + 1 = j by omega] at this
    rw [he] at this
    exact List.lt_irrefl _ this
  · intro h
    have : (List.range zs.length).filter (Lib.keeps zs.toArray) = List.range zs.length := by
      refine List.filter_eq_self.2 fun j hj => ?_
      have hj := List.mem_range.1 hj
      rw [hk j hj]
      by_cases h0 : j = 0
      · exact .inl h0
      · refine .inr fun h1 h2 he => ?_
        exact List.pairwise_iff_getElem.1 h (j - 1) j h2 h1 (by omega) he.symm
    rw [this, List.length_range]; exact Nat.le_refl _
theorem nodup_ofB (l : List ByteArray) : (l.map ofB).Nodup ↔ l.Nodup := by
  unfold List.Nodup
  rw [List.pairwise_map]
  exact ⟨fun h => h.imp fun {a b} h e => h (by rw [e]), fun h => h.imp fun {a b} h e => h (ofB_inj e)⟩
theorem comp_nodup (l : List ByteArray) : l.length ≤ (compS (sortS l)).length ↔ l.Nodup := by
  have e : (compS (sortS l)).length = (Lib.compact ((l.map ofB).mergeSort fun x y => decide (x ≤ y))).length := by
    unfold compS sortS
    rw [List.length_map, List.map_map]
    congr 2
    conv => rhs; rw [← List.map_id ((l.map ofB).mergeSort fun x y => decide (x ≤ y))]
    exact List.map_congr_left fun x _ => ofB_toB x
  have hl : l.length = ((l.map ofB).mergeSort fun x y => decide (x ≤ y)).length := by simp
  rw [e]
  conv => lhs; lhs; rw [hl]
  rw [compact_full _ (List.pairwise_mergeSort leL_trans leL_tot (l.map ofB)), ← nodup_ofB l]
  exact (List.mergeSort_perm (l.map ofB) _).nodup_iff
end Lg
