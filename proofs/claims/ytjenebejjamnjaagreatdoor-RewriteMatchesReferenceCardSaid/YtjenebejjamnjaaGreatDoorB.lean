/- More rules of the program logic; contracts of the library turned to own memory; bindings, cycles, the rewriting theorem. -/
import Derived.Test.YtjenebejjamnjaaGreatDoorA
import Derived.Laws.BytesString
import Derived.Laws.Strings2
import Derived.Laws.Entries
import Derived.ChangeArms
import Derived.ChangeKeysEq
import Derived.WideShapes
import Derived.Carry
import Derived.Laws.StructEq
import Derived.Shelf.Strconv.Itoa3
import Derived.Shelf.Small.Strs
import Derived.Shelf.GgClosure.Gives
import Derived.Lib.SliceRun
import Derived.Lib.ConvBytes
import Derived.Lib.LazyBuf
import Derived.Shelf.SlMaps.Clone
import Derived.Laws.CopyRow
import Derived.Shelf.SlSortCmp.NoneTotal
import Derived.Shelf.Sort.Plain
import Derived.Shelf.Slices.In.SortNone
set_option linter.unusedVariables false
set_option linter.unusedSimpArgs false
set_option linter.unusedSectionVars false
namespace Lg
open Go
section
variable {C : Cx} {E : Env} {L : List SP} {d : Option Nat} {ty : Nat} {pos : String} {af : Array Edge} {g : Option (Nat × Bool)}
/-- A store that changes how the variable is seen. -/
theorem step_store_boxR {α β : Type} {T U b : Nat} {R : Rp α} {R' : Rp β} {x v : Operand} {y : α} {z : β} {S : List SP} (hR : TyOf C.P T R') (hk : R'.k = R.k) (hx : Sub (opTy E x) (tAt b 0)) (hv : Sub (opTy E v) (R'.ty z)) (sel : Sel L [box b U R y] S) :
    Step C ⟨d, .store T x v, ty, pos, af, g⟩ E L (fun _ : Unit => tAny) (fun _ => box b U R' z :: S) :=
  Step.of_skip (by intro c h; cases h) fun a w h m l sp st fr => by
    obtain ⟨m1, m2, d12, rfl, ⟨cs, r, rfl⟩, s2⟩ := sel.one.1 st
    have hb := sp.heap_own
    have r' := R'.cells (fr.get hv)
    have hp : a.eval x = .pointer (some ⟨b, 0, none⟩) := fr.get hx
    obtain ⟨w', hrun, hoth, hsame, hnew⟩ := run_storeVar_cells (P := C.P) (b := b) (o := 0) (v := a.eval v) hR.size (by simpa using R'.len r') hb (by simp [R.len r, hk]) (R'.one r')
    have hd : List.drop R'.k cs = [] := by simp [R.len r, hk]
    refine ⟨(), w', h, (PH.one b (.cells (a.eval v).cells U (0, 0))).join m2, ?_, HL.same hsame, Sep.write d12 sp (fun b' hne _ => hoth b' hne) (by rw [hnew]; simp [hd]), ?_⟩
    · simp [execOp, Instr.storeAt, Instr.sureAddr, hp, hrun]
    · exact ⟨_, m2, PH.one_disj_iff.2 (PH.one_disj_iff.1 d12), rfl, ⟨_, r', by simp⟩, s2⟩
end
open Go
abbrev kvI : Int → Value := fun n => .int .i64 n
abbrev kvS : ByteArray → Value := fun s => .string s
abbrev Ent := List (Int × (Value × List Int))
def rows (m : Ent) : List SP := m.map fun p => own 3 rInt p.2.1 p.2.2
open Go
def bytesOf (s : ByteArray) : List Int := s.data.toList.map fun b => (b.toNat : Int)
def ofBytes (xs : List Int) : ByteArray := ⟨(xs.map fun n => UInt8.ofNat n.toNat).toArray⟩
theorem bytesOf_len (s : ByteArray) : (bytesOf s).length = s.size := by unfold bytesOf; rw [List.length_map]; rfl
theorem relAll_u8 {h : PH} : ∀ {xs : List Int} {cs : List Value}, relAll rU8 h xs cs ↔ cs = xs.map (.int .u8 ·)
  | [], cs => Iff.rfl
  | x :: xs, cs => by
    constructor
    · rintro ⟨c1, c2, rfl, r1, r2⟩
      have r1 : c1 = [.int .u8 x] := r1
      rw [relAll_u8.1 r2, r1]; rfl
    · rintro rfl
      exact ⟨[.int .u8 x], xs.map (.int .u8 ·), rfl, rfl, relAll_u8.2 rfl⟩
section
variable {P : Program} (w : World)
theorem str_cells (s : ByteArray) : (Array.map (fun b : UInt8 => Value.int IntKind.u8 (b.toNat : Int)) s.data).extract 0 s.size = Array.map (fun b : UInt8 => Value.int IntKind.u8 (b.toNat : Int)) s.data := by
  have hs : s.size = (Array.map (fun b : UInt8 => Value.int IntKind.u8 (b.toNat : Int)) s.data).size := by rw [Array.size_map]; rfl
  rw [hs, Array.extract_size]
theorem run_append_room_str (t u ty e : TypeId) (i : TypeInfo) (ht : P.underlying t = some (.slice e)) (hu : P.underlying u = some .string) (hi : P.info? e = some i) (h1 : i.size = 1)
    (g sLen sCap : Nat) (cur : Array Value) (hg : w.heap[g]? = some (.cells cur e (0, 0))) (s : ByteArray) (hroom : sLen + s.size ≤ sCap) (hfit : sLen + s.size ≤ cur.size) :
    (Builtin.append_ #[t, u] ty #[.slice (some ⟨g, 0, none⟩) sLen sCap, .string s]).run P w =
      .ok (.slice (some ⟨g, 0, none⟩) (sLen + s.size) sCap) (w.setRow g (cur.toList.take sLen ++ (bytesOf s).map (Value.int .u8 ·) ++ cur.toList.drop (sLen + s.size)).toArray) := by
  have hst := run_storeCells_at P g sLen e ((bytesOf s).map (Value.int .u8 ·)) 0 cur w hg (by simp [bytesOf_len]; omega) (by intro u hu; obtain ⟨a, _, rfl⟩ := List.mem_map.1 hu; rfl)
  simp only [Nat.add_zero, List.length_map, bytesOf_len] at hst
  have e1 : (Array.map (fun b : UInt8 => Value.int IntKind.u8 (b.toNat : Int)) s.data).toList = (bytesOf s).map (Value.int .u8 ·) := by simp [bytesOf]
  simp only [Builtin.append_, run_underlying ht, run_underlying hu, Sem.run_bind, Result.andThen]
  simp [Builtin.append_, run_underlying ht, run_underlying hu, Go.sizeOf, typeInfo, hi, h1, Builtin.lenOf, Builtin.firstCells, hroom, Addr.add_lit, str_cells]
  have e2 : List.map (fun b : UInt8 => Value.int IntKind.u8 (b.toNat : Int)) s.data.toList = (bytesOf s).map (Value.int .u8 ·) := by simp [bytesOf]
  rw [e2, hst]
  simp [List.append_assoc]
theorem run_append_grow_str (t u ty e : TypeId) (i : TypeInfo) (z : Value) (ht : P.underlying t = some (.slice e)) (hu : P.underlying u = some .string) (hi : P.info? e = some i) (hz : i.zero = some z) (h1 : i.size = 1)
    (b : Addr) (sLen sCap : Nat) (olds : List Value) (hlo : olds.length = sLen) (holds : ∀ j v, olds[j]? = some v → w.cell? (b.add j) = some v)
    (s : ByteArray) (hg : sCap < sLen + s.size) (h63 : ((sLen + s.size : Nat) : Int) ≤ 9223372036854775807) (hfit : Builtin.nextslicecap (sLen + s.size) sCap * i.bytes ≤ 281474976710656) :
    (Builtin.append_ #[t, u] ty #[.slice (some b) sLen sCap, .string s]).run P w =
      .ok (.slice (some ⟨w.heap.size, 0, none⟩) (sLen + s.size) (grownCap w (sLen + s.size) sCap e))
        (w.drew.alloc (.cells (olds.toArray ++ ((bytesOf s).map (Value.int .u8 ·)).toArray ++ Builtin.zeroCells z.cells (grownCap w (sLen + s.size) sCap e - (sLen + s.size))) e)) := by
  have hn : ¬ (sLen + s.size ≤ sCap) := by omega
  have h63' : ¬ (9223372036854775807 < ((sLen : Int) + (s.size : Int))) := by omega
  have h48' : ¬ (281474976710656 < Builtin.nextslicecap (sLen + s.size) sCap * i.bytes) := by omega
  have hfo := run_firstCells_some (P := P) w.drew i.size sLen b sLen sCap olds (by rw [h1]; omega) (by simpa using holds)
  rw [h1] at hfo
  simp [Builtin.append_, run_underlying ht, run_underlying hu, Go.sizeOf, typeInfo, zeroValue, hi, hz, h1, Builtin.lenOf, hn, h63', h48', Question.forced, hfo, newRow, grownCap]
  simp [Builtin.firstCells, str_cells]
  congr 2
  apply Array.ext'
  simp [bytesOf, List.append_assoc]
end
section
variable {C : Cx} {E : Env} {L : List SP} {d : Option Nat} {ty : Nat} {pos : String} {af : Array Edge} {g : Option (Nat × Bool)}
/-- append(bytes, s...) -/
theorem step_append_str {T U e : Nat} {z : Int} {x y : Operand} {v : Value} {xs : List Int} {s : ByteArray} {S : List SP} (hu : C.P.underlying T = some (.slice e)) (hs : C.P.underlying U = some .string) (hE : ElT C.P e rU8 1 z)
    (hx : Sub (opTy E x) (rV.ty v)) (hy : Sub (opTy E y) (tV (.string s))) (sel : Sel L [own e rU8 v xs] S) (h0 : 0 < s.size) (hb : xs.length + s.size ≤ 1000000000000) :
    Step C ⟨d, .call { callee := .builtin .append, args := #[x, y], argTypes := #[T, U] }, ty, pos, af, g⟩ E L (fun v' : Value => rV.ty v') (fun v' => own e rU8 v' (xs ++ bytesOf s) :: S) :=
  Step.of_run (by intro c h; cases h) fun a w h m l sp st fr => by
    have hv : a.eval x = v := (fr.get hx).1
    have hyv : a.eval y = .string s := fr.get hy
    obtain ⟨m1, m2, d12, rfl, ho, s2⟩ := sel.one.1 st
    obtain ⟨i, zv, hi, hz, hk, hby, hzr⟩ := hE.inf
    have hk1 : i.size = 1 := hk
    have hbl := bytesOf_len s
    have hop : ∀ u w', (Builtin.append_ #[T, U] ty #[v, .string s]).run C.P w = .ok u w' →
        (execOp a.eval ⟨d, .call { callee := .builtin .append, args := #[x, y], argTypes := #[T, U] }, ty, pos, af, g⟩).run C.P w = .ok (.value u) w' := by
      intro u w' hr
      simp [execOp, resolve, invoke, builtin, hv, hyv, hr]
    have hzl : zv.cells.size = 1 := by
      have h1 := rU8.len (rU8.cells (hzr h))
      rw [Array.length_toList] at h1
      exact h1
    have good : ∀ (cap : Nat) (m2 : PH), xs.length + s.size ≤ cap → cap ≤ maxLen → Sep h m2 C.r w → (stars S).p h m2 →
        ∃ m', Sep h m' C.r (w.drew.alloc (.cells ((xs.map (Value.int .u8 ·)).toArray ++ ((bytesOf s).map (Value.int .u8 ·)).toArray ++ Builtin.zeroCells zv.cells (cap - (xs.length + s.size))) e)) ∧
          (stars (own e rU8 (.slice (some ⟨w.heap.size, 0, none⟩) (xs.length + s.size) cap) (xs ++ bytesOf s) :: S)).p h m' := by
      intro cap m2 hcap hm sp2 s2
      refine ⟨_, sp2.drew.allocOwn (w := w.drew) _, _, m2, PH.disj_symm (PH.one_disj_new sp2.mw _), rfl, .inr ⟨w.heap.size, cap, _, by simp [hbl], rfl, by simpa [hbl] using hcap, hm, ?_, ?_⟩, s2⟩
      · simp only [Array.size_append, List.size_toArray, List.length_map, hbl, size_zeroCells, hzl]
        show _ = cap * 1
        omega
      · rw [relAll_u8]
        show List.take ((xs ++ bytesOf s).length * 1) _ = _
        rw [Nat.mul_one, List.length_append]
        have e1 : ((xs.map (Value.int .u8 ·)).toArray ++ ((bytesOf s).map (Value.int .u8 ·)).toArray ++ Builtin.zeroCells zv.cells (cap - (xs.length + s.size))).toList = ((xs ++ bytesOf s).map (Value.int .u8 ·)) ++ (Builtin.zeroCells zv.cells (cap - (xs.length + s.size))).toList := by simp
        rw [e1, List.take_append_of_le_length (by simp), List.take_of_length_le (by simp)]
    rcases ho with ⟨rfl, rfl, rfl⟩ | ⟨b', cap, cur, rfl, rfl, hlc, hcm, hcs, hr⟩
    · have hr := run_append_nil_string (P := C.P) w T U ty e i zv hu hs hi hz s h0 (by simp at hb; omega) (by rw [hby]; simp at hb; omega)
      have sp2 : Sep h m2 C.r w := by rw [PH.emp_join] at sp; exact sp
      obtain ⟨m', s1, s3⟩ := good (grownCap w s.size 0 e) m2 (by simpa using grownCap_ge w _ _ _) (grownCap_le_maxLen w _ _ _ (by unfold maxLen; simp at hb; omega)) sp2 s2
      simp only [List.length_nil, Nat.zero_add, List.map_nil] at s1 s3
      refine ⟨_, _, _, h, m', hop _ _ hr, HL.same (Same.drewAlloc _ _), ?_, s3, ⟨rfl, rfl⟩⟩
      have e3 : s.data.map (fun b => Value.int .u8 (b.toNat : Int)) = ((bytesOf s).map (Value.int .u8 ·)).toArray := by apply Array.ext'; simp [bytesOf]
      rw [e3]
      simpa using s1
    · have hkr : rU8.k = 1 := rfl
      rw [hkr, Nat.mul_one] at hcs hr
      rw [relAll_u8] at hr
      have hb' := sp.heap_own
      by_cases hroom : xs.length + s.size ≤ cap
      · have hr' := run_append_room_str (P := C.P) w T U ty e i hu hs hi hk1 b' xs.length cap cur hb' s hroom (by omega)
        refine ⟨_, _, _, h, (PH.one b' _).join m2, hop _ _ hr', HL.same ⟨rfl, rfl, rfl⟩, Sep.write d12 sp (fun b0 hne _ => setRow_other w b' b0 _ hne) (setRow_heap w b' cur _ e _ hb'), ?_, ⟨rfl, rfl⟩⟩
        refine ⟨_, m2, PH.one_disj_iff.2 (PH.one_disj_iff.1 d12), rfl, .inr ⟨b', cap, _, by simp [hbl], rfl, by simpa [hbl] using hroom, hcm, ?_, ?_⟩, s2⟩
        · simp only [List.size_toArray, List.length_append, List.length_take, List.length_drop, Array.length_toList, List.length_map, hbl]
          show _ = cap * 1
          omega
        · rw [relAll_u8, List.toList_toArray, hr]
          show List.take ((xs ++ bytesOf s).length * 1) _ = _
          rw [Nat.mul_one, List.length_append, List.take_append_of_le_length (by simp), List.take_of_length_le (by simp)]
          simp
      · have holds : ∀ j v, (xs.map (Value.int .u8 ·))[j]? = some v → w.cell? ((⟨b', 0, none⟩ : Addr).add j) = some v := fun j v hv => by
          rw [addr_add, Nat.zero_add, inw_cells (h := h) hb']
          rw [← hr, List.getElem?_take] at hv
          split at hv
          · simpa using hv
          · cases hv
        have hr' := run_append_grow_str (P := C.P) w T U ty e i zv hu hs hi hz hk1 ⟨b', 0, none⟩ xs.length cap (xs.map (Value.int .u8 ·)) (by simp) holds s (by omega) (by omega) (by rw [hby]; exact growslice_fits (by omega) (by omega))
        have sp2 : Sep h m2 C.r w := ⟨(by first | exact Sep.inv (by assumption) | exact Inv.mono (PH.le_join_left _ _) (Sep.inv (by assumption))), (PH.disj_join'.1 sp.hm).2, sp.hr, (PH.disj_join.1 sp.mr).2, sp.hw, fun b o e => sp.mw _ _ (PH.le_join_right d12 _ _ e), sp.rw⟩
        obtain ⟨m', s1, s3⟩ := good (grownCap w (xs.length + s.size) cap e) m2 (grownCap_ge w _ _ _) (grownCap_le_maxLen w _ _ _ (by unfold maxLen; omega)) sp2 s2
        exact ⟨_, _, _, h, m', hop _ _ hr', HL.same (Same.drewAlloc _ _), s1, s3, ⟨rfl, rfl⟩⟩
theorem foldl_push (xs : List Int) (r : ByteArray) : xs.foldl (fun r n => r.push (UInt8.ofNat n.toNat)) r = ⟨r.data ++ (xs.map fun n => UInt8.ofNat n.toNat).toArray⟩ := by
  induction xs generalizing r with
  | nil => simp
  | cons x xs ih => rw [List.foldl_cons, ih]; simp [ByteArray.push]
/-- string(bytes) -/
theorem step_convert_str {T U e : Nat} {x : Operand} {v : Value} {xs : List Int} {S : List SP} (hu : C.P.underlying T = some (.slice e)) (he : C.P.underlying e = some (.int .u8)) (hs : C.P.underlying U = some .string)
    (hx : Sub (opTy E x) (rV.ty v)) (sel : Sel L [own e rU8 v xs] S) : Step1 C ⟨d, .convert T U x, ty, pos, af, g⟩ E L (tV (.string (ofBytes xs))) :=
  Step.of_run (by intro c h; cases h) fun a w h m l sp st fr => by
    have hv : a.eval x = v := (fr.get hx).1
    have st0 := st
    obtain ⟨m1, m2, d12, rfl, ho, s2⟩ := sel.one.1 st
    rcases ho with ⟨rfl, rfl, rfl⟩ | ⟨b', cap, cur, rfl, rfl, hlc, hcm, hcs, hr⟩
    · refine ⟨(), .string (ofBytes []), w, h, _, ?_, HL.refl, sp, st0, rfl⟩
      simp [execOp, convert, hv, run_underlying hu, run_underlying he, run_underlying hs, Conv.bytesToString]
      rfl
    · have hkr : rU8.k = 1 := rfl
      rw [hkr, Nat.mul_one] at hcs hr
      rw [relAll_u8] at hr
      have hb' := sp.heap_own
      have hl := run_loadCells_list (P := C.P) (w := w) ⟨b', 0, none⟩ (xs.map (Value.int .u8 ·)) (fun j u hu' => by
        rw [addr_add, Nat.zero_add, inw_cells (h := h) hb']
        rw [← hr, List.getElem?_take] at hu'
        split at hu'
        · simpa using hu'
        · cases hu')
      rw [List.length_map] at hl
      have hrun := run_bytesToString (P := C.P) w ⟨b', 0, none⟩ xs.length cap xs hl
      rw [foldl_push] at hrun
      refine ⟨(), .string (ofBytes xs), w, h, _, ?_, HL.refl, sp, st0, rfl⟩
      simp only [execOp, convert, hv, Sem.run_bind, run_underlying hu, run_underlying he, run_underlying hs, Result.andThen_ok, hrun]
      simp [ofBytes]
theorem step_convert_int {T U : Nat} {x : Operand} {k k' : IntKind} {n m : Int} {td : TypeDesc} (ht : C.P.underlying T = some td) (hu : C.P.underlying U = some (.int k')) (hx : Sub (opTy E x) (tV (.int k n))) (hw : k'.wrap n = m) :
    Step1 C ⟨d, .convert T U x, ty, pos, af, g⟩ E L (tV (.int k' m)) :=
  Step.of_same (by intro c h; cases h) fun a w h hh f => by
    have hv : a.eval x = .int k n := f.get hx
    refine ⟨.int k' m, ?_, rfl⟩
    simp [execOp, convert, hv, run_underlying ht, run_underlying hu, Conv.intToInt, hw]
/-- s[i:j] of a string. -/
theorem step_slice_str {T i j : Nat} {x y z : Operand} {s : ByteArray} {k k' : IntKind} {a b : Int} (hu : C.P.underlying T = some .string) (hx : Sub (opTy E x) (tV (.string s))) (hy : Sub (opTy E y) (tV (.int k a))) (hz : Sub (opTy E z) (tV (.int k' b)))
    (ha : a = i) (hb : b = j) (hij : i ≤ j) (hj : j ≤ s.size) : Step1 C ⟨d, .slice T x (some y) (some z) none, ty, pos, af, g⟩ E L (tV (.string (s.extract i j))) :=
  Step.of_same (by intro c h; cases h) fun ac w h hh f => by
    have h1 : ac.eval x = .string s := f.get hx
    have h2 : ac.eval y = .int k a := f.get hy
    have h3 : ac.eval z = .int k' b := f.get hz
    subst ha; subst hb
    have hr := run_slice_string (P := C.P) w T s k k' i j hu (by omega) (by omega) (by omega)
    refine ⟨.string (s.extract i j), ?_, rfl⟩
    rw [Int.toNat_natCast, Int.toNat_natCast] at hr
    simp [execOp, Instr.sliceAt, run_underlying hu, h1, h2, h3, hr]
end
open Go
section
variable {C : Cx} {E : Env} {L : List SP} {d : Option Nat} {ty : Nat} {pos : String} {af : Array Edge} {g : Option (Nat × Bool)}
theorem step_shift {T U : Nat} {op : BinOp} {x y : Operand} {k yk : IntKind} {a b : Int} {v : Value} (hop : op = .shl ∨ op = .shr) (hx : Sub (opTy E x) (tV (.int k a))) (hy : Sub (opTy E y) (tV (.int yk b)))
    (hr : ∀ P w, (Op.shift op k a yk b).run P w = .ok v w) : Step1 C ⟨d, .binOp op T x y U, ty, pos, af, g⟩ E L (tV v) :=
  Step.of_same (by intro c h; cases h) fun ac w h hw f => ⟨v, by
    have h1 : ac.eval x = .int k a := f.get hx
    have h2 : ac.eval y = .int yk b := f.get hy
    have he : ∀ w, (eqGuard op T x y (.int k a) (.int yk b)).run C.P w = .ok () w := by intro w; rcases hop with rfl | rfl <;> simp [eqGuard]
    have hb : binOp op T (.int k a) (.int yk b) = Op.shift op k a yk b := by rcases hop with rfl | rfl <;> rfl
    simp [execOp, h1, h2, Sem.run_bind, he, hb, hr], rfl⟩
theorem step_shl {T U n : Nat} {x y : Operand} {yk : IntKind} {a b m : Int} (hx : Sub (opTy E x) (tV (.int .i64 a))) (hy : Sub (opTy E y) (tV (.int yk b))) (hb : b = n) (hn : n ≤ 64) (hm : IntKind.i64.wrap (a * 2 ^ n) = m) :
    Step1 C ⟨d, .binOp .shl T x y U, ty, pos, af, g⟩ E L (tV (.int .i64 m)) := step_shift (.inl rfl) hx hy (fun P w => by
  subst hb
  have h1 : ¬ ((n : Int) < 0) := by omega
  have h2 : min n (IntKind.i64.bits) = n := by simp [IntKind.bits]; omega
  simp [Op.shift, h1, h2, hm])
theorem step_shr {T U n : Nat} {x y : Operand} {yk : IntKind} {a b : Int} (hx : Sub (opTy E x) (tV (.int .i64 a))) (hy : Sub (opTy E y) (tV (.int yk b))) (hb : b = n) (hn : n ≤ 64) :
    Step1 C ⟨d, .binOp .shr T x y U, ty, pos, af, g⟩ E L (tV (.int .i64 (a / 2 ^ n))) := step_shift (.inr rfl) hx hy (fun P w => by
  subst hb
  have e := shift_shr .i64 yk a (n : Int) (by omega) (by show (n : Int) ≤ 64; omega)
  rw [e]; simp)
theorem step_and1 {T U n : Nat} {x y : Operand} {a b : Int} (hx : Sub (opTy E x) (tV (.int .i64 a))) (hy : Sub (opTy E y) (tV (.int .i64 b))) (ha : a = n) (hb : b = 1) (hn : n < 9223372036854775808) :
    Step1 C ⟨d, .binOp .and T x y U, ty, pos, af, g⟩ E L (tV (.int .i64 ((n % 2 : Nat) : Int))) := step_int hx hy (fun P w => by
  subst ha; subst hb
  have e1 : (BitVec.ofInt 64 (n : Int) &&& BitVec.ofInt 64 1).toNat = n % 2 := by
    rw [BitVec.toNat_and, BitVec.ofInt_natCast, BitVec.toNat_ofNat]
    have : (BitVec.ofInt 64 1).toNat = 1 := by decide
    rw [this, Nat.and_one_is_mod, Nat.mod_mod_of_dvd _ (by decide)]
  have e2 : IntKind.i64.wrap ((n % 2 : Nat) : Int) = ((n % 2 : Nat) : Int) := wrap64_in (by unfold in64; omega)
  simp only [binOp, Op.intBits]
  show Sem.run P (pure (Value.int .i64 (IntKind.i64.wrap ((BitVec.ofInt 64 (n : Int) &&& BitVec.ofInt 64 1).toNat : Nat)))) w = _
  rw [e1, e2]; rfl)
theorem step_makeMapV {κ β : Type} [DecidableEq κ] {kv : κ → Value} {R : Rp β} {T : Nat} : Step C ⟨d, .makeMap T none, ty, pos, af, g⟩ E L (fun v : Value => rV.ty v) (fun v => mapOwn kv R v ([] : List (κ × β)) :: L) :=
  Step.of_run (by intro c h; cases h) fun a w h m l sp st fr => by
    refine ⟨.map (some w.heap.size), .map (some w.heap.size), w.alloc (.map #[] 0), h, (PH.one w.heap.size (.map #[] 0)).join m, ?_, HL.own _, sp.allocOwn _, ?_, ⟨rfl, rfl⟩⟩
    · simp [execOp, Instr.makeMap, run_newObj_alloc]
    · exact ⟨_, m, PH.disj_symm (PH.one_disj_new sp.mw _), rfl, ⟨w.heap.size, [], rfl, rfl, trivial⟩, st⟩
end
open Go
theorem relAll_int {h : PH} : ∀ {xs : List Int} {cs : List Value}, relAll rInt h xs cs ↔ cs = xs.map (.int .i64 ·)
  | [], cs => Iff.rfl
  | x :: xs, cs => by
    constructor
    · rintro ⟨c1, c2, rfl, r1, r2⟩
      have r1 : c1 = [.int .i64 x] := r1
      rw [relAll_int.1 r2, r1]; rfl
    · rintro rfl
      exact ⟨[.int .i64 x], xs.map (.int .i64 ·), rfl, rfl, relAll_int.2 rfl⟩
section
variable {C : Cx} {E : Env} {L : List SP} {d : Option Nat} {ty : Nat} {pos : String} {af : Array Edge} {g : Option (Nat × Bool)}
end
open Go
def wholeH (W : World) : PH := fun b => W.heap[b]?
theorem wholeH_inw (W : World) : (wholeH W).inw W := fun _ _ e => e
theorem TyOf.cells {α : Type} {P : Program} {T : Nat} {R : Rp α} (h : TyOf P T R) (W : World) : P.cellsOf T = R.k := by
  have h1 := h.size W
  cases hi : P.info? T with
  | none => simp [Go.sizeOf, typeInfo, hi] at h1
  | some i =>
    rw [run_sizeOf W hi] at h1
    injection h1
section
variable {H : Type} {enc : TypeId × Value → H} {P : Program} {W : World}
/-- Whatever the kit reads at type t is represented by R. -/
structure Rd {α H : Type} (enc : TypeId × Value → H) (P : Program) (W : World) (t : Nat) (R : Rp α) : Prop where
  k : P.cellsOf t = R.k
  rd : ∀ fuel cs x, DataW.trod enc P W 0 (fun _ => true) true fuel t cs = some x → ∃ y, R.rel (wholeH W) y cs
theorem Rd.int {t : Nat} (hT : TyOf P t rInt) (hu : P.underlying t = some (.int .i64)) : Rd enc P W t rInt where
  k := hT.cells W
  rd := fun _ _ _ h => by
    obtain ⟨n, rfl, _, _⟩ := DataW.trod_int hu h
    exact ⟨n, rfl⟩
theorem Rd.str {t : Nat} (hT : TyOf P t rStr) (hu : P.underlying t = some .string) : Rd enc P W t rStr where
  k := hT.cells W
  rd := fun _ _ _ h => by
    obtain ⟨n, rfl, _, _⟩ := DataW.trod_string hu h
    exact ⟨n, rfl⟩
theorem cell_holds {b off k : Nat} {cs : List Value} (hk : 0 < k) (hl : cs.length = k) (hc : ∀ j, j < k → W.cell? ⟨b, off + j, none⟩ = cs[j]?) : Holds (wholeH W) b off cs := by
  have h0 := hc 0 hk
  have h0' : cs[0]? = some (cs[0]'(by omega)) := List.getElem?_eq_getElem (by omega)
  rw [h0'] at h0
  unfold World.cell? at h0
  simp only at h0
  split at h0
  · rename_i c e fr hb
    refine ⟨c, e, fr, hb, fun j v hv => ?_⟩
    have hj : j < k := by have := (List.getElem?_eq_some_iff.1 hv).1; omega
    have h1 := hc j hj
    unfold World.cell? at h1
    simp only [hb] at h1
    simpa [hv] using h1
  · cases h0
theorem Rd.sl {α : Type} {t e : Nat} {R : Rp α} (hT : TyOf P t (rSl R)) (hu : P.underlying t = some (.slice e)) (hR : Rd enc P W e R) (hk : 0 < R.k) : Rd enc P W t (rSl R) where
  k := hT.cells W
  rd := fun fuel cs x h => by
    rcases DataW.trod_slice hu h with ⟨rfl, _⟩ | ⟨a, len, cap, elems, rest, n, _, rfl, _, _, hlc, _, hlen, hel, _, _⟩
    · exact ⟨[], _, rfl, none, ⟨0, Nat.le_refl _⟩, rfl, fun q => absurd rfl q⟩
    have hall : ∀ i : Fin len, ∃ y cs, W.cells? 0 (a.add (i.1 * R.k)) R.k = some cs ∧ R.rel (wholeH W) y cs := fun i => by
      have h1 := hel i.1 i.2
      rw [List.getElem?_eq_getElem (by omega : i.1 < elems.length), Option.bind_eq_some_iff] at h1
      obtain ⟨cs, h2, h3⟩ := h1
      obtain ⟨y, hy⟩ := hR.rd _ _ _ h3
      rw [hR.k] at h2
      exact ⟨y, cs, h2, hy⟩
    let f : Fin len → α := fun i => Classical.choose (hall i)
    have hf : ∀ i : Fin len, ∃ cs, W.cells? 0 (a.add (i.1 * R.k)) R.k = some cs ∧ R.rel (wholeH W) (f i) cs := fun i => Classical.choose_spec (hall i)
    refine ⟨List.ofFn f, _, rfl, some a, ⟨cap, by rw [List.length_ofFn]; exact hlc⟩, by show Value.slice (some a) len cap = Value.slice (some a) (List.ofFn f).length cap; rw [List.length_ofFn], fun hne => ?_⟩
    have hl0 : 0 < len := by
      rcases Nat.eq_zero_or_pos len with h0 | h0
      · exfalso; apply hne; subst h0; simp
      · exact h0
    have hsp : a.spot = none := by
      obtain ⟨cs, h1, h2⟩ := hf ⟨0, hl0⟩
      obtain ⟨_, h3, h4⟩ := World.cells?_some h1
      have h5 := h4 0 hk
      rw [List.getElem?_eq_getElem (by omega : 0 < cs.length)] at h5
      have h6 : (a.add (0 * R.k)).add 0 = a := by simp [Addr.add]
      rw [h6] at h5
      exact World.cell?_spot h5
    obtain ⟨b, off, sp⟩ := a
    simp only at hsp
    subst hsp
    refine ⟨b, off, rfl, fun i y hy => ?_⟩
    have hi : i < len := by have := (List.getElem?_eq_some_iff.1 hy).1; simpa using this
    have hy' : f ⟨i, hi⟩ = y := by
      rw [List.getElem?_eq_getElem (by simpa using hi)] at hy
      simpa using hy
    obtain ⟨cs, h1, h2⟩ := hf ⟨i, hi⟩
    obtain ⟨_, h3, h4⟩ := World.cells?_some h1
    rw [hy'] at h2
    refine ⟨cs, cell_holds hk h3 fun j hj => ?_, h2⟩
    have := h4 j hj
    simp only [addr_add] at this
    exact this
theorem SF.rel_of {α : Type} {h : PH} {x : α} : ∀ {fs : List (SF α)} {cs : List Value}, cs.length = SF.width fs → (∀ (i : Nat) (f : SF α), fs[i]? = some f → f.R.rel h (f.get x) ((cs.drop (SF.off fs i)).take f.R.k)) → SF.rel h x fs cs
  | [], cs, hl, _ => List.eq_nil_of_length_eq_zero hl
  | f :: fs, cs, hl, hr => by
    refine ⟨cs.take f.R.k, cs.drop f.R.k, (List.take_append_drop _ _).symm, by simpa [SF.off] using hr 0 f rfl, SF.rel_of (by simp [hl, SF.width]) fun i g hg => ?_⟩
    have := hr (i + 1) g (by simpa using hg)
    simpa [SF.off, List.drop_drop] using this
theorem readStruct {α : Type} {t : Nat} {fs : List (SF α)} (S : StructOf P t fs) {fuel : Nat} {cs : List Value} {x : DataW H × List MemPlace} (h : DataW.trod enc P W 0 (fun _ => true) true fuel t cs = some x) :
    cs.length = SF.width fs ∧ ∀ (i : Nat) (f : SF α), fs[i]? = some f → ∃ n z, DataW.trod enc P W 0 (fun _ => true) true n f.T ((cs.drop (SF.off fs i)).take f.R.k) = some z := by
  obtain ⟨fls, hu, hl⟩ := S.lays
  obtain ⟨xs, n, _, _, hlen, hxs, hf⟩ := DataW.trod_struct hu h
  refine ⟨hlen.trans (S.ty.cells W), fun i f hi => ?_⟩
  obtain ⟨fl, h1, h2, h3, h4, _⟩ := hl.get hi
  have h1' : fls[i]? = some fl := by simpa using h1
  have h5 := hf i fl h1'
  have hlt : i < xs.length := by rw [hxs]; exact (Array.getElem?_eq_some_iff.1 h1').1
  rw [List.getElem?_eq_getElem hlt, h2, h3, h4.cells W, Nat.zero_add] at h5
  exact ⟨n, _, h5⟩
theorem Rd.at {α β : Type} {t : Nat} {fs : List (SF α)} {cs : List Value} {i : Nat} {T : Nat} {R : Rp β} {get : α → β} (hf : ∀ (i : Nat) (f : SF α), fs[i]? = some f → ∃ n z, DataW.trod enc P W 0 (fun _ => true) true n f.T ((cs.drop (SF.off fs i)).take f.R.k) = some z)
    (hR : Rd enc P W T R) (hi : fs[i]? = some ⟨β, T, R, get⟩) : ∃ y, R.rel (wholeH W) y ((cs.drop (SF.off fs i)).take R.k) := by
  obtain ⟨n, z, h⟩ := hf i _ hi
  exact hR.rd _ _ _ h
end
/-- Below the first heap nothing has turned. -/
theorem below_of {W W' : World} {h' : PH} (hl : (wholeH W).le h') (hw : h'.inw W') (s : Same W W') : Go.RowKit.Below W.heap.size W W' where
  os := s.os
  tape := s.tape
  output := s.output
  size := by
    rcases Nat.eq_zero_or_pos W.heap.size with h0 | h0
    · omega
    · have h1 : W.heap[W.heap.size - 1]? = some (W.heap[W.heap.size - 1]'(by omega)) := Array.getElem?_eq_getElem (by omega)
      have h2 := hw _ _ (hl _ _ h1)
      have := (Array.getElem?_eq_some_iff.1 h2).1
      omega
  block := fun k hk => by
    have h1 : W.heap[k]? = some (W.heap[k]'hk) := Array.getElem?_eq_getElem hk
    rw [h1]
    exact hw _ _ (hl _ _ h1)
open Go
def JN (C : Cx) (ops : Array Oper) (k : Env → Prop) (L : List SP) : List It → Env → Prop
  | [], E => k E
  | ⟨i, ts, _⟩ :: its, E => ∃ o A, ops[i]? = some o ∧ ltO o.dst C.N = true ∧ StepG C ops o (restr ts E) L A ∧ JN C ops k L its (updO E o.dst A)
section
variable {C : Cx} {ops : Array Oper} {k : Env → Prop} {its : List It} {E : Env} {L : List SP} {i : Nat} {ts : List Nat} {f : Bool} {o : Oper}
theorem JN_nil (h : k E) : JN C ops k L [] E := h
theorem JN_step {A : Ty} {d : Nat} (ho : ops.toList[i]? = some o) (hg : o.guard = none) (hd : o.dst = some d) (hN : Nat.blt d C.N = true) (hs : Step1 C o (restr ts E) L A)
    (hk : JN C ops k L its (upd E d A)) : JN C ops k L (⟨i, ts, f⟩ :: its) E :=
  ⟨o, A, by simpa using ho, by rw [hd]; exact hN, .inl ⟨hg, hs⟩, by rw [hd]; exact hk⟩
theorem JN_stepG {B : Ty} {d j t : Nat} {b w : Bool} {og : Oper} (ho : ops.toList[i]? = some o) (hg : o.guard = some (j, b)) (hj : ops.toList[j]? = some og) (ht : og.dst = some t) (hc : Gd (restr ts E t) b w) (hd : o.dst = some d) (hN : Nat.blt d C.N = true)
    (hs : w = true → Step1 C o (restr ts E) L B) (hk : JN C ops k L its (upd E d (tW w B))) : JN C ops k L (⟨i, ts, f⟩ :: its) E :=
  ⟨o, tW w B, by simpa using ho, by rw [hd]; exact hN, .inr ⟨j, b, og, t, w, B, hg, by simpa using hj, ht, hc, rfl, hs⟩, by rw [hd]; exact hk⟩
end
theorem JN_pull {C : Cx} {ops : Array Oper} {k : Env → Prop} {L : List SP} : ∀ {l1 : List It} {b : It} {l2 : List It} {E : Env},
    (∀ a ∈ l1, okPair (plOf ops.toList a) (plOf ops.toList b) = true) → (∀ a ∈ l1, a.i ∉ aftOf ops.toList b.i) → JN C ops k L (l1 ++ b :: l2) E → JN C ops k L (b :: (l1 ++ l2)) E
  | [], _, _, _, _, _, h => h
  | ⟨ia, ta, fa⟩ :: l1, ⟨ib, tb, fb⟩, l2, E, hp, hn, h => by
    obtain ⟨oa, A, ha, hla, hsa, hk⟩ := h
    have ih := JN_pull (fun a m => hp a (by simp [m])) (fun a m => hn a (by simp [m])) hk
    have hpair := hp ⟨ia, ta, fa⟩ (by simp)
    have hna := hn ⟨ia, ta, fa⟩ (by simp)
    have hda : dstOf ops.toList ia = oa.dst := by simp [dstOf, ha]
    have hpair' : inO oa.dst tb = false ∧ inO (dstOf ops.toList ib) ta = false ∧ eqO oa.dst (dstOf ops.toList ib) = false := by
      simp only [okPair, plOf, hda, Bool.and_eq_true, Bool.or_eq_true, Bool.not_eq_true', memN_iff] at hpair
      rcases hpair.2 with q | q
      · exact absurd q hna
      · exact ⟨q.1.1, q.1.2, q.2⟩
    obtain ⟨p1, p2, p3⟩ := hpair'
    obtain ⟨ob, B, hb, hlb, hsb, hkb⟩ := ih
    have hdb : dstOf ops.toList ib = ob.dst := by simp [dstOf, hb]
    rw [hdb] at p2 p3
    refine ⟨ob, B, hb, hlb, hsb.same (restr_updO p1), oa, A, ha, hla, hsa.same (restr_updO p2).symm, ?_⟩
    rw [updO_comm p3] at hkb
    exact hkb
theorem wpAny_JN {C : Cx} {ops : Array Oper} {Q : Exit → Act → World → Prop} {L : List SP} : ∀ (fuel : Nat) (its : List It) (listed : Array Bool) (E : Env), its.length ≤ fuel → listed.size = ops.size →
    (∀ i, i < ops.size → (listed.getD i true = false ↔ ∃ x ∈ its, x.i = i)) → okPls (its.map (plOf ops.toList)) = true → (∀ x ∈ its, x.i < ops.size ∧ ∀ e ∈ aftOf ops.toList x.i, e < x.i) →
    (∀ x ∈ its, x.free = true) → JN C ops (fun E' => K C (Q .normal) E' L) L its E → K C (fun a w => wpAnyIn (Fw C.ro) 0 C.P .any ops Q fuel listed a w) E L := by
  intro fuel
  induction fuel with
  | zero =>
    intro its listed E hlen hsz hin _ _ _ hJ
    have : its = [] := List.length_eq_zero_iff.1 (by omega)
    subst this
    intro a w p
    refine ⟨?_, hJ a w p⟩
    rw [List.eq_nil_iff_forall_not_mem]
    intro i hi
    obtain ⟨h1, h2, _⟩ := mem_ready.1 hi
    obtain ⟨x, hx, _⟩ := (hin i h1).1 h2
    cases hx
  | succ fuel ih =>
    intro its listed E hlen hsz hin hok hlt hfr hJ
    -- if nothing is ready, nothing is left
    have hdone : Region.ready .any ops listed = [] → its = [] := by
      intro hr
      have hall : ∀ i, i < ops.size → listed.getD i true = true := by
        intro i
        induction i using Nat.strongRecOn with
        | _ i ihi =>
          intro hi
          cases hl : listed.getD i true with
          | true => rfl
          | false =>
            have ho : ops[i]? = some ops[i] := Array.getElem?_eq_getElem hi
            obtain ⟨x, hx, hxi⟩ := (hin i hi).1 hl
            have h1 := (hlt x hx).2
            rw [hxi] at h1
            have hm : i ∈ Region.ready .any ops listed := mem_ready.2 ⟨hi, hl, _, ho, fun e he => by
              have he' : e < i := h1 e (by simpa [aftOf, hi] using he)
              rw [getD_any (by omega) false true]
              exact ihi e he' (by omega)⟩
            rw [hr] at hm; cases hm
      match its with
      | [] => rfl
      | x :: _ =>
        have h1 := (hlt x (by simp)).1
        have := (hin x.i h1).2 ⟨x, by simp, rfl⟩
        rw [hall x.i h1] at this; cases this
    intro a w p
    refine ⟨fun hr => ?_, fun i hi => ?_⟩
    · have := hdone hr
      subst this
      exact hJ a w p
    · obtain ⟨hlti, hnl, o, ho, haft⟩ := mem_ready.1 hi
      obtain ⟨b, hb, hbi⟩ := (hin i hlti).1 hnl
      obtain ⟨l1, l2, rfl⟩ := List.append_of_mem hb
      have hoi : ops.toList[b.i]? = some o := by rw [hbi]; simpa using ho
      have haft' : aftOf ops.toList b.i = aftN o := by simp only [aftOf, hoi]
      -- what is left is not listed
      have hleft : ∀ x ∈ l1 ++ b :: l2, x.i ∉ aftOf ops.toList b.i := fun x hx hm => by
        rw [haft'] at hm
        have h1 := haft _ hm
        have h2 := (hlt x hx).1
        have h3 := (hin x.i h2).2 ⟨x, hx, rfl⟩
        rw [getD_any (by omega) true false, h1] at h3; cases h3
      rw [List.map_append, List.map_cons] at hok
      have hpair : ∀ a ∈ l1, okPair (plOf ops.toList a) (plOf ops.toList b) = true := fun a ha => okPls_pair hok _ (List.mem_map_of_mem ha)
      have hfree : ∀ a ∈ l1, a.free = true := fun x hx => hfr x (by simp [hx])
      have hJ' := JN_pull hpair (fun a ha => hleft a (by simp [ha])) hJ
      have hsub : ∀ x ∈ l1 ++ l2, x ∈ l1 ++ b :: l2 := fun x hx => by
        rcases List.mem_append.1 hx with hx | hx <;> simp [hx]
      have hpairs : ∀ x ∈ l1 ++ l2, x.i ≠ b.i := fun x hx => by
        rcases List.mem_append.1 hx with hx | hx
        · have := hpair x hx
          simp only [okPair, plOf, Bool.and_eq_true, Bool.not_eq_true'] at this
          intro e; rw [e] at this; simp at this
        · have h2 : ∀ {l1 : List Pl} {b : Pl} {l2 : List Pl}, okPls (l1 ++ b :: l2) = true → okPls (b :: l2) = true := by
            intro l1
            induction l1 with
            | nil => intro b l2 h; exact h
            | cons c l1 ih => intro b l2 h; simp only [List.cons_append, okPls, Bool.and_eq_true] at h; exact ih h.2
          have := h2 hok
          simp only [okPls, Bool.and_eq_true, List.all_eq_true] at this
          have := this.1.1 _ (List.mem_map_of_mem hx)
          simp only [okPair, plOf, Bool.and_eq_true, Bool.not_eq_true'] at this
          intro e; rw [e] at this; simp at this
      have rest : ∀ E', JN C ops (fun E' => K C (Q .normal) E' L) L (l1 ++ l2) E' → K C (fun a w => wpAnyIn (Fw C.ro) 0 C.P .any ops Q fuel (listed.setIfInBounds i true) a w) E' L := by
        intro E' hk
        refine ih (l1 ++ l2) _ E' (by simp only [List.length_append, List.length_cons] at hlen ⊢; omega) (by simpa using hsz) (fun j hj => ?_) (by
          rw [List.map_append]
          exact okPls_sub hok fun x hx => (List.mem_map.1 hx).elim fun y hy => hy.2 ▸ hfree y hy.1) (fun x hx => hlt x (hsub x hx)) (fun x hx => hfr x (hsub x hx)) hk
        by_cases hji : i = j
        · subst hji
          rw [getD_set_same (by omega)]
          constructor
          · intro h; cases h
          · rintro ⟨x, hx, e⟩
            exact absurd (e.trans hbi.symm) (hpairs x hx)
        · rw [getD_set_ne hji, hin j hj]
          constructor
          · rintro ⟨x, hx, e⟩
            refine ⟨x, ?_, e⟩
            rcases List.mem_append.1 hx with hx | hx
            · simp [hx]
            · rcases List.mem_cons.1 hx with rfl | hx
              · exact absurd (hbi.symm.trans e) hji
              · simp [hx]
          · rintro ⟨x, hx, e⟩
            exact ⟨x, hsub x hx, e⟩
      obtain ⟨bi, tb, fb⟩ := b
      simp only at hbi hoi
      subst hbi
      have ho' : ops[bi]? = some o := ho
      obtain ⟨o', A, ho2, hl, hs, hk⟩ := hJ'
      rw [ho'] at ho2; cases ho2
      exact hs.op ho' hl (rest _ hk) a w p
theorem J_drawN {C : Cx} {id : Nat} {ops : Array Oper} (its : List It) {Q : Exit → Act → World → Prop} {E : Env} {L : List SP} (hmix : C.P.follows .mixedOrders = true) (hok : okM ops.toList its = true) (hfr : its.all (·.free) = true)
    (hJ : JN C ops (fun E' => K C (Q .normal) E' L) L its E) : J C (.region id ops true) Q E L := fun a w p => by
  refine wpIn_region_draw (fun t => ?_)
  simp only [Region.schedule, hmix, Bool.true_or, if_true]
  refine wpAnyIn_sound ops.size t _ a _ ?_
  simp only [okM, Bool.and_eq_true, List.all_eq_true, List.any_eq_true] at hok
  obtain ⟨⟨⟨h1, h2⟩, h3⟩, h4⟩ := hok
  have h5 : ∀ x ∈ its, x.i < ops.size := fun x hx => by have := h4 x hx; simpa using this
  have hnd : (its.map (·.i)).Nodup := by
    have : ∀ {l : List It}, okPls (l.map (plOf ops.toList)) = true → (l.map (·.i)).Nodup := by
      intro l
      induction l with
      | nil => intro _; simp
      | cons x l ih =>
        intro h
        simp only [List.map_cons, okPls, Bool.and_eq_true, List.all_eq_true] at h
        simp only [List.map_cons, List.nodup_cons]
        refine ⟨fun hm => ?_, ih h.2⟩
        obtain ⟨y, hy, e⟩ := List.mem_map.1 hm
        have := h.1.1 _ (List.mem_map_of_mem hy)
        simp only [okPair, plOf, Bool.and_eq_true, Bool.not_eq_true'] at this
        rw [e] at this; simp at this
    exact this h1
  have hlen : its.length ≤ ops.size := by
    have := nodup_le hnd (n := ops.size) (fun i hi => by
      obtain ⟨x, hx, rfl⟩ := List.mem_map.1 hi
      exact h5 x hx)
    simpa using this
  refine wpAny_JN ops.size its _ E hlen (by simp) (fun i hi => ?_) h1 (fun x hx => ⟨h5 x hx, fun e he => ?_⟩) (fun x hx => List.all_eq_true.1 hfr x hx) hJ a _ ?_
  · constructor
    · intro _
      obtain ⟨x, hx, e⟩ := h3 i (by simpa using hi)
      exact ⟨x, hx, (Nat.eq_of_beq_eq_true e).symm⟩
    · intro _; simp [Array.getD_eq_getD_getElem?, hi]
  · have := h2 _ (List.mem_map_of_mem hx) e he
    simpa [plOf] using this
  · obtain ⟨hsz, hds, h, m, hl, sp, st, fr⟩ := p
    exact ⟨hsz, hds, h, m, hl.trans (HL.same (Same.drew _)), ⟨(by first | exact Sep.inv (by assumption) | exact Inv.mono (PH.le_join_left _ _) (Sep.inv (by assumption))), sp.hm, sp.hr, sp.mr, sp.hw, sp.mw, sp.rw⟩, st, fr⟩
open Go
section
variable {C : Cx} {E : Env} {L : List SP} {d : Option Nat} {ty : Nat} {pos : String} {af : Array Edge} {g : Option (Nat × Bool)}
/-- s[:n] of a slice that may not change. -/
theorem step_slice_toI {α : Type} {T e n : Nat} {R : Rp α} {x y : Operand} {xs : List α} {k : IntKind} {i : Int} (hu : C.P.underlying T = some (.slice e)) (hR : TyOf C.P e R)
    (hx : Sub (opTy E x) (tSl R xs)) (hy : Sub (opTy E y) (tV (.int k i))) (hi : i = n) (hn : n ≤ xs.length) :
    Step1 C ⟨d, .slice T x none (some y) none, ty, pos, af, g⟩ E L (tSl R (xs.take n)) :=
  Step.of_run (by intro c h; cases h) fun a w h m l sp st fr => by
    obtain ⟨ao, ⟨cap, hlc⟩, hv, H⟩ := fr.get hx
    have hv : a.eval x = .slice ao xs.length cap := hv
    have h2 : a.eval y = .int k i := fr.get hy
    subst hi
    refine ⟨(), .slice (if cap = 0 then ao else ao.map (·.add 0)) n cap, w, h, _, ?_, HL.refl, sp, st, ⟨_, ⟨cap, by rw [List.length_take, Nat.min_eq_left hn]; omega⟩, by show Value.slice _ n cap = Value.slice _ (xs.take n).length cap; rw [List.length_take, Nat.min_eq_left hn], fun hne => ?_⟩⟩
    · simp [execOp, Instr.sliceAt, run_underlying hu, hv, h2, Instr.slice, Instr.sliceBounds, Instr.sliceBound, asIntOf, hR.size, show n ≤ cap by omega]
    · have h0 : 0 < n := by
        rcases Nat.eq_zero_or_pos n with q | q
        · subst q; exact absurd (by simp) hne
        · exact q
      obtain ⟨b, off, ea, H'⟩ := H (fun e => by rw [e] at hn; simp at hn; omega)
      refine ⟨b, off, by rw [if_neg (by omega), ea]; simp [addr_add], fun j z hz => H' j z ?_⟩
      rw [List.getElem?_take] at hz
      split at hz
      · exact hz
      · cases hz
theorem step_rem {T U : Nat} {x y : Operand} {a b : Int} (hx : Sub (opTy E x) (tV (.int .i64 a))) (hy : Sub (opTy E y) (tV (.int .i64 b))) (ha : 0 ≤ a) (hb : 0 < b) :
    Step1 C ⟨d, .binOp .rem T x y U, ty, pos, af, g⟩ E L (tV (.int .i64 (a % b))) := step_int hx hy (fun P w => by
  have h1 : a.tmod b = a % b := Int.tmod_eq_emod_of_nonneg ha
  have h2 : ¬ b = 0 := by omega
  simp [binOp, Op.intDiv, h1, h2])
theorem step_eql_bool {T U : Nat} {x y : Operand} {a b : Bool} (hu : C.P.underlying T = some .bool) (hx : Sub (opTy E x) (tV (.bool a))) (hy : Sub (opTy E y) (tV (.bool b))) :
    Step1 C ⟨d, .binOp .eql T x y U, ty, pos, af, g⟩ E L (tV (.bool (a == b))) := step_int_bool hx hy (fun w => by
  have h1 := run_equalIn_bool' (P := C.P) w 9999 T a b hu
  have h2 : (Op.equal T (.bool a) (.bool b)).run C.P w = .ok (a == b) w := h1
  simp [binOp, h2])
theorem step_neq_bool {T U : Nat} {x y : Operand} {a b : Bool} (hu : C.P.underlying T = some .bool) (hx : Sub (opTy E x) (tV (.bool a))) (hy : Sub (opTy E y) (tV (.bool b))) :
    Step1 C ⟨d, .binOp .neq T x y U, ty, pos, af, g⟩ E L (tV (.bool (!(a == b)))) := step_int_bool hx hy (fun w => by
  have h1 := run_equalIn_bool' (P := C.P) w 9999 T a b hu
  have h2 : (Op.equal T (.bool a) (.bool b)).run C.P w = .ok (a == b) w := h1
  simp [binOp, h2, bne])
end
open Go
section
variable {C : Cx} {E : Env} {L : List SP} {d : Option Nat} {ty : Nat} {pos : String} {af : Array Edge} {g : Option (Nat × Bool)}
end
open Go
def fldAt (v : Value) (k i o : Nat) : Value := match v with
  | .slice (some a) _ _ => .pointer (some ⟨a.block, a.off + i * k + o, none⟩)
  | _ => undef
theorem splice_in {β : Type} (l c cz : List β) (a K o k : Nat) (hc : c.length = K) (ho : o + k ≤ K) (hl : a + K ≤ l.length) (hg : ∀ j, j < K → l[a + j]? = c[j]?) :
    l.take a ++ (c.take o ++ cz ++ c.drop (o + k)) ++ l.drop (a + K) = l.take (a + o) ++ cz ++ l.drop (a + o + k) := by
  have e : l = l.take a ++ (c ++ l.drop (a + K)) := by
    have e1 : (l.drop a).take K = c := by
      apply List.ext_getElem?
      intro j
      rw [List.getElem?_take]
      by_cases hj : j < K
      · rw [if_pos hj, List.getElem?_drop, hg j hj]
      · rw [if_neg hj, List.getElem?_eq_none (by omega)]
    have e2 : l.drop a = c ++ l.drop (a + K) := by
      rw [← e1, ← List.drop_drop, List.take_append_drop]
    rw [← e2, List.take_append_drop]
  have hA : (l.take a).length = a := by simp; omega
  have h1 : l.take (a + o) = l.take a ++ c.take o := by
    conv => lhs; rw [e]
    rw [List.take_append, hA, List.take_of_length_le (by omega)]
    congr 1
    rw [List.take_append, hc, show a + o - a = o by omega, show o - K = 0 by omega]; simp
  have h2 : l.drop (a + o + k) = c.drop (o + k) ++ l.drop (a + K) := by
    conv => lhs; rw [e]
    rw [List.drop_append, hA, List.drop_of_length_le (by omega), List.nil_append]
    rw [List.drop_append, hc, show a + o + k - a = o + k by omega, show o + k - K = 0 by omega]; simp
  rw [h1, h2]; simp [List.append_assoc]
section
variable {C : Cx} {E : Env} {L : List SP} {d : Option Nat} {ty : Nat} {pos : String} {af : Array Edge} {g : Option (Nat × Bool)}
theorem step_fieldAddr_elem {α : Type} {T e n i : Nat} {fs : List (SF α)} {x : Operand} {v : Value} {xs : List α} {f : SF α} {S : List SP} (So : StructOf C.P T fs) (hx : Sub (opTy E x) (tV (elemAt v (SF.width fs) i))) (hf : fs[n]? = some f)
    (sel : Sel L [own e (rStruct fs) v xs] S) (hi : i < xs.length) : Step1 C ⟨d, .fieldAddr T x n, ty, pos, af, g⟩ E L (tV (fldAt v (SF.width fs) i (SF.off fs n))) :=
  Step.of_run (by intro c h; cases h) fun a w h m l sp st fr => by
    have hp : a.eval x = elemAt v (SF.width fs) i := fr.get hx
    obtain ⟨m1, m2, d12, rfl, ho, s2⟩ := sel.one.1 st
    rcases ho with ⟨rfl, rfl, _⟩ | ⟨b, cap, cur, rfl, rfl, hl, hm, hs, r⟩
    · simp at hi
    · refine ⟨(), _, w, h, _, ?_, HL.refl, sp, st, rfl⟩
      simp only [elemAt, Nat.zero_add] at hp
      have := So.fieldAt hf b (i * SF.width fs) w
      simp [execOp, hp, this, fldAt]
theorem step_store_elemfld {α β : Type} {T e i n : Nat} {fs : List (SF α)} {R : Rp β} {z : β} {x u : Operand} {v : Value} {xs : List α} {y y' : α} {S : List SP} (hR : TyOf C.P T R) (hx : Sub (opTy E x) (tV (fldAt v (SF.width fs) i (SF.off fs n)))) (hv : Sub (opTy E u) (R.ty z))
    (sel : Sel L [own e (rStruct fs) v xs] S) (hy : xs[i]? = some y) (hu : SF.upd y y' R z fs n) :
    Step C ⟨d, .store T x u, ty, pos, af, g⟩ E L (fun _ : Unit => tAny) (fun _ => own e (rStruct fs) v (xs.set i y') :: S) :=
  Step.of_skip (by intro c h; cases h) fun a w h m l sp st fr => by
    have hp : a.eval x = fldAt v (SF.width fs) i (SF.off fs n) := fr.get hx
    have rz := R.cells (fr.get hv)
    have hi : i < xs.length := (List.getElem?_eq_some_iff.1 hy).1
    obtain ⟨m1, m2, d12, rfl, ho, s2⟩ := sel.one.1 st
    rcases ho with ⟨rfl, rfl, _⟩ | ⟨b, cap, cur, rfl, rfl, hl, hm, hs, r⟩
    · simp at hi
    · have hb := sp.heap_own
      have hK : (rStruct fs).k = SF.width fs := rfl
      rw [hK] at r hs
      obtain ⟨c, rc, hc⟩ := relAll_get r hy
      rw [hK] at hc
      have rc : SF.rel h y fs c := rc
      have hcl := SF.rel_len rc
      obtain ⟨rn, hle0⟩ := SF.rel_set rz hu rc
      rw [hcl] at hle0
      have hle : i * SF.width fs + SF.width fs ≤ xs.length * SF.width fs := by rw [← Nat.succ_mul]; exact Nat.mul_le_mul_right _ hi
      have hle2 : xs.length * SF.width fs ≤ cap * SF.width fs := Nat.mul_le_mul_right _ hl
      have hrz := R.len rz
      obtain ⟨w', hrun, hoth, hsame, hnew⟩ := run_storeVar_cells (P := C.P) (b := b) (o := i * SF.width fs + SF.off fs n) (v := a.eval u) hR.size (by simpa using hrz) hb (by rw [hs]; omega) (R.one rz)
      have rn2 := relAll_set (R := rStruct fs) rn hi r
      rw [hK] at rn2
      refine ⟨(), w', h, (PH.one b _).join m2, ?_, HL.same hsame, Sep.write d12 sp (fun b' hne _ => hoth b' hne) hnew, ?_⟩
      · simp only [fldAt, Nat.zero_add] at hp
        simp [execOp, Instr.storeAt, Instr.sureAddr, hp, hrun]
      · refine ⟨_, m2, PH.one_disj_iff.2 (PH.one_disj_iff.1 d12), rfl, .inr ⟨b, cap, _, by simp, rfl, by simpa using hl, hm, ?_, ?_⟩, s2⟩
        · simp only [Array.length_toList] at hrz
          simp only [List.size_toArray, List.length_append, List.length_take, List.length_drop, Array.length_toList, hs, hrz, hK]
          omega
        · have e0 := splice_in cur.toList c (a.eval u).cells.toList (i * SF.width fs) (SF.width fs) (SF.off fs n) R.k hcl hle0 (by simp [hs]; omega) (fun j hj => by
            have h1 := hc j (c[j]'(by omega)) (List.getElem?_eq_getElem (by omega))
            rw [List.getElem?_take] at h1
            split at h1
            · rw [h1, List.getElem?_eq_getElem (by omega)]
            · cases h1)
          have e1 := list_take_splice cur.toList (c.take (SF.off fs n) ++ (a.eval u).cells.toList ++ c.drop (SF.off fs n + R.k)) (i * SF.width fs) (SF.width fs) (xs.length * SF.width fs) hle (by simpa [hs] using hle2) (by simp only [List.length_append, List.length_take, List.length_drop, hrz, hcl]; omega)
          rw [List.length_set]
          show relAll (rStruct fs) h _ (List.take (xs.length * SF.width fs) (List.take (i * SF.width fs + SF.off fs n) cur.toList ++ (a.eval u).cells.toList ++ List.drop (i * SF.width fs + SF.off fs n + R.k) cur.toList).toArray.toList)
          rw [List.toList_toArray, ← e0, e1]
          exact rn2
end
open Go
abbrev toB (s : List UInt8) : ByteArray := ⟨s.toArray⟩
/-- The world that a call leaves behind, below the first heap as it was. -/
theorem sep_below {h m r : PH} {w w' : World} (s : Sep h m r w) (b : RowKit.Below w.heap.size w w') : HL h w h w' ∧ Sep h m r w' := by
  have go : ∀ {p : PH}, p.inw w → p.inw w' := fun {p} hp b' o e => by
    have := hp b' o e
    rw [b.block _ (Array.getElem?_eq_some_iff.1 this).1]; exact this
  exact ⟨HL.same ⟨b.os, b.tape, b.output⟩, ⟨s.inv, s.hm, s.hr, s.mr, go s.hw, go s.mw, go s.rw⟩⟩
/-- The table in the world. -/
theorem inv_tab {P : Program} (hg : P.globalNamed "internal/strconv.uint64pow10" = some tabG) {h : PH} {w : World} (hi : Inv h) (hw : h.inw w) : Lib.TabIs P w "internal/strconv.uint64pow10" .u64 Lib.pow10Tab := by
  obtain ⟨e, fz, q⟩ := hi
  have := hw _ _ q
  simp only [Lib.TabIs, World.var?, hg, Option.bind_some, this]
  rfl
def itoaB (n : Int) : ByteArray := toB (Lib.itoa n)
theorem itoa_spec {P : Program} {ρ : Shelf.Ren} (L : Go.Proofs.LaysM.n171 P ρ) (hg : P.globalNamed "internal/strconv.uint64pow10" = some tabG) (n : Int) (h0 : -9223372036854775808 ≤ n) (h1 : n ≤ 9223372036854775807) :
    Fun1 P (ρ.f 171) [tV (.int .i64 n)] (tV (.string (itoaB n))) := by
  intro vs h m r w ha sp st
  match vs, ha with
  | [u1], ⟨a1, _⟩ =>
  have a1 : u1 = .int .i64 n := a1
  subst a1
  refine (Go.Proofs.Any.strconv_Itoa L n h0 h1 w (inv_tab hg sp.inv sp.hw)).mono ?_
  rintro e w' ⟨rfl, k, os, rfl⟩
  obtain ⟨l, s⟩ := sep_below sp (Go.Proofs.below_grown w k os)
  exact ⟨(), _, h, m, rfl, l, s, st, rfl⟩
open Go
section
variable {κ β : Type} [DecidableEq κ] {kv : κ → Value} {R : Rp β}
variable {C : Cx} {E : Env} {L : List SP} {d : Option Nat} {ty : Nat} {pos : String} {af : Array Edge} {g : Option (Nat × Bool)}
/-- The first place of a key. -/
def fi (q : κ) : List (κ × β) → Option Nat
  | [] => none
  | (k, _) :: m => if q = k then some 0 else (fi q m).map (· + 1)
theorem entR.fi {h : PH} {q : κ} : ∀ {m : List (κ × β)} {es : List MapEntry} {n i : Nat}, entR kv R h m es n → Lg.fi q m = some i →
    (es.findIdx? fun e => (e.born : Int) == ((n + i : Nat) : Int)) = some i ∧ ∀ y u, (R.ty y).p h u → entR kv R h (mput m q y) (es.modify i fun e => { e with val := u }) n
  | [], [], _, _, _, q => by cases q
  | (k, x) :: m, e :: es, n, i, hq, hi => by
    obtain ⟨h1, h2, h3, h4⟩ := hq
    by_cases hk : q = k
    · subst hk
      have : i = 0 := by simpa [Lg.fi, eq_comm] using hi
      subst this
      refine ⟨by simp [List.findIdx?_cons, h3], fun y u hu => ?_⟩
      simp only [mput, if_true]
      exact ⟨h1, hu, h3, h4⟩
    · simp only [Lg.fi, if_neg hk, Option.map_eq_some_iff] at hi
      obtain ⟨j, hj, rfl⟩ := hi
      obtain ⟨a, b⟩ := entR.fi h4 hj
      refine ⟨?_, fun y u hu => ?_⟩
      · rw [List.findIdx?_cons]
        have : ((e.born : Int) == ((n + (j + 1) : Nat) : Int)) = false := by simp [h3]; omega
        rw [this]
        have e2 : ((n + 1 + j : Nat) : Int) = ((n + (j + 1) : Nat) : Int) := by omega
        rw [e2] at a
        simp only [Bool.false_eq_true, if_false]
        rw [a]; rfl
      · simp only [mput, if_neg hk]
        exact ⟨h1, h2, h3, b y u hu⟩
end
section
variable {C : Cx} {E : Env} {L : List SP} {d : Option Nat} {ty : Nat} {pos : String} {af : Array Edge} {g : Option (Nat × Bool)}
theorem nth_bytes {s : ByteArray} {i : Nat} (h : i < s.size) : s[i]? = some (s.data.toList.getD i 0) := by
  have h2 : i < s.data.size := h
  rw [getElem?_pos s i h]
  simp [List.getD, h2]
  rw [Array.getElem?_eq_getElem h2]; rfl
theorem step_index_str {T i : Nat} {x y : Operand} {s : ByteArray} {k : IntKind} {n : Int} (hu : C.P.underlying T = some .string) (hx : Sub (opTy E x) (tV (.string s))) (hy : Sub (opTy E y) (tV (.int k n))) (hi : n = i) (hl : i < s.size) :
    Step1 C ⟨d, .index T x y, ty, pos, af, g⟩ E L (tV (.int .u8 (nth (bytesOf s) i))) :=
  Step.of_same (by intro c h; cases h) fun a w h hh f => by
    have h1 : a.eval x = .string s := f.get hx
    have h2 : a.eval y = .int k n := f.get hy
    subst hi
    have e : nth (bytesOf s) i = ((s.data.toList.getD i 0).toNat : Int) := by
      have hl' : i < (bytesOf s).length := by rw [bytesOf_len]; exact hl
      rw [nth_get hl']
      have h2 : i < s.data.toList.length := hl
      have h3 : i < s.data.size := hl
      simp only [bytesOf, List.getElem_map]
      rw [List.getD_eq_getElem?_getD, List.getElem?_eq_getElem h2]
      rfl
    refine ⟨.int .u8 (nth (bytesOf s) i), ?_, rfl⟩
    rw [e]
    simp [execOp, Instr.index, h1, h2, run_underlying hu, asIntOf, nth_bytes hl]
theorem step_quo {T U : Nat} {x y : Operand} {a b : Int} (hx : Sub (opTy E x) (tV (.int .i64 a))) (hy : Sub (opTy E y) (tV (.int .i64 b))) (ha : 0 ≤ a) (hb : 0 < b) (hr : in64 (a / b)) :
    Step1 C ⟨d, .binOp .quo T x y U, ty, pos, af, g⟩ E L (tV (.int .i64 (a / b))) := step_int hx hy (fun P w => by
  have h1 : a.tdiv b = a / b := Int.tdiv_eq_ediv_of_nonneg ha
  have h2 : ¬ b = 0 := by omega
  simp [binOp, Op.intDiv, h1, h2, wrap64_in hr])
theorem step_add_str {T U : Nat} {x y : Operand} {a b : ByteArray} (hx : Sub (opTy E x) (tV (.string a))) (hy : Sub (opTy E y) (tV (.string b))) (hs : a.size + b.size ≤ 9223372036854775807) :
    Step1 C ⟨d, .binOp .add T x y U, ty, pos, af, g⟩ E L (tV (.string (a ++ b))) := step_str hx hy (fun P w => by simp [binOp, Op.stringOp]; omega)
/-- s == nil -/
theorem step_eql_slnil {α : Type} {T U e : Nat} {R : Rp α} {x : Operand} {xs : List α} (hu : C.P.underlying T = some (.slice e)) (hx : Sub (opTy E x) (tSl R xs)) :
    Step (X := { b : Bool // b = true → xs = [] }) C ⟨d, .binOp .eql T x (.const (.slice none 0 0)) U, ty, pos, af, g⟩ E L (fun b => tV (.bool b.1)) (fun _ => L) :=
  Step.of_run (by intro c h; cases h) fun a w h m l sp st fr => by
    obtain ⟨ao, cap, hv, H⟩ := fr.get hx
    refine ⟨⟨ao.isNone, fun hb => ?_⟩, .bool ao.isNone, w, h, m, ?_, HL.refl, sp, st, rfl⟩
    · by_cases hne : xs = []
      · exact hne
      · obtain ⟨b, off, rfl, _⟩ := H hne
        cases hb
    · have he : ∀ w, (eqGuard .eql T x (.const (.slice none 0 0)) (a.eval x) (.slice none 0 0)).run C.P w = .ok () w := by intro w; rw [hv]; simp [eqGuard]
      have h2 : a.eval (.const (.slice none 0 0)) = .slice none 0 0 := rfl
      have hr := Lib.run_eql_slice_nil (P := C.P) w T e ao xs.length cap 0 0 hu
      rw [hv] at he
      simp [execOp, hv, h2, Sem.run_bind, he, hr]
theorem Sep.newImm {h m r : PH} {w w' : World} {o : Obj} (s : Sep h m r w) (hold : ∀ j, j < w.heap.size → w'.heap[j]? = w.heap[j]?) (hnew : w'.heap[w.heap.size]? = some o) : Sep (h.join (PH.one w.heap.size o)) m r w' := by
  have s2 := s.allocImm o
  have go : ∀ {p : PH}, p.inw (w.alloc o) → p.inw w' := fun {p} hp b o' e => by
    have h1 := hp b o' e
    have hlt := (Array.getElem?_eq_some_iff.1 h1).1
    rw [show (w.alloc o).heap = w.heap.push o from rfl] at h1 hlt
    by_cases hb : b < w.heap.size
    · rw [hold b hb]; rw [Array.getElem?_push_lt hb] at h1; rw [Array.getElem?_eq_getElem hb]; exact h1
    · have : b = w.heap.size := by simp at hlt; omega
      subst this
      rw [hnew]; simpa using h1
  exact ⟨s2.inv, s2.hm, s2.hr, s2.mr, go s2.hw, go s2.mw, go s2.rw⟩
/-- []byte(s) -/
theorem step_convert_bytes {T U e : Nat} {x : Operand} {s : ByteArray} (hs : C.P.underlying T = some .string) (hd : C.P.underlying U = some (.slice e)) (he : C.P.underlying e = some (.int .u8)) (hx : Sub (opTy E x) (tV (.string s))) :
    Step1 C ⟨d, .convert T U x, ty, pos, af, g⟩ E L (tSl rU8 (bytesOf s)) :=
  Step.of_run (by intro c h; cases h) fun a w h m l sp st fr => by
    have hv : a.eval x = .string s := fr.get hx
    refine ⟨(), .slice (some ⟨w.heap.size, 0, none⟩) s.size (grownCap w s.size 0 e), Lib.bytesWorld w e s, h.join (PH.one w.heap.size (.cells (Lib.bytesCells w e s) e ((Lib.bytesCells w e s).size, (Lib.bytesCells w e s).size + 1))), m, ?_, ⟨PH.le_join_left _ _, ?_⟩, sp.newImm (fun j hj => Lib.bytesWorld_at_old w e s j hj) (Lib.bytesWorld_at_new w e s), (stars L).mono (PH.le_join_left _ _) st, ?_⟩
    · simp [execOp, hv, Lib.run_convert_string_bytes (P := C.P) w T U e s hs hd he]
    · exact ⟨rfl, rfl, rfl⟩
    · have := tSl_of_relAll (R := rU8) (h := h.join (PH.one w.heap.size (.cells (Lib.bytesCells w e s) e ((Lib.bytesCells w e s).size, (Lib.bytesCells w e s).size + 1)))) (b := w.heap.size) (off := 0) (cap := grownCap w s.size 0 e) (c := Lib.bytesCells w e s) (e := e) (fz := ((Lib.bytesCells w e s).size, (Lib.bytesCells w e s).size + 1)) (xs := bytesOf s) (cs := (bytesOf s).map (Value.int .u8 ·)) (PH.le_join_right (PH.one_disj_new sp.hw _) _ _ (PH.one_same _ _)) (relAll_u8.2 rfl) (fun j v hv => by
        simp only [List.getElem?_map, Option.map_eq_some_iff] at hv
        obtain ⟨n, hn, rfl⟩ := hv
        simp only [bytesOf, List.getElem?_map, Option.map_eq_some_iff] at hn
        obtain ⟨b, hb, rfl⟩ := hn
        have hlt : j < s.data.size := by
          have := (List.getElem?_eq_some_iff.1 hb).1
          simpa using this
        rw [Nat.zero_add]
        simp only [Lib.bytesCells]
        rw [Array.getElem?_append_left (by simpa using hlt)]
        have hb2 : s.data[j]? = some b := by simpa using hb
        simp [hb2])
      rw [bytesOf_len] at this
      exact this (grownCap_ge _ _ _ _)
/-- s[n:] of a slice that may not change, of elements of one cell. -/
theorem step_slice_fromI {α : Type} {T e n : Nat} {R : Rp α} {x y : Operand} {xs : List α} {k : IntKind} {i : Int} (hu : C.P.underlying T = some (.slice e)) (hR : TyOf C.P e R) (hk : R.k = 1)
    (hx : Sub (opTy E x) (tSl R xs)) (hy : Sub (opTy E y) (tV (.int k i))) (hi : i = n) (hn : n ≤ xs.length) :
    Step1 C ⟨d, .slice T x (some y) none none, ty, pos, af, g⟩ E L (tSl R (xs.drop n)) :=
  Step.of_run (by intro c h; cases h) fun a w h m l sp st fr => by
    obtain ⟨ao, ⟨cap, hlc⟩, hv, H⟩ := fr.get hx
    have hv : a.eval x = .slice ao xs.length cap := hv
    have h2 : a.eval y = .int k i := fr.get hy
    have hsz : ∀ w, (Go.sizeOf e).run C.P w = .ok 1 w := fun w => by have := hR.size w; rw [hk] at this; exact this
    subst hi
    refine ⟨(), .slice (if cap = n then ao else ao.map (·.add n)) (xs.length - n) (cap - n), w, h, _, ?_, HL.refl, sp, st, ⟨_, ⟨cap - n, by rw [List.length_drop]; omega⟩, by show Value.slice _ (xs.length - n) (cap - n) = Value.slice _ (xs.drop n).length (cap - n); rw [List.length_drop], fun hne => ?_⟩⟩
    · simp [execOp, Instr.sliceAt, run_underlying hu, hv, h2, Instr.slice, Instr.sliceBounds, Instr.sliceBound, asIntOf, hsz, hn]
    · have hlt : n < xs.length := by
        rcases Nat.lt_or_ge n xs.length with q | q
        · exact q
        · exact absurd (List.drop_of_length_le q) hne
      obtain ⟨b, off, ea, H'⟩ := H (fun e => by rw [e] at hlt; simp at hlt)
      refine ⟨b, off + n, by rw [if_neg (by omega), ea]; simp [addr_add], fun j z hz => ?_⟩
      obtain ⟨cs, q1, q2⟩ := H' (n + j) z (by simpa [List.getElem?_drop] using hz)
      rw [hk, Nat.mul_one] at q1 ⊢
      exact ⟨cs, by rw [show off + n + j = off + (n + j) by omega]; exact q1, q2⟩
end
open Go
section
variable {κ β : Type} [DecidableEq κ]
/-- A map in immutable memory. -/
def tMapI (kv : κ → Value) (R : Rp β) (m : List (κ × β)) : Ty := ⟨fun h v => ∃ m1 : PH, m1.le h ∧ (mapOwn kv R v m).p h m1, fun {h h' v} l ⟨m1, a, b⟩ => ⟨m1, PH.le_trans a l, (mapOwn kv R v m).mono l b⟩⟩
theorem Frz.mapI {kv : κ → Value} {R : Rp β} {v : Value} {m : List (κ × β)} {S : List SP} : Frz (mapOwn kv R v m :: S) (tV v) (tMapI kv R m) := fun h mm u d ⟨m1, m2, d12, em, ho, _⟩ hu => by
  subst em
  have hu : u = v := hu
  subst hu
  have hd := PH.disj_join'.1 d
  exact ⟨m1, fun b o e => PH.le_join_right d _ _ (PH.le_join_left _ _ _ _ e), (mapOwn kv R u m).mono (PH.le_join_left _ _) ho⟩
variable {kv : κ → Value} {R : Rp β}
variable {C : Cx} {E : Env} {L : List SP} {d : Option Nat} {ty : Nat} {pos : String} {af : Array Edge} {g : Option (Nat × Bool)}
theorem step_lookupI_ok {T kt e : Nat} {x y : Operand} {m : List (κ × β)} {q : κ} {z : β} {zv : Value} (K : KeyT C.P kt kv) (hu : C.P.underlying T = some (.map kt e)) (hz : ∀ w, (zeroValue e).run C.P w = .ok zv w) (hzr : ∀ h, (R.ty z).p h zv)
    (hx : Sub (opTy E x) (tMapI kv R m)) (hy : Sub (opTy E y) (tV (kv q))) : Step1 C ⟨d, .lookup T x y true, ty, pos, af, g⟩ E L (tTup [R.ty ((mget m q).getD z), tV (.bool (mget m q).isSome)]) :=
  Step.of_run (by intro c h; cases h) fun a w h mm l sp st fr => by
    obtain ⟨m1, hle, ho⟩ := fr.get hx
    have h2 : a.eval y = kv q := fr.get hy
    obtain ⟨u, hu1, hrun⟩ := run_lookup (P := C.P) K hu hz hzr ho (fun b o e => sp.hw _ _ (hle _ _ e)) q true
    exact ⟨(), _, w, h, _, by simp [execOp, h2, hrun], HL.refl, sp, st, ⟨[u, .bool _], rfl, hu1, rfl, trivial⟩⟩
end
section
variable {C : Cx} {E : Env} {L : List SP} {d : Option Nat} {ty : Nat} {pos : String} {af : Array Edge} {g : Option (Nat × Bool)}
end
open Go Go.Proofs
/-- An array of n elements. -/
def rArr {β : Type} (n : Nat) (R : Rp β) : Rp (List β) where
  k := n * R.k
  agg := true
  rel := fun h xs cs => xs.length = n ∧ relAll R h xs cs
  ty := fun xs => ⟨fun h v => ∃ cs, (xs.length = n ∧ relAll R h xs cs) ∧ v = packV true cs, fun l ⟨cs, r, e⟩ => ⟨cs, ⟨r.1, relAll_mono l r.2⟩, e⟩⟩
  len := by rintro h xs cs ⟨rfl, r⟩; exact relAll_len r
  one := by rintro h xs cs ⟨_, r⟩; exact relAll_one r
  mono := fun l r => ⟨r.1, relAll_mono l r.2⟩
  scalar := fun e => by cases e
  iff := Iff.rfl
/-- One cell of a semantic type. -/
def rTyp (A : Ty) (ho : ∀ h v, A.p h v → v.oneCell' = true) : Rp Unit where
  k := 1
  agg := false
  rel := fun h _ cs => ∃ u, cs = [u] ∧ A.p h u
  ty := fun _ => A
  len := by rintro _ _ _ ⟨u, rfl, _⟩; rfl
  one := by rintro _ _ _ ⟨u, rfl, h⟩ c hc; simp at hc; subst hc; exact ho _ _ h
  mono := fun l ⟨u, e, a⟩ => ⟨u, e, A.mono l a⟩
  scalar := fun _ => rfl
  iff := by
    intro h x v
    constructor
    · intro h1; exact ⟨[v], ⟨v, rfl, h1⟩, rfl⟩
    · rintro ⟨cs, ⟨u, rfl, h1⟩, rfl⟩; exact h1
section
variable {C : Cx} {E : Env} {L : List SP} {d : Option Nat} {ty : Nat} {pos : String} {af : Array Edge} {g : Option (Nat × Bool)}
theorem step_nilCheck {x : Operand} {b o : Nat} (hx : Sub (opTy E x) (tAt b o)) : Step1 C ⟨d, .nilCheck x, ty, pos, af, g⟩ E L (tAt b o) :=
  Step.of_same (by intro c h; cases h) fun a w h hw fr => by
    have hv : a.eval x = .pointer (some ⟨b, o, none⟩) := fr.get hx
    exact ⟨_, by simp [execOp, hv], rfl⟩
theorem step_nilCheckP {α : Type} {R : Rp α} {x : Operand} {y : α} (hx : Sub (opTy E x) (tPtr R y)) : Step1 C ⟨d, .nilCheck x, ty, pos, af, g⟩ E L (tPtr R y) :=
  Step.of_same (by intro c h; cases h) fun a w h hw fr => by
    have hp := fr.get hx
    obtain ⟨b, off, cs, hv, H⟩ := hp
    exact ⟨_, by simp [execOp, hv], ⟨b, off, cs, rfl, H⟩⟩
theorem step_arrIdx {T n e b o i : Nat} {x y : Operand} {k : IntKind} {z : Int} (hu : C.P.underlying T = some (.array n e)) (hs : ∀ w, (Go.sizeOf e).run C.P w = .ok 1 w) (hx : Sub (opTy E x) (tAt b o)) (hy : Sub (opTy E y) (tV (.int k z))) (hz : z = i) (hlt : i < n) :
    Step1 C ⟨d, .indexAddr T x y, ty, pos, af, g⟩ E L (tAt b (o + i)) :=
  Step.of_same (by intro c h; cases h) fun a w h hw fr => by
    have hv : a.eval x = .pointer (some ⟨b, o, none⟩) := fr.get hx
    have h2 : a.eval y = .int k z := fr.get hy
    subst hz
    refine ⟨.pointer (some ⟨b, o + i, none⟩), ?_, rfl⟩
    simp [execOp, Instr.indexAt, Instr.sureAddr, hv, h2, asIntOf, run_underlying hu, hs, hlt, addr_add]
theorem step_arrIdxP {β : Type} [Inhabited β] {R : Rp β} {T n e i : Nat} {x y : Operand} {xs : List β} {k : IntKind} {z : Int} (hu : C.P.underlying T = some (.array n e)) (hR : TyOf C.P e R) (hk : R.k = 1) (hx : Sub (opTy E x) (tPtr (rArr n R) xs)) (hy : Sub (opTy E y) (tV (.int k z))) (hz : z = i) (hlt : i < n) :
    Step1 C ⟨d, .indexAddr T x y, ty, pos, af, g⟩ E L (tPtr R (nth xs i)) :=
  Step.of_same (by intro c h; cases h) fun a w h hw fr => by
    obtain ⟨b, off, cs, hv, ⟨c, e', fz, hb, hc⟩, hn, r⟩ := fr.get hx
    have h2 : a.eval y = .int k z := fr.get hy
    subst hz
    have hl : i < xs.length := by omega
    obtain ⟨c', r', hc'⟩ := relAll_get r (List.getElem?_eq_getElem hl)
    have hs := hR.size
    rw [hk] at hs
    refine ⟨.pointer (some ⟨b, off + i, none⟩), ?_, b, off + i, c', rfl, ⟨c, e', fz, hb, fun j v hv' => ?_⟩, by rw [nth_get hl]; exact r'⟩
    · simp [execOp, Instr.indexAt, Instr.sureAddr, hv, h2, asIntOf, run_underlying hu, hs, hlt, addr_add]
    · rw [Nat.add_assoc]
      have := hc' j v hv'
      rw [hk, Nat.mul_one] at this
      exact hc _ _ this
theorem step_load_arr {α β : Type} [Inhabited β] {T U A n b i : Nat} {R : Rp β} {gt : α → List β} {fs : List (SF α)} {x : Operand} {y : α} {S : List SP} (hR : TyOf C.P T R) (hk : R.k = 1) (hx : Sub (opTy E x) (tAt b i)) (hi : i < n)
    (sel : Sel L [box b U (rStruct (⟨List β, A, rArr n R, gt⟩ :: fs)) y] S) : Step1 C ⟨d, .load T x, ty, pos, af, g⟩ E L (R.ty (nth (gt y) i)) :=
  Step.of_run (by intro c h; cases h) fun a w h m l sp st fr => by
    obtain ⟨m1, m2, d12, rfl, ⟨cs, r, rfl⟩, s2⟩ := sel.one.1 st
    have hb := sp.heap_own
    obtain ⟨c1, c2, rfl, ⟨hn, r1⟩, r2⟩ := r
    have hl : i < (gt y).length := by simpa using hn ▸ hi
    obtain ⟨c', r', hc'⟩ := relAll_get r1 (List.getElem?_eq_getElem hl)
    have := run_loadVar_cells (b := b) (o := i) (w := w) hR.agg hR.size (R.len r') R.scalar (fun j v hv' => by
      have h1 := hc' j v hv'
      rw [hk, Nat.mul_one] at h1
      rw [inw_cells (h := h) hb]
      have hlt := (List.getElem?_eq_some_iff.1 h1).1
      simp [List.getElem?_append_left hlt, h1])
    refine ⟨(), packV R.agg c', w, h, _, ?_, HL.refl, sp, st, ?_⟩
    · have hv : a.eval x = .pointer (some ⟨b, i, none⟩) := fr.get hx
      simp [execOp, Instr.loadAt, Instr.sureAddr, hv, this]
    · rw [nth_get hl]; exact R.pack r'
theorem relAll_set1 {β : Type} {R : Rp β} {h : PH} (hk : R.k = 1) {xs : List β} {cs : List Value} {i : Nat} {z : β} {u : Value} (hi : i < xs.length) (rz : R.rel h z [u]) (r : relAll R h xs cs) : relAll R h (xs.set i z) (cs.set i u) := by
  have h1 := relAll_set rz hi r
  rw [hk] at h1
  simp only [Nat.mul_one] at h1
  have hl := relAll_len r
  rw [hk, Nat.mul_one] at hl
  have e : cs.set i u = List.take i cs ++ u :: List.drop (i + 1) cs := by rw [List.set_eq_take_append_cons_drop, if_pos (by omega)]
  rw [e]
  simpa [List.append_assoc] using h1
theorem step_store_arr {α β : Type} {T U A n b i : Nat} {R : Rp β} {gt : α → List β} {fs : List (SF α)} {x v : Operand} {y y' : α} {z : β} {S : List SP} (hR : TyOf C.P T R) (hk : R.k = 1) (hx : Sub (opTy E x) (tAt b i)) (hi : i < n) (hv : Sub (opTy E v) (R.ty z))
    (sel : Sel L [box b U (rStruct (⟨List β, A, rArr n R, gt⟩ :: fs)) y] S) (hy : gt y' = (gt y).set i z) (hg : ∀ f ∈ fs, f.get y' = f.get y) :
    Step C ⟨d, .store T x v, ty, pos, af, g⟩ E L (fun _ : Unit => tAny) (fun _ => box b U (rStruct (⟨List β, A, rArr n R, gt⟩ :: fs)) y' :: S) :=
  Step.of_skip (by intro c h; cases h) fun a w h m l sp st fr => by
    obtain ⟨m1, m2, d12, rfl, ⟨cs, r, rfl⟩, s2⟩ := sel.one.1 st
    have hb := sp.heap_own
    obtain ⟨c1, c2, rfl, ⟨hn, r1⟩, r2⟩ := r
    have hl : i < (gt y).length := by simpa using hn ▸ hi
    have rz := R.cells (fr.get hv)
    have hzl := R.len rz
    rw [hk] at hzl
    obtain ⟨u, hu⟩ : ∃ u, (a.eval v).cells.toList = [u] := by
      match he : (a.eval v).cells.toList with
      | [u] => exact ⟨u, rfl⟩
      | [] => rw [he] at hzl; simp at hzl
      | _ :: _ :: _ => rw [he] at hzl; simp at hzl
    have hl1 := relAll_len r1
    rw [hk, Nat.mul_one] at hl1
    have hp : a.eval x = .pointer (some ⟨b, i, none⟩) := fr.get hx
    have hsz : (a.eval v).cells.size = R.k := by rw [hk, ← Array.length_toList, hu]; rfl
    obtain ⟨w', hrun, hoth, hsame, hnew⟩ := run_storeVar_cells (P := C.P) (b := b) (o := i) (v := a.eval v) hR.size hsz hb (by simp; omega) (R.one rz)
    rw [hu] at rz hnew
    have hcells : List.take i (c1 ++ c2) ++ [u] ++ List.drop (i + R.k) (c1 ++ c2) = c1.set i u ++ c2 := by
      rw [hk, List.set_eq_take_append_cons_drop, if_pos (by omega), List.take_append_of_le_length (by omega), List.drop_append_of_le_length (by omega)]
      simp [List.append_assoc]
    refine ⟨(), w', h, (PH.one b (.cells (c1.set i u ++ c2).toArray U (0, 0))).join m2, ?_, HL.same hsame, Sep.write d12 sp (fun b' hne _ => hoth b' hne) (by rw [hnew, ← hcells]), ?_⟩
    · simp [execOp, Instr.storeAt, Instr.sureAddr, hp, hrun]
    · refine ⟨_, m2, PH.one_disj_iff.2 (PH.one_disj_iff.1 d12), rfl, ⟨c1.set i u ++ c2, ⟨c1.set i u, c2, rfl, ?_, SF.rel_congr hg r2⟩, rfl⟩, s2⟩
      exact ⟨by show (gt y').length = n; rw [hy]; simpa using hn, by show relAll R h (gt y') _; rw [hy]; exact relAll_set1 hk hl rz r1⟩
/-- make([]T, 0, c). -/
theorem step_make0 {α : Type} {T e bytes : Nat} {R : Rp α} {z : α} {x y : Operand} {c : Nat} {kl kc : IntKind} {i j : Int} (hu : C.P.underlying T = some (.slice e)) (hE : ElT C.P e R bytes z)
    (hx : Sub (opTy E x) (tV (.int kl i))) (hy : Sub (opTy E y) (tV (.int kc j))) (hi : i = 0) (hj : j = c) (hb : bytes * c ≤ 281474976710656) (hn : c ≤ 1000000000000) :
    Step C ⟨d, .makeSlice T x y, ty, pos, af, g⟩ E L (fun v : Value => rV.ty v) (fun v => own e R v ([] : List α) :: L) :=
  Step.of_run (by intro c h; cases h) fun a w h m l sp st fr => by
    obtain ⟨i', zv, hi', hz, hk, hby, hzr⟩ := hE.inf
    subst hi; subst hj
    have h1 : a.eval x = .int kl 0 := fr.get hx
    have h2 : a.eval y = .int kc c := fr.get hy
    have hr := run_make (P := C.P) w T e i' zv hu hi' hz kl kc 0 c (by omega) (by omega) (by rw [hby]; have : ((bytes * c : Nat) : Int) ≤ 281474976710656 := by omega
                                                                                             rwa [Int.natCast_mul] at this) (by omega)
    have rz := R.cells (hzr h)
    refine ⟨.slice (some ⟨w.heap.size, 0, none⟩) 0 c, .slice (some ⟨w.heap.size, 0, none⟩) 0 c, w.alloc (.cells (madeCells zv.cells (c * i'.size)) e), h, (PH.one w.heap.size (.cells (madeCells zv.cells (c * i'.size)) e)).join m, ?_, HL.own _, sp.allocOwn _, ?_, ⟨rfl, rfl⟩⟩
    · simp only [execOp, h1, h2, Sem.run_bind, hr, Result.andThen_ok, Int.toNat_natCast]; rfl
    · have hl := R.len rz
      have hzs : zv.cells.size = R.k := by simpa using hl
      refine ⟨_, m, PH.disj_symm (PH.one_disj_new sp.mw _), rfl, .inr ⟨w.heap.size, c, _, by simp, rfl, by simp, ?_, ?_, ?_⟩, st⟩
      · unfold maxLen; omega
      · rw [size_madeCells, hk]
      · simp; rfl
/-- An interface value of dynamic type T. -/
def tIf (T : Nat) (A : Ty) : Ty := ⟨fun h v => ∃ u, v = .iface T u ∧ A.p h u, fun l ⟨u, e, a⟩ => ⟨u, e, A.mono l a⟩⟩
theorem step_mkIface {T : Nat} {x : Operand} {A : Ty} {D : TypeDesc} (hu : C.P.underlying T = some D) (hD : ∀ m, D ≠ .interface m) (hx : Sub (opTy E x) A) : Step1 C ⟨d, .makeInterface T x, ty, pos, af, g⟩ E L (tIf T A) :=
  Step.of_same (by intro c h; cases h) fun a w h hw fr => by
    refine ⟨.iface T (a.eval x), ?_, a.eval x, rfl, fr.get hx⟩
    simp only [execOp, Instr.makeInterface]
    cases D <;> first | (exact absurd rfl (hD _)) | simp [run_underlying hu]
/-- A call of a method behind an interface. -/
theorem step_invoke {X : Type} {S R : List SP} {x : Operand} {T f : Nat} {A : Ty} {name : String} {xs : Array Operand} {ts : Array Nat} {aT : List Ty} {res : X → Ty} {L' : X → List SP}
    (hx : Sub (opTy E x) (tIf T A)) (hm : ∀ h u w, A.p h u → (method (C.P.types.size + Made.depth) T u name).run C.P w = .ok (f, u) w) (sel : Sel L S R) (sp : Spec C.P f (A :: aT) S res L') (ha : ArgsE E xs.toList aT) (he : ∀ args w, (callFunc f args).run C.P w = .ok (.enter f args) w) :
    Step C ⟨d, .call { callee := .invoke x name, args := xs, argTypes := ts }, ty, pos, af, g⟩ E L res (fun x => L' x ++ R) := fun a w h m n l se st fr next Q hk => by
  obtain ⟨m1, m2, d12, rfl, s1, s2⟩ := sel.stars.1 st
  obtain ⟨u, hv, hu⟩ := fr.get hx
  have hA : Args h (A :: aT) (u :: xs.toList.map a.eval) := ⟨hu, ha.args fr⟩
  have hd := PH.disj_join'.1 se.hm
  have hr := PH.disj_join.1 se.mr
  have hc := sp _ h m1 (m2.join C.r) w hA ⟨(by first | exact Sep.inv (by assumption) | exact Inv.mono (PH.le_join_left _ _) (Sep.inv (by assumption))), hd.1, PH.disj_join'.2 ⟨hd.2, se.hr⟩, PH.disj_join'.2 ⟨d12, hr.1⟩, se.hw, fun b o e => se.mw _ _ (PH.le_join_left _ _ _ _ e),
    PH.join_inw (fun b o e => se.mw _ _ (PH.le_join_right d12 _ _ e)) se.rw⟩ s1
  refine ⟨fun _ _ => trivial, ?_⟩
  rw [Fw_round, Oper.semAt_eq _ _ _ (by intro c h; cases h)]
  have hrun : (execOp a.eval ⟨d, .call { callee := .invoke x name, args := xs, argTypes := ts }, ty, pos, af, g⟩).run C.P w = .ok (.enter f (u :: xs.toList.map a.eval).toArray) w := by
    simp only [execOp, resolve]
    have e0 : (#[Value.iface T u] ++ Array.map a.eval xs)[0]? = some (.iface T u) := by simp [Array.getElem?_append]
    have e2 : (Array.map a.eval xs).extract 0 xs.size = Array.map a.eval xs := by
      have : xs.size = (Array.map a.eval xs).size := by simp
      rw [this, Array.extract_size]
    simp only [invoke, callMethod, hv]
    simp [e0, hm h u _ hu, he, e2]
  rw [hrun]
  refine ⟨by simp, (callsIn_wide (n := 0 - 1)).2 (hc.mono ?_)⟩
  rintro e w' ⟨x, v, h', m', rfl, l', se', st', hv⟩
  have e1 := PH.disj_join'.1 se'.hr
  have e2 := PH.disj_join'.1 se'.mr
  exact hk x v w' h' (m'.join m2) l' ⟨(by first | exact Sep.inv (by assumption) | exact Inv.mono (PH.le_join_left _ _) (Sep.inv (by assumption))), PH.disj_join'.2 ⟨se'.hm, e1.1⟩, e1.2, PH.disj_join.2 ⟨e2.2, hr.2⟩, se'.hw, PH.join_inw se'.mw (fun b o e => se'.rw _ _ (PH.le_join_left _ _ _ _ e)), fun b o e => se'.rw _ _ (PH.le_join_right hr.2 _ _ e)⟩
    (stars_append.2 ⟨m', m2, e2.1, rfl, st', by
      have : (stars R).p h' m2 := (stars R).mono l'.1 s2
      exact this⟩) hv
end
/-- Three cells, as they are. -/
def rCells (n : Nat) : Rp (List Value) where
  k := n
  agg := true
  rel := fun _ x cs => cs = x ∧ x.length = n ∧ ∀ c ∈ x, c.oneCell' = true
  ty := fun x => ⟨fun h v => ∃ cs, (cs = x ∧ x.length = n ∧ ∀ c ∈ x, c.oneCell' = true) ∧ v = packV true cs, fun _ e => e⟩
  len := by rintro _ _ _ ⟨rfl, h, _⟩; exact h
  one := by rintro _ _ _ ⟨rfl, _, h⟩; exact h
  mono := fun _ e => e
  scalar := fun e => by cases e
  iff := Iff.rfl
open Go Go.Proofs
section
variable {κ β : Type} [DecidableEq κ] (kv : κ → Value) (R : Rp β)
/-- The state of a range over a map that may not change. -/
def itI (b : Nat) (m : List (κ × β)) (done : List Nat) : SP where
  p := fun h mm => ∃ r es, h r = some (.map (List.toArray es) es.length) ∧ entR kv R h m es 0 ∧ mm = PH.one b (.mapIter (some r) m.length done.toArray m.length)
  mono := fun {h h' mm} l ⟨r, es, e1, e2, e3⟩ => ⟨r, es, l _ _ e1, by
    have := (mapOwn kv R (.map (some r)) m).mono l ⟨r, es, rfl, rfl, e2⟩
    obtain ⟨r', es', q1, q2, q3⟩ := this
    injection q1 with q1; injection q1 with q1; subst q1
    have q4 := congrFun q2 r
    rw [PH.one_same, PH.one_same] at q4
    injection q4 with q4; injection q4 with q4 _
    have : es = es' := by simpa using congrArg Array.toList q4
    subst this; exact q3, e3⟩
end
section
variable {κ β : Type} [DecidableEq κ] {kv : κ → Value} {R : Rp β}
variable {C : Cx} {E : Env} {L : List SP} {d : Option Nat} {ty : Nat} {pos : String} {af : Array Edge} {g : Option (Nat × Bool)}
theorem tMapI_iff {h : PH} {v : Value} {m : List (κ × β)} (a : (tMapI kv R m).p h v) : ∃ r es, v = .map (some r) ∧ h r = some (.map (List.toArray es) es.length) ∧ entR kv R h m es 0 := by
  obtain ⟨m1, l, r, es, rfl, rfl, hr⟩ := a
  exact ⟨r, es, rfl, l _ _ (PH.one_same _ _), hr⟩
theorem step_rangeI {T kt e : Nat} {x : Operand} {m : List (κ × β)} (hu : C.P.underlying T = some (.map kt e)) (hx : Sub (opTy E x) (tMapI kv R m)) :
    Step C ⟨d, .range T x, ty, pos, af, g⟩ E L (fun b : Nat => tAt b 0) (fun b => itI kv R b m [] :: L) :=
  Step.of_run (by intro c h; cases h) fun a w h mm l sp st fr => by
    obtain ⟨r, es, h1, hb0, hr⟩ := tMapI_iff (fr.get hx)
    have hb := sp.hw _ _ hb0
    have hl := hr.length
    refine ⟨w.heap.size, .pointer (some ⟨w.heap.size, 0, none⟩), w.alloc (.mapIter (some r) es.length #[] es.length), h, (PH.one w.heap.size (.mapIter (some r) es.length #[] es.length)).join _, ?_, HL.own _, sp.allocOwn _, ?_, rfl⟩
    · simp [execOp, Instr.range, h1, Sem.run_bind, run_underlying hu, run_getObj_map hb, run_newObj_alloc]
    · exact ⟨_, _, PH.disj_symm (PH.one_disj_new sp.mw _), rfl, ⟨r, es, hb0, hr, by rw [hl]⟩, st⟩
theorem step_nextI {b : Nat} {T : Bool} {x : Operand} {m : List (κ × β)} {S : List SP} {done : List Nat} (hT : T = false) (hx : Sub (opTy E x) (tAt b 0)) (hL : LSub L (itI kv R b m done :: S)) :
    Step (X := { o : Option Nat // match o with | none => ∀ i, i < m.length → i ∈ done | some i => i < m.length ∧ i ∉ done }) C ⟨d, .next x T, ty, pos, af, g⟩ E L (fun o => tNx o.1) (fun o => itI kv R b m (done ++ o.1.toList) :: S) :=
  Step.of_run (by intro c h; cases h) fun a w h mm l sp st fr => by
    subst hT
    have h1 : a.eval x = .pointer (some ⟨b, 0, none⟩) := fr.get hx
    obtain ⟨m1, m0, d1, rfl, ⟨r, es, hmap0, hr, rfl⟩, s3⟩ := hL h mm st
    have hl := hr.length
    have hit := sp.heap_own
    have hmap : w.heap[r]? = some (.map es.toArray es.length) := sp.hw _ _ hmap0
    have hold : ∀ x ∈ es.toArray.toList, x.born < m.length := fun e he => by
      obtain ⟨i, hi⟩ := List.getElem?_of_mem he
      obtain ⟨k, x, _, _, _, hb⟩ := hr.get hi
      have := (List.getElem?_eq_some_iff.1 hi).1
      simp at this
      omega
    rcases run_next_at (P := C.P) w ty b r m.length m.length done.toArray es.toArray es.length hit hmap hold (Nat.le_refl _) with ⟨h0, hrun⟩ | ⟨e, he, w1, hw1, hrun⟩
    · refine ⟨⟨none, fun i hi => ?_⟩, _, w, h, _, by simp [execOp, h1, hrun], HL.refl, sp, ?_, ⟨[], rfl⟩⟩
      · rw [← hl] at hi
        have : es[i] ∈ es.toArray := by simp
        have hnot : ¬ (es[i] ∈ leftOf es.toArray done.toArray) := fun hm => by
          have := Array.eq_empty_of_size_eq_zero h0
          rw [this] at hm; simp at hm
        simp only [leftOf, Array.mem_filter, this, true_and, Bool.not_eq_true', Bool.not_eq_false] at hnot
        obtain ⟨k, x, _, _, _, hb⟩ := hr.get (List.getElem?_eq_getElem hi)
        rw [hb] at hnot
        simpa using hnot
      · simp only [Option.toList_none, List.append_nil]
        exact ⟨_, _, d1, rfl, ⟨r, es, hmap0, hr, rfl⟩, s3⟩
    · simp only [leftOf, Array.toList_filter, List.mem_filter, Bool.not_eq_true'] at he
      obtain ⟨i, hi⟩ := List.getElem?_of_mem he.1
      have hi : es[i]? = some e := by simpa using hi
      obtain ⟨k, x, hmi, hk, hx', hb⟩ := hr.get hi
      rw [Nat.zero_add] at hb
      have hlt := (List.getElem?_eq_some_iff.1 hi).1
      have hsp1 : Sep h ((PH.one b (.mapIter (some r) m.length done.toArray m.length)).join m0) C.r w1 := by
        rcases hw1 with rfl | rfl
        · exact sp
        · exact sp.drew
      have hsm : Same w (w1.putObj b (.mapIter (some r) m.length (done.toArray.push e.born) es.length)) := by
        rcases hw1 with rfl | rfl
        · exact Same.putObj _ _ _
        · exact (Same.drew _).trans (Same.putObj _ _ _)
      have hni : i ∉ done := fun hm => by
        have := he.2
        rw [hb] at this
        simp [hm] at this
      refine ⟨⟨some i, by rw [← hl]; exact hlt, hni⟩, _, _, h, _, by simp [execOp, h1, hrun]; rfl, HL.same hsm, Sep.put (.mapIter (some r) m.length (done.toArray.push e.born) es.length) d1 hsp1, ?_, ⟨[e.key, e.val], rfl⟩⟩
      · refine ⟨_, _, PH.one_disj_iff.2 (PH.one_disj_iff.1 d1), rfl, ⟨r, es, hmap0, hr, ?_⟩, s3⟩
        show PH.one b (Obj.mapIter (some r) m.length (done.toArray.push e.born) es.length) = PH.one b (Obj.mapIter (some r) m.length (done ++ [i]).toArray m.length)
        rw [hb, hl]; simp
theorem step_entryI {b i : Nat} {x : Operand} {m : List (κ × β)} {S : List SP} {done : List Nat} {k : κ} {y : β} (hx : Sub (opTy E x) (tAt b 0)) (hL : LSub L (itI kv R b m (done ++ [i]) :: S)) (hi : m[i]? = some (k, y)) :
    Step1 C ⟨d, .entry x, ty, pos, af, g⟩ E L (tTup [tV (kv k), R.ty y]) :=
  Step.of_run (by intro c h; cases h) fun a w h mm l sp st fr => by
    have h1 : a.eval x = .pointer (some ⟨b, 0, none⟩) := fr.get hx
    obtain ⟨m1, m0, d1, rfl, ⟨r, es, hmap0, hr, rfl⟩, s3⟩ := hL h mm st
    have hl := hr.length
    have hit := sp.heap_own
    have hmap : w.heap[r]? = some (.map es.toArray es.length) := sp.hw _ _ hmap0
    have hlt : i < es.length := by rw [hl]; exact (List.getElem?_eq_some_iff.1 hi).1
    obtain ⟨k', y', hmi, hk, hy, hb⟩ := hr.get (List.getElem?_eq_getElem hlt)
    rw [hi] at hmi; cases hmi
    rw [Nat.zero_add] at hb
    have hit' : w.heap[b]? = some (.mapIter (some r) m.length (done.toArray.push es[i].born) es.length) := by rw [hit, hb, hl]; simp
    have hrun := run_entry_at (P := C.P) w b r m.length done.toArray es.toArray es.length es[i] hit' hmap (by simp) (by rw [hr.born]; exact List.nodup_range' ..)
    exact ⟨(), _, w, h, _, by simp [execOp, h1, hrun], HL.refl, sp, st, ⟨[es[i].key, es[i].val], rfl, hk, hy, trivial⟩⟩
end
/-- A map that may not change, or none. -/
def tOM {κ β : Type} [DecidableEq κ] (kv : κ → Value) (R : Rp β) : Option (List (κ × β)) → Ty
  | none => tV (.map none)
  | some m => tMapI kv R m
theorem tOM_one {κ β : Type} [DecidableEq κ] {kv : κ → Value} {R : Rp β} {o : Option (List (κ × β))} {h : PH} {v : Value} (a : (tOM kv R o).p h v) : v.oneCell' = true := by
  cases o with
  | none => have a : v = .map none := a; subst a; rfl
  | some m => obtain ⟨r, es, rfl, _⟩ := tMapI_iff a; rfl
def rOM {κ β : Type} [DecidableEq κ] (kv : κ → Value) (R : Rp β) : Rp (Option (List (κ × β))) where
  k := 1
  agg := false
  rel := fun h o cs => ∃ u, cs = [u] ∧ (tOM kv R o).p h u
  ty := fun o => tOM kv R o
  len := by rintro _ _ _ ⟨u, rfl, _⟩; rfl
  one := by rintro _ _ _ ⟨u, rfl, h⟩ c hc; simp at hc; subst hc; exact tOM_one h
  mono := fun {h h' o cs} l ⟨u, e, a⟩ => ⟨u, e, (tOM kv R o).mono l a⟩
  scalar := fun _ => rfl
  iff := by
    intro h x v
    constructor
    · intro h1; exact ⟨[v], ⟨v, rfl, h1⟩, rfl⟩
    · rintro ⟨cs, ⟨u, rfl, h1⟩, rfl⟩; exact h1
open Go Go.Proofs
section
variable {κ β : Type} [DecidableEq κ] {kv : κ → Value} {R : Rp β}
theorem clone_spec {P : Program} {ρ : Shelf.Ren} (L : Go.Proofs.SlLaysW.n5 P ρ) (m : List (κ × β)) : Spec (X := Value) P (ρ.f 5) [tMapI kv R m] [] (fun z => tV z) (fun z => [mapOwn kv R z m]) := by
  intro vs h mm r w ha sp st
  match vs, ha with
  | [u1], ⟨a1, _⟩ =>
  obtain ⟨r0, es, rfl, hb0, hr⟩ := tMapI_iff a1
  refine (AnyW.maps_Clone L r0 _ _ w (sp.hw _ _ hb0)).mono ?_
  rintro e w' ⟨rfl, rfl⟩
  have st : mm = PH.emp := st
  subst st
  have := sp.allocOwn (.map es.toArray es.length)
  refine ⟨.map (some w.heap.size), _, h, _, rfl, HL.own _, this, ?_, rfl⟩
  exact ⟨_, PH.emp, PH.disj_emp _, rfl, ⟨w.heap.size, es, rfl, rfl, hr⟩, rfl⟩
end
open Go
section
variable {κ α : Type} [DecidableEq κ]
/-- Keys, the rows that are held under them, what these hold. -/
abbrev RowsL (κ α : Type) := List (κ × Value × List α)
def rowsO (e : Nat) (R : Rp α) (q : RowsL κ α) : SP := stars (q.map fun t => own e R t.2.1 t.2.2)
def rval (q : RowsL κ α) (k : κ) : Value × List α := match q with
  | [] => (.slice none 0 0, [])
  | (a, v, xs) :: q => if k = a then (v, xs) else rval q k
def rmv (q : RowsL κ α) (k : κ) : RowsL κ α := match q with
  | [] => []
  | (a, v, xs) :: q => if k = a then q else (a, v, xs) :: rmv q k
def rput (q : RowsL κ α) (k : κ) (v : Value) (xs : List α) : RowsL κ α := match q with
  | [] => [(k, v, xs)]
  | (a, v0, x0) :: q => if k = a then (a, v, xs) :: q else (a, v0, x0) :: rput q k v xs
abbrev vals (q : RowsL κ α) : List (κ × Value) := q.map fun t => (t.1, t.2.1)
theorem vals_get (k : κ) : ∀ q : RowsL κ α, (mget (vals q) k).getD (.slice none 0 0) = (rval q k).1
  | [] => rfl
  | (a, v, xs) :: q => by
    by_cases h : k = a
    · simp [mget, rval, h]
    · simp only [List.map_cons, mget, rval, if_neg h]; exact vals_get k q
theorem vals_put (k : κ) (v : Value) (ys : List α) : ∀ q : RowsL κ α, mput (vals q) k v = vals (rput q k v ys)
  | [] => rfl
  | (a, v0, x0) :: q => by
    by_cases h : k = a
    · simp [mput, rput, h]
    · simp only [List.map_cons, mput, rput, if_neg h]; rw [vals_put k v ys q]
variable {e : Nat} {R : Rp α} {L : List SP}
theorem LSub.head {A : SP} {L L' : List SP} (h : LSub L L') : LSub (A :: L) (A :: L') := LSub.cons (Sel.take (Sel.none _)) SPs.rfl h
theorem LSub.swap {A B : SP} {L : List SP} : LSub (A :: B :: L) (B :: A :: L) := LSub.cons (Sel.skip (Sel.take (Sel.none _))) SPs.rfl (LSub.cons (Sel.take (Sel.none _)) SPs.rfl LSub.rfl)
theorem LSub.pop {A : SP} {B L : List SP} : LSub (Lg.stars (A :: B) :: L) (A :: Lg.stars B :: L) := fun h m ⟨m1, m2, d, e, ⟨m3, m4, d3, e3, ha, hb⟩, hl⟩ => by
  subst e; subst e3
  have dd := PH.disj_join.1 d
  exact ⟨m3, m4.join m2, PH.disj_join'.2 ⟨d3, dd.1⟩, PH.join_assoc _ _ _, ha, m4, m2, dd.2, _root_.rfl, hb, hl⟩
theorem rows_split (k : κ) : ∀ {q : RowsL κ α} {L : List SP}, LSub (rowsO e R q :: L) (own e R (rval q k).1 (rval q k).2 :: rowsO e R (rmv q k) :: L)
  | [], L => LSub.nilown
  | (a, v, xs) :: q, L => by
    by_cases h : k = a
    · simp only [rval, rmv, if_pos h]; exact LSub.pop
    · simp only [rval, rmv, if_neg h]
      exact LSub.trans LSub.pop (LSub.trans (LSub.head (rows_split k)) (LSub.trans LSub.swap (LSub.head LSub.push)))
theorem rows_join (k : κ) (v : Value) (ys : List α) : ∀ {q : RowsL κ α} {L : List SP}, LSub (own e R v ys :: rowsO e R (rmv q k) :: L) (rowsO e R (rput q k v ys) :: L)
  | [], L => LSub.push
  | (a, v0, x0) :: q, L => by
    by_cases h : k = a
    · simp only [rput, rmv, if_pos h]; exact LSub.push
    · simp only [rput, rmv, if_neg h]
      exact LSub.trans (LSub.head LSub.pop) (LSub.trans LSub.swap (LSub.trans (LSub.head (rows_join k v ys)) LSub.push))
theorem rows_nil {L : List SP} : LSub L (rowsO e R ([] : RowsL κ α) :: L) := fun h m p => ⟨PH.emp, m, PH.disj_symm (PH.disj_emp _), (PH.emp_join _).symm, _root_.rfl, p⟩
variable {kv : κ → Value}
variable {C : Cx} {E : Env} {d : Option Nat} {ty : Nat} {pos : String} {af : Array Edge} {g : Option (Nat × Bool)}
theorem step_lookupR {T kt el : Nat} {x y : Operand} {v : Value} {q : RowsL κ α} {S : List SP} {k : κ} (K : KeyT C.P kt kv) (hu : C.P.underlying T = some (.map kt el)) (hz : ∀ w, (zeroValue el).run C.P w = .ok (.slice none 0 0) w)
    (hx : Sub (opTy E x) (tV v)) (hy : Sub (opTy E y) (tV (kv k))) (sel : Sel L [mapOwn kv rV v (vals q)] S) : Step1 C ⟨d, .lookup T x y false, ty, pos, af, g⟩ E L (rV.ty (rval q k).1) := by
  have := step_lookup (C := C) (d := d) (ty := ty) (pos := pos) (af := af) (g := g) (R := rV) (z := .slice none 0 0) K hu hz (fun _ => ⟨rfl, rfl⟩) hx hy sel
  rw [vals_get] at this
  exact this
end
section
variable {κ α : Type} [DecidableEq κ] {kv : κ → Value} {e : Nat} {R : Rp α}
abbrev lists (q : RowsL κ α) : List (κ × List α) := q.map fun t => (t.1, t.2.2)
theorem own_one {h m : PH} {v : Value} {xs : List α} {S : List SP} (s : (Lg.stars (own e R v xs :: S)).p h m) : v.oneCell' = true := by
  obtain ⟨m3, m4, _, _, ho, _⟩ := s
  rcases ho with ⟨rfl, _⟩ | ⟨g, cap, cur, rfl, _⟩ <;> rfl
theorem rows_frz {h : PH} : ∀ {q : RowsL κ α} {m : PH}, h.disj m → (rowsO e R q).p h m → ∀ t ∈ q, (tSl R t.2.2).p (h.join m) t.2.1
  | [], _, _, _, t, ht => by cases ht
  | (a, v, xs) :: q, m, d, hs, t, ht => by
    rcases List.mem_cons.1 ht with rfl | ht
    · exact Frz.own h m v d hs ⟨rfl, own_one hs⟩
    · obtain ⟨m1, m2, d12, rfl, ho, hr⟩ := hs
      have hd := PH.disj_join'.1 d
      have ih := rows_frz (q := q) hd.2 hr t ht
      refine (tSl R t.2.2).mono (fun b o eo => ?_) ih
      simp only [PH.join] at eo ⊢
      cases hb : h b with
      | some x => rw [hb] at eo; exact eo
      | none =>
        rw [hb] at eo
        have := PH.le_join_right d12 b o eo
        simp only [PH.join] at this
        exact this
theorem entR_lists {h h' : PH} : ∀ {q : RowsL κ α} {es : List MapEntry} {n : Nat}, (∀ t ∈ q, (tSl R t.2.2).p h' t.2.1) → entR kv rV h (vals q) es n → entR kv (rSl R) h' (lists q) es n
  | [], [], _, _, _ => trivial
  | [], _ :: _, _, _, r => r.elim
  | _ :: _, [], _, _, r => r.elim
  | (a, v, xs) :: q, e :: es, n, hq, ⟨r1, r2, r3, r4⟩ => by
    refine ⟨r1, ?_, r3, entR_lists (fun t ht => hq t (by simp [ht])) r4⟩
    have h2 : e.val = v := r2.1
    rw [h2]
    exact hq (a, v, xs) (by simp)
theorem Frz.rows {v : Value} {q : RowsL κ α} {S : List SP} : Frz (mapOwn kv rV v (vals q) :: rowsO e R q :: S) (tV v) (tMapI kv (rSl R) (lists q)) := fun h m u d ⟨m1, m2, d12, em, ho, m3, m4, d34, em2, hr, _⟩ hu => by
  subst em; subst em2
  have hu : u = v := hu
  subst hu
  have hd := PH.disj_join'.1 d
  have hd2 := PH.disj_join'.1 hd.2
  obtain ⟨r, es, rfl, rfl, hE⟩ := ho
  have hfr := rows_frz hd2.1 hr
  have hle : (h.join m3).le (h.join ((PH.one r (.map (List.toArray es) es.length)).join (m3.join m4))) := fun b o eo => by
    simp only [PH.join] at eo ⊢
    cases hb : h b with
    | some x => rw [hb] at eo; exact eo
    | none =>
      rw [hb] at eo
      have h1 : (m3.join m4) b = some o := PH.le_join_left m3 m4 b o eo
      have := PH.le_join_right d12 b o h1
      simp only [PH.join] at this
      exact this
  refine ⟨PH.one r (.map (List.toArray es) es.length), fun b o eo => PH.le_join_right d _ _ (PH.le_join_left _ _ _ _ eo), r, es, rfl, rfl, ?_⟩
  exact entR_lists (fun t ht => (tSl R t.2.2).mono hle (hfr t ht)) hE
end
open Go
def tailAt (v : Value) (n : Nat) : Value := match v with
  | .slice (some a) l c => .slice (if c = n then some a else some ⟨a.block, a.off + n, none⟩) (l - n) (c - n)
  | v => v
section
variable {C : Cx} {E : Env} {L : List SP} {d : Option Nat} {ty : Nat} {pos : String} {af : Array Edge} {g : Option (Nat × Bool)}
theorem step_slice_tail8 {T e n : Nat} {x y : Operand} {v : Value} {xs : List Int} {S : List SP} {k : IntKind} {i : Int} (hu : C.P.underlying T = some (.slice e)) (hR : TyOf C.P e rU8)
    (hx : Sub (opTy E x) (rV.ty v)) (hy : Sub (opTy E y) (tV (.int k i))) (hi : i = n) (sel : Sel L [own e rU8 v xs] S) (hn : n ≤ xs.length) :
    Step1 C ⟨d, .slice T x (some y) none none, ty, pos, af, g⟩ E L (tV (tailAt v n)) :=
  Step.of_run (by intro c h; cases h) fun a w h m l sp st fr => by
    have hv : a.eval x = v := (fr.get hx).1
    have h2 : a.eval y = .int k i := fr.get hy
    subst hi
    obtain ⟨m1, m2, d12, rfl, ho, s2⟩ := sel.one.1 st
    have hsz := hR.size
    have hk : rU8.k = 1 := rfl
    rw [hk] at hsz
    rcases ho with ⟨rfl, rfl, rfl⟩ | ⟨b, cap, cur, rfl, rfl, hl, hm, hs, r⟩
    · have hn0 : n = 0 := by simpa using hn
      subst hn0
      refine ⟨(), .slice none 0 0, w, h, _, ?_, HL.refl, sp, st, rfl⟩
      simp [execOp, Instr.sliceAt, run_underlying hu, hv, h2, Instr.slice, Instr.sliceBounds, Instr.sliceBound, asIntOf, hsz]
    · have hnc : (n : Int) ≤ cap := by omega
      refine ⟨(), .slice (if cap = n then some ⟨b, 0, none⟩ else some ⟨b, 0 + n, none⟩) (xs.length - n) (cap - n), w, h, _, ?_, HL.refl, sp, st, rfl⟩
      simp [execOp, Instr.sliceAt, run_underlying hu, hv, h2, Instr.slice, Instr.sliceBounds, Instr.sliceBound, asIntOf, hsz, hn, hl, show n ≤ cap by omega]
      rw [addr_add, Nat.zero_add]
theorem step_copy_tail8 {T e n U : Nat} {x y : Operand} {v : Value} {xs ys : List Int} {S : List SP} (hu : C.P.underlying T = some (.slice e)) (hs : (C.P.info? e).map (·.size) = some 1)
    (hx : Sub (opTy E x) (tV (tailAt v n))) (hy : Sub (opTy E y) (tSl rU8 ys)) (sel : Sel L [own e rU8 v xs] S) (hn : n + ys.length ≤ xs.length) (hne : ys ≠ []) :
    Step C ⟨d, .call { callee := .builtin .copy, args := #[x, y], argTypes := #[T, U] }, ty, pos, af, g⟩ E L (fun _ : Unit => tV (.int .i64 (ys.length : Int))) (fun _ => own e rU8 v (xs.take n ++ ys ++ xs.drop (n + ys.length)) :: S) :=
  Step.of_run (by intro c h; cases h) fun a w h m l sp st fr => by
    have hv : a.eval x = tailAt v n := fr.get hx
    obtain ⟨ao, scap, hyv, H⟩ := fr.get hy
    obtain ⟨sb, so, rfl, H2⟩ := H hne
    obtain ⟨m1, m2, d12, rfl, ho, s2⟩ := sel.one.1 st
    have hyl : 0 < ys.length := List.length_pos_iff.2 hne
    rcases ho with ⟨rfl, rfl, rfl⟩ | ⟨b, cap, cur, rfl, rfl, hl, hm, hcs, r⟩
    · have hn : n + ys.length ≤ 0 := hn
      omega
    · have hb := sp.heap_own
      have hk : rU8.k = 1 := rfl
      rw [hk, Nat.mul_one] at hcs
      rw [hk, Nat.mul_one] at r
      have r := relAll_u8.1 r
      have hcn : ¬ cap = n := by omega
      have hv : a.eval x = .slice (some ⟨b, n, none⟩) (xs.length - n) (cap - n) := by rw [hv]; simp [tailAt, hcn]
      have hsrc : ∀ (j : Nat) u, (ys.map (Value.int .u8 ·))[j]? = some u → w.cell? ((⟨sb, so, none⟩ : Addr).add j) = some u := fun j u hj => by
        simp only [List.getElem?_map, Option.map_eq_some_iff] at hj
        obtain ⟨z, hz, rfl⟩ := hj
        obtain ⟨cs, Hc, hr⟩ := H2 j z hz
        have hr : cs = [.int .u8 z] := hr
        subst hr
        rw [addr_add]
        have := Hc.cell sp.hw (i := 0) (v := .int .u8 z) rfl
        simpa [hk] using this
      have hrun := run_copy_row (P := C.P) w T U ty e b n (xs.length - n) (cap - n) ⟨sb, so, none⟩ ys.length scap cur e (ys.map (Value.int .u8 ·)) hu hs hb (by rw [List.length_map]; exact (Nat.min_eq_left (by omega)).symm) hsrc (by simp; omega) (by intro u hu; obtain ⟨z, _, rfl⟩ := List.mem_map.1 hu; rfl)
      refine ⟨(), .int .i64 ys.length, w.setRow b (cur.toList.take n ++ ys.map (Value.int .u8 ·) ++ cur.toList.drop (n + ys.length)).toArray, h, (PH.one b (.cells (cur.toList.take n ++ ys.map (Value.int .u8 ·) ++ cur.toList.drop (n + ys.length)).toArray e (0, 0))).join m2, ?_, HL.same ⟨rfl, rfl, rfl⟩, Sep.write d12 sp (fun b' hne' _ => setRow_other w b b' _ hne') (setRow_heap w b cur _ e _ hb), ?_, rfl⟩
      · simp only [List.length_map] at hrun
        simp [execOp, resolve, invoke, builtin, hv, hyv, hrun, goInt]
      · refine ⟨_, m2, PH.one_disj_iff.2 (PH.one_disj_iff.1 d12), rfl, .inr ⟨b, cap, _, ?_, rfl, ?_, hm, ?_, ?_⟩, s2⟩
        · have : (xs.take n ++ ys ++ xs.drop (n + ys.length)).length = xs.length := by simp; omega
          rw [this]
        · simp; omega
        · simp [hk]; omega
        · rw [hk, Nat.mul_one]
          refine relAll_u8.2 ?_
          have hl2 : (xs.take n ++ ys ++ xs.drop (n + ys.length)).length = xs.length := by simp; omega
          rw [hl2]
          have := list_take_splice cur.toList (ys.map (Value.int .u8 ·)) n ys.length xs.length hn (by simp; omega) (by simp)
          rw [List.toList_toArray, this, r]
          simp [List.map_take, List.map_drop]
end
open Go Go.Proofs
section
variable {P : Program} (w : World)
theorem run_append_room_off (t ty e : TypeId) (i : TypeInfo) (ht : P.underlying t = some (.slice e)) (hi : P.info? e = some i)
    (g off sLen sCap : Nat) (cur : Array Value) (hg : w.heap[g]? = some (.cells cur e (0, 0)))
    (a : Addr) (m c : Nat) (news : List Value) (hl : news.length = m * i.size) (hnews : ∀ j u, news[j]? = some u → w.cell? (a.add j) = some u) (h1 : ∀ u ∈ news, u.oneCell' = true)
    (hroom : sLen + m ≤ sCap) (hfit : off + sLen * i.size + news.length ≤ cur.size) :
    (Builtin.append_ #[t, t] ty #[.slice (some ⟨g, off, none⟩) sLen sCap, .slice (some a) m c]).run P w =
      .ok (.slice (some ⟨g, off, none⟩) (sLen + m) sCap) (w.setRow g (cur.toList.take (off + sLen * i.size) ++ news ++ cur.toList.drop (off + sLen * i.size + news.length)).toArray) := by
  have hf := run_firstCells_some (P := P) w i.size m a m c news hl hnews
  have hst := run_storeCells_at P g (off + sLen * i.size) e news 0 cur w hg (by simpa using hfit) h1
  simp only [Nat.add_zero] at hst
  simp [Builtin.append_, run_underlying ht, Go.sizeOf, typeInfo, hi, Builtin.lenOf, hroom, hf, Addr.add_lit, hst]
end
/-- A queue: numbers in a row of one's own, from some place on. -/
def que (v : Value) (xs : List Int) : SP where
  p := fun _ m => ∃ g off cap cur, v = .slice (some ⟨g, off, none⟩) xs.length cap ∧ m = PH.one g (.cells cur 3 (0, 0)) ∧ xs.length ≤ cap ∧ cap ≤ maxLen ∧ off + cap ≤ cur.size ∧ (cur.toList.drop off).take xs.length = xs.map (.int .i64 ·)
  mono := fun _ e => e
theorem relAll_int' {h : PH} {xs : List Int} {cs : List Value} (r : relAll rInt h xs cs) : cs = xs.map (.int .i64 ·) := relAll_int.1 r
theorem own_que {v : Value} {xs : List Int} (hne : xs ≠ []) : SPs (own 3 rInt v xs) (que v xs) := fun h m o => by
  rcases o with ⟨_, q, _⟩ | ⟨g, cap, cur, rfl, rfl, hl, hm, hs, r⟩
  · exact absurd q hne
  · have hk : rInt.k = 1 := rfl
    rw [hk, Nat.mul_one] at hs r
    exact ⟨g, 0, cap, cur, rfl, rfl, hl, hm, by omega, by rw [List.drop_zero]; exact relAll_int' r⟩
section
variable {C : Cx} {E : Env} {L : List SP} {d : Option Nat} {ty : Nat} {pos : String} {af : Array Edge} {g : Option (Nat × Bool)}
theorem step_len_que {T e : Nat} {x : Operand} {v : Value} {xs : List Int} {S : List SP} (hu : C.P.underlying T = some (.slice e)) (hx : Sub (opTy E x) (rV.ty v)) (sel : Sel L [que v xs] S) :
    Step1 C ⟨d, .call { callee := .builtin .len, args := #[x], argTypes := #[T] }, ty, pos, af, g⟩ E L (tV (.int .i64 xs.length)) :=
  Step.of_run (by intro c h; cases h) fun a w h m l sp st fr => by
    have hv : a.eval x = v := (fr.get hx).1
    obtain ⟨m1, m2, d12, rfl, ⟨b, off, cap, cur, rfl, rfl, hl, hm, hs, r⟩, s2⟩ := sel.one.1 st
    exact ⟨(), .int .i64 xs.length, w, h, _, by simp [execOp, resolve, invoke, builtin, Builtin.len_, hv, run_underlying hu, goInt], HL.refl, sp, st, rfl⟩
/-- Where a queue begins. -/
def qAt (v : Value) : Value := match v with
  | .slice (some a) _ _ => .pointer (some a)
  | _ => undef
theorem step_index_que {T e : Nat} {x ix : Operand} {v : Value} {y : Int} {xs : List Int} {k : IntKind} {S : List SP} (hu : C.P.underlying T = some (.slice e)) (hR : TyOf C.P e rInt)
    (hx : Sub (opTy E x) (rV.ty v)) (hi : Sub (opTy E ix) (tV (.int k 0))) (sel : Sel L [que v (y :: xs)] S) :
    Step1 C ⟨d, .indexAddr T x ix, ty, pos, af, g⟩ E L (tV (qAt v)) :=
  Step.of_run (by intro c h; cases h) fun a w h m l sp st fr => by
    have hv : a.eval x = v := (fr.get hx).1
    have h2 : a.eval ix = .int k 0 := fr.get hi
    obtain ⟨m1, m2, d12, rfl, ⟨b, off, cap, cur, rfl, rfl, hl, hm, hs, r⟩, s2⟩ := sel.one.1 st
    refine ⟨(), qAt _, w, h, _, ?_, HL.refl, sp, st, rfl⟩
    simp [execOp, Instr.indexAt, hv, h2, asIntOf, run_underlying hu, hR.size, addr_add, qAt]
theorem step_load_que {T : Nat} {x : Operand} {v : Value} {y : Int} {xs : List Int} {S : List SP} (hR : TyOf C.P T rInt) (hx : Sub (opTy E x) (tV (qAt v))) (sel : Sel L [que v (y :: xs)] S) :
    Step1 C ⟨d, .load T x, ty, pos, af, g⟩ E L (tV (.int .i64 y)) :=
  Step.of_run (by intro c h; cases h) fun a w h m l sp st fr => by
    have hv : a.eval x = qAt v := fr.get hx
    obtain ⟨m1, m2, d12, rfl, ⟨b, off, cap, cur, rfl, rfl, hl, hm, hs, r⟩, s2⟩ := sel.one.1 st
    have hb := sp.heap_own
    have h0 : cur.toList[off]? = some (.int .i64 y) := by
      have := congrArg (fun l => l[0]?) r
      simp only [List.getElem?_take, List.getElem?_drop, List.length_cons, Nat.zero_lt_succ, if_true, Nat.add_zero, List.map_cons, List.getElem?_cons_zero] at this
      exact this
    have := run_loadVar_cells (b := b) (o := off) (w := w) (cs := [.int .i64 y]) hR.agg hR.size rfl (fun _ => rfl) (fun j u hu => by
      rw [inw_cells (h := h) hb]
      match j with
      | 0 => simp only [List.getElem?_cons_zero, Option.some.injEq] at hu; subst hu; simpa using h0
      | j + 1 => simp at hu)
    refine ⟨(), .int .i64 y, w, h, _, ?_, HL.refl, sp, st, rfl⟩
    have this2 : (loadVar T ⟨b, off, none⟩).run C.P w = .ok (.int .i64 y) w := this
    simp [execOp, Instr.loadAt, Instr.sureAddr, hv, qAt, this2]
/-- Its beginning cut off. -/
theorem step_slice_que {T e : Nat} {x z : Operand} {v : Value} {y : Int} {xs : List Int} {k : IntKind} {S : List SP} (hu : C.P.underlying T = some (.slice e)) (hR : TyOf C.P e rInt)
    (hx : Sub (opTy E x) (rV.ty v)) (hz : Sub (opTy E z) (tV (.int k 1))) (sel : Sel L [que v (y :: xs)] S) :
    Step C ⟨d, .slice T x (some z) none none, ty, pos, af, g⟩ E L (fun v' : Value => rV.ty v') (fun v' => que v' xs :: S) :=
  Step.of_run (by intro c h; cases h) fun a w h m l sp st fr => by
    have hv : a.eval x = v := (fr.get hx).1
    have h2 : a.eval z = .int k 1 := fr.get hz
    obtain ⟨m1, m2, d12, rfl, ⟨b, off, cap, cur, rfl, rfl, hl, hm, hs, r⟩, s2⟩ := sel.one.1 st
    have hsz : ∀ w, (Go.sizeOf e).run C.P w = .ok 1 w := fun w => hR.size w
    simp only [List.length_cons] at hl hv
    refine ⟨.slice (some ⟨b, if cap = 1 then off else off + 1, none⟩) xs.length (cap - 1), .slice (some ⟨b, if cap = 1 then off else off + 1, none⟩) xs.length (cap - 1), w, h, _, ?_, HL.refl, sp, ⟨_, m2, d12, rfl, ⟨b, _, cap - 1, cur, rfl, rfl, by omega, by omega, ?_, ?_⟩, s2⟩, ⟨rfl, rfl⟩⟩
    · have h1 : (1 : Int) ≤ (xs.length : Int) + 1 := by omega
      simp [execOp, Instr.sliceAt, run_underlying hu, hv, h2, Instr.slice, Instr.sliceBounds, Instr.sliceBound, asIntOf, hsz, h1]
      by_cases hc1 : cap = 1 <;> simp [hc1, addr_add]
    · split <;> omega
    · split
      · have hx0 : xs = [] := List.eq_nil_of_length_eq_zero (by omega)
        subst hx0; rfl
      · have := congrArg (fun l => l.drop 1) r
        simp only [List.drop_take, List.drop_drop, List.length_cons, List.map_cons, List.drop_succ_cons, List.drop_zero, Nat.add_sub_cancel] at this
        exact this
/-- Something put at its end. -/
theorem step_append_que {T e : Nat} {x y : Operand} {v : Value} {xs ys : List Int} {S : List SP} (hu : C.P.underlying T = some (.slice e)) (he3 : e = 3) (hE : ElT C.P e rInt 8 0)
    (hx : Sub (opTy E x) (rV.ty v)) (hy : Sub (opTy E y) (tSl rInt ys)) (hys : ys ≠ []) (sel : Sel L [que v xs] S) (hb : (xs.length + ys.length) * 8 ≤ 140737488355328) :
    Step C ⟨d, .call { callee := .builtin .append, args := #[x, y], argTypes := #[T, T] }, ty, pos, af, g⟩ E L (fun v' : Value => rV.ty v') (fun v' => que v' (xs ++ ys) :: S) :=
  Step.of_run (by intro c h; cases h) fun a w h m l sp st fr => by
    subst he3
    have hv : a.eval x = v := (fr.get hx).1
    obtain ⟨ao, c, cs, hyv, rs, H⟩ := tSl.cells (fr.get hy)
    obtain ⟨m1, m2, d12, rfl, ⟨b', off', cap, cur, rfl, rfl, hl, hm, hs, r⟩, s2⟩ := sel.one.1 st
    obtain ⟨i, zv, hi, hz, hk, hby, hzr⟩ := hE.inf
    have hk1 : i.size = 1 := hk
    have hop : ∀ u w', (Builtin.append_ #[T, T] ty #[.slice (some ⟨b', off', none⟩) xs.length cap, .slice ao ys.length c]).run C.P w = .ok u w' →
        (execOp a.eval ⟨d, .call { callee := .builtin .append, args := #[x, y], argTypes := #[T, T] }, ty, pos, af, g⟩).run C.P w = .ok (.value u) w' := by
      intro u w' hr
      simp [execOp, resolve, invoke, builtin, hv, hyv, hr]
    have hrl := relAll_len rs
    have hro := relAll_one rs
    have hce := relAll_int' rs
    rw [show rInt.k = 1 from rfl, Nat.mul_one] at hrl
    obtain ⟨b, off, rfl, HH⟩ := H hys
    have hcell : ∀ j u, cs[j]? = some u → w.cell? ((⟨b, off, none⟩ : Addr).add j) = some u := fun j u hu' => by rw [addr_add]; exact HH.cell sp.hw hu'
    have hb' := sp.heap_own
    have hlen : (xs ++ ys).length = xs.length + ys.length := List.length_append
    by_cases hroom : xs.length + ys.length ≤ cap
    · have hr' := run_append_room_off (P := C.P) w T ty 3 i hu hi b' off' xs.length cap cur hb' ⟨b, off, none⟩ ys.length c cs (by rw [hk1]; omega) hcell hro hroom (by rw [hk1]; omega)
      rw [hk1, Nat.mul_one] at hr'
      refine ⟨_, _, _, h, (PH.one b' _).join m2, hop _ _ hr', HL.same ⟨rfl, rfl, rfl⟩, Sep.write d12 sp (fun b0 hne _ => setRow_other w b' b0 _ hne) (setRow_heap w b' cur _ 3 _ hb'), ?_, ⟨rfl, rfl⟩⟩
      refine ⟨_, m2, PH.one_disj_iff.2 (PH.one_disj_iff.1 d12), rfl, ⟨b', off', cap, _, by rw [hlen], rfl, by omega, hm, ?_, ?_⟩, s2⟩
      · simp only [List.size_toArray, List.length_append, List.length_take, List.length_drop, Array.length_toList]
        omega
      · have hcl : cur.toList.length = cur.size := Array.length_toList
        rw [List.toList_toArray, hlen, List.map_append, ← r, ← hce]
        have e1 : cur.toList.take (off' + xs.length) = cur.toList.take off' ++ (cur.toList.drop off').take xs.length := by rw [← List.take_add]
        rw [e1, List.append_assoc, List.append_assoc, List.drop_append_of_le_length (by rw [List.length_take]; omega), List.drop_of_length_le (by rw [List.length_take]; omega), List.nil_append]
        have hx1 : ((cur.toList.drop off').take xs.length).length = xs.length := by rw [List.length_take, List.length_drop]; omega
        rw [← List.append_assoc, List.take_append_of_le_length (by rw [List.length_append, hx1]; omega), List.take_of_length_le (by rw [List.length_append, hx1]; omega)]
    · have hcl : cur.toList.length = cur.size := Array.length_toList
      have hx1 : ((cur.toList.drop off').take xs.length).length = xs.length := by rw [List.length_take, List.length_drop]; omega
      have holds : ∀ j u, ((cur.toList.drop off').take xs.length)[j]? = some u → w.cell? ((⟨b', off', none⟩ : Addr).add j) = some u := fun j u hu' => by
        rw [addr_add, inw_cells (h := h) hb']
        rw [List.getElem?_take] at hu'
        split at hu'
        · simpa [List.getElem?_drop] using hu'
        · cases hu'
      have hr' := run_append_grow (P := C.P) w T ty 3 i zv hu hi hz ⟨b', off', none⟩ xs.length cap _ (by rw [hk1, hx1]; omega) holds ⟨b, off, none⟩ ys.length c cs (by rw [hk1]; omega) hcell
        (by omega) (by omega) (by rw [hby]; exact growslice_fits (by omega) hb)
      have sp2 : Sep h m2 C.r w := ⟨(by first | exact Sep.inv (by assumption) | exact Inv.mono (PH.le_join_left _ _) (Sep.inv (by assumption))), (PH.disj_join'.1 sp.hm).2, sp.hr, (PH.disj_join.1 sp.mr).2, sp.hw, fun b o e => sp.mw _ _ (PH.le_join_right d12 _ _ e), sp.rw⟩
      have hge := grownCap_ge w (xs.length + ys.length) cap 3
      refine ⟨_, _, _, h, (PH.one w.heap.size _).join m2, hop _ _ hr', HL.same (Same.drewAlloc _ _), sp2.drew.allocOwn (w := w.drew) _, ?_, ⟨rfl, rfl⟩⟩
      refine ⟨_, m2, PH.disj_symm (PH.one_disj_new sp2.mw _), rfl, ⟨w.heap.size, 0, _, _, by rw [hlen], rfl, by omega, grownCap_le_maxLen w _ _ _ (by unfold maxLen; omega), ?_, ?_⟩, s2⟩
      · have hzl : zv.cells.size = 1 := by have := rInt.len (rInt.cells (hzr h)); rw [Array.length_toList] at this; exact this
        simp only [Array.size_append, List.size_toArray, hx1, hrl, size_zeroCells, hzl]; omega
      · rw [List.drop_zero, hlen, List.map_append, ← r, ← hce]
        simp only [Array.toList_append, List.toList_toArray, List.append_assoc]
        rw [← List.append_assoc, List.take_append_of_le_length (by rw [List.length_append, hx1]; omega), List.take_of_length_le (by rw [List.length_append, hx1]; omega)]
end
section
variable {κ β : Type} [DecidableEq κ] {kv : κ → Value} {R : Rp β}
variable {C : Cx} {E : Env} {L : List SP} {d : Option Nat} {ty : Nat} {pos : String} {af : Array Edge} {g : Option (Nat × Bool)}
theorem step_len_map {T kt e : Nat} {x : Operand} {v : Value} {m : List (κ × β)} {S : List SP} (hu : C.P.underlying T = some (.map kt e)) (hx : Sub (opTy E x) (rV.ty v)) (sel : Sel L [mapOwn kv R v m] S) :
    Step1 C ⟨d, .call { callee := .builtin .len, args := #[x], argTypes := #[T] }, ty, pos, af, g⟩ E L (tV (.int .i64 m.length)) :=
  Step.of_run (by intro c h; cases h) fun a w h mm l sp st fr => by
    have hv : a.eval x = v := (fr.get hx).1
    obtain ⟨m1, m2, d12, rfl, ⟨r, es, rfl, rfl, hr⟩, s2⟩ := sel.one.1 st
    have hb := sp.heap_own
    have hl := hr.length
    exact ⟨(), .int .i64 m.length, w, h, _, by simp [execOp, resolve, invoke, builtin, Builtin.len_, hv, run_underlying hu, goInt, run_getObj_map hb, Sem.run_bind, hl], HL.refl, sp, st, rfl⟩
theorem step_lookupI {T kt e : Nat} {x y : Operand} {m : List (κ × β)} {q : κ} {z : β} {zv : Value} (K : KeyT C.P kt kv) (hu : C.P.underlying T = some (.map kt e)) (hz : ∀ w, (zeroValue e).run C.P w = .ok zv w) (hzr : ∀ h, (R.ty z).p h zv)
    (hx : Sub (opTy E x) (tMapI kv R m)) (hy : Sub (opTy E y) (tV (kv q))) : Step1 C ⟨d, .lookup T x y false, ty, pos, af, g⟩ E L (R.ty ((mget m q).getD z)) :=
  Step.of_run (by intro c h; cases h) fun a w h mm l sp st fr => by
    obtain ⟨m1, hle, ho⟩ := fr.get hx
    have h2 : a.eval y = kv q := fr.get hy
    obtain ⟨u, hu1, hrun⟩ := run_lookup (P := C.P) K hu hz hzr ho (fun b o e => sp.hw _ _ (hle _ _ e)) q false
    exact ⟨(), u, w, h, _, by simp [execOp, h2, hrun], HL.refl, sp, st, hu1⟩
end
open Go
structure It3 where
  i : Nat
  ts : List Nat
  c : Nat
def JX (C : Cx) (ops : Array Oper) (k : Env → List SP → Prop) : List It3 → Env → List SP → Prop
  | [], E, L => k E L
  | ⟨i, ts, 0⟩ :: its, E, L => ∃ o A, ops[i]? = some o ∧ ltO o.dst C.N = true ∧ (∀ L, StepG C ops o (restr ts E) L A) ∧ JX C ops k its (updO E o.dst A) L
  | ⟨i, ts, 1⟩ :: its, E, L => ∃ o A, ops[i]? = some o ∧ ltO o.dst C.N = true ∧ StepG C ops o (restr ts E) L A ∧ JX C ops k its (updO E o.dst A) L
  | ⟨i, ts, _ + 2⟩ :: its, E, L => ∃ o, ops[i]? = some o ∧ ltO o.dst C.N = true ∧ ∃ (X : Type) (A : X → Ty) (L' : X → List SP), WantX ops o (restr ts E) ∧ Step C o (restr ts E) L A L' ∧ ∀ x, JX C ops k its (updO E o.dst (A x)) (L' x)
section
variable {C : Cx} {ops : Array Oper} {k : Env → List SP → Prop} {its : List It3} {E : Env} {L : List SP} {i : Nat} {ts : List Nat} {o : Oper}
theorem JX_nil (h : k E L) : JX C ops k [] E L := h
theorem JX_step {A : Ty} {d : Nat} (ho : ops.toList[i]? = some o) (hg : o.guard = none) (hd : o.dst = some d) (hN : Nat.blt d C.N = true) (hs : ∀ L, Step1 C o (restr ts E) L A)
    (hk : JX C ops k its (upd E d A) L) : JX C ops k (⟨i, ts, 0⟩ :: its) E L :=
  ⟨o, A, by simpa using ho, by rw [hd]; exact hN, fun L => .inl ⟨hg, hs L⟩, by rw [hd]; exact hk⟩
theorem JX_stepG {B : Ty} {d j t : Nat} {b w : Bool} {og : Oper} (ho : ops.toList[i]? = some o) (hg : o.guard = some (j, b)) (hj : ops.toList[j]? = some og) (ht : og.dst = some t) (hc : Gd (restr ts E t) b w) (hd : o.dst = some d) (hN : Nat.blt d C.N = true)
    (hs : w = true → ∀ L, Step1 C o (restr ts E) L B) (hk : JX C ops k its (upd E d (tW w B)) L) : JX C ops k (⟨i, ts, 0⟩ :: its) E L :=
  ⟨o, tW w B, by simpa using ho, by rw [hd]; exact hN, fun L => .inr ⟨j, b, og, t, w, B, hg, by simpa using hj, ht, hc, rfl, fun hw => hs hw L⟩, by rw [hd]; exact hk⟩
theorem JX_look {A : Ty} {d : Nat} (ho : ops.toList[i]? = some o) (hg : o.guard = none) (hd : o.dst = some d) (hN : Nat.blt d C.N = true) (hs : Step1 C o (restr ts E) L A)
    (hk : JX C ops k its (upd E d A) L) : JX C ops k (⟨i, ts, 1⟩ :: its) E L :=
  ⟨o, A, by simpa using ho, by rw [hd]; exact hN, .inl ⟨hg, hs⟩, by rw [hd]; exact hk⟩
theorem JX_lookG {B : Ty} {d j t : Nat} {b w : Bool} {og : Oper} (ho : ops.toList[i]? = some o) (hg : o.guard = some (j, b)) (hj : ops.toList[j]? = some og) (ht : og.dst = some t) (hc : Gd (restr ts E t) b w) (hd : o.dst = some d) (hN : Nat.blt d C.N = true)
    (hs : w = true → Step1 C o (restr ts E) L B) (hk : JX C ops k its (upd E d (tW w B)) L) : JX C ops k (⟨i, ts, 1⟩ :: its) E L :=
  ⟨o, tW w B, by simpa using ho, by rw [hd]; exact hN, .inr ⟨j, b, og, t, w, B, hg, by simpa using hj, ht, hc, rfl, hs⟩, by rw [hd]; exact hk⟩
theorem JX_stepU {X : Type} {A : X → Ty} {L' : X → List SP} (ho : ops.toList[i]? = some o) (hg : o.guard = none) (hd : o.dst = none) (hs : Step C o (restr ts E) L A L')
    (hk : ∀ x, JX C ops k its E (L' x)) : JX C ops k (⟨i, ts, 2⟩ :: its) E L :=
  ⟨o, by simpa using ho, by rw [hd]; rfl, X, A, L', .inl hg, hs, fun x => by rw [hd]; exact hk x⟩
end
structure Pl3 where
  i : Nat
  ts : List Nat
  c : Nat
  aft : List Nat
  dst : Option Nat
def plOf3 (ops : List Oper) (x : It3) : Pl3 := ⟨x.i, x.ts, x.c, aftOf ops x.i, dstOf ops x.i⟩
def okPair3 (a b : Pl3) : Bool := !Nat.beq a.i b.i && (memN a.i b.aft || (!inO a.dst b.ts && !inO b.dst a.ts && !eqO a.dst b.dst))
def okTail3 (m : Pl3) (l : List Pl3) : Bool := match m.c with
  | 0 => true
  | 1 => l.all fun q => Nat.ble q.c 1 || (memN m.i q.aft || q.aft.any fun r => l.any fun p => Nat.beq r p.i && memN m.i p.aft)
  | _ => l.all fun q => memN m.i q.aft || q.aft.any fun r => l.any fun p => Nat.beq r p.i
def okPls3 : List Pl3 → Bool
  | [] => true
  | a :: l => l.all (okPair3 a) && okTail3 a l && okPls3 l
def okM3 (ops : List Oper) (its : List It3) : Bool :=
  let pls := its.map (plOf3 ops)
  okPls3 pls && pls.all (fun p => p.aft.all (Nat.blt · p.i)) && (List.range ops.length).all (fun i => its.any fun x => Nat.beq i x.i) && its.all fun x => Nat.blt x.i ops.length
theorem okPls3_sub : ∀ {l1 : List Pl3} {b : Pl3} {l2 : List Pl3}, okPls3 (l1 ++ b :: l2) = true → (∀ a ∈ l1, a.c ≤ 1) → (∀ a ∈ l1, a.i ∉ b.aft) → okPls3 (l1 ++ l2) = true
  | [], b, l2, h, _, _ => by simp only [List.nil_append, okPls3, Bool.and_eq_true] at h; exact h.2
  | a :: l1, b, l2, h, hf, hn => by
    simp only [List.cons_append, okPls3, Bool.and_eq_true, List.all_eq_true] at h ⊢
    have hsub : ∀ x ∈ l1 ++ l2, x ∈ l1 ++ b :: l2 := fun x hx => by rcases List.mem_append.1 hx with hx | hx <;> simp [hx]
    refine ⟨⟨fun x hx => h.1.1 x (hsub x hx), ?_⟩, okPls3_sub h.2 (fun x hx => hf x (by simp [hx])) (fun x hx => hn x (by simp [hx]))⟩
    have h1 := h.1.2
    have hc := hf a (by simp)
    unfold okTail3 at h1 ⊢
    match e : a.c, hc with
    | 0, _ => rfl
    | 1, _ =>
      rw [e] at h1
      simp only [List.all_eq_true, Bool.or_eq_true, List.any_eq_true, Bool.and_eq_true] at h1 ⊢
      intro x hx
      rcases h1 x (hsub x hx) with q | q | ⟨r, hr, p, hp, q1, q2⟩
      · exact .inl q
      · exact .inr (.inl q)
      · refine .inr (.inr ⟨r, hr, p, ?_, q1, q2⟩)
        rcases List.mem_append.1 hp with hp | hp
        · exact List.mem_append_left _ hp
        · rcases List.mem_cons.1 hp with rfl | hp
          · exact absurd (memN_iff.1 q2) (hn a (by simp))
          · exact List.mem_append_right _ hp
theorem okPls3_pair : ∀ {l1 : List Pl3} {b : Pl3} {l2 : List Pl3}, okPls3 (l1 ++ b :: l2) = true → ∀ a ∈ l1, okPair3 a b = true
  | [], _, _, _, a, ha => by cases ha
  | a :: l1, b, l2, h, x, hx => by
    simp only [List.cons_append, okPls3, Bool.and_eq_true, List.all_eq_true] at h
    rcases List.mem_cons.1 hx with rfl | hx
    · exact h.1.1 b (by simp)
    · exact okPls3_pair h.2 x hx
theorem okPls3_tail : ∀ {l1 : List Pl3} {b : Pl3} {l2 : List Pl3}, okPls3 (l1 ++ b :: l2) = true → ∀ (x y : List Pl3) (a : Pl3), l1 = x ++ a :: y → okTail3 a (y ++ b :: l2) = true
  | [], _, _, _, x, y, a, e => by simp at e
  | c :: l1, b, l2, h, [], y, a, e => by
    simp only [List.nil_append, List.cons.injEq] at e; obtain ⟨rfl, rfl⟩ := e
    simp only [List.cons_append, okPls3, Bool.and_eq_true] at h
    exact h.1.2
  | c :: l1, b, l2, h, d :: x, y, a, e => by
    simp only [List.cons_append, List.cons.injEq] at e
    simp only [List.cons_append, okPls3, Bool.and_eq_true] at h
    exact okPls3_tail h.2 x y a e.2
theorem JX_cons {C : Cx} {ops : Array Oper} {k : Env → List SP → Prop} {its its' : List It3} (h : ∀ E L, JX C ops k its E L → JX C ops k its' E L) : ∀ {a : It3} {E : Env} {L : List SP}, JX C ops k (a :: its) E L → JX C ops k (a :: its') E L
  | ⟨i, ts, 0⟩, _, _, ⟨o, A, h1, h2, h3, h4⟩ => ⟨o, A, h1, h2, h3, h _ _ h4⟩
  | ⟨i, ts, 1⟩, _, _, ⟨o, A, h1, h2, h3, h4⟩ => ⟨o, A, h1, h2, h3, h _ _ h4⟩
  | ⟨i, ts, _ + 2⟩, _, _, ⟨o, h1, h2, X, A, L', h3, h4, h5⟩ => ⟨o, h1, h2, X, A, L', h3, h4, fun x => h _ _ (h5 x)⟩
theorem pair_key {ops : Array Oper} {a b : It3} (hp : okPair3 (plOf3 ops.toList a) (plOf3 ops.toList b) = true) (hn : a.i ∉ aftOf ops.toList b.i) {oa ob : Oper} (ha : ops[a.i]? = some oa) (hb : ops[b.i]? = some ob) :
    inO oa.dst b.ts = false ∧ inO ob.dst a.ts = false ∧ eqO oa.dst ob.dst = false := by
  have hda : dstOf ops.toList a.i = oa.dst := by simp [dstOf, ha]
  have hdb : dstOf ops.toList b.i = ob.dst := by simp [dstOf, hb]
  simp only [okPair3, plOf3, hda, hdb, Bool.and_eq_true, Bool.or_eq_true, Bool.not_eq_true', memN_iff] at hp
  rcases hp.2 with q | q
  · exact absurd q hn
  · exact ⟨q.1.1, q.1.2, q.2⟩
section
variable {C : Cx} {ops : Array Oper} {k : Env → List SP → Prop} {ia ib : Nat} {ta tb : List Nat} {its : List It3} {E : Env} {L : List SP}
theorem JX_swap00 (hp : ∀ ca cb, okPair3 (plOf3 ops.toList ⟨ia, ta, ca⟩) (plOf3 ops.toList ⟨ib, tb, cb⟩) = true) (hn : ia ∉ aftOf ops.toList ib) (h : JX C ops k (⟨ia, ta, 0⟩ :: ⟨ib, tb, 0⟩ :: its) E L) : JX C ops k (⟨ib, tb, 0⟩ :: ⟨ia, ta, 0⟩ :: its) E L := by
  obtain ⟨oa, A, ha, hla, hsa, ob, B, hb, hlb, hsb, hk⟩ := h
  obtain ⟨p1, p2, p3⟩ := pair_key (a := ⟨ia, ta, 0⟩) (b := ⟨ib, tb, 0⟩) (hp 0 0) hn ha hb
  refine ⟨ob, B, hb, hlb, fun L => (hsb L).same (restr_updO p1), oa, A, ha, hla, fun L => (hsa L).same (restr_updO p2).symm, ?_⟩
  rw [updO_comm p3] at hk
  exact hk
theorem JX_swap01 (hp : ∀ ca cb, okPair3 (plOf3 ops.toList ⟨ia, ta, ca⟩) (plOf3 ops.toList ⟨ib, tb, cb⟩) = true) (hn : ia ∉ aftOf ops.toList ib) (h : JX C ops k (⟨ia, ta, 0⟩ :: ⟨ib, tb, 1⟩ :: its) E L) : JX C ops k (⟨ib, tb, 1⟩ :: ⟨ia, ta, 0⟩ :: its) E L := by
  obtain ⟨oa, A, ha, hla, hsa, ob, B, hb, hlb, hsb, hk⟩ := h
  obtain ⟨p1, p2, p3⟩ := pair_key (a := ⟨ia, ta, 0⟩) (b := ⟨ib, tb, 1⟩) (hp 0 1) hn ha hb
  refine ⟨ob, B, hb, hlb, hsb.same (restr_updO p1), oa, A, ha, hla, fun L => (hsa L).same (restr_updO p2).symm, ?_⟩
  rw [updO_comm p3] at hk
  exact hk
theorem JX_swap02 {c : Nat} (hp : ∀ ca cb, okPair3 (plOf3 ops.toList ⟨ia, ta, ca⟩) (plOf3 ops.toList ⟨ib, tb, cb⟩) = true) (hn : ia ∉ aftOf ops.toList ib) (h : JX C ops k (⟨ia, ta, 0⟩ :: ⟨ib, tb, c + 2⟩ :: its) E L) : JX C ops k (⟨ib, tb, c + 2⟩ :: ⟨ia, ta, 0⟩ :: its) E L := by
  obtain ⟨oa, A, ha, hla, hsa, ob, hb, hlb, X, B, L', hgb, hsb, hk⟩ := h
  obtain ⟨p1, p2, p3⟩ := pair_key (a := ⟨ia, ta, 0⟩) (b := ⟨ib, tb, c + 2⟩) (hp 0 (c + 2)) hn ha hb
  rw [restr_updO p1] at hsb hgb
  refine ⟨ob, hb, hlb, X, B, L', hgb, hsb, fun x => ⟨oa, A, ha, hla, fun L => (hsa L).same (restr_updO p2).symm, ?_⟩⟩
  have := hk x
  rw [updO_comm p3] at this
  exact this
theorem JX_swap10 (hp : ∀ ca cb, okPair3 (plOf3 ops.toList ⟨ia, ta, ca⟩) (plOf3 ops.toList ⟨ib, tb, cb⟩) = true) (hn : ia ∉ aftOf ops.toList ib) (h : JX C ops k (⟨ia, ta, 1⟩ :: ⟨ib, tb, 0⟩ :: its) E L) : JX C ops k (⟨ib, tb, 0⟩ :: ⟨ia, ta, 1⟩ :: its) E L := by
  obtain ⟨oa, A, ha, hla, hsa, ob, B, hb, hlb, hsb, hk⟩ := h
  obtain ⟨p1, p2, p3⟩ := pair_key (a := ⟨ia, ta, 1⟩) (b := ⟨ib, tb, 0⟩) (hp 1 0) hn ha hb
  refine ⟨ob, B, hb, hlb, fun L => (hsb L).same (restr_updO p1), oa, A, ha, hla, hsa.same (restr_updO p2).symm, ?_⟩
  rw [updO_comm p3] at hk
  exact hk
theorem JX_swap11 (hp : ∀ ca cb, okPair3 (plOf3 ops.toList ⟨ia, ta, ca⟩) (plOf3 ops.toList ⟨ib, tb, cb⟩) = true) (hn : ia ∉ aftOf ops.toList ib) (h : JX C ops k (⟨ia, ta, 1⟩ :: ⟨ib, tb, 1⟩ :: its) E L) : JX C ops k (⟨ib, tb, 1⟩ :: ⟨ia, ta, 1⟩ :: its) E L := by
  obtain ⟨oa, A, ha, hla, hsa, ob, B, hb, hlb, hsb, hk⟩ := h
  obtain ⟨p1, p2, p3⟩ := pair_key (a := ⟨ia, ta, 1⟩) (b := ⟨ib, tb, 1⟩) (hp 1 1) hn ha hb
  refine ⟨ob, B, hb, hlb, hsb.same (restr_updO p1), oa, A, ha, hla, hsa.same (restr_updO p2).symm, ?_⟩
  rw [updO_comm p3] at hk
  exact hk
end
theorem JX_swap {C : Cx} {ops : Array Oper} {k : Env → List SP → Prop} {a b : It3} {its : List It3} {E : Env} {L : List SP} (hf : a.c = 0 ∨ (a.c = 1 ∧ b.c ≤ 1)) (hp : okPair3 (plOf3 ops.toList a) (plOf3 ops.toList b) = true) (hn : a.i ∉ aftOf ops.toList b.i)
    (h : JX C ops k (a :: b :: its) E L) : JX C ops k (b :: a :: its) E L := by
  obtain ⟨ia, ta, ca⟩ := a
  obtain ⟨ib, tb, cb⟩ := b
  have hp' : ∀ ca cb, okPair3 (plOf3 ops.toList ⟨ia, ta, ca⟩) (plOf3 ops.toList ⟨ib, tb, cb⟩) = true := fun _ _ => hp
  rcases hf with h0 | ⟨h1, hb1⟩
  · have h0 : ca = 0 := h0
    subst h0
    rcases cb with _ | _ | c
    · exact JX_swap00 hp' hn h
    · exact JX_swap01 hp' hn h
    · exact JX_swap02 hp' hn h
  · have h1 : ca = 1 := h1
    have hb1 : cb ≤ 1 := hb1
    subst h1
    rcases cb with _ | _ | c
    · exact JX_swap10 hp' hn h
    · exact JX_swap11 hp' hn h
    · omega
theorem JX_pull {C : Cx} {ops : Array Oper} {k : Env → List SP → Prop} {b : It3} {l2 : List It3} : ∀ {l1 : List It3} {E : Env} {L : List SP}, (∀ a ∈ l1, a.c = 0 ∨ (a.c = 1 ∧ b.c ≤ 1)) →
    (∀ a ∈ l1, okPair3 (plOf3 ops.toList a) (plOf3 ops.toList b) = true) → (∀ a ∈ l1, a.i ∉ aftOf ops.toList b.i) → JX C ops k (l1 ++ b :: l2) E L → JX C ops k (b :: (l1 ++ l2)) E L := by
  intro l1
  induction l1 with
  | nil => intro E L _ _ _ h; exact h
  | cons a l1 ih =>
    intro E L hf hp hn h
    refine JX_swap (hf a (by simp)) (hp a (by simp)) (hn a (by simp)) ?_
    exact JX_cons (fun E L hk => ih (fun a m => hf a (by simp [m])) (fun a m => hp a (by simp [m])) (fun a m => hn a (by simp [m])) hk) h
theorem wpAny_JX {C : Cx} {ops : Array Oper} {Q : Exit → Act → World → Prop} : ∀ (fuel : Nat) (its : List It3) (listed : Array Bool) (E : Env) (L : List SP), its.length ≤ fuel → listed.size = ops.size →
    (∀ i, i < ops.size → (listed.getD i true = false ↔ ∃ x ∈ its, x.i = i)) → okPls3 (its.map (plOf3 ops.toList)) = true → (∀ x ∈ its, x.i < ops.size ∧ ∀ e ∈ aftOf ops.toList x.i, e < x.i) →
    JX C ops (fun E' L' => K C (Q .normal) E' L') its E L → K C (fun a w => wpAnyIn (Fw C.ro) 0 C.P .any ops Q fuel listed a w) E L := by
  intro fuel
  induction fuel with
  | zero =>
    intro its listed E L hlen hsz hin _ _ hJ
    have : its = [] := List.length_eq_zero_iff.1 (by omega)
    subst this
    intro a w p
    refine ⟨?_, hJ a w p⟩
    rw [List.eq_nil_iff_forall_not_mem]
    intro i hi
    obtain ⟨h1, h2, _⟩ := mem_ready.1 hi
    obtain ⟨x, hx, _⟩ := (hin i h1).1 h2
    cases hx
  | succ fuel ih =>
    intro its listed E L hlen hsz hin hok hlt hJ
    have hdone : Region.ready .any ops listed = [] → its = [] := by
      intro hr
      have hall : ∀ i, i < ops.size → listed.getD i true = true := by
        intro i
        induction i using Nat.strongRecOn with
        | _ i ihi =>
          intro hi
          cases hl : listed.getD i true with
          | true => rfl
          | false =>
            have ho : ops[i]? = some ops[i] := Array.getElem?_eq_getElem hi
            obtain ⟨x, hx, hxi⟩ := (hin i hi).1 hl
            have h1 := (hlt x hx).2
            rw [hxi] at h1
            have hm : i ∈ Region.ready .any ops listed := mem_ready.2 ⟨hi, hl, _, ho, fun e he => by
              have he' : e < i := h1 e (by simpa [aftOf, hi] using he)
              rw [getD_any (by omega) false true]
              exact ihi e he' (by omega)⟩
            rw [hr] at hm; cases hm
      match its with
      | [] => rfl
      | x :: _ =>
        have h1 := (hlt x (by simp)).1
        have := (hin x.i h1).2 ⟨x, by simp, rfl⟩
        rw [hall x.i h1] at this; cases this
    intro a w p
    refine ⟨fun hr => ?_, fun i hi => ?_⟩
    · have := hdone hr
      subst this
      exact hJ a w p
    · obtain ⟨hlti, hnl, o, ho, haft⟩ := mem_ready.1 hi
      obtain ⟨b, hb, hbi⟩ := (hin i hlti).1 hnl
      obtain ⟨l1, l2, rfl⟩ := List.append_of_mem hb
      have hoi : ops.toList[b.i]? = some o := by rw [hbi]; simpa using ho
      have haft' : aftOf ops.toList b.i = aftN o := by simp only [aftOf, hoi]
      have hleft : ∀ x ∈ l1 ++ b :: l2, x.i ∉ aftOf ops.toList b.i := fun x hx hm => by
        rw [haft'] at hm
        have h1 := haft _ hm
        have h2 := (hlt x hx).1
        have h3 := (hin x.i h2).2 ⟨x, hx, rfl⟩
        rw [getD_any (by omega) true false, h1] at h3; cases h3
      rw [List.map_append, List.map_cons] at hok
      have hpair : ∀ a ∈ l1, okPair3 (plOf3 ops.toList a) (plOf3 ops.toList b) = true := fun a ha => okPls3_pair hok _ (List.mem_map_of_mem ha)
      have hfree : ∀ a ∈ l1, a.c = 0 ∨ (a.c = 1 ∧ b.c ≤ 1) := fun x hx => by
        obtain ⟨y, z, rfl⟩ := List.append_of_mem hx
        have ht := okPls3_tail hok (y.map (plOf3 ops.toList)) (z.map (plOf3 ops.toList)) (plOf3 ops.toList x) (by simp)
        unfold okTail3 at ht
        have hxc : (plOf3 ops.toList x).c = x.c := rfl
        rw [hxc] at ht
        match e : x.c with
        | 0 => exact .inl rfl
        | 1 =>
          right
          rw [e] at ht
          simp only [List.all_eq_true, Bool.or_eq_true, List.any_eq_true, Bool.and_eq_true] at ht
          refine ⟨rfl, ?_⟩
          rcases ht (plOf3 ops.toList b) (by simp) with q | q | ⟨r, hr, p, hp, hq, _⟩
          · exact Nat.le_of_ble_eq_true q
          · exact absurd (memN_iff.1 q) (hleft x (by simp))
          · exfalso
            have hrp := Nat.eq_of_beq_eq_true hq
            have hp' : ∃ u ∈ z ++ b :: l2, plOf3 ops.toList u = p := by
              rcases List.mem_append.1 hp with hp | hp
              · obtain ⟨u, hu, e⟩ := List.mem_map.1 hp
                exact ⟨u, by simp [hu], e⟩
              · rcases List.mem_cons.1 hp with hp | hp
                · exact ⟨b, by simp, hp.symm⟩
                · obtain ⟨u, hu, e⟩ := List.mem_map.1 hp
                  exact ⟨u, by simp [hu], e⟩
            obtain ⟨u, hu, e⟩ := hp'
            have : u.i ∉ aftOf ops.toList b.i := hleft u (by
              rcases List.mem_append.1 hu with hu | hu
              · simp [hu]
              · simp only [List.mem_append]; exact .inr hu)
            rw [← e] at hrp
            have hr' : r ∈ aftOf ops.toList b.i := hr
            rw [hrp] at hr'
            exact absurd hr' this
        | c + 2 =>
          exfalso
          rw [e] at ht
          simp only [Bool.or_eq_true, List.all_eq_true, List.any_eq_true] at ht
          rcases ht (plOf3 ops.toList b) (by simp) with q | ⟨r, hr, p, hp, hq⟩
          · exact absurd (memN_iff.1 q) (hleft x (by simp))
          · have hrp := Nat.eq_of_beq_eq_true hq
            have hp' : ∃ u ∈ z ++ b :: l2, plOf3 ops.toList u = p := by
              rcases List.mem_append.1 hp with hp | hp
              · obtain ⟨u, hu, e⟩ := List.mem_map.1 hp
                exact ⟨u, by simp [hu], e⟩
              · rcases List.mem_cons.1 hp with hp | hp
                · exact ⟨b, by simp, hp.symm⟩
                · obtain ⟨u, hu, e⟩ := List.mem_map.1 hp
                  exact ⟨u, by simp [hu], e⟩
            obtain ⟨u, hu, e⟩ := hp'
            have : u.i ∉ aftOf ops.toList b.i := hleft u (by
              rcases List.mem_append.1 hu with hu | hu
              · simp [hu]
              · simp only [List.mem_append]; exact .inr hu)
            rw [← e] at hrp
            have hr' : r ∈ aftOf ops.toList b.i := hr
            rw [hrp] at hr'
            exact absurd hr' this
      have hJ' := JX_pull hfree hpair (fun a ha => hleft a (by simp [ha])) hJ
      have hsub : ∀ x ∈ l1 ++ l2, x ∈ l1 ++ b :: l2 := fun x hx => by
        rcases List.mem_append.1 hx with hx | hx <;> simp [hx]
      have hpairs : ∀ x ∈ l1 ++ l2, x.i ≠ b.i := fun x hx => by
        rcases List.mem_append.1 hx with hx | hx
        · have := hpair x hx
          simp only [okPair3, plOf3, Bool.and_eq_true, Bool.not_eq_true'] at this
          intro e; rw [e] at this; simp at this
        · have h2 : ∀ {l1 : List Pl3} {b : Pl3} {l2 : List Pl3}, okPls3 (l1 ++ b :: l2) = true → okPls3 (b :: l2) = true := by
            intro l1
            induction l1 with
            | nil => intro b l2 h; exact h
            | cons c l1 ih => intro b l2 h; simp only [List.cons_append, okPls3, Bool.and_eq_true] at h; exact ih h.2
          have := h2 hok
          simp only [okPls3, Bool.and_eq_true, List.all_eq_true] at this
          have := this.1.1 _ (List.mem_map_of_mem hx)
          simp only [okPair3, plOf3, Bool.and_eq_true, Bool.not_eq_true'] at this
          intro e; rw [e] at this; simp at this
      have rest : ∀ E' L', JX C ops (fun E' L' => K C (Q .normal) E' L') (l1 ++ l2) E' L' → K C (fun a w => wpAnyIn (Fw C.ro) 0 C.P .any ops Q fuel (listed.setIfInBounds i true) a w) E' L' := by
        intro E' L' hk
        refine ih (l1 ++ l2) _ E' L' (by simp only [List.length_append, List.length_cons] at hlen ⊢; omega) (by simpa using hsz) (fun j hj => ?_) (by
          rw [List.map_append]
          exact okPls3_sub hok (fun x hx => (List.mem_map.1 hx).elim fun y hy => hy.2 ▸ (by rcases hfree y hy.1 with q | ⟨q, _⟩ <;> (show y.c ≤ 1) <;> omega)) (fun x hx => (List.mem_map.1 hx).elim fun y hy => hy.2 ▸ hleft y (by simp [hy.1]))) (fun x hx => hlt x (hsub x hx)) hk
        by_cases hji : i = j
        · subst hji
          rw [getD_set_same (by omega)]
          constructor
          · intro h; cases h
          · rintro ⟨x, hx, e⟩
            exact absurd (e.trans hbi.symm) (hpairs x hx)
        · rw [getD_set_ne hji, hin j hj]
          constructor
          · rintro ⟨x, hx, e⟩
            refine ⟨x, ?_, e⟩
            rcases List.mem_append.1 hx with hx | hx
            · simp [hx]
            · rcases List.mem_cons.1 hx with rfl | hx
              · exact absurd (hbi.symm.trans e) hji
              · simp [hx]
          · rintro ⟨x, hx, e⟩
            exact ⟨x, hsub x hx, e⟩
      obtain ⟨bi, tb, cb⟩ := b
      simp only at hbi hoi
      subst hbi
      have ho' : ops[bi]? = some o := ho
      match cb, hJ' with
      | 0, hJ' =>
        obtain ⟨o', A, ho2, hl, hs, hk⟩ := hJ'
        rw [ho'] at ho2; cases ho2
        exact (hs L).op ho' hl (rest _ _ hk) a w p
      | 1, hJ' =>
        obtain ⟨o', A, ho2, hl, hs, hk⟩ := hJ'
        rw [ho'] at ho2; cases ho2
        exact hs.op ho' hl (rest _ _ hk) a w p
      | c + 2, hJ' =>
        obtain ⟨o', ho2, hl, X, A, L', hg, hs, hk⟩ := hJ'
        rw [ho'] at ho2; cases ho2
        obtain ⟨n, ds, h, m, l, sp, st, fr⟩ := p
        have hwt : Region.wanted o (yielded ops a.tmps) = true := hg.run (fr.sub restr_sub)
        unfold wpOpIn
        simp only [ho']
        rw [if_pos hwt]
        exact hs a w h m n l sp st (fr.sub restr_sub) _ Q fun x v w' h' m' l' sp' st' hv =>
          rest _ _ (hk x) _ _ ⟨by rw [put_size]; exact n, by rw [put_defers]; exact ds, h', m', HL.trans l l', sp', st', (fr.mono l'.1).putO (by rw [n]; exact hl) hv⟩
theorem J_drawX {C : Cx} {id : Nat} {ops : Array Oper} (its : List It3) {Q : Exit → Act → World → Prop} {E : Env} {L : List SP} (hmix : C.P.follows .mixedOrders = true) (hok : okM3 ops.toList its = true)
    (hJ : JX C ops (fun E' L' => K C (Q .normal) E' L') its E L) : J C (.region id ops true) Q E L := fun a w p => by
  refine wpIn_region_draw (fun t => ?_)
  simp only [Region.schedule, hmix, Bool.true_or, if_true]
  refine wpAnyIn_sound ops.size t _ a _ ?_
  simp only [okM3, Bool.and_eq_true, List.all_eq_true, List.any_eq_true] at hok
  obtain ⟨⟨⟨h1, h2⟩, h3⟩, h4⟩ := hok
  have h5 : ∀ x ∈ its, x.i < ops.size := fun x hx => by have := h4 x hx; simpa using this
  have hnd : (its.map (·.i)).Nodup := by
    have : ∀ {l : List It3}, okPls3 (l.map (plOf3 ops.toList)) = true → (l.map (·.i)).Nodup := by
      intro l
      induction l with
      | nil => intro _; simp
      | cons x l ih =>
        intro h
        simp only [List.map_cons, okPls3, Bool.and_eq_true, List.all_eq_true] at h
        simp only [List.map_cons, List.nodup_cons]
        refine ⟨fun hm => ?_, ih h.2⟩
        obtain ⟨y, hy, e⟩ := List.mem_map.1 hm
        have := h.1.1 _ (List.mem_map_of_mem hy)
        simp only [okPair3, plOf3, Bool.and_eq_true, Bool.not_eq_true'] at this
        rw [e] at this; simp at this
    exact this h1
  have hlen : its.length ≤ ops.size := by
    have := nodup_le hnd (n := ops.size) (fun i hi => by
      obtain ⟨x, hx, rfl⟩ := List.mem_map.1 hi
      exact h5 x hx)
    simpa using this
  refine wpAny_JX ops.size its _ E L hlen (by simp) (fun i hi => ?_) h1 (fun x hx => ⟨h5 x hx, fun e he => ?_⟩) hJ a _ ?_
  · constructor
    · intro _
      obtain ⟨x, hx, e⟩ := h3 i (by simpa using hi)
      exact ⟨x, hx, (Nat.eq_of_beq_eq_true e).symm⟩
    · intro _; simp [Array.getD_eq_getD_getElem?, hi]
  · have := h2 _ (List.mem_map_of_mem hx) e he
    simpa [plOf3] using this
  · obtain ⟨hsz, hds, h, m, hl, sp, st, fr⟩ := p
    exact ⟨hsz, hds, h, m, hl.trans (HL.same (Same.drew _)), ⟨(by first | exact Sep.inv (by assumption) | exact Inv.mono (PH.le_join_left _ _) (Sep.inv (by assumption))), sp.hm, sp.hr, sp.mr, sp.hw, sp.mw, sp.rw⟩, st, fr⟩
open Go
section
variable {C : Cx} {ops : Array Oper} {k : Env → List SP → Prop}
end
open Go
section
variable {α : Type} {e : Nat} {R : Rp α} {L : List SP}
instance : Inhabited (Value × List α) := ⟨(.slice none 0 0, [])⟩
end
open Go
open Go.Sort (SWO SortedIn PermIn)
section
variable {β : Type} (R : Rp β)
/-- An element: its cell, its datum. -/
abbrev El (p : β → Prop) (h : PH) : Type := { q : Value × β // (R.ty q.2).p h q.1 ∧ p q.2 }
variable {R}
theorem El.of_relAll {p : β → Prop} {h : PH} (hR : R.agg = false) : ∀ {xs : List β} {cs : List Value}, (∀ x ∈ xs, p x) → relAll R h xs cs → ∃ ds : List (El R p h), ds.map (fun x => x.1.2) = xs ∧ ds.map (fun x => x.1.1) = cs
  | [], _, _, r => by cases r; exact ⟨[], rfl, rfl⟩
  | x :: xs, _, hp, ⟨c1, c2, e, r1, r2⟩ => by
    subst e
    obtain ⟨ds, h1, h2⟩ := El.of_relAll hR (fun x hx => hp x (by simp [hx])) r2
    have hl := R.len r1
    rw [R.scalar hR] at hl
    match c1, hl with
    | [v], _ =>
      have hv : (R.ty x).p h v := by have := R.pack r1; rw [hR] at this; exact this
      exact ⟨⟨(v, x), hv, hp x (by simp)⟩ :: ds, by simp [h1], by simp [h2]⟩
theorem El.relAll {p : β → Prop} {h : PH} (hR : R.agg = false) : ∀ (ds : List (El R p h)), Lg.relAll R h (ds.map fun x => x.1.2) (ds.map fun x => x.1.1)
  | [] => rfl
  | ⟨(v, x), hv, _⟩ :: ds => by
    refine ⟨[v], ds.map (fun x => x.1.1), rfl, ?_, El.relAll hR ds⟩
    obtain ⟨cs, r, e⟩ := R.iff.1 hv
    have hl := R.len r
    rw [R.scalar hR] at hl
    match cs, hl with
    | [u], _ =>
      simp only [packV, hR, Bool.false_eq_true, if_false, List.headD_cons] at e
      subst e; exact r
end
theorem sortWorld_other {α : Type} [Inhabited α] {enc : α → Value} {w : World} {g off m : Nat} {dk : Array α} {os : Array Obj} {b : Nat} (hb : b < w.heap.size) (hne : b ≠ g) : (Go.Proofs.sortWorld enc w g off m dk os).heap[b]? = w.heap[b]? := by
  show ((Sort.mapBlock (Sort.ahead w m) g _).heap ++ os)[b]? = _
  rw [Array.getElem?_append_left (by simp [Sort.mapBlock, Sort.ahead, hb])]
  simp only [Sort.mapBlock, Sort.ahead, Array.getElem?_modify, Ne.symm hne, if_false]
theorem sortWorld_row {α : Type} [Inhabited α] {enc : α → Value} {w : World} {g off m : Nat} {dk : Array α} {os : Array Obj} {cur : Array Value} {e : Nat} {fz : Nat × Nat} (hb : w.heap[g]? = some (.cells cur e fz)) :
    (Go.Proofs.sortWorld enc w g off m dk os).heap[g]? = some (.cells (Sort.putCells enc off dk cur) e fz) := by
  have hlt := (Array.getElem?_eq_some_iff.1 hb).1
  show ((Sort.mapBlock (Sort.ahead w m) g _).heap ++ os)[g]? = _
  rw [Array.getElem?_append_left (by simp [Sort.mapBlock, Sort.ahead, hlt])]
  simp only [Sort.mapBlock, Sort.ahead, Array.getElem?_modify, if_true, hb, Option.map_some, Sort.onCells]
/-- slices.SortFunc, at elements of one cell, in own memory. -/
theorem sortFunc_spec {P : Program} {ρ : Shelf.Ren} (LL : Go.Proofs.SlLaysF.n6 P ρ) {β : Type} {R : Rp β} (hR : R.agg = false) (cf : β → β → Int) (hO : SWO (Go.Proofs.ltOf cf)) {gf e : Nat} (eg : ∀ args w, (callFunc gf args).run P w = .ok (.enter gf args) w)
    (p : β → Prop) (hc : ∀ x y, p x → p y → ∀ (u u' : Value) (h : PH) (W : World), h.inw W → (R.ty x).p h u → (R.ty y).p h u' → Calls P gf #[u, u'] W fun e' w' => e' = .returned (.int .i64 (cf x y)) ∧ ∃ q os, w' = Sort.grow (W.drewN q) os) (v : Value) (xs : List β) (hpx : ∀ x ∈ xs, p x) (hn : xs.length < 4611686018427387904) :
    Spec (X := { ys : List β // ys.Perm xs ∧ ys.Pairwise fun a b => Go.Proofs.ltOf cf b a = false }) P (ρ.f 6) [rV.ty v, tV (.func (.func gf) #[] #[])] [own e R v xs] (fun _ => tTup []) (fun ys => [own e R v ys.1]) := by
  intro vs h m r w ha sp st
  match vs, ha with
  | [u1, u2], ⟨a1, a2, _⟩ =>
  obtain ⟨e1, _⟩ := a1
  have e2 : u2 = .func (.func gf) #[] #[] := a2
  subst e1; subst e2
  obtain ⟨m1, m2, d12, rfl, ho, e3⟩ := st
  rw [stars_nil] at e3; subst e3
  rw [PH.join_emp] at sp
  have none_case : ∀ (p : Option Addr) (cap : Nat), u1 = .slice p 0 cap → xs = [] → Calls P (ρ.f 6) [u1, .func (.func gf) #[] #[]].toArray w (Ret (X := { ys : List β // ys.Perm xs ∧ ys.Pairwise fun a b => Go.Proofs.ltOf cf b a = false }) h w r (fun _ => tTup []) (fun ys => [own e R u1 ys.1])) := by
    intro p cap hu hx
    subst hu; subst hx
    refine (Go.Proofs.AnyF.slices_SortFunc_none (P := P) (ρ := ρ) { LL with } p cap _ w).mono ?_
    rintro e' w' ⟨rfl, rfl⟩
    refine ⟨⟨[], List.Perm.refl _, List.Pairwise.nil⟩, _, h, m1, rfl, HL.refl, sp, ⟨m1, PH.emp, PH.disj_emp _, (PH.join_emp _).symm, ho, rfl⟩, ⟨[], rfl, trivial⟩⟩
  rcases ho with ⟨rfl, rfl, rfl⟩ | ⟨g, cap, cur, rfl, rfl, hl, hm, hs, hr⟩
  · exact none_case none 0 rfl rfl
  · by_cases hx : xs = []
    · subst hx; exact none_case _ cap rfl rfl
    · obtain ⟨ds, hd1, hd2⟩ := El.of_relAll (p := p) hR hpx hr
      have hk := R.scalar hR
      rw [hk, Nat.mul_one] at hd2 hs
      have hlen : ds.length = xs.length := by rw [← hd1]; simp
      have hne : ds ≠ [] := fun q => hx (by rw [← hd1, q]; rfl)
      haveI : Inhabited (El R p h) := ⟨ds.head hne⟩
      have hb := sp.mw g _ (PH.one_same _ _)
      have hgh : h g = none := PH.disj_one_iff.1 sp.hm
      have hget : ∀ j, j < ds.toArray.size → cur[j]? = some (ds.toArray[j]!).1.1 := fun j hj => by
        have hj' : j < ds.length := by simpa using hj
        have : (cur.toList.take xs.length)[j]? = some (ds[j]).1.1 := by rw [← hd2]; simp [hj']
        rw [List.getElem?_take, if_pos (by omega)] at this
        rw [getElem!_pos _ j hj]
        simpa using this
      have hH : Sort.Holds (fun x : El R p h => x.1.1) w g 0 ds.toArray := fun j hj => ⟨by
        rw [Nat.zero_add]; simp only [World.cell?, hb]
        exact hget j hj, by simp [World.frozen?, hb]⟩
      have hcell : ∀ x : El R p h, x.1.1.oneCell' = true := fun x => by
        obtain ⟨cs, rx, ex⟩ := R.iff.1 x.2.1
        have hlx := R.len rx
        rw [hk] at hlx
        match cs, hlx with
        | [u], _ => simp only [packV, hR, Bool.false_eq_true, if_false, List.headD_cons] at ex; rw [ex]; exact R.one rx u (by simp)
      have hblk : g < w.heap.size := (Array.getElem?_eq_some_iff.1 hb).1
      have hcmp : Go.Proofs.CmpLays1 P gf #[] (fun x : El R p h => x.1.1) (fun x y => cf x.1.2 y.1.2) g 0 ds.toArray.size w := by
        intro n os dk hdk x y
        have hw : h.inw (Go.Proofs.sortWorld (fun x : El R p h => x.1.1) w g 0 n dk os) := fun b o eb => by
          have hne' : b ≠ g := fun q => by rw [q, hgh] at eb; cases eb
          rw [sortWorld_other (PH.inw_lt sp.hw eb) hne']; exact sp.hw b o eb
        refine (hc x.1.2 y.1.2 x.2.2 y.2.2 x.1.1 y.1.1 h _ hw x.2.1 y.2.1).mono ?_
        rintro e' w' ⟨he, q, os', hq⟩
        exact ⟨he, q, os', hq⟩
      have hO' : SWO (Go.Proofs.ltOf fun x y : El R p h => cf x.1.2 y.1.2) := ⟨fun x => hO.irrefl _, fun x y z => hO.trans _ _ _, fun x y z => hO.ntrans _ _ _⟩
      have hS := Go.Proofs.Any.slices_SortFunc LL (fun x : El R p h => x.1.1) hcell (fun x y => cf x.1.2 y.1.2) hO' gf #[] g 0 cap ds.toArray w eg hcmp hH hblk (by simpa [hlen] using hn)
      have hsz : ds.toArray.size = xs.length := by simp [hlen]
      rw [hsz] at hS
      refine hS.mono ?_
      rintro e' w' ⟨rfl, d', n, os, ⟨p1, _, p3⟩, hso, rfl⟩
      have hd's : d'.size = xs.length := by rw [p1, hsz]
      have hperm : d'.toList.Perm ds := by
        have q1 : (d'.extract 0 xs.length) = d' := by rw [← hd's]; simp
        have q2 : (ds.toArray.extract 0 xs.length) = ds.toArray := by rw [← hsz]; simp
        rw [q1, q2] at p3
        simpa using p3
      have hcur : (Sort.putCells (fun x : El R p h => x.1.1) 0 d' cur).toList.take xs.length = d'.toList.map (fun x => x.1.1) := by
        apply List.ext_getElem?
        intro j
        rw [List.getElem?_take]
        split
        · rename_i hj
          have hjc : j < cur.size := by omega
          have hjd : j < d'.size := by omega
          simp [Sort.putCells, hjc, hjd, hj, hd's]
        · rw [List.getElem?_eq_none (by simp; omega)]
      refine ⟨⟨d'.toList.map (fun x => x.1.2), ?_, ?_⟩, _, h, PH.one g (.cells (Sort.putCells (fun x : El R p h => x.1.1) 0 d' cur) e (0, 0)), rfl, HL.same ⟨rfl, rfl, rfl⟩, ?_, ⟨_, PH.emp, PH.disj_emp _, (PH.join_emp _).symm, .inr ⟨g, cap, _, by simp [hd's], rfl, by simpa [hd's] using hl, hm, ?_, ?_⟩, rfl⟩, ⟨[], rfl, trivial⟩⟩
      · have := hperm.map (fun x : El R p h => x.1.2)
        rw [hd1] at this; exact this
      · rw [List.pairwise_map]
        rw [List.pairwise_iff_getElem]
        intro i j hi hj hij
        have hi' : i < d'.size := by simpa using hi
        have hj' : j < d'.size := by simpa using hj
        have := hso i j (by omega) hij (by omega)
        rw [getElem!_pos d' i hi', getElem!_pos d' j hj'] at this
        simp only [Array.getElem_toList]
        exact this
      · have sp' : Sep h ((PH.one g (.cells cur e (0, 0))).join PH.emp) r w := by rw [PH.join_emp]; exact sp
        have := Sep.write (o' := .cells (Sort.putCells (fun x : El R p h => x.1.1) 0 d' cur) e (0, 0)) (PH.disj_emp _) sp' (fun b hne' hb' => sortWorld_other (enc := fun x : El R p h => x.1.1) (off := 0) (m := n) (dk := d') (os := os) hb' hne') (sortWorld_row hb)
        rw [PH.join_emp] at this; exact this
      · simp [Sort.putCells, hs, hk]
      · have e5 : (d'.toList.map (fun x : El R p h => x.1.2)).length = xs.length := by simp [hd's]
        rw [e5, hk, Nat.mul_one, hcur]
        exact El.relAll hR d'.toList
open Go
def sortI (xs : List Int) : List Int := xs.mergeSort fun x y => decide (x ≤ y)
theorem sortI_len (xs : List Int) : (sortI xs).length = xs.length := by simp [sortI]
theorem sortInts_spec {P : Program} {ρ : Shelf.Ren} (LL : Go.Proofs.Lays.n189 P ρ) (v : Value) (xs : List Int) (hn : xs.length < 4611686018427387904) :
    Spec (X := Unit) P (ρ.f 189) [rV.ty v] [own 3 rInt v xs] (fun _ => tTup []) (fun _ => [own 3 rInt v (sortI xs)]) := by
  intro vs h m r w ha sp st
  match vs, ha with
  | [u1], ⟨a1, _⟩ =>
  obtain ⟨e1, _⟩ := a1
  subst e1
  obtain ⟨m1, m2, d12, rfl, ho, e3⟩ := st
  rw [stars_nil] at e3; subst e3
  rw [PH.join_emp] at sp
  have none_case : ∀ (p : Option Addr) (cap : Nat), u1 = .slice p 0 cap → xs = [] → Calls P (ρ.f 189) [u1].toArray w (Ret (X := Unit) h w r (fun _ => tTup []) (fun _ => [own 3 rInt u1 (sortI xs)])) := by
    intro p cap hu hx
    subst hu; subst hx
    refine (Go.Proofs.Any.slices_Sort_int_none LL p cap w).mono ?_
    rintro e' w' ⟨rfl, rfl⟩
    exact ⟨(), _, h, m1, rfl, HL.refl, sp, ⟨m1, PH.emp, PH.disj_emp _, (PH.join_emp _).symm, by simpa [sortI] using ho, rfl⟩, ⟨[], rfl, trivial⟩⟩
  rcases ho with ⟨rfl, rfl, rfl⟩ | ⟨g, cap, cur, rfl, rfl, hl, hm, hs, hr⟩
  · exact none_case none 0 rfl rfl
  · by_cases hx : xs = []
    · subst hx; exact none_case _ cap rfl rfl
    · have hk : rInt.k = 1 := rfl
      rw [hk, Nat.mul_one] at hs hr
      rw [relAll_int] at hr
      have hb := sp.mw g _ (PH.one_same _ _)
      have hH : Sort.Holds (Value.int .i64) w g 0 xs.toArray := fun j hj => ⟨by
        rw [Nat.zero_add]; simp only [World.cell?, hb]
        have hj' : j < xs.length := by simpa using hj
        have : (cur.toList.take xs.length)[j]? = some (.int .i64 xs[j]) := by rw [hr]; simp [hj']
        rw [List.getElem?_take, if_pos hj'] at this
        rw [getElem!_pos _ j hj]
        simpa using this, by simp [World.frozen?, hb]⟩
      have hblk : g < w.heap.size := (Array.getElem?_eq_some_iff.1 hb).1
      refine (Go.Proofs.Any.slices_Sort_int LL g 0 cap xs w hH hblk hn).mono ?_
      rintro e' w' ⟨rfl, n, os, rfl⟩
      have hlen := sortI_len xs
      refine ⟨(), _, h, PH.one g (.cells (Sort.putCells (Value.int .i64) 0 (sortI xs).toArray cur) 3 (0, 0)), rfl, HL.same ⟨rfl, rfl, rfl⟩, ?_, ⟨_, PH.emp, PH.disj_emp _, (PH.join_emp _).symm, .inr ⟨g, cap, _, by rw [hlen], rfl, by rw [hlen]; exact hl, hm, ?_, ?_⟩, rfl⟩, ⟨[], rfl, trivial⟩⟩
      · have sp' : Sep h ((PH.one g (.cells cur 3 (0, 0))).join PH.emp) r w := by rw [PH.join_emp]; exact sp
        have := Sep.write (o' := .cells (Sort.putCells (Value.int .i64) 0 (sortI xs).toArray cur) 3 (0, 0)) (PH.disj_emp _) sp' (fun b hne' hb' => sortWorld_other (enc := Value.int .i64) (off := 0) (m := n) (dk := (sortI xs).toArray) (os := os) hb' hne') (sortWorld_row hb)
        rw [PH.join_emp] at this; exact this
      · simp [Sort.putCells, hs, hk]
      · rw [hlen, hk, Nat.mul_one, relAll_int]
        apply List.ext_getElem?
        intro j
        rw [List.getElem?_take]
        split
        · rename_i hj
          have hjc : j < cur.size := by omega
          have hjd : j < (sortI xs).length := by omega
          simp [Sort.putCells, hjc, hjd]
        · rw [List.getElem?_eq_none (by simp [hlen]; omega)]
open Go
theorem Sr {A : Ty} : Sub A A := Sub.rfl
theorem Sel.h {A : SP} {L : List SP} : Sel (A :: L) [A] L := Sel.take (Sel.none _)
theorem NF : (∀ (p : Prop) [Decidable p], (decide p = true) = p) ∧ (∀ (p : Prop) [Decidable p], (decide p = false) = ¬ p) ∧ (∀ a b : Bool, ((a && b) = true) = (a = true ∧ b = true)) ∧ (∀ a b : Bool, ((a || b) = true) = (a = true ∨ b = true)) ∧ (∀ a b : Bool, ((a && b) = false) = (a = false ∨ b = false)) ∧ (∀ a b : Bool, ((a || b) = false) = (a = false ∧ b = false)) ∧ (∀ b : Bool, ((!b) = true) = (b = false)) ∧ (∀ b : Bool, ((!b) = false) = (b = true)) ∧ (∀ a b : Int, (¬ a < b) = (b ≤ a)) ∧ (∀ a b : Int, (¬ a ≤ b) = (b < a)) ∧ ((!true) = false) ∧ ((!false) = true) :=
  ⟨fun p _ => by simp, fun p _ => by simp, fun a b => by simp, fun a b => by simp, fun a b => propext Bool.and_eq_false_iff, fun a b => by simp, fun b => by simp, fun b => by simp, fun a b => by simp, fun a b => by simp, rfl, rfl⟩
/-- What is owned is found. -/
theorem zS {L S R : List SP} (h : Sel L S R := by repeat first | exact .h | apply Sel.skip) : Sel L S R := h
theorem zO {p : Prop} (h : p := by first | omega | (dsimp only; omega) | (simp_all; omega)) : p := h
theorem zG {p : Prop} (h : p := by omega) : p := h
theorem z6 {x : Int} (h : in64 x := by unfold in64; omega) : in64 x := h
section
variable {C : Cx} {ops : Array Oper} {rest : List Oper} {Q : Exit → Act → World → Prop} {E : Env} {L : List SP} {d ty T : Nat} {pos : String} {af : Array Edge} {x : Operand} {op : Op}
theorem Js {A : Ty} (hN : Nat.blt d C.N = true) (hs : Step1 C ⟨some d, op, ty, pos, af, none⟩ E L A) (hk : JL C ops rest Q (upd E d A) L) : JL C ops (⟨some d, op, ty, pos, af, none⟩ :: rest) Q E L := JL_step rfl rfl hN hs hk
theorem Jm (hN : Nat.blt d C.N = true) (hk : JL C ops rest Q (upd E d (opTy E x)) L) : JL C ops (⟨some d, .move x, ty, pos, af, none⟩ :: rest) Q E L := JL_step rfl rfl hN (step_move Sub.rfl) hk
theorem Ja (hN : Nat.blt d C.N = true) (hk : JL C ops rest Q (upd E d (opTy E x)) L) : JL C ops (⟨some d, .assign x, ty, pos, af, none⟩ :: rest) Q E L := JL_step rfl rfl hN (step_assign Sub.rfl) hk
theorem Jl {α : Type} {R : Rp α} {y : α} (hN : Nat.blt d C.N = true) (hR : TyOf C.P T R) (hx : Sub (opTy E x) (tPtr R y)) (hk : JL C ops rest Q (upd E d (R.ty y)) L) : JL C ops (⟨some d, .load T x, ty, pos, af, none⟩ :: rest) Q E L := JL_step rfl rfl hN (step_load_ptr hR hx) hk
theorem Jr {id : Nat} {y : Code} (h : JL C ops ops.toList (Exit.then (fun a w => y.wpIn (Fw C.ro) 0 C.P Q a w) Q) E L) : J C (.seq (.region id ops false) y) Q E L := J_seq (J_region h)
theorem Jg {A : Ty} {j t : Nat} {b v : Bool} {opg : Op} {tyg : Nat} {posg : String} {afg : Array Edge} {gg : Option (Nat × Bool)} (hj : ops[j]? = some ⟨some t, opg, tyg, posg, afg, gg⟩) (hc : Sub (E t) (tV (.bool v))) (hN : Nat.blt d C.N = true)
    (hs : beqB v b = true → Step1 C ⟨some d, op, ty, pos, af, some (j, b)⟩ E L A) (hk : JL C ops rest Q (upd E d (tW (beqB v b) A)) L) : JL C ops (⟨some d, op, ty, pos, af, some (j, b)⟩ :: rest) Q E L := JL_stepG rfl hj rfl (Gd.plain hc) rfl hN hs hk
theorem Jh {A : Ty} {j t : Nat} {b v w : Bool} {opg : Op} {tyg : Nat} {posg : String} {afg : Array Edge} {gg : Option (Nat × Bool)} (hj : ops[j]? = some ⟨some t, opg, tyg, posg, afg, gg⟩) (hc : Sub (E t) (tW w (tV (.bool v)))) (hN : Nat.blt d C.N = true)
    (hs : (w && beqB v b) = true → Step1 C ⟨some d, op, ty, pos, af, some (j, b)⟩ E L A) (hk : JL C ops rest Q (upd E d (tW (w && beqB v b) A)) L) : JL C ops (⟨some d, op, ty, pos, af, some (j, b)⟩ :: rest) Q E L := JL_stepG rfl hj rfl (Gd.nest hc) rfl hN hs hk
theorem Jx {X : Type} {A : X → Ty} {L' : X → List SP} (hN : Nat.blt d C.N = true) (hs : Step C ⟨some d, op, ty, pos, af, none⟩ E L A L') (hk : ∀ x, JL C ops rest Q (upd E d (A x)) (L' x)) : JL C ops (⟨some d, op, ty, pos, af, none⟩ :: rest) Q E L := JL_stepX rfl rfl hN hs hk
theorem Ju {X : Type} {A : X → Ty} {L' : X → List SP} (hs : Step C ⟨none, op, ty, pos, af, none⟩ E L A L') (hk : ∀ x, JL C ops rest Q E (L' x)) : JL C ops (⟨none, op, ty, pos, af, none⟩ :: rest) Q E L := JL_stepU rfl rfl hs hk
theorem SubE.u {E E' : Env} {t : Nat} (h : SubE E E') : SubE E (Lg.upd E' t (E t)) := SubE.upd Sub.rfl h
end
section
variable {C : Cx} {ops : Array Oper} {k : Env → List SP → Prop} {its : List It} {E : Env} {L : List SP} {i d ty : Nat} {ts : List Nat} {op : Op} {x : Operand} {pos : String} {af : Array Edge}
theorem Mf {A : Ty} (ho : ops.toList[i]? = some ⟨some d, op, ty, pos, af, none⟩) (hN : Nat.blt d C.N = true) (hs : ∀ {L}, Step1 C ⟨some d, op, ty, pos, af, none⟩ (restr ts E) L A) (hk : JM C ops k its (upd E d A) L) : JM C ops k (⟨i, ts, true⟩ :: its) E L := JM_step ho rfl rfl hN (fun _ => hs) hk
theorem Mv (ho : ops.toList[i]? = some ⟨some d, .move x, ty, pos, af, none⟩) (hN : Nat.blt d C.N = true) (hk : JM C ops k its (upd E d (opTy (restr ts E) x)) L) : JM C ops k (⟨i, ts, true⟩ :: its) E L := JM_step ho rfl rfl hN (fun _ => step_move Sub.rfl) hk
theorem Mg {A : Ty} {j t : Nat} {b v : Bool} {opg : Op} {tyg : Nat} {posg : String} {afg : Array Edge} {gg : Option (Nat × Bool)} (ho : ops.toList[i]? = some ⟨some d, op, ty, pos, af, some (j, b)⟩) (hj : ops.toList[j]? = some ⟨some t, opg, tyg, posg, afg, gg⟩) (hc : Sub (restr ts E t) (tV (.bool v))) (hN : Nat.blt d C.N = true)
    (hs : beqB v b = true → ∀ {L}, Step1 C ⟨some d, op, ty, pos, af, some (j, b)⟩ (restr ts E) L A) (hk : JM C ops k its (upd E d (tW (beqB v b) A)) L) : JM C ops k (⟨i, ts, true⟩ :: its) E L := JM_stepG ho rfl hj rfl (Gd.plain hc) rfl hN (fun h _ => hs h) hk
end
end Lg
namespace Lg
/-- One by one. -/
inductive All2 {α β : Type} (p : α → β → Prop) : List α → List β → Prop
  | nil : All2 p [] []
  | cons {a b l l'} : p a b → All2 p l l' → All2 p (a :: l) (b :: l')
abbrev Bnd (V : Type) := Int × V
/-- What is asked of a test for equality, and the constants. -/
structure EqT (V : Type) where
  e : V → V → Bool
  c : Int → V
  sym : ∀ a b, e a b = true → e b a = true
  tr : ∀ a b d, e a b = true → e b d = true → e a d = true
section
variable {V : Type} (T : EqT V)
def stepB (g : List (Bnd V)) (x : Bnd V) : Option (List (Bnd V)) :=
  if x.1 < 0 then (if T.e x.2 (T.c x.1) = true then some g else none)
  else match mget g x.1 with
    | some u => if T.e x.2 u = true then some g else none
    | none => some (mput g x.1 x.2)
def runB : List (Bnd V) → List (Bnd V) → Option (List (Bnd V))
  | g, [] => some g
  | g, x :: l => match stepB T g x with
    | none => none
    | some g' => runB g' l
/-- Two bindings agree. -/
def agree (x y : Bnd V) : Prop := x.1 = y.1 → 0 ≤ x.1 → T.e x.2 y.2 = true
def okB (l : List (Bnd V)) : Prop := (∀ x ∈ l, x.1 < 0 → T.e x.2 (T.c x.1) = true) ∧ l.Pairwise (agree T)
def addB (g : List (Bnd V)) (x : Bnd V) : List (Bnd V) := if x.1 < 0 then g else if (mget g x.1).isSome = true then g else mput g x.1 x.2
def gOf (l : List (Bnd V)) : List (Bnd V) := l.foldl addB []
theorem gOf_snoc (l : List (Bnd V)) (x : Bnd V) : gOf (l ++ [x]) = addB (gOf l) x := by simp [gOf]
theorem agree_symm {x y : Bnd V} (h : agree T x y) : agree T y x := fun e h0 => T.sym _ _ (h e.symm (e ▸ h0))
theorem okB_perm {l l' : List (Bnd V)} (p : l.Perm l') (h : okB T l) : okB T l' :=
  ⟨fun x hx => h.1 x (p.symm.subset hx), (p.pairwise_iff (fun h => agree_symm T h)).1 h.2⟩
theorem okB_pre {l l' : List (Bnd V)} (h : okB T (l ++ l')) : okB T l :=
  ⟨fun x hx => h.1 x (List.mem_append_left _ hx), (List.pairwise_append.1 h.2).1⟩
theorem okB_nil : okB T ([] : List (Bnd V)) := ⟨fun x hx => (by cases hx), List.Pairwise.nil⟩
/-- What the values hold: the first binding of each variable. -/
theorem gOf_get (l : List (Bnd V)) {t : Int} (ht : 0 ≤ t) : mget (gOf l) t = (l.find? fun x => decide (x.1 = t)).map (·.2) := by
  have key : ∀ (n : Nat) (l : List (Bnd V)), l.length = n → mget (gOf l) t = (l.find? fun x => decide (x.1 = t)).map (·.2) := by
    intro n
    induction n with
    | zero => intro l hl; rw [List.length_eq_zero_iff.1 hl]; rfl
    | succ n ih =>
      intro l hl
      obtain ⟨l', x, rfl⟩ : ∃ l' x, l = l' ++ [x] := ⟨l.dropLast, l.getLast (by intro q; rw [q] at hl; simp at hl), (List.dropLast_concat_getLast _).symm⟩
      have ih := ih l' (by simpa using hl)
      rw [gOf_snoc, List.find?_append]
      unfold addB
      by_cases hx : x.1 = t
      · subst hx
        rw [if_neg (by omega)]
        cases hf : l'.find? (fun y => decide (y.1 = x.1)) with
        | none =>
          rw [hf] at ih
          have ih : mget (gOf l') x.1 = none := ih
          rw [ih]
          simp [mget_mput]
        | some y =>
          rw [hf] at ih
          have ih : mget (gOf l') x.1 = some y.2 := ih
          simp [ih]
      · have h1 : mget (if x.1 < 0 then gOf l' else if (mget (gOf l') x.1).isSome = true then gOf l' else mput (gOf l') x.1 x.2) t = mget (gOf l') t := by
          (repeat' split) <;> first | rfl | (rw [mget_mput, if_neg (fun q => hx q.symm)])
        rw [h1, ih]
        have h2 : List.find? (fun y : Bnd V => decide (y.1 = t)) [x] = none := by simp [hx]
        rw [h2]
        simp
  exact key _ l rfl
theorem find_first {l : List (Bnd V)} {p : Bnd V → Bool} {y : Bnd V} (h : l.find? p = some y) : p y = true ∧ ∃ ps0 bs, l = ps0 ++ y :: bs ∧ ∀ a ∈ ps0, p a = false := by
  rw [List.find?_eq_some_iff_append] at h
  obtain ⟨h1, ps0, bs, rfl, h2⟩ := h
  exact ⟨h1, ps0, bs, rfl, fun a ha => by have := h2 a ha; simpa using this⟩
theorem okB_snoc {l : List (Bnd V)} {x : Bnd V} : okB T (l ++ [x]) ↔ okB T l ∧ (x.1 < 0 → T.e x.2 (T.c x.1) = true) ∧ ∀ y ∈ l, agree T y x := by
  unfold okB
  rw [List.pairwise_append]
  constructor
  · rintro ⟨h1, h2, _, h3⟩
    exact ⟨⟨fun y hy => h1 y (by simp [hy]), h2⟩, h1 x (by simp), fun y hy => h3 y hy x (by simp)⟩
  · rintro ⟨⟨h1, h2⟩, h3, h4⟩
    refine ⟨fun y hy => ?_, h2, List.pairwise_singleton _ _, fun y hy z hz => ?_⟩
    · rcases List.mem_append.1 hy with hy | hy
      · exact h1 y hy
      · simp only [List.mem_singleton] at hy; subst hy; exact h3
    · simp only [List.mem_singleton] at hz; subst hz; exact h4 y hy
theorem stepB_ok {l : List (Bnd V)} (h : okB T l) (x : Bnd V) : (okB T (l ++ [x]) → stepB T (gOf l) x = some (gOf (l ++ [x]))) ∧ (¬ okB T (l ++ [x]) → stepB T (gOf l) x = none) := by
  rw [gOf_snoc, okB_snoc]
  unfold stepB addB
  by_cases hx : x.1 < 0
  · rw [if_pos hx, if_pos hx]
    constructor
    · rintro ⟨_, h1, _⟩; rw [if_pos (h1 hx)]
    · intro hn
      rw [if_neg]
      intro q
      exact hn ⟨h, fun _ => q, fun y hy e h0 => absurd (e ▸ h0) (by omega)⟩
  · rw [if_neg hx, if_neg hx, gOf_get l (show 0 ≤ x.1 by omega)]
    cases hf : l.find? (fun y => decide (y.1 = x.1)) with
    | none =>
      have hno : ∀ y ∈ l, y.1 ≠ x.1 := fun y hy e => by
        have := List.find?_eq_none.1 hf y hy
        simp [e] at this
      simp only [Option.map_none, Option.isSome_none]
      refine ⟨fun _ => by simp, fun hn => absurd ⟨h, fun q => absurd q hx, fun y hy e _ => absurd e (hno y hy)⟩ hn⟩
    | some y =>
      obtain ⟨hy1, ps0, bs, rfl, hy2⟩ := find_first hf
      have hyx : y.1 = x.1 := by simpa using hy1
      simp only [Option.map_some, Option.isSome_some, if_true]
      constructor
      · rintro ⟨_, _, h3⟩
        have := h3 y (by simp) hyx (by omega)
        rw [if_pos (T.sym _ _ this)]
      · intro hn
        rw [if_neg]
        intro q
        refine hn ⟨h, fun q => absurd q hx, fun z hz e h0 => ?_⟩
        rcases List.mem_append.1 hz with hz | hz
        · have := hy2 z hz
          simp [e] at this
        · rcases List.mem_cons.1 hz with rfl | hz
          · exact T.sym _ _ q
          · have hp := List.pairwise_append.1 h.2
            have := (List.pairwise_cons.1 hp.2.1).1 z hz (by omega) (by omega)
            exact T.sym _ _ (T.tr _ _ _ q this)
theorem runB_ok : ∀ (l' : List (Bnd V)) {l : List (Bnd V)}, okB T l → (okB T (l ++ l') → runB T (gOf l) l' = some (gOf (l ++ l'))) ∧ (¬ okB T (l ++ l') → runB T (gOf l) l' = none)
  | [], l, h => by simp [runB, h]
  | x :: l', l, h => by
    have e : l ++ x :: l' = (l ++ [x]) ++ l' := by simp
    rw [e]
    by_cases hx : okB T (l ++ [x])
    · have ih := runB_ok l' hx
      simp only [runB, (stepB_ok T h x).1 hx]
      exact ih
    · simp only [runB, (stepB_ok T h x).2 hx]
      refine ⟨fun q => absurd (okB_pre T q) hx, fun _ => trivial⟩
/-! Rounds: each takes one of some lists of bindings; or one group of them, all of which must do. -/
def certL : List (List (List (List (Bnd V)))) → List (Bnd V) → Bool
  | [], _ => true
  | bs :: r, g => bs.any fun b => b.all fun f => match runB T g f with | none => false | some g' => certL r g'
def holdL : List (List (List (Bnd V))) → List (Bnd V) → Bool
  | [], _ => true
  | c :: r, g => c.any fun f => match runB T g f with | none => false | some g' => holdL r g'
def CertP : List (List (List (List (Bnd V)))) → List (Bnd V) → Prop
  | [], _ => True
  | bs :: r, l => ∃ b ∈ bs, ∀ f ∈ b, okB T (l ++ f) ∧ CertP r (l ++ f)
def HoldP : List (List (List (Bnd V))) → List (Bnd V) → Prop
  | [], _ => True
  | c :: r, l => ∃ f ∈ c, okB T (l ++ f) ∧ HoldP r (l ++ f)
theorem certL_iff : ∀ (r : List (List (List (List (Bnd V))))) {l : List (Bnd V)}, okB T l → (certL T r (gOf l) = true ↔ CertP T r l)
  | [], _, _ => by simp [certL, CertP]
  | bs :: r, l, h => by
    simp only [certL, CertP, List.any_eq_true, List.all_eq_true]
    refine exists_congr fun b => and_congr Iff.rfl (forall_congr' fun f => imp_congr Iff.rfl ?_)
    by_cases q : okB T (l ++ f)
    · rw [(runB_ok T f h).1 q]
      simp only [q, true_and]
      exact certL_iff r q
    · rw [(runB_ok T f h).2 q]
      simp [q]
theorem holdL_iff : ∀ (r : List (List (List (Bnd V)))) {l : List (Bnd V)}, okB T l → (holdL T r (gOf l) = true ↔ HoldP T r l)
  | [], _, _ => by simp [holdL, HoldP]
  | c :: r, l, h => by
    simp only [holdL, HoldP, List.any_eq_true]
    refine exists_congr fun f => and_congr Iff.rfl ?_
    by_cases q : okB T (l ++ f)
    · rw [(runB_ok T f h).1 q]
      simp only [q, true_and]
      exact holdL_iff r q
    · rw [(runB_ok T f h).2 q]
      simp [q]
/-- A choice: one of each. -/
def Pick {α : Type} : List (List α) → List α → Prop
  | [], [] => True
  | c :: r, f :: fs => f ∈ c ∧ Pick r fs
  | _, _ => False
theorem HoldP_iff : ∀ (r : List (List (List (Bnd V)))) {l : List (Bnd V)}, okB T l → (HoldP T r l ↔ ∃ fs, Pick r fs ∧ okB T (l ++ fs.flatten))
  | [], l, h => by
    refine ⟨fun _ => ⟨[], trivial, by simpa using h⟩, fun _ => trivial⟩
  | c :: r, l, h => by
    constructor
    · rintro ⟨f, hf, h1, h2⟩
      obtain ⟨fs, p, h3⟩ := (HoldP_iff r h1).1 h2
      exact ⟨f :: fs, ⟨hf, p⟩, by simpa using h3⟩
    · rintro ⟨fs, p, h3⟩
      match fs, p with
      | f :: fs, ⟨hf, p⟩ =>
        have h4 : okB T ((l ++ f) ++ fs.flatten) := by simpa using h3
        have h5 := okB_pre T h4
        exact ⟨f, hf, h5, (HoldP_iff r h5).2 ⟨fs, p, h4⟩⟩
theorem Pick.perm {α : Type} : ∀ {r r' : List (List α)}, r.Perm r' → ∀ {fs}, Pick r fs → ∃ fs', Pick r' fs' ∧ fs.Perm fs' := by
  intro r r' p
  induction p with
  | nil => intro fs h; exact ⟨fs, h, .refl _⟩
  | cons c p ih =>
    intro fs h
    match fs, h with
    | f :: fs, ⟨hf, h⟩ =>
      obtain ⟨fs', h', q⟩ := ih h
      exact ⟨f :: fs', ⟨hf, h'⟩, q.cons _⟩
  | swap c c' r =>
    intro fs h
    match fs, h with
    | f :: f' :: fs, ⟨hf, hf', h⟩ => exact ⟨f' :: f :: fs, ⟨hf', hf, h⟩, .swap _ _ _⟩
  | trans p q ih1 ih2 =>
    intro fs h
    obtain ⟨fs1, h1, p1⟩ := ih1 h
    obtain ⟨fs2, h2, p2⟩ := ih2 h1
    exact ⟨fs2, h2, p1.trans p2⟩
theorem HoldP_perm {r r' : List (List (List (Bnd V)))} (p : r.Perm r') (h : HoldP T r []) : HoldP T r' [] := by
  obtain ⟨fs, h1, h2⟩ := (HoldP_iff T r (okB_nil T)).1 h
  obtain ⟨fs', h3, q⟩ := h1.perm p
  exact (HoldP_iff T r' (okB_nil T)).2 ⟨fs', h3, okB_perm T (by simpa using List.Perm.flatten q) h2⟩
theorem HoldP_mono : ∀ {r r' : List (List (List (Bnd V)))}, All2 (fun c c' => ∀ f ∈ c, f ∈ c') r r' → ∀ {l}, HoldP T r l → HoldP T r' l
  | _, _, .nil, _, _ => trivial
  | _, _, .cons h1 h2, _, ⟨f, hf, h3, h4⟩ => ⟨f, h1 f hf, h3, HoldP_mono h2 h4⟩
/-- Soundness: whatever meets each group. -/
theorem Cert_hold : ∀ {r : List (List (List (List (Bnd V))))} {c : List (List (List (Bnd V)))}, All2 (fun bs c => ∀ b ∈ bs, ∃ f ∈ b, f ∈ c) r c → ∀ {l}, CertP T r l → HoldP T c l
  | _, _, .nil, _, _ => trivial
  | _, _, .cons h1 h2, _, ⟨b, hb, h3⟩ => by
    obtain ⟨f, hf, hc⟩ := h1 b hb
    exact ⟨f, hc, (h3 f hf).1, Cert_hold h2 (h3 f hf).2⟩
end
open Go Go.Proofs
theorem bytesOf_rng (s : ByteArray) : ∀ x ∈ bytesOf s, 0 ≤ x ∧ x < 256 := by
  intro x hx
  unfold bytesOf at hx
  obtain ⟨b, _, rfl⟩ := List.mem_map.1 hx
  have := b.toNat_lt
  omega
def escU (c : Int) : List Int := if c = 34 then [92, 34] else if c = 92 then [92, 92] else if c = 10 then [92, 110] else [c]
def escL (l : List Int) : List Int := l.flatMap escU
theorem escL_cons (c : Int) (l : List Int) : escL (c :: l) = escU c ++ escL l := by simp [escL]
theorem escL_append (a b : List Int) : escL (a ++ b) = escL a ++ escL b := by simp [escL]
theorem escU_ne (c : Int) (t : List Int) : ∀ {u}, escU c ++ t ≠ 34 :: u := by
  intro u h
  unfold escU at h
  by_cases h1 : c = 34
  · rw [if_pos h1] at h; simp at h
  · rw [if_neg h1] at h
    by_cases h2 : c = 92
    · rw [if_pos h2] at h; simp at h
    · rw [if_neg h2] at h
      by_cases h3 : c = 10
      · rw [if_pos h3] at h; simp at h
      · rw [if_neg h3] at h; simp at h; exact h1 h.1
theorem escU_inj {c d : Int} {t u : List Int} (h : escU c ++ t = escU d ++ u) : c = d ∧ t = u := by
  unfold escU at h
  (repeat' split at h) <;> simp only [List.cons_append, List.nil_append, List.cons.injEq] at h <;> first | exact ⟨by omega, h.2.2⟩ | exact ⟨by omega, h.2⟩ | (exfalso; omega)
theorem esc_cut : ∀ {x y t t' : List Int}, escL x ++ 34 :: t = escL y ++ 34 :: t' → x = y ∧ t = t'
  | [], [], t, t', h => by simp [escL] at h; exact ⟨rfl, h⟩
  | [], d :: y, t, t', h => by
    rw [escL_cons, List.append_assoc] at h
    exact absurd h.symm (escU_ne d _)
  | c :: x, [], t, t', h => by
    rw [escL_cons, List.append_assoc] at h
    exact absurd h (escU_ne c _)
  | c :: x, d :: y, t, t', h => by
    rw [escL_cons, escL_cons, List.append_assoc, List.append_assoc] at h
    obtain ⟨rfl, h2⟩ := escU_inj h
    obtain ⟨rfl, h3⟩ := esc_cut h2
    exact ⟨rfl, h3⟩
theorem cut_at {z : Int} : ∀ {x y t t' : List Int}, z ∉ x → z ∉ y → x ++ z :: t = y ++ z :: t' → x = y ∧ t = t'
  | [], [], t, t', _, _, h => by simp at h; exact ⟨rfl, h⟩
  | [], d :: y, t, t', _, hy, h => by simp at h; simp at hy; exact absurd h.1 hy.1
  | c :: x, [], t, t', hx, _, h => by simp at h; simp at hx; exact absurd h.1.symm hx.1
  | c :: x, d :: y, t, t', hx, hy, h => by
    simp at h hx hy
    obtain ⟨rfl, h3⟩ := cut_at hx.2 hy.2 h.2
    exact ⟨by rw [h.1], h3⟩
/-- The number that digits say. -/
def digV (l : List UInt8) : Nat := l.foldl (fun a c => a * 10 + (c.toNat - 48)) 0
theorem digV_dec (n : Nat) : digV (Lib.decDigits n) = n := by
  induction n using Nat.strongRecOn with
  | _ n ih =>
    rw [Lib.decDigits]
    split
    · rename_i h
      simp only [digV, List.foldl_cons, List.foldl_nil]
      rw [UInt8.toNat_ofNat']
      omega
    · rename_i h
      have := ih (n / 10) (by omega)
      unfold digV at *
      rw [List.foldl_append, this]
      simp only [List.foldl_cons, List.foldl_nil]
      rw [UInt8.toNat_ofNat']
      omega
theorem dec_inj {a b : Nat} (h : Lib.decDigits a = Lib.decDigits b) : a = b := by rw [← digV_dec a, h, digV_dec]
theorem dec_rng (n : Nat) : (∀ c ∈ Lib.decDigits n, 48 ≤ c.toNat ∧ c.toNat ≤ 57) ∧ Lib.decDigits n ≠ [] := by
  induction n using Nat.strongRecOn with
  | _ n ih =>
    rw [Lib.decDigits]
    split
    · rename_i h
      refine ⟨fun c hc => ?_, by simp⟩
      simp only [List.mem_singleton] at hc
      subst hc
      rw [UInt8.toNat_ofNat']; omega
    · rename_i h
      refine ⟨fun c hc => ?_, by simp⟩
      rcases List.mem_append.1 hc with hc | hc
      · exact (ih (n / 10) (by omega)).1 c hc
      · simp only [List.mem_singleton] at hc
        subst hc
        rw [UInt8.toNat_ofNat']; omega
end Lg
namespace Lg
theorem nodup_len {α : Type} [DecidableEq α] : ∀ {l U : List α}, l.Nodup → (∀ x ∈ l, x ∈ U) → l.length ≤ U.length
  | [], _, _, _ => Nat.zero_le _
  | x :: l, U, hd, hs => by
    have hx := hs x (by simp)
    have h1 : (U.erase x).length + 1 = U.length := by
      have := List.length_erase_of_mem hx
      have := List.length_pos_of_mem hx
      omega
    have hd := List.nodup_cons.1 hd
    have := nodup_len (U := U.erase x) hd.2 (fun y hy => (List.mem_erase_of_ne (fun e => hd.1 (by rw [← e]; exact hy))).2 (hs y (by simp [hy])))
    simp; omega
section
variable (rec : Nat → List Int → Bool × List Int)
/-- Through the arrows of a vertex. -/
def cycRow : List (Nat × Bool) → List Int → Bool × List Int
  | [], st => (false, st)
  | (g, is) :: r, st => if is = true then (if (rec g st).1 = true then (true, (rec g st).2) else cycRow r (rec g st).2) else cycRow r st
end
def enumL {α : Type} : List α → Nat → List (Nat × α)
  | [], _ => []
  | x :: l, i => (i, x) :: enumL l (i + 1)
section
variable (l : List (List Bool))
def cyc : Nat → Nat → List Int → Bool × List Int
  | 0, _, st => (true, st)
  | n + 1, f, st => if nth st f ≠ 0 then (decide (nth st f = 1), st) else
    if (cycRow (cyc n) (enumL (nth l f) 0) (st.set f 1)).1 = true then (true, (cycRow (cyc n) (enumL (nth l f) 0) (st.set f 1)).2)
    else (false, (cycRow (cyc n) (enumL (nth l f) 0) (st.set f 1)).2.set f 2)
/-- From each vertex. -/
def cycAll : Nat → List Nat → List Int → Bool × List Int
  | _, [], st => (false, st)
  | n, f :: r, st => if (cyc l n f st).1 = true then (true, (cyc l n f st).2) else cycAll n r (cyc l n f st).2
def ed (f g : Nat) : Prop := (g, true) ∈ enumL (nth l f) 0
/-- Each arrow points to what was before. -/
def Topo (fin : List Nat) : Prop := ∀ pre v post, fin = pre ++ v :: post → ∀ g, ed l v g → g ∈ pre
def zeros (st : List Int) : Nat := st.count 0
structure Fits (st : List Int) (fin : List Nat) : Prop where
  two : ∀ v, nth st v = 2 ↔ v ∈ fin
  topo : Topo l fin
  dom : ∀ v, nth st v = 0 ∨ nth st v = 1 ∨ nth st v = 2
theorem nth_st : ∀ (st : List Int) (f v : Nat) (x : Int) (hf : f < st.length), nth (st.set f x) v = if v = f then x else nth st v
  | a :: st, 0, 0, x, _ => rfl
  | a :: st, 0, v + 1, x, _ => rfl
  | a :: st, f + 1, 0, x, _ => rfl
  | a :: st, f + 1, v + 1, x, h => by
    have := nth_st st f v x (by simpa using h)
    simp only [List.set_cons_succ, nth, Nat.add_right_cancel_iff]
    exact this
theorem Topo.snoc {fin : List Nat} {f : Nat} (h : Topo l fin) (hg : ∀ g, ed l f g → g ∈ fin) : Topo l (fin ++ [f]) := by
  intro pre v post e g hv
  rcases List.eq_nil_or_concat post with rfl | ⟨post', z, rfl⟩
  · have : fin = pre ∧ [f] = [v] := List.append_inj' (by simpa using e) rfl
    obtain ⟨rfl, h2⟩ := this
    injection h2 with h2; subst h2
    exact hg g hv
  · have e' : fin ++ [f] = (pre ++ v :: post') ++ [z] := by rw [e]; simp
    obtain ⟨h1, h2⟩ := List.append_inj' e' rfl
    exact h pre v post' h1 g hv
theorem cyc_false : ∀ (n f : Nat) (st : List Int) (fin : List Nat), Fits l st fin → f < st.length → (∀ v g, ed l v g → g < st.length) → (cyc l n f st).1 = false →
    (cyc l n f st).2.length = st.length ∧ ∃ ext, Fits l (cyc l n f st).2 (fin ++ ext) ∧ f ∈ fin ++ ext ∧ ∀ v, nth st v = 1 ↔ nth (cyc l n f st).2 v = 1 := by
  intro n
  induction n with
  | zero => intro f st fin _ _ _ h; simp [cyc] at h
  | succ n ih =>
    intro f st fin F hf hr h
    by_cases h0 : nth st f = 0
    · have hrow : ∀ (r : List (Nat × Bool)) (st : List Int) (fin : List Nat), Fits l st fin → (∀ p ∈ r, p.2 = true → p.1 < st.length) → (∀ v g, ed l v g → g < st.length) → (cycRow (cyc l n) r st).1 = false →
          (cycRow (cyc l n) r st).2.length = st.length ∧ ∃ ext, Fits l (cycRow (cyc l n) r st).2 (fin ++ ext) ∧ (∀ g, (g, true) ∈ r → g ∈ fin ++ ext) ∧ ∀ v, nth st v = 1 ↔ nth (cycRow (cyc l n) r st).2 v = 1 := by
        intro r
        induction r with
        | nil => intro st fin F _ _ _; exact ⟨rfl, [], by simpa [cycRow] using F, by simp, fun v => Iff.rfl⟩
        | cons p r ihr =>
          obtain ⟨g, is⟩ := p
          intro st fin F hp hr h
          simp only [cycRow] at h ⊢
          by_cases hi : is = true
          · simp only [hi, if_true] at h ⊢
            by_cases hc : (cyc l n g st).1 = true
            · rw [if_pos hc] at h; cases h
            · rw [if_neg hc] at h ⊢
              obtain ⟨l1, e1, F1, m1, o1⟩ := ih g st fin F (hp (g, is) (by simp) hi) hr (by simpa using hc)
              obtain ⟨l2, e2, F2, m2, o2⟩ := ihr _ _ F1 (fun p hq => by rw [l1]; exact hp p (by simp [hq])) (fun v g hv => by rw [l1]; exact hr v g hv) h
              refine ⟨l2.trans l1, e1 ++ e2, by rw [← List.append_assoc]; exact F2, fun g' hg' => ?_, fun v => (o1 v).trans (o2 v)⟩
              rw [← List.append_assoc]
              rcases List.mem_cons.1 hg' with e | hg'
              · injection e with e _; subst e; exact List.mem_append_left _ m1
              · exact m2 g' hg'
          · simp only [hi, if_false] at h ⊢
            obtain ⟨l2, e2, F2, m2, o2⟩ := ihr st fin F (fun p hq => hp p (by simp [hq])) hr h
            refine ⟨l2, e2, F2, fun g' hg' => ?_, o2⟩
            rcases List.mem_cons.1 hg' with e | hg'
            · simp only [Prod.mk.injEq] at e; exact absurd e.2.symm (by simp_all)
            · exact m2 g' hg'
      simp only [cyc] at h ⊢
      rw [if_neg (by simpa using h0)] at h ⊢
      by_cases hc : (cycRow (cyc l n) (enumL (nth l f) 0) (st.set f 1)).1 = true
      · rw [if_pos hc] at h; cases h
      · rw [if_neg hc] at h ⊢
        have hnf : f ∉ fin := fun q => by have := (F.two f).2 q; omega
        have F0 : Fits l (st.set f 1) fin := ⟨fun v => by
          rw [nth_st st f v 1 hf]
          split
          · rename_i e; subst e; simp [hnf]
          · exact F.two v, F.topo, fun v => by
          rw [nth_st st f v 1 hf]
          split
          · simp
          · exact F.dom v⟩
        have hp : ∀ p ∈ enumL (nth l f) 0, p.2 = true → p.1 < (st.set f 1).length := fun p hp e => by
          rw [List.length_set]; exact hr f p.1 (by obtain ⟨a, b⟩ := p; have e : b = true := e; subst e; exact hp)
        obtain ⟨l2, ext, F2, m2, o2⟩ := hrow _ _ _ F0 hp (fun v g hv => by rw [List.length_set]; exact hr v g hv) (by simpa using hc)
        generalize (cycRow (cyc l n) (enumL (nth l f) 0) (st.set f 1)).2 = st2 at l2 F2 o2 ⊢
        rw [List.length_set] at l2
        have hf2 : f < st2.length := by omega
        have h1 : nth st2 f = 1 := (o2 f).1 (by rw [nth_st st f f 1 hf, if_pos rfl])
        have hnf2 : f ∉ fin ++ ext := fun q => by have := (F2.two f).2 q; omega
        refine ⟨by rw [List.length_set]; exact l2, ext ++ [f], ⟨fun v => ?_, ?_, fun v => ?_⟩, by simp, fun v => ?_⟩
        · rw [nth_st st2 f v 2 hf2, ← List.append_assoc]
          split
          · rename_i e; subst e; simp
          · rename_i e
            rw [F2.two v, List.mem_append (t := [f])]
            simp [e]
        · rw [← List.append_assoc]
          exact F2.topo.snoc l (fun g hg => m2 g hg)
        · rw [nth_st st2 f v 2 hf2]
          split
          · simp
          · exact F2.dom v
        · rw [nth_st st2 f v 2 hf2]
          split
          · rename_i e; subst e; omega
          · rename_i e
            rw [← o2 v, nth_st st f v 1 hf, if_neg e]
    · simp only [cyc] at h ⊢
      rw [if_pos h0] at h ⊢
      have h1 : ¬ nth st f = 1 := by simpa using h
      refine ⟨rfl, [], by simpa using F, ?_, fun v => Iff.rfl⟩
      rw [List.append_nil]
      exact (F.two f).1 ((F.dom f).resolve_left h0 |>.resolve_left h1)
theorem cycAll_false : ∀ (n : Nat) (r : List Nat) (st : List Int) (fin : List Nat), Fits l st fin → (∀ f ∈ r, f < st.length) → (∀ v g, ed l v g → g < st.length) → (cycAll l n r st).1 = false → ∃ ext, Topo l (fin ++ ext) ∧ ∀ f ∈ r, f ∈ fin ++ ext
  | n, [], st, fin, F, _, _, _ => ⟨[], by simpa using F.topo, by simp⟩
  | n, f :: r, st, fin, F, hf, hr, h => by
    simp only [cycAll] at h
    by_cases hc : (cyc l n f st).1 = true
    · rw [if_pos hc] at h; cases h
    · rw [if_neg hc] at h
      obtain ⟨l1, e1, F1, m1, o1⟩ := cyc_false l n f st fin F (hf f (by simp)) hr (by simpa using hc)
      obtain ⟨e2, t2, m2⟩ := cycAll_false n r _ _ F1 (fun f' h' => by rw [l1]; exact hf f' (by simp [h'])) (fun v g hv => by rw [l1]; exact hr v g hv) h
      refine ⟨e1 ++ e2, by rw [← List.append_assoc]; exact t2, fun f' h' => ?_⟩
      rw [← List.append_assoc]
      rcases List.mem_cons.1 h' with rfl | h'
      · exact List.mem_append_left _ m1
      · exact m2 f' h'
/-- Reached by arrows. -/
inductive Rch : Nat → Nat → Prop
  | refl (v : Nat) : Rch v v
  | step {u v w : Nat} : ed l u v → Rch v w → Rch u w
def Cycle : Prop := ∃ u v, ed l u v ∧ Rch l v u
theorem zeros_set {st : List Int} {f : Nat} {x : Int} (hf : f < st.length) (h0 : nth st f = 0) (hx : x ≠ 0) : zeros (st.set f x) + 1 = zeros st := by
  induction st generalizing f with
  | nil => simp at hf
  | cons a st ih =>
    match f with
    | 0 =>
      have h0 : a = 0 := h0
      subst h0
      simp only [zeros, List.set_cons_zero, List.count_cons]
      simp [hx]
    | f + 1 =>
      have := ih (f := f) (by simpa using hf) h0
      simp only [zeros, List.set_cons_succ, List.count_cons] at this ⊢
      omega
theorem zeros_set2 {st : List Int} {f : Nat} {x : Int} (hx : x ≠ 0) : zeros (st.set f x) ≤ zeros st := by
  induction st generalizing f with
  | nil => simp [zeros]
  | cons a st ih =>
    match f with
    | 0 =>
      simp only [zeros, List.set_cons_zero, List.count_cons]
      simp [hx]
    | f + 1 =>
      have := ih (f := f)
      simp only [zeros, List.set_cons_succ, List.count_cons] at this ⊢
      omega
theorem cycRow_zeros {rec : Nat → List Int → Bool × List Int} (hr : ∀ g st, zeros (rec g st).2 ≤ zeros st ∧ (rec g st).2.length = st.length) : ∀ (r : List (Nat × Bool)) (st : List Int), zeros (cycRow rec r st).2 ≤ zeros st ∧ (cycRow rec r st).2.length = st.length
  | [], st => ⟨Nat.le_refl _, rfl⟩
  | (g, is) :: r, st => by
    simp only [cycRow]
    have h1 := hr g st
    have h2 := cycRow_zeros hr r (rec g st).2
    split
    · split
      · exact h1
      · exact ⟨by omega, by omega⟩
    · exact cycRow_zeros hr r st
theorem cyc_zeros : ∀ (n f : Nat) (st : List Int), zeros (cyc l n f st).2 ≤ zeros st ∧ (cyc l n f st).2.length = st.length
  | 0, f, st => ⟨Nat.le_refl _, rfl⟩
  | n + 1, f, st => by
    have h2 := cycRow_zeros (cyc_zeros n) (enumL (nth l f) 0) (st.set f 1)
    have h3 := zeros_set2 (st := st) (f := f) (x := 1) (by decide)
    have h4 := zeros_set2 (st := (cycRow (cyc l n) (enumL (nth l f) 0) (st.set f 1)).2) (f := f) (x := 2) (by decide)
    have h5 : (st.set f 1).length = st.length := List.length_set
    simp only [cyc]
    split
    · exact ⟨Nat.le_refl _, rfl⟩
    · split
      · exact ⟨by show zeros (cycRow (cyc l n) (enumL (nth l f) 0) (st.set f 1)).2 ≤ _; omega, by show (cycRow (cyc l n) (enumL (nth l f) 0) (st.set f 1)).2.length = _; omega⟩
      · exact ⟨by simp only; omega, by rw [List.length_set]; omega⟩
/-- What a positive answer tells. -/
theorem cyc_true : ∀ (n f : Nat) (st : List Int) (fin : List Nat), Fits l st fin → f < st.length → (∀ v g, ed l v g → g < st.length) → zeros st < n → (cyc l n f st).1 = true → Cycle l ∨ ∃ v, nth st v = 1 ∧ Rch l f v := by
  intro n
  induction n with
  | zero => intro f st fin _ _ _ hz; omega
  | succ n ih =>
    intro f st fin F hf hr hz h
    by_cases h0 : nth st f = 0
    · have hrow : ∀ (r : List (Nat × Bool)) (st : List Int) (fin : List Nat), Fits l st fin → (∀ p ∈ r, p.2 = true → p.1 < st.length) → (∀ v g, ed l v g → g < st.length) → zeros st < n → (cycRow (cyc l n) r st).1 = true →
          Cycle l ∨ ∃ g v, (g, true) ∈ r ∧ nth st v = 1 ∧ Rch l g v := by
        intro r
        induction r with
        | nil => intro st fin F _ _ _ h; simp [cycRow] at h
        | cons p r ihr =>
          obtain ⟨g, is⟩ := p
          intro st fin F hp hr hz h
          simp only [cycRow] at h
          by_cases hi : is = true
          · subst hi
            simp only [if_true] at h
            by_cases hc : (cyc l n g st).1 = true
            · rcases ih g st fin F (hp (g, true) (by simp) rfl) hr hz hc with h1 | ⟨v, h1, h2⟩
              · exact .inl h1
              · exact .inr ⟨g, v, by simp, h1, h2⟩
            · rw [if_neg hc] at h
              obtain ⟨l1, e1, F1, m1, o1⟩ := cyc_false l n g st fin F (hp (g, true) (by simp) rfl) hr (by simpa using hc)
              rcases ihr _ _ F1 (fun p hq => by rw [l1]; exact hp p (by simp [hq])) (fun v g hv => by rw [l1]; exact hr v g hv) (Nat.lt_of_le_of_lt (cyc_zeros l n g st).1 hz) h with h1 | ⟨g', v, h1, h2, h3⟩
              · exact .inl h1
              · exact .inr ⟨g', v, by simp [h1], (o1 v).2 h2, h3⟩
          · rw [if_neg hi] at h
            rcases ihr _ _ F (fun p hq => hp p (by simp [hq])) hr hz h with h1 | ⟨g', v, h1, h2, h3⟩
            · exact .inl h1
            · exact .inr ⟨g', v, by simp [h1], h2, h3⟩
      simp only [cyc] at h
      rw [if_neg (by simpa using h0)] at h
      by_cases hc : (cycRow (cyc l n) (enumL (nth l f) 0) (st.set f 1)).1 = true
      · have hnf : f ∉ fin := fun q => by have := (F.two f).2 q; omega
        have F0 : Fits l (st.set f 1) fin := ⟨fun v => by
          rw [nth_st st f v 1 hf]
          split
          · rename_i e; subst e; simp [hnf]
          · exact F.two v, F.topo, fun v => by
          rw [nth_st st f v 1 hf]
          split
          · simp
          · exact F.dom v⟩
        have hp : ∀ p ∈ enumL (nth l f) 0, p.2 = true → p.1 < (st.set f 1).length := fun p hp e => by
          rw [List.length_set]; exact hr f p.1 (by obtain ⟨a, b⟩ := p; have e : b = true := e; subst e; exact hp)
        have hzz := zeros_set (x := 1) hf h0 (by decide)
        rcases hrow _ _ _ F0 hp (fun v g hv => by rw [List.length_set]; exact hr v g hv) (by omega) hc with h1 | ⟨g, v, h1, h2, h3⟩
        · exact .inl h1
        · rw [nth_st st f v 1 hf] at h2
          by_cases e : v = f
          · subst e; exact .inl ⟨v, g, h1, h3⟩
          · rw [if_neg e] at h2
            exact .inr ⟨v, h2, .step h1 h3⟩
      · rw [if_neg hc] at h; cases h
    · simp only [cyc] at h
      rw [if_pos h0] at h
      exact .inr ⟨f, by simpa using h, .refl _⟩
theorem cycAll_true : ∀ (n : Nat) (r : List Nat) (st : List Int) (fin : List Nat), Fits l st fin → (∀ f ∈ r, f < st.length) → (∀ v g, ed l v g → g < st.length) → zeros st < n → (∀ v, nth st v ≠ 1) → (cycAll l n r st).1 = true → Cycle l
  | n, [], st, fin, F, _, _, _, _, h => by simp [cycAll] at h
  | n, f :: r, st, fin, F, hf, hr, hz, h1, h => by
    simp only [cycAll] at h
    by_cases hc : (cyc l n f st).1 = true
    · rcases cyc_true l n f st fin F (hf f (by simp)) hr hz hc with h2 | ⟨v, h2, _⟩
      · exact h2
      · exact absurd h2 (h1 v)
    · rw [if_neg hc] at h
      obtain ⟨l1, e1, F1, m1, o1⟩ := cyc_false l n f st fin F (hf f (by simp)) hr (by simpa using hc)
      exact cycAll_true n r _ _ F1 (fun f' h' => by rw [l1]; exact hf f' (by simp [h'])) (fun v g hv => by rw [l1]; exact hr v g hv) (Nat.lt_of_le_of_lt (cyc_zeros l n f st).1 hz) (fun v e => h1 v ((o1 v).2 e)) h
end
end Lg
namespace Lg
theorem filter_lt {α : Type} {p q : α → Bool} : ∀ {l : List α}, (∀ x ∈ l, q x = true → p x = true) → ∀ {x}, x ∈ l → p x = true → q x = false → (l.filter q).length < (l.filter p).length
  | [], _, x, hx, _, _ => by cases hx
  | a :: l, h, x, hx, hp, hq => by
    have hle : (l.filter q).length ≤ (l.filter p).length := by
      clear hx
      induction l with
      | nil => simp
      | cons c l ih =>
        have ih := ih (fun x hx => h x (by rcases List.mem_cons.1 hx with rfl | hx <;> simp [*]))
        have hc := h c (by simp)
        cases h1 : q c
        · cases h2 : p c <;> simp [List.filter_cons, h1, h2] <;> omega
        · simp [List.filter_cons, h1, hc h1]; omega
    have ha := h a (by simp)
    rcases List.mem_cons.1 hx with rfl | hx
    · simp [List.filter_cons, hp, hq]; omega
    · have ih := filter_lt (fun x hx => h x (by simp [hx])) hx hp hq
      cases h1 : q a
      · cases h2 : p a <;> simp [List.filter_cons, h1, h2] <;> omega
      · simp [List.filter_cons, h1, ha h1]; omega
theorem exists_min {α : Type} (f : α → Nat) (P : α → Prop) : (∃ a, P a) → ∃ a, P a ∧ ∀ b, P b → f a ≤ f b := by
  rintro ⟨a, ha⟩
  have : ∀ n a, f a = n → P a → ∃ a, P a ∧ ∀ b, P b → f a ≤ f b := by
    intro n
    induction n using Nat.strongRecOn with
    | ind n ih =>
      intro a e h
      by_cases q : ∃ b, P b ∧ f b < f a
      · obtain ⟨b, hb, hl⟩ := q
        exact ih (f b) (by omega) b rfl hb
      · refine ⟨a, h, fun b hb => Nat.le_of_not_lt fun hl => q ⟨b, hb, hl⟩⟩
  exact this _ a rfl ha
/-- Atoms: their number, terms, number of terms of the key; what a fact binds. -/
structure Qy (V Φ : Type) where
  n : Nat
  tm : Nat → List Int
  kp : Nat → Nat
  b : Nat → Φ → List (Bnd V)
section
variable {V Φ : Type} (T : EqT V) (Q : Qy V Φ)
/-- What the key of an atom gives without that atom. -/
inductive Cl (G : Nat) : Int → Prop
  | base {t : Int} : t ∈ (Q.tm G).take (Q.kp G) → Cl G t
  | step {H : Nat} {t : Int} : H < Q.n → H ≠ G → (∀ t' ∈ (Q.tm H).take (Q.kp H), 0 ≤ t' → Cl G t') → t ∈ Q.tm H → Cl G t
/-- What an atom reaches. -/
inductive Rc (G : Nat) : Nat → Prop
  | refl : Rc G G
  | step {H K : Nat} {t : Int} : Rc G H → H < Q.n → K < Q.n → t ∈ Q.tm H → t ∈ Q.tm K → 0 ≤ t → ¬ Cl Q G t → Rc G K
def key (i : Nat) (f : Φ) : List V := ((Q.b i f).map (·.2)).take (Q.kp i)
def okP (p : Nat → Φ) : Prop := (∀ i, i < Q.n → ∀ x ∈ Q.b i (p i), x.1 < 0 → T.e x.2 (T.c x.1) = true) ∧
  ∀ (i j k m : Nat), i < Q.n → j < Q.n → (i, k) ≠ (j, m) → ∀ (x y : Bnd V), (Q.b i (p i))[k]? = some x → (Q.b j (p j))[m]? = some y → x.1 = y.1 → 0 ≤ x.1 → T.e x.2 y.2 = true
/-- A choice: one of each group. -/
def Ch (S : Nat → List Φ) (c : Nat → List V → Φ) : Prop := ∀ i, i < Q.n → ∀ f ∈ S i, c i (key Q i f) ∈ S i ∧ key Q i (c i (key Q i f)) = key Q i f
def Pk (S : Nat → List Φ) (c : Nat → List V → Φ) (p : Nat → Φ) : Prop := ∀ i, i < Q.n → p i ∈ S i ∧ c i (key Q i (p i)) = p i
variable (he : ∀ a b, T.e a b = true → a = b) (hb : ∀ i f, (Q.b i f).map (·.1) = Q.tm i)
variable {T Q}
theorem e_refl {a b : V} (h : T.e a b = true) : T.e a a = true := T.tr _ _ _ h (T.sym _ _ h)
include hb in
theorem at_tm {i k : Nat} {f : Φ} {t : Int} (h : (Q.tm i)[k]? = some t) : ∃ v, (Q.b i f)[k]? = some (t, v) := by
  rw [← hb i f, List.getElem?_map] at h
  cases h2 : (Q.b i f)[k]? with
  | none => rw [h2] at h; simp at h
  | some x => rw [h2] at h; obtain ⟨a, b⟩ := x; simp at h; subst h; exact ⟨b, rfl⟩
include hb in
theorem tm_at {i k : Nat} {f : Φ} {x : Bnd V} (h : (Q.b i f)[k]? = some x) : (Q.tm i)[k]? = some x.1 := by
  rw [← hb i f, List.getElem?_map, h]; rfl
include he in
theorem okP_eq {p : Nat → Φ} (ok : okP T Q p) {i j k m : Nat} (hi : i < Q.n) (hj : j < Q.n) {x y : Bnd V} (hx : (Q.b i (p i))[k]? = some x) (hy : (Q.b j (p j))[m]? = some y) (e : x.1 = y.1) (h0 : 0 ≤ x.1) : x.2 = y.2 := by
  by_cases h : (i, k) = (j, m)
  · injection h with h1 h2; subst h1; subst h2
    rw [hx] at hy; injection hy with hy; rw [hy]
  · exact he _ _ (ok.2 i j k m hi hj h x y hx hy e h0)
include he hb in
/-- Along what the key of G gives, both agree. -/
theorem cl_agree {S : Nat → List Φ} {c c' : Nat → List V → Φ} {μ ν : Nat → Φ} {G : Nat} (hG : G < Q.n) (om : okP T Q μ) (on : okP T Q ν) (pm : Pk Q S c μ) (pn : Pk Q S c' ν) (hc : ∀ H, H ≠ G → c' H = c H) (hk : key Q G (μ G) = key Q G (ν G)) {t : Int} (h : Cl Q G t) (h0 : 0 ≤ t) :
    ∀ (i j k m : Nat), i < Q.n → j < Q.n → ∀ (x y : Bnd V), (Q.b i (μ i))[k]? = some x → (Q.b j (ν j))[m]? = some y → x.1 = t → y.1 = t → x.2 = y.2 := by
  have spread : ∀ {t : Int}, 0 ≤ t → ∀ (i0 k0 : Nat) (x0 y0 : Bnd V), i0 < Q.n → (Q.b i0 (μ i0))[k0]? = some x0 → (Q.b i0 (ν i0))[k0]? = some y0 → x0.1 = t → x0.2 = y0.2 →
      ∀ (i j k m : Nat), i < Q.n → j < Q.n → ∀ (x y : Bnd V), (Q.b i (μ i))[k]? = some x → (Q.b j (ν j))[m]? = some y → x.1 = t → y.1 = t → x.2 = y.2 := by
    intro t h0 i0 k0 x0 y0 hi0 hx0 hy0 e0 e1 i j k m hi hj x y hx hy ex ey
    have ey0 : y0.1 = t := by
      have h1 := tm_at hb hx0
      have h2 := tm_at hb hy0
      rw [h1] at h2; injection h2 with h2; rw [← h2, e0]
    rw [okP_eq he om hi hi0 hx hx0 (ex.trans e0.symm) (by rw [ex]; exact h0), okP_eq he on hj hi0 hy hy0 (ey.trans ey0.symm) (by rw [ey]; exact h0), e1]
  have keyat : ∀ {i : Nat} {k : Nat} {x y : Bnd V}, key Q i (μ i) = key Q i (ν i) → k < Q.kp i → (Q.b i (μ i))[k]? = some x → (Q.b i (ν i))[k]? = some y → x.2 = y.2 := by
    intro i k x y hkk hlt hx hy
    have := congrArg (fun l => l[k]?) hkk
    simp only [key, List.getElem?_take, if_pos hlt, List.getElem?_map, hx, hy, Option.map_some, Option.some.injEq] at this
    exact this
  induction h with
  | @base t hm =>
    obtain ⟨k0, hk0⟩ := List.getElem?_of_mem hm
    rw [List.getElem?_take] at hk0
    by_cases hlt : k0 < Q.kp G
    · rw [if_pos hlt] at hk0
      obtain ⟨u, hu⟩ := at_tm hb (f := μ G) hk0
      obtain ⟨v, hv⟩ := at_tm hb (f := ν G) hk0
      exact spread h0 G k0 _ _ hG hu hv rfl (keyat hk hlt hu hv)
    · rw [if_neg hlt] at hk0; cases hk0
  | @step H t hH hne _ hm ih =>
    have hkey : key Q H (μ H) = key Q H (ν H) := by
      apply List.ext_getElem?
      intro k
      simp only [key, List.getElem?_take, List.getElem?_map]
      by_cases hlt : k < Q.kp H
      · rw [if_pos hlt, if_pos hlt]
        cases hx : (Q.b H (μ H))[k]? with
        | none =>
          have : (Q.b H (ν H))[k]? = none := by
            have h1 := congrArg (fun l => l[k]?) ((hb H (μ H)).trans (hb H (ν H)).symm)
            simp only [List.getElem?_map, hx] at h1
            cases h2 : (Q.b H (ν H))[k]? with
            | none => rfl
            | some _ => rw [h2] at h1; simp at h1
          rw [this]
        | some x =>
          obtain ⟨v, hv⟩ := at_tm hb (f := ν H) (tm_at hb hx)
          rw [hv]
          simp only [Option.map_some, Option.some.injEq]
          by_cases hx0 : 0 ≤ x.1
          · exact ih x.1 (List.mem_of_getElem? (i := k) (by rw [List.getElem?_take, if_pos hlt]; exact tm_at hb hx)) hx0 hx0 H H k k hH hH _ _ hx hv rfl rfl
          · have h1 := he _ _ (om.1 H hH x (List.mem_of_getElem? hx) (by omega))
            have h2 := he _ _ (on.1 H hH _ (List.mem_of_getElem? hv) (by show x.1 < 0; omega))
            rw [h1]; exact h2.symm
      · rw [if_neg hlt, if_neg hlt]
    have heq : μ H = ν H := by
      rw [← (pm H hH).2, ← (pn H hH).2, hc H hne, hkey]
    obtain ⟨k0, hk0⟩ := List.getElem?_of_mem hm
    obtain ⟨u, hu⟩ := at_tm hb (f := μ H) hk0
    exact spread h0 H k0 (t, u) (t, u) hH hu (heq ▸ hu) rfl rfl
open Classical in
include he hb in
/-- A fact that is used, exchanged for another one of its group: nothing new is met. -/
theorem swap_met {S : Nat → List Φ} {c c' : Nat → List V → Φ} {μ ν : Nat → Φ} {F G : Nat} (hG : G < Q.n) (om : okP T Q μ) (on : okP T Q ν) (pm : Pk Q S c μ) (pn : Pk Q S c' ν) (hc : ∀ H, H ≠ G → c' H = c H) (hck : ∀ k, k ≠ key Q G (μ G) → c' G k = c G k) (hF : G ≠ F → ¬ Rc Q G F) :
    ∃ p, Pk Q S c p ∧ okP T Q p ∧ key Q F (p F) = key Q F (ν F) := by
  by_cases hk : key Q G (μ G) = key Q G (ν G)
  · have cross : ∀ (i j k m : Nat), i < Q.n → j < Q.n → Rc Q G i → ¬ Rc Q G j → ∀ (x y : Bnd V), (Q.b i (μ i))[k]? = some x → (Q.b j (ν j))[m]? = some y → x.1 = y.1 → 0 ≤ x.1 → T.e x.2 y.2 = true := by
      intro i j k m hi hj ri rj x y hx hy e h0
      have hcl : Cl Q G x.1 := by
        by_cases q : Cl Q G x.1
        · exact q
        · exact absurd (Rc.step ri hi hj (List.mem_of_getElem? (tm_at hb hx)) (by rw [e]; exact List.mem_of_getElem? (tm_at hb hy)) h0 q) rj
      have h1 := cl_agree he hb hG om on pm pn hc hk hcl h0 i j k m hi hj x y hx hy rfl e.symm
      obtain ⟨v, hv⟩ := at_tm hb (f := μ j) (tm_at hb hy)
      have hne : (i, k) ≠ (j, m) := fun q => by injection q with q1 _; subst q1; exact rj ri
      have h2 := om.2 i j k m hi hj hne x _ hx hv e h0
      rw [← h1]; exact e_refl h2
    refine ⟨fun i => if Rc Q G i then μ i else ν i, fun i hi => ?_, ⟨fun i hi x hx => ?_, fun i j k m hi hj hne x y hx hy e h0 => ?_⟩, ?_⟩
    · by_cases r : Rc Q G i
      · simp only [if_pos r]; exact pm i hi
      · have hi' : i ≠ G := fun q => r (q ▸ .refl)
        simp only [if_neg r]
        rw [← hc i hi']; exact pn i hi
    · by_cases r : Rc Q G i
      · simp only [if_pos r] at hx; exact om.1 i hi x hx
      · simp only [if_neg r] at hx; exact on.1 i hi x hx
    · by_cases ri : Rc Q G i <;> by_cases rj : Rc Q G j
      · simp only [if_pos ri, if_pos rj] at hx hy; exact om.2 i j k m hi hj hne x y hx hy e h0
      · simp only [if_pos ri, if_neg rj] at hx hy; exact cross i j k m hi hj ri rj x y hx hy e h0
      · simp only [if_neg ri, if_pos rj] at hx hy; exact T.sym _ _ (cross j i m k hj hi rj ri y x hy hx e.symm (by rw [← e]; exact h0))
      · simp only [if_neg ri, if_neg rj] at hx hy; exact on.2 i j k m hi hj hne x y hx hy e h0
    · by_cases q : G = F
      · subst q
        simp only [if_pos (Rc.refl (Q := Q) (G := G))]; exact hk
      · simp only [if_neg (hF q)]
  · refine ⟨ν, fun i hi => ?_, on, rfl⟩
    by_cases q : i = G
    · subst q
      rw [← hck _ (fun e => hk e.symm)]; exact pn i hi
    · rw [← hc i q]; exact pn i hi
open Classical in
include he hb in
/-- A group of F that every choice meets. -/
theorem reify {S : Nat → List Φ} {F : Nat} (hFn : F < Q.n) (hex : ∃ c, Ch Q S c) (hall : ∀ c, Ch Q S c → ∃ p, Pk Q S c p ∧ okP T Q p)
    (hF : ∀ G, G < Q.n → (∃ f g, f ∈ S G ∧ g ∈ S G ∧ f ≠ g ∧ key Q G f = key Q G g) → G ≠ F → ¬ Rc Q G F) :
    ∃ f ∈ S F, ∀ s, Ch Q S s → ∃ p, Pk Q S s p ∧ okP T Q p ∧ key Q F (p F) = key Q F f := by
  let met (c : Nat → List V → Φ) (f : Φ) : Prop := ∃ p, Pk Q S c p ∧ okP T Q p ∧ key Q F (p F) = key Q F f
  obtain ⟨c, hc, hmin⟩ := exists_min (fun c => ((S F).filter fun f => decide (met c f)).length) (Ch Q S) hex
  obtain ⟨p, hp, op⟩ := hall c hc
  refine ⟨p F, (hp F hFn).1, fun s hs => ?_⟩
  have hmet : met c (p F) := ⟨p, hp, op, rfl⟩
  let L : List (Nat × Φ) := (List.range Q.n).flatMap fun i => (S i).map fun f => (i, f)
  have hL : ∀ i f, i < Q.n → f ∈ S i → (i, f) ∈ L := fun i f hi hf => List.mem_flatMap.2 ⟨i, List.mem_range.2 hi, List.mem_map.2 ⟨f, hf, rfl⟩⟩
  have hL2 : ∀ x ∈ L, x.1 < Q.n ∧ x.2 ∈ S x.1 := fun x hx => by
    obtain ⟨i, hi, hx⟩ := List.mem_flatMap.1 hx
    obtain ⟨f, hf, rfl⟩ := List.mem_map.1 hx
    exact ⟨List.mem_range.1 hi, hf⟩
  have key : ∀ d (c' : Nat → List V → Φ), Ch Q S c' → (L.filter fun x => decide (c' x.1 (key Q x.1 x.2) ≠ s x.1 (key Q x.1 x.2))).length = d → (∀ f ∈ S F, met c f ↔ met c' f) → met s (p F) := by
    intro d
    induction d using Nat.strongRecOn with
    | ind d ih =>
      intro c' hc' hd hiff
      obtain ⟨μ, pm, om, km⟩ := (hiff (p F) (hp F hFn).1).1 hmet
      by_cases hall' : ∀ i, i < Q.n → s i (Lg.key Q i (μ i)) = μ i
      · exact ⟨μ, fun i hi => ⟨(pm i hi).1, hall' i hi⟩, om, km⟩
      · obtain ⟨G, hG⟩ : ∃ i, ¬ (i < Q.n → s i (Lg.key Q i (μ i)) = μ i) := Classical.not_forall.1 hall'
        have hGn : G < Q.n := Classical.byContradiction fun q => hG fun h => absurd h q
        have hGs : s G (Lg.key Q G (μ G)) ≠ μ G := fun q => hG fun _ => q
        have hmG := (pm G hGn).1
        obtain ⟨hs1, hs2⟩ := hs G hGn (μ G) hmG
        let c2 : Nat → List V → Φ := fun i k => if i = G ∧ k = Lg.key Q G (μ G) then s G k else c' i k
        have hc2 : Ch Q S c2 := fun i hi f hf => by
          by_cases q : i = G ∧ Lg.key Q i f = Lg.key Q G (μ G)
          · obtain ⟨rfl, q2⟩ := q
            have : c2 i (Lg.key Q i f) = s i (Lg.key Q i f) := if_pos ⟨rfl, q2⟩
            rw [this]; exact hs i hi f hf
          · have : c2 i (Lg.key Q i f) = c' i (Lg.key Q i f) := if_neg q
            rw [this]; exact hc' i hi f hf
        have hsub : ∀ f ∈ S F, met c2 f → met c' f := by
          rintro f hf ⟨ν, pn, on, kn⟩
          obtain ⟨q, pq, oq, kq⟩ := swap_met (F := F) he hb hGn om on pm pn (fun H hne => funext fun k => if_neg (fun q => hne q.1)) (fun k hk => if_neg (fun q => hk q.2))
            (hF G hGn ⟨s G (Lg.key Q G (μ G)), μ G, hs1, hmG, hGs, hs2⟩)
          exact ⟨q, pq, oq, kq.trans kn⟩
        have hiff2 : ∀ f ∈ S F, met c f ↔ met c2 f := fun f hf => by
          refine (hiff f hf).trans ⟨fun h => ?_, hsub f hf⟩
          apply Classical.byContradiction
          intro hn
          have h1 := filter_lt (p := fun f => decide (met c f)) (q := fun f => decide (met c2 f)) (l := S F) (fun x hx h => by simp only [decide_eq_true_eq] at h ⊢; exact (hiff x hx).2 (hsub x hx h)) hf (by simp only [decide_eq_true_eq]; exact (hiff f hf).2 h) (by simpa using hn)
          exact absurd (hmin c2 hc2) (Nat.not_le.2 h1)
        refine ih _ ?_ c2 hc2 rfl hiff2
        rw [← hd]
        refine filter_lt (x := (G, μ G)) (fun x hx h => ?_) (hL G _ hGn hmG) ?_ ?_
        · simp only [decide_eq_true_eq] at h ⊢
          intro e
          apply h
          by_cases q : x.1 = G ∧ Lg.key Q x.1 x.2 = Lg.key Q G (μ G)
          · show (if x.1 = G ∧ Lg.key Q x.1 x.2 = Lg.key Q G (μ G) then s G (Lg.key Q x.1 x.2) else c' x.1 (Lg.key Q x.1 x.2)) = _
            rw [if_pos q, q.1]
          · show (if x.1 = G ∧ Lg.key Q x.1 x.2 = Lg.key Q G (μ G) then s G (Lg.key Q x.1 x.2) else c' x.1 (Lg.key Q x.1 x.2)) = _
            rw [if_neg q]; exact e
        · simp only [decide_eq_true_eq]
          rw [(pm G hGn).2]; exact fun e => hGs e.symm
        · simp only [decide_eq_false_iff_not, Classical.not_not]
          exact if_pos ⟨rfl, rfl⟩
  exact key _ c hc rfl (fun f _ => Iff.rfl)
/-- The same by lists. -/
theorem okP_iff {p : Nat → Φ} : okP T Q p ↔ okB T ((List.range Q.n).map fun i => Q.b i (p i)).flatten := by
  unfold okB
  rw [List.pairwise_flatten, List.pairwise_map, List.pairwise_iff_getElem]
  constructor
  · rintro ⟨h1, h2⟩
    refine ⟨fun x hx h0 => ?_, fun l hl => ?_, fun i j hi hj hij => ?_⟩
    · simp only [List.mem_flatten, List.mem_map, List.mem_range] at hx
      obtain ⟨l, ⟨i, hi, rfl⟩, hx⟩ := hx
      exact h1 i hi x hx h0
    · simp only [List.mem_map, List.mem_range] at hl
      obtain ⟨i, hi, rfl⟩ := hl
      rw [List.pairwise_iff_getElem]
      intro k m hk hm hkm e h0
      exact h2 i i k m hi hi (fun q => by injection q; omega) _ _ (List.getElem?_eq_getElem hk) (List.getElem?_eq_getElem hm) e h0
    · intro x hx y hy e h0
      simp only [List.getElem_range] at hx hy
      obtain ⟨k, hk⟩ := List.getElem?_of_mem hx
      obtain ⟨m, hm⟩ := List.getElem?_of_mem hy
      exact h2 i j k m (by simpa using hi) (by simpa using hj) (fun q => by injection q; omega) _ _ hk hm e h0
  · rintro ⟨h1, h2, h3⟩
    refine ⟨fun i hi x hx h0 => h1 x (by simp only [List.mem_flatten, List.mem_map, List.mem_range]; exact ⟨_, ⟨i, hi, rfl⟩, hx⟩) h0, fun i j k m hi hj hne x y hx hy e h0 => ?_⟩
    rcases Nat.lt_trichotomy i j with hij | hij | hij
    · have := h3 i j (by simpa using hi) (by simpa using hj) hij
      simp only [List.getElem_range] at this
      exact this x (List.mem_of_getElem? hx) y (List.mem_of_getElem? hy) e h0
    · subst hij
      have := List.pairwise_iff_getElem.1 (h2 (Q.b i (p i)) (by simp only [List.mem_map, List.mem_range]; exact ⟨i, hi, rfl⟩))
      obtain ⟨hk, rfl⟩ := List.getElem?_eq_some_iff.1 hx
      obtain ⟨hm, rfl⟩ := List.getElem?_eq_some_iff.1 hy
      rcases Nat.lt_trichotomy k m with hkm | hkm | hkm
      · exact this k m hk hm hkm e h0
      · subst hkm; exact absurd rfl hne
      · exact T.sym _ _ (this m k hm hk hkm e.symm (by rw [← e]; exact h0))
    · have := h3 j i (by simpa using hj) (by simpa using hi) hij
      simp only [List.getElem_range] at this
      exact T.sym _ _ (this y (List.mem_of_getElem? hy) x (List.mem_of_getElem? hx) e.symm (by rw [← e]; exact h0))
/-- Groups of an atom. -/
structure Grp (i : Nat) (S : List Φ) (bl : List (List Φ)) : Prop where
  of : ∀ b ∈ bl, ∃ f ∈ S, ∀ g, g ∈ b ↔ g ∈ S ∧ key Q i g = key Q i f
  has : ∀ f ∈ S, ∃ b ∈ bl, f ∈ b
def Alls (T : EqT V) (Q : Qy V Φ) (S : Nat → List Φ) : Prop := ∀ c, Ch Q S c → ∃ p, Pk Q S c p ∧ okP T Q p
theorem ch_exists [Inhabited Φ] (S : Nat → List Φ) : ∃ c, Ch Q S c := by
  classical
  refine ⟨fun i k => ((S i).find? fun f => decide (key Q i f = k)).getD default, fun i hi f hf => ?_⟩
  cases h : (S i).find? fun g => decide (key Q i g = key Q i f) with
  | none =>
    have := List.find?_eq_none.1 h f hf
    simp at this
  | some g =>
    have h1 := List.mem_of_find?_eq_some h
    have h2 := List.find?_some h
    show ((S i).find? fun g => decide (key Q i g = key Q i f)).getD default ∈ S i ∧ key Q i (((S i).find? fun g => decide (key Q i g = key Q i f)).getD default) = key Q i f
    rw [h]
    exact ⟨h1, by simpa using h2⟩
open Classical in
include he hb in
/-- One atom taken away. -/
theorem alls_step [Inhabited Φ] {S : Nat → List Φ} {F : Nat} {bl : List (List Φ)} (hFn : F < Q.n) (hg : Grp (Q := Q) F (S F) bl) (hall : Alls T Q S)
    (hF : ∀ G, G < Q.n → (∃ f g, f ∈ S G ∧ g ∈ S G ∧ f ≠ g ∧ key Q G f = key Q G g) → G ≠ F → ¬ Rc Q G F) :
    ∃ b ∈ bl, ∀ A ∈ b, Alls T Q (fun i => if i = F then [A] else S i) := by
  obtain ⟨f, hf, hr⟩ := reify he hb hFn (ch_exists S) hall hF
  obtain ⟨b, hbl, hfb⟩ := hg.has f hf
  obtain ⟨f0, hf0, hb0⟩ := hg.of b hbl
  have hkf : key Q F f = key Q F f0 := ((hb0 f).1 hfb).2
  refine ⟨b, hbl, fun A hA s'' hs'' => ?_⟩
  obtain ⟨hAS, hAk⟩ := (hb0 A).1 hA
  obtain ⟨c0, hc0⟩ := ch_exists (Q := Q) S
  let s : Nat → List V → Φ := fun i k => if i = F then (if k = key Q F A then A else c0 i k) else s'' i k
  have hs : Ch Q S s := fun i hi g hgS => by
    by_cases q : i = F
    · subst q
      by_cases q2 : key Q i g = key Q i A
      · have : s i (key Q i g) = A := by simp only [s, q2, if_true]
        rw [this]; exact ⟨hAS, q2.symm⟩
      · have : s i (key Q i g) = c0 i (key Q i g) := by simp only [s, if_true, if_neg q2]
        rw [this]; exact hc0 i hi g hgS
    · have : s i (key Q i g) = s'' i (key Q i g) := by simp only [s, if_neg q]
      rw [this]
      have := hs'' i hi g (by simp only [if_neg q]; exact hgS)
      simp only [if_neg q] at this
      exact this
  obtain ⟨p, pp, op, kp⟩ := hr s hs
  have hpF : p F = A := by
    have h1 := (pp F hFn).2
    rw [kp, hkf, ← hAk] at h1
    rw [← h1]; simp only [s, if_true]
  refine ⟨p, fun i hi => ?_, op⟩
  by_cases q : i = F
  · subst q
    simp only [if_true]
    have h2 := hs'' i hi A (by simp)
    simp only [if_true, List.mem_singleton] at h2
    rw [hpF]; exact ⟨by simp, h2.1⟩
  · have h1 := pp i hi
    simp only [if_neg q]
    refine ⟨h1.1, ?_⟩
    have h2 := h1.2
    simp only [s, if_neg q] at h2
    exact h2
include hb in
theorem pre_ok [Inhabited Φ] {S : Nat → List Φ} {p : Nat → Φ} {k : Nat} (hk : k ≤ Q.n) (hall : Alls T Q S) (hS : ∀ i, i < k → S i = [p i]) : okB T ((List.range k).map fun i => Q.b i (p i)).flatten := by
  obtain ⟨c, hc⟩ := ch_exists (Q := Q) S
  obtain ⟨q, pq, oq⟩ := hall c hc
  have h1 := okP_iff.1 oq
  have e : (List.range Q.n) = List.range k ++ List.range' k (Q.n - k) := by
    obtain ⟨m, hm⟩ : ∃ m, Q.n = k + m := ⟨Q.n - k, by omega⟩
    rw [hm, List.range_eq_range', List.range_eq_range', show k + m - k = m by omega, ← List.range'_append_1, Nat.zero_add]
  rw [e, List.map_append, List.flatten_append] at h1
  have h2 := okB_pre T h1
  have e2 : (List.range k).map (fun i => Q.b i (q i)) = (List.range k).map fun i => Q.b i (p i) := by
    apply List.map_congr_left
    intro i hi
    have hi := List.mem_range.1 hi
    have := (pq i (by omega)).1
    rw [hS i hi] at this
    rw [List.mem_singleton.1 this]
  rw [e2] at h2
  exact h2
include he hb in
/-- All choices, group by group. -/
theorem cert_complete [Inhabited Φ] (S : Nat → List Φ) (bl : Nat → List (List Φ)) (hg : ∀ i, i < Q.n → Grp (Q := Q) i (S i) (bl i)) (hR : ∀ i j, i < j → j < Q.n → ¬ Rc Q j i) (hall : Alls T Q S) :
    CertP T ((List.range Q.n).map fun i => (bl i).map fun b => b.map (Q.b i)) [] := by
  have main : ∀ (m k : Nat) (p : Nat → Φ), k + m = Q.n → Alls T Q (fun i => if i < k then [p i] else S i) →
      CertP T ((List.range' k m).map fun i => (bl i).map fun b => b.map (Q.b i)) ((List.range k).map fun i => Q.b i (p i)).flatten := by
    intro m
    induction m with
    | zero => intro k p _ _; exact trivial
    | succ m ih =>
      intro k p hkm h
      rw [List.range'_succ, List.map_cons]
      obtain ⟨b, hb1, hb2⟩ := alls_step (F := k) (bl := bl k) he hb (by omega) (by
        have e : (if k < k then [p k] else S k) = S k := if_neg (Nat.lt_irrefl k)
        show Grp (Q := Q) k (if k < k then [p k] else S k) (bl k)
        rw [e]; exact hg k (by omega)) h (by
          rintro G hG ⟨f, g, hf, hg', hne, _⟩ hGk
          by_cases q : G < k
          · simp only [if_pos q, List.mem_singleton] at hf hg'
            exact absurd (hf.trans hg'.symm) hne
          · exact hR k G (by omega) hG)
      refine ⟨b.map (Q.b k), List.mem_map.2 ⟨b, hb1, rfl⟩, fun x hx => ?_⟩
      obtain ⟨A, hA, rfl⟩ := List.mem_map.1 hx
      have h3 := hb2 A hA
      let p' : Nat → Φ := fun i => if i = k then A else p i
      have hS' : (fun i => if i = k then [A] else if i < k then [p i] else S i) = fun i => if i < k + 1 then [p' i] else S i := by
        funext i
        by_cases q : i = k
        · subst q; simp [p']
        · by_cases q2 : i < k
          · rw [if_neg q, if_pos q2, if_pos (by omega)]; simp [p', q]
          · rw [if_neg q, if_neg q2, if_neg (by omega)]
      rw [hS'] at h3
      have e : ((List.range k).map fun i => Q.b i (p i)).flatten ++ Q.b k A = ((List.range (k + 1)).map fun i => Q.b i (p' i)).flatten := by
        rw [List.range_succ, List.map_append, List.flatten_append]
        have e1 : (List.range k).map (fun i => Q.b i (p' i)) = (List.range k).map fun i => Q.b i (p i) := by
          apply List.map_congr_left
          intro i hi
          have hi := List.mem_range.1 hi
          simp only [p', if_neg (show i ≠ k by omega)]
        rw [e1]; simp [p']
      rw [e]
      refine ⟨pre_ok hb (by omega) h3 (fun i hi => if_pos hi), ih (k + 1) p' (by omega) h3⟩
  have := main Q.n 0 (fun _ => default) (by omega) (by
    have : (fun i => if i < 0 then [(default : Φ)] else S i) = S := by funext i; simp
    rw [this]; exact hall)
  rw [List.range_eq_range']
  exact this
end
end Lg
