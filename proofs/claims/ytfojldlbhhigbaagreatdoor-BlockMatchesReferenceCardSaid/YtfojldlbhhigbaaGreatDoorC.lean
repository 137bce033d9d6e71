/- Contracts of the library turned to own memory; the types of the program as representations; maps with structs as keys. -/
import Derived.Test.YtfojldlbhhigbaaGreatDoorB
import Derived.Shelf.Strings.OnBuilder
import Derived.Shelf.Strconv.Itoa3
import Derived.Shelf.Sort.Plain
import Derived.Shelf.Slices.CompactS
import Derived.Shelf.SlicesE.DeleteFunc
import Derived.Shelf.Small.Strs
import Derived.Lib.ConvBytes
import Derived.Lib.LazyBuf
import Derived.Test.YtfojldlbhhigbaaGreatDoorProg
import Derived.Laws.StructEq
set_option linter.unusedVariables false
set_option linter.unusedSimpArgs false
set_option linter.unusedSectionVars false
/- The library's contracts turned to own memory and immutable memory: strings. -/
namespace Lg
open Go
abbrev toB (s : List UInt8) : ByteArray := ⟨s.toArray⟩
abbrev ofB (b : ByteArray) : List UInt8 := b.data.toList
theorem toB_ofB (b : ByteArray) : toB (ofB b) = b := by cases b; simp
theorem ofB_toB (s : List UInt8) : ofB (toB s) = s := by simp
theorem map_toB (xs : List ByteArray) : (xs.map ofB).map toB = xs := by
  rw [List.map_map]
  conv => rhs; rw [← List.map_id xs]
  exact List.map_congr_left fun x _ => toB_ofB x
theorem relAll_str {h : PH} : ∀ {xs : List ByteArray} {cs : List Value}, relAll rStr h xs cs ↔ cs = xs.map (.string ·)
  | [], cs => Iff.rfl
  | x :: xs, cs => by
    constructor
    · rintro ⟨c1, c2, rfl, r1, r2⟩
      have r1 : c1 = [.string x] := r1
      rw [relAll_str.1 r2, r1]; rfl
    · rintro rfl
      exact ⟨[.string x], xs.map (.string ·), rfl, rfl, relAll_str.2 rfl⟩
/-- A function that sorts, cuts or thins a row of one's own strings. -/
theorem row_spec {P : Program} {f : Nat} {As : List Ty} {rest : List Value} (v : Value) (xs : List ByteArray) (ds : List (List UInt8)) (hd : ds.length = xs.length) (m : Nat) (hm : m ≤ xs.length) (ret : Option Addr → Nat → Value) (T : Value → Ty) (hT : ∀ h a n cap, (xs = [] → n = 0) → (xs ≠ [] → n = m) → (T (.slice a n cap)).p h (ret a cap)) (hrest : ∀ h vs, Args h As vs → vs = rest)
    (hk : ∀ (g cap : Nat) (w : World), Sort.Holds Go.Proofs.encStr w g 0 (xs.map ofB).toArray → g < w.heap.size → xs.length ≤ cap → Calls P f (.slice (some ⟨g, 0, none⟩) xs.length cap :: rest).toArray w fun e w' => e = .returned (ret (some ⟨g, 0, none⟩) cap) ∧ ∃ n os, w' = Go.Proofs.sortWorld Go.Proofs.encStr w g 0 n ds.toArray os)
    (hn : ∀ a cap w, xs = [] → Calls P f (.slice a 0 cap :: rest).toArray w fun e w' => e = .returned (ret a cap) ∧ w' = w) :
    Spec (X := { z : Value // m = xs.length → z = v }) P f (rV.ty v :: As) [own 9 rStr v xs] (fun z => T z.1) (fun z => [own 9 rStr z.1 ((ds.take m).map toB)]) := by
  intro vs h m0 r w ha sp st
  match vs, ha with
  | u1 :: us, ⟨a1, a2⟩ =>
  obtain ⟨e1, _⟩ := a1
  subst e1
  have := hrest _ _ a2
  subst this
  obtain ⟨m1, m2, d12, rfl, ho, e3⟩ := st
  rw [stars_nil] at e3; subst e3
  rw [PH.join_emp] at sp
  have none_case : ∀ (p : Option Addr) (cap : Nat), u1 = .slice p 0 cap → xs = [] → (own 9 rStr u1 xs).p h m1 → Calls P f (u1 :: us).toArray w (Ret (X := { z : Value // m = xs.length → z = u1 }) h w r (fun z => T z.1) (fun z => [own 9 rStr z.1 ((ds.take m).map toB)])) := by
    intro p cap hu hx ho
    subst hu; subst hx
    have hds : ds = [] := List.length_eq_zero_iff.1 hd
    subst hds
    refine (hn p cap w rfl).mono ?_
    rintro e' w' ⟨rfl, rfl⟩
    exact ⟨⟨.slice p 0 cap, fun _ => rfl⟩, _, h, m1, rfl, HL.refl, sp, ⟨m1, PH.emp, PH.disj_emp _, (PH.join_emp _).symm, by simpa using ho, rfl⟩, hT _ _ _ _ (fun _ => rfl) (fun q => absurd rfl q)⟩
  have ho0 := ho
  rcases ho with ⟨rfl, rfl, rfl⟩ | ⟨g, cap, cur, rfl, rfl, hl, hmx, hs, hr⟩
  · exact none_case none 0 rfl rfl ho0
  · by_cases hx : xs = []
    · subst hx; exact none_case _ cap rfl rfl ho0
    · have hk1 : rStr.k = 1 := rfl
      rw [hk1, Nat.mul_one] at hs hr
      rw [relAll_str] at hr
      have hb := sp.mw g _ (PH.one_same _ _)
      have hH : Sort.Holds Go.Proofs.encStr w g 0 (xs.map ofB).toArray := fun j hj => ⟨by
        rw [Nat.zero_add]; simp only [World.cell?, hb]
        have hj' : j < xs.length := by simpa using hj
        have : (cur.toList.take xs.length)[j]? = some (.string xs[j]) := by rw [hr]; simp [hj']
        rw [List.getElem?_take, if_pos hj'] at this
        rw [getElem!_pos _ j hj]
        have e2 : Go.Proofs.encStr ((xs.map ofB).toArray[j]) = .string xs[j] := by
          simp only [List.getElem_toArray, List.getElem_map]
        rw [e2]
        first | exact this | simpa using this, by simp [World.frozen?, hb]⟩
      have hblk : g < w.heap.size := (Array.getElem?_eq_some_iff.1 hb).1
      refine (hk g cap w hH hblk hl).mono ?_
      rintro e' w' ⟨rfl, n, os, rfl⟩
      have hlen : ((ds.take m).map toB).length = m := by rw [List.length_map, List.length_take, Nat.min_eq_left (by omega)]
      refine ⟨⟨.slice (some ⟨g, 0, none⟩) m cap, fun q => by rw [q]⟩, _, h, PH.one g (.cells (Sort.putCells Go.Proofs.encStr 0 ds.toArray cur) 9 (0, 0)), rfl, HL.same ⟨rfl, rfl, rfl⟩, ?_, ⟨_, PH.emp, PH.disj_emp _, (PH.join_emp _).symm, .inr ⟨g, cap, _, by rw [hlen], rfl, by rw [hlen]; omega, hmx, ?_, ?_⟩, rfl⟩, hT _ _ _ _ (fun q => absurd q hx) (fun _ => rfl)⟩
      · have sp' : Sep h ((PH.one g (.cells cur 9 (0, 0))).join PH.emp) r w := by rw [PH.join_emp]; exact sp
        have := Sep.write (o' := .cells (Sort.putCells Go.Proofs.encStr 0 ds.toArray cur) 9 (0, 0)) (PH.disj_emp _) sp' (fun b hne' hb' => sortWorld_other (enc := Go.Proofs.encStr) (off := 0) (m := n) (dk := ds.toArray) (os := os) hb' hne') (sortWorld_row hb)
        rw [PH.join_emp] at this; exact this
      · simp [Sort.putCells, hs, hk1]
      · rw [hlen, hk1, Nat.mul_one, relAll_str]
        apply List.ext_getElem?
        intro j
        rw [List.getElem?_take]
        split
        · rename_i hj
          have hjc : j < cur.size := by omega
          have hjd : j < ds.length := by omega
          simp [Sort.putCells, hjc, hjd, hj]
        · rw [List.getElem?_eq_none (by rw [List.length_map, hlen]; omega)]
def sortS (xs : List ByteArray) : List ByteArray := ((xs.map ofB).mergeSort fun x y => decide (x ≤ y)).map toB
theorem sortS_len (xs : List ByteArray) : (sortS xs).length = xs.length := by simp [sortS]
def compS (xs : List ByteArray) : List ByteArray := (Lib.compact (xs.map ofB)).map toB
theorem sortStr_spec {P : Program} {ρ : Shelf.Ren} (LL : Go.Proofs.Lays.n190 P ρ) (v : Value) (xs : List ByteArray) (hn : xs.length < 4611686018427387904) :
    Spec (X := Unit) P (ρ.f 190) [rV.ty v] [own 9 rStr v xs] (fun _ => tTup []) (fun _ => [own 9 rStr v (sortS xs)]) := by
  have h := row_spec (P := P) (f := ρ.f 190) (As := []) (rest := []) v xs ((xs.map ofB).mergeSort fun x y => decide (x ≤ y)) (by simp) xs.length (Nat.le_refl _) (fun _ _ => .tuple #[]) (fun _ => tTup []) (fun _ _ _ _ _ _ => ⟨[], rfl, trivial⟩) (fun h vs a => by match vs, a with | [], _ => rfl)
    (fun g cap w hH hb hc => by
      have := Go.Proofs.Any.slices_Sort_string LL g 0 cap (xs.map ofB) w hH hb (by simpa using hn)
      rw [List.length_map] at this
      exact this)
    (fun a cap w _ => Go.Proofs.Any.slices_Sort_string_none LL a cap w)
  intro vs h0 m r w ha sp st
  refine (h vs h0 m r w ha sp st).mono ?_
  rintro e w' ⟨⟨z, hz⟩, u, h', m', rfl, l, s, st', hu⟩
  have := hz rfl
  subst this
  refine ⟨(), u, h', m', rfl, l, s, ?_, hu⟩
  have e1 : (((xs.map ofB).mergeSort fun x y => decide (x ≤ y)).take xs.length) = ((xs.map ofB).mergeSort fun x y => decide (x ≤ y)) := List.take_of_length_le (by simp)
  rw [e1] at st'
  exact st'
theorem compact_len (zs : List (List UInt8)) : (Lib.compact zs).length ≤ zs.length := by
  unfold Lib.compact Lib.compactUpTo
  rw [List.length_map]
  refine Nat.le_trans (List.length_filter_le _ _) ?_
  rw [List.length_range]; exact Nat.le_refl _
theorem compStr_spec {P : Program} {ρ : Shelf.Ren} (LL : Go.Proofs.Lays.n194 P ρ) (v : Value) (xs : List ByteArray) (hn : xs.length ≤ 4611686018427387904) :
    Spec (X := Value) P (ρ.f 194) [rV.ty v] [own 9 rStr v xs] (fun z => rV.ty z) (fun z => [own 9 rStr z (compS xs)]) := by
  have hcl := compact_len (xs.map ofB)
  rw [List.length_map] at hcl
  have h := row_spec (P := P) (f := ρ.f 194) (As := []) (rest := []) v xs (Lib.compact (xs.map ofB) ++ List.replicate (xs.length - (Lib.compact (xs.map ofB)).length) []) (by simp; omega) (Lib.compact (xs.map ofB)).length hcl
    (fun a cap => .slice a (Lib.compact (xs.map ofB)).length cap) (fun z => rV.ty z) (fun _ a n cap h1 h2 => by
      by_cases hx : xs = []
      · rw [h1 hx]; subst hx; exact ⟨rfl, rfl⟩
      · rw [h2 hx]; exact ⟨rfl, rfl⟩) (fun h vs a => by match vs, a with | [], _ => rfl)
    (fun g cap w hH hb hc => by
      have := Go.Proofs.Any.slices_Compact_string LL g 0 cap (xs.map ofB) w hH (by rw [List.length_map]; omega) (by rw [List.length_map]; omega)
      rw [List.length_map] at this
      refine this.mono ?_
      rintro e w' ⟨he, q, hq⟩
      exact ⟨he, q, #[], by rw [hq]; unfold Go.Proofs.sortWorld; rw [Sort.grow_empty]⟩)
    (fun a cap w hx => by subst hx; exact Go.Proofs.Any.slices_Compact_string_empty LL a cap w)
  intro vs h0 m r w ha sp st
  refine (h vs h0 m r w ha sp st).mono ?_
  rintro e w' ⟨⟨z, hz⟩, u, h', m', rfl, l, s, st', hu⟩
  refine ⟨z, u, h', m', rfl, l, s, ?_, hu⟩
  rw [List.take_left' rfl] at st'
  exact st'
/-- A slice, its capacity known to be enough. -/
theorem Frz.ownC {α : Type} {e : Nat} {R : Rp α} {v : Value} {xs : List α} {S : List SP} : Frz (Lg.own e R v xs :: S) (rV.ty v) (tSlC R xs) := fun h m u d hs hv => by
  refine ⟨Frz.own h m u d hs hv, ?_⟩
  obtain ⟨m1, m2, d12, em, ho, _⟩ := hs
  have hv := hv.1
  subst hv
  rintro ao len cap e
  rcases ho with ⟨rfl, _, _⟩ | ⟨g, cap', cur, rfl, _, hl, _⟩
  · cases e; omega
  · cases e; exact hl
/-- The world that a call leaves behind, below the first heap as it was. -/
theorem sep_below {h m r : PH} {w w' : World} (s : Sep h m r w) (b : RowKit.Below w.heap.size w w') : HL h w h w' ∧ Sep h m r w' := by
  have go : ∀ {p : PH}, p.inw w → p.inw w' := fun {p} hp b' o e => by
    have := hp b' o e
    rw [b.block _ (Array.getElem?_eq_some_iff.1 this).1]; exact this
  exact ⟨HL.same ⟨b.os, b.tape, b.output⟩, ⟨s.inv, s.hm, s.hr, s.mr, go s.hw, go s.mw, go s.rw⟩⟩
def joinB (xs : List ByteArray) (sep : ByteArray) : ByteArray := toB (Lib.join (xs.map ofB) (ofB sep))
theorem join_spec {P : Program} {ρ : Shelf.Ren} (L : Go.Proofs.Lays.n156 P ρ) (X : Go.Proofs.Builder.Extra P ρ) (xs : List ByteArray) (sep : ByteArray) (hN : xs.length ≤ 140737488355328) (hlen : (joinB xs sep).size ≤ 140737488355328) :
    Fun1 P (ρ.f 156) [tSlC rStr xs, tV (.string sep)] (tV (.string (joinB xs sep))) := by
  intro vs h m r w ha sp st
  match vs, ha with
  | [u1, u2], ⟨a1, a2, _⟩ =>
  have a2 : u2 = .string sep := a2
  subst a2
  obtain ⟨⟨ao, cap, rfl, H⟩, hC⟩ := a1
  have hcap := hC _ _ _ rfl
  by_cases hx : xs = []
  · subst hx
    refine (Go.Proofs.Any.strings_Join_none L X ao cap sep w).mono ?_
    rintro e w' ⟨rfl, rfl⟩
    refine ⟨(), _, h, m, rfl, HL.refl, sp, st, ?_⟩
    show _ = _
    simp [joinB, Lib.join_nil]
  · obtain ⟨b, off, rfl, H'⟩ := H hx
    have hcell : ∀ (j : Nat) x, xs[j]? = some x → w.cell? ⟨b, off + j, none⟩ = some (.string x) := fun j x hj => by
      obtain ⟨cs, ⟨c, e, fz, hb, hc⟩, hr⟩ := H' j x hj
      have hr : cs = [.string x] := hr
      subst hr
      have hb' := sp.hw _ _ hb
      have := hc 0 (.string x) rfl
      rw [show rStr.k = 1 from rfl, Nat.mul_one, Nat.add_zero] at this
      simp only [World.cell?, hb']
      exact this
    have hblk : b < w.heap.size := by
      have hp : 0 < xs.length := List.length_pos_iff.2 hx
      obtain ⟨cs, ⟨c, e, fz, hb, hc⟩, hr⟩ := H' 0 xs[0] (List.getElem?_eq_getElem hp)
      exact PH.inw_lt sp.hw hb
    have hl : (Lib.join (xs.map (·.data.toList)) sep.data.toList).length ≤ 140737488355328 := by
      have : (joinB xs sep).size = (Lib.join (xs.map ofB) (ofB sep)).length := by show (List.toArray _).size = _; simp
      rw [this] at hlen; exact hlen
    refine (Go.Proofs.Any.strings_Join L X b off cap xs sep w hcell hblk hN hcap hl).mono ?_
    rintro e w' ⟨rfl, hbw⟩
    obtain ⟨l, s⟩ := sep_below sp hbw
    exact ⟨(), _, h, m, rfl, l, s, st, rfl⟩
/-- The table in the world. -/
theorem inv_tab {P : Program} (hg : P.globalNamed "internal/strconv.uint64pow10" = some tabG) {h : PH} {w : World} (hi : Inv h) (hw : h.inw w) : Lib.TabIs P w "internal/strconv.uint64pow10" .u64 Lib.pow10Tab := by
  obtain ⟨e, fz, q⟩ := hi
  have := hw _ _ q
  simp only [Lib.TabIs, World.var?, hg, Option.bind_some, this]
  rfl
def itoaB (n : Int) : ByteArray := toB (Lib.itoa n)
theorem itoa_spec {P : Program} {ρ : Shelf.Ren} (L : Go.Proofs.LaysM.n171 P ρ) (hg : P.globalNamed "internal/strconv.uint64pow10" = some tabG) (n : Int) (h0 : -9223372036854775808 ≤ n) (h1 : n ≤ 9223372036854775807) :
    Fun1 P (ρ.f 171) [tV (.int .i64 n)] (tV (.string (itoaB n))) := by
  intro vs h m r w ha sp st
  match vs, ha with
  | [u1], ⟨a1, _⟩ =>
  have a1 : u1 = .int .i64 n := a1
  subst a1
  refine (Go.Proofs.Any.strconv_Itoa L n h0 h1 w (inv_tab hg sp.inv sp.hw)).mono ?_
  rintro e w' ⟨rfl, k, os, rfl⟩
  obtain ⟨l, s⟩ := sep_below sp (Go.Proofs.below_grown w k os)
  exact ⟨(), _, h, m, rfl, l, s, st, rfl⟩
end Lg

/- Further operations: entries of maps that are appended to, a slice compared with nil, bytes of strings, sums of strings, quotients, least and greatest. -/
namespace Lg
open Go
section
variable {κ β : Type} [DecidableEq κ] {kv : κ → Value} {R : Rp β}
variable {C : Cx} {E : Env} {L : List SP} {d : Option Nat} {ty : Nat} {pos : String} {af : Array Edge} {g : Option (Nat × Bool)}
theorem step_insert {T kt e : Nat} {x y u : Operand} {v : Value} {m : List (κ × β)} {S : List SP} {q : κ} {z : β} (K : KeyT C.P kt kv) (hu : C.P.underlying T = some (.map kt e))
    (hx : Sub (opTy E x) (tV v)) (hy : Sub (opTy E y) (tV (kv q))) (hz : Sub (opTy E u) (R.ty z)) (sel : Sel L [mapOwn kv R v m] S) :
    Step C ⟨d, .insert T x y u, ty, pos, af, g⟩ E L (fun _ : Unit => tAny) (fun _ => mapOwn kv R v (mput m q z) :: S) :=
  fun a w h mm hn l sp st fr next Q hk => by
    have h2 := (step_mapUpdate (C := C) (d := d) (ty := ty) (pos := pos) (af := af) (g := g) K hu hx hy hz sel a w h mm hn l sp st fr next Q hk).2
    refine ⟨fun _ _ => trivial, ?_⟩
    rw [Fw_round, Oper.semAt_eq _ _ _ (by intro c h; cases h)] at h2 ⊢
    exact h2
/-- The first place of a key. -/
def fi (q : κ) : List (κ × β) → Option Nat
  | [] => none
  | (k, _) :: m => if q = k then some 0 else (fi q m).map (· + 1)
theorem fi_some {q : κ} : ∀ {m : List (κ × β)} {x : β}, mget m q = some x → ∃ n, fi q m = some n
  | (k, y) :: m, x, h => by
    by_cases hk : q = k
    · exact ⟨0, by simp [fi, hk]⟩
    · obtain ⟨n, hn⟩ := fi_some (q := q) (m := m) (x := x) (by simpa [mget, hk] using h)
      exact ⟨n + 1, by simp [fi, hk, hn]⟩
theorem fi_mput {q : κ} {y z : β} : ∀ {m : List (κ × β)}, fi q (mput m q y) = fi q (mput m q z)
  | [] => by simp [mput, fi]
  | (k, x) :: m => by
    by_cases hk : q = k
    · subst hk; simp [mput, fi]
    · simp only [mput, if_neg hk, fi]; rw [fi_mput (m := m)]
theorem fi_put_end {q : κ} {y : β} : ∀ {m : List (κ × β)}, mget m q = none → fi q (mput m q y) = some m.length
  | [], _ => by simp [mput, fi]
  | (k, x) :: m, h => by
    by_cases hk : q = k
    · simp [mget, hk] at h
    · have h2 : mget m q = none := by simpa [mget, hk] using h
      simp [mput, fi, hk, fi_put_end h2]
theorem entR.fi {h : PH} {q : κ} : ∀ {m : List (κ × β)} {es : List MapEntry} {n i : Nat}, entR kv R h m es n → Lg.fi q m = some i →
    (es.findIdx? fun e => (e.born : Int) == ((n + i : Nat) : Int)) = some i ∧ ∀ y u, (R.ty y).p h u → entR kv R h (mput m q y) (es.modify i fun e => { e with val := u }) n
  | [], [], _, _, _, q => by cases q
  | (k, x) :: m, e :: es, n, i, hq, hi => by
    obtain ⟨h1, h2, h3, h4⟩ := hq
    by_cases hk : q = k
    · subst hk
      have : i = 0 := by simpa [Lg.fi, eq_comm] using hi
      subst this
      refine ⟨by simp [List.findIdx?_cons, h3], fun y u hu => ?_⟩
      simp only [mput, if_true]
      exact ⟨h1, hu, h3, h4⟩
    · simp only [Lg.fi, if_neg hk, Option.map_eq_some_iff] at hi
      obtain ⟨j, hj, rfl⟩ := hi
      obtain ⟨a, b⟩ := entR.fi h4 hj
      refine ⟨?_, fun y u hu => ?_⟩
      · rw [List.findIdx?_cons]
        have : ((e.born : Int) == ((n + (j + 1) : Nat) : Int)) = false := by simp [h3]; omega
        rw [this]
        have e2 : ((n + 1 + j : Nat) : Int) = ((n + (j + 1) : Nat) : Int) := by omega
        rw [e2] at a
        simp only [Bool.false_eq_true, if_false]
        rw [a]; rfl
      · simp only [mput, if_neg hk]
        exact ⟨h1, h2, h3, b y u hu⟩
theorem mput_same {q : κ} {x : β} : ∀ {m : List (κ × β)}, mget m q = some x → mput m q x = m
  | (k, y) :: m, h => by
    by_cases hk : q = k
    · subst hk
      have : y = x := by simpa [mget] using h
      subst this; simp [mput]
    · have h2 : mget m q = some x := by simpa [mget, hk] using h
      simp [mput, hk, mput_same h2]
theorem fi_at {q : κ} : ∀ {m : List (κ × β)} {es : List MapEntry} {h : PH} {n i j : Nat} {u : Value}, entR kv R h m es n → fnd q (m.map (·.1)) es i = some (i + j, u) → Lg.fi q m = some j
  | [], [], _, _, _, _, _, _, q => by simp [fnd] at q
  | (k, x) :: m, e :: es, h, n, i, j, u, hq, hf => by
    obtain ⟨h1, h2, h3, h4⟩ := hq
    by_cases hk : q = k
    · subst hk
      simp [fnd] at hf
      simp [Lg.fi]; omega
    · simp only [List.map_cons, fnd, if_neg hk] at hf
      cases j with
      | zero =>
        exfalso
        have : ∀ (ks : List κ) (es : List MapEntry) (i : Nat) (r : Nat) (u : Value), fnd q ks es i = some (r, u) → i ≤ r := by
          intro ks
          induction ks with
          | nil => intro es i r u h; simp [fnd] at h
          | cons k ks ih =>
            intro es i r u h
            match es with
            | [] => simp [fnd] at h
            | e :: es =>
              simp only [fnd] at h
              split at h
              · cases h; omega
              · have := ih es (i + 1) r u h; omega
        have := this _ _ _ _ _ hf
        omega
      | succ j =>
        have : fnd q (m.map (·.1)) es (i + 1) = some (i + 1 + j, u) := by rw [hf]; congr 2; omega
        simp [Lg.fi, hk, fi_at h4 this]
/-- m[k] to be appended to: its value, and where it stands. -/
theorem step_mapEntry {T kt e : Nat} {x y : Operand} {v : Value} {m : List (κ × β)} {S : List SP} {q : κ} {z : β} {zv : Value} (K : KeyT C.P kt kv) (hu : C.P.underlying T = some (.map kt e)) (hz : ∀ w, (zeroValue e).run C.P w = .ok zv w) (hzr : ∀ h, (R.ty z).p h zv)
    (hx : Sub (opTy E x) (tV v)) (hy : Sub (opTy E y) (tV (kv q))) (sel : Sel L [mapOwn kv R v m] S) :
    Step (X := { n : Nat // fi q (mput m q ((mget m q).getD z)) = some n }) C ⟨d, .mapEntry T x y, ty, pos, af, g⟩ E L (fun n => tTup [R.ty ((mget m q).getD z), tV (.int .i64 (n.1 : Int))]) (fun _ => mapOwn kv R v (mput m q ((mget m q).getD z)) :: S) :=
  Step.of_run (by intro c h; cases h) fun a w h mm l sp st fr => by
    have h1 : a.eval x = v := fr.get hx
    have h2 : a.eval y = kv q := fr.get hy
    obtain ⟨m1, m2, d12, rfl, ⟨r, es, rfl, rfl, hr⟩, s2⟩ := sel.one.1 st
    have hchk := K.chk
    have hfk := K.find q _ es w hr.keys
    have hb := sp.heap_own
    rcases hr.find q (i := 0) with ⟨a1, b1, c1⟩ | ⟨x', j, e', a1, b1, c1, dd, f1, g1⟩
    · rw [b1] at hfk
      have hfi : fi q (mput m q ((mget m q).getD z)) = some m.length := fi_put_end a1
      refine ⟨⟨m.length, hfi⟩, .tuple #[zv, .int .i64 (m.length : Int)], w.putObj r (.map (es ++ [(⟨kv q, zv, es.length⟩ : MapEntry)]).toArray (es.length + 1)), h, (PH.one r (.map (es ++ [(⟨kv q, zv, es.length⟩ : MapEntry)]).toArray (es.length + 1))).join m2, ?_, HL.same (Same.putObj _ _ _), Sep.put _ d12 sp, ?_, ⟨[zv, .int .i64 (m.length : Int)], rfl, by rw [a1]; exact hzr h, rfl, trivial⟩⟩
      · have := hr.length
        simp [execOp, Instr.mapEntry, h1, h2, Sem.run_bind, run_underlying hu, run_getObj_map hb, hchk, hfk, hz, run_setObj_map _ hb, goInt, this]
      · refine ⟨_, m2, PH.one_disj_iff.2 (PH.one_disj_iff.1 d12), rfl, ⟨r, es ++ [(⟨kv q, zv, es.length⟩ : MapEntry)], rfl, by simp, ?_⟩, s2⟩
        have := c1 ((mget m q).getD z) zv (by rw [a1]; exact hzr h)
        rw [Nat.zero_add] at this
        exact this
    · have hf1 := f1
      rw [f1, Nat.zero_add] at hfk
      have hme : mput m q ((mget m q).getD z) = m := by rw [a1]; exact mput_same a1
      have hfi : fi q (mput m q ((mget m q).getD z)) = some j := by rw [hme]; exact fi_at hr hf1
      obtain ⟨_, _, _, _, _, hborn⟩ := hr.get b1
      have hbj : e'.born = j := by omega
      have hmod : es.modify j (fun e => { e with key := kv q }) = es := by
        apply List.ext_getElem?
        intro i
        rw [List.getElem?_modify]
        by_cases hij : j = i
        · subst hij; rw [b1]; simp [← c1]
        · cases es[i]? <;> simp [hij]
      refine ⟨⟨j, hfi⟩, .tuple #[e'.val, .int .i64 (j : Int)], w.putObj r (.map es.toArray es.length), h, (PH.one r (.map es.toArray es.length)).join m2, ?_, HL.same (Same.putObj _ _ _), Sep.put _ d12 sp, ?_, ⟨[e'.val, .int .i64 (j : Int)], rfl, by rw [a1]; exact dd, rfl, trivial⟩⟩
      · have hm2 : es.toArray.modify j (fun e => { e with key := kv q }) = es.toArray := by simp [hmod]
        simp [execOp, Instr.mapEntry, h1, h2, Sem.run_bind, run_underlying hu, run_getObj_map hb, hchk, hfk, goInt, Instr.keyThatStays, b1, c1, K.bits, hbj]
        rw [hmod, run_setObj_map _ hb]
        rfl
      · exact ⟨_, m2, PH.one_disj_iff.2 (PH.one_disj_iff.1 d12), rfl, ⟨r, es, rfl, rfl, by rw [hme]; exact hr⟩, s2⟩
theorem step_entryStore {T : Nat} {x y u : Operand} {v : Value} {m : List (κ × β)} {S : List SP} {q : κ} {z : β} {n : Nat} (hfi : fi q m = some n)
    (hx : Sub (opTy E x) (tV v)) (hy : Sub (opTy E y) (tV (.int .i64 (n : Int)))) (hz : Sub (opTy E u) (R.ty z)) (sel : Sel L [mapOwn kv R v m] S) :
    Step C ⟨d, .entryStore T x y u, ty, pos, af, g⟩ E L (fun _ : Unit => tAny) (fun _ => mapOwn kv R v (mput m q z) :: S) :=
  Step.of_skip (by intro c h; cases h) fun a w h mm l sp st fr => by
    have h1 : a.eval x = v := fr.get hx
    have h2 : a.eval y = .int .i64 (n : Int) := fr.get hy
    have h3 := fr.get hz
    obtain ⟨m1, m2, d12, rfl, ⟨r, es, rfl, rfl, hr⟩, s2⟩ := sel.one.1 st
    have hb := sp.heap_own
    obtain ⟨f1, f2⟩ := hr.fi hfi
    rw [Nat.zero_add] at f1
    refine ⟨(), w.putObj r (.map (es.modify n fun e => { e with val := a.eval u }).toArray es.length), h, (PH.one r (.map (es.modify n fun e => { e with val := a.eval u }).toArray es.length)).join m2, ?_, HL.same (Same.putObj _ _ _), Sep.put _ d12 sp, ?_⟩
    · have f1' : es.toArray.findIdx? (fun e => (e.born : Int) == (n : Int)) = some n := by simpa using f1
      simp [execOp, Instr.entryStore, h1, h2, Sem.run_bind, run_getObj_map hb, asInt, asIntOf, f1, f1']
      rw [run_setObj_map _ hb]
      rfl
    · exact ⟨_, m2, PH.one_disj_iff.2 (PH.one_disj_iff.1 d12), rfl, ⟨r, _, rfl, by simp, f2 z _ h3⟩, s2⟩
end
section
variable {C : Cx} {E : Env} {L : List SP} {d : Option Nat} {ty : Nat} {pos : String} {af : Array Edge} {g : Option (Nat × Bool)}
theorem nth_bytes {s : ByteArray} {i : Nat} (h : i < s.size) : s[i]? = some (s.data.toList.getD i 0) := by
  have h2 : i < s.data.size := h
  rw [getElem?_pos s i h]
  simp [List.getD, h2]
  rw [Array.getElem?_eq_getElem h2]; rfl
theorem step_index_str {T i : Nat} {x y : Operand} {s : ByteArray} {k : IntKind} {n : Int} (hu : C.P.underlying T = some .string) (hx : Sub (opTy E x) (tV (.string s))) (hy : Sub (opTy E y) (tV (.int k n))) (hi : n = i) (hl : i < s.size) :
    Step1 C ⟨d, .index T x y, ty, pos, af, g⟩ E L (tV (.int .u8 (nth (bytesOf s) i))) :=
  Step.of_same (by intro c h; cases h) fun a w h hh f => by
    have h1 : a.eval x = .string s := f.get hx
    have h2 : a.eval y = .int k n := f.get hy
    subst hi
    have e : nth (bytesOf s) i = ((s.data.toList.getD i 0).toNat : Int) := by
      have hl' : i < (bytesOf s).length := by rw [bytesOf_len]; exact hl
      rw [nth_get hl']
      have h2 : i < s.data.toList.length := hl
      have h3 : i < s.data.size := hl
      simp only [bytesOf, List.getElem_map]
      rw [List.getD_eq_getElem?_getD, List.getElem?_eq_getElem h2]
      rfl
    refine ⟨.int .u8 (nth (bytesOf s) i), ?_, rfl⟩
    rw [e]
    simp [execOp, Instr.index, h1, h2, run_underlying hu, asIntOf, nth_bytes hl]
theorem step_add8 {T U : Nat} {x y : Operand} {a b m : Int} (hx : Sub (opTy E x) (tV (.int .u8 a))) (hy : Sub (opTy E y) (tV (.int .u8 b))) (hm : IntKind.u8.wrap (a + b) = m) :
    Step1 C ⟨d, .binOp .add T x y U, ty, pos, af, g⟩ E L (tV (.int .u8 m)) := step_int hx hy (fun P w => by simp [binOp, Op.intArith, hm])
theorem step_sub8 {T U : Nat} {x y : Operand} {a b m : Int} (hx : Sub (opTy E x) (tV (.int .u8 a))) (hy : Sub (opTy E y) (tV (.int .u8 b))) (hm : IntKind.u8.wrap (a - b) = m) :
    Step1 C ⟨d, .binOp .sub T x y U, ty, pos, af, g⟩ E L (tV (.int .u8 m)) := step_int hx hy (fun P w => by simp [binOp, Op.intArith, hm])
theorem step_quo {T U : Nat} {x y : Operand} {a b : Int} (hx : Sub (opTy E x) (tV (.int .i64 a))) (hy : Sub (opTy E y) (tV (.int .i64 b))) (ha : 0 ≤ a) (hb : 0 < b) (hr : in64 (a / b)) :
    Step1 C ⟨d, .binOp .quo T x y U, ty, pos, af, g⟩ E L (tV (.int .i64 (a / b))) := step_int hx hy (fun P w => by
  have h1 : a.tdiv b = a / b := Int.tdiv_eq_ediv_of_nonneg ha
  have h2 : ¬ b = 0 := by omega
  simp [binOp, Op.intDiv, h1, h2, wrap64_in hr])
theorem step_max {T U : Nat} {x y : Operand} {k k' : IntKind} {a b : Int} (hx : Sub (opTy E x) (tV (.int k a))) (hy : Sub (opTy E y) (tV (.int k' b))) :
    Step1 C ⟨d, .call { callee := .builtin .max, args := #[x, y], argTypes := #[T, U] }, ty, pos, af, g⟩ E L (tV (.int k (if b > a then b else a))) :=
  Step.of_same (by intro c h; cases h) fun a' w h hw f => by
    have h1 : a'.eval x = .int k a := f.get hx
    have h2 : a'.eval y = .int k' b := f.get hy
    refine ⟨.int k (if b > a then b else a), ?_, rfl⟩
    simp [execOp, resolve, invoke, builtin, Builtin.max_, Builtin.max2, h1, h2]
    try split <;> simp_all
theorem step_min {T U : Nat} {x y : Operand} {k k' : IntKind} {a b : Int} (hx : Sub (opTy E x) (tV (.int k a))) (hy : Sub (opTy E y) (tV (.int k' b))) :
    Step1 C ⟨d, .call { callee := .builtin .min, args := #[x, y], argTypes := #[T, U] }, ty, pos, af, g⟩ E L (tV (.int k (if b < a then b else a))) :=
  Step.of_same (by intro c h; cases h) fun a' w h hw f => by
    have h1 : a'.eval x = .int k a := f.get hx
    have h2 : a'.eval y = .int k' b := f.get hy
    refine ⟨.int k (if b < a then b else a), ?_, rfl⟩
    simp [execOp, resolve, invoke, builtin, Builtin.min_, Builtin.min2, h1, h2]
    try split <;> simp_all
theorem step_add_str {T U : Nat} {x y : Operand} {a b : ByteArray} (hx : Sub (opTy E x) (tV (.string a))) (hy : Sub (opTy E y) (tV (.string b))) (hs : a.size + b.size ≤ 9223372036854775807) :
    Step1 C ⟨d, .binOp .add T x y U, ty, pos, af, g⟩ E L (tV (.string (a ++ b))) := step_str hx hy (fun P w => by simp [binOp, Op.stringOp]; omega)
/-- s == nil -/
theorem step_eql_slnil {α : Type} {T U e : Nat} {R : Rp α} {x : Operand} {xs : List α} (hu : C.P.underlying T = some (.slice e)) (hx : Sub (opTy E x) (tSl R xs)) :
    Step (X := { b : Bool // b = true → xs = [] }) C ⟨d, .binOp .eql T x (.const (.slice none 0 0)) U, ty, pos, af, g⟩ E L (fun b => tV (.bool b.1)) (fun _ => L) :=
  Step.of_run (by intro c h; cases h) fun a w h m l sp st fr => by
    obtain ⟨ao, cap, hv, H⟩ := fr.get hx
    refine ⟨⟨ao.isNone, fun hb => ?_⟩, .bool ao.isNone, w, h, m, ?_, HL.refl, sp, st, rfl⟩
    · by_cases hne : xs = []
      · exact hne
      · obtain ⟨b, off, rfl, _⟩ := H hne
        cases hb
    · have he : ∀ w, (eqGuard .eql T x (.const (.slice none 0 0)) (a.eval x) (.slice none 0 0)).run C.P w = .ok () w := by intro w; rw [hv]; simp [eqGuard]
      have h2 : a.eval (.const (.slice none 0 0)) = .slice none 0 0 := rfl
      have hr := Lib.run_eql_slice_nil (P := C.P) w T e ao xs.length cap 0 0 hu
      rw [hv] at he
      simp [execOp, hv, h2, Sem.run_bind, he, hr]
theorem Sep.newImm {h m r : PH} {w w' : World} {o : Obj} (s : Sep h m r w) (hold : ∀ j, j < w.heap.size → w'.heap[j]? = w.heap[j]?) (hnew : w'.heap[w.heap.size]? = some o) : Sep (h.join (PH.one w.heap.size o)) m r w' := by
  have s2 := s.allocImm o
  have go : ∀ {p : PH}, p.inw (w.alloc o) → p.inw w' := fun {p} hp b o' e => by
    have h1 := hp b o' e
    have hlt := (Array.getElem?_eq_some_iff.1 h1).1
    rw [show (w.alloc o).heap = w.heap.push o from rfl] at h1 hlt
    by_cases hb : b < w.heap.size
    · rw [hold b hb]; rw [Array.getElem?_push_lt hb] at h1; rw [Array.getElem?_eq_getElem hb]; exact h1
    · have : b = w.heap.size := by simp at hlt; omega
      subst this
      rw [hnew]; simpa using h1
  exact ⟨s2.inv, s2.hm, s2.hr, s2.mr, go s2.hw, go s2.mw, go s2.rw⟩
/-- []byte(s) -/
theorem step_convert_bytes {T U e : Nat} {x : Operand} {s : ByteArray} (hs : C.P.underlying T = some .string) (hd : C.P.underlying U = some (.slice e)) (he : C.P.underlying e = some (.int .u8)) (hx : Sub (opTy E x) (tV (.string s))) :
    Step1 C ⟨d, .convert T U x, ty, pos, af, g⟩ E L (tSl rU8 (bytesOf s)) :=
  Step.of_run (by intro c h; cases h) fun a w h m l sp st fr => by
    have hv : a.eval x = .string s := fr.get hx
    refine ⟨(), .slice (some ⟨w.heap.size, 0, none⟩) s.size (grownCap w s.size 0 e), Lib.bytesWorld w e s, h.join (PH.one w.heap.size (.cells (Lib.bytesCells w e s) e ((Lib.bytesCells w e s).size, (Lib.bytesCells w e s).size + 1))), m, ?_, ⟨PH.le_join_left _ _, ?_⟩, sp.newImm (fun j hj => Lib.bytesWorld_at_old w e s j hj) (Lib.bytesWorld_at_new w e s), (stars L).mono (PH.le_join_left _ _) st, ?_⟩
    · simp [execOp, hv, Lib.run_convert_string_bytes (P := C.P) w T U e s hs hd he]
    · exact ⟨rfl, rfl, rfl⟩
    · have := tSl_of_relAll (R := rU8) (h := h.join (PH.one w.heap.size (.cells (Lib.bytesCells w e s) e ((Lib.bytesCells w e s).size, (Lib.bytesCells w e s).size + 1)))) (b := w.heap.size) (off := 0) (cap := grownCap w s.size 0 e) (c := Lib.bytesCells w e s) (e := e) (fz := ((Lib.bytesCells w e s).size, (Lib.bytesCells w e s).size + 1)) (xs := bytesOf s) (cs := (bytesOf s).map (Value.int .u8 ·)) (PH.le_join_right (PH.one_disj_new sp.hw _) _ _ (PH.one_same _ _)) (relAll_u8.2 rfl) (fun j v hv => by
        simp only [List.getElem?_map, Option.map_eq_some_iff] at hv
        obtain ⟨n, hn, rfl⟩ := hv
        simp only [bytesOf, List.getElem?_map, Option.map_eq_some_iff] at hn
        obtain ⟨b, hb, rfl⟩ := hn
        have hlt : j < s.data.size := by
          have := (List.getElem?_eq_some_iff.1 hb).1
          simpa using this
        rw [Nat.zero_add]
        simp only [Lib.bytesCells]
        rw [Array.getElem?_append_left (by simpa using hlt)]
        have hb2 : s.data[j]? = some b := by simpa using hb
        simp [hb2])
      rw [bytesOf_len] at this
      exact this
/-- s[n:] of a slice that may not change, of elements of one cell. -/
theorem step_slice_fromC {α : Type} {T e n : Nat} {R : Rp α} {x y : Operand} {xs : List α} {k : IntKind} {i : Int} (hu : C.P.underlying T = some (.slice e)) (hR : TyOf C.P e R) (hk : R.k = 1)
    (hx : Sub (opTy E x) (tSlC R xs)) (hy : Sub (opTy E y) (tV (.int k i))) (hi : i = n) (hn : n ≤ xs.length) :
    Step1 C ⟨d, .slice T x (some y) none none, ty, pos, af, g⟩ E L (tSlC R (xs.drop n)) :=
  Step.of_run (by intro c h; cases h) fun a w h m l sp st fr => by
    obtain ⟨⟨ao, cap, hv, H⟩, hC⟩ := fr.get hx
    have hlc := hC _ _ _ hv
    have h2 : a.eval y = .int k i := fr.get hy
    have hsz : ∀ w, (Go.sizeOf e).run C.P w = .ok 1 w := fun w => by have := hR.size w; rw [hk] at this; exact this
    subst hi
    refine ⟨(), .slice (if cap = n then ao else ao.map (·.add n)) (xs.length - n) (cap - n), w, h, _, ?_, HL.refl, sp, st, ⟨_, cap - n, by rw [List.length_drop], fun hne => ?_⟩, fun ao' len' cap' e => by injection e with e1 e2 e3; omega⟩
    · simp [execOp, Instr.sliceAt, run_underlying hu, hv, h2, Instr.slice, Instr.sliceBounds, Instr.sliceBound, asIntOf, hsz, hn]
    · have hlt : n < xs.length := by
        rcases Nat.lt_or_ge n xs.length with q | q
        · exact q
        · exact absurd (List.drop_of_length_le q) hne
      obtain ⟨b, off, ea, H'⟩ := H (fun e => by rw [e] at hlt; simp at hlt)
      refine ⟨b, off + n, by rw [if_neg (by omega), ea]; simp [addr_add], fun j z hz => ?_⟩
      obtain ⟨cs, q1, q2⟩ := H' (n + j) z (by simpa [List.getElem?_drop] using hz)
      rw [hk, Nat.mul_one] at q1 ⊢
      exact ⟨cs, by rw [show off + n + j = off + (n + j) by omega]; exact q1, q2⟩
end
end Lg

/- Maps that no one changes any more; slices.DeleteFunc in own memory; prefixes of strings. -/
namespace Lg
open Go
section
variable {κ β : Type} [DecidableEq κ]
/-- A map in immutable memory. -/
def tMapI (kv : κ → Value) (R : Rp β) (m : List (κ × β)) : Ty := ⟨fun h v => ∃ m1 : PH, m1.le h ∧ (mapOwn kv R v m).p h m1, fun {h h' v} l ⟨m1, a, b⟩ => ⟨m1, PH.le_trans a l, (mapOwn kv R v m).mono l b⟩⟩
theorem Frz.mapI {kv : κ → Value} {R : Rp β} {v : Value} {m : List (κ × β)} {S : List SP} : Frz (mapOwn kv R v m :: S) (tV v) (tMapI kv R m) := fun h mm u d ⟨m1, m2, d12, em, ho, _⟩ hu => by
  subst em
  have hu : u = v := hu
  subst hu
  have hd := PH.disj_join'.1 d
  exact ⟨m1, fun b o e => PH.le_join_right d _ _ (PH.le_join_left _ _ _ _ e), (mapOwn kv R u m).mono (PH.le_join_left _ _) ho⟩
variable {kv : κ → Value} {R : Rp β}
variable {C : Cx} {E : Env} {L : List SP} {d : Option Nat} {ty : Nat} {pos : String} {af : Array Edge} {g : Option (Nat × Bool)}
theorem step_lookupI_ok {T kt e : Nat} {x y : Operand} {m : List (κ × β)} {q : κ} {z : β} {zv : Value} (K : KeyT C.P kt kv) (hu : C.P.underlying T = some (.map kt e)) (hz : ∀ w, (zeroValue e).run C.P w = .ok zv w) (hzr : ∀ h, (R.ty z).p h zv)
    (hx : Sub (opTy E x) (tMapI kv R m)) (hy : Sub (opTy E y) (tV (kv q))) : Step1 C ⟨d, .lookup T x y true, ty, pos, af, g⟩ E L (tTup [R.ty ((mget m q).getD z), tV (.bool (mget m q).isSome)]) :=
  Step.of_run (by intro c h; cases h) fun a w h mm l sp st fr => by
    obtain ⟨m1, hle, ho⟩ := fr.get hx
    have h2 : a.eval y = kv q := fr.get hy
    obtain ⟨u, hu1, hrun⟩ := run_lookup (P := C.P) K hu hz hzr ho (fun b o e => sp.hw _ _ (hle _ _ e)) q true
    exact ⟨(), _, w, h, _, by simp [execOp, h2, hrun], HL.refl, sp, st, ⟨[u, .bool _], rfl, hu1, rfl, trivial⟩⟩
end
section
variable {C : Cx} {E : Env} {L : List SP} {d : Option Nat} {ty : Nat} {pos : String} {af : Array Edge} {g : Option (Nat × Bool)}
/-- s[:j] of a string. -/
theorem step_slice_strTo {T : Nat} {x z : Operand} {s : ByteArray} {k : IntKind} {b : Int} (hu : C.P.underlying T = some .string) (hx : Sub (opTy E x) (tV (.string s))) (hz : Sub (opTy E z) (tV (.int k b)))
    (h0 : 0 ≤ b) (hj : b ≤ s.size) : Step1 C ⟨d, .slice T x none (some z) none, ty, pos, af, g⟩ E L (tV (.string (s.extract 0 b.toNat))) :=
  Step.of_same (by intro c h; cases h) fun ac w h hh f => by
    have h1 : ac.eval x = .string s := f.get hx
    have h3 : ac.eval z = .int k b := f.get hz
    have hr := run_slice_string_h (P := C.P) w T s hu k b h0 hj
    refine ⟨.string (s.extract 0 b.toNat), ?_, rfl⟩
    simp [execOp, Instr.sliceAt, run_underlying hu, h1, h3, hr]
end
theorem delStr_spec {P : Program} {ρ : Shelf.Ren} (LL : Go.Proofs.SlLaysH.n10 P ρ) (p : List UInt8 → Bool) (gf : Nat) (eg : ∀ args w, (callFunc gf args).run P w = .ok (.enter gf args) w) (hz : ∀ w, (zeroValue (ρ.t 23)).run P w = .ok (Go.Proofs.encStr []) w)
    (hp : ∀ (W : World) (x : List UInt8), Calls P gf #[Go.Proofs.encStr x] W fun e w' => e = .returned (.bool (p x)) ∧ w' = W)
    (hnil : ∀ (fv : Value) (w : World), Calls P (ρ.f 10) #[.slice none 0 0, fv] w fun e w' => e = .returned (.slice none 0 0) ∧ w' = w) (v : Value) (xs : List ByteArray) (hn : xs.length ≤ 9223372036854775807) :
    Spec (X := Value) P (ρ.f 10) [rV.ty v, tV (.func (.func gf) #[] #[])] [own 9 rStr v xs] (fun z => rV.ty z) (fun z => [own 9 rStr z (xs.filter fun x => !p (ofB x))]) := by
  intro vs h m0 r w ha sp st
  match vs, ha with
  | [u1, u2], ⟨a1, a2, _⟩ =>
  obtain ⟨e1, _⟩ := a1
  have e2 : u2 = .func (.func gf) #[] #[] := a2
  subst e1; subst e2
  obtain ⟨m1, m2, d12, rfl, ho, e3⟩ := st
  rw [stars_nil] at e3; subst e3
  rw [PH.join_emp] at sp
  rcases ho with ⟨rfl, rfl, rfl⟩ | ⟨g, cap, cur, rfl, rfl, hl, hmx, hs, hr⟩
  · refine (hnil _ w).mono ?_
    rintro e' w' ⟨rfl, rfl⟩
    exact ⟨.slice none 0 0, _, h, PH.emp, rfl, HL.refl, sp, ⟨PH.emp, PH.emp, PH.disj_emp _, (PH.join_emp _).symm, .inl ⟨rfl, rfl, rfl⟩, rfl⟩, ⟨rfl, rfl⟩⟩
  · have hk1 : rStr.k = 1 := rfl
    rw [hk1, Nat.mul_one] at hs hr
    rw [relAll_str] at hr
    have hb := sp.mw g _ (PH.one_same _ _)
    have hH : Sort.Holds Go.Proofs.encStr w g 0 (xs.map ofB).toArray := fun j hj => ⟨by
      rw [Nat.zero_add]; simp only [World.cell?, hb]
      have hj' : j < xs.length := by simpa using hj
      have : (cur.toList.take xs.length)[j]? = some (.string xs[j]) := by rw [hr]; simp [hj']
      rw [List.getElem?_take, if_pos hj'] at this
      rw [getElem!_pos _ j hj]
      have e2 : Go.Proofs.encStr ((xs.map ofB).toArray[j]) = .string xs[j] := by
        simp only [List.getElem_toArray, List.getElem_map]
      rw [e2]
      first | exact this | simpa using this, by simp [World.frozen?, hb]⟩
    have hblk : g < w.heap.size := (Array.getElem?_eq_some_iff.1 hb).1
    have hfg : ∀ (W : World) (x : List UInt8), Go.Proofs.FnGives P gf #[] #[Go.Proofs.encStr x] (.bool (p x)) W := fun W x => (hp W x).mono fun e w' ⟨h1, h2⟩ => ⟨h1, 0, h2⟩
    have hlen0 : (xs.map ofB).toArray.size = xs.length := by simp
    have hk := Go.Proofs.AnyE.slices_DeleteFunc LL Go.Proofs.encStr (fun _ => rfl) p gf #[] eg [] hz g 0 cap (xs.map ofB).toArray w (fun W x _ => hfg W x) (fun n os dk x _ => hfg _ x) hH (by rw [hlen0]; exact hn) (by rw [hlen0]; exact hl)
    rw [hlen0] at hk
    have hfl : ((xs.map ofB).toArray.toList.filter fun x => !p x) = (xs.filter fun x => !p (ofB x)).map ofB := by
      rw [List.toList_toArray, List.filter_map]; rfl
    rw [hfl] at hk
    have hle : (xs.filter fun x => !p (ofB x)).length ≤ xs.length := List.length_filter_le _ _
    generalize hys : (xs.filter fun x => !p (ofB x)) = ys at hk hle
    rw [List.length_map] at hk
    refine hk.mono ?_
    rintro e' w' ⟨rfl, q, rfl⟩
    generalize hdk : (ys.map ofB ++ List.replicate (xs.length - ys.length) []).toArray = dk
    have hds : dk.size = xs.length := by rw [← hdk]; simp; omega
    have hw' : Go.Proofs.sortWorld Go.Proofs.encStr w g 0 q dk #[] = Sort.putRow Go.Proofs.encStr (Sort.ahead w q) g 0 dk := by unfold Go.Proofs.sortWorld; rw [Sort.grow_empty]
    rw [← hw']
    refine ⟨.slice (some ⟨g, 0, none⟩) ys.length cap, _, h, PH.one g (.cells (Sort.putCells Go.Proofs.encStr 0 dk cur) 9 (0, 0)), rfl, HL.same ⟨rfl, rfl, rfl⟩, ?_, ⟨_, PH.emp, PH.disj_emp _, (PH.join_emp _).symm, .inr ⟨g, cap, _, rfl, rfl, by omega, hmx, ?_, ?_⟩, rfl⟩, ⟨rfl, rfl⟩⟩
    · have sp' : Sep h ((PH.one g (.cells cur 9 (0, 0))).join PH.emp) r w := by rw [PH.join_emp]; exact sp
      have := Sep.write (o' := .cells (Sort.putCells Go.Proofs.encStr 0 dk cur) 9 (0, 0)) (PH.disj_emp _) sp' (fun b hne' hb' => sortWorld_other (enc := Go.Proofs.encStr) (off := 0) (m := q) (dk := dk) (os := #[]) hb' hne') (sortWorld_row hb)
      rw [PH.join_emp] at this; exact this
    · simp [Sort.putCells, hs, hk1]
    · rw [hk1, Nat.mul_one, relAll_str]
      apply List.ext_getElem?
      intro j
      rw [List.getElem?_take]
      split
      · rename_i hj
        have hjc : j < cur.size := by omega
        have hjd : j < dk.size := by omega
        have hdj : dk[j]! = ofB ys[j] := by
          rw [getElem!_pos dk j hjd]
          subst hdk
          simp [List.getElem_append, hj]
        have hds' : dk.size = xs.length := hds
        rw [Array.getElem?_toList, List.getElem?_map, List.getElem?_eq_getElem hj, Option.map_some]
        simp only [Sort.putCells, Array.getElem?_mapIdx, Array.getElem?_eq_getElem hjc, Option.map_some]
        rw [if_pos ⟨Nat.zero_le _, by omega⟩, Nat.sub_zero, hdj]
      · rw [List.getElem?_eq_none (by rw [List.length_map]; omega)]
end Lg

namespace Lg
open Go Go.Proofs
abbrev rU64 : Rp Int := rS (fun n => .int .u64 n) (fun _ => rfl)
abbrev rI32 : Rp Int := rS (fun n => .int .i32 n) (fun _ => rfl)

theorem ty3 : TyOf Tryz.prog 3 rInt := ⟨fun w => Tryz.isAgg3 w, fun w => Tryz.sizeOf3 w⟩
theorem zr3 : ∀ h, (rInt.ty 0).p h (Value.int .i64 0) := fun _ => rfl
theorem el3 : ElT Tryz.prog 3 rInt 8 0 := ⟨ty3, by decide, Tryz.t3, (Value.int .i64 0), by kernel_rfl, by kernel_rfl, by kernel_rfl, by kernel_rfl, zr3⟩
theorem ty4 : TyOf Tryz.prog 4 rBool := ⟨fun w => Tryz.isAgg4 w, fun w => Tryz.sizeOf4 w⟩
theorem zr4 : ∀ h, (rBool.ty false).p h (Value.bool false) := fun _ => rfl
theorem el4 : ElT Tryz.prog 4 rBool 1 false := ⟨ty4, by decide, Tryz.t4, (Value.bool false), by kernel_rfl, by kernel_rfl, by kernel_rfl, by kernel_rfl, zr4⟩
theorem ty5 : TyOf Tryz.prog 5 rU8 := ⟨fun w => Tryz.isAgg5 w, fun w => Tryz.sizeOf5 w⟩
theorem zr5 : ∀ h, (rU8.ty 0).p h (Value.int .u8 0) := fun _ => rfl
theorem el5 : ElT Tryz.prog 5 rU8 1 0 := ⟨ty5, by decide, Tryz.t5, (Value.int .u8 0), by kernel_rfl, by kernel_rfl, by kernel_rfl, by kernel_rfl, zr5⟩
theorem ty9 : TyOf Tryz.prog 9 rStr := ⟨fun w => Tryz.isAgg9 w, fun w => Tryz.sizeOf9 w⟩
theorem zr9 : ∀ h, (rStr.ty ⟨#[]⟩).p h (Value.string ⟨#[]⟩) := fun _ => rfl
theorem el9 : ElT Tryz.prog 9 rStr 16 ⟨#[]⟩ := ⟨ty9, by decide, Tryz.t9, (Value.string ⟨#[]⟩), by kernel_rfl, by kernel_rfl, by kernel_rfl, by kernel_rfl, zr9⟩
theorem ty37 : TyOf Tryz.prog 37 rInt := ⟨fun w => Tryz.isAgg37 w, fun w => Tryz.sizeOf37 w⟩
theorem zr37 : ∀ h, (rInt.ty 0).p h (Value.int .i64 0) := fun _ => rfl
theorem el37 : ElT Tryz.prog 37 rInt 8 0 := ⟨ty37, by decide, Tryz.t37, (Value.int .i64 0), by kernel_rfl, by kernel_rfl, by kernel_rfl, by kernel_rfl, zr37⟩
def fsA2 : List (SF (Int × Int)) := [⟨Int, 3, rInt, Prod.fst⟩, ⟨Int, 3, rInt, Prod.snd⟩]
abbrev rA2 : Rp (Int × Int) := rStruct fsA2
theorem ty52 : TyOf Tryz.prog 52 rA2 := ⟨fun w => Tryz.isAgg52 w, fun w => Tryz.sizeOf52 w⟩
theorem zr52 : ∀ h, (rA2.ty (0, 0)).p h (.agg #[Value.int .i64 0, Value.int .i64 0]) := fun _ => ⟨_, ⟨[Value.int .i64 0], _, rfl, rfl, ⟨[Value.int .i64 0], _, rfl, rfl, rfl⟩⟩, rfl⟩
theorem el52 : ElT Tryz.prog 52 rA2 16 (0, 0) := ⟨ty52, by decide, Tryz.t52, (.agg #[Value.int .i64 0, Value.int .i64 0]), by kernel_rfl, by kernel_rfl, by kernel_rfl, by kernel_rfl, zr52⟩
structure GValue where
  Kind : Int
  N : Int
  Text : ByteArray
def zValue : GValue := { Kind := 0, N := 0, Text := ⟨#[]⟩ }
instance : Inhabited GValue := ⟨zValue⟩
def fsValue : List (SF GValue) := [⟨Int, 3, rInt, GValue.Kind⟩, ⟨Int, 3, rInt, GValue.N⟩, ⟨ByteArray, 9, rStr, GValue.Text⟩]
abbrev rValue : Rp GValue := rStruct fsValue
theorem ty47 : TyOf Tryz.prog 47 rValue := ⟨fun w => Tryz.isAgg47 w, fun w => Tryz.sizeOf47 w⟩
theorem so47 : StructOf Tryz.prog 47 fsValue := ⟨⟨_, Tryz.underlying47, ⟨rfl, rfl, ty3, by decide, ⟨rfl, rfl, ty3, by decide, ⟨rfl, rfl, ty9, by decide, trivial⟩⟩⟩⟩, ty47⟩
theorem zr47 : ∀ h, (rValue.ty zValue).p h (.agg #[Value.int .i64 0, Value.int .i64 0, Value.string ⟨#[]⟩]) := fun _ => ⟨_, ⟨[Value.int .i64 0], _, rfl, rfl, ⟨[Value.int .i64 0], _, rfl, rfl, ⟨[Value.string ⟨#[]⟩], _, rfl, rfl, rfl⟩⟩⟩, rfl⟩
theorem el47 : ElT Tryz.prog 47 rValue 32 zValue := ⟨ty47, by decide, Tryz.t47, (.agg #[Value.int .i64 0, Value.int .i64 0, Value.string ⟨#[]⟩]), by kernel_rfl, by kernel_rfl, by kernel_rfl, by kernel_rfl, zr47⟩
structure GCell where
  Value : GValue
  Seq : Int
  Time : Int
def zCell : GCell := { Value := zValue, Seq := 0, Time := 0 }
instance : Inhabited GCell := ⟨zCell⟩
def fsCell : List (SF GCell) := [⟨GValue, 47, rValue, GCell.Value⟩, ⟨Int, 3, rInt, GCell.Seq⟩, ⟨Int, 3, rInt, GCell.Time⟩]
abbrev rCell : Rp GCell := rStruct fsCell
theorem ty49 : TyOf Tryz.prog 49 rCell := ⟨fun w => Tryz.isAgg49 w, fun w => Tryz.sizeOf49 w⟩
theorem so49 : StructOf Tryz.prog 49 fsCell := ⟨⟨_, Tryz.underlying49, ⟨rfl, rfl, ty47, by decide, ⟨rfl, rfl, ty3, by decide, ⟨rfl, rfl, ty3, by decide, trivial⟩⟩⟩⟩, ty49⟩
theorem zr49 : ∀ h, (rCell.ty zCell).p h (.agg #[Value.int .i64 0, Value.int .i64 0, Value.string ⟨#[]⟩, Value.int .i64 0, Value.int .i64 0]) := fun _ => ⟨_, ⟨[Value.int .i64 0, Value.int .i64 0, Value.string ⟨#[]⟩], _, rfl, ⟨[Value.int .i64 0], _, rfl, rfl, ⟨[Value.int .i64 0], _, rfl, rfl, ⟨[Value.string ⟨#[]⟩], _, rfl, rfl, rfl⟩⟩⟩, ⟨[Value.int .i64 0], _, rfl, rfl, ⟨[Value.int .i64 0], _, rfl, rfl, rfl⟩⟩⟩, rfl⟩
theorem el49 : ElT Tryz.prog 49 rCell 48 zCell := ⟨ty49, by decide, Tryz.t49, (.agg #[Value.int .i64 0, Value.int .i64 0, Value.string ⟨#[]⟩, Value.int .i64 0, Value.int .i64 0]), by kernel_rfl, by kernel_rfl, by kernel_rfl, by kernel_rfl, zr49⟩
structure GKey where
  Source : Int
  Table : ByteArray
  Record : ByteArray
def zKey : GKey := { Source := 0, Table := ⟨#[]⟩, Record := ⟨#[]⟩ }
instance : Inhabited GKey := ⟨zKey⟩
def fsKey : List (SF GKey) := [⟨Int, 3, rInt, GKey.Source⟩, ⟨ByteArray, 9, rStr, GKey.Table⟩, ⟨ByteArray, 9, rStr, GKey.Record⟩]
abbrev rKey : Rp GKey := rStruct fsKey
theorem ty25 : TyOf Tryz.prog 25 rKey := ⟨fun w => Tryz.isAgg25 w, fun w => Tryz.sizeOf25 w⟩
theorem so25 : StructOf Tryz.prog 25 fsKey := ⟨⟨_, Tryz.underlying25, ⟨rfl, rfl, ty3, by decide, ⟨rfl, rfl, ty9, by decide, ⟨rfl, rfl, ty9, by decide, trivial⟩⟩⟩⟩, ty25⟩
theorem zr25 : ∀ h, (rKey.ty zKey).p h (.agg #[Value.int .i64 0, Value.string ⟨#[]⟩, Value.string ⟨#[]⟩]) := fun _ => ⟨_, ⟨[Value.int .i64 0], _, rfl, rfl, ⟨[Value.string ⟨#[]⟩], _, rfl, rfl, ⟨[Value.string ⟨#[]⟩], _, rfl, rfl, rfl⟩⟩⟩, rfl⟩
theorem el25 : ElT Tryz.prog 25 rKey 40 zKey := ⟨ty25, by decide, Tryz.t25, (.agg #[Value.int .i64 0, Value.string ⟨#[]⟩, Value.string ⟨#[]⟩]), by kernel_rfl, by kernel_rfl, by kernel_rfl, by kernel_rfl, zr25⟩
theorem ty26 : TyOf Tryz.prog 26 (rSl rCell) := ⟨fun w => Tryz.isAgg26 w, fun w => Tryz.sizeOf26 w⟩
theorem ty26V : TyOf Tryz.prog 26 rV := ⟨fun w => Tryz.isAgg26 w, fun w => Tryz.sizeOf26 w⟩
theorem zr26 : ∀ h, ((rSl rCell).ty []).p h (Value.slice none 0 0) := fun _ => ⟨none, 0, rfl, fun q => absurd rfl q⟩
theorem el26 : ElT Tryz.prog 26 (rSl rCell) 24 [] := ⟨ty26, by decide, Tryz.t26, (Value.slice none 0 0), by kernel_rfl, by kernel_rfl, by kernel_rfl, by kernel_rfl, zr26⟩
structure GRecord where
  Key : GKey
  Table : Int
  Since : Int
  Cells : List GCell
def zRecord : GRecord := { Key := zKey, Table := 0, Since := 0, Cells := [] }
instance : Inhabited GRecord := ⟨zRecord⟩
def fsRecord : List (SF GRecord) := [⟨GKey, 25, rKey, GRecord.Key⟩, ⟨Int, 3, rInt, GRecord.Table⟩, ⟨Int, 3, rInt, GRecord.Since⟩, ⟨List GCell, 26, (rSl rCell), GRecord.Cells⟩]
abbrev rRecord : Rp GRecord := rStruct fsRecord
theorem ty28 : TyOf Tryz.prog 28 rRecord := ⟨fun w => Tryz.isAgg28 w, fun w => Tryz.sizeOf28 w⟩
theorem so28 : StructOf Tryz.prog 28 fsRecord := ⟨⟨_, Tryz.underlying28, ⟨rfl, rfl, ty25, by decide, ⟨rfl, rfl, ty3, by decide, ⟨rfl, rfl, ty3, by decide, ⟨rfl, rfl, ty26, by decide, trivial⟩⟩⟩⟩⟩, ty28⟩
theorem zr28 : ∀ h, (rRecord.ty zRecord).p h (.agg #[Value.int .i64 0, Value.string ⟨#[]⟩, Value.string ⟨#[]⟩, Value.int .i64 0, Value.int .i64 0, Value.slice none 0 0]) := fun _ => ⟨_, ⟨[Value.int .i64 0, Value.string ⟨#[]⟩, Value.string ⟨#[]⟩], _, rfl, ⟨[Value.int .i64 0], _, rfl, rfl, ⟨[Value.string ⟨#[]⟩], _, rfl, rfl, ⟨[Value.string ⟨#[]⟩], _, rfl, rfl, rfl⟩⟩⟩, ⟨[Value.int .i64 0], _, rfl, rfl, ⟨[Value.int .i64 0], _, rfl, rfl, ⟨[Value.slice none 0 0], _, rfl, ⟨_, rfl, none, 0, rfl, fun q => absurd rfl q⟩, rfl⟩⟩⟩⟩, rfl⟩
theorem el28 : ElT Tryz.prog 28 rRecord 80 zRecord := ⟨ty28, by decide, Tryz.t28, (.agg #[Value.int .i64 0, Value.string ⟨#[]⟩, Value.string ⟨#[]⟩, Value.int .i64 0, Value.int .i64 0, Value.slice none 0 0]), by kernel_rfl, by kernel_rfl, by kernel_rfl, by kernel_rfl, zr28⟩
structure GBlock where
  Name : ByteArray
  Table : Int
  Col : Int
  By : Int
  N : Int
  M : Int
def zBlock : GBlock := { Name := ⟨#[]⟩, Table := 0, Col := 0, By := 0, N := 0, M := 0 }
instance : Inhabited GBlock := ⟨zBlock⟩
def fsBlock : List (SF GBlock) := [⟨ByteArray, 9, rStr, GBlock.Name⟩, ⟨Int, 3, rInt, GBlock.Table⟩, ⟨Int, 3, rInt, GBlock.Col⟩, ⟨Int, 3, rInt, GBlock.By⟩, ⟨Int, 3, rInt, GBlock.N⟩, ⟨Int, 3, rInt, GBlock.M⟩]
abbrev rBlock : Rp GBlock := rStruct fsBlock
theorem ty35 : TyOf Tryz.prog 35 rBlock := ⟨fun w => Tryz.isAgg35 w, fun w => Tryz.sizeOf35 w⟩
theorem so35 : StructOf Tryz.prog 35 fsBlock := ⟨⟨_, Tryz.underlying35, ⟨rfl, rfl, ty9, by decide, ⟨rfl, rfl, ty3, by decide, ⟨rfl, rfl, ty3, by decide, ⟨rfl, rfl, ty3, by decide, ⟨rfl, rfl, ty3, by decide, ⟨rfl, rfl, ty3, by decide, trivial⟩⟩⟩⟩⟩⟩⟩, ty35⟩
theorem zr35 : ∀ h, (rBlock.ty zBlock).p h (.agg #[Value.string ⟨#[]⟩, Value.int .i64 0, Value.int .i64 0, Value.int .i64 0, Value.int .i64 0, Value.int .i64 0]) := fun _ => ⟨_, ⟨[Value.string ⟨#[]⟩], _, rfl, rfl, ⟨[Value.int .i64 0], _, rfl, rfl, ⟨[Value.int .i64 0], _, rfl, rfl, ⟨[Value.int .i64 0], _, rfl, rfl, ⟨[Value.int .i64 0], _, rfl, rfl, ⟨[Value.int .i64 0], _, rfl, rfl, rfl⟩⟩⟩⟩⟩⟩, rfl⟩
theorem el35 : ElT Tryz.prog 35 rBlock 56 zBlock := ⟨ty35, by decide, Tryz.t35, (.agg #[Value.string ⟨#[]⟩, Value.int .i64 0, Value.int .i64 0, Value.int .i64 0, Value.int .i64 0, Value.int .i64 0]), by kernel_rfl, by kernel_rfl, by kernel_rfl, by kernel_rfl, zr35⟩
theorem ty22 : TyOf Tryz.prog 22 (rSl rBlock) := ⟨fun w => Tryz.isAgg22 w, fun w => Tryz.sizeOf22 w⟩
theorem ty22V : TyOf Tryz.prog 22 rV := ⟨fun w => Tryz.isAgg22 w, fun w => Tryz.sizeOf22 w⟩
theorem zr22 : ∀ h, ((rSl rBlock).ty []).p h (Value.slice none 0 0) := fun _ => ⟨none, 0, rfl, fun q => absurd rfl q⟩
theorem el22 : ElT Tryz.prog 22 (rSl rBlock) 24 [] := ⟨ty22, by decide, Tryz.t22, (Value.slice none 0 0), by kernel_rfl, by kernel_rfl, by kernel_rfl, by kernel_rfl, zr22⟩
theorem ty23 : TyOf Tryz.prog 23 (rSl rRecord) := ⟨fun w => Tryz.isAgg23 w, fun w => Tryz.sizeOf23 w⟩
theorem ty23V : TyOf Tryz.prog 23 rV := ⟨fun w => Tryz.isAgg23 w, fun w => Tryz.sizeOf23 w⟩
theorem zr23 : ∀ h, ((rSl rRecord).ty []).p h (Value.slice none 0 0) := fun _ => ⟨none, 0, rfl, fun q => absurd rfl q⟩
theorem el23 : ElT Tryz.prog 23 (rSl rRecord) 24 [] := ⟨ty23, by decide, Tryz.t23, (Value.slice none 0 0), by kernel_rfl, by kernel_rfl, by kernel_rfl, by kernel_rfl, zr23⟩
theorem ty32 : TyOf Tryz.prog 32 (rSl rStr) := ⟨fun w => Tryz.isAgg32 w, fun w => Tryz.sizeOf32 w⟩
theorem ty32V : TyOf Tryz.prog 32 rV := ⟨fun w => Tryz.isAgg32 w, fun w => Tryz.sizeOf32 w⟩
theorem zr32 : ∀ h, ((rSl rStr).ty []).p h (Value.slice none 0 0) := fun _ => ⟨none, 0, rfl, fun q => absurd rfl q⟩
theorem el32 : ElT Tryz.prog 32 (rSl rStr) 24 [] := ⟨ty32, by decide, Tryz.t32, (Value.slice none 0 0), by kernel_rfl, by kernel_rfl, by kernel_rfl, by kernel_rfl, zr32⟩
theorem ty40 : TyOf Tryz.prog 40 (rSl rInt) := ⟨fun w => Tryz.isAgg40 w, fun w => Tryz.sizeOf40 w⟩
theorem ty40V : TyOf Tryz.prog 40 rV := ⟨fun w => Tryz.isAgg40 w, fun w => Tryz.sizeOf40 w⟩
theorem zr40 : ∀ h, ((rSl rInt).ty []).p h (Value.slice none 0 0) := fun _ => ⟨none, 0, rfl, fun q => absurd rfl q⟩
theorem el40 : ElT Tryz.prog 40 (rSl rInt) 24 [] := ⟨ty40, by decide, Tryz.t40, (Value.slice none 0 0), by kernel_rfl, by kernel_rfl, by kernel_rfl, by kernel_rfl, zr40⟩
theorem ty36 : TyOf Tryz.prog 36 (rSl rA2) := ⟨fun w => Tryz.isAgg36 w, fun w => Tryz.sizeOf36 w⟩
theorem ty36V : TyOf Tryz.prog 36 rV := ⟨fun w => Tryz.isAgg36 w, fun w => Tryz.sizeOf36 w⟩
theorem zr36 : ∀ h, ((rSl rA2).ty []).p h (Value.slice none 0 0) := fun _ => ⟨none, 0, rfl, fun q => absurd rfl q⟩
theorem el36 : ElT Tryz.prog 36 (rSl rA2) 24 [] := ⟨ty36, by decide, Tryz.t36, (Value.slice none 0 0), by kernel_rfl, by kernel_rfl, by kernel_rfl, by kernel_rfl, zr36⟩
theorem ty117 : TyOf Tryz.prog 117 (rSl rU8) := ⟨fun w => Tryz.isAgg117 w, fun w => Tryz.sizeOf117 w⟩
theorem ty117V : TyOf Tryz.prog 117 rV := ⟨fun w => Tryz.isAgg117 w, fun w => Tryz.sizeOf117 w⟩
theorem zr117 : ∀ h, ((rSl rU8).ty []).p h (Value.slice none 0 0) := fun _ => ⟨none, 0, rfl, fun q => absurd rfl q⟩
theorem el117 : ElT Tryz.prog 117 (rSl rU8) 24 [] := ⟨ty117, by decide, Tryz.t117, (Value.slice none 0 0), by kernel_rfl, by kernel_rfl, by kernel_rfl, by kernel_rfl, zr117⟩
structure Gplace where
  block : Int
  table : Int
  key : ByteArray
def zplace : Gplace := { block := 0, table := 0, key := ⟨#[]⟩ }
instance : Inhabited Gplace := ⟨zplace⟩
def fsplace : List (SF Gplace) := [⟨Int, 3, rInt, Gplace.block⟩, ⟨Int, 3, rInt, Gplace.table⟩, ⟨ByteArray, 9, rStr, Gplace.key⟩]
abbrev rplace : Rp Gplace := rStruct fsplace
theorem ty89 : TyOf Tryz.prog 89 rplace := ⟨fun w => Tryz.isAgg89 w, fun w => Tryz.sizeOf89 w⟩
theorem so89 : StructOf Tryz.prog 89 fsplace := ⟨⟨_, Tryz.underlying89, ⟨rfl, rfl, ty3, by decide, ⟨rfl, rfl, ty3, by decide, ⟨rfl, rfl, ty9, by decide, trivial⟩⟩⟩⟩, ty89⟩
theorem zr89 : ∀ h, (rplace.ty zplace).p h (.agg #[Value.int .i64 0, Value.int .i64 0, Value.string ⟨#[]⟩]) := fun _ => ⟨_, ⟨[Value.int .i64 0], _, rfl, rfl, ⟨[Value.int .i64 0], _, rfl, rfl, ⟨[Value.string ⟨#[]⟩], _, rfl, rfl, rfl⟩⟩⟩, rfl⟩
theorem el89 : ElT Tryz.prog 89 rplace 32 zplace := ⟨ty89, by decide, Tryz.t89, (.agg #[Value.int .i64 0, Value.int .i64 0, Value.string ⟨#[]⟩]), by kernel_rfl, by kernel_rfl, by kernel_rfl, by kernel_rfl, zr89⟩
theorem ty63 : TyOf Tryz.prog 63 rV := ⟨fun w => Tryz.isAgg63 w, fun w => Tryz.sizeOf63 w⟩
theorem zr63 : ∀ h, (rV.ty Value.nilFunc).p h (Value.nilFunc) := fun _ => ⟨rfl, rfl⟩
theorem el63 : ElT Tryz.prog 63 rV 8 Value.nilFunc := ⟨ty63, by decide, Tryz.t63, (Value.nilFunc), by kernel_rfl, by kernel_rfl, by kernel_rfl, by kernel_rfl, zr63⟩
structure Gmaker where
  keys : Value
def zmaker : Gmaker := { keys := Value.nilFunc }
instance : Inhabited Gmaker := ⟨zmaker⟩
def fsmaker : List (SF Gmaker) := [⟨Value, 63, rV, Gmaker.keys⟩]
abbrev rmaker : Rp Gmaker := rStruct fsmaker
theorem ty65 : TyOf Tryz.prog 65 rmaker := ⟨fun w => Tryz.isAgg65 w, fun w => Tryz.sizeOf65 w⟩
theorem so65 : StructOf Tryz.prog 65 fsmaker := ⟨⟨_, Tryz.underlying65, ⟨rfl, rfl, ty63, by decide, trivial⟩⟩, ty65⟩
theorem zr65 : ∀ h, (rmaker.ty zmaker).p h (.agg #[Value.nilFunc]) := fun _ => ⟨_, ⟨[Value.nilFunc], _, rfl, ⟨rfl, rfl⟩, rfl⟩, rfl⟩
theorem el65 : ElT Tryz.prog 65 rmaker 8 zmaker := ⟨ty65, by decide, Tryz.t65, (.agg #[Value.nilFunc]), by kernel_rfl, by kernel_rfl, by kernel_rfl, by kernel_rfl, zr65⟩
theorem ty72 : TyOf Tryz.prog 72 rV := ⟨fun w => Tryz.isAgg72 w, fun w => Tryz.sizeOf72 w⟩
theorem zr72 : ∀ h, (rV.ty Value.nilFunc).p h (Value.nilFunc) := fun _ => ⟨rfl, rfl⟩
theorem el72 : ElT Tryz.prog 72 rV 8 Value.nilFunc := ⟨ty72, by decide, Tryz.t72, (Value.nilFunc), by kernel_rfl, by kernel_rfl, by kernel_rfl, by kernel_rfl, zr72⟩
theorem ty29 : TyOf Tryz.prog 29 rV := ⟨fun w => Tryz.isAgg29 w, fun w => Tryz.sizeOf29 w⟩
theorem zr29 : ∀ h, (rV.ty Value.nilFunc).p h (Value.nilFunc) := fun _ => ⟨rfl, rfl⟩
theorem el29 : ElT Tryz.prog 29 rV 8 Value.nilFunc := ⟨ty29, by decide, Tryz.t29, (Value.nilFunc), by kernel_rfl, by kernel_rfl, by kernel_rfl, by kernel_rfl, zr29⟩
theorem ty96 : TyOf Tryz.prog 96 rV := ⟨fun w => Tryz.isAgg96 w, fun w => Tryz.sizeOf96 w⟩
theorem zr96 : ∀ h, (rV.ty Value.nilFunc).p h (Value.nilFunc) := fun _ => ⟨rfl, rfl⟩
theorem el96 : ElT Tryz.prog 96 rV 8 Value.nilFunc := ⟨ty96, by decide, Tryz.t96, (Value.nilFunc), by kernel_rfl, by kernel_rfl, by kernel_rfl, by kernel_rfl, zr96⟩
theorem ty126 : TyOf Tryz.prog 126 rV := ⟨fun w => Tryz.isAgg126 w, fun w => Tryz.sizeOf126 w⟩
theorem zr126 : ∀ h, (rV.ty Value.nilFunc).p h (Value.nilFunc) := fun _ => ⟨rfl, rfl⟩
theorem el126 : ElT Tryz.prog 126 rV 8 Value.nilFunc := ⟨ty126, by decide, Tryz.t126, (Value.nilFunc), by kernel_rfl, by kernel_rfl, by kernel_rfl, by kernel_rfl, zr126⟩
theorem ty82 : TyOf Tryz.prog 82 rV := ⟨fun w => Tryz.isAgg82 w, fun w => Tryz.sizeOf82 w⟩
theorem zr82 : ∀ h, (rV.ty Value.nilFunc).p h (Value.nilFunc) := fun _ => ⟨rfl, rfl⟩
theorem el82 : ElT Tryz.prog 82 rV 8 Value.nilFunc := ⟨ty82, by decide, Tryz.t82, (Value.nilFunc), by kernel_rfl, by kernel_rfl, by kernel_rfl, by kernel_rfl, zr82⟩
theorem ty86 : TyOf Tryz.prog 86 rV := ⟨fun w => Tryz.isAgg86 w, fun w => Tryz.sizeOf86 w⟩
theorem zr86 : ∀ h, (rV.ty Value.nilFunc).p h (Value.nilFunc) := fun _ => ⟨rfl, rfl⟩
theorem el86 : ElT Tryz.prog 86 rV 8 Value.nilFunc := ⟨ty86, by decide, Tryz.t86, (Value.nilFunc), by kernel_rfl, by kernel_rfl, by kernel_rfl, by kernel_rfl, zr86⟩
theorem ty112 : TyOf Tryz.prog 112 rV := ⟨fun w => Tryz.isAgg112 w, fun w => Tryz.sizeOf112 w⟩
theorem zr112 : ∀ h, (rV.ty Value.nilFunc).p h (Value.nilFunc) := fun _ => ⟨rfl, rfl⟩
theorem el112 : ElT Tryz.prog 112 rV 8 Value.nilFunc := ⟨ty112, by decide, Tryz.t112, (Value.nilFunc), by kernel_rfl, by kernel_rfl, by kernel_rfl, by kernel_rfl, zr112⟩
theorem ty113 : TyOf Tryz.prog 113 rV := ⟨fun w => Tryz.isAgg113 w, fun w => Tryz.sizeOf113 w⟩
theorem zr113 : ∀ h, (rV.ty Value.nilFunc).p h (Value.nilFunc) := fun _ => ⟨rfl, rfl⟩
theorem el113 : ElT Tryz.prog 113 rV 8 Value.nilFunc := ⟨ty113, by decide, Tryz.t113, (Value.nilFunc), by kernel_rfl, by kernel_rfl, by kernel_rfl, by kernel_rfl, zr113⟩
theorem ty165 : TyOf Tryz.prog 165 rV := ⟨fun w => Tryz.isAgg165 w, fun w => Tryz.sizeOf165 w⟩
theorem zr165 : ∀ h, (rV.ty Value.nilFunc).p h (Value.nilFunc) := fun _ => ⟨rfl, rfl⟩
theorem el165 : ElT Tryz.prog 165 rV 8 Value.nilFunc := ⟨ty165, by decide, Tryz.t165, (Value.nilFunc), by kernel_rfl, by kernel_rfl, by kernel_rfl, by kernel_rfl, zr165⟩
theorem ty189 : TyOf Tryz.prog 189 rV := ⟨fun w => Tryz.isAgg189 w, fun w => Tryz.sizeOf189 w⟩
theorem zr189 : ∀ h, (rV.ty Value.nilFunc).p h (Value.nilFunc) := fun _ => ⟨rfl, rfl⟩
theorem el189 : ElT Tryz.prog 189 rV 8 Value.nilFunc := ⟨ty189, by decide, Tryz.t189, (Value.nilFunc), by kernel_rfl, by kernel_rfl, by kernel_rfl, by kernel_rfl, zr189⟩
theorem ty92 : TyOf Tryz.prog 92 rV := ⟨fun w => Tryz.isAgg92 w, fun w => Tryz.sizeOf92 w⟩
theorem zr92 : ∀ h, (rV.ty Value.nilFunc).p h (Value.nilFunc) := fun _ => ⟨rfl, rfl⟩
theorem el92 : ElT Tryz.prog 92 rV 8 Value.nilFunc := ⟨ty92, by decide, Tryz.t92, (Value.nilFunc), by kernel_rfl, by kernel_rfl, by kernel_rfl, by kernel_rfl, zr92⟩
theorem ty74 : TyOf Tryz.prog 74 rV := ⟨fun w => Tryz.isAgg74 w, fun w => Tryz.sizeOf74 w⟩
theorem zr74 : ∀ h, (rV.ty Value.nilFunc).p h (Value.nilFunc) := fun _ => ⟨rfl, rfl⟩
theorem el74 : ElT Tryz.prog 74 rV 8 Value.nilFunc := ⟨ty74, by decide, Tryz.t74, (Value.nilFunc), by kernel_rfl, by kernel_rfl, by kernel_rfl, by kernel_rfl, zr74⟩
theorem ty67 : TyOf Tryz.prog 67 rV := ⟨fun w => Tryz.isAgg67 w, fun w => Tryz.sizeOf67 w⟩
theorem zr67 : ∀ h, (rV.ty (Value.map none)).p h (Value.map none) := fun _ => ⟨rfl, rfl⟩
theorem el67 : ElT Tryz.prog 67 rV 8 (Value.map none) := ⟨ty67, by decide, Tryz.t67, (Value.map none), by kernel_rfl, by kernel_rfl, by kernel_rfl, by kernel_rfl, zr67⟩
theorem ty80 : TyOf Tryz.prog 80 rV := ⟨fun w => Tryz.isAgg80 w, fun w => Tryz.sizeOf80 w⟩
theorem zr80 : ∀ h, (rV.ty (Value.map none)).p h (Value.map none) := fun _ => ⟨rfl, rfl⟩
theorem el80 : ElT Tryz.prog 80 rV 8 (Value.map none) := ⟨ty80, by decide, Tryz.t80, (Value.map none), by kernel_rfl, by kernel_rfl, by kernel_rfl, by kernel_rfl, zr80⟩
theorem ty84 : TyOf Tryz.prog 84 rV := ⟨fun w => Tryz.isAgg84 w, fun w => Tryz.sizeOf84 w⟩
theorem zr84 : ∀ h, (rV.ty (Value.map none)).p h (Value.map none) := fun _ => ⟨rfl, rfl⟩
theorem el84 : ElT Tryz.prog 84 rV 8 (Value.map none) := ⟨ty84, by decide, Tryz.t84, (Value.map none), by kernel_rfl, by kernel_rfl, by kernel_rfl, by kernel_rfl, zr84⟩
theorem ty93 : TyOf Tryz.prog 93 rV := ⟨fun w => Tryz.isAgg93 w, fun w => Tryz.sizeOf93 w⟩
theorem zr93 : ∀ h, (rV.ty (Value.map none)).p h (Value.map none) := fun _ => ⟨rfl, rfl⟩
theorem el93 : ElT Tryz.prog 93 rV 8 (Value.map none) := ⟨ty93, by decide, Tryz.t93, (Value.map none), by kernel_rfl, by kernel_rfl, by kernel_rfl, by kernel_rfl, zr93⟩
theorem ty99 : TyOf Tryz.prog 99 rV := ⟨fun w => Tryz.isAgg99 w, fun w => Tryz.sizeOf99 w⟩
theorem zr99 : ∀ h, (rV.ty (Value.map none)).p h (Value.map none) := fun _ => ⟨rfl, rfl⟩
theorem el99 : ElT Tryz.prog 99 rV 8 (Value.map none) := ⟨ty99, by decide, Tryz.t99, (Value.map none), by kernel_rfl, by kernel_rfl, by kernel_rfl, by kernel_rfl, zr99⟩
end Lg

/- Readings of the program's struct types. -/
namespace Lg
open Go Go.Proofs
variable {H : Type} {enc : TypeId × Value → H} {W : World}
theorem rd3 : Rd enc Tryz.prog W 3 rInt := Rd.int ty3 Tryz.underlying3
theorem rd9 : Rd enc Tryz.prog W 9 rStr := Rd.str ty9 Tryz.underlying9
theorem rd47 : Rd enc Tryz.prog W 47 rValue where
  k := ty47.cells W
  rd := fun fuel cs x h => by
    obtain ⟨hl, hf⟩ := readStruct so47 h
    obtain ⟨y0, h0⟩ := Rd.at (t := 47) (i := 0) hf rd3 rfl
    obtain ⟨y1, h1⟩ := Rd.at (t := 47) (i := 1) hf rd3 rfl
    obtain ⟨y2, h2⟩ := Rd.at (t := 47) (i := 2) hf rd9 rfl
    refine ⟨⟨y0, y1, y2⟩, SF.rel_of hl fun i f hi => ?_⟩
    match i, hi with
    | 0, hi => cases hi; exact h0
    | 1, hi => cases hi; exact h1
    | 2, hi => cases hi; exact h2
    | n + 3, hi => simp [fsValue] at hi
theorem rd49 : Rd enc Tryz.prog W 49 rCell where
  k := ty49.cells W
  rd := fun fuel cs x h => by
    obtain ⟨hl, hf⟩ := readStruct so49 h
    obtain ⟨y0, h0⟩ := Rd.at (t := 49) (i := 0) hf rd47 rfl
    obtain ⟨y1, h1⟩ := Rd.at (t := 49) (i := 1) hf rd3 rfl
    obtain ⟨y2, h2⟩ := Rd.at (t := 49) (i := 2) hf rd3 rfl
    refine ⟨⟨y0, y1, y2⟩, SF.rel_of hl fun i f hi => ?_⟩
    match i, hi with
    | 0, hi => cases hi; exact h0
    | 1, hi => cases hi; exact h1
    | 2, hi => cases hi; exact h2
    | n + 3, hi => simp [fsCell] at hi
theorem rd26 : Rd enc Tryz.prog W 26 (rSl rCell) := Rd.sl ty26 Tryz.underlying26 rd49 (by decide)
theorem rd25 : Rd enc Tryz.prog W 25 rKey where
  k := ty25.cells W
  rd := fun fuel cs x h => by
    obtain ⟨hl, hf⟩ := readStruct so25 h
    obtain ⟨y0, h0⟩ := Rd.at (t := 25) (i := 0) hf rd3 rfl
    obtain ⟨y1, h1⟩ := Rd.at (t := 25) (i := 1) hf rd9 rfl
    obtain ⟨y2, h2⟩ := Rd.at (t := 25) (i := 2) hf rd9 rfl
    refine ⟨⟨y0, y1, y2⟩, SF.rel_of hl fun i f hi => ?_⟩
    match i, hi with
    | 0, hi => cases hi; exact h0
    | 1, hi => cases hi; exact h1
    | 2, hi => cases hi; exact h2
    | n + 3, hi => simp [fsKey] at hi
theorem rd28 : Rd enc Tryz.prog W 28 rRecord where
  k := ty28.cells W
  rd := fun fuel cs x h => by
    obtain ⟨hl, hf⟩ := readStruct so28 h
    obtain ⟨y0, h0⟩ := Rd.at (t := 28) (i := 0) hf rd25 rfl
    obtain ⟨y1, h1⟩ := Rd.at (t := 28) (i := 1) hf rd3 rfl
    obtain ⟨y2, h2⟩ := Rd.at (t := 28) (i := 2) hf rd3 rfl
    obtain ⟨y3, h3⟩ := Rd.at (t := 28) (i := 3) hf rd26 rfl
    refine ⟨⟨y0, y1, y2, y3⟩, SF.rel_of hl fun i f hi => ?_⟩
    match i, hi with
    | 0, hi => cases hi; exact h0
    | 1, hi => cases hi; exact h1
    | 2, hi => cases hi; exact h2
    | 3, hi => cases hi; exact h3
    | n + 4, hi => simp [fsRecord] at hi
theorem rd23 : Rd enc Tryz.prog W 23 (rSl rRecord) := Rd.sl ty23 Tryz.underlying23 rd28 (by decide)
theorem rd35 : Rd enc Tryz.prog W 35 rBlock where
  k := ty35.cells W
  rd := fun fuel cs x h => by
    obtain ⟨hl, hf⟩ := readStruct so35 h
    obtain ⟨y0, h0⟩ := Rd.at (t := 35) (i := 0) hf rd9 rfl
    obtain ⟨y1, h1⟩ := Rd.at (t := 35) (i := 1) hf rd3 rfl
    obtain ⟨y2, h2⟩ := Rd.at (t := 35) (i := 2) hf rd3 rfl
    obtain ⟨y3, h3⟩ := Rd.at (t := 35) (i := 3) hf rd3 rfl
    obtain ⟨y4, h4⟩ := Rd.at (t := 35) (i := 4) hf rd3 rfl
    obtain ⟨y5, h5⟩ := Rd.at (t := 35) (i := 5) hf rd3 rfl
    refine ⟨⟨y0, y1, y2, y3, y4, y5⟩, SF.rel_of hl fun i f hi => ?_⟩
    match i, hi with
    | 0, hi => cases hi; exact h0
    | 1, hi => cases hi; exact h1
    | 2, hi => cases hi; exact h2
    | 3, hi => cases hi; exact h3
    | 4, hi => cases hi; exact h4
    | 5, hi => cases hi; exact h5
    | n + 6, hi => simp [fsBlock] at hi
theorem rd22 : Rd enc Tryz.prog W 22 (rSl rBlock) := Rd.sl ty22 Tryz.underlying22 rd35 (by decide)
end Lg

/- Places as keys of maps; two values compared. -/
namespace Lg
open Go Go.Proofs
abbrev kvP (p : Gplace) : Value := .agg #[.int .i64 p.block, .int .i64 p.table, .string p.key]
abbrev kvV (v : GValue) : Value := .agg #[.int .i64 v.Kind, .int .i64 v.N, .string v.Text]
instance : DecidableEq Gplace := fun a b => decidable_of_iff (a.block = b.block ∧ a.table = b.table ∧ a.key = b.key) ⟨fun ⟨h1, h2, h3⟩ => by cases a; cases b; simp_all, fun h => by subst h; exact ⟨rfl, rfl, rfl⟩⟩
instance : DecidableEq GValue := fun a b => decidable_of_iff (a.Kind = b.Kind ∧ a.N = b.N ∧ a.Text = b.Text) ⟨fun ⟨h1, h2, h3⟩ => by cases a; cases b; simp_all, fun h => by subst h; exact ⟨rfl, rfl, rfl⟩⟩
theorem Sub.plc {p : Gplace} : Sub (rplace.ty p) (tV (kvP p)) := fun h v r => by
  obtain ⟨cs, r, rfl⟩ := r
  obtain ⟨c0, _, rfl, r0, c1, _, rfl, r1, c2, _, rfl, r2, rz⟩ := r
  have r0 : c0 = [.int .i64 p.block] := r0
  have r1 : c1 = [.int .i64 p.table] := r1
  have r2 : c2 = [.string p.key] := r2
  subst r0 r1 r2; rw [show _ = [] from rz]; rfl
theorem Sub.val {x : GValue} : Sub (rValue.ty x) (tV (kvV x)) := fun h v r => by
  obtain ⟨cs, r, rfl⟩ := r
  obtain ⟨c0, _, rfl, r0, c1, _, rfl, r1, c2, _, rfl, r2, rz⟩ := r
  have r0 : c0 = [.int .i64 x.Kind] := r0
  have r1 : c1 = [.int .i64 x.N] := r1
  have r2 : c2 = [.string x.Text] := r2
  subst r0 r1 r2; rw [show _ = [] from rz]; rfl
theorem toL_eq (a b : ByteArray) : (a.toList == b.toList) = decide (a = b) := by
  rw [← beq_toListBytes]
  obtain ⟨⟨x⟩⟩ := a
  obtain ⟨⟨y⟩⟩ := b
  show ((⟨x⟩ : Array UInt8) == ⟨y⟩) = _
  rw [Bool.eq_iff_iff]; simp
theorem eq_place (a b : Gplace) (w : World) : (Op.equal 89 (kvP a) (kvP b)).run Tryz.prog w = .ok (decide (a = b)) w := by
  have u3 := Tryz.underlying3
  have u9 := Tryz.underlying9
  have a3 := Tryz.isAgg3
  have a9 := Tryz.isAgg9
  have z3 := Tryz.sizeOf3
  have z9 := Tryz.sizeOf9
  have hS : Tryz.prog.underlying 89 = some (.struct (Tryz.prog.fieldsOf 89)) := by kernel_rfl
  have hp : Tryz.prog.stoodInHeld 89 = false := by kernel_rfl
  simp only [Op.equal, Op.maxDepth]
  rw [show (10000 : Nat) = 9999 + 1 from rfl, run_equalIn_agg w 9999 89 _ _ hS hp]
  simp only [Program.fieldsOf, Tryz.underlying89]
  go_simp
  have e : decide (a = b) = (decide (a.block = b.block) && (decide (a.table = b.table) && decide (a.key = b.key))) := by
    rw [Bool.eq_iff_iff]; simp
    constructor
    · intro h; subst h; exact ⟨rfl, rfl, rfl⟩
    · rintro ⟨h1, h2, h3⟩; cases a; cases b; simp_all
  have e2 : (a.key.toList = b.key.toList) ↔ a.key = b.key := by
    have := toL_eq a.key b.key
    rw [Bool.eq_iff_iff] at this
    simpa using this
  rw [e]
  by_cases h1 : a.block = b.block <;> by_cases h2 : a.table = b.table <;> by_cases h3 : a.key = b.key <;> simp [h1, h2, h3, e2]
theorem eq_value (a b : GValue) (w : World) : (Op.equalIn 10000 47 (kvV a) (kvV b)).run Tryz.prog w = .ok (decide (a = b)) w := by
  have u3 := Tryz.underlying3
  have u9 := Tryz.underlying9
  have a3 := Tryz.isAgg3
  have a9 := Tryz.isAgg9
  have z3 := Tryz.sizeOf3
  have z9 := Tryz.sizeOf9
  have hS : Tryz.prog.underlying 47 = some (.struct (Tryz.prog.fieldsOf 47)) := by kernel_rfl
  have hp : Tryz.prog.stoodInHeld 47 = false := by kernel_rfl
  rw [show (10000 : Nat) = 9999 + 1 from rfl, run_equalIn_agg w 9999 47 _ _ hS hp]
  simp only [Program.fieldsOf, Tryz.underlying47]
  go_simp
  have e : decide (a = b) = (decide (a.Kind = b.Kind) && (decide (a.N = b.N) && decide (a.Text = b.Text))) := by
    rw [Bool.eq_iff_iff]; simp
    constructor
    · intro h; subst h; exact ⟨rfl, rfl, rfl⟩
    · rintro ⟨h1, h2, h3⟩; cases a; cases b; simp_all
  have e2 : (a.Text.toList = b.Text.toList) ↔ a.Text = b.Text := by
    have := toL_eq a.Text b.Text
    rw [Bool.eq_iff_iff] at this
    simpa using this
  rw [e]
  by_cases h1 : a.Kind = b.Kind <;> by_cases h2 : a.N = b.N <;> by_cases h3 : a.Text = b.Text <;> simp [h1, h2, h3, e2]
theorem ge_value : Tryz.prog.eqGuardType Tryz.prog.depth 47 = false := by kernel_rfl
theorem step_neq_val {ro : Option Nat} {N : Nat} {ds : List Deferred} {h0 : PH} {w0 : World} {r : PH} {E : Env} {L : List SP} {d : Option Nat} {ty : Nat} {pos : String} {af : Array Edge} {g : Option (Nat × Bool)} {x y : Operand} {U : Nat} {a b : GValue} (hx : Sub (opTy E x) (rValue.ty a)) (hy : Sub (opTy E y) (rValue.ty b)) :
    Step1 ⟨Tryz.prog, ro, N, ds, h0, w0, r⟩ ⟨d, .binOp .neq 47 x y U, ty, pos, af, g⟩ E L (tV (.bool (!decide (a = b)))) :=
  Step.of_same (by intro c h; cases h) fun ac w h hw f => by
    have h1 : ac.eval x = kvV a := f.get (Sub.trans hx Sub.val)
    have h2 : ac.eval y = kvV b := f.get (Sub.trans hy Sub.val)
    have he := run_eqGuard_agg (P := Tryz.prog) w .neq 47 x y #[.int .i64 a.Kind, .int .i64 a.N, .string a.Text] #[.int .i64 b.Kind, .int .i64 b.N, .string b.Text] ge_value
    refine ⟨.bool (!decide (a = b)), ?_, rfl⟩
    simp [execOp, h1, h2, Sem.run_bind, he, run_neq_struct, eq_value]
theorem keyP : KeyT Tryz.prog 89 kvP where
  chk := fun b a w => by
    have u3 := Tryz.underlying3
    have u9 := Tryz.underlying9
    have a3 := Tryz.isAgg3
    have a9 := Tryz.isAgg9
    have z3 := Tryz.sizeOf3
    have z9 := Tryz.sizeOf9
    have h3 : ∀ (n : Nat) (x : Int) (w : World), (Instr.checkKey b (n + 1) 3 (.int .i64 x)).run Tryz.prog w = .ok () w := fun n x w => by simp [Instr.checkKey, run_underlying u3]
    have h9 : ∀ (n : Nat) (x : ByteArray) (w : World), (Instr.checkKey b (n + 1) 9 (.string x)).run Tryz.prog w = .ok () w := fun n x w => by simp [Instr.checkKey, run_underlying u9]
    have key : ∀ n, (Instr.checkKey b (n + 1 + 1) 89 (kvP a)).run Tryz.prog w = .ok () w := fun n => by
      rw [Instr.checkKey]
      simp only [Sem.run_bind, run_underlying Tryz.underlying89, Result.andThen_ok]
      rw [← Array.forIn_toList]
      simp [part, Sem.run_bind, a3, a9, z3, z9, h3, h9]
    exact key 9998
  find := find_asking Tryz.underlying89 (fun a b => rfl) eq_place
  bits := fun a => by
    have e : (a.key == a.key) = true := by rw [beq_toListBytes]; simp
    show Instr.sameBits (9999 + 1) _ _ = true
    simp [Instr.sameBits, e]
end Lg
