/- More rules of the program logic: sorting, strings, maps of slices, slices by the element type of their block, fields of elements. -/
import Derived.Test.YtfojldlbhhigbaaGreatDoorA
import Derived.Shelf.SlSortCmp.NoneTotal
import Derived.Shelf.Sort.Plain
import Derived.Shelf.Slices.In.SortNone
import Derived.Laws.BytesString
import Derived.Laws.Strings2
import Derived.Laws.Entries
import Derived.ChangeArms
import Derived.ChangeKeysEq
import Derived.WideShapes
import Derived.Carry
import Derived.Laws.StructEq
set_option linter.unusedVariables false
set_option linter.unusedSimpArgs false
set_option linter.unusedSectionVars false
/- Sorting by the kit's contracts, turned to own memory. -/
namespace Lg
open Go
open Go.Sort (SWO SortedIn PermIn)

section
variable {β : Type} (R : Rp β)
/-- An element: its cell, its datum. -/
abbrev El (p : β → Prop) (h : PH) : Type := { q : Value × β // (R.ty q.2).p h q.1 ∧ p q.2 }
variable {R}
theorem El.of_relAll {p : β → Prop} {h : PH} (hR : R.agg = false) : ∀ {xs : List β} {cs : List Value}, (∀ x ∈ xs, p x) → relAll R h xs cs → ∃ ds : List (El R p h), ds.map (fun x => x.1.2) = xs ∧ ds.map (fun x => x.1.1) = cs
  | [], _, _, r => by cases r; exact ⟨[], rfl, rfl⟩
  | x :: xs, _, hp, ⟨c1, c2, e, r1, r2⟩ => by
    subst e
    obtain ⟨ds, h1, h2⟩ := El.of_relAll hR (fun x hx => hp x (by simp [hx])) r2
    have hl := R.len r1
    rw [R.scalar hR] at hl
    match c1, hl with
    | [v], _ =>
      have hv : (R.ty x).p h v := by have := R.pack r1; rw [hR] at this; exact this
      exact ⟨⟨(v, x), hv, hp x (by simp)⟩ :: ds, by simp [h1], by simp [h2]⟩
theorem El.relAll {p : β → Prop} {h : PH} (hR : R.agg = false) : ∀ (ds : List (El R p h)), Lg.relAll R h (ds.map fun x => x.1.2) (ds.map fun x => x.1.1)
  | [] => rfl
  | ⟨(v, x), hv, _⟩ :: ds => by
    refine ⟨[v], ds.map (fun x => x.1.1), rfl, ?_, El.relAll hR ds⟩
    obtain ⟨cs, r, e⟩ := R.iff.1 hv
    have hl := R.len r
    rw [R.scalar hR] at hl
    match cs, hl with
    | [u], _ =>
      simp only [packV, hR, Bool.false_eq_true, if_false, List.headD_cons] at e
      subst e; exact r
end

theorem sortWorld_other {α : Type} [Inhabited α] {enc : α → Value} {w : World} {g off m : Nat} {dk : Array α} {os : Array Obj} {b : Nat} (hb : b < w.heap.size) (hne : b ≠ g) : (Go.Proofs.sortWorld enc w g off m dk os).heap[b]? = w.heap[b]? := by
  show ((Sort.mapBlock (Sort.ahead w m) g _).heap ++ os)[b]? = _
  rw [Array.getElem?_append_left (by simp [Sort.mapBlock, Sort.ahead, hb])]
  simp only [Sort.mapBlock, Sort.ahead, Array.getElem?_modify, Ne.symm hne, if_false]
theorem sortWorld_row {α : Type} [Inhabited α] {enc : α → Value} {w : World} {g off m : Nat} {dk : Array α} {os : Array Obj} {cur : Array Value} {e : Nat} {fz : Nat × Nat} (hb : w.heap[g]? = some (.cells cur e fz)) :
    (Go.Proofs.sortWorld enc w g off m dk os).heap[g]? = some (.cells (Sort.putCells enc off dk cur) e fz) := by
  have hlt := (Array.getElem?_eq_some_iff.1 hb).1
  show ((Sort.mapBlock (Sort.ahead w m) g _).heap ++ os)[g]? = _
  rw [Array.getElem?_append_left (by simp [Sort.mapBlock, Sort.ahead, hlt])]
  simp only [Sort.mapBlock, Sort.ahead, Array.getElem?_modify, if_true, hb, Option.map_some, Sort.onCells]

/-- slices.SortFunc, at elements of one cell, in own memory. -/
theorem sortFunc_spec {P : Program} {ρ : Shelf.Ren} (LL : Go.Proofs.SlLaysF.n6 P ρ) {β : Type} {R : Rp β} (hR : R.agg = false) (cf : β → β → Int) (hO : SWO (Go.Proofs.ltOf cf)) {gf e : Nat} (eg : ∀ args w, (callFunc gf args).run P w = .ok (.enter gf args) w)
    (p : β → Prop) (hc : ∀ x y, p x → p y → ∀ (u u' : Value) (h : PH) (W : World), h.inw W → (R.ty x).p h u → (R.ty y).p h u' → Calls P gf #[u, u'] W fun e' w' => e' = .returned (.int .i64 (cf x y)) ∧ ∃ q os, w' = Sort.grow (W.drewN q) os) (v : Value) (xs : List β) (hpx : ∀ x ∈ xs, p x) (hn : xs.length < 4611686018427387904) :
    Spec (X := { ys : List β // ys.Perm xs ∧ ys.Pairwise fun a b => Go.Proofs.ltOf cf b a = false }) P (ρ.f 6) [rV.ty v, tV (.func (.func gf) #[] #[])] [own e R v xs] (fun _ => tTup []) (fun ys => [own e R v ys.1]) := by
  intro vs h m r w ha sp st
  match vs, ha with
  | [u1, u2], ⟨a1, a2, _⟩ =>
  obtain ⟨e1, _⟩ := a1
  have e2 : u2 = .func (.func gf) #[] #[] := a2
  subst e1; subst e2
  obtain ⟨m1, m2, d12, rfl, ho, e3⟩ := st
  rw [stars_nil] at e3; subst e3
  rw [PH.join_emp] at sp
  have none_case : ∀ (p : Option Addr) (cap : Nat), u1 = .slice p 0 cap → xs = [] → Calls P (ρ.f 6) [u1, .func (.func gf) #[] #[]].toArray w (Ret (X := { ys : List β // ys.Perm xs ∧ ys.Pairwise fun a b => Go.Proofs.ltOf cf b a = false }) h w r (fun _ => tTup []) (fun ys => [own e R u1 ys.1])) := by
    intro p cap hu hx
    subst hu; subst hx
    refine (Go.Proofs.AnyF.slices_SortFunc_none (P := P) (ρ := ρ) { LL with } p cap _ w).mono ?_
    rintro e' w' ⟨rfl, rfl⟩
    refine ⟨⟨[], List.Perm.refl _, List.Pairwise.nil⟩, _, h, m1, rfl, HL.refl, sp, ⟨m1, PH.emp, PH.disj_emp _, (PH.join_emp _).symm, ho, rfl⟩, ⟨[], rfl, trivial⟩⟩
  rcases ho with ⟨rfl, rfl, rfl⟩ | ⟨g, cap, cur, rfl, rfl, hl, hm, hs, hr⟩
  · exact none_case none 0 rfl rfl
  · by_cases hx : xs = []
    · subst hx; exact none_case _ cap rfl rfl
    · obtain ⟨ds, hd1, hd2⟩ := El.of_relAll (p := p) hR hpx hr
      have hk := R.scalar hR
      rw [hk, Nat.mul_one] at hd2 hs
      have hlen : ds.length = xs.length := by rw [← hd1]; simp
      have hne : ds ≠ [] := fun q => hx (by rw [← hd1, q]; rfl)
      haveI : Inhabited (El R p h) := ⟨ds.head hne⟩
      have hb := sp.mw g _ (PH.one_same _ _)
      have hgh : h g = none := PH.disj_one_iff.1 sp.hm
      have hget : ∀ j, j < ds.toArray.size → cur[j]? = some (ds.toArray[j]!).1.1 := fun j hj => by
        have hj' : j < ds.length := by simpa using hj
        have : (cur.toList.take xs.length)[j]? = some (ds[j]).1.1 := by rw [← hd2]; simp [hj']
        rw [List.getElem?_take, if_pos (by omega)] at this
        rw [getElem!_pos _ j hj]
        simpa using this
      have hH : Sort.Holds (fun x : El R p h => x.1.1) w g 0 ds.toArray := fun j hj => ⟨by
        rw [Nat.zero_add]; simp only [World.cell?, hb]
        exact hget j hj, by simp [World.frozen?, hb]⟩
      have hcell : ∀ x : El R p h, x.1.1.oneCell' = true := fun x => by
        obtain ⟨cs, rx, ex⟩ := R.iff.1 x.2.1
        have hlx := R.len rx
        rw [hk] at hlx
        match cs, hlx with
        | [u], _ => simp only [packV, hR, Bool.false_eq_true, if_false, List.headD_cons] at ex; rw [ex]; exact R.one rx u (by simp)
      have hblk : g < w.heap.size := (Array.getElem?_eq_some_iff.1 hb).1
      have hcmp : Go.Proofs.CmpLays1 P gf #[] (fun x : El R p h => x.1.1) (fun x y => cf x.1.2 y.1.2) g 0 ds.toArray.size w := by
        intro n os dk hdk x y
        have hw : h.inw (Go.Proofs.sortWorld (fun x : El R p h => x.1.1) w g 0 n dk os) := fun b o eb => by
          have hne' : b ≠ g := fun q => by rw [q, hgh] at eb; cases eb
          rw [sortWorld_other (PH.inw_lt sp.hw eb) hne']; exact sp.hw b o eb
        refine (hc x.1.2 y.1.2 x.2.2 y.2.2 x.1.1 y.1.1 h _ hw x.2.1 y.2.1).mono ?_
        rintro e' w' ⟨he, q, os', hq⟩
        exact ⟨he, q, os', hq⟩
      have hO' : SWO (Go.Proofs.ltOf fun x y : El R p h => cf x.1.2 y.1.2) := ⟨fun x => hO.irrefl _, fun x y z => hO.trans _ _ _, fun x y z => hO.ntrans _ _ _⟩
      have hS := Go.Proofs.Any.slices_SortFunc LL (fun x : El R p h => x.1.1) hcell (fun x y => cf x.1.2 y.1.2) hO' gf #[] g 0 cap ds.toArray w eg hcmp hH hblk (by simpa [hlen] using hn)
      have hsz : ds.toArray.size = xs.length := by simp [hlen]
      rw [hsz] at hS
      refine hS.mono ?_
      rintro e' w' ⟨rfl, d', n, os, ⟨p1, _, p3⟩, hso, rfl⟩
      have hd's : d'.size = xs.length := by rw [p1, hsz]
      have hperm : d'.toList.Perm ds := by
        have q1 : (d'.extract 0 xs.length) = d' := by rw [← hd's]; simp
        have q2 : (ds.toArray.extract 0 xs.length) = ds.toArray := by rw [← hsz]; simp
        rw [q1, q2] at p3
        simpa using p3
      have hcur : (Sort.putCells (fun x : El R p h => x.1.1) 0 d' cur).toList.take xs.length = d'.toList.map (fun x => x.1.1) := by
        apply List.ext_getElem?
        intro j
        rw [List.getElem?_take]
        split
        · rename_i hj
          have hjc : j < cur.size := by omega
          have hjd : j < d'.size := by omega
          simp [Sort.putCells, hjc, hjd, hj, hd's]
        · rw [List.getElem?_eq_none (by simp; omega)]
      refine ⟨⟨d'.toList.map (fun x => x.1.2), ?_, ?_⟩, _, h, PH.one g (.cells (Sort.putCells (fun x : El R p h => x.1.1) 0 d' cur) e (0, 0)), rfl, HL.same ⟨rfl, rfl, rfl⟩, ?_, ⟨_, PH.emp, PH.disj_emp _, (PH.join_emp _).symm, .inr ⟨g, cap, _, by simp [hd's], rfl, by simpa [hd's] using hl, hm, ?_, ?_⟩, rfl⟩, ⟨[], rfl, trivial⟩⟩
      · have := hperm.map (fun x : El R p h => x.1.2)
        rw [hd1] at this; exact this
      · rw [List.pairwise_map]
        rw [List.pairwise_iff_getElem]
        intro i j hi hj hij
        have hi' : i < d'.size := by simpa using hi
        have hj' : j < d'.size := by simpa using hj
        have := hso i j (by omega) hij (by omega)
        rw [getElem!_pos d' i hi', getElem!_pos d' j hj'] at this
        simp only [Array.getElem_toList]
        exact this
      · have sp' : Sep h ((PH.one g (.cells cur e (0, 0))).join PH.emp) r w := by rw [PH.join_emp]; exact sp
        have := Sep.write (o' := .cells (Sort.putCells (fun x : El R p h => x.1.1) 0 d' cur) e (0, 0)) (PH.disj_emp _) sp' (fun b hne' hb' => sortWorld_other (enc := fun x : El R p h => x.1.1) (off := 0) (m := n) (dk := d') (os := os) hb' hne') (sortWorld_row hb)
        rw [PH.join_emp] at this; exact this
      · simp [Sort.putCells, hs, hk]
      · have e5 : (d'.toList.map (fun x : El R p h => x.1.2)).length = xs.length := by simp [hd's]
        rw [e5, hk, Nat.mul_one, hcur]
        exact El.relAll hR d'.toList
end Lg

/- slices.Sort at []int, turned to own memory. -/
namespace Lg
open Go

def sortI (xs : List Int) : List Int := xs.mergeSort fun x y => decide (x ≤ y)
theorem sortI_len (xs : List Int) : (sortI xs).length = xs.length := by simp [sortI]

theorem relAll_int {h : PH} : ∀ {xs : List Int} {cs : List Value}, relAll rInt h xs cs ↔ cs = xs.map (.int .i64 ·)
  | [], cs => Iff.rfl
  | x :: xs, cs => by
    constructor
    · rintro ⟨c1, c2, rfl, r1, r2⟩
      have r1 : c1 = [.int .i64 x] := r1
      rw [relAll_int.1 r2, r1]; rfl
    · rintro rfl
      exact ⟨[.int .i64 x], xs.map (.int .i64 ·), rfl, rfl, relAll_int.2 rfl⟩

theorem sortInts_spec {P : Program} {ρ : Shelf.Ren} (LL : Go.Proofs.Lays.n189 P ρ) (v : Value) (xs : List Int) (hn : xs.length < 4611686018427387904) :
    Spec (X := Unit) P (ρ.f 189) [rV.ty v] [own 3 rInt v xs] (fun _ => tTup []) (fun _ => [own 3 rInt v (sortI xs)]) := by
  intro vs h m r w ha sp st
  match vs, ha with
  | [u1], ⟨a1, _⟩ =>
  obtain ⟨e1, _⟩ := a1
  subst e1
  obtain ⟨m1, m2, d12, rfl, ho, e3⟩ := st
  rw [stars_nil] at e3; subst e3
  rw [PH.join_emp] at sp
  have none_case : ∀ (p : Option Addr) (cap : Nat), u1 = .slice p 0 cap → xs = [] → Calls P (ρ.f 189) [u1].toArray w (Ret (X := Unit) h w r (fun _ => tTup []) (fun _ => [own 3 rInt u1 (sortI xs)])) := by
    intro p cap hu hx
    subst hu; subst hx
    refine (Go.Proofs.Any.slices_Sort_int_none LL p cap w).mono ?_
    rintro e' w' ⟨rfl, rfl⟩
    exact ⟨(), _, h, m1, rfl, HL.refl, sp, ⟨m1, PH.emp, PH.disj_emp _, (PH.join_emp _).symm, by simpa [sortI] using ho, rfl⟩, ⟨[], rfl, trivial⟩⟩
  rcases ho with ⟨rfl, rfl, rfl⟩ | ⟨g, cap, cur, rfl, rfl, hl, hm, hs, hr⟩
  · exact none_case none 0 rfl rfl
  · by_cases hx : xs = []
    · subst hx; exact none_case _ cap rfl rfl
    · have hk : rInt.k = 1 := rfl
      rw [hk, Nat.mul_one] at hs hr
      rw [relAll_int] at hr
      have hb := sp.mw g _ (PH.one_same _ _)
      have hH : Sort.Holds (Value.int .i64) w g 0 xs.toArray := fun j hj => ⟨by
        rw [Nat.zero_add]; simp only [World.cell?, hb]
        have hj' : j < xs.length := by simpa using hj
        have : (cur.toList.take xs.length)[j]? = some (.int .i64 xs[j]) := by rw [hr]; simp [hj']
        rw [List.getElem?_take, if_pos hj'] at this
        rw [getElem!_pos _ j hj]
        simpa using this, by simp [World.frozen?, hb]⟩
      have hblk : g < w.heap.size := (Array.getElem?_eq_some_iff.1 hb).1
      refine (Go.Proofs.Any.slices_Sort_int LL g 0 cap xs w hH hblk hn).mono ?_
      rintro e' w' ⟨rfl, n, os, rfl⟩
      have hlen := sortI_len xs
      refine ⟨(), _, h, PH.one g (.cells (Sort.putCells (Value.int .i64) 0 (sortI xs).toArray cur) 3 (0, 0)), rfl, HL.same ⟨rfl, rfl, rfl⟩, ?_, ⟨_, PH.emp, PH.disj_emp _, (PH.join_emp _).symm, .inr ⟨g, cap, _, by rw [hlen], rfl, by rw [hlen]; exact hl, hm, ?_, ?_⟩, rfl⟩, ⟨[], rfl, trivial⟩⟩
      · have sp' : Sep h ((PH.one g (.cells cur 3 (0, 0))).join PH.emp) r w := by rw [PH.join_emp]; exact sp
        have := Sep.write (o' := .cells (Sort.putCells (Value.int .i64) 0 (sortI xs).toArray cur) 3 (0, 0)) (PH.disj_emp _) sp' (fun b hne' hb' => sortWorld_other (enc := Value.int .i64) (off := 0) (m := n) (dk := (sortI xs).toArray) (os := os) hb' hne') (sortWorld_row hb)
        rw [PH.join_emp] at this; exact this
      · simp [Sort.putCells, hs, hk]
      · rw [hlen, hk, Nat.mul_one, relAll_int]
        apply List.ext_getElem?
        intro j
        rw [List.getElem?_take]
        split
        · rename_i hj
          have hjc : j < cur.size := by omega
          have hjd : j < (sortI xs).length := by omega
          simp [Sort.putCells, hjc, hjd]
        · rw [List.getElem?_eq_none (by simp [hlen]; omega)]
end Lg

/- A function that calls itself through a variable; iterators in cells. -/
namespace Lg
open Go

/-- A yield in a cell. -/
abbrev rY {α : Type} (P : Program) (T : α → List Ty) (Ok : List α → Prop) (M Mx : List α → SP) : Rp Unit := rT (fun _ : Unit => tYield P T Ok M Mx) (by rintro h x v ⟨l, rfl, _⟩; rfl)
abbrev rC (g : Nat) (As : List Ty) : Rp Unit := rT (fun _ : Unit => tClo g As) (by rintro h x v ⟨l, rfl, _⟩; rfl)

/-- A pointer to a variable that holds function g, which has captured values of types As and this pointer. -/
def tPut (g : Nat) (As : List Ty) : Ty where
  p := fun h v => ∃ (b : Nat) (cap : List Value), v = .pointer (some ⟨b, 0, none⟩) ∧ Holds h b 0 [.func (.func g) #[] (cap ++ [v]).toArray] ∧ Args h As cap
  mono := fun l ⟨b, cap, e, H, a⟩ => ⟨b, cap, e, H.mono l, a.mono l⟩

theorem Frz.put {b T g : Nat} {As : List Ty} {S : List SP} : Frz (Lg.box b T (rC g (As ++ [tAt b 0])) () :: S) (tAt b 0) (tPut g As) := fun h m v d hs hv => by
  obtain ⟨m1, m2, d12, e, ⟨cs, ⟨u, e1, cap, e2, ha⟩, e3⟩, _⟩ := hs
  have hv : v = .pointer (some ⟨b, 0, none⟩) := hv
  subst e3
  have hlen := ha.length
  have hsp : ∃ c1, cap = c1 ++ [v] ∧ Args h As c1 := by
    have key : ∀ (As : List Ty) (cap : List Value), Args h (As ++ [tAt b 0]) cap → ∃ c1, cap = c1 ++ [v] ∧ Args h As c1 := by
      intro As
      induction As with
      | nil =>
        intro cap ha
        match cap, ha with
        | [u], ⟨a1, _⟩ => exact ⟨[], by rw [hv]; exact congrArg (fun x => [x]) a1, trivial⟩
      | cons A As ih =>
        intro cap ha
        match cap, ha with
        | u :: cap, ⟨a1, a2⟩ =>
          obtain ⟨c1, e, a3⟩ := ih cap a2
          exact ⟨u :: c1, by rw [e]; rfl, a1, a3⟩
    exact key As cap ha
  obtain ⟨c1, ec, hc⟩ := hsp
  refine ⟨b, c1, hv, ⟨#[u], T, (0, 0), ?_, fun i x hx => ?_⟩, hc.mono (PH.le_join_left _ _)⟩
  · have := PH.le_join_right d b (.cells #[u] T (0, 0)) (by rw [e]; subst e1; exact PH.le_join_left _ _ _ _ (PH.one_same _ _))
    exact this
  · rw [← ec, ← e2] at hx
    simpa using hx

section
variable {C : Cx} {E : Env} {L : List SP} {d : Option Nat} {ty : Nat} {pos : String} {af : Array Edge} {g : Option (Nat × Bool)}
theorem step_load_put {T f : Nat} {As : List Ty} {x : Operand} (hR : TyOf C.P T rV) (hx : Sub (opTy E x) (tPut f As)) : Step1 C ⟨d, .load T x, ty, pos, af, g⟩ E L (tClo f (As ++ [tPut f As])) :=
  Step.of_same (by intro c h; cases h) fun a w h hw fr => by
    obtain ⟨b, cap, hv, H, ha⟩ := fr.get hx
    have := run_loadVar_cells (b := b) (o := 0) (w := w) hR.agg hR.size (cs := [.func (.func f) #[] (cap ++ [a.eval x]).toArray]) rfl (fun _ => rfl) (fun i v hv' => H.cell hw hv')
    have hcl : (tPut f As).p h (a.eval x) := fr.get hx
    refine ⟨.func (.func f) #[] (cap ++ [a.eval x]).toArray, ?_, cap ++ [a.eval x], rfl, ha.append ⟨hcl, trivial⟩⟩
    rw [hv] at this ⊢
    simp [execOp, Instr.loadAt, Instr.sureAddr, hv, this, packV, rV]

/-- A store that changes how the variable is seen. -/
theorem step_store_boxR {α β : Type} {T U b : Nat} {R : Rp α} {R' : Rp β} {x v : Operand} {y : α} {z : β} {S : List SP} (hR : TyOf C.P T R') (hk : R'.k = R.k) (hx : Sub (opTy E x) (tAt b 0)) (hv : Sub (opTy E v) (R'.ty z)) (sel : Sel L [box b U R y] S) :
    Step C ⟨d, .store T x v, ty, pos, af, g⟩ E L (fun _ : Unit => tAny) (fun _ => box b U R' z :: S) :=
  Step.of_skip (by intro c h; cases h) fun a w h m l sp st fr => by
    obtain ⟨m1, m2, d12, rfl, ⟨cs, r, rfl⟩, s2⟩ := sel.one.1 st
    have hb := sp.heap_own
    have r' := R'.cells (fr.get hv)
    have hp : a.eval x = .pointer (some ⟨b, 0, none⟩) := fr.get hx
    obtain ⟨w', hrun, hoth, hsame, hnew⟩ := run_storeVar_cells (P := C.P) (b := b) (o := 0) (v := a.eval v) hR.size (by simpa using R'.len r') hb (by simp [R.len r, hk]) (R'.one r')
    have hd : List.drop R'.k cs = [] := by simp [R.len r, hk]
    refine ⟨(), w', h, (PH.one b (.cells (a.eval v).cells U (0, 0))).join m2, ?_, HL.same hsame, Sep.write d12 sp (fun b' hne _ => hoth b' hne) (by rw [hnew]; simp [hd]), ?_⟩
    · simp [execOp, Instr.storeAt, Instr.sureAddr, hp, hrun]
    · exact ⟨_, m2, PH.one_disj_iff.2 (PH.one_disj_iff.1 d12), rfl, ⟨_, r', by simp⟩, s2⟩
end
end Lg

/- A map whose entries are slices of one's own. -/
namespace Lg
open Go

abbrev kvI : Int → Value := fun n => .int .i64 n
abbrev kvS : ByteArray → Value := fun s => .string s
abbrev Ent := List (Int × (Value × List Int))
def hdr (m : Ent) : List (Int × Value) := m.map fun p => (p.1, p.2.1)
def rows (m : Ent) : List SP := m.map fun p => own 3 rInt p.2.1 p.2.2
def mdel : Ent → Int → Ent
  | [], _ => []
  | (k, x) :: m, q => if q = k then m else (k, x) :: mdel m q
abbrev nilSl : Value := .slice none 0 0
def entAt (m : Ent) (q : Int) : Value × List Int := (mget m q).getD (nilSl, [])

theorem mget_hdr (m : Ent) (q : Int) : (mget (hdr m) q).getD nilSl = (entAt m q).1 := by
  induction m with
  | nil => rfl
  | cons a m ih =>
    obtain ⟨k, x⟩ := a
    by_cases h : q = k
    · subst h; simp [hdr, mget, entAt]
    · simp only [hdr, entAt, List.map_cons, mget, if_neg h] at ih ⊢; exact ih
theorem mput_hdr (m : Ent) (q : Int) (u : Value) (xs : List Int) : hdr (mput m q (u, xs)) = mput (hdr m) q u := by
  induction m with
  | nil => rfl
  | cons a m ih =>
    obtain ⟨k, x⟩ := a
    by_cases h : q = k
    · subst h; simp [hdr, mput]
    · simp only [hdr, List.map_cons, mput, if_neg h] at ih ⊢; rw [ih]
theorem rows_take {m : Ent} {q : Int} {L : List SP} : LSub (stars (rows m) :: L) (own 3 rInt (entAt m q).1 (entAt m q).2 :: stars (rows (mdel m q)) :: L) := by
  induction m generalizing L with
  | nil => exact LSub.nilown
  | cons a m ih =>
    obtain ⟨k, x⟩ := a
    by_cases h : q = k
    · subst h
      have e1 : entAt ((q, x) :: m) q = x := by simp [entAt, mget]
      have e2 : mdel ((q, x) :: m) q = m := by simp [mdel]
      rw [e1, e2]
      intro hh mm ⟨m1, m2, d, e, hs, hr⟩
      obtain ⟨m3, m4, d3, e3, ho, hrest⟩ := hs
      subst e; subst e3
      have dd := PH.disj_join.1 d
      exact ⟨m3, m4.join m2, PH.disj_join'.2 ⟨d3, dd.1⟩, PH.join_assoc _ _ _, ho, m4, m2, dd.2, rfl, hrest, hr⟩
    · have e1 : entAt ((k, x) :: m) q = entAt m q := by simp [entAt, mget, h]
      have e2 : mdel ((k, x) :: m) q = (k, x) :: mdel m q := by simp [mdel, h]
      rw [e1, e2]
      intro hh mm ⟨m1, m2, d, e, hs, hr⟩
      obtain ⟨m3, m4, d3, e3, ho, hrest⟩ := hs
      subst e; subst e3
      have dd := PH.disj_join.1 d
      obtain ⟨m5, m6, d5, e5, hq, m7, m8, d7, e7, h7, h8⟩ := ih (L := L) hh (m4.join m2) ⟨m4, m2, dd.2, rfl, hrest, hr⟩
      have dx : m3.disj (m4.join m2) := PH.disj_join'.2 ⟨d3, dd.1⟩
      rw [e5] at dx
      have dx1 := PH.disj_join'.1 dx
      have dx2 := PH.disj_join'.1 (e7 ▸ dx1.2)
      have d56 := PH.disj_join'.1 (e7 ▸ d5)
      refine ⟨m5, (m3.join m7).join m8, PH.disj_join'.2 ⟨PH.disj_join'.2 ⟨PH.disj_symm dx1.1, d56.1⟩, d56.2⟩, ?_, hq, m3.join m7, m8, PH.disj_join.2 ⟨dx2.2, d7⟩, rfl, ⟨m3, m7, dx2.1, rfl, ho, h7⟩, h8⟩
      rw [PH.join_assoc m3 m4 m2, e5, e7, PH.join_assoc m3 m7 m8, ← PH.join_assoc m3 m5, PH.join_comm dx1.1, PH.join_assoc]
theorem rows_put {m : Ent} {q : Int} {u : Value} {xs : List Int} {L : List SP} : LSub (own 3 rInt u xs :: stars (rows (mdel m q)) :: L) (stars (rows (mput m q (u, xs))) :: L) := by
  induction m generalizing L with
  | nil =>
    intro hh mm ⟨m1, m2, d, e, ho, m3, m4, d3, e3, hs, hr⟩
    have hs : m3 = PH.emp := hs
    subst hs; subst e3; subst e
    rw [PH.emp_join] at d ⊢
    exact ⟨m1, m4, d, rfl, ⟨m1, PH.emp, PH.disj_emp _, (PH.join_emp _).symm, ho, rfl⟩, hr⟩
  | cons a m ih =>
    obtain ⟨k, x⟩ := a
    by_cases h : q = k
    · subst h
      have e1 : mput ((q, x) :: m) q (u, xs) = (q, (u, xs)) :: m := by simp [mput]
      have e2 : mdel ((q, x) :: m) q = m := by simp [mdel]
      rw [e1, e2]
      intro hh mm ⟨m1, m2, d, e, ho, m3, m4, d3, e3, hs, hr⟩
      subst e; subst e3
      have dd := PH.disj_join'.1 d
      exact ⟨m1.join m3, m4, PH.disj_join.2 ⟨dd.2, d3⟩, (PH.join_assoc _ _ _).symm, ⟨m1, m3, dd.1, rfl, ho, hs⟩, hr⟩
    · have e1 : mput ((k, x) :: m) q (u, xs) = (k, x) :: mput m q (u, xs) := by simp [mput, h]
      have e2 : mdel ((k, x) :: m) q = (k, x) :: mdel m q := by simp [mdel, h]
      rw [e1, e2]
      intro hh mm ⟨m1, m2, d, e, ho, m3, m4, d3, e3, ⟨m5, m6, d5, e5, hx, hs⟩, hr⟩
      subst e; subst e3; subst e5
      have dd := PH.disj_join'.1 d
      have dd1 := PH.disj_join'.1 dd.1
      have d34 := PH.disj_join.1 d3
      have hin := ih (L := L) hh (m1.join (m6.join m4)) ⟨m1, m6.join m4, PH.disj_join'.2 ⟨dd1.2, dd.2⟩, rfl, ho, m6, m4, d34.2, rfl, hs, hr⟩
      obtain ⟨m7, m8, d7, e7, h7, h8⟩ := hin
      have dx : m5.disj (m1.join (m6.join m4)) := PH.disj_join'.2 ⟨PH.disj_symm dd1.1, PH.disj_join'.2 ⟨d5, d34.1⟩⟩
      rw [e7] at dx
      have dx1 := PH.disj_join'.1 dx
      refine ⟨m5.join m7, m8, PH.disj_join.2 ⟨dx1.2, d7⟩, ?_, ⟨m5, m7, dx1.1, rfl, hx, h7⟩, h8⟩
      rw [PH.join_assoc m5 m7 m8, ← e7, PH.join_assoc m5 m6 m4, ← PH.join_assoc m1 m5, PH.join_comm dd1.1 , PH.join_assoc]

theorem step_eqT {C : Cx} {o : Oper} {E : Env} {L : List SP} {A A' : Ty} (e : A = A') (h : Step1 C o E L A) : Step1 C o E L A' := e ▸ h
end Lg

/- Bytes and strings. -/
namespace Lg
open Go

def bytesOf (s : ByteArray) : List Int := s.data.toList.map fun b => (b.toNat : Int)
def ofBytes (xs : List Int) : ByteArray := ⟨(xs.map fun n => UInt8.ofNat n.toNat).toArray⟩
theorem bytesOf_len (s : ByteArray) : (bytesOf s).length = s.size := by unfold bytesOf; rw [List.length_map]; rfl
theorem relAll_u8 {h : PH} : ∀ {xs : List Int} {cs : List Value}, relAll rU8 h xs cs ↔ cs = xs.map (.int .u8 ·)
  | [], cs => Iff.rfl
  | x :: xs, cs => by
    constructor
    · rintro ⟨c1, c2, rfl, r1, r2⟩
      have r1 : c1 = [.int .u8 x] := r1
      rw [relAll_u8.1 r2, r1]; rfl
    · rintro rfl
      exact ⟨[.int .u8 x], xs.map (.int .u8 ·), rfl, rfl, relAll_u8.2 rfl⟩

section
variable {P : Program} (w : World)
theorem str_cells (s : ByteArray) : (Array.map (fun b : UInt8 => Value.int IntKind.u8 (b.toNat : Int)) s.data).extract 0 s.size = Array.map (fun b : UInt8 => Value.int IntKind.u8 (b.toNat : Int)) s.data := by
  have hs : s.size = (Array.map (fun b : UInt8 => Value.int IntKind.u8 (b.toNat : Int)) s.data).size := by rw [Array.size_map]; rfl
  rw [hs, Array.extract_size]
theorem run_append_room_str (t u ty e : TypeId) (i : TypeInfo) (ht : P.underlying t = some (.slice e)) (hu : P.underlying u = some .string) (hi : P.info? e = some i) (h1 : i.size = 1)
    (g sLen sCap : Nat) (cur : Array Value) (hg : w.heap[g]? = some (.cells cur e (0, 0))) (s : ByteArray) (hroom : sLen + s.size ≤ sCap) (hfit : sLen + s.size ≤ cur.size) :
    (Builtin.append_ #[t, u] ty #[.slice (some ⟨g, 0, none⟩) sLen sCap, .string s]).run P w =
      .ok (.slice (some ⟨g, 0, none⟩) (sLen + s.size) sCap) (w.setRow g (cur.toList.take sLen ++ (bytesOf s).map (Value.int .u8 ·) ++ cur.toList.drop (sLen + s.size)).toArray) := by
  have hst := run_storeCells_at P g sLen e ((bytesOf s).map (Value.int .u8 ·)) 0 cur w hg (by simp [bytesOf_len]; omega) (by intro u hu; obtain ⟨a, _, rfl⟩ := List.mem_map.1 hu; rfl)
  simp only [Nat.add_zero, List.length_map, bytesOf_len] at hst
  have e1 : (Array.map (fun b : UInt8 => Value.int IntKind.u8 (b.toNat : Int)) s.data).toList = (bytesOf s).map (Value.int .u8 ·) := by simp [bytesOf]
  simp only [Builtin.append_, run_underlying ht, run_underlying hu, Sem.run_bind, Result.andThen]
  simp [Builtin.append_, run_underlying ht, run_underlying hu, Go.sizeOf, typeInfo, hi, h1, Builtin.lenOf, Builtin.firstCells, hroom, Addr.add_lit, str_cells]
  have e2 : List.map (fun b : UInt8 => Value.int IntKind.u8 (b.toNat : Int)) s.data.toList = (bytesOf s).map (Value.int .u8 ·) := by simp [bytesOf]
  rw [e2, hst]
  simp [List.append_assoc]
theorem run_append_grow_str (t u ty e : TypeId) (i : TypeInfo) (z : Value) (ht : P.underlying t = some (.slice e)) (hu : P.underlying u = some .string) (hi : P.info? e = some i) (hz : i.zero = some z) (h1 : i.size = 1)
    (b : Addr) (sLen sCap : Nat) (olds : List Value) (hlo : olds.length = sLen) (holds : ∀ j v, olds[j]? = some v → w.cell? (b.add j) = some v)
    (s : ByteArray) (hg : sCap < sLen + s.size) (h63 : ((sLen + s.size : Nat) : Int) ≤ 9223372036854775807) (hfit : Builtin.nextslicecap (sLen + s.size) sCap * i.bytes ≤ 281474976710656) :
    (Builtin.append_ #[t, u] ty #[.slice (some b) sLen sCap, .string s]).run P w =
      .ok (.slice (some ⟨w.heap.size, 0, none⟩) (sLen + s.size) (grownCap w (sLen + s.size) sCap e))
        (w.drew.alloc (.cells (olds.toArray ++ ((bytesOf s).map (Value.int .u8 ·)).toArray ++ Builtin.zeroCells z.cells (grownCap w (sLen + s.size) sCap e - (sLen + s.size))) e)) := by
  have hn : ¬ (sLen + s.size ≤ sCap) := by omega
  have h63' : ¬ (9223372036854775807 < ((sLen : Int) + (s.size : Int))) := by omega
  have h48' : ¬ (281474976710656 < Builtin.nextslicecap (sLen + s.size) sCap * i.bytes) := by omega
  have hfo := run_firstCells_some (P := P) w.drew i.size sLen b sLen sCap olds (by rw [h1]; omega) (by simpa using holds)
  rw [h1] at hfo
  simp [Builtin.append_, run_underlying ht, run_underlying hu, Go.sizeOf, typeInfo, zeroValue, hi, hz, h1, Builtin.lenOf, hn, h63', h48', Question.forced, hfo, newRow, grownCap]
  simp [Builtin.firstCells, str_cells]
  congr 2
  apply Array.ext'
  simp [bytesOf, List.append_assoc]
end

section
variable {C : Cx} {E : Env} {L : List SP} {d : Option Nat} {ty : Nat} {pos : String} {af : Array Edge} {g : Option (Nat × Bool)}

/-- append(bytes, s...) -/
theorem step_append_str {T U e : Nat} {z : Int} {x y : Operand} {v : Value} {xs : List Int} {s : ByteArray} {S : List SP} (hu : C.P.underlying T = some (.slice e)) (hs : C.P.underlying U = some .string) (hE : ElT C.P e rU8 1 z)
    (hx : Sub (opTy E x) (rV.ty v)) (hy : Sub (opTy E y) (tV (.string s))) (sel : Sel L [own e rU8 v xs] S) (h0 : 0 < s.size) (hb : xs.length + s.size ≤ 1000000000000) :
    Step C ⟨d, .call { callee := .builtin .append, args := #[x, y], argTypes := #[T, U] }, ty, pos, af, g⟩ E L (fun v' : Value => rV.ty v') (fun v' => own e rU8 v' (xs ++ bytesOf s) :: S) :=
  Step.of_run (by intro c h; cases h) fun a w h m l sp st fr => by
    have hv : a.eval x = v := (fr.get hx).1
    have hyv : a.eval y = .string s := fr.get hy
    obtain ⟨m1, m2, d12, rfl, ho, s2⟩ := sel.one.1 st
    obtain ⟨i, zv, hi, hz, hk, hby, hzr⟩ := hE.inf
    have hk1 : i.size = 1 := hk
    have hbl := bytesOf_len s
    have hop : ∀ u w', (Builtin.append_ #[T, U] ty #[v, .string s]).run C.P w = .ok u w' →
        (execOp a.eval ⟨d, .call { callee := .builtin .append, args := #[x, y], argTypes := #[T, U] }, ty, pos, af, g⟩).run C.P w = .ok (.value u) w' := by
      intro u w' hr
      simp [execOp, resolve, invoke, builtin, hv, hyv, hr]
    have hzl : zv.cells.size = 1 := by
      have h1 := rU8.len (rU8.cells (hzr h))
      rw [Array.length_toList] at h1
      exact h1
    have good : ∀ (cap : Nat) (m2 : PH), xs.length + s.size ≤ cap → cap ≤ maxLen → Sep h m2 C.r w → (stars S).p h m2 →
        ∃ m', Sep h m' C.r (w.drew.alloc (.cells ((xs.map (Value.int .u8 ·)).toArray ++ ((bytesOf s).map (Value.int .u8 ·)).toArray ++ Builtin.zeroCells zv.cells (cap - (xs.length + s.size))) e)) ∧
          (stars (own e rU8 (.slice (some ⟨w.heap.size, 0, none⟩) (xs.length + s.size) cap) (xs ++ bytesOf s) :: S)).p h m' := by
      intro cap m2 hcap hm sp2 s2
      refine ⟨_, sp2.drew.allocOwn (w := w.drew) _, _, m2, PH.disj_symm (PH.one_disj_new sp2.mw _), rfl, .inr ⟨w.heap.size, cap, _, by simp [hbl], rfl, by simpa [hbl] using hcap, hm, ?_, ?_⟩, s2⟩
      · simp only [Array.size_append, List.size_toArray, List.length_map, hbl, size_zeroCells, hzl]
        show _ = cap * 1
        omega
      · rw [relAll_u8]
        show List.take ((xs ++ bytesOf s).length * 1) _ = _
        rw [Nat.mul_one, List.length_append]
        have e1 : ((xs.map (Value.int .u8 ·)).toArray ++ ((bytesOf s).map (Value.int .u8 ·)).toArray ++ Builtin.zeroCells zv.cells (cap - (xs.length + s.size))).toList = ((xs ++ bytesOf s).map (Value.int .u8 ·)) ++ (Builtin.zeroCells zv.cells (cap - (xs.length + s.size))).toList := by simp
        rw [e1, List.take_append_of_le_length (by simp), List.take_of_length_le (by simp)]
    rcases ho with ⟨rfl, rfl, rfl⟩ | ⟨b', cap, cur, rfl, rfl, hlc, hcm, hcs, hr⟩
    · have hr := run_append_nil_string (P := C.P) w T U ty e i zv hu hs hi hz s h0 (by simp at hb; omega) (by rw [hby]; simp at hb; omega)
      have sp2 : Sep h m2 C.r w := by rw [PH.emp_join] at sp; exact sp
      obtain ⟨m', s1, s3⟩ := good (grownCap w s.size 0 e) m2 (by simpa using grownCap_ge w _ _ _) (grownCap_le_maxLen w _ _ _ (by unfold maxLen; simp at hb; omega)) sp2 s2
      simp only [List.length_nil, Nat.zero_add, List.map_nil] at s1 s3
      refine ⟨_, _, _, h, m', hop _ _ hr, HL.same (Same.drewAlloc _ _), ?_, s3, ⟨rfl, rfl⟩⟩
      have e3 : s.data.map (fun b => Value.int .u8 (b.toNat : Int)) = ((bytesOf s).map (Value.int .u8 ·)).toArray := by apply Array.ext'; simp [bytesOf]
      rw [e3]
      simpa using s1
    · have hkr : rU8.k = 1 := rfl
      rw [hkr, Nat.mul_one] at hcs hr
      rw [relAll_u8] at hr
      have hb' := sp.heap_own
      by_cases hroom : xs.length + s.size ≤ cap
      · have hr' := run_append_room_str (P := C.P) w T U ty e i hu hs hi hk1 b' xs.length cap cur hb' s hroom (by omega)
        refine ⟨_, _, _, h, (PH.one b' _).join m2, hop _ _ hr', HL.same ⟨rfl, rfl, rfl⟩, Sep.write d12 sp (fun b0 hne _ => setRow_other w b' b0 _ hne) (setRow_heap w b' cur _ e _ hb'), ?_, ⟨rfl, rfl⟩⟩
        refine ⟨_, m2, PH.one_disj_iff.2 (PH.one_disj_iff.1 d12), rfl, .inr ⟨b', cap, _, by simp [hbl], rfl, by simpa [hbl] using hroom, hcm, ?_, ?_⟩, s2⟩
        · simp only [List.size_toArray, List.length_append, List.length_take, List.length_drop, Array.length_toList, List.length_map, hbl]
          show _ = cap * 1
          omega
        · rw [relAll_u8, List.toList_toArray, hr]
          show List.take ((xs ++ bytesOf s).length * 1) _ = _
          rw [Nat.mul_one, List.length_append, List.take_append_of_le_length (by simp), List.take_of_length_le (by simp)]
          simp
      · have holds : ∀ j v, (xs.map (Value.int .u8 ·))[j]? = some v → w.cell? ((⟨b', 0, none⟩ : Addr).add j) = some v := fun j v hv => by
          rw [addr_add, Nat.zero_add, inw_cells (h := h) hb']
          rw [← hr, List.getElem?_take] at hv
          split at hv
          · simpa using hv
          · cases hv
        have hr' := run_append_grow_str (P := C.P) w T U ty e i zv hu hs hi hz hk1 ⟨b', 0, none⟩ xs.length cap (xs.map (Value.int .u8 ·)) (by simp) holds s (by omega) (by omega) (by rw [hby]; exact growslice_fits (by omega) (by omega))
        have sp2 : Sep h m2 C.r w := ⟨(by first | exact Sep.inv (by assumption) | exact Inv.mono (PH.le_join_left _ _) (Sep.inv (by assumption))), (PH.disj_join'.1 sp.hm).2, sp.hr, (PH.disj_join.1 sp.mr).2, sp.hw, fun b o e => sp.mw _ _ (PH.le_join_right d12 _ _ e), sp.rw⟩
        obtain ⟨m', s1, s3⟩ := good (grownCap w (xs.length + s.size) cap e) m2 (grownCap_ge w _ _ _) (grownCap_le_maxLen w _ _ _ (by unfold maxLen; omega)) sp2 s2
        exact ⟨_, _, _, h, m', hop _ _ hr', HL.same (Same.drewAlloc _ _), s1, s3, ⟨rfl, rfl⟩⟩

theorem foldl_push (xs : List Int) (r : ByteArray) : xs.foldl (fun r n => r.push (UInt8.ofNat n.toNat)) r = ⟨r.data ++ (xs.map fun n => UInt8.ofNat n.toNat).toArray⟩ := by
  induction xs generalizing r with
  | nil => simp
  | cons x xs ih => rw [List.foldl_cons, ih]; simp [ByteArray.push]

/-- string(bytes) -/
theorem step_convert_str {T U e : Nat} {x : Operand} {v : Value} {xs : List Int} {S : List SP} (hu : C.P.underlying T = some (.slice e)) (he : C.P.underlying e = some (.int .u8)) (hs : C.P.underlying U = some .string)
    (hx : Sub (opTy E x) (rV.ty v)) (sel : Sel L [own e rU8 v xs] S) : Step1 C ⟨d, .convert T U x, ty, pos, af, g⟩ E L (tV (.string (ofBytes xs))) :=
  Step.of_run (by intro c h; cases h) fun a w h m l sp st fr => by
    have hv : a.eval x = v := (fr.get hx).1
    have st0 := st
    obtain ⟨m1, m2, d12, rfl, ho, s2⟩ := sel.one.1 st
    rcases ho with ⟨rfl, rfl, rfl⟩ | ⟨b', cap, cur, rfl, rfl, hlc, hcm, hcs, hr⟩
    · refine ⟨(), .string (ofBytes []), w, h, _, ?_, HL.refl, sp, st0, rfl⟩
      simp [execOp, convert, hv, run_underlying hu, run_underlying he, run_underlying hs, Conv.bytesToString]
      rfl
    · have hkr : rU8.k = 1 := rfl
      rw [hkr, Nat.mul_one] at hcs hr
      rw [relAll_u8] at hr
      have hb' := sp.heap_own
      have hl := run_loadCells_list (P := C.P) (w := w) ⟨b', 0, none⟩ (xs.map (Value.int .u8 ·)) (fun j u hu' => by
        rw [addr_add, Nat.zero_add, inw_cells (h := h) hb']
        rw [← hr, List.getElem?_take] at hu'
        split at hu'
        · simpa using hu'
        · cases hu')
      rw [List.length_map] at hl
      have hrun := run_bytesToString (P := C.P) w ⟨b', 0, none⟩ xs.length cap xs hl
      rw [foldl_push] at hrun
      refine ⟨(), .string (ofBytes xs), w, h, _, ?_, HL.refl, sp, st0, rfl⟩
      simp only [execOp, convert, hv, Sem.run_bind, run_underlying hu, run_underlying he, run_underlying hs, Result.andThen_ok, hrun]
      simp [ofBytes]

theorem step_convert_int {T U : Nat} {x : Operand} {k k' : IntKind} {n m : Int} {td : TypeDesc} (ht : C.P.underlying T = some td) (hu : C.P.underlying U = some (.int k')) (hx : Sub (opTy E x) (tV (.int k n))) (hw : k'.wrap n = m) :
    Step1 C ⟨d, .convert T U x, ty, pos, af, g⟩ E L (tV (.int k' m)) :=
  Step.of_same (by intro c h; cases h) fun a w h hh f => by
    have hv : a.eval x = .int k n := f.get hx
    refine ⟨.int k' m, ?_, rfl⟩
    simp [execOp, convert, hv, run_underlying ht, run_underlying hu, Conv.intToInt, hw]

/-- s[i:j] of a string. -/
theorem step_slice_str {T i j : Nat} {x y z : Operand} {s : ByteArray} {k k' : IntKind} {a b : Int} (hu : C.P.underlying T = some .string) (hx : Sub (opTy E x) (tV (.string s))) (hy : Sub (opTy E y) (tV (.int k a))) (hz : Sub (opTy E z) (tV (.int k' b)))
    (ha : a = i) (hb : b = j) (hij : i ≤ j) (hj : j ≤ s.size) : Step1 C ⟨d, .slice T x (some y) (some z) none, ty, pos, af, g⟩ E L (tV (.string (s.extract i j))) :=
  Step.of_same (by intro c h; cases h) fun ac w h hh f => by
    have h1 : ac.eval x = .string s := f.get hx
    have h2 : ac.eval y = .int k a := f.get hy
    have h3 : ac.eval z = .int k' b := f.get hz
    subst ha; subst hb
    have hr := run_slice_string (P := C.P) w T s k k' i j hu (by omega) (by omega) (by omega)
    refine ⟨.string (s.extract i j), ?_, rfl⟩
    rw [Int.toNat_natCast, Int.toNat_natCast] at hr
    simp [execOp, Instr.sliceAt, run_underlying hu, h1, h2, h3, hr]
end
end Lg

/- Shifts and bits; a map in a variable. -/
namespace Lg
open Go
section
variable {C : Cx} {E : Env} {L : List SP} {d : Option Nat} {ty : Nat} {pos : String} {af : Array Edge} {g : Option (Nat × Bool)}
theorem step_shift {T U : Nat} {op : BinOp} {x y : Operand} {k yk : IntKind} {a b : Int} {v : Value} (hop : op = .shl ∨ op = .shr) (hx : Sub (opTy E x) (tV (.int k a))) (hy : Sub (opTy E y) (tV (.int yk b)))
    (hr : ∀ P w, (Op.shift op k a yk b).run P w = .ok v w) : Step1 C ⟨d, .binOp op T x y U, ty, pos, af, g⟩ E L (tV v) :=
  Step.of_same (by intro c h; cases h) fun ac w h hw f => ⟨v, by
    have h1 : ac.eval x = .int k a := f.get hx
    have h2 : ac.eval y = .int yk b := f.get hy
    have he : ∀ w, (eqGuard op T x y (.int k a) (.int yk b)).run C.P w = .ok () w := by intro w; rcases hop with rfl | rfl <;> simp [eqGuard]
    have hb : binOp op T (.int k a) (.int yk b) = Op.shift op k a yk b := by rcases hop with rfl | rfl <;> rfl
    simp [execOp, h1, h2, Sem.run_bind, he, hb, hr], rfl⟩
theorem step_shl {T U n : Nat} {x y : Operand} {yk : IntKind} {a b m : Int} (hx : Sub (opTy E x) (tV (.int .i64 a))) (hy : Sub (opTy E y) (tV (.int yk b))) (hb : b = n) (hn : n ≤ 64) (hm : IntKind.i64.wrap (a * 2 ^ n) = m) :
    Step1 C ⟨d, .binOp .shl T x y U, ty, pos, af, g⟩ E L (tV (.int .i64 m)) := step_shift (.inl rfl) hx hy (fun P w => by
  subst hb
  have h1 : ¬ ((n : Int) < 0) := by omega
  have h2 : min n (IntKind.i64.bits) = n := by simp [IntKind.bits]; omega
  simp [Op.shift, h1, h2, hm])
theorem step_shr {T U n : Nat} {x y : Operand} {yk : IntKind} {a b : Int} (hx : Sub (opTy E x) (tV (.int .i64 a))) (hy : Sub (opTy E y) (tV (.int yk b))) (hb : b = n) (hn : n ≤ 64) :
    Step1 C ⟨d, .binOp .shr T x y U, ty, pos, af, g⟩ E L (tV (.int .i64 (a / 2 ^ n))) := step_shift (.inr rfl) hx hy (fun P w => by
  subst hb
  have e := shift_shr .i64 yk a (n : Int) (by omega) (by show (n : Int) ≤ 64; omega)
  rw [e]; simp)
theorem step_and1 {T U n : Nat} {x y : Operand} {a b : Int} (hx : Sub (opTy E x) (tV (.int .i64 a))) (hy : Sub (opTy E y) (tV (.int .i64 b))) (ha : a = n) (hb : b = 1) (hn : n < 9223372036854775808) :
    Step1 C ⟨d, .binOp .and T x y U, ty, pos, af, g⟩ E L (tV (.int .i64 ((n % 2 : Nat) : Int))) := step_int hx hy (fun P w => by
  subst ha; subst hb
  have e1 : (BitVec.ofInt 64 (n : Int) &&& BitVec.ofInt 64 1).toNat = n % 2 := by
    rw [BitVec.toNat_and, BitVec.ofInt_natCast, BitVec.toNat_ofNat]
    have : (BitVec.ofInt 64 1).toNat = 1 := by decide
    rw [this, Nat.and_one_is_mod, Nat.mod_mod_of_dvd _ (by decide)]
  have e2 : IntKind.i64.wrap ((n % 2 : Nat) : Int) = ((n % 2 : Nat) : Int) := wrap64_in (by unfold in64; omega)
  simp only [binOp, Op.intBits]
  show Sem.run P (pure (Value.int .i64 (IntKind.i64.wrap ((BitVec.ofInt 64 (n : Int) &&& BitVec.ofInt 64 1).toNat : Nat)))) w = _
  rw [e1, e2]; rfl)
theorem step_makeMapV {κ β : Type} [DecidableEq κ] {kv : κ → Value} {R : Rp β} {T : Nat} : Step C ⟨d, .makeMap T none, ty, pos, af, g⟩ E L (fun v : Value => rV.ty v) (fun v => mapOwn kv R v ([] : List (κ × β)) :: L) :=
  Step.of_run (by intro c h; cases h) fun a w h m l sp st fr => by
    refine ⟨.map (some w.heap.size), .map (some w.heap.size), w.alloc (.map #[] 0), h, (PH.one w.heap.size (.map #[] 0)).join m, ?_, HL.own _, sp.allocOwn _, ?_, ⟨rfl, rfl⟩⟩
    · simp [execOp, Instr.makeMap, run_newObj_alloc]
    · exact ⟨_, m, PH.disj_symm (PH.one_disj_new sp.mw _), rfl, ⟨w.heap.size, [], rfl, rfl, trivial⟩, st⟩
end
end Lg

/- The tail of an own slice of ints, cleared. -/
namespace Lg
open Go
def tTail (v : Value) (i : Nat) : Ty := ⟨fun _ u => ∀ p n cap, v = .slice p n cap → u = .slice (if cap = i then p else p.map (·.add i)) (n - i) (cap - i), fun _ e => e⟩
theorem zeroCells_int (n : Nat) : (Builtin.zeroCells (Value.int .i64 0).cells n).toList = List.replicate n (Value.int .i64 0) := by
  have : (Value.int .i64 0).cells = #[Value.int .i64 0] := rfl
  rw [this]
  simp [Builtin.zeroCells]
  apply List.ext_getElem
  · simp
  · intro i h1 h2
    simp [Nat.mod_one]
section
variable {C : Cx} {E : Env} {L : List SP} {d : Option Nat} {ty : Nat} {pos : String} {af : Array Edge} {g : Option (Nat × Bool)}
theorem step_slice_tail {T n : Nat} {x y : Operand} {v : Value} {xs : List Int} {S : List SP} {k : IntKind} {i : Int} (hu : C.P.underlying T = some (.slice 3)) (hR : TyOf C.P 3 rInt)
    (hx : Sub (opTy E x) (rV.ty v)) (hy : Sub (opTy E y) (tV (.int k i))) (hi : i = n) (sel : Sel L [own 3 rInt v xs] S) (hn : n ≤ xs.length) :
    Step1 C ⟨d, .slice T x (some y) none none, ty, pos, af, g⟩ E L (tTail v n) :=
  Step.of_run (by intro c h; cases h) fun a w h m l sp st fr => by
    have hv : a.eval x = v := (fr.get hx).1
    have h2 : a.eval y = .int k i := fr.get hy
    subst hi
    have st0 := st
    obtain ⟨m1, m2, d12, rfl, ho, s2⟩ := sel.one.1 st
    have hsz : ∀ w, (Go.sizeOf 3).run C.P w = .ok 1 w := hR.size
    rcases ho with ⟨rfl, rfl, rfl⟩ | ⟨b, cap, cur, rfl, rfl, hl, hm, hs, r⟩
    · have hn0 : n = 0 := by simpa using hn
      subst hn0
      refine ⟨(), .slice none 0 0, w, h, _, ?_, HL.refl, sp, st0, ?_⟩
      · simp [execOp, Instr.sliceAt, run_underlying hu, hv, h2, Instr.slice, Instr.sliceBounds, Instr.sliceBound, asIntOf, hsz]
      · intro p n' cap' e; injection e with e1 e2 e3; subst e1; subst e2; subst e3; simp
    · refine ⟨(), .slice (if cap = n then some ⟨b, 0, none⟩ else (some ⟨b, 0, none⟩ : Option Addr).map (·.add n)) (xs.length - n) (cap - n), w, h, _, ?_, HL.refl, sp, st0, ?_⟩
      · simp [execOp, Instr.sliceAt, run_underlying hu, hv, h2, Instr.slice, Instr.sliceBounds, Instr.sliceBound, asIntOf, hsz, hn]
      · intro p n' cap' e; injection e with e1 e2 e3; subst e1; subst e2; subst e3; rfl
theorem step_clear {T n : Nat} {x : Operand} {v : Value} {xs : List Int} {S : List SP} (hu : C.P.underlying T = some (.slice 3)) (hz : ∀ w, (zeroValue 3).run C.P w = .ok (.int .i64 0) w)
    (hx : Sub (opTy E x) (tTail v n)) (sel : Sel L [own 3 rInt v xs] S) (hn : n ≤ xs.length) :
    Step C ⟨none, .call { callee := .builtin .clear, args := #[x], argTypes := #[T] }, ty, pos, af, g⟩ E L (fun _ : Unit => tAny) (fun _ => own 3 rInt v (xs.take n ++ List.replicate (xs.length - n) 0) :: S) := by
  have H : ∀ a w h m, HL C.h0 C.w0 h w → Sep h m C.r w → (stars L).p h m → Fr E h a → ∃ (q : Unit) (v' : Value), ∃ w' h' m', (execOp a.eval ⟨none, .call { callee := .builtin .clear, args := #[x], argTypes := #[T] }, ty, pos, af, g⟩).run C.P w = .ok (.value v') w' ∧ HL h w h' w' ∧ Sep h' m' C.r w' ∧ (stars (own 3 rInt v (xs.take n ++ List.replicate (xs.length - n) 0) :: S)).p h' m' ∧ (tAny).p h' v' := by
    intro a w h m l sp st fr
    have hv := fr.get hx
    obtain ⟨m1, m2, d12, rfl, ho, s2⟩ := sel.one.1 st
    have hop : ∀ w', (Builtin.clear_ #[T] ty #[a.eval x]).run C.P w = .ok (.tuple #[]) w' →
        (execOp a.eval ⟨none, .call { callee := .builtin .clear, args := #[x], argTypes := #[T] }, ty, pos, af, g⟩).run C.P w = .ok (.value (.tuple #[])) w' := by
      intro w' hr
      simp [execOp, resolve, invoke, builtin, hr]
    by_cases hnl : n = xs.length
    · refine ⟨(), .tuple #[], w, h, m1.join m2, hop w ?_, HL.refl, sp, ⟨m1, m2, d12, rfl, by rw [hnl]; simpa using ho, s2⟩, trivial⟩
      rcases ho with ⟨rfl, rfl, rfl⟩ | ⟨b, cap, cur, rfl, rfl, hl, hm, hs, r⟩
      · rw [hv _ _ _ rfl]; subst hnl; simp [Builtin.clear_, run_underlying hu]
      · rw [hv _ _ _ rfl]; subst hnl; simp only [Nat.sub_self]; cases (if cap = xs.length then some (⟨b, 0, none⟩ : Addr) else (some ⟨b, 0, none⟩ : Option Addr).map (·.add xs.length)) <;> simp [Builtin.clear_, run_underlying hu]
    · rcases ho with ⟨rfl, rfl, rfl⟩ | ⟨b, cap, cur, rfl, rfl, hl, hm, hs, r⟩
      · exact absurd (by simpa using hn) hnl
      · have hcn : cap ≠ n := by omega
        have hb := sp.heap_own
        have hk : rInt.k = 1 := rfl
        rw [hk, Nat.mul_one] at hs r
        have hst := run_storeCells_at C.P b n 3 (List.replicate (xs.length - n) (Value.int .i64 0)) 0 cur w hb (by simp; omega) (by intro u hu'; rw [List.eq_of_mem_replicate hu']; rfl)
        rw [Nat.add_zero] at hst
        refine ⟨(), .tuple #[], w.setRow b (cur.toList.take n ++ List.replicate (xs.length - n) (Value.int .i64 0) ++ cur.toList.drop (n + (List.replicate (xs.length - n) (Value.int .i64 0)).length)).toArray, h, (PH.one b _).join m2, hop _ ?_, HL.same ⟨rfl, rfl, rfl⟩, Sep.write d12 sp (fun b' hne _ => setRow_other w b b' _ hne) (setRow_heap w b cur _ 3 _ hb), ?_, trivial⟩
        · rw [hv _ _ _ rfl, if_neg hcn]
          obtain ⟨q, hq⟩ : ∃ q, xs.length - n = q + 1 := ⟨xs.length - n - 1, by omega⟩
          have hzc := zeroCells_int (xs.length - n)
          rw [hq] at hst hzc ⊢
          simp only [Option.map, addr_add, Nat.zero_add]
          simp [Builtin.clear_, run_underlying hu, hz, hzc, hst]
        · refine ⟨_, m2, PH.one_disj_iff.2 (PH.one_disj_iff.1 d12), rfl, .inr ⟨b, cap, _, by simp; omega, rfl, by simp; omega, hm, ?_, ?_⟩, s2⟩
          · simp [hk, hs]; omega
          · rw [relAll_int] at r ⊢
            rw [hk, Nat.mul_one]
            have hlen : (xs.take n ++ List.replicate (xs.length - n) (0 : Int)).length = xs.length := by simp; omega
            rw [hlen]
            have e1 := list_take_splice cur.toList (List.replicate (xs.length - n) (Value.int .i64 0)) n (xs.length - n) xs.length (by omega) (by simpa [hs] using hl) (by simp)
            simp only [List.length_replicate, List.map_append, List.map_take, List.map_replicate] at e1 ⊢
            first
            | (rw [e1, r]; simp; done)
            | (rw [e1, r]; simp; omega)
            | (rw [e1, r, List.drop_of_length_le (by simp; omega), List.append_nil])
  exact Step.of_run (by intro c h; cases h) H
end
end Lg

/- Slices in a block of a given element type; a call that looks at own memory and hands back what cannot lie there. -/
namespace Lg
open Go
def InE (h : PH) (e : Nat) (v : Value) : Prop := ∀ b off len cap, v = .slice (some ⟨b, off, none⟩) len cap → 0 < len → len ≤ cap ∧ ∃ c fz, h b = some (.cells c e fz)
def tSlE {α : Type} (e : Nat) (R : Rp α) (xs : List α) : Ty where
  p := fun h v => (tSl R xs).p h v ∧ InE h e v
  mono := fun l ⟨a, b⟩ => ⟨(tSl R xs).mono l a, fun b' off len cap e1 e2 => let ⟨hl, c, fz, hb⟩ := b b' off len cap e1 e2; ⟨hl, c, fz, l _ _ hb⟩⟩
def rSlE {α : Type} (e : Nat) (R : Rp α) : Rp (List α) := rT (tSlE e R) (by rintro h x v ⟨⟨ao, cap, rfl, _⟩, _⟩; rfl)
theorem Sub.ofE {α : Type} {e : Nat} {R : Rp α} {xs : List α} : Sub (tSlE e R xs) (tSl R xs) := fun _ _ a => a.1
theorem Sub.slE {α : Type} {e : Nat} {R : Rp α} {xs ys : List α} (h : xs = ys) : Sub (tSlE e R xs) (tSlE e R ys) := h ▸ Sub.rfl
theorem Sub.nilslE {α : Type} {R : Rp α} {e c : Nat} : Sub (tV (.slice none 0 c)) (tSlE e R ([] : List α)) := fun h v ev => ⟨Sub.nilsl h v ev, fun b off len cap e1 _ => by rw [show v = .slice none 0 c from ev] at e1; cases e1⟩
/-- Elements of the same cells, seen more weakly. -/
theorem tSl.weak {α : Type} {R R' : Rp α} {xs : List α} (hk : R'.k = R.k) (hr : ∀ h x cs, R.rel h x cs → R'.rel h x cs) : Sub (tSl R xs) (tSl R' xs) := fun h v ⟨ao, cap, e, H⟩ =>
  ⟨ao, cap, e, fun hn => let ⟨b, off, ea, H'⟩ := H hn; ⟨b, off, ea, fun i x hx => let ⟨cs, H1, r⟩ := H' i x hx; ⟨cs, hk ▸ H1, hr _ _ _ r⟩⟩⟩
theorem Sub.ofEE {α : Type} {e e' : Nat} {R : Rp α} {xs : List (List α)} : Sub (tSlE e (rSlE e' R) xs) (tSl (rSl R) xs) := fun h v a =>
  tSl.weak (R := rSlE e' R) (R' := rSl R) _root_.rfl (fun h x cs ⟨u, e1, e2⟩ => ⟨u, e1, e2.1⟩) h v a.1
theorem Frz.ownE {α : Type} {e : Nat} {R : Rp α} {v : Value} {xs : List α} {S : List SP} : Frz (Lg.own e R v xs :: S) (rV.ty v) (tSlE e R xs) := fun h m u d hs hv => by
  refine ⟨Frz.own h m u d hs hv, ?_⟩
  obtain ⟨m1, m2, d12, em, ho, _⟩ := hs
  subst em; have hv := hv.1; subst hv
  intro b off len cap e1 e2
  rcases ho with ⟨rfl, rfl, rfl⟩ | ⟨g, cap', cur, rfl, rfl, hlc, _, _, _⟩
  · cases e1
  · have e3 := Value.slice.inj e1
    have e4 := congrArg Addr.block (Option.some.inj e3.1)
    simp only at e4
    subst e4
    have hd := PH.disj_join'.1 d
    refine ⟨by rw [← e3.2.1, ← e3.2.2]; exact hlc, cur, (0, 0), PH.le_join_right d _ _ (PH.le_join_left _ _ _ _ (PH.one_same _ _))⟩
theorem Frz.ownE' {α : Type} {e : Nat} {R : Rp α} {v : Value} {xs ys : List α} {S : List SP} (h : xs = ys) : Frz (Lg.own e R v xs :: S) (rV.ty v) (tSlE e R ys) := h ▸ Frz.ownE
section
variable {C : Cx} {E : Env} {L : List SP} {d : Option Nat} {ty : Nat} {pos : String} {af : Array Edge} {g : Option (Nat × Bool)}
theorem step_literalE {α : Type} {T e bytes len : Nat} {R : Rp α} {z : α} {ps : Array (Nat × Operand)} {ys : List α} (hu : C.P.underlying T = some (.slice e)) (hE : ElT C.P e R bytes z) (hp : PartsE E R ps.toList 0 ys) (hl : len = ys.length) (hs : len * R.k ≤ 16777216) :
    Step1 C ⟨d, .buildSlice T len ps, ty, pos, af, g⟩ E L (tSlE e R ys) :=
  Step.of_run (by intro c h; cases h) fun a w h m l sp st fr => by
    obtain ⟨cs, r, hrun⟩ := run_literal (w := w) hu hE hp hl hs fr
    refine ⟨(), .slice (some ⟨w.heap.size, 0, none⟩) len len, w.alloc (.cells cs.toArray e), h.join (PH.one w.heap.size (.cells cs.toArray e)), m, ?_, HL.imm _ (PH.le_join_left _ _), sp.allocImm _, (stars L).mono (PH.le_join_left _ _) st, ?_⟩
    · simp only [execOp, Sem.run_bind, hrun, Result.andThen_ok]; rfl
    · subst hl
      have hb : (h.join (PH.one w.heap.size (.cells cs.toArray e))) w.heap.size = some (.cells cs.toArray e) := PH.le_join_right (PH.one_disj_new sp.hw _) _ _ (PH.one_same _ _)
      refine ⟨tSl_of_relAll hb (relAll_mono (PH.le_join_left _ _) r) (fun j v hv => by simpa using hv), fun b off len cap e1 e2 => ?_⟩
      have e3 := Value.slice.inj e1
      have e4 := congrArg Addr.block (Option.some.inj e3.1)
      simp only at e4
      subst e4
      exact ⟨by rw [← e3.2.1, ← e3.2.2]; exact Nat.le_refl _, _, _, hb⟩
end
section
variable {C : Cx} {E : Env} {L : List SP} {d : Option Nat} {ty : Nat} {pos : String} {af : Array Edge} {g : Option (Nat × Bool)}
theorem tSlE.parts {α : Type} {e : Nat} {R : Rp α} {xs : List α} {h : PH} {v : Value} (t : (tSlE e R xs).p h v) (h0 : 0 < xs.length) :
    ∃ b off cap, v = .slice (some ⟨b, off, none⟩) xs.length cap ∧ xs.length ≤ cap ∧ ∀ (i : Nat) x, xs[i]? = some x → ∃ cs, Holds h b (off + i * R.k) cs ∧ R.rel h x cs := by
  obtain ⟨⟨ao, cap, rfl, H⟩, hE⟩ := t
  obtain ⟨b, off, rfl, H'⟩ := H (List.length_pos_iff.1 h0)
  exact ⟨b, off, cap, rfl, (hE b off _ cap rfl h0).1, H'⟩
/-- The beginning of a slice that may not change. -/
theorem step_slice_toE {α : Type} {T e n : Nat} {R : Rp α} {x y : Operand} {xs : List α} {k : IntKind} {i : Int} (hu : C.P.underlying T = some (.slice e)) (hR : TyOf C.P e R)
    (hx : Sub (opTy E x) (tSlE e R xs)) (hy : Sub (opTy E y) (tV (.int k i))) (hi : i = n) (h0 : 0 < xs.length) (hn : n ≤ xs.length) :
    Step1 C ⟨d, .slice T x none (some y) none, ty, pos, af, g⟩ E L (tSl R (xs.take n)) :=
  Step.of_run (by intro c h; cases h) fun a w h m l sp st fr => by
    obtain ⟨b, off, cap, hv, hlc, H⟩ := tSlE.parts (fr.get hx) h0
    have h2 : a.eval y = .int k i := fr.get hy
    subst hi
    refine ⟨(), .slice (some ⟨b, off, none⟩) n cap, w, h, _, ?_, HL.refl, sp, st, ⟨_, cap, by rw [List.length_take, Nat.min_eq_left hn], fun _ => ⟨b, off, rfl, fun j z hz => H j z ?_⟩⟩⟩
    · simp [execOp, Instr.sliceAt, run_underlying hu, hv, h2, Instr.slice, Instr.sliceBounds, Instr.sliceBound, asIntOf, hR.size, show n ≤ cap by omega]
      intro _; rw [addr_add, Nat.add_zero]
    · rw [List.getElem?_take] at hz
      split at hz
      · exact hz
      · cases hz
/-- The rest of a slice that may not change. -/
theorem step_slice_fromE {α : Type} {T e n : Nat} {R : Rp α} {x y : Operand} {xs : List α} {k : IntKind} {i : Int} (hu : C.P.underlying T = some (.slice e)) (hR : TyOf C.P e R)
    (hx : Sub (opTy E x) (tSlE e R xs)) (hy : Sub (opTy E y) (tV (.int k i))) (hi : i = n) (h0 : 0 < xs.length) (hn : n ≤ xs.length) :
    Step1 C ⟨d, .slice T x (some y) none none, ty, pos, af, g⟩ E L (tSl R (xs.drop n)) :=
  Step.of_run (by intro c h; cases h) fun a w h m l sp st fr => by
    obtain ⟨b, off, cap, hv, hlc, H⟩ := tSlE.parts (fr.get hx) h0
    have h2 : a.eval y = .int k i := fr.get hy
    subst hi
    refine ⟨(), .slice (if cap = n then some ⟨b, off, none⟩ else (some ⟨b, off, none⟩ : Option Addr).map (·.add (n * R.k))) (xs.length - n) (cap - n), w, h, _, ?_, HL.refl, sp, st, ⟨_, _, by rw [List.length_drop], fun hne => ?_⟩⟩
    · simp [execOp, Instr.sliceAt, run_underlying hu, hv, h2, Instr.slice, Instr.sliceBounds, Instr.sliceBound, asIntOf, hR.size, hn]
    · have hlt : n < xs.length := by
        rcases Nat.lt_or_ge n xs.length with q | q
        · exact q
        · exact absurd (List.drop_of_length_le q) hne
      refine ⟨b, off + n * R.k, by rw [if_neg (by omega)]; simp [addr_add], fun j z hz => ?_⟩
      rw [List.getElem?_drop] at hz
      obtain ⟨cs, h1, h2⟩ := H _ z hz
      exact ⟨cs, by rw [Nat.add_assoc, ← Nat.add_mul]; exact h1, h2⟩
end
/-- What does not lie in blocks of element type e0. -/
def AllE (e0 : Nat) (m : PH) : Prop := ∀ b o, m b = some o → ∃ c fz, o = .cells c e0 fz
def Off (e0 : Nat) (A : Ty) : Prop := ∀ h m v, h.disj m → AllE e0 m → A.p (h.join m) v → A.p h v
def OffR {α : Type} (e0 : Nat) (R : Rp α) : Prop := ∀ h m x cs, h.disj m → AllE e0 m → R.rel (h.join m) x cs → R.rel h x cs
theorem Off.v {e0 : Nat} {v : Value} : Off e0 (tV v) := fun _ _ _ _ _ e => e
theorem OffR.s {α : Type} {e0 : Nat} {f : α → Value} {h1 : ∀ x, (f x).oneCell' = true} : OffR e0 (rS f h1) := fun _ _ _ _ _ _ e => e
theorem Off.slE {α : Type} {e0 e : Nat} {R : Rp α} (he : e ≠ e0) (hR : OffR e0 R) {xs : List α} : Off e0 (tSlE e R xs) := fun h m v d hm ⟨⟨ao, cap, ev, H⟩, hE⟩ => by
  by_cases hn : xs = []
  · subst hn
    exact ⟨⟨ao, cap, ev, fun q => absurd rfl q⟩, fun b off len cap' e1 e2 => by
      rw [ev] at e1
      have := (Value.slice.inj e1).2.1
      simp at this; omega⟩
  obtain ⟨b, off, ea, H'⟩ := H hn
  subst ea
  obtain ⟨hlc, c, fz, hb⟩ := hE b off xs.length cap ev (List.length_pos_iff.2 hn)
  have hb' : h b = some (.cells c e fz) := by
    simp only [PH.join] at hb
    cases hx : h b with
    | some o => rw [hx] at hb; exact hb
    | none =>
      rw [hx] at hb
      obtain ⟨c', fz', q⟩ := hm _ _ hb
      injection q with q1 q2 q3
      exact absurd q2 he
  refine ⟨⟨some ⟨b, off, none⟩, cap, ev, fun _ => ⟨b, off, rfl, fun i x hx => ?_⟩⟩, fun b' off' len cap' e1 e2 => ?_⟩
  · obtain ⟨cs, ⟨c1, e1, fr1, hb1, hc1⟩, r⟩ := H' i x hx
    have : (h.join m) b = h b := by rw [hb, hb']
    rw [this] at hb1
    exact ⟨cs, ⟨c1, e1, fr1, hb1, hc1⟩, hR _ _ _ _ d hm r⟩
  · rw [ev] at e1
    have e3 := Value.slice.inj e1
    have e4 := congrArg Addr.block (Option.some.inj e3.1)
    simp only at e4
    subst e4
    exact ⟨by rw [← e3.2.1, ← e3.2.2]; exact hlc, _, _, hb'⟩
theorem OffR.slE {α : Type} {e0 e : Nat} {R : Rp α} (he : e ≠ e0) (hR : OffR e0 R) : OffR e0 (rSlE e R) := fun h m x cs d hm ⟨v, e1, e2⟩ => ⟨v, e1, Off.slE he hR h m v d hm e2⟩
theorem Args.off {e0 : Nat} {h m : PH} (d : h.disj m) (hm : AllE e0 m) : ∀ {As : List Ty} {vs : List Value}, (∀ A ∈ As, Off e0 A) → Args (h.join m) As vs → Args h As vs
  | [], [], _, _ => trivial
  | [], _ :: _, _, a => a.elim
  | _ :: _, [], _, a => a.elim
  | A :: As, u :: us, hA, a => ⟨hA A (by simp) h m u d hm a.1, Args.off d hm (fun B hB => hA B (by simp [hB])) a.2⟩
theorem Off.tup {e0 : Nat} {As : List Ty} (hA : ∀ A ∈ As, Off e0 A) : Off e0 (tTup As) := fun _ _ _ d hm ⟨vs, e, a⟩ => ⟨vs, e, Args.off d hm hA a⟩
theorem SF.off' {α : Type} {e0 : Nat} {h m : PH} {x : α} (d : h.disj m) (hm : AllE e0 m) : ∀ {fs : List (SF α)} {cs : List Value}, (∀ f ∈ fs, OffR e0 f.R) → SF.rel (h.join m) x fs cs → SF.rel h x fs cs
  | [], _, _, r => r
  | f :: _, _, hf, ⟨c1, c2, e1, r1, r2⟩ => ⟨c1, c2, e1, hf f (by simp) _ _ _ _ d hm r1, SF.off' d hm (fun g hg => hf g (by simp [hg])) r2⟩
theorem Off.struct {α : Type} {e0 : Nat} {fs : List (SF α)} (hf : ∀ f ∈ fs, OffR e0 f.R) {x : α} : Off e0 ((rStruct fs).ty x) := fun _ _ _ d hm ⟨cs, r, e⟩ => ⟨cs, SF.off' d hm hf r, e⟩
theorem own_allE {α : Type} {e : Nat} {R : Rp α} {v : Value} {xs : List α} {h m : PH} (p : (stars [own e R v xs]).p h m) : AllE e m := by
  obtain ⟨m1, m2, d, rfl, ho, e2⟩ := p
  rw [stars_nil] at e2; subst e2
  rw [PH.join_emp]
  intro b o hb
  rcases ho with ⟨_, _, rfl⟩ | ⟨g, cap', cur, _, rfl, _, _, _, _⟩
  · cases hb
  · obtain ⟨_, rfl⟩ := PH.one_some hb
    exact ⟨_, _, rfl⟩
theorem step_call_lookE {X : Type} {C : Cx} {E : Env} {L S R : List SP} {d : Option Nat} {ty : Nat} {pos : String} {af : Array Edge} {g : Option (Nat × Bool)} {f : Nat} {xs : Array Operand} {ts : Array Nat} {asT : List Ty} {res : X → Ty} {e0 : Nat}
    (sel : Sel L S R) (hS : ∀ h m, (stars S).p h m → AllE e0 m) (sp : Fun C.P f asT res) (hfl : ∀ x, Off e0 (res x)) (ha : ArgsF E S xs.toList asT) (he : ∀ args w, (callFunc f args).run C.P w = .ok (.enter f args) w) :
    Step C ⟨d, .call { callee := .value (.func f), args := xs, argTypes := ts }, ty, pos, af, g⟩ E L res (fun _ => L) := fun a w h m n l se st fr next Q hk => by
  obtain ⟨m1, m2, d12, rfl, s1, s2⟩ := sel.stars.1 st
  have hd := PH.disj_join'.1 se.hm
  have hr := PH.disj_join.1 se.mr
  have hA := ha.args hd.1 s1 fr
  have hc := sp _ (h.join m1) PH.emp (m2.join C.r) w hA ⟨(by first | exact Sep.inv (by assumption) | exact Inv.mono (PH.le_join_left _ _) (Sep.inv (by assumption))), PH.disj_emp _, PH.disj_join'.2 ⟨PH.disj_join.2 ⟨hd.2, d12⟩, PH.disj_join.2 ⟨se.hr, hr.1⟩⟩, PH.disj_emp_left _, PH.join_inw se.hw (fun b o e => se.mw _ _ (PH.le_join_left _ _ _ _ e)), (fun b o e => (by cases e)),
    PH.join_inw (fun b o e => se.mw _ _ (PH.le_join_right d12 _ _ e)) se.rw⟩ rfl
  refine ⟨fun _ _ => trivial, ?_⟩
  rw [Fw_round, Oper.semAt_eq _ _ _ (by intro c h; cases h)]
  have hrun : (execOp a.eval ⟨d, .call { callee := .value (.func f), args := xs, argTypes := ts }, ty, pos, af, g⟩).run C.P w = .ok (.enter f (xs.toList.map a.eval).toArray) w := by
    simp only [execOp, resolve, show a.eval (.func f) = .func (.func f) #[] #[] from rfl, Deferred.ofValue]
    simp [invoke, he]
    rw [← Array.toList_map]
  rw [hrun]
  refine ⟨by simp, (callsIn_wide (n := 0 - 1)).2 (hc.mono ?_)⟩
  rintro e w' ⟨x, v, h', m', rfl, l', se', st', hv⟩
  have w2 : m1.inw w' := fun b o e => se'.hw _ _ (l'.1 _ _ (PH.le_join_right hd.1 _ _ e))
  have w3 : m2.inw w' := fun b o e => se'.rw _ _ (PH.le_join_left _ _ _ _ e)
  have w4 : C.r.inw w' := fun b o e => se'.rw _ _ (PH.le_join_right hr.2 _ _ e)
  let h3 : PH := fun b => match m1 b with | some _ => none | none => h' b
  have h3le : h3.le h' := fun b o e => by
    simp only [h3] at e
    split at e
    · cases e
    · exact e
  have hd3 : h3.disj m1 := fun b => by
    cases hx : m1 b with
    | none => exact .inr rfl
    | some o => left; simp [h3, hx]
  have hj : h3.join m1 = h' := by
    funext b
    cases hx : m1 b with
    | some o =>
      have h1 : h3 b = none := by simp [h3, hx]
      have h2 : h' b = some o := l'.1 _ _ (PH.le_join_right hd.1 _ _ hx)
      simp [PH.join, h1, hx, h2]
    | none =>
      have h1 : h3 b = h' b := by simp [h3, hx]
      simp only [PH.join, h1, hx]
      cases h' b <;> rfl
  have hle : h.le h3 := fun b o e => by
    have h1 : m1 b = none := by
      rcases hd.1 b with q | q
      · rw [q] at e; cases e
      · exact q
    have h2 : h' b = some o := l'.1 _ _ (PH.le_join_left _ _ _ _ e)
    simp [h3, h1, h2]
  have sr := PH.disj_join'.1 se'.hr
  have d3 : ∀ k : PH, h'.disj k → h3.disj k := fun k dk b => by
    rcases dk b with q | q
    · left
      cases hx : h3 b with
      | none => rfl
      | some o => have := h3le _ _ hx; rw [q] at this; cases this
    · exact .inr q
  refine hk x v w' h3 (m1.join m2) ⟨hle, l'.2⟩ ⟨(Inv.mono hle se.inv), PH.disj_join'.2 ⟨hd3, d3 _ sr.1⟩, d3 _ sr.2, se.mr, fun b o e => se'.hw _ _ (h3le _ _ e), PH.join_inw w2 w3, w4⟩ ?_ ?_
  · exact sel.stars.2 ⟨m1, m2, d12, rfl, (stars S).mono hle s1, (stars R).mono hle s2⟩
  · exact hfl x h3 m1 v hd3 (hS _ _ s1) (hj ▸ hv)
theorem Fun1.sub2 {P : Program} {f : Nat} {A A' B B' r : Ty} (hA : Sub A' A) (hB : Sub B' B) (sp : Fun1 P f [A, B] r) : Fun1 P f [A', B'] r := fun vs h m w0 w ha => by
  refine sp vs h m w0 w ?_
  match vs, ha with
  | [_, _], ⟨a, b, c⟩ => exact ⟨hA _ _ a, hB _ _ b, c⟩
end Lg

/- A field of an element of a slice of one's own. -/
namespace Lg
open Go
def fldAt (v : Value) (k i o : Nat) : Value := match v with
  | .slice (some a) _ _ => .pointer (some ⟨a.block, a.off + i * k + o, none⟩)
  | _ => undef
theorem splice_in {β : Type} (l c cz : List β) (a K o k : Nat) (hc : c.length = K) (ho : o + k ≤ K) (hl : a + K ≤ l.length) (hg : ∀ j, j < K → l[a + j]? = c[j]?) :
    l.take a ++ (c.take o ++ cz ++ c.drop (o + k)) ++ l.drop (a + K) = l.take (a + o) ++ cz ++ l.drop (a + o + k) := by
  have e : l = l.take a ++ (c ++ l.drop (a + K)) := by
    have e1 : (l.drop a).take K = c := by
      apply List.ext_getElem?
      intro j
      rw [List.getElem?_take]
      by_cases hj : j < K
      · rw [if_pos hj, List.getElem?_drop, hg j hj]
      · rw [if_neg hj, List.getElem?_eq_none (by omega)]
    have e2 : l.drop a = c ++ l.drop (a + K) := by
      rw [← e1, ← List.drop_drop, List.take_append_drop]
    rw [← e2, List.take_append_drop]
  have hA : (l.take a).length = a := by simp; omega
  have h1 : l.take (a + o) = l.take a ++ c.take o := by
    conv => lhs; rw [e]
    rw [List.take_append, hA, List.take_of_length_le (by omega)]
    congr 1
    rw [List.take_append, hc, show a + o - a = o by omega, show o - K = 0 by omega]; simp
  have h2 : l.drop (a + o + k) = c.drop (o + k) ++ l.drop (a + K) := by
    conv => lhs; rw [e]
    rw [List.drop_append, hA, List.drop_of_length_le (by omega), List.nil_append]
    rw [List.drop_append, hc, show a + o + k - a = o + k by omega, show o + k - K = 0 by omega]; simp
  rw [h1, h2]; simp [List.append_assoc]
section
variable {C : Cx} {E : Env} {L : List SP} {d : Option Nat} {ty : Nat} {pos : String} {af : Array Edge} {g : Option (Nat × Bool)}
theorem step_fieldAddr_elem {α : Type} {T e n i : Nat} {fs : List (SF α)} {x : Operand} {v : Value} {xs : List α} {f : SF α} {S : List SP} (So : StructOf C.P T fs) (hx : Sub (opTy E x) (tV (elemAt v (SF.width fs) i))) (hf : fs[n]? = some f)
    (sel : Sel L [own e (rStruct fs) v xs] S) (hi : i < xs.length) : Step1 C ⟨d, .fieldAddr T x n, ty, pos, af, g⟩ E L (tV (fldAt v (SF.width fs) i (SF.off fs n))) :=
  Step.of_run (by intro c h; cases h) fun a w h m l sp st fr => by
    have hp : a.eval x = elemAt v (SF.width fs) i := fr.get hx
    obtain ⟨m1, m2, d12, rfl, ho, s2⟩ := sel.one.1 st
    rcases ho with ⟨rfl, rfl, _⟩ | ⟨b, cap, cur, rfl, rfl, hl, hm, hs, r⟩
    · simp at hi
    · refine ⟨(), _, w, h, _, ?_, HL.refl, sp, st, rfl⟩
      simp only [elemAt, Nat.zero_add] at hp
      have := So.fieldAt hf b (i * SF.width fs) w
      simp [execOp, hp, this, fldAt]
theorem step_store_elemfld {α β : Type} {T e i n : Nat} {fs : List (SF α)} {R : Rp β} {z : β} {x u : Operand} {v : Value} {xs : List α} {y y' : α} {S : List SP} (hR : TyOf C.P T R) (hx : Sub (opTy E x) (tV (fldAt v (SF.width fs) i (SF.off fs n)))) (hv : Sub (opTy E u) (R.ty z))
    (sel : Sel L [own e (rStruct fs) v xs] S) (hy : xs[i]? = some y) (hu : SF.upd y y' R z fs n) :
    Step C ⟨d, .store T x u, ty, pos, af, g⟩ E L (fun _ : Unit => tAny) (fun _ => own e (rStruct fs) v (xs.set i y') :: S) :=
  Step.of_skip (by intro c h; cases h) fun a w h m l sp st fr => by
    have hp : a.eval x = fldAt v (SF.width fs) i (SF.off fs n) := fr.get hx
    have rz := R.cells (fr.get hv)
    have hi : i < xs.length := (List.getElem?_eq_some_iff.1 hy).1
    obtain ⟨m1, m2, d12, rfl, ho, s2⟩ := sel.one.1 st
    rcases ho with ⟨rfl, rfl, _⟩ | ⟨b, cap, cur, rfl, rfl, hl, hm, hs, r⟩
    · simp at hi
    · have hb := sp.heap_own
      have hK : (rStruct fs).k = SF.width fs := rfl
      rw [hK] at r hs
      obtain ⟨c, rc, hc⟩ := relAll_get r hy
      rw [hK] at hc
      have rc : SF.rel h y fs c := rc
      have hcl := SF.rel_len rc
      obtain ⟨rn, hle0⟩ := SF.rel_set rz hu rc
      rw [hcl] at hle0
      have hle : i * SF.width fs + SF.width fs ≤ xs.length * SF.width fs := by rw [← Nat.succ_mul]; exact Nat.mul_le_mul_right _ hi
      have hle2 : xs.length * SF.width fs ≤ cap * SF.width fs := Nat.mul_le_mul_right _ hl
      have hrz := R.len rz
      obtain ⟨w', hrun, hoth, hsame, hnew⟩ := run_storeVar_cells (P := C.P) (b := b) (o := i * SF.width fs + SF.off fs n) (v := a.eval u) hR.size (by simpa using hrz) hb (by rw [hs]; omega) (R.one rz)
      have rn2 := relAll_set (R := rStruct fs) rn hi r
      rw [hK] at rn2
      refine ⟨(), w', h, (PH.one b _).join m2, ?_, HL.same hsame, Sep.write d12 sp (fun b' hne _ => hoth b' hne) hnew, ?_⟩
      · simp only [fldAt, Nat.zero_add] at hp
        simp [execOp, Instr.storeAt, Instr.sureAddr, hp, hrun]
      · refine ⟨_, m2, PH.one_disj_iff.2 (PH.one_disj_iff.1 d12), rfl, .inr ⟨b, cap, _, by simp, rfl, by simpa using hl, hm, ?_, ?_⟩, s2⟩
        · simp only [Array.length_toList] at hrz
          simp only [List.size_toArray, List.length_append, List.length_take, List.length_drop, Array.length_toList, hs, hrz, hK]
          omega
        · have e0 := splice_in cur.toList c (a.eval u).cells.toList (i * SF.width fs) (SF.width fs) (SF.off fs n) R.k hcl hle0 (by simp [hs]; omega) (fun j hj => by
            have h1 := hc j (c[j]'(by omega)) (List.getElem?_eq_getElem (by omega))
            rw [List.getElem?_take] at h1
            split at h1
            · rw [h1, List.getElem?_eq_getElem (by omega)]
            · cases h1)
          have e1 := list_take_splice cur.toList (c.take (SF.off fs n) ++ (a.eval u).cells.toList ++ c.drop (SF.off fs n + R.k)) (i * SF.width fs) (SF.width fs) (xs.length * SF.width fs) hle (by simpa [hs] using hle2) (by simp only [List.length_append, List.length_take, List.length_drop, hrz, hcl]; omega)
          rw [List.length_set]
          show relAll (rStruct fs) h _ (List.take (xs.length * SF.width fs) (List.take (i * SF.width fs + SF.off fs n) cur.toList ++ (a.eval u).cells.toList ++ List.drop (i * SF.width fs + SF.off fs n + R.k) cur.toList).toArray.toList)
          rw [List.toList_toArray, ← e0, e1]
          exact rn2
end
end Lg

/- From the kit's reading of an argument to a representation over the whole first heap; and back: below the first heap nothing has turned. -/
namespace Lg
open Go
def wholeH (W : World) : PH := fun b => W.heap[b]?
theorem wholeH_inw (W : World) : (wholeH W).inw W := fun _ _ e => e
theorem TyOf.cells {α : Type} {P : Program} {T : Nat} {R : Rp α} (h : TyOf P T R) (W : World) : P.cellsOf T = R.k := by
  have h1 := h.size W
  cases hi : P.info? T with
  | none => simp [Go.sizeOf, typeInfo, hi] at h1
  | some i =>
    rw [run_sizeOf W hi] at h1
    injection h1
section
variable {H : Type} {enc : TypeId × Value → H} {P : Program} {W : World}
/-- Whatever the kit reads at type t is represented by R. -/
structure Rd {α H : Type} (enc : TypeId × Value → H) (P : Program) (W : World) (t : Nat) (R : Rp α) : Prop where
  k : P.cellsOf t = R.k
  rd : ∀ fuel cs x, DataW.trod enc P W 0 (fun _ => true) true fuel t cs = some x → ∃ y, R.rel (wholeH W) y cs
theorem Rd.int {t : Nat} (hT : TyOf P t rInt) (hu : P.underlying t = some (.int .i64)) : Rd enc P W t rInt where
  k := hT.cells W
  rd := fun _ _ _ h => by
    obtain ⟨n, rfl, _, _⟩ := DataW.trod_int hu h
    exact ⟨n, rfl⟩
theorem Rd.bool {t : Nat} (hT : TyOf P t rBool) (hu : P.underlying t = some .bool) : Rd enc P W t rBool where
  k := hT.cells W
  rd := fun _ _ _ h => by
    obtain ⟨n, rfl, _⟩ := DataW.trod_bool hu h
    exact ⟨n, rfl⟩
theorem Rd.str {t : Nat} (hT : TyOf P t rStr) (hu : P.underlying t = some .string) : Rd enc P W t rStr where
  k := hT.cells W
  rd := fun _ _ _ h => by
    obtain ⟨n, rfl, _, _⟩ := DataW.trod_string hu h
    exact ⟨n, rfl⟩
theorem cell_holds {b off k : Nat} {cs : List Value} (hk : 0 < k) (hl : cs.length = k) (hc : ∀ j, j < k → W.cell? ⟨b, off + j, none⟩ = cs[j]?) : Holds (wholeH W) b off cs := by
  have h0 := hc 0 hk
  have h0' : cs[0]? = some (cs[0]'(by omega)) := List.getElem?_eq_getElem (by omega)
  rw [h0'] at h0
  unfold World.cell? at h0
  simp only at h0
  split at h0
  · rename_i c e fr hb
    refine ⟨c, e, fr, hb, fun j v hv => ?_⟩
    have hj : j < k := by have := (List.getElem?_eq_some_iff.1 hv).1; omega
    have h1 := hc j hj
    unfold World.cell? at h1
    simp only [hb] at h1
    simpa [hv] using h1
  · cases h0
theorem Rd.sl {α : Type} {t e : Nat} {R : Rp α} (hT : TyOf P t (rSl R)) (hu : P.underlying t = some (.slice e)) (hR : Rd enc P W e R) (hk : 0 < R.k) : Rd enc P W t (rSl R) where
  k := hT.cells W
  rd := fun fuel cs x h => by
    rcases DataW.trod_slice hu h with ⟨rfl, _⟩ | ⟨a, len, cap, elems, rest, n, _, rfl, _, _, _, _, hlen, hel, _, _⟩
    · exact ⟨[], _, rfl, none, 0, rfl, fun q => absurd rfl q⟩
    have hall : ∀ i : Fin len, ∃ y cs, W.cells? 0 (a.add (i.1 * R.k)) R.k = some cs ∧ R.rel (wholeH W) y cs := fun i => by
      have h1 := hel i.1 i.2
      rw [List.getElem?_eq_getElem (by omega : i.1 < elems.length), Option.bind_eq_some_iff] at h1
      obtain ⟨cs, h2, h3⟩ := h1
      obtain ⟨y, hy⟩ := hR.rd _ _ _ h3
      rw [hR.k] at h2
      exact ⟨y, cs, h2, hy⟩
    let f : Fin len → α := fun i => Classical.choose (hall i)
    have hf : ∀ i : Fin len, ∃ cs, W.cells? 0 (a.add (i.1 * R.k)) R.k = some cs ∧ R.rel (wholeH W) (f i) cs := fun i => Classical.choose_spec (hall i)
    refine ⟨List.ofFn f, _, rfl, some a, cap, by rw [List.length_ofFn], fun hne => ?_⟩
    have hl0 : 0 < len := by
      rcases Nat.eq_zero_or_pos len with h0 | h0
      · exfalso; apply hne; subst h0; simp
      · exact h0
    have hsp : a.spot = none := by
      obtain ⟨cs, h1, h2⟩ := hf ⟨0, hl0⟩
      obtain ⟨_, h3, h4⟩ := World.cells?_some h1
      have h5 := h4 0 hk
      rw [List.getElem?_eq_getElem (by omega : 0 < cs.length)] at h5
      have h6 : (a.add (0 * R.k)).add 0 = a := by simp [Addr.add]
      rw [h6] at h5
      exact World.cell?_spot h5
    obtain ⟨b, off, sp⟩ := a
    simp only at hsp
    subst hsp
    refine ⟨b, off, rfl, fun i y hy => ?_⟩
    have hi : i < len := by have := (List.getElem?_eq_some_iff.1 hy).1; simpa using this
    have hy' : f ⟨i, hi⟩ = y := by
      rw [List.getElem?_eq_getElem (by simpa using hi)] at hy
      simpa using hy
    obtain ⟨cs, h1, h2⟩ := hf ⟨i, hi⟩
    obtain ⟨_, h3, h4⟩ := World.cells?_some h1
    rw [hy'] at h2
    refine ⟨cs, cell_holds hk h3 fun j hj => ?_, h2⟩
    have := h4 j hj
    simp only [addr_add] at this
    exact this
theorem SF.rel_of {α : Type} {h : PH} {x : α} : ∀ {fs : List (SF α)} {cs : List Value}, cs.length = SF.width fs → (∀ (i : Nat) (f : SF α), fs[i]? = some f → f.R.rel h (f.get x) ((cs.drop (SF.off fs i)).take f.R.k)) → SF.rel h x fs cs
  | [], cs, hl, _ => List.eq_nil_of_length_eq_zero hl
  | f :: fs, cs, hl, hr => by
    refine ⟨cs.take f.R.k, cs.drop f.R.k, (List.take_append_drop _ _).symm, by simpa [SF.off] using hr 0 f rfl, SF.rel_of (by simp [hl, SF.width]) fun i g hg => ?_⟩
    have := hr (i + 1) g (by simpa using hg)
    simpa [SF.off, List.drop_drop] using this
theorem readStruct {α : Type} {t : Nat} {fs : List (SF α)} (S : StructOf P t fs) {fuel : Nat} {cs : List Value} {x : DataW H × List MemPlace} (h : DataW.trod enc P W 0 (fun _ => true) true fuel t cs = some x) :
    cs.length = SF.width fs ∧ ∀ (i : Nat) (f : SF α), fs[i]? = some f → ∃ n z, DataW.trod enc P W 0 (fun _ => true) true n f.T ((cs.drop (SF.off fs i)).take f.R.k) = some z := by
  obtain ⟨fls, hu, hl⟩ := S.lays
  obtain ⟨xs, n, _, _, hlen, hxs, hf⟩ := DataW.trod_struct hu h
  refine ⟨hlen.trans (S.ty.cells W), fun i f hi => ?_⟩
  obtain ⟨fl, h1, h2, h3, h4, _⟩ := hl.get hi
  have h1' : fls[i]? = some fl := by simpa using h1
  have h5 := hf i fl h1'
  have hlt : i < xs.length := by rw [hxs]; exact (Array.getElem?_eq_some_iff.1 h1').1
  rw [List.getElem?_eq_getElem hlt, h2, h3, h4.cells W, Nat.zero_add] at h5
  exact ⟨n, _, h5⟩
theorem Rd.at {α β : Type} {t : Nat} {fs : List (SF α)} {cs : List Value} {i : Nat} {T : Nat} {R : Rp β} {get : α → β} (hf : ∀ (i : Nat) (f : SF α), fs[i]? = some f → ∃ n z, DataW.trod enc P W 0 (fun _ => true) true n f.T ((cs.drop (SF.off fs i)).take f.R.k) = some z)
    (hR : Rd enc P W T R) (hi : fs[i]? = some ⟨β, T, R, get⟩) : ∃ y, R.rel (wholeH W) y ((cs.drop (SF.off fs i)).take R.k) := by
  obtain ⟨n, z, h⟩ := hf i _ hi
  exact hR.rd _ _ _ h
end
/-- Below the first heap nothing has turned. -/
theorem below_of {W W' : World} {h' : PH} (hl : (wholeH W).le h') (hw : h'.inw W') (s : Same W W') : Go.RowKit.Below W.heap.size W W' where
  os := s.os
  tape := s.tape
  output := s.output
  size := by
    rcases Nat.eq_zero_or_pos W.heap.size with h0 | h0
    · omega
    · have h1 : W.heap[W.heap.size - 1]? = some (W.heap[W.heap.size - 1]'(by omega)) := Array.getElem?_eq_getElem (by omega)
      have h2 := hw _ _ (hl _ _ h1)
      have := (Array.getElem?_eq_some_iff.1 h2).1
      omega
  block := fun k hk => by
    have h1 : W.heap[k]? = some (W.heap[k]'hk) := Array.getElem?_eq_getElem hk
    rw [h1]
    exact hw _ _ (hl _ _ h1)
end Lg

/- Regions that draw their order and change no own memory: own memory may be looked at in any order. -/
namespace Lg
open Go
def JN (C : Cx) (ops : Array Oper) (k : Env → Prop) (L : List SP) : List It → Env → Prop
  | [], E => k E
  | ⟨i, ts, _⟩ :: its, E => ∃ o A, ops[i]? = some o ∧ ltO o.dst C.N = true ∧ StepG C ops o (restr ts E) L A ∧ JN C ops k L its (updO E o.dst A)
section
variable {C : Cx} {ops : Array Oper} {k : Env → Prop} {its : List It} {E : Env} {L : List SP} {i : Nat} {ts : List Nat} {f : Bool} {o : Oper}
theorem JN_nil (h : k E) : JN C ops k L [] E := h
theorem JN_step {A : Ty} {d : Nat} (ho : ops.toList[i]? = some o) (hg : o.guard = none) (hd : o.dst = some d) (hN : Nat.blt d C.N = true) (hs : Step1 C o (restr ts E) L A)
    (hk : JN C ops k L its (upd E d A)) : JN C ops k L (⟨i, ts, f⟩ :: its) E :=
  ⟨o, A, by simpa using ho, by rw [hd]; exact hN, .inl ⟨hg, hs⟩, by rw [hd]; exact hk⟩
theorem JN_stepG {B : Ty} {d j t : Nat} {b w : Bool} {og : Oper} (ho : ops.toList[i]? = some o) (hg : o.guard = some (j, b)) (hj : ops.toList[j]? = some og) (ht : og.dst = some t) (hc : Gd (restr ts E t) b w) (hd : o.dst = some d) (hN : Nat.blt d C.N = true)
    (hs : w = true → Step1 C o (restr ts E) L B) (hk : JN C ops k L its (upd E d (tW w B))) : JN C ops k L (⟨i, ts, f⟩ :: its) E :=
  ⟨o, tW w B, by simpa using ho, by rw [hd]; exact hN, .inr ⟨j, b, og, t, w, B, hg, by simpa using hj, ht, hc, rfl, hs⟩, by rw [hd]; exact hk⟩
end
theorem JN_pull {C : Cx} {ops : Array Oper} {k : Env → Prop} {L : List SP} : ∀ {l1 : List It} {b : It} {l2 : List It} {E : Env},
    (∀ a ∈ l1, okPair (plOf ops.toList a) (plOf ops.toList b) = true) → (∀ a ∈ l1, a.i ∉ aftOf ops.toList b.i) → JN C ops k L (l1 ++ b :: l2) E → JN C ops k L (b :: (l1 ++ l2)) E
  | [], _, _, _, _, _, h => h
  | ⟨ia, ta, fa⟩ :: l1, ⟨ib, tb, fb⟩, l2, E, hp, hn, h => by
    obtain ⟨oa, A, ha, hla, hsa, hk⟩ := h
    have ih := JN_pull (fun a m => hp a (by simp [m])) (fun a m => hn a (by simp [m])) hk
    have hpair := hp ⟨ia, ta, fa⟩ (by simp)
    have hna := hn ⟨ia, ta, fa⟩ (by simp)
    have hda : dstOf ops.toList ia = oa.dst := by simp [dstOf, ha]
    have hpair' : inO oa.dst tb = false ∧ inO (dstOf ops.toList ib) ta = false ∧ eqO oa.dst (dstOf ops.toList ib) = false := by
      simp only [okPair, plOf, hda, Bool.and_eq_true, Bool.or_eq_true, Bool.not_eq_true', memN_iff] at hpair
      rcases hpair.2 with q | q
      · exact absurd q hna
      · exact ⟨q.1.1, q.1.2, q.2⟩
    obtain ⟨p1, p2, p3⟩ := hpair'
    obtain ⟨ob, B, hb, hlb, hsb, hkb⟩ := ih
    have hdb : dstOf ops.toList ib = ob.dst := by simp [dstOf, hb]
    rw [hdb] at p2 p3
    refine ⟨ob, B, hb, hlb, hsb.same (restr_updO p1), oa, A, ha, hla, hsa.same (restr_updO p2).symm, ?_⟩
    rw [updO_comm p3] at hkb
    exact hkb
theorem wpAny_JN {C : Cx} {ops : Array Oper} {Q : Exit → Act → World → Prop} {L : List SP} : ∀ (fuel : Nat) (its : List It) (listed : Array Bool) (E : Env), its.length ≤ fuel → listed.size = ops.size →
    (∀ i, i < ops.size → (listed.getD i true = false ↔ ∃ x ∈ its, x.i = i)) → okPls (its.map (plOf ops.toList)) = true → (∀ x ∈ its, x.i < ops.size ∧ ∀ e ∈ aftOf ops.toList x.i, e < x.i) →
    (∀ x ∈ its, x.free = true) → JN C ops (fun E' => K C (Q .normal) E' L) L its E → K C (fun a w => wpAnyIn (Fw C.ro) 0 C.P .any ops Q fuel listed a w) E L := by
  intro fuel
  induction fuel with
  | zero =>
    intro its listed E hlen hsz hin _ _ _ hJ
    have : its = [] := List.length_eq_zero_iff.1 (by omega)
    subst this
    intro a w p
    refine ⟨?_, hJ a w p⟩
    rw [List.eq_nil_iff_forall_not_mem]
    intro i hi
    obtain ⟨h1, h2, _⟩ := mem_ready.1 hi
    obtain ⟨x, hx, _⟩ := (hin i h1).1 h2
    cases hx
  | succ fuel ih =>
    intro its listed E hlen hsz hin hok hlt hfr hJ
    -- if nothing is ready, nothing is left
    have hdone : Region.ready .any ops listed = [] → its = [] := by
      intro hr
      have hall : ∀ i, i < ops.size → listed.getD i true = true := by
        intro i
        induction i using Nat.strongRecOn with
        | _ i ihi =>
          intro hi
          cases hl : listed.getD i true with
          | true => rfl
          | false =>
            have ho : ops[i]? = some ops[i] := Array.getElem?_eq_getElem hi
            obtain ⟨x, hx, hxi⟩ := (hin i hi).1 hl
            have h1 := (hlt x hx).2
            rw [hxi] at h1
            have hm : i ∈ Region.ready .any ops listed := mem_ready.2 ⟨hi, hl, _, ho, fun e he => by
              have he' : e < i := h1 e (by simpa [aftOf, hi] using he)
              rw [getD_any (by omega) false true]
              exact ihi e he' (by omega)⟩
            rw [hr] at hm; cases hm
      match its with
      | [] => rfl
      | x :: _ =>
        have h1 := (hlt x (by simp)).1
        have := (hin x.i h1).2 ⟨x, by simp, rfl⟩
        rw [hall x.i h1] at this; cases this
    intro a w p
    refine ⟨fun hr => ?_, fun i hi => ?_⟩
    · have := hdone hr
      subst this
      exact hJ a w p
    · obtain ⟨hlti, hnl, o, ho, haft⟩ := mem_ready.1 hi
      obtain ⟨b, hb, hbi⟩ := (hin i hlti).1 hnl
      obtain ⟨l1, l2, rfl⟩ := List.append_of_mem hb
      have hoi : ops.toList[b.i]? = some o := by rw [hbi]; simpa using ho
      have haft' : aftOf ops.toList b.i = aftN o := by simp only [aftOf, hoi]
      -- what is left is not listed
      have hleft : ∀ x ∈ l1 ++ b :: l2, x.i ∉ aftOf ops.toList b.i := fun x hx hm => by
        rw [haft'] at hm
        have h1 := haft _ hm
        have h2 := (hlt x hx).1
        have h3 := (hin x.i h2).2 ⟨x, hx, rfl⟩
        rw [getD_any (by omega) true false, h1] at h3; cases h3
      rw [List.map_append, List.map_cons] at hok
      have hpair : ∀ a ∈ l1, okPair (plOf ops.toList a) (plOf ops.toList b) = true := fun a ha => okPls_pair hok _ (List.mem_map_of_mem ha)
      have hfree : ∀ a ∈ l1, a.free = true := fun x hx => hfr x (by simp [hx])
      have hJ' := JN_pull hpair (fun a ha => hleft a (by simp [ha])) hJ
      have hsub : ∀ x ∈ l1 ++ l2, x ∈ l1 ++ b :: l2 := fun x hx => by
        rcases List.mem_append.1 hx with hx | hx <;> simp [hx]
      have hpairs : ∀ x ∈ l1 ++ l2, x.i ≠ b.i := fun x hx => by
        rcases List.mem_append.1 hx with hx | hx
        · have := hpair x hx
          simp only [okPair, plOf, Bool.and_eq_true, Bool.not_eq_true'] at this
          intro e; rw [e] at this; simp at this
        · have h2 : ∀ {l1 : List Pl} {b : Pl} {l2 : List Pl}, okPls (l1 ++ b :: l2) = true → okPls (b :: l2) = true := by
            intro l1
            induction l1 with
            | nil => intro b l2 h; exact h
            | cons c l1 ih => intro b l2 h; simp only [List.cons_append, okPls, Bool.and_eq_true] at h; exact ih h.2
          have := h2 hok
          simp only [okPls, Bool.and_eq_true, List.all_eq_true] at this
          have := this.1.1 _ (List.mem_map_of_mem hx)
          simp only [okPair, plOf, Bool.and_eq_true, Bool.not_eq_true'] at this
          intro e; rw [e] at this; simp at this
      have rest : ∀ E', JN C ops (fun E' => K C (Q .normal) E' L) L (l1 ++ l2) E' → K C (fun a w => wpAnyIn (Fw C.ro) 0 C.P .any ops Q fuel (listed.setIfInBounds i true) a w) E' L := by
        intro E' hk
        refine ih (l1 ++ l2) _ E' (by simp only [List.length_append, List.length_cons] at hlen ⊢; omega) (by simpa using hsz) (fun j hj => ?_) (by
          rw [List.map_append]
          exact okPls_sub hok fun x hx => (List.mem_map.1 hx).elim fun y hy => hy.2 ▸ hfree y hy.1) (fun x hx => hlt x (hsub x hx)) (fun x hx => hfr x (hsub x hx)) hk
        by_cases hji : i = j
        · subst hji
          rw [getD_set_same (by omega)]
          constructor
          · intro h; cases h
          · rintro ⟨x, hx, e⟩
            exact absurd (e.trans hbi.symm) (hpairs x hx)
        · rw [getD_set_ne hji, hin j hj]
          constructor
          · rintro ⟨x, hx, e⟩
            refine ⟨x, ?_, e⟩
            rcases List.mem_append.1 hx with hx | hx
            · simp [hx]
            · rcases List.mem_cons.1 hx with rfl | hx
              · exact absurd (hbi.symm.trans e) hji
              · simp [hx]
          · rintro ⟨x, hx, e⟩
            exact ⟨x, hsub x hx, e⟩
      obtain ⟨bi, tb, fb⟩ := b
      simp only at hbi hoi
      subst hbi
      have ho' : ops[bi]? = some o := ho
      obtain ⟨o', A, ho2, hl, hs, hk⟩ := hJ'
      rw [ho'] at ho2; cases ho2
      exact hs.op ho' hl (rest _ hk) a w p

theorem J_drawN {C : Cx} {id : Nat} {ops : Array Oper} (its : List It) {Q : Exit → Act → World → Prop} {E : Env} {L : List SP} (hmix : C.P.follows .mixedOrders = true) (hok : okM ops.toList its = true) (hfr : its.all (·.free) = true)
    (hJ : JN C ops (fun E' => K C (Q .normal) E' L) L its E) : J C (.region id ops true) Q E L := fun a w p => by
  refine wpIn_region_draw (fun t => ?_)
  simp only [Region.schedule, hmix, Bool.true_or, if_true]
  refine wpAnyIn_sound ops.size t _ a _ ?_
  simp only [okM, Bool.and_eq_true, List.all_eq_true, List.any_eq_true] at hok
  obtain ⟨⟨⟨h1, h2⟩, h3⟩, h4⟩ := hok
  have h5 : ∀ x ∈ its, x.i < ops.size := fun x hx => by have := h4 x hx; simpa using this
  have hnd : (its.map (·.i)).Nodup := by
    have : ∀ {l : List It}, okPls (l.map (plOf ops.toList)) = true → (l.map (·.i)).Nodup := by
      intro l
      induction l with
      | nil => intro _; simp
      | cons x l ih =>
        intro h
        simp only [List.map_cons, okPls, Bool.and_eq_true, List.all_eq_true] at h
        simp only [List.map_cons, List.nodup_cons]
        refine ⟨fun hm => ?_, ih h.2⟩
        obtain ⟨y, hy, e⟩ := List.mem_map.1 hm
        have := h.1.1 _ (List.mem_map_of_mem hy)
        simp only [okPair, plOf, Bool.and_eq_true, Bool.not_eq_true'] at this
        rw [e] at this; simp at this
    exact this h1
  have hlen : its.length ≤ ops.size := by
    have := nodup_le hnd (n := ops.size) (fun i hi => by
      obtain ⟨x, hx, rfl⟩ := List.mem_map.1 hi
      exact h5 x hx)
    simpa using this
  refine wpAny_JN ops.size its _ E hlen (by simp) (fun i hi => ?_) h1 (fun x hx => ⟨h5 x hx, fun e he => ?_⟩) (fun x hx => List.all_eq_true.1 hfr x hx) hJ a _ ?_
  · constructor
    · intro _
      obtain ⟨x, hx, e⟩ := h3 i (by simpa using hi)
      exact ⟨x, hx, (Nat.eq_of_beq_eq_true e).symm⟩
    · intro _; simp [Array.getD_eq_getD_getElem?, hi]
  · have := h2 _ (List.mem_map_of_mem hx) e he
    simpa [plOf] using this
  · obtain ⟨hsz, hds, h, m, hl, sp, st, fr⟩ := p
    exact ⟨hsz, hds, h, m, hl.trans (HL.same (Same.drew _)), ⟨(by first | exact Sep.inv (by assumption) | exact Inv.mono (PH.le_join_left _ _) (Sep.inv (by assumption))), sp.hm, sp.hr, sp.mr, sp.hw, sp.mw, sp.rw⟩, st, fr⟩
end Lg

/- Slices whose capacity is known to be enough; the remainder; equality of truth values. -/
namespace Lg
open Go
def tSlC {α : Type} (R : Rp α) (xs : List α) : Ty where
  p := fun h v => (tSl R xs).p h v ∧ ∀ ao len cap, v = .slice ao len cap → len ≤ cap
  mono := fun l ⟨a, b⟩ => ⟨(tSl R xs).mono l a, b⟩
theorem Sub.ofC {α : Type} {R : Rp α} {xs : List α} : Sub (tSlC R xs) (tSl R xs) := fun _ _ a => a.1
section
variable {C : Cx} {E : Env} {L : List SP} {d : Option Nat} {ty : Nat} {pos : String} {af : Array Edge} {g : Option (Nat × Bool)}
theorem step_slice_toC {α : Type} {T e n : Nat} {R : Rp α} {x y : Operand} {xs : List α} {k : IntKind} {i : Int} (hu : C.P.underlying T = some (.slice e)) (hR : TyOf C.P e R)
    (hx : Sub (opTy E x) (tSlC R xs)) (hy : Sub (opTy E y) (tV (.int k i))) (hi : i = n) (hn : n ≤ xs.length) :
    Step1 C ⟨d, .slice T x none (some y) none, ty, pos, af, g⟩ E L (tSl R (xs.take n)) :=
  Step.of_run (by intro c h; cases h) fun a w h m l sp st fr => by
    obtain ⟨⟨ao, cap, hv, H⟩, hC⟩ := fr.get hx
    have hlc := hC _ _ _ hv
    have h2 : a.eval y = .int k i := fr.get hy
    subst hi
    refine ⟨(), .slice (if cap = 0 then ao else ao.map (·.add 0)) n cap, w, h, _, ?_, HL.refl, sp, st, ⟨_, cap, by rw [List.length_take, Nat.min_eq_left hn], fun hne => ?_⟩⟩
    · simp [execOp, Instr.sliceAt, run_underlying hu, hv, h2, Instr.slice, Instr.sliceBounds, Instr.sliceBound, asIntOf, hR.size, show n ≤ cap by omega]
    · have h0 : 0 < n := by
        rcases Nat.eq_zero_or_pos n with q | q
        · subst q; exact absurd (by simp) hne
        · exact q
      obtain ⟨b, off, ea, H'⟩ := H (fun e => by rw [e] at hn; simp at hn; omega)
      refine ⟨b, off, by rw [if_neg (by omega), ea]; simp [addr_add], fun j z hz => H' j z ?_⟩
      rw [List.getElem?_take] at hz
      split at hz
      · exact hz
      · cases hz
theorem step_rem {T U : Nat} {x y : Operand} {a b : Int} (hx : Sub (opTy E x) (tV (.int .i64 a))) (hy : Sub (opTy E y) (tV (.int .i64 b))) (ha : 0 ≤ a) (hb : 0 < b) :
    Step1 C ⟨d, .binOp .rem T x y U, ty, pos, af, g⟩ E L (tV (.int .i64 (a % b))) := step_int hx hy (fun P w => by
  have h1 : a.tmod b = a % b := Int.tmod_eq_emod_of_nonneg ha
  have h2 : ¬ b = 0 := by omega
  simp [binOp, Op.intDiv, h1, h2])
theorem step_eql_bool {T U : Nat} {x y : Operand} {a b : Bool} (hu : C.P.underlying T = some .bool) (hx : Sub (opTy E x) (tV (.bool a))) (hy : Sub (opTy E y) (tV (.bool b))) :
    Step1 C ⟨d, .binOp .eql T x y U, ty, pos, af, g⟩ E L (tV (.bool (a == b))) := step_int_bool hx hy (fun w => by
  have h1 := run_equalIn_bool' (P := C.P) w 9999 T a b hu
  have h2 : (Op.equal T (.bool a) (.bool b)).run C.P w = .ok (a == b) w := h1
  simp [binOp, h2])
theorem step_neq_bool {T U : Nat} {x y : Operand} {a b : Bool} (hu : C.P.underlying T = some .bool) (hx : Sub (opTy E x) (tV (.bool a))) (hy : Sub (opTy E y) (tV (.bool b))) :
    Step1 C ⟨d, .binOp .neq T x y U, ty, pos, af, g⟩ E L (tV (.bool (!(a == b)))) := step_int_bool hx hy (fun w => by
  have h1 := run_equalIn_bool' (P := C.P) w 9999 T a b hu
  have h2 : (Op.equal T (.bool a) (.bool b)).run C.P w = .ok (a == b) w := h1
  simp [binOp, h2, bne])
end
/-- An argument that is a slice, its capacity known. -/
theorem arg_slC {H : Type} {enc : TypeId × Value → H} {P : Program} {W : World} {base : Nat} {α : Type} {t e : Nat} {R : Rp α} {v : Value} {d : DataW H} {p : List MemPlace} (hu : P.underlying t = some (.slice e)) (hR : Rd enc P W t (rSl R)) (hok : Value.okWide P W .any base t v) (h : DataW.Trod enc P W 0 (fun _ => true) true t v d p) :
    ∃ xs, (tSlC R xs).p (wholeH W) v := by
  obtain ⟨a, len, cap, rfl⟩ := Go.WideShapes.okWide_slice hu hok
  obtain ⟨fuel, h⟩ := h
  have hlc : len ≤ cap := by
    rcases DataW.trod_slice hu h with ⟨e1, _⟩ | ⟨a', len', cap', _, _, _, _, e1, _, _, q, _⟩
    · have := Value.slice.inj (List.cons.inj e1).1
      omega
    · have := Value.slice.inj (List.cons.inj e1).1
      omega
  obtain ⟨xs, u, e1, e2⟩ := hR.rd _ _ _ h
  have : Value.slice a len cap = u := (List.cons.inj e1).1
  refine ⟨xs, this ▸ e2, fun ao l c e => ?_⟩
  have := Value.slice.inj e
  omega
theorem arg_u8 {H : Type} {enc : TypeId × Value → H} {P : Program} {W : World} {base : Nat} {t : Nat} {v : Value} {d : DataW H} {p : List MemPlace} (hu : P.underlying t = some (.int .u8)) (hok : Value.okWide P W .any base t v) (h : DataW.Trod enc P W 0 (fun _ => true) true t v d p) :
    ∃ n : Int, (tV (.int .u8 n)).p (wholeH W) v ∧ 0 ≤ n ∧ n < 256 := by
  obtain ⟨n, rfl⟩ := Go.WideShapes.okWide_int hu hok
  obtain ⟨fuel, h⟩ := h
  obtain ⟨m, e1, _, hw⟩ := DataW.trod_int hu h
  have e2 : n = m := by
    have := (List.cons.inj e1).1
    injection this
  subst e2
  refine ⟨n, rfl, ?_⟩
  simp only [Lit.wf, Bool.and_eq_true, decide_eq_true_eq] at hw
  have h1 : IntKind.u8.min = 0 := by rfl
  have h2 : IntKind.u8.max = 255 := by rfl
  omega
end Lg

/- The beginning of one's own slice, looked at. -/
namespace Lg
open Go
def preV : Value → Nat → Value
  | .slice ao _ cap, n => .slice ao n cap
  | v, _ => v
section
variable {C : Cx} {E : Env} {L : List SP} {d : Option Nat} {ty : Nat} {pos : String} {af : Array Edge} {g : Option (Nat × Bool)}
theorem step_slice_pre {α : Type} {T e n : Nat} {R : Rp α} {x y : Operand} {v : Value} {xs : List α} {S : List SP} {k : IntKind} {i : Int} (hu : C.P.underlying T = some (.slice e)) (hR : TyOf C.P e R)
    (hx : Sub (opTy E x) (rV.ty v)) (hy : Sub (opTy E y) (tV (.int k i))) (hi : i = n) (sel : Sel L [own e R v xs] S) (hn : n ≤ xs.length) :
    Step1 C ⟨d, .slice T x none (some y) none, ty, pos, af, g⟩ E L (rV.ty (preV v n)) :=
  Step.of_run (by intro c h; cases h) fun a w h m l sp st fr => by
    have hv : a.eval x = v := (fr.get hx).1
    have h2 : a.eval y = .int k i := fr.get hy
    subst hi
    have st0 := st
    obtain ⟨m1, m2, d12, rfl, ho, s2⟩ := sel.one.1 st
    rcases ho with ⟨rfl, rfl, rfl⟩ | ⟨b, cap, cur, rfl, rfl, hl, hm, hs, r⟩
    · have hn0 : n = 0 := by simpa using hn
      subst hn0
      refine ⟨(), .slice none 0 0, w, h, _, ?_, HL.refl, sp, st0, ⟨rfl, rfl⟩⟩
      simp [execOp, Instr.sliceAt, run_underlying hu, hv, h2, Instr.slice, Instr.sliceBounds, Instr.sliceBound, asIntOf, hR.size]
    · have hnc : (n : Int) ≤ cap := by omega
      refine ⟨(), .slice (some ⟨b, 0, none⟩) n cap, w, h, _, ?_, HL.refl, sp, st0, ⟨rfl, rfl⟩⟩
      simp [execOp, Instr.sliceAt, run_underlying hu, hv, h2, Instr.slice, Instr.sliceBounds, Instr.sliceBound, asIntOf, hR.size, show n ≤ cap by omega]
      intro _; rw [addr_add]
end
theorem Frz.pre {α : Type} {e n : Nat} {R : Rp α} {v : Value} {xs : List α} {S : List SP} (hn : n ≤ xs.length) : Frz (Lg.own e R v xs :: S) (rV.ty (preV v n)) (tSl R (xs.take n)) := fun h m u d ⟨m1, m2, d12, em, ho, _⟩ hv => by
  subst em; have hv := hv.1; subst hv
  rcases ho with ⟨rfl, rfl, rfl⟩ | ⟨g, cap, cur, rfl, rfl, hl, _, hs, r⟩
  · have hn0 : n = 0 := by simpa using hn
    subst hn0
    exact ⟨none, 0, rfl, fun h => absurd rfl h⟩
  · have hd := PH.disj_join'.1 d
    have r' := relAll_take n r
    rw [List.take_take, Nat.min_eq_left (Nat.mul_le_mul_right _ hn)] at r'
    have := tSl_of_relAll (h := h.join ((PH.one g (.cells cur e (0, 0))).join m2)) (off := 0) (cap := cap) (c := cur) (e := e) (fz := (0, 0)) (b := g) (PH.le_join_right d _ _ (PH.le_join_left _ _ _ _ (PH.one_same _ _))) (relAll_mono (PH.le_join_left _ _) r') (fun j v hv => by
      rw [List.getElem?_take] at hv
      split at hv
      · simpa using hv
      · cases hv)
    rwa [List.length_take, Nat.min_eq_left hn] at this
end Lg
