/- A part of the proof of the law PlannerSelections: contracts of functions that the law reaches, and facts about what they compute. -/
import Derived.Test.YtgaclpkapapjdaaGreatDoorE
import Derived.Test.YtgaclpkapapjdaaGreatDoorProg
import Derived.Ground.SlsfProg
import Derived.Ground.NamesProg
import Derived.Shelf.SlSortCmp.NoneTotal
import Derived.Lib.Small
import Derived.Shelf.Abstract
import Derived.Lib.Walk
import Derived.WalkKit
import Derived.Deep.LoopGhost
import Derived.Deep.Draws
import Derived.Sort.Grow
import Derived.Deep.QuietTactic
import Derived.Shelf.SlSortCmp.QuietGrown
import Derived.RecoverIn
import Derived.Test.YtgaclpkapapjdaaGreatDoorCards
import Derived.Test.YtgaclpkapapjdaaGreatDoorTie
import Derived.Lib.LaidTab
import Derived.Stop.LaidErr
import Derived.ProofKit
import Derived.OpenShut
import Derived.Deep.DeepHandedRow
import Derived.Lay
set_option linter.unusedVariables false
set_option linter.unusedSimpArgs false
set_option linter.unusedSectionVars false
namespace Go.Proofs
open Go.Shelf
def Tryz.sortVK_ren : Go.Shelf.Ren := ⟨fun | 6 => 137 | 15 => 129 | 14 => 210 | 28 => 204 | 29 => 205 | 20 => 278 | 21 => 279 | 22 => 280 | 23 => 281 | 24 => 282 | 25 => 283 | 26 => 284 | 27 => 285 | 46 => 312 | 47 => 272 | 48 => 273 | 49 => 313 | 50 => 314 | 57 => 333 | n => n, fun | 22 => 73 | 24 => 22 | 25 => 140 | 3 => 3 | 39 => 182 | 0 => 0 | 53 => 230 | 55 => 232 | 4 => 4 | 46 => 223 | 45 => 222 | 50 => 175 | 5 => 5 | 9 => 9 | 66 => 284 | 70 => 288 | 76 => 318 | 77 => 319 | n => n, fun | n => n⟩
theorem Tryz.sortVK : Go.Proofs.SlLaysF.n6 Tryz.prog Tryz.sortVK_ren := {
  mixed := by kernel_rfl
  f6 := ⟨Tryz.f137.name, by decide, Tryz.func137.trans (congrArg some (by kernel_rfl))⟩
  f14 := ⟨Tryz.f210.name, by decide, Tryz.func210.trans (congrArg some (by kernel_rfl))⟩
  f15 := Tryz.func129.trans (congrArg some (by kernel_rfl))
  f20 := ⟨Tryz.f278.name, by decide, Tryz.func278.trans (congrArg some (by kernel_rfl))⟩
  f21 := ⟨Tryz.f279.name, by decide, Tryz.func279.trans (congrArg some (by kernel_rfl))⟩
  f22 := ⟨Tryz.f280.name, by decide, Tryz.func280.trans (congrArg some (by kernel_rfl))⟩
  f23 := ⟨Tryz.f281.name, by decide, Tryz.func281.trans (congrArg some (by kernel_rfl))⟩
  f24 := ⟨Tryz.f282.name, by decide, Tryz.func282.trans (congrArg some (by kernel_rfl))⟩
  f25 := ⟨Tryz.f283.name, by decide, Tryz.func283.trans (congrArg some (by kernel_rfl))⟩
  f26 := ⟨Tryz.f284.name, by decide, Tryz.func284.trans (congrArg some (by kernel_rfl))⟩
  f27 := ⟨Tryz.f285.name, by decide, Tryz.func285.trans (congrArg some (by kernel_rfl))⟩
  f28 := Tryz.func204.trans (congrArg some (by kernel_rfl))
  f29 := Tryz.func205.trans (congrArg some (by kernel_rfl))
  f46 := ⟨Tryz.f312.name, by decide, Tryz.func312.trans (congrArg some (by kernel_rfl))⟩
  f47 := Tryz.func272.trans (congrArg some (by kernel_rfl))
  f48 := Tryz.func273.trans (congrArg some (by kernel_rfl))
  f49 := ⟨Tryz.f313.name, by decide, Tryz.func313.trans (congrArg some (by kernel_rfl))⟩
  f50 := ⟨Tryz.f314.name, by decide, Tryz.func314.trans (congrArg some (by kernel_rfl))⟩
  f57 := ⟨Tryz.f333.name, by decide, Tryz.func333.trans (congrArg some (by kernel_rfl))⟩
  t0 := Tryz.underlying0
  a0 := Tryz.isAgg0
  z0 := Tryz.sizeOf0
  v0 := Tryz.zeroValue0
  t3 := Tryz.underlying3
  a3 := Tryz.isAgg3
  z3 := Tryz.sizeOf3
  v3 := Tryz.zeroValue3
  t4 := Tryz.underlying4
  a4 := Tryz.isAgg4
  z4 := Tryz.sizeOf4
  v4 := Tryz.zeroValue4
  t5 := Tryz.underlying5
  a5 := Tryz.isAgg5
  z5 := Tryz.sizeOf5
  v5 := Tryz.zeroValue5
  t9 := Tryz.underlying9
  a9 := Tryz.isAgg9
  z9 := Tryz.sizeOf9
  v9 := Tryz.zeroValue9
  t22 := Tryz.underlying73
  a22 := Tryz.isAgg73
  z22 := Tryz.sizeOf73
  v22 := Tryz.zeroValue73
  a24 := Tryz.isAgg22
  z24 := Tryz.sizeOf22
  t25 := Tryz.underlying140
  a25 := Tryz.isAgg140
  z25 := Tryz.sizeOf140
  v25 := Tryz.zeroValue140
  t39 := Tryz.underlying182
  a39 := Tryz.isAgg182
  z39 := Tryz.sizeOf182
  v39 := Tryz.zeroValue182
  t45 := Tryz.underlying222
  a45 := Tryz.isAgg222
  z45 := Tryz.sizeOf222
  v45 := Tryz.zeroValue222
  t46 := Tryz.underlying223
  a46 := Tryz.isAgg223
  z46 := Tryz.sizeOf223
  v46 := Tryz.zeroValue223
  t50 := Tryz.underlying175
  a50 := Tryz.isAgg175
  z50 := Tryz.sizeOf175
  v50 := Tryz.zeroValue175
  t53 := Tryz.underlying230
  a53 := Tryz.isAgg230
  z53 := Tryz.sizeOf230
  v53 := Tryz.zeroValue230
  t55 := Tryz.underlying232
  a55 := Tryz.isAgg232
  z55 := Tryz.sizeOf232
  v55 := Tryz.zeroValue232
  t66 := Tryz.underlying284
  a66 := Tryz.isAgg284
  z66 := Tryz.sizeOf284
  v66 := Tryz.zeroValue284
  t70 := Tryz.underlying288
  a70 := Tryz.isAgg288
  z70 := Tryz.sizeOf288
  v70 := Tryz.zeroValue288
  t76 := Tryz.underlying318
  a76 := Tryz.isAgg318
  z76 := Tryz.sizeOf318
  v76 := Tryz.zeroValue318
  t77 := Tryz.underlying319
  a77 := Tryz.isAgg319
  z77 := Tryz.sizeOf319
  v77 := Tryz.zeroValue319 }
end Go.Proofs
namespace Go.Proofs
open Go.Lib Go.Sort
theorem vOrdI (x y : Int) (w : World) : Calls Tryz.prog 140 #[.int .i64 x, .int .i64 y] w fun e w' => e = .returned (.int .i64 (Lg.ordI x y)) ∧ w' = w := by
  go_enter Tryz.func140, Tryz.ntmps140
  by_cases h1 : x < y
  · go_wp2
    go_ret
    exact ⟨by simp [Lg.ordI, h1], rfl⟩
  · by_cases h2 : y < x
    · go_wp2
      go_ret
      exact ⟨by simp [Lg.ordI, h1, h2], rfl⟩
    · go_wp2
      go_ret
      exact ⟨by rw [Lg.ordI, if_neg (by omega), if_neg (by omega)]; rfl, rfl⟩
theorem vOrdS (x y : ByteArray) (w : World) : Calls Tryz.prog 211 #[.string x, .string y] w fun e w' => e = .returned (.int .i64 (Lg.ordS x y)) ∧ w' = w := by
  have e1 : Op.bytesLess x.toList y.toList = decide (Lg.ofB x < Lg.ofB y) := by
    rw [Bool.eq_iff_iff, Lg.bytesLess_iff, ByteArray.toList_eq, ByteArray.toList_eq, decide_eq_true_eq]
  have e2 : (x.toList == y.toList) = decide (x = y) := Lg.toL_eq x y
  have e3 : (!(Op.bytesLess x.toList y.toList || x.toList == y.toList)) = decide (Lg.ofB y < Lg.ofB x) := by
    rw [e1, e2]
    by_cases h1 : Lg.ofB x < Lg.ofB y
    · have : ¬ Lg.ofB y < Lg.ofB x := fun q => List.lt_irrefl _ (List.lt_trans h1 q)
      simp [h1, this]
    · by_cases h2 : Lg.ofB y < Lg.ofB x
      · have hne : ¬ x = y := fun e => by rw [e] at h2; exact List.lt_irrefl _ h2
        simp [h1, h2, hne]
      · have he : x = y := Lg.ofB_inj' (List.le_antisymm (List.not_lt.1 h2) (List.not_lt.1 h1))
        simp [h1, h2, he]
  have e4 : Lg.ordS x y = if Op.bytesLess x.toList y.toList then -1 else if (!(Op.bytesLess x.toList y.toList || x.toList == y.toList)) then 1 else 0 := by
    rw [e3, e1]; unfold Lg.ordS; simp only [decide_eq_true_eq]
  rw [e4]
  clear e1 e2 e3 e4
  have hg : ∀ w : World, (binOp .gtr 9 (.string x) (.string y)).run Tryz.prog w = .ok (.bool (!(Op.bytesLess x.toList y.toList || x.toList == y.toList))) w := fun w => by simp [binOp, Op.stringOp]
  go_enter Tryz.func211, Tryz.ntmps211
  by_cases h1 : Op.bytesLess x.toList y.toList = true
  · go_wp2
    go_ret
    exact ⟨by simp [h1], rfl⟩
  · have h1 : Op.bytesLess x.toList y.toList = false := by simpa using h1
    generalize hq : (!(Op.bytesLess x.toList y.toList || x.toList == y.toList)) = q at hg ⊢
    cases q
    · go_wp2
      go_ret
      exact ⟨by simp [h1], rfl⟩
    · go_wp2
      go_ret
      exact ⟨by simp [h1], rfl⟩
theorem vCmp (a b : Lg.GValue) (w : World) : Calls Tryz.prog 139 #[Lg.kvV a, Lg.kvV b] w fun e w' => e = .returned (.int .i64 (Lg.cmpV a b)) ∧ ∃ q os, w' = grow (w.drewN q) os := by
  obtain ⟨ak, an, at'⟩ := a
  obtain ⟨bk, bn, bt⟩ := b
  have hA := vOrdI ak bk
  have hB := vOrdI an bn
  have hC := vOrdS at' bt
  have hV : Lg.cmpV ⟨ak, an, at'⟩ ⟨bk, bn, bt⟩ = if Lg.ordI ak bk ≠ 0 then Lg.ordI ak bk else if Lg.ordI an bn ≠ 0 then Lg.ordI an bn else Lg.ordS at' bt := rfl
  rw [hV]
  generalize Lg.ordI ak bk = x at hA ⊢
  generalize Lg.ordI an bn = y at hB ⊢
  generalize Lg.ordS at' bt = z at hC ⊢
  have hend : ((w.alloc (Obj.cells #[Value.int IntKind.i64 ak, Value.int IntKind.i64 an, Value.string at'] 87)).alloc (Obj.cells #[Value.int IntKind.i64 bk, Value.int IntKind.i64 bn, Value.string bt] 87)) = grow (w.drewN 0) #[Obj.cells #[Value.int IntKind.i64 ak, Value.int IntKind.i64 an, Value.string at'] 87, Obj.cells #[Value.int IntKind.i64 bk, Value.int IntKind.i64 bn, Value.string bt] 87] := by
    show ({ w with heap := (w.heap.push _).push _ } : World) = { w with heap := w.heap ++ _ }
    congr 1
  have x0 : (grow (w.drewN 0) #[Obj.cells #[Value.int IntKind.i64 ak, Value.int IntKind.i64 an, Value.string at'] 87, Obj.cells #[Value.int IntKind.i64 bk, Value.int IntKind.i64 bn, Value.string bt] 87]).cell? ⟨w.heap.size, 0, none⟩ = some (.int .i64 ak) := by simp [Sort.grow, World.cell?, World.drewN]
  have x1 : (grow (w.drewN 0) #[Obj.cells #[Value.int IntKind.i64 ak, Value.int IntKind.i64 an, Value.string at'] 87, Obj.cells #[Value.int IntKind.i64 bk, Value.int IntKind.i64 bn, Value.string bt] 87]).cell? ⟨w.heap.size, 1, none⟩ = some (.int .i64 an) := by simp [Sort.grow, World.cell?, World.drewN]
  have x2 : (grow (w.drewN 0) #[Obj.cells #[Value.int IntKind.i64 ak, Value.int IntKind.i64 an, Value.string at'] 87, Obj.cells #[Value.int IntKind.i64 bk, Value.int IntKind.i64 bn, Value.string bt] 87]).cell? ⟨w.heap.size, 2, none⟩ = some (.string at') := by simp [Sort.grow, World.cell?, World.drewN]
  have y0 : (grow (w.drewN 0) #[Obj.cells #[Value.int IntKind.i64 ak, Value.int IntKind.i64 an, Value.string at'] 87, Obj.cells #[Value.int IntKind.i64 bk, Value.int IntKind.i64 bn, Value.string bt] 87]).cell? ⟨w.heap.size + 1, 0, none⟩ = some (.int .i64 bk) := by simp [Sort.grow, World.cell?, World.drewN]
  have y1 : (grow (w.drewN 0) #[Obj.cells #[Value.int IntKind.i64 ak, Value.int IntKind.i64 an, Value.string at'] 87, Obj.cells #[Value.int IntKind.i64 bk, Value.int IntKind.i64 bn, Value.string bt] 87]).cell? ⟨w.heap.size + 1, 1, none⟩ = some (.int .i64 bn) := by simp [Sort.grow, World.cell?, World.drewN]
  have y2 : (grow (w.drewN 0) #[Obj.cells #[Value.int IntKind.i64 ak, Value.int IntKind.i64 an, Value.string at'] 87, Obj.cells #[Value.int IntKind.i64 bk, Value.int IntKind.i64 bn, Value.string bt] 87]).cell? ⟨w.heap.size + 1, 2, none⟩ = some (.string bt) := by simp [Sort.grow, World.cell?, World.drewN]
  have hfin : ∃ q os, grow (w.drewN 0) #[Obj.cells #[Value.int IntKind.i64 ak, Value.int IntKind.i64 an, Value.string at'] 87, Obj.cells #[Value.int IntKind.i64 bk, Value.int IntKind.i64 bn, Value.string bt] 87] = grow (w.drewN q) os := ⟨0, _, rfl⟩
  generalize grow (w.drewN 0) #[Obj.cells #[Value.int IntKind.i64 ak, Value.int IntKind.i64 an, Value.string at'] 87, Obj.cells #[Value.int IntKind.i64 bk, Value.int IntKind.i64 bn, Value.string bt] 87] = W at hend x0 x1 x2 y0 y1 y2 hfin
  clear hV
  show Calls Tryz.prog 139 #[.agg #[.int .i64 ak, .int .i64 an, .string at'], .agg #[.int .i64 bk, .int .i64 bn, .string bt]] w _
  go_enter Tryz.func139, Tryz.ntmps139
  by_cases h1 : x = 0
  · subst h1
    by_cases h2 : y = 0
    · subst h2
      go_wp2_with (first | (go_at_call 140; with_reducible refine (hA _).mono ?_; rintro e w' ⟨rfl, hw⟩; rw [hw]) | (go_at_call 140; with_reducible refine (hB _).mono ?_; rintro e w' ⟨rfl, hw⟩; rw [hw]) | (go_at_call 211; with_reducible refine (hC _).mono ?_; rintro e w' ⟨rfl, hw⟩; rw [hw]))
      go_ret
      exact ⟨by simp, hfin⟩
    · go_wp2_with (first | (go_at_call 140; with_reducible refine (hA _).mono ?_; rintro e w' ⟨rfl, hw⟩; rw [hw]) | (go_at_call 140; with_reducible refine (hB _).mono ?_; rintro e w' ⟨rfl, hw⟩; rw [hw]))
      go_ret
      exact ⟨by simp [h2], hfin⟩
  · go_wp2_with (first | (go_at_call 140; with_reducible refine (hA _).mono ?_; rintro e w' ⟨rfl, hw⟩; rw [hw]))
    go_ret
    exact ⟨by simp [h1], hfin⟩
theorem cmpR_drop {a b : List Lg.GValue} {i : Nat} (ha : i < a.length) (hb : i < b.length) : Lg.cmpR (a.drop i) (b.drop i) = if Lg.cmpV (Lg.nth a i) (Lg.nth b i) ≠ 0 then Lg.cmpV (Lg.nth a i) (Lg.nth b i) else Lg.cmpR (a.drop (i + 1)) (b.drop (i + 1)) := by
  rw [List.drop_eq_getElem_cons ha, List.drop_eq_getElem_cons hb, Lg.nth_get ha, Lg.nth_get hb]; rfl
theorem cmpR_end {a b : List Lg.GValue} {i : Nat} (h : i = a.length ∨ i = b.length) (ha : i ≤ a.length) (hb : i ≤ b.length) : Lg.cmpR (a.drop i) (b.drop i) = Lg.ordI a.length b.length := by
  by_cases h1 : i = a.length
  · by_cases h2 : i = b.length
    · rw [List.drop_of_length_le (by omega), List.drop_of_length_le (by omega), show a.length = b.length by omega]
      simp [Lg.cmpR, Lg.ordI]
    · rw [List.drop_of_length_le (by omega), List.drop_eq_getElem_cons (by omega)]
      simp [Lg.cmpR, Lg.ordI]; omega
  · have h2 : i = b.length := by omega
    rw [List.drop_of_length_le (l := b) (by omega), List.drop_eq_getElem_cons (by omega)]
    simp only [Lg.cmpR, Lg.ordI]
    rw [if_neg (by omega), if_pos (by omega)]
theorem grow_of (w : World) (q n : Nat) (os os' : Array Obj) : grow ((grow (w.drewN q) os).drewN n) os' = grow (w.drewN (q + n)) (os ++ os') := by
  show grow (grow ((w.drewN q).drewN n) os) os' = _; rw [grow_grow, World.drewN_drewN]
/-- The cells of a value lie here. -/
def VCells (w : World) (b o : Nat) (v : Lg.GValue) : Prop := w.cell? ⟨b, o, none⟩ = some (.int .i64 v.Kind) ∧ w.cell? ⟨b, o + 1, none⟩ = some (.int .i64 v.N) ∧ w.cell? ⟨b, o + 2, none⟩ = some (.string v.Text)
theorem vRow (xs ys : List Lg.GValue) (a a' : Option Addr) (c c' : Nat) (w : World) (hbx : xs.length ≤ 1000000) (hby : ys.length ≤ 1000000)
    (hx : ∀ i, i < xs.length → ∃ b o, a = some ⟨b, o, none⟩ ∧ ∀ n os, VCells (grow (w.drewN n) os) b (o + i * 3) (Lg.nth xs i))
    (hy : ∀ i, i < ys.length → ∃ b o, a' = some ⟨b, o, none⟩ ∧ ∀ n os, VCells (grow (w.drewN n) os) b (o + i * 3) (Lg.nth ys i)) :
    Calls Tryz.prog 86 #[.slice a xs.length c, .slice a' ys.length c'] w fun e w' => e = .returned (.int .i64 (Lg.cmpR xs ys)) ∧ ∃ q os, w' = grow (w.drewN q) os := by
  have mixed : Tryz.prog.follows .mixedOrders = true := by kernel_rfl
  generalize hn : xs.length = n
  generalize hm : ys.length = m
  rw [hn] at hx hbx
  rw [hm] at hy hby
  have hlen := vOrdI n m
  have hz : ∀ {i : Nat}, i = n ∨ i = m → i ≤ n → i ≤ m → Lg.cmpR (xs.drop i) (ys.drop i) = Lg.ordI n m := fun h1 h2 h3 => by have := cmpR_end (a := xs) (b := ys) (by rw [hn, hm]; exact h1) (by omega) (by omega); rw [hn, hm] at this; exact this
  all_goals
    go_enter Tryz.func86, Tryz.ntmps86
    go_wp2
    go_loopg [5, 6, 12, 13, 14] (n + m) (fun gg _ _ s12 _ _ wr => ∃ (kk q : Nat) (os : Array Obj), kk ≤ n ∧ kk ≤ m ∧ n + m - kk ≤ gg ∧ s12 = .int .i64 kk ∧ wr = grow (w.drewN q) os ∧ Aside (Lg.cmpR xs ys = Lg.cmpR (xs.drop kk) (ys.drop kk)))
    case atStart => exact ⟨0, 0, #[], Nat.zero_le _, Nat.zero_le _, by omega, rfl, by rw [grow_empty]; rfl, rfl⟩
    case round =>
      obtain ⟨kk, q, os, hk1, hk2, hg, rfl, rfl, A⟩ := hrel
      by_cases h1 : kk < n ∧ kk < m
      · obtain ⟨h1, h2⟩ := h1
        obtain ⟨b, o, ea, gx⟩ := hx kk h1
        obtain ⟨b', o', ea', gy⟩ := hy kk h2
        have hd : Lg.cmpR (xs.drop kk) (ys.drop kk) = _ := cmpR_drop (a := xs) (b := ys) (i := kk) (by omega) (by omega)
        clear hx hy
        subst ea; subst ea'
        have gx : ∀ n' os', VCells (grow ((grow (w.drewN q) os).drewN n') os') b (o + kk * 3) (Lg.nth xs kk) := fun n' os' => by rw [grow_of]; exact gx _ _
        have gy : ∀ n' os', VCells (grow ((grow (w.drewN q) os).drewN n') os') b' (o' + kk * 3) (Lg.nth ys kk) := fun n' os' => by rw [grow_of]; exact gy _ _
        generalize Lg.nth xs kk = x at gx hd
        generalize Lg.nth ys kk = y at gy hd
        have hc := vCmp x y
        obtain ⟨xk, xn, xt⟩ := x
        obtain ⟨yk, yn, yt⟩ := y
        have gx0 := fun n' os' => (gx n' os').1
        have gx1 := fun n' os' => (gx n' os').2.1
        have gx2 := fun n' os' => (gx n' os').2.2
        have gy0 := fun n' os' => (gy n' os').1
        have gy1 := fun n' os' => (gy n' os').2.1
        have gy2 := fun n' os' => (gy n' os').2.2
        clear gx gy
        simp only at gx0 gx1 gx2 gy0 gy1 gy2
        generalize hz0 : Lg.cmpV ⟨xk, xn, xt⟩ ⟨yk, yn, yt⟩ = z at hc hd
        have hc : ∀ W, Calls Tryz.prog 139 #[.agg #[.int .i64 xk, .int .i64 xn, .string xt], .agg #[.int .i64 yk, .int .i64 yn, .string yt]] W fun e w' => e = .returned (.int .i64 z) ∧ ∃ q os, w' = grow (W.drewN q) os := hc
        clear hz0
        generalize hwr : grow (w.drewN q) os = wr at gx0 gx1 gx2 gy0 gy1 gy2 ⊢
        go_wp2_with fail
        go_quiet_grown (first | (go_at_call 139; refine Calls.grown_of (hc _)))
        subst hwr
        rw [grow_of]
        clear gx0 gx1 gx2 gy0 gy1 gy2 hc hlen hz
        by_cases h0 : z = 0
        · rw [if_neg (by simpa using h0)] at hd
          subst h0
          go_wp2_with fail
          go_roundg (n + m - (kk + 1))
          case measure => omega
          case rel => exact ⟨kk + 1, _, _, by omega, by omega, by omega, by go_num, rfl, (show Aside _ from A.out.trans hd)⟩
        · rw [if_pos h0] at hd
          go_wp2_with fail
          go_ret
          exact ⟨by rw [A.out, hd]; rfl, _, _, rfl⟩
      · have hr := A.out.trans (hz (by omega) hk1 hk2)
        clear hx hy hz
        generalize Lg.ordI n m = z at hlen hr
        go_wp2_with (go_at_call 140; with_reducible refine (hlen _).mono ?_; rintro e w' ⟨rfl, hw⟩; rw [hw])
        go_ret
        exact ⟨by rw [hr]; rfl, _, _, rfl⟩
theorem inw_grow {h : Lg.PH} {W : World} (hw : h.inw W) (n : Nat) (os : Array Obj) : h.inw (grow (W.drewN n) os) := fun b o e => by
  have h1 := hw b o e
  have hlt := (Array.getElem?_eq_some_iff.1 h1).1
  show (W.heap ++ os)[b]? = some o
  rw [Array.getElem?_append_left hlt]; exact h1
theorem cmpR_calls (x y : List Lg.GValue) (hbx : x.length ≤ 1000000) (hby : y.length ≤ 1000000) (u u' : Value) (h : Lg.PH) (W : World) (hw : h.inw W) (hu : ((Lg.rSl Lg.rValue).ty x).p h u) (hu' : ((Lg.rSl Lg.rValue).ty y).p h u') :
    Calls Tryz.prog 86 #[u, u'] W fun e' w' => e' = .returned (.int .i64 (Lg.cmpR x y)) ∧ ∃ q os, w' = Sort.grow (W.drewN q) os := by
  have key : ∀ (l : List Lg.GValue) (ao : Option Addr), (l ≠ [] → ∃ b off, ao = some ⟨b, off, none⟩ ∧ ∀ (i : Nat) x, l[i]? = some x → ∃ cs, Lg.Holds h b (off + i * Lg.rValue.k) cs ∧ Lg.rValue.rel h x cs) → ∀ i, i < l.length → ∃ b o, ao = some ⟨b, o, none⟩ ∧ ∀ n os, VCells (grow (W.drewN n) os) b (o + i * 3) (Lg.nth l i) := by
    intro l ao H i hi
    obtain ⟨b, off, rfl, H'⟩ := H (fun e => by rw [e] at hi; exact absurd hi (Nat.not_lt_zero _))
    obtain ⟨cs, Hc, r⟩ := H' i _ (Lg.gb hi)
    have r := Lg.val_cells r
    subst r
    refine ⟨b, off, rfl, fun n os => ?_⟩
    have hg := inw_grow hw n os
    exact ⟨Hc.cell hg (i := 0) rfl, Hc.cell hg (i := 1) rfl, Hc.cell hg (i := 2) rfl⟩
  obtain ⟨ao, cap, rfl, H⟩ := hu
  obtain ⟨ao', cap', rfl, H'⟩ := hu'
  exact vRow x y ao ao' cap cap' W hbx hby (key x ao H) (key y ao' H')
end Go.Proofs
namespace Lg
open Go Go.Proofs Go.Proofs.Tryz
theorem SortRows_spec (v : Value) (xs : List (List GValue)) (hx : ∀ e ∈ xs, e.length ≤ 1000000) (hn : xs.length ≤ 1000000000) : Spec (X := { ys : List (List GValue) // ys.Perm xs ∧ ys.Pairwise fun a b => ¬ cmpR b a < 0 }) Tryz.prog 137 [rV.ty v, tV (.func (.func 86) #[] #[])] [own 22 (rSl rValue) v xs] (fun _ => tTup []) (fun ys => [own 22 (rSl rValue) v ys.1]) := by
  have h := sortFunc_spec (ρ := Tryz.sortVK_ren) Tryz.sortVK (R := rSl rValue) rfl cmpR c3_R.swo (gf := 86) (e := 22) Tryz.call86 (fun x => x.length ≤ 1000000) (fun x y hx hy u u' h W hw hu hu' => cmpR_calls x y hx hy u u' h W hw hu hu') v xs hx (by omega)
  intro vs h0 m r w ha sp st
  refine (h vs h0 m r w ha sp st).mono ?_
  rintro e w' ⟨⟨ys, hp, hs⟩, u, h', m', rfl, l, s, st', hu⟩
  exact ⟨⟨ys, hp, hs.imp fun {a b} q => by simpa [Go.Proofs.ltOf] using q⟩, u, h', m', rfl, l, s, st', hu⟩
open Go Go.Proofs Go.Proofs.Tryz
abbrev LV : Type := List GValue
def tRow : LV → List Ty := fun y => [tSl rValue y]
/-- Without those that are the same as the one before. -/
def keepB (l : List LV) (i : Nat) : Bool := decide (i = 0) || !decide (nth l i = nth l (i - 1))
def compI (l : List LV) (n : Nat) : List LV := ((List.range n).filter (keepB l)).map (nth l)
theorem comp_succ {l : List LV} {n : Nat} : compI l (n + 1) = if keepB l n = true then compI l n ++ [nth l n] else compI l n := by
  unfold compI
  rw [List.range_succ, List.filter_append]
  split <;> simp [*]
theorem comp_len (l : List LV) (n : Nat) : (compI l n).length ≤ n := by
  unfold compI
  rw [List.length_map]
  exact Nat.le_trans (List.length_filter_le _ _) (by simp)
theorem comp_all {l : List LV} {n : Nat} (hn : n ≤ l.length) (h : ∀ j, j < n → 1 ≤ j → ¬ nth l j = nth l (j - 1)) : compI l n = l.take n := by
  induction n with
  | zero => simp [compI]
  | succ n ih =>
    have hk : keepB l n = true := by
      unfold keepB
      by_cases h0 : n = 0
      · simp [h0]
      · simp [h n (by omega) (by omega)]
    rw [comp_succ, if_pos hk, ih (by omega) (fun j hj => h j (by omega)), takeB (by omega)]
/-- A row that is being compacted: j have been looked at. -/
def compA (l : List LV) (j : Nat) : List LV := compI l j ++ l.drop (compI l j).length
theorem compA_len {l : List LV} {j : Nat} (h : j ≤ l.length) : (compA l j).length = l.length := by
  have := comp_len l j
  unfold compA
  rw [List.length_append, List.length_drop]; omega
theorem compA_nth {l : List LV} {j i : Nat} (h : (compI l j).length ≤ i) (hi : i < l.length) : nth (compA l j) i = nth l i := by
  have h1 : i < (compA l j).length := by unfold compA; rw [List.length_append, List.length_drop]; omega
  rw [nth_get h1, nth_get hi]
  have h2 : i < (compI l j ++ l.drop (compI l j).length).length := h1
  show (compI l j ++ l.drop (compI l j).length)[i]'h2 = _
  rw [List.getElem_append_right h]
  simp only [List.getElem_drop]
  congr 1; omega
theorem compA_set {l : List LV} {j : Nat} (hj : j < l.length) (hk : keepB l j = true) : (compA l j).set (compI l j).length (nth l j) = compA l (j + 1) := by
  have hc := comp_len l j
  unfold compA
  rw [comp_succ, if_pos hk, List.set_append_right _ _ (Nat.le_refl _), Nat.sub_self]
  have hd : l.drop (compI l j).length = nth l (compI l j).length :: l.drop ((compI l j).length + 1) := by rw [nth_get (by omega)]; exact List.drop_eq_getElem_cons (by omega)
  rw [hd]
  simp
theorem compA_keep {l : List LV} {j : Nat} (hk : keepB l j = false) : compA l j = compA l (j + 1) := by
  unfold compA
  rw [comp_succ, if_neg (by rw [hk]; simp)]
theorem compI_keep {l : List LV} {j : Nat} (hk : keepB l j = false) : compI l (j + 1) = compI l j := by
  rw [comp_succ, if_neg (by rw [hk]; simp)]
theorem compA_start {l : List LV} {k : Nat} (hk : k < l.length) (h1 : 1 ≤ k) (hv : ∀ j, j < k → 1 ≤ j → ¬ nth l j = nth l (j - 1)) (he : nth l k = nth l (k - 1)) : compA l (k + 1) = l ∧ (compI l (k + 1)).length = k := by
  have hb : keepB l k = false := by unfold keepB; simp [he]; omega
  have h2 : compI l k = l.take k := comp_all (by omega) hv
  have h3 : compI l (k + 1) = l.take k := by rw [compI_keep hb, h2]
  refine ⟨?_, by rw [h3, List.length_take]; omega⟩
  unfold compA
  rw [h3, List.length_take, Nat.min_eq_left (by omega), List.take_append_drop]
def compM (l : List LV) : List LV := compI l l.length
set_option maxHeartbeats 4000000 in
theorem CompactRows_spec (v : Value) (xs : List LV) (hn : xs.length ≤ 1000000000) (gf : Nat) (hp : ∀ x y, x ∈ xs → y ∈ xs → Fun1 prog gf ([tSl rValue x, tSl rValue y] ++ []) (tV (.bool (decide (x = y))))) (he : ∀ args w, (callFunc gf args).run prog w = .ok (.enter gf args) w) : Spec (X := Value) prog 87 [rV.ty v, tV (.func (.func gf) #[] #[])] ([own 22 (rSl rValue) v xs]) (fun z => rV.ty z) (fun z => [own 22 (rSl rValue) z (compM xs)]) := by
 refine Spec.enter func87 rfl rfl fun h0 w0 fr0 => ?_
 refine Jr (Ja rfl (JL_nil (J_seq (Jr (Jm rfl ?_)))))
 refine Js rfl (step_len_own underlying73 Sr zS) ?_
 refine Js rfl (step_lss Sr Sr) (JL_nil ?_)
 refine J_cond Sr (fun h10 => ?_) (fun h10 => ?_)
 ·
  try simp only [NF] at h10
  refine Jr (Jm rfl (Ja rfl (JL_nil (J_ret ?_))))
  refine K_lsub (L' := [own 22 (rSl rValue) v (compM xs)]) (.c zS (SPs.of (A := own 22 (rSl rValue) v xs) (by unfold compM; rw [comp_all (Nat.le_refl _) (fun j hj h1 => by omega), List.take_length])) (LSub.nil)) ?_
  refine K_retv (rv := .tmp 4) rfl v (.tmp Sr) Sr
 try simp only [NF] at h10
 refine J_skip (J_seq (Jr (Ja rfl (JL_nil (J_block ?_)))))
 refine J_loopL (σ := Nat) (fun k => 1 ≤ k ∧ k ≤ xs.length ∧ ∀ j, j < k → 1 ≤ j → ¬ nth xs j = nth xs (j - 1)) (fun k => upd (upd (upd env0 0 (rV.ty v)) 1 (tV (.func (.func gf) #[] #[]))) 5 (tV (.int .i64 k))) (fun k => [own 22 (rSl rValue) v xs]) (fun k => xs.length - k) 1 ⟨Nat.le_refl _, by omega, fun j hj h1 => by omega⟩ (zU) (LSub.rfl) ?_
 rintro k ⟨hk1, hk2, hv⟩
 refine J_seq (Jr (Jm rfl (Jm rfl ?_)))
 refine Js rfl (step_len_own underlying73 Sr zS) ?_
 refine Js rfl (step_lss Sr Sr) (JL_nil ?_)
 refine J_cond Sr (fun h15 => ?_) (fun h15 => ?_)
 ·
  try simp only [NF] at h15
  have hlt : k < xs.length := by omega
  refine J_skip (J_seq (J_block (J_seq ?_)))
  refine J_drawN [⟨0, [1], true⟩, ⟨1, [0], true⟩, ⟨2, [5], true⟩, ⟨5, [0], true⟩, ⟨6, [5], true⟩, ⟨7, [24], true⟩, ⟨3, [19, 20], true⟩, ⟨4, [21], true⟩, ⟨8, [23, 25], true⟩, ⟨9, [26], true⟩, ⟨10, [18, 22, 27], true⟩] rfl (by kernel_rfl) rfl ?_
  refine JN_step rfl rfl rfl rfl (step_move Sr) ?_
  refine JN_step rfl rfl rfl rfl (step_move Sr) ?_
  refine JN_step rfl rfl rfl rfl (step_move Sr) ?_
  refine JN_step rfl rfl rfl rfl (step_move Sr) ?_
  refine JN_step rfl rfl rfl rfl (step_move Sr) ?_
  refine JN_step rfl rfl rfl rfl (step_sub Sr Sr z6) ?_
  refine JN_step rfl rfl rfl rfl (step_indexAddr_own (i := k) underlying73 ty22 Sr zS Sr (by rfl) (by exact hlt)) ?_
  refine JN_step rfl rfl rfl rfl (step_load_own ty22 Sr zS (gb (by exact hlt))) ?_
  refine JN_step rfl rfl rfl rfl (step_indexAddr_own (i := (k - 1)) underlying73 ty22 Sr zS Sr zG zG) ?_
  refine JN_step rfl rfl rfl rfl (step_load_own ty22 Sr zS (gb zG)) ?_
  refine JN_step rfl rfl rfl rfl (step_callv0 (aT := [_, _]) (As := []) Sub.clo0 (hp (nth xs k) (nth xs (k - 1)) (nth_mem hlt) (nth_mem zG)) ⟨Sr, Sr, trivial⟩ he) ?_
  refine JN_nil ?_
  refine J_cond Sr (fun h28 => ?_) (fun h28 => ?_)
  ·
   try simp only [NF] at h28
   have heq : nth xs k = nth xs (k - 1) := by simpa using h28
   obtain ⟨hs1, hs2⟩ := compA_start hlt hk1 hv heq
   have hk := hlt
   refine Jr (Jm rfl (Jm rfl ?_))
   refine Js rfl (step_tail underlying73 ty22 Sr Sr rfl zS hlt) ?_
   refine Ja rfl (JL_nil (J_seq (Jr (Ja rfl (JL_nil ?_)))))
   refine J_block ?_
   refine J_loopL (σ := Nat) (fun j => 1 ≤ j ∧ k + j ≤ xs.length ∧ (compI xs (k + j)).length + 1 ≤ k + j) (fun j => upd (upd (upd (upd (upd env0 0 (rV.ty v)) 1 (tV (.func (.func gf) #[] #[]))) 5 (tV (.int .i64 (compI xs (k + j)).length))) 6 (tV (tailV v (rSl rValue).k k))) 7 (tV (.int .i64 j))) (fun j => [own 22 (rSl rValue) v (compA xs (k + j))]) (fun j => xs.length - j) 1 ⟨Nat.le_refl _, by omega, by omega⟩ (.u (.u (SubE.upd (Sub.int (by rw [hs2])) (zU)))) (.c zS (SPs.of (A := own 22 (rSl rValue) v xs) (by rw [hs1])) (LSub.nil)) ?_
   rintro j ⟨hj1, hj2, hC⟩
   have hAl := compA_len hj2
   refine J_seq (Jr (Jm rfl (Jm rfl ?_)))
   refine Js rfl (step_tail_len (e := 22) (R := rSl rValue) underlying73 Sr zS (by rw [hAl]; exact hk)) ?_
   refine Js rfl (step_lss Sr Sr) (JL_nil ?_)
   refine J_cond Sr (fun h35 => ?_) (fun h35 => ?_)
   ·
    try simp only [NF] at h35
    have hjn : k + j < xs.length := by rw [hAl] at h35; omega
    have hn1 : nth (compA xs (k + j)) (k + j) = nth xs (k + j) := compA_nth zG hjn
    have hn2 : nth (compA xs (k + j)) (k + (j - 1)) = nth xs (k + j - 1) := by rw [compA_nth zG zG]; congr 1; omega
    have hm1 : nth (compA xs (k + j)) (k + j) ∈ xs := by rw [hn1]; exact nth_mem hjn
    have hm2 : nth (compA xs (k + j)) (k + (j - 1)) ∈ xs := by rw [hn2]; exact nth_mem zG
    refine J_skip (J_seq (J_block (J_seq ?_)))
    refine J_drawN [⟨0, [1], true⟩, ⟨1, [6], true⟩, ⟨2, [7], true⟩, ⟨5, [6], true⟩, ⟨6, [7], true⟩, ⟨7, [44], true⟩, ⟨3, [39, 40], true⟩, ⟨4, [41], true⟩, ⟨8, [43, 45], true⟩, ⟨9, [46], true⟩, ⟨10, [38, 42, 47], true⟩, ⟨11, [48], true⟩] rfl (by kernel_rfl) rfl ?_
    refine JN_step rfl rfl rfl rfl (step_move Sr) ?_
    refine JN_step rfl rfl rfl rfl (step_move Sr) ?_
    refine JN_step rfl rfl rfl rfl (step_move Sr) ?_
    refine JN_step rfl rfl rfl rfl (step_move Sr) ?_
    refine JN_step rfl rfl rfl rfl (step_move Sr) ?_
    refine JN_step rfl rfl rfl rfl (step_sub Sr Sr z6) ?_
    refine JN_step rfl rfl rfl rfl (step_tail_addr (R := rSl rValue) (i := j) underlying73 ty22 Sr zS Sr rfl (by rw [hAl]; omega)) ?_
    refine JN_step rfl rfl rfl rfl (step_load_own ty22 Sr zS (gb (by rw [hAl]; omega))) ?_
    refine JN_step rfl rfl rfl rfl (step_tail_addr (R := rSl rValue) (i := j - 1) underlying73 ty22 Sr zS Sr zG (by rw [hAl]; omega)) ?_
    refine JN_step rfl rfl rfl rfl (step_load_own ty22 Sr zS (gb (by rw [hAl]; omega))) ?_
    refine JN_step rfl rfl rfl rfl (step_callv0 (aT := [_, _]) (As := []) Sub.clo0 (hp (nth (compA xs (k + j)) (k + j)) (nth (compA xs (k + j)) (k + (j - 1))) (hm1) (hm2)) ⟨Sr, Sr, trivial⟩ he) ?_
    refine JN_step rfl rfl rfl rfl (step_not Sr) ?_
    refine JN_nil ?_
    refine J_cond Sr (fun h49 => ?_) (fun h49 => ?_)
    ·
     try simp only [NF] at h49
     have hkb : keepB xs (k + j) = true := by unfold keepB; rw [← hn1, ← hn2]; simp; right; simpa using h49
     refine Jr (Jm rfl (Jm rfl (Jm rfl (Jm rfl ?_))))
     refine Js rfl (step_tail_addr (R := rSl rValue) (i := j) underlying73 ty22 Sr zS Sr rfl (by rw [hAl]; omega)) ?_
     refine Js rfl (step_load_own ty22 Sr zS (gb (by rw [hAl]; omega))) ?_
     refine Js rfl (step_indexAddr_own (i := (compI xs (k + j)).length) underlying73 ty22 Sr zS Sr (by rfl) (by rw [hAl]; omega)) ?_
     refine Ju (step_store_own ty22 Sr Sr zS (by rw [hAl]; omega)) fun _ => ?_
     refine JL_nil (J_region (Jm rfl (Js rfl (step_add Sr Sr z6) (Ja rfl (JL_nil ?_)))))
     refine J_region (Jm rfl (Js rfl (step_add Sr Sr z6) (Ja rfl (JL_nil ?_))))
     refine K_againL (σ := Nat) (s := j) (j + 1) zG ⟨by omega, by omega, by show (compI xs (k + j + 1)).length + 1 ≤ _; rw [comp_succ, if_pos hkb, List.length_append]; simp; omega⟩ (.u (.u (SubE.upd (Sub.int (by show _ = (((compI xs (k + j + 1)).length : Nat) : Int); rw [comp_succ, if_pos hkb, List.length_append]; simp)) (zU)))) (.c zS (SPs.of (A := own 22 (rSl rValue) v ((compA xs (k + j)).set (compI xs (k + j)).length (nth (compA xs (k + j)) (k + j)))) (by rw [hn1, compA_set hjn hkb]; rfl)) (LSub.nil))
    try simp only [NF] at h49
    have hkb : keepB xs (k + j) = false := by unfold keepB; rw [← hn1, ← hn2]; simp; exact ⟨by omega, by simpa using h49⟩
    refine J_skip (J_region (Jm rfl (Js rfl (step_add Sr Sr z6) (Ja rfl (JL_nil ?_)))))
    refine K_againL (σ := Nat) (s := j) (j + 1) zG ⟨by omega, by omega, by show (compI xs (k + j + 1)).length + 1 ≤ _; rw [compI_keep hkb]; omega⟩ (.u (.u (SubE.upd (Sub.int (by show _ = (((compI xs (k + j + 1)).length : Nat) : Int); rw [compI_keep hkb])) (zU)))) (.c zS (SPs.of (A := own 22 (rSl rValue) v (compA xs (k + j))) (by rw [compA_keep hkb]; rfl)) (LSub.nil))
   try simp only [NF] at h35
   have hje : k + j = xs.length := by rw [hAl] at h35; omega
   rw [hje] at hC hAl
   refine J_exit (J_seq ?_)
   refine K_lsub (L' := [own 22 (rSl rValue) v (compA xs xs.length)]) (.c zS (SPs.of (A := own 22 (rSl rValue) v (compA xs (k + j))) (by rw [hje])) (LSub.nil)) ?_
   refine J_region (Jm rfl (Jm rfl ?_))
   refine Js rfl (step_tail (k := (compI xs xs.length).length) underlying73 ty22 Sr Sr (by rw [hje]) zS (by rw [hAl]; omega)) ?_
   refine Ju (step_tail_clear (R := rSl rValue) (zv := Value.slice none 0 0) (z := []) underlying73 (fun w => zeroValue22 w) rfl rfl rfl (fun h => ⟨_, rfl, none, ⟨0, Nat.le_refl _⟩, rfl, fun q => absurd rfl q⟩) Sr zS (by rw [hAl]; omega)) fun _ => ?_
   refine JL_nil (Jr (Jm rfl (Jm rfl ?_)))
   refine Jx rfl (step_slice_own (n := (compI xs xs.length).length) underlying73 ty22 Sr Sr (by first | rfl | (rw [hje])) zS (by simp only [List.length_append, List.length_take, List.length_replicate]; rw [hAl]; omega)) fun v64 => ?_
   refine Ja rfl (JL_nil (J_ret ?_))
   refine K_lsub (L' := [own 22 (rSl rValue) v64 (compM xs)]) (.c zS (SPs.of (A := own 22 (rSl rValue) v64 (((compA xs xs.length).take (compI xs xs.length).length ++ List.replicate ((compA xs xs.length).length - (compI xs xs.length).length) []).take (compI xs xs.length).length)) (by rw [List.take_left' (by rw [List.length_take, hAl]; omega)]; unfold compA compM; rw [List.take_left' rfl])) (LSub.nil)) ?_
   refine K_retv (rv := .tmp 4) rfl v64 (.tmp Sr) Sr
  try simp only [NF] at h28
  have hne : ¬ nth xs k = nth xs (k - 1) := by simpa using h28
  refine J_skip (J_region (Jm rfl (Js rfl (step_add Sr Sr z6) (Ja rfl (JL_nil ?_)))))
  refine K_againL (σ := Nat) (s := k) (k + 1) zO ⟨by omega, by omega, fun j hj h1 => by by_cases e : j = k; rw [e]; exact hne; exact hv j zG h1⟩ (zU) (LSub.rfl)
 try simp only [NF] at h15
 have hall := comp_all (l := xs) (n := xs.length) (Nat.le_refl _) (fun j hj h1 => hv j zG h1)
 refine J_exit (Jr (Jm rfl (Ja rfl (JL_nil (J_ret ?_)))))
 refine K_lsub (L' := [own 22 (rSl rValue) v (compM xs)]) (.c zS (SPs.of (A := own 22 (rSl rValue) v xs) (by unfold compM; rw [hall, List.take_length])) (LSub.nil)) ?_
 refine K_retv (rv := .tmp 4) rfl v (.tmp Sr) Sr
open Go Go.Proofs Go.Proofs.Tryz
theorem CompareRows_spec (x y : LV) (hx : x.length ≤ 1000000) (hy : y.length ≤ 1000000) : Fun1 prog 86 [tSl rValue x, tSl rValue y] (tV (.int .i64 (cmpR x y))) := by
  intro vs h m r w ha sp st
  match vs, ha with
  | [u, u'], ⟨a1, a2, _⟩ =>
  refine (cmpR_calls x y hx hy u u' h w sp.hw a1 a2).mono ?_
  rintro e w' ⟨rfl, q, os, rfl⟩
  exact ⟨(), _, h, m, rfl, HL.same ⟨rfl, rfl, rfl⟩, ⟨sp.inv, sp.hm, sp.hr, sp.mr, inw_grow sp.hw q os, inw_grow sp.mw q os, inw_grow sp.rw q os⟩, st, rfl⟩
def leR (a b : LV) : Bool := decide (cmpR a b ≤ 0)
def sortR (l : List LV) : List LV := l.mergeSort leR
theorem leR_tot (a b : LV) : (leR a b || leR b a) = true := by
  unfold leR
  have := c3_R.anti (a := a) (b := b)
  have := c3_R.anti (a := b) (b := a)
  simp only [Bool.or_eq_true, decide_eq_true_eq]; omega
theorem leR_trans (a b c : LV) (h1 : leR a b = true) (h2 : leR b c = true) : leR a c = true := by
  unfold leR at *
  simp only [decide_eq_true_eq] at *
  have e1 := c3_R.eq (a := a) (b := b)
  have e2 := c3_R.eq (a := b) (b := c)
  by_cases h3 : cmpR a b = 0
  · rw [e1.1 h3]; exact h2
  · by_cases h4 : cmpR b c = 0
    · rw [← e2.1 h4]; exact h1
    · have := c3_R.tr (a := a) (b := b) (d := c) (by omega) (by omega)
      omega
theorem leR_anti {a b : LV} (h1 : leR a b = true) (h2 : leR b a = true) : a = b := by
  unfold leR at *
  simp only [decide_eq_true_eq] at *
  have := c3_R.anti (a := a) (b := b)
  exact c3_R.eq.1 (by omega)
theorem sortR_perm (l : List LV) : (sortR l).Perm l := List.mergeSort_perm _ _
theorem sortR_sorted (l : List LV) : (sortR l).Pairwise fun a b => leR a b = true := List.pairwise_mergeSort leR_trans leR_tot l
theorem sortR_len (l : List LV) : (sortR l).length = l.length := (sortR_perm l).length_eq
theorem sortR_of {xs ys : List LV} (hp : ys.Perm xs) (hs : ys.Pairwise fun a b => ¬ cmpR b a < 0) : ys = sortR xs :=
  (hp.trans (sortR_perm xs).symm).eq_of_pairwise (le := fun a b => leR a b = true) (fun a b _ _ h1 h2 => leR_anti h1 h2) (hs.imp fun {a b} h => by
    unfold leR
    have := c3_R.anti (a := b) (b := a)
    simp only [decide_eq_true_eq]; omega) (sortR_sorted xs)
/-- The rows of a table, in order, each once. -/
def setR (l : List LV) : List LV := compM (sortR l)
theorem setR_len (l : List LV) : (setR l).length ≤ l.length := Nat.le_trans (comp_len (sortR l) (sortR l).length) (Nat.le_of_eq (sortR_len l))
theorem mem_compI {l : List LV} {n : Nat} (hn : n ≤ l.length) {x : LV} (h : x ∈ compI l n) : x ∈ l := by
  unfold compI at h
  simp only [List.mem_map, List.mem_filter, List.mem_range] at h
  obtain ⟨i, ⟨hi, _⟩, rfl⟩ := h
  exact nth_mem (by omega)
theorem setR_sub {l : List LV} {x : LV} (h : x ∈ setR l) : x ∈ l := (sortR_perm l).mem_iff.1 (mem_compI (Nat.le_refl _) h)
theorem eqR_iff {x y : LV} : decide (cmpR x y = 0) = decide (x = y) := by rw [decide_eq_decide]; exact c3_R.eq
theorem SortRowsM_spec (v : Value) (xs : List LV) (hx : ∀ e ∈ xs, e.length ≤ 1000000) (hn : xs.length ≤ 1000000000) : Spec (X := Unit) prog 137 [rV.ty v, tV (.func (.func 86) #[] #[])] [own 22 (rSl rValue) v xs] (fun _ => tTup []) (fun _ => [own 22 (rSl rValue) v (sortR xs)]) := by
  intro vs h0 m r w ha sp st
  refine (SortRows_spec v xs hx hn vs h0 m r w ha sp st).mono ?_
  rintro e w' ⟨⟨ys, hp, hs⟩, u, h', m', rfl, l, s, st', hu⟩
  have := sortR_of hp hs
  subst this
  exact ⟨(), u, h', m', rfl, l, s, st', hu⟩
theorem eqRow_spec (x y : LV) (hx : x.length ≤ 1000000) (hy : y.length ≤ 1000000) : Fun1 prog 88 [tSl rValue x, tSl rValue y] (tV (.bool (decide (x = y)))) := by
 refine Spec.enter func88 rfl rfl fun h0 w0 fr0 => ?_
 refine Jr (Ja rfl (JL_nil (Jr (Jm rfl (Jm rfl ?_)))))
 refine Js rfl (step_call0 (CompareRows_spec _ _ hx hy) ⟨Sr, Sr, trivial⟩ call86) (Js rfl (step_eql Sr Sr) (Ja rfl (JL_nil (J_ret ?_))))
 refine K_ret1 (t := 4) rfl () (Sub.bool ?_)
 exact eqR_iff
theorem eqRowA_spec (x y : LV) (hx : x.length ≤ 1000000) (hy : y.length ≤ 1000000) : Fun1 prog 277 [tSl rValue x, tSl rValue y] (tV (.bool (decide (x = y)))) := by
 refine Spec.enter func277 rfl rfl fun h0 w0 fr0 => ?_
 refine Jr (Ja rfl (JL_nil (Jr (Jm rfl (Jm rfl ?_)))))
 refine Js rfl (step_call0 (CompareRows_spec _ _ hx hy) ⟨Sr, Sr, trivial⟩ call86) (Js rfl (step_eql Sr Sr) (Ja rfl (JL_nil (J_ret ?_))))
 refine K_ret1 (t := 4) rfl () (Sub.bool ?_)
 exact eqR_iff
theorem values1_spec (l : List LV) (hl : l.length ≤ 1000000000) : ItSpec prog 138 [tPtr (rSl (rSl rValue)) l] [] (tRow) (okP l) (fun p => p = l) := by
 intro M Mx
 refine Spec.enter func138 rfl rfl fun h0 w0 fr0 => ?_
 refine Jr (Jl rfl ty73 Sr (Js rfl (step_len_sl underlying73 Sr) (Jm rfl (JL_nil (J_block ?_)))))
 refine J_loopL (σ := Nat) (fun k => k ≤ l.length) (fun k => upd (upd (upd (upd env0 0 (tYield prog tRow (okP l) M Mx)) 5 (tSl (rSl rValue) l)) 6 (tV (.int .i64 l.length))) 7 (tV (.int .i64 k))) (fun k => [M (l.take k)]) (fun k => l.length - k) 0 (by exact Nat.zero_le _) (zU) (LSub.of (by simp)) ?_
 rintro k hi
 refine Jr (Js rfl (step_lss Sr Sr) (JL_nil (J_seq ?_)))
 refine J_cond Sr (fun h8 => ?_) (fun h8 => ?_)
 ·
  try simp only [NF] at h8
  have hlk : k < l.length := by omega
  refine J_skip (J_seq (J_block (Jr ?_)))
  refine Js rfl (step_indexAddr_sl (i := k) underlying73 ty22 Sr Sr (by rfl) (gb (by exact hlk))) ?_
  refine Jl rfl ty22 Sr (Ja rfl (JL_nil (Jr (Jm rfl (Jm rfl ?_)))))
  refine Jx rfl (step_yield (T := tRow) (Ok := okP l) (M := M) (Mx := Mx) (pre := (l.take k)) (y := nth l k) Sr (by show _ <+: _; rw [← takeB hlk]; exact List.take_prefix _ _) (by exact ⟨Sr, trivial⟩) zS) fun v13 => ?_
  cases v13
  ·
   skip
   refine Js rfl (step_not Sr) (JL_nil ?_)
   refine J_cond Sr (fun hc2 => ?_) (fun hc2 => ?_)
   ·
    try simp only [NF] at hc2
    refine J_ret ?_
    refine K_itStop (Fin := fun p => p = l) (M := M) (Mx := Mx) (A := []) ?_ ((l.take k) ++ [nth l k]) ?_
    ·
     rfl
    exact LSub.of rfl
   try simp only [NF] at hc2
   exfalso; simp_all
  skip
  refine Js rfl (step_not Sr) (JL_nil ?_)
  refine J_cond Sr (fun hc3 => ?_) (fun hc3 => ?_)
  ·
   try simp only [NF] at hc3
   exfalso; simp_all
  try simp only [NF] at hc3
  refine J_skip (J_region (Js rfl (step_add Sr Sr z6) (Jm rfl (JL_nil ?_))))
  refine K_againL (σ := Nat) (s := k) (k + 1) zO zG (zU) (LSub.of (by rw [takeB hlk]; rfl))
 try simp only [NF] at h8
 obtain rfl : k = l.length := by omega
 refine J_exit ?_
 refine K_endRet (K_itDone (Fin := fun p => p = l) (M := M) (Mx := Mx) (A := []) ?_ l rfl ?_)
 ·
  rfl
 exact LSub.of (by rw [List.take_of_length_le zG])
theorem values_spec (l : List LV) : Fun1 prog 85 [tSl (rSl rValue) l] (tClo 138 [tPtr (rSl (rSl rValue)) l]) := by
 refine Spec.enter func85 rfl rfl fun h0 w0 fr0 => ?_
 refine Jr (Js rfl (step_box (R := (rSl (rSl rValue))) Sr) (Ja rfl (JL_nil (Jr (Js rfl (step_makeFunc (As := [_]) ⟨Sr, trivial⟩) ?_)))))
 refine Ja rfl (JL_nil (J_ret ?_))
 exact K_ret1 (t := 2) rfl () Sr
theorem AppendSeq_spec {gf : Nat} {As : List Ty} {A : List SP} {Ok Fin : List LV → Prop} (it : ItSpec prog gf As A tRow Ok Fin) (he : ∀ args w, (callFunc gf args).run prog w = .ok (.enter gf args) w) (hb : ∀ p, Ok p → p.length ≤ 1000000000) : Spec (X := Value × { xs : List LV // Fin xs }) prog 209 [tV (.slice none 0 0), tClo gf As] (A) (fun z => rV.ty z.1) (fun z => own 22 (rSl rValue) z.1 z.2.1 :: A) := by
 refine Spec.enter func209 rfl rfl fun h0 w0 fr0 => ?_
 refine Jr ?_
 refine Jx rfl (step_box_own (R := rV) (Sub.rV rfl)) fun v2 => ?_
 refine Ja rfl (JL_nil (J_seq (Jr (Jm rfl (JL_nil ?_)))))
 refine J_block ?_
 refine J_range (A := A) (T := tRow) (Ok := Ok) (Fin := Fin) (R := []) (fun xs => SP.ex fun v => stars [box v2 73 rV v, own 22 (rSl rValue) v xs]) (fun _ _ => SP.pure False) rfl (fun _ => rfl) rfl it Sr he (LSub.ex (.slice none 0 0) (LSub.stars (LSub.cons zS SPs.rfl (LSub.trans (LSub.nilown (e := 22) (R := rSl rValue)) (LSub.of (by simp)))))) ?round1 ?done1 ?stop1
 case round1 =>
  intro l1 rec1 h2 w2 fr2 pre y hle1 hst1 hpd1 hdj1 hok
  refine K_ex fun v => K_stars ?_
  refine J_region (Ja rfl (JL_nil ?_))
  refine K_begin hst1 hdj1 ?_
  refine J_block (J_region ?_)
  refine Js rfl (step_load_box ty73V Sr zS) ?_
  refine Jm rfl ?_
  refine Js rfl (step_literal (ys := [_]) underlying73 el22 ⟨rfl, Sr, trivial⟩ rfl (by decide)) ?_
  refine Jx rfl (step_append underlying73 el22 Sr Sr zS (by have := hb _ hok; simp at this ⊢; omega) (by have := hb _ hok; simp at this ⊢; omega)) fun v11 => ?_
  refine Ju (step_store_box (R := rV) ty73V Sr Sr zS) fun _ => ?_
  refine JL_nil ?_
  refine K_roundN hst1 hpd1 ?_
  refine LSub.cons zS SPs.rfl (LSub.ex _ (LSub.stars (LSub.cons zS SPs.rfl (LSub.cons zS SPs.rfl LSub.nil))))
 case done1 =>
  intro D1 xs hfin
  refine K_ex fun v => K_stars ?_
  refine Jr ?_
  refine Js rfl (step_load_box ty73V Sr zS) ?_
  refine Ja rfl (JL_nil (J_ret ?_))
  refine K_unmark (LSub.cons zS SPs.rfl LSub.rfl) ?_
  refine K_lsub (LSub.of (L' := box v2 73 rV v :: own 22 (rSl rValue) v xs :: A) (by simp)) ?_
  refine K_ret1' (rv := .tmp 4) rfl (v, ⟨xs, hfin⟩) (S := [box v2 73 rV v]) (Sel.take (Sel.none _)) (.tmp Sr) (Frz.sub Sr)
 case stop1 =>
  intro D1 c1 xs
  refine K_pure fun h => h.elim
theorem Collect_spec {gf : Nat} {As : List Ty} {A : List SP} {Ok Fin : List LV → Prop} (it : ItSpec prog gf As A tRow Ok Fin) (he : ∀ args w, (callFunc gf args).run prog w = .ok (.enter gf args) w) (hb : ∀ p, Ok p → p.length ≤ 1000000000) : Spec (X := Value × { xs : List LV // Fin xs }) prog 136 [tClo gf As] (A) (fun z => rV.ty z.1) (fun z => own 22 (rSl rValue) z.1 z.2.1 :: A) := by
 refine Spec.enter func136 rfl rfl fun h0 w0 fr0 => ?_
 refine Jr (Ja rfl (JL_nil (Jr (Jm rfl ?_))))
 refine Jx rfl (step_call (Sel.all _) (AppendSeq_spec it he hb) ⟨Sr, Sr, trivial⟩ call209) fun z => ?_
 refine Ja rfl (JL_nil (J_ret ?_))
 refine K_lsub (LSub.of (L' := own 22 (rSl rValue) z.1 z.2.1 :: A) (by simp)) ?_
 refine K_retv (rv := .tmp 2) rfl z (.tmp Sr) Sr
theorem SortedRows_spec (l : List LV) (hl : l.length ≤ 1000000000) (hr : ∀ e ∈ l, e.length ≤ 1000000) : Spec (X := Value) prog 84 [tClo 138 [tPtr (rSl (rSl rValue)) l], tV (.func (.func 86) #[] #[])] ([]) (fun z => rV.ty z) (fun z => [own 22 (rSl rValue) z (sortR l)]) := by
 refine Spec.enter func84 rfl rfl fun h0 w0 fr0 => ?_
 refine Jr (Ja rfl (JL_nil (Jr (Jm rfl ?_))))
 refine Jx rfl (step_call (Sel.none _) (Collect_spec (values1_spec l hl) call138 (fun p hp => by have := hp.length_le; omega)) ⟨Sr, trivial⟩ call136) fun z => ?_
 obtain ⟨v5, xs, hxs⟩ := z
 have hxs : l = xs := Eq.symm hxs
 subst hxs
 refine Ja rfl (JL_nil (Jr (Jm rfl (Jm rfl ?_))))
 refine Jx rfl (step_call (Sel.take (Sel.none _)) (SortRowsM_spec v5 l hr hl) ⟨Sr, Sr, trivial⟩ call137) fun v10 => ?_
 refine JL_nil (Jr (Jm rfl (Ja rfl (JL_nil (J_ret ?_)))))
 refine K_retv (rv := .tmp 4) rfl v5 (.tmp Sr) Sr
theorem CloneRows_spec (l : List LV) (hl : l.length ≤ 1000000000) : Spec (X := Value) prog 251 [tSl (rSl rValue) l] ([]) (fun v => rV.ty v) (fun v => [own 22 (rSl rValue) v l]) := by
 refine Spec.enter func251 rfl rfl fun h0 w0 fr0 => ?_
 refine Jr (Ja rfl (JL_nil (J_seq (Jr (Jm rfl ?_)))))
 refine Jx rfl (step_eql_slnil underlying73 Sr) fun v4 => ?_
 refine JL_nil ?_
 refine J_cond Sr (fun h4 => ?_) (fun h4 => ?_)
 ·
  try simp only [NF] at h4
  refine Jr (Ja rfl (JL_nil (J_ret ?_)))
  have hl0 := v4.2 h4
  subst hl0
  refine K_lsub (LSub.nilown (e := 22) (R := rSl rValue)) ?_
  refine K_ret1' (rv := .tmp 2) rfl (.slice none 0 0) (Sel.none _) (.tmp (Sub.rV rfl)) (Frz.sub Sr)
 try simp only [NF] at h4
 refine J_skip (Jr ?_)
 refine Jx rfl (step_literal_own (ys := []) underlying73 el22 trivial rfl (by decide)) fun v5 => ?_
 refine Jm rfl ?_
 refine Jx rfl (step_append underlying73 el22 Sr Sr zS (by simp; omega) (by simp; omega)) fun v7 => ?_
 refine Ja rfl (JL_nil (J_ret ?_))
 refine K_ret1' (rv := .tmp 2) rfl v7 (Sel.none _) (.tmp Sr) (Frz.sub Sr)
theorem setA_spec (l : List LV) (hl : l.length ≤ 1000000000) (hr : ∀ e ∈ l, e.length ≤ 1000000) : Spec (X := Value) prog 208 [tSl (rSl rValue) l] ([]) (fun z => rV.ty z) (fun z => [own 22 (rSl rValue) z (setR l)]) := by
 refine Spec.enter func208 rfl rfl fun h0 w0 fr0 => ?_
 refine Jr (Ja rfl (JL_nil (Jr (Jm rfl ?_))))
 refine Jx rfl (step_call (Sel.none _) (CloneRows_spec l hl) ⟨Sr, trivial⟩ call251) fun v5 => ?_
 refine Ja rfl (JL_nil (Jr (Jm rfl ?_)))
 refine Jx rfl (step_call (Sel.take (Sel.none _)) (SortRowsM_spec v5 l hr hl) ⟨Sr, Sr, trivial⟩ call137) fun v7 => ?_
 refine JL_nil (Jr (Jm rfl ?_))
 refine Jx rfl (step_call (Sel.take (Sel.none _)) (CompactRows_spec v5 (sortR l) (by rw [sortR_len]; exact hl) 277 (fun x y hx hy => eqRowA_spec x y (hr x ((sortR_perm l).mem_iff.1 hx)) (hr y ((sortR_perm l).mem_iff.1 hy))) call277) ⟨Sr, Sr, trivial⟩ call87) fun v9 => ?_
 refine Ja rfl (JL_nil (J_ret ?_))
 refine K_retv (rv := .tmp 2) rfl v9 (.tmp Sr) Sr
end Lg
namespace Go.Proofs
open Go
theorem recNil (x y : Value) (w : World) : CallsDIn Fence.wide 0 Tryz.prog 133 #[x, y] .returning w fun e u' w' => e = .returned (.tuple #[]) ∧ u' = .returning ∧ w' = w := by
  refine callsDIn_of_wpSIn Tryz.func133 rfl trivial fun c₀ cs hu => ?_
  apply wpSIn_seq
  apply wpSIn_region
  simp [wpOpsSIn, go_sem, recoverD, hu, Tryz.ntmps133, Exit.thenS]
  apply wpSIn_seq
  apply wpSIn_region
  simp [wpOpsSIn, go_sem, recoverD, hu, Tryz.ntmps133, Exit.thenS]
  refine wpSIn_cond (t := false) (by simp [Act.eval, Array.replicate]) ?_
  simp only [Bool.false_eq_true, if_false]
  refine wpSIn_of_wpIn rfl (wpIn_skip ?_)
  cases c₀
  simp_all [bodyPostS, results, Tryz.results133]
end Go.Proofs
namespace Lg
open Go
theorem JL_defer {P : Program} {N : Nat} {ds : List Deferred} {h0 : PH} {w0 : World} {r : PH} {ops : Array Oper} {rest : List Oper} {Q : Exit → Act → World → Prop} {E : Env} {L : List SP} {x : Operand} {f : Nat} {cap : List Value} {ty : Nat} {pos : String} {af : Array Edge}
    (hx : Sub (opTy E x) (tV (.func (.func f) #[] cap.toArray))) (hk : JL ⟨P, none, N, ⟨.fn (.func f) cap.toArray, #[]⟩ :: ds, h0, w0, r⟩ ops rest Q E L) :
    JL ⟨P, none, N, ds, h0, w0, r⟩ ops (⟨none, .defer { callee := .value x, args := #[], argTypes := #[] }, ty, pos, af, none⟩ :: rest) Q E L := fun a w ⟨n, hds, h, m, l, sp, st, fr⟩ => by
  refine wpListIn_plain rfl fun K hK => ⟨fun _ _ => trivial, ?_⟩
  have hv : a.eval x = .func (.func f) #[] cap.toArray := fr.get hx
  have hr : (execOp a.eval ⟨none, .defer { callee := .value x, args := #[], argTypes := #[] }, ty, pos, af, none⟩).run P w = .ok (.defer ⟨.fn (.func f) cap.toArray, #[]⟩) w := by
    simp [execOp, resolve, hv, Deferred.ofValue]
  show Oper.uponIn (Fw none) 0 P ⟨none, .defer { callee := .value x, args := #[], argTypes := #[] }, ty, pos, af, none⟩ a K Q ((execOp a.eval ⟨none, .defer { callee := .value x, args := #[], argTypes := #[] }, ty, pos, af, none⟩).run P w)
  rw [hr]
  exact hK _ _ (hk _ w ⟨n, by show _ :: a.defers = _; rw [hds], h, m, l, sp, st, fr⟩)
theorem K_deferNil {P : Program} {fn : Func} {N : Nat} {ds : List Deferred} {h0 : PH} {w0 : World} {r : PH} {RR : Ending → World → Prop} {E : Env} {L : List SP} {f : Nat} {cap : List Value}
    (hi : ∀ w, (callFunc f cap.toArray).run P w = .ok (.enter f cap.toArray) w) (hc : ∀ w, CallsDIn Fence.wide 0 P f cap.toArray .returning w fun e u' w' => e = .returned (.tuple #[]) ∧ u' = .returning ∧ w' = w)
    (hk : K ⟨P, none, N, ds, h0, w0, r⟩ (bodyPostM Fence.wide 0 P fn RR .ret) E L) :
    K ⟨P, none, N, ⟨.fn (.func f) cap.toArray, #[]⟩ :: ds, h0, w0, r⟩ (bodyPostM Fence.wide 0 P fn RR .ret) E L := fun a w ⟨n, hds, h, m, le, sp, st, fr⟩ => by
  show LeavesInM Fence.wide 0 P fn a.tmps RR a.defers .returning w
  rw [hds]
  refine ⟨by simp, .inr ⟨fun q => absurd q (by simp [Fence.wide]), .func f, cap.toArray, f, cap.toArray, rfl, ?_, fun _ _ => trivial, ?_⟩⟩
  · show (callFunc f (#[] ++ cap.toArray)).run P w = _
    rw [Array.empty_append]; exact hi w
  · refine (hc w).mono ?_
    rintro e u' w' ⟨rfl, rfl, rfl⟩
    exact hk { a with defers := ds } _ ⟨n, rfl, h, m, le, sp, st, fr⟩
open Go Go.Proofs Go.Proofs.Tryz
theorem mapI_one {h : PH} {m : List (Int × Gkind)} {v : Value} (hv : (tMapI kvI rkind m).p h v) : v.oneCell' = true := by
  obtain ⟨r0, es, rfl, _⟩ := tMapI_iff hv
  rfl
structure Gev where
  tables : List (List LV)
  kinds : List (Int × Gkind)
abbrev rKM : Rp (List (Int × Gkind)) := rT (tMapI kvI rkind) mapI_one
def fsev : List (SF Gev) := [⟨List (List LV), 61, rSl (rSl (rSl rValue)), Gev.tables⟩, ⟨List (Int × Gkind), 164, rKM, Gev.kinds⟩]
abbrev rev : Rp Gev := rStruct fsev
theorem ty164 : TyOf prog 164 rKM := ⟨fun w => isAgg164 w, fun w => sizeOf164 w⟩
theorem ty187 : TyOf prog 187 rev := ⟨fun w => isAgg187 w, fun w => sizeOf187 w⟩
theorem so187 : StructOf prog 187 fsev := ⟨⟨_, underlying187, ⟨rfl, rfl, ty61, by decide, ⟨rfl, rfl, ty164, by decide, trivial⟩⟩⟩, ty187⟩
theorem kf_sub {f : Nat} {v : Value} (hv : v = .func (.func f) #[] #[]) : Sub (rV.ty v) (tClo f []) := by
  subst hv
  rintro h u ⟨rfl, _⟩
  exact ⟨[], rfl, trivial⟩
theorem cloV2_sub {g : Nat} {a b : Value} : Sub (tClo g [tV a, tV b]) (tV (.func (.func g) #[] [a, b].toArray)) := by
  rintro h u ⟨cap, rfl, ha⟩
  match cap, ha with
  | [x, y], ⟨h1, h2, _⟩ =>
    have h1 : x = a := h1
    have h2 : y = b := h2
    subst h1 h2; rfl
def fitsM (t : GTable) (row : LV) : Bool := decide (row.length = t.Attrs.length) && (List.range row.length).all fun i => fitM (nth t.Attrs i).Kind (nth row i)
/-- That tables may be queried. -/
def tabsM (s : GSchema) (ts : List (List LV)) : Bool := (List.range ts.length).all fun i => !((nth ts i).any fun row => !fitsM (nth s.Tables i) row)
def evalOk (s : GSchema) (p : GPlan) (ts : List (List LV)) : Bool := vldM s p && decide ((ts.length : Int) = s.Tables.length) && tabsM s ts
theorem evalOk_in {s : GSchema} {p : GPlan} {ts : List (List LV)} (h : evalOk s p ts = true) : vldM s p = true ∧ ts.length = s.Tables.length ∧ ∀ i, i < ts.length → ∀ r ∈ nth ts i, r.length = (nth s.Tables i).Attrs.length := by
  unfold evalOk tabsM at h
  simp only [Bool.and_eq_true, decide_eq_true_eq, List.all_eq_true, List.mem_range, Bool.not_eq_true', List.any_eq_false] at h
  refine ⟨h.1.1, by omega, fun i hi r hr => ?_⟩
  have := h.2 i hi r hr
  simp only [Bool.not_eq_false, fitsM, Bool.and_eq_true, decide_eq_true_eq] at this
  exact this.1
theorem IndexFuncRows_spec (l : List LV) (hl : l.length ≤ 1000000000000) (gi : Nat) (As : List Ty) (p : LV → Bool) (hp : ∀ x ∈ l, Fun1 prog gi ([tSl rValue x] ++ As) (tV (.bool (p x)))) (he : ∀ args w, (callFunc gi args).run prog w = .ok (.enter gi args) w) : Fun1 prog 206 [tSl (rSl rValue) l, tClo gi As] (tV (.int .i64 (findI p 0 l))) := by
 refine Spec.enter func206 rfl rfl fun h0 w0 fr0 => ?_
 refine Jr (Ja rfl (JL_nil (J_seq (Jr (Jm rfl ?_)))))
 refine Js rfl (step_len_sl underlying73 Sr) (Jm rfl (JL_nil (J_block ?_)))
 refine J_loopL (σ := Nat) (fun i => i ≤ l.length ∧ findI p 0 l = findI p i (l.drop i)) (fun i => upd (upd (upd (upd env0 0 (tSl (rSl rValue) l)) 1 (tClo gi As)) 7 (tV (.int .i64 l.length))) 8 (tV (.int .i64 i))) (fun i => []) (fun i => l.length - i) 0 ⟨by omega, by simp⟩ (zU) (LSub.rfl) ?_
 rintro i ⟨hi, hv⟩
 refine Jr (Js rfl (step_lss Sr Sr) (JL_nil (J_seq ?_)))
 refine J_cond Sr (fun h9 => ?_) (fun h9 => ?_)
 ·
  try simp only [NF] at h9
  have hlt : i < l.length := by omega
  have hd := dropB hlt
  refine J_skip (J_seq (J_block (Jr (Jm rfl (Ja rfl ?_)))))
  refine JL_nil (Jr (Jm rfl (Jm rfl (Jm rfl ?_))))
  refine Js rfl (step_indexAddr_sl  underlying73 ty22 Sr Sr rfl (gb (by first | assumption | omega))) ?_
  refine Jl rfl ty22 Sr (Js rfl (step_callv0 (aT := [_]) Sr (hp _ (nth_mem hlt)) ⟨Sr, trivial⟩ he) (JL_nil ?_))
  refine J_cond Sr (fun h16 => ?_) (fun h16 => ?_)
  ·
   try simp only [NF] at h16
   refine Jr (Jm rfl (Ja rfl (JL_nil (J_ret ?_))))
   refine K_retv (rv := .tmp 4) rfl () (.tmp Sr) (Sub.int ?_)
   rw [hv, hd]; simp only [findI]; rw [if_pos h16]
  try simp only [NF] at h16
  refine J_skip (J_region (Js rfl (step_add Sr Sr z6) (Jm rfl (JL_nil ?_))))
  refine K_againL (σ := Nat) (s := i) (i + 1) zO ?_ (zU) (LSub.rfl)
  refine ⟨by omega, ?_⟩
  rw [hv, hd]; simp only [findI]; rw [if_neg (by simp [h16])]; simp
 try simp only [NF] at h9
 refine J_exit (Jr (Ja rfl (JL_nil (J_ret ?_))))
 refine K_retv (rv := .tmp 4) rfl () (.tmp Sr) (Sub.int ?_)
 rw [hv, List.drop_of_length_le zG]; rfl
theorem ContainsFuncRows_spec (l : List LV) (hl : l.length ≤ 1000000000000) (gi : Nat) (As : List Ty) (p : LV → Bool) (hp : ∀ x ∈ l, Fun1 prog gi ([tSl rValue x] ++ As) (tV (.bool (p x)))) (he : ∀ args w, (callFunc gi args).run prog w = .ok (.enter gi args) w) : Fun1 prog 130 [tSl (rSl rValue) l, tClo gi As] (tV (.bool (l.any p))) := by
 refine Spec.enter func130 rfl rfl fun h0 w0 fr0 => ?_
 refine Jr (Ja rfl (JL_nil (Jr (Jm rfl (Jm rfl ?_)))))
 refine Js rfl (step_call0 (IndexFuncRows_spec l hl gi As p hp he) ⟨Sr, Sr, trivial⟩ call206) (Js rfl (step_geq Sr Sr) (Ja rfl (JL_nil (J_ret ?_))))
 refine K_retv (rv := .tmp 4) rfl () (.tmp Sr) (Sub.bool ?_)
 have hq := (findI_bd p l 0 zG).2.2
 by_cases ha : l.any p = true
 ·
  rw [ha]; simp; exact hq.2 ha
 simp only [Bool.not_eq_true] at ha; rw [ha]; simp; have : ¬ 0 ≤ findI p 0 l := (fun h => by rw [hq.1 h] at ha; cases ha)
 omega
set_option maxHeartbeats 1000000 in
theorem Fits_spec (t : GTable) (row : LV) (hl : row.length ≤ 1000000000000) : Fun1 prog 132 [rTable.ty t, tSl rValue row] (tV (.bool (fitsM t row))) := by
 refine Spec.enter func132 rfl rfl fun h0 w0 fr0 => ?_
 refine Jr (Js rfl (step_box (R := rTable) Sr) (Ja rfl (JL_nil (J_seq (Jr ?_)))))
 refine Jm rfl (Js rfl (step_len_sl underlying22 Sr) (Js rfl (step_fieldAddr so76 Sr rfl) (Jl rfl ty44 Sr (Js rfl (step_len_sl underlying44 Sr) (Js rfl (step_neq Sr Sr) ?_)))))
 refine JL_nil ?_
 refine J_cond Sr (fun h11 => ?_) (fun h11 => ?_)
 ·
  try simp only [NF] at h11
  refine Jr (Ja rfl (JL_nil (J_ret ?_)))
  refine K_ret1 (t := 4) rfl () ?_
  refine Sub.bool ?_
  have : ¬ row.length = t.Attrs.length := by omega
  simp [fitsM, this]
 try simp only [NF] at h11
 have heq : row.length = t.Attrs.length := by omega
 refine J_skip (J_seq (Jr (Jm rfl (Js rfl (step_len_sl underlying22 Sr) (Jm rfl ?_)))))
 refine JL_nil (J_block ?_)
 refine J_loopL (σ := Nat) (fun i => i ≤ row.length ∧ ∀ k, k < i → fitM (nth t.Attrs k).Kind (nth row k) = true) (fun i => upd (upd (upd (upd env0 1 (tSl rValue row)) 2 (tPtr rTable t)) 13 (tV (.int .i64 row.length))) 14 (tV (.int .i64 i))) (fun i => []) (fun i => row.length - i) 0 ⟨by omega, fun k hk => by omega⟩ (zU) (LSub.rfl) ?_
 rintro i ⟨hi, hv⟩
 refine Jr (Js rfl (step_lss Sr Sr) (JL_nil (J_seq ?_)))
 refine J_cond Sr (fun h15 => ?_) (fun h15 => ?_)
 ·
  try simp only [NF] at h15
  have hlt : i < row.length := by omega
  refine J_skip (J_seq (J_block (Jr (Jm rfl (Ja rfl ?_)))))
  refine JL_nil (J_seq ?_)
  refine J_draw [⟨0, [2], true⟩, ⟨1, [17], true⟩, ⟨2, [5], true⟩, ⟨3, [18, 19], true⟩, ⟨4, [20], true⟩, ⟨5, [21], true⟩, ⟨6, [1], true⟩, ⟨7, [5], true⟩, ⟨8, [23, 24], true⟩, ⟨9, [25], true⟩, ⟨10, [22, 26], true⟩, ⟨11, [27], true⟩] rfl (by kernel_rfl) ?_
  refine Mf rfl rfl (step_fieldAddr so76 Sr rfl) (Mf rfl rfl (step_load_ptr ty44 Sr) (Mv rfl rfl ?_))
  refine Mf rfl rfl (step_indexAddr_sl (i := i) underlying44 ty89 Sr Sr (by rfl) (gb (by show i < t.Attrs.length; omega))) ?_
  refine Mf rfl rfl (step_fieldAddr so89 Sr rfl) (Mf rfl rfl (step_load_ptr ty3 Sr) (Mv rfl rfl (Mv rfl rfl ?_)))
  refine Mf rfl rfl (step_indexAddr_sl (i := i) underlying22 ty87 Sr Sr (by rfl) (gb (by exact hlt))) ?_
  refine Mf rfl rfl (step_load_ptr ty87 Sr) (Mf rfl rfl (step_call0 (fit_spec _ _) ⟨Sr, Sr, trivial⟩ call207) (Mf rfl rfl (step_not Sr) (JM_nil ?_)))
  refine J_cond Sr (fun h28 => ?_) (fun h28 => ?_)
  ·
   try simp only [NF] at h28
   have hf : fitM (nth t.Attrs i).Kind (nth row i) = false := by simpa using h28
   refine Jr (Ja rfl (JL_nil (J_ret ?_)))
   refine K_ret1 (t := 4) rfl () ?_
   refine Sub.bool ?_
   rw [fitsM, rall_f (f := fun i => fitM (nth t.Attrs i).Kind (nth row i)) hlt hf, Bool.and_false]
  try simp only [NF] at h28
  have hf : fitM (nth t.Attrs i).Kind (nth row i) = true := by simpa using h28
  refine J_skip (J_region (Js rfl (step_add Sr Sr z6) (Jm rfl (JL_nil ?_))))
  refine K_againL (σ := Nat) (s := i) (i + 1) zO ⟨by omega, fun k hk => by by_cases e : k = i; exact e ▸ hf; exact hv k zG⟩ (zU) (LSub.rfl)
 try simp only [NF] at h15
 have hall := rall_t (n := row.length) (fun k hk => hv k zG)
 refine J_exit (Jr (Ja rfl (JL_nil (J_ret ?_))))
 refine K_ret1 (t := 4) rfl () ?_
 refine Sub.bool ?_
 rw [fitsM, hall]; simp [heq]
theorem evalF1_spec (s : GSchema) (i : Nat) (hi : i < s.Tables.length) (row : LV) (hl : row.length ≤ 1000000000000) : Fun1 prog 131 [tSl rValue row, tPtr rSchema s, tPtr rInt (i : Int)] (tV (.bool (!fitsM (nth s.Tables i) row))) := by
 refine Spec.enter func131 rfl rfl fun h0 w0 fr0 => ?_
 refine Jr (Ja rfl (JL_nil (Jr (Js rfl (step_fieldAddr so41 Sr rfl) (Jl rfl ty39 Sr ?_)))))
 refine Jl rfl ty3 Sr ?_
 refine Js rfl (step_indexAddr_sl (i := i) underlying39 ty76 Sr Sr (by rfl) (gb (by exact hi))) ?_
 refine Jl rfl ty76 Sr (Jm rfl (Js rfl (step_call0 (Fits_spec _ _ hl) ⟨Sr, Sr, trivial⟩ call132) (Js rfl (step_not Sr) (Ja rfl (JL_nil ?_)))))
 refine J_ret ?_
 exact K_ret1 (t := 4) rfl () Sr
theorem evTable_spec (e : Gev) (n : Nat) (p : GPlan) (l : List (List LV)) (ht : 0 ≤ p.Table ∧ p.Table < e.tables.length) : Fun1 prog 171 [tPtr rev e, (rPlan (n + 1)).ty p, tSl (rSl (rSl rValue)) l] (tSl (rSl rValue) (nth e.tables p.Table.toNat)) := by
 refine Spec.enter func171 rfl rfl fun h0 w0 fr0 => ?_
 refine Jr (Js rfl (step_box (R := (rPlan (n + 1))) Sr) (Ja rfl (JL_nil (J_seq ?_))))
 refine J_draw [⟨0, [0], true⟩, ⟨1, [7], true⟩, ⟨2, [8], true⟩, ⟨3, [9], true⟩, ⟨4, [4], true⟩, ⟨5, [11], true⟩, ⟨6, [10, 12], true⟩, ⟨7, [13], true⟩, ⟨8, [14], true⟩] rfl (by kernel_rfl) ?_
 refine Mv rfl rfl (Mf rfl rfl (step_nilCheckP Sr) (Mf rfl rfl (step_fieldAddr so187 Sr rfl) (Mf rfl rfl (step_load_ptr ty61 Sr) (Mf rfl rfl (step_fieldAddr so46 Sr rfl) (Mf rfl rfl (step_load_ptr ty3 Sr) ?_)))))
 refine Mf rfl rfl (step_indexAddr_sl (i := p.Table.toNat) underlying61 ty73 Sr Sr (by show p.Table = _; omega) (gb (by show _ < e.tables.length; omega))) ?_
 refine Mf rfl rfl (step_load_ptr ty73 Sr) (Mf rfl rfl (step_assign Sr) (JM_nil (J_ret ?_)))
 exact K_ret1 (t := 6) rfl () Sr
set_option maxHeartbeats 2000000 in
theorem evalTab_spec (e : Gev) (hk : e.kinds = kindsM) (n : Nat) (p : GPlan) (h1 : p.Kind = 1) (hn : p.Kids = []) (ht : 0 ≤ p.Table ∧ p.Table < e.tables.length) (hl : (nth e.tables p.Table.toNat).length ≤ 4000) (hr : ∀ r ∈ (nth e.tables p.Table.toNat), r.length ≤ 1000000) : Spec (X := Value) prog 134 [tPtr rev e, (rPlan (n + 1)).ty p] ([]) (fun z => rV.ty z) (fun z => [own 22 (rSl rValue) z (setR (nth e.tables p.Table.toNat))]) := by
 refine Spec.enter func134 rfl rfl fun h0 w0 fr0 => ?_
 refine Jr (Js rfl (step_box (R := (rPlan (n + 1))) Sr) (Ja rfl (JL_nil (Jr (Ja rfl ?_)))))
 refine JL_nil (J_seq (Jr (Js rfl (step_fieldAddr so46 Sr rfl) (Jl rfl ty42 Sr (Js rfl (step_len_sl underlying42 Sr) ?_)))))
 refine Jm rfl (JL_nil (J_block ?_))
 refine J_loopL (σ := Unit) (fun _ => True) (fun _ => upd (upd (upd (upd (upd (upd (upd env0 0 (tPtr rev e)) 3 (tPtr (rPlan (n + 1)) p)) 4 (tV (.slice none 0 0))) 5 (tV (.slice none 0 0))) 10 (tSl (rPlan n) p.Kids)) 11 (tV (.int .i64 p.Kids.length))) 12 (tV (.int .i64 0))) (fun _ => []) (fun _ => 0) () trivial (zU) (LSub.rfl) ?_
 rintro _ _
 refine Jr (Js rfl (step_lss Sr Sr) (JL_nil (J_seq ?_)))
 refine J_cond Sr (fun h13 => ?_) (fun h13 => ?_)
 ·
  try simp only [NF] at h13
  exfalso; rw [hn] at h13; simp at h13
 try simp only [NF] at h13
 refine J_exit (J_seq ?_)
 refine J_draw [⟨0, [0], true⟩, ⟨1, [23], true⟩, ⟨2, [24], true⟩, ⟨3, [25], true⟩, ⟨4, [3], true⟩, ⟨5, [27], true⟩, ⟨6, [26, 28], true⟩, ⟨7, [29], true⟩, ⟨8, [0], true⟩, ⟨9, [3], true⟩, ⟨10, [5], true⟩, ⟨11, [30, 31, 32, 33], true⟩, ⟨12, [34], false⟩, ⟨13, [35], true⟩] rfl (by kernel_rfl) ?_
 refine Mv rfl rfl (Mf rfl rfl (step_nilCheckP Sr) (Mf rfl rfl (step_fieldAddr so187 Sr rfl) (Mf rfl rfl (step_load_ptr ty164 Sr) (Mf rfl rfl (step_fieldAddr so46 Sr rfl) (Mf rfl rfl (step_load_ptr ty3 Sr) ?_)))))
 refine Mf rfl rfl (step_lookupI (kv := kvI) (R := rkind) (z := zkind) (KeyT.int underlying3) underlying164 (fun w => zeroValue213 w) zr213 Sr Sr) (Mf rfl rfl (step_field so213 Sr rfl) (Mv rfl rfl (Mf rfl rfl (step_load_ptr ty46 Sr) (Mv rfl rfl ?_))))
 refine Mf rfl rfl (step_callv0 (aT := [_, _, _]) (As := []) (Sub.trans (Sub.of_eq rfl) (kf_sub (f := 171) (by show ((mget e.kinds p.Kind).getD zkind).rows = _; rw [hk, h1]; rfl))) (evTable_spec e n p [] ht) ⟨Sr, Sr, Sub.nilsl, trivial⟩ call171) ?_
 refine JM_stepX rfl rfl rfl rfl (step_call (Sel.none _) (setA_spec _ (by show (nth e.tables p.Table.toNat).length ≤ _; omega) hr) ⟨Sr, trivial⟩ call208) fun v35 => ?_
 refine Mf rfl rfl (step_assign Sr) (JM_nil (J_seq (Jr (Jm rfl ?_))))
 refine Js rfl (step_len_own underlying73 Sr zS) ?_
 refine Js rfl (step_gtr Sr Sr) (JL_nil ?_)
 refine J_cond Sr (fun h38 => ?_) (fun h38 => ?_)
 ·
  try simp only [NF] at h38
  exfalso; have := setR_len (nth e.tables p.Table.toNat); omega
 try simp only [NF] at h38
 refine J_skip (Jr (Jm rfl (Ja rfl (JL_nil (J_ret ?_)))))
 refine K_retv (rv := .tmp 4) rfl v35 (.tmp Sr) Sr
open Go Go.Proofs Go.Proofs.Tryz
theorem ty30 : TyOf prog 30 rInt := ⟨fun w => isAgg30 w, fun w => sizeOf30 w⟩
theorem zr30 : ∀ h, (rInt.ty 0).p h (Value.int .i64 0) := fun _ => rfl
theorem rvnil_sub {α : Type} {R : Rp α} : Sub (rV.ty (.slice none 0 0)) (tSl R []) := fun h v e => by
  have e : v = .slice none 0 0 := e.1
  subst e
  exact ⟨none, ⟨0, Nat.le_refl _⟩, rfl, fun q => absurd rfl q⟩
def evalR (s : GSchema) (p : GPlan) (ts : List (List LV)) : List LV := if evalOk s p ts = true then setR (nth ts p.Table.toNat) else []
def evalE (s : GSchema) (p : GPlan) (ts : List (List LV)) : Int := if evalOk s p ts = true then 0 else 1
theorem CloneRowI_spec (l : LV) (hl : l.length ≤ 1000000000) : Fun1 prog 135 [tSl rValue l] (tSl rValue l) := by
 refine Spec.enter func135 rfl rfl fun h0 w0 fr0 => ?_
 refine Jr (Ja rfl (JL_nil (J_seq (Jr (Jm rfl ?_)))))
 refine Jx rfl (step_eql_slnil underlying22 Sr) fun v4 => ?_
 refine JL_nil ?_
 refine J_cond Sr (fun h4 => ?_) (fun h4 => ?_)
 ·
  try simp only [NF] at h4
  refine Jr (Ja rfl (JL_nil (J_ret ?_)))
  have hl0 := v4.2 h4
  subst hl0
  refine K_ret1 (t := 2) rfl () Sub.nilsl
 try simp only [NF] at h4
 refine J_skip (Jr ?_)
 refine Jx rfl (step_literal_own (ys := []) underlying22 el87 trivial rfl (by decide)) fun v5 => ?_
 refine Jm rfl ?_
 refine Jx rfl (step_append underlying22 el87 Sr Sr zS (by simp; omega) (by simp; omega)) fun v7 => ?_
 refine Ja rfl (JL_nil (J_ret ?_))
 refine K_ret1' (rv := .tmp 2) rfl () (Sel.take (Sel.none _)) (.tmp Sr) Frz.own
set_option maxHeartbeats 4000000 in
theorem EvalTab_spec (s : GSchema) (hz : SchSz s) (n : Nat) (p : GPlan) (hp : PlSz (n + 1) p) (h1 : p.Kind = 1) (hn : p.Kids = []) (ts : List (List LV)) (hl : ∀ t ∈ ts, t.length ≤ 4000) (hr : ∀ t ∈ ts, ∀ r ∈ t, r.length ≤ 1000000) : Fun1 prog 83 [rSchema.ty s, (rPlan (n + 1)).ty p, tSl (rSl (rSl rValue)) ts] (tTup [tSl (rSl rValue) (evalR s p ts), tV (.int .i64 (evalE s p ts))]) := by
 refine Spec.enter func83 rfl rfl fun h0 w0 fr0 => ?_
 have htl := hz.tabs
 refine Jr (Js rfl (step_box (R := rSchema) Sr) (Js rfl (step_box (R := (rPlan (n + 1))) Sr) ?_))
 refine Jx rfl (step_alloc (R := rV) (z := Value.slice none 0 0) (fun w => zeroValue73 w) (fun _ => ⟨rfl, rfl⟩)) fun b6 => ?_
 refine Jx rfl (step_alloc (fun w => zeroValue30 w) zr30) fun b7 => ?_
 refine JL_nil (J_seq (Jr (Jl rfl ty41 Sr (Jl rfl ty46 Sr (Js rfl (step_call0 (algValid_spec s hz (n + 1) p hp) ⟨Sr, Sr, trivial⟩ call60) ?_)))))
 refine Js rfl (step_not Sr) (Jm rfl ?_)
 refine Jk rfl Sr rfl (step_move Sr) ?_
 refine Jg rfl Sr rfl (fun hw => step_len_sl underlying61 (Sub.w hw)) ?_
 refine Jk rfl Sr rfl (step_fieldAddr so41 Sr rfl) ?_
 refine Jg rfl Sr rfl (fun hw => step_load_ptr ty39 (Sub.w hw)) (Jg rfl Sr rfl (fun hw => step_len_sl underlying39 (Sub.w hw)) (Jg rfl Sr rfl (fun hw => step_neq (Sub.w hw) (Sub.w hw)) (Js rfl (step_pick_or Sr Sr) (JL_nil ?_))))
 refine J_cond Sr (fun h24 => ?_) (fun h24 => ?_)
 ·
  try simp only [NF] at h24
  refine Jr ?_
  refine Ju (step_store_box (R := rV) ty73V Sr (Sub.rV rfl) zS) fun _ => ?_
  refine Ju (step_store_box ty30 Sr Sr zS) fun _ => ?_
  refine JL_nil (J_ret ?_)
  have hf : evalOk s p ts = false := by
   unfold evalOk
   rcases h24 with h | h
   ·
    have : vldM s p = false := by simpa using h
    simp [this]
   simp [show ¬ (ts.length : Int) = s.Tables.length by omega]
  have hR : evalR s p ts = [] := by rw [evalR, if_neg (by rw [hf]; simp)]
  have hE : evalE s p ts = 1 := by rw [evalE, if_neg (by rw [hf]; simp)]
  refine K_ret2' (rv := .cell 6 73) (rv' := .cell 7 30) rfl () (Sel.all _) (.cell (R := rV) ty73V Sr zS Sr) (.cell (R := rInt) ty30 Sr zS Sr) (B := tSl (rSl rValue) (evalR s p ts)) (B' := tV (.int .i64 (evalE s p ts))) (Frz.sub ?_) (Frz.sub (Sub.int hE.symm)) Sr
  rw [hR]
  exact rvnil_sub
 try simp only [NF] at h24
 have hv1 : vldM s p = true := by simpa using h24.1
 have hlen : ts.length = s.Tables.length := by have := h24.2; omega
 refine J_skip (J_seq (Jr (Jm rfl (Js rfl (step_len_sl underlying61 Sr) (Jm rfl ?_)))))
 refine JL_nil (J_block ?_)
 refine J_loopL (σ := Nat) (fun i => i ≤ ts.length ∧ ∀ k, k < i → (!((nth ts k).any fun row => !fitsM (nth s.Tables k) row)) = true) (fun i => upd (upd (upd (upd (upd (upd (upd (upd env0 2 (tSl (rSl (rSl rValue)) ts)) 3 (tPtr rSchema s)) 4 (tPtr (rPlan (n + 1)) p)) 6 (tAt b6 0)) 7 (tAt b7 0)) 25 (tSl (rSl (rSl rValue)) ts)) 26 (tV (.int .i64 ts.length))) 27 (tV (.int .i64 i))) (fun i => [box b7 30 rInt 0, box b6 73 rV (.slice none 0 0)]) (fun i => ts.length - i) 0 ⟨by omega, fun k hk => by omega⟩ (zU) (LSub.rfl) ?_
 rintro i ⟨hi, hv⟩
 refine Jr (Js rfl (step_lss Sr Sr) (JL_nil (J_seq ?_)))
 refine J_cond Sr (fun h28 => ?_) (fun h28 => ?_)
 ·
  try simp only [NF] at h28
  have hlt : i < ts.length := by omega
  have hlt3 : i < s.Tables.length := by omega
  refine J_skip (J_seq (J_block (Jr (Jm rfl ?_))))
  refine Js rfl (step_indexAddr_sl (i := i) underlying61 ty73 Sr Sr (by rfl) (gb (by exact hlt))) ?_
  refine Jl rfl ty73 Sr ?_
  refine Jx rfl (step_alloc (fun w => zeroValue3 w) zr3) fun b8 => ?_
  refine Ju (step_store_box ty3 Sr Sr zS) fun _ => ?_
  refine JL_freeze (t := 8) (Sel.take (Sel.none _)) Frz.box ?_
  refine Ja rfl (JL_nil (Jr (Jm rfl (Js rfl (step_makeFunc (As := [_, _]) ⟨Sr, Sr, trivial⟩) ?_))))
  refine Js rfl (step_call0 (ContainsFuncRows_spec (nth ts i) (by have := hl _ (nth_mem hlt); omega) 131 [tPtr rSchema s, tPtr rInt (i : Int)] (fun row => !fitsM (nth s.Tables i) row) (fun x hx => evalF1_spec s i hlt3 x (by have := hr _ (nth_mem hlt) x hx; omega)) call131) ⟨Sr, Sr, trivial⟩ call130) ?_
  refine JL_nil ?_
  refine J_cond Sr (fun h34 => ?_) (fun h34 => ?_)
  ·
   try simp only [NF] at h34
   have hft : ((nth ts i).any fun row => !fitsM (nth s.Tables i) row) = true := h34
   refine Jr ?_
   refine Ju (step_store_box (R := rV) ty73V Sr (Sub.rV rfl) zS) fun _ => ?_
   refine Ju (step_store_box ty30 Sr Sr zS) fun _ => ?_
   refine JL_nil (J_ret ?_)
   have hf : evalOk s p ts = false := by
    have : tabsM s ts = false := rall_f hlt (by rw [hft]; rfl)
    rw [evalOk, this, Bool.and_false]
   have hR : evalR s p ts = [] := by rw [evalR, if_neg (by rw [hf]; simp)]
   have hE : evalE s p ts = 1 := by rw [evalE, if_neg (by rw [hf]; simp)]
   refine K_ret2' (rv := .cell 6 73) (rv' := .cell 7 30) rfl () (Sel.all _) (.cell (R := rV) ty73V Sr zS Sr) (.cell (R := rInt) ty30 Sr zS Sr) (B := tSl (rSl rValue) (evalR s p ts)) (B' := tV (.int .i64 (evalE s p ts))) (Frz.sub ?_) (Frz.sub (Sub.int hE.symm)) Sr
   rw [hR]
   exact rvnil_sub
  try simp only [NF] at h34
  have hft : (!((nth ts i).any fun row => !fitsM (nth s.Tables i) row)) = true := by rw [Bool.not_eq_true']; simpa using h34
  refine J_skip (J_region (Js rfl (step_add Sr Sr z6) (Jm rfl (JL_nil ?_))))
  refine K_againL (σ := Nat) (s := i) (i + 1) zO ⟨by omega, fun k hk => by by_cases e : k = i; exact e ▸ hft; exact hv k zG⟩ (zU) (LSub.rfl)
 try simp only [NF] at h28
 have hall : tabsM s ts = true := rall_t (fun k hk => hv k zG)
 have hok : evalOk s p ts = true := by rw [evalOk, hv1, hall]; simp; omega
 have htt := (vk1 (Bool.and_eq_true_iff.1 hv1).2 h1).1
 have htt : 0 ≤ p.Table ∧ p.Table < ts.length := ⟨htt.1, by omega⟩
 have htn : p.Table.toNat < ts.length := by omega
 have hsl := setR_len (nth ts p.Table.toNat)
 have hl4 := hl _ (nth_mem htn)
 have hrr : ∀ i, (nth (setR (nth ts p.Table.toNat)) i).length ≤ 1000000 := fun i => by
  by_cases hi : i < (setR (nth ts p.Table.toNat)).length
  ·
   exact hr _ (nth_mem htn) _ (setR_sub (nth_mem hi))
  rw [nth_out hi]; exact Nat.zero_le _
 refine J_exit (Jr (Js rfl (step_makeFunc (As := [_, _]) ⟨Sr, Sr, trivial⟩) ?_))
 refine JL_defer (f := 133) (cap := [.pointer (some ⟨b6, 0, none⟩), .pointer (some ⟨b7, 0, none⟩)]) cloV2_sub ?_
 refine JL_nil (Jr (Jm rfl (Js rfl (step_call0 (kinds_spec ) trivial call106) (Js rfl (step_build (x := (⟨ts, kindsM⟩ : Gev)) (zs := [[Value.slice none 0 0], [Value.map none]]) so187 (fun w => zeroValue187 w) ⟨Sr, Sr, trivial⟩ ⟨⟨Sr, rfl⟩, ⟨Sr, rfl⟩, trivial⟩) (Js rfl (step_box (R := rev) Sr) ?_)))))
 refine Ja rfl (JL_nil (J_seq (Jr (Jm rfl (Jl rfl ty46 Sr ?_)))))
 refine Jx rfl (step_call (Sel.none _) (evalTab_spec ⟨ts, kindsM⟩ rfl n p h1 hn htt (hl _ (nth_mem htn)) (hr _ (nth_mem htn))) ⟨Sr, Sr, trivial⟩ call134) fun v43 => ?_
 refine JL_freeze (t := 43) (A' := tSl (rSl rValue) (setR (nth ts p.Table.toNat))) (Sel.take (Sel.none _)) Frz.own ?_
 refine Js rfl (step_len_sl underlying73 Sr) (Jm rfl (JL_nil (J_block ?_)))
 refine J_loopL (σ := Nat × Value) (fun ⟨k, vr⟩ => k ≤ (setR (nth ts p.Table.toNat)).length) (fun ⟨k, vr⟩ => upd (upd (upd (upd (upd env0 6 (tAt b6 0)) 7 (tAt b7 0)) 43 (tSl (rSl rValue) (setR (nth ts p.Table.toNat)))) 44 (tV (.int .i64 (setR (nth ts p.Table.toNat)).length))) 45 (tV (.int .i64 k))) (fun ⟨k, vr⟩ => [own 22 (rSl rValue) vr ((setR (nth ts p.Table.toNat)).take k), box b7 30 rInt 0, box b6 73 rV vr]) (fun ⟨k, vr⟩ => (setR (nth ts p.Table.toNat)).length - k) (0, .slice none 0 0) (by exact Nat.zero_le _) (zU) (LSub.nilown) ?_
 rintro ⟨k, vr⟩ hk
 try dsimp only at hk
 refine Jr (Js rfl (step_lss Sr Sr) (JL_nil (J_seq ?_)))
 refine J_cond Sr (fun h46 => ?_) (fun h46 => ?_)
 ·
  try simp only [NF] at h46
  have hlk : k < (setR (nth ts p.Table.toNat)).length := by omega
  refine J_skip (J_seq (J_block (Jr ?_)))
  refine Js rfl (step_indexAddr_sl (i := k) underlying73 ty22 Sr Sr (by rfl) (gb (by exact hlk))) ?_
  refine Jl rfl ty22 Sr (Ja rfl (JL_nil ?_))
  refine J_drawX [⟨1, [12], 0⟩, ⟨2, [50], 0⟩, ⟨3, [51], 0⟩, ⟨0, [6], 1⟩, ⟨4, [49, 52], 2⟩, ⟨5, [6, 53], 2⟩] rfl (by kernel_rfl) ?_
  refine JX_step rfl rfl rfl rfl (fun _ => step_move Sr) ?_
  refine JX_step rfl rfl rfl rfl (fun _ => step_call0 (CloneRowI_spec _ (by have := hrr k; omega)) ⟨Sr, trivial⟩ call135) ?_
  refine JX_step rfl rfl rfl rfl (fun _ => step_literal (ys := [_]) underlying73 el22 ⟨rfl, Sr, trivial⟩ rfl (by decide)) ?_
  refine JX_look rfl rfl rfl rfl (step_load_box ty73V Sr zS) ?_
  refine JX_stepX rfl rfl rfl rfl (step_append underlying73 el22 Sr Sr zS (by simp only [List.length_append, List.length_cons, List.length_nil, List.length_take]; omega) (by simp only [List.length_append, List.length_cons, List.length_nil, List.length_take]; omega)) fun v53 => ?_
  refine JX_stepU rfl rfl rfl (step_store_box (R := rV) ty73V Sr Sr zS) fun _ => ?_
  refine JX_nil (J_region (Js rfl (step_add Sr Sr z6) (Jm rfl (JL_nil ?_))))
  refine K_againL (σ := Nat × Value) (s := (k, vr)) (k + 1, v53) zO (by show k + 1 ≤ _; omega) (zU) (.c zS (SPs.of (A := own 22 (rSl rValue) v53 ((setR (nth ts p.Table.toNat)).take k ++ [nth (setR (nth ts p.Table.toNat)) k])) (by rw [takeB hlk])) (zL))
 try simp only [NF] at h46
 obtain rfl : k = (setR (nth ts p.Table.toNat)).length := by omega
 refine J_exit (Jr ?_)
 refine Js rfl (step_load_box ty73V Sr zS) ?_
 refine Ju (step_store_box (R := rV) ty73V Sr Sr zS) fun _ => ?_
 refine Ju (step_store_box ty30 Sr Sr zS) fun _ => ?_
 refine JL_nil (J_ret ?_)
 have hR : evalR s p ts = setR (nth ts p.Table.toNat) := by rw [evalR, if_pos hok]
 have hE : evalE s p ts = 0 := by rw [evalE, if_pos hok]
 refine K_lsub (L' := [own 22 (rSl rValue) vr (setR (nth ts p.Table.toNat)), box b7 30 rInt 0, box b6 73 rV vr]) (.c zS (SPs.of (A := own 22 (rSl rValue) vr ((setR (nth ts p.Table.toNat)).take (setR (nth ts p.Table.toNat)).length)) (by rw [List.take_length])) (zL)) ?_
 refine K_deferNil (call133 _) (recNil _ _) ?_
 refine K_ret2' (rv := .cell 6 73) (rv' := .cell 7 30) rfl () (Sel.all _) (.cell (R := rV) ty73V Sr zS Sr) (.cell (R := rInt) ty30 Sr zS Sr) (B := tSl (rSl rValue) (evalR s p ts)) (B' := tV (.int .i64 (evalE s p ts))) (Frz.own' hR.symm) (Frz.sub (Sub.int hE.symm)) Sr
open Go
def InE (h : PH) (e : Nat) (v : Value) : Prop := ∀ b off len cap, v = .slice (some ⟨b, off, none⟩) len cap → 0 < len → len ≤ cap ∧ ∃ c fz, h b = some (.cells c e fz)
def tSlE {α : Type} (e : Nat) (R : Rp α) (xs : List α) : Ty where
  p := fun h v => (tSl R xs).p h v ∧ InE h e v
  mono := fun l ⟨a, b⟩ => ⟨(tSl R xs).mono l a, fun b' off len cap e1 e2 => let ⟨hl, c, fz, hb⟩ := b b' off len cap e1 e2; ⟨hl, c, fz, l _ _ hb⟩⟩
def rSlE {α : Type} (e : Nat) (R : Rp α) : Rp (List α) := rT (tSlE e R) (by rintro h x v ⟨⟨ao, cap, rfl, _⟩, _⟩; rfl)
theorem Sub.nilslE {α : Type} {R : Rp α} {e c : Nat} : Sub (tV (.slice none 0 c)) (tSlE e R ([] : List α)) := fun h v ev => ⟨Sub.nilsl h v ev, fun b off len cap e1 _ => by rw [show v = .slice none 0 c from ev] at e1; cases e1⟩
/-- Elements of the same cells, seen more weakly. -/
theorem tSl.weak {α : Type} {R R' : Rp α} {xs : List α} (hk : R'.k = R.k) (hr : ∀ h x cs, R.rel h x cs → R'.rel h x cs) : Sub (tSl R xs) (tSl R' xs) := fun h v ⟨ao, cap, e, H⟩ =>
  ⟨ao, cap, e, fun hn => let ⟨b, off, ea, H'⟩ := H hn; ⟨b, off, ea, fun i x hx => let ⟨cs, H1, r⟩ := H' i x hx; ⟨cs, hk ▸ H1, hr _ _ _ r⟩⟩⟩
theorem Sub.ofEE {α : Type} {e e' : Nat} {R : Rp α} {xs : List (List α)} : Sub (tSlE e (rSlE e' R) xs) (tSl (rSl R) xs) := fun h v a =>
  tSl.weak (R := rSlE e' R) (R' := rSl R) _root_.rfl (fun h x cs ⟨u, e1, e2⟩ => ⟨u, e1, e2.1⟩) h v a.1
theorem Frz.ownE {α : Type} {e : Nat} {R : Rp α} {v : Value} {xs : List α} {S : List SP} : Frz (Lg.own e R v xs :: S) (rV.ty v) (tSlE e R xs) := fun h m u d hs hv => by
  refine ⟨Frz.own h m u d hs hv, ?_⟩
  obtain ⟨m1, m2, d12, em, ho, _⟩ := hs
  subst em; have hv := hv.1; subst hv
  intro b off len cap e1 e2
  rcases ho with ⟨rfl, rfl, rfl⟩ | ⟨g, cap', cur, rfl, rfl, hlc, _, _, _⟩
  · cases e1
  · have e3 := Value.slice.inj e1
    have e4 := congrArg Addr.block (Option.some.inj e3.1)
    simp only at e4
    subst e4
    have hd := PH.disj_join'.1 d
    refine ⟨by rw [← e3.2.1, ← e3.2.2]; exact hlc, cur, (0, 0), PH.le_join_right d _ _ (PH.le_join_left _ _ _ _ (PH.one_same _ _))⟩
theorem Frz.ownE' {α : Type} {e : Nat} {R : Rp α} {v : Value} {xs ys : List α} {S : List SP} (h : xs = ys) : Frz (Lg.own e R v xs :: S) (rV.ty v) (tSlE e R ys) := h ▸ Frz.ownE
open Go Go.Proofs Go.Proofs.Tryz
theorem Fun1.to {P : Program} {f : Nat} {As : List Ty} {A B : Ty} (h : Fun1 P f As A) (s : Sub A B) : Fun1 P f As B := fun vs h0 m r w ha sp st => by
  refine (h vs h0 m r w ha sp st).mono ?_
  rintro e w' ⟨x', v, h', m', he, l, s1, st', hv⟩
  exact ⟨x', v, h', m', he, l, s1, st', s _ _ hv⟩
theorem Sub.tup2 {A B A' B' : Ty} (h1 : Sub A A') (h2 : Sub B B') : Sub (tTup [A, B]) (tTup [A', B']) := fun h v ⟨vs, e, ha⟩ => by
  obtain ⟨v1, v2, rfl, a1, a2⟩ : ∃ v1 v2, vs = [v1, v2] ∧ A.p h v1 ∧ B.p h v2 := by
    rcases vs with _ | ⟨v1, _ | ⟨v2, _ | ⟨v3, vs⟩⟩⟩
    · exact ha.elim
    · exact ha.2.elim
    · exact ⟨v1, v2, _root_.rfl, ha.1, ha.2.1⟩
    · exact ha.2.2.elim
  exact ⟨_, e, h1 _ _ a1, h2 _ _ a2, trivial⟩
theorem eq_valueQ (a b : GValue) (w : World) : (Op.equal 87 (kvV a) (kvV b)).run prog w = .ok (decide (a = b)) w := by
  simp only [Op.equal, Op.maxDepth]; exact eq_value a b w
theorem keyV : KeyT prog 87 kvV where
  chk := fun b a w => by
    have u3 := underlying3
    have u9 := underlying9
    have a3 := isAgg3
    have a9 := isAgg9
    have z3 := sizeOf3
    have z9 := sizeOf9
    have h3 : ∀ (n : Nat) (x : Int) (w : World), (Instr.checkKey b (n + 1) 3 (.int .i64 x)).run prog w = .ok () w := fun n x w => by simp [Instr.checkKey, run_underlying u3]
    have h9 : ∀ (n : Nat) (x : ByteArray) (w : World), (Instr.checkKey b (n + 1) 9 (.string x)).run prog w = .ok () w := fun n x w => by simp [Instr.checkKey, run_underlying u9]
    have key : ∀ n, (Instr.checkKey b (n + 1 + 1) 87 (kvV a)).run prog w = .ok () w := fun n => by
      rw [Instr.checkKey]
      simp only [Sem.run_bind, run_underlying underlying87, Result.andThen_ok]
      rw [← Array.forIn_toList]
      simp [part, Sem.run_bind, a3, a9, z3, z9, h3, h9]
    exact key 9998
  find := find_asking underlying87 (fun a b => rfl) eq_valueQ
  bits := fun a => by
    have e : (a.Text == a.Text) = true := by rw [beq_toListBytes]; simp
    show Instr.sameBits (9999 + 1) _ _ = true
    simp [Instr.sameBits, e]
section
variable {κ β : Type} [DecidableEq κ] {kv : κ → Value} {R : Rp β}
variable {C : Cx} {E : Env} {L : List SP} {d : Option Nat} {ty : Nat} {pos : String} {af : Array Edge} {g : Option (Nat × Bool)}
theorem step_len_mapV {T kt e : Nat} {x : Operand} {v : Value} {m : List (κ × β)} {S : List SP} (hu : C.P.underlying T = some (.map kt e)) (hx : Sub (opTy E x) (tV v)) (sel : Sel L [mapOwn kv R v m] S) :
    Step1 C ⟨d, .call { callee := .builtin .len, args := #[x], argTypes := #[T] }, ty, pos, af, g⟩ E L (tV (.int .i64 m.length)) :=
  Step.of_run (by intro c h; cases h) fun a w h mm l sp st fr => by
    have hv : a.eval x = v := fr.get hx
    obtain ⟨m1, m2, d12, rfl, ⟨r, es, rfl, rfl, hr⟩, s2⟩ := sel.one.1 st
    have hb := sp.heap_own
    have hl := hr.length
    exact ⟨(), .int .i64 m.length, w, h, _, by simp [execOp, resolve, invoke, builtin, Builtin.len_, hv, run_underlying hu, goInt, run_getObj_map hb, Sem.run_bind, hl], HL.refl, sp, st, rfl⟩
end
structure GStatsW where
  Rows : Value
  Distinct : Value
def zStatsW : GStatsW := { Rows := Value.slice none 0 0, Distinct := Value.slice none 0 0 }
def fsStatsW : List (SF GStatsW) := [⟨Value, 36, rV, GStatsW.Rows⟩, ⟨Value, 58, rV, GStatsW.Distinct⟩]
abbrev rStatsW : Rp GStatsW := rStruct fsStatsW
theorem ty36V60 : TyOf prog 36 rV := ⟨fun w => isAgg36 w, fun w => sizeOf36 w⟩
theorem ty58V60 : TyOf prog 58 rV := ⟨fun w => isAgg58 w, fun w => sizeOf58 w⟩
theorem ty60W : TyOf prog 60 rStatsW := ⟨fun w => isAgg60 w, fun w => sizeOf60 w⟩
theorem so60W : StructOf prog 60 fsStatsW := ⟨⟨_, underlying60, ⟨rfl, rfl, ty36V60, by decide, ⟨rfl, rfl, ty58V60, by decide, trivial⟩⟩⟩, ty60W⟩
theorem zr60W : ∀ h, (rStatsW.ty zStatsW).p h (.agg #[Value.slice none 0 0, Value.slice none 0 0]) := fun _ => ⟨_, ⟨[Value.slice none 0 0], _, rfl, ⟨rfl, rfl⟩, ⟨[Value.slice none 0 0], _, rfl, ⟨rfl, rfl⟩, rfl⟩⟩, rfl⟩
/-! ### Statistics in blocks of known element types -/
def fsStatsE : List (SF GStats) := [⟨List Int, 36, (rSlE 3 rInt), GStats.Rows⟩, ⟨List (List Int), 58, (rSlE 36 (rSlE 3 rInt)), GStats.Distinct⟩]
abbrev rStatsE : Rp GStats := rStruct fsStatsE
theorem ty36E : TyOf prog 36 (rSlE 3 rInt) := ⟨fun w => isAgg36 w, fun w => sizeOf36 w⟩
theorem ty58E : TyOf prog 58 (rSlE 36 (rSlE 3 rInt)) := ⟨fun w => isAgg58 w, fun w => sizeOf58 w⟩
theorem ty60E : TyOf prog 60 rStatsE := ⟨fun w => isAgg60 w, fun w => sizeOf60 w⟩
theorem so60E : StructOf prog 60 fsStatsE := ⟨⟨_, underlying60, ⟨rfl, rfl, ty36E, by decide, ⟨rfl, rfl, ty58E, by decide, trivial⟩⟩⟩, ty60E⟩
theorem zr36E : ∀ h, ((rSlE 3 rInt).ty []).p h (Value.slice none 0 0) := fun h => Sub.nilslE h _ rfl
theorem el36E : ElT prog 36 (rSlE 3 rInt) 24 [] := ⟨ty36E, by decide, t36, (Value.slice none 0 0), by kernel_rfl, by kernel_rfl, by kernel_rfl, by kernel_rfl, zr36E⟩
theorem zr60E : ∀ h, (rStatsE.ty zStats).p h (.agg #[Value.slice none 0 0, Value.slice none 0 0]) := fun h => ⟨_, ⟨[Value.slice none 0 0], _, rfl, ⟨_, rfl, Sub.nilslE h _ rfl⟩, ⟨[Value.slice none 0 0], _, rfl, ⟨_, rfl, Sub.nilslE h _ rfl⟩, rfl⟩⟩, rfl⟩
theorem statsE_rel {h : PH} {x : GStats} {cs : List Value} (r : rStatsE.rel h x cs) : rStats.rel h x cs := by
  obtain ⟨c0, _, rfl, ⟨v, e, q0⟩, c1, _, rfl, ⟨u, e2, q1⟩, rfl⟩ := r
  exact ⟨_, _, rfl, ⟨v, e, q0.1⟩, _, _, rfl, ⟨u, e2, Sub.ofEE h u q1⟩, rfl⟩
theorem Sub.statsE {x : GStats} : Sub (rStatsE.ty x) (rStats.ty x) := fun h v ⟨cs, r, e⟩ => ⟨cs, statsE_rel r, e⟩
theorem Frz.stats {b : Nat} {vr vd : Value} {rs : List Int} {ds : List (List Int)} {S : List SP} :
    Frz (Lg.box b 60 rStatsW ⟨vr, vd⟩ :: Lg.own 3 rInt vr rs :: Lg.own 36 (rSlE 3 rInt) vd ds :: S) (tAt b 0) (tPtr rStatsE ⟨rs, ds⟩) :=
  Frz.upS fun h m cs d st r => by
    have le := PH.le_join_left h m
    obtain ⟨m1, m2, d12, e, ho, st2⟩ := st
    have hd := PH.disj_join'.1 (e ▸ d)
    obtain ⟨c0, _, rfl, q0, c1, _, rfl, q1, rfl⟩ := r
    obtain ⟨rfl, w0⟩ := (show rV.rel h vr c0 from q0)
    obtain ⟨rfl, w1⟩ := (show rV.rel h vd c1 from q1)
    have hk : (tSlE 3 rInt rs).p (h.join m) vr := by
      have := Frz.ownE (S := []) h m1 vr hd.1 ⟨m1, PH.emp, PH.disj_emp _, (PH.join_emp _).symm, ho, rfl⟩ ⟨rfl, w0⟩
      refine (tSlE 3 rInt rs).mono ?_ this
      subst e; rw [← PH.join_assoc]; exact PH.le_join_left _ _
    have hdv : (tSlE 36 (rSlE 3 rInt) ds).p (h.join m) vd := by
      have := Frz.ownE h m2 vd hd.2 st2 ⟨rfl, w1⟩
      refine (tSlE 36 (rSlE 3 rInt) ds).mono ?_ this
      subst e; rw [PH.join_comm d12, ← PH.join_assoc]; exact PH.le_join_left _ _
    exact ⟨_, _, rfl, ⟨_, rfl, hk⟩, _, _, rfl, ⟨_, rfl, hdv⟩, rfl⟩
/-! ### What Statistics reckons -/
def seenS (c : Nat) (m : List (GValue × Bool)) (r : LV) : List (GValue × Bool) := if (nth r c).Kind ≠ 0 then mput m (nth r c) true else m
def seenM (rows : List LV) (c : Nat) : List (GValue × Bool) := rows.foldl (seenS c) []
def dstN (rows : List LV) (c : Nat) : Int := ((seenM rows c).length : Int)
def statD (rows : List LV) (n : Nat) : List Int := (List.range n).map fun c => dstN rows c
def statI (rows : List LV) (n c : Nat) : List Int := (List.range n).map fun k => if k < c then dstN rows k else 0
theorem statI_len (rows : List LV) (n c : Nat) : (statI rows n c).length = n := by simp [statI]
theorem statI_0 (rows : List LV) (n : Nat) : statI rows n 0 = List.replicate n 0 := by
  refine List.ext_getElem (by simp [statI]) fun i h1 h2 => ?_
  simp [statI]
theorem statI_all (rows : List LV) (n : Nat) : statI rows n n = statD rows n := by
  unfold statI statD
  refine List.map_congr_left fun k hk => ?_
  rw [if_pos (List.mem_range.1 hk)]
theorem statI_set {rows : List LV} {n c : Nat} (h : c < n) : (statI rows n c).set c (dstN rows c) = statI rows n (c + 1) := by
  refine List.ext_getElem (by simp [statI]) fun i h1 h2 => ?_
  rw [List.getElem_set]
  simp only [statI, List.getElem_map, List.getElem_range]
  by_cases hi : c = i
  · subst hi; simp
  · rw [if_neg hi]
    by_cases h3 : i < c
    · rw [if_pos h3, if_pos (by omega)]
    · rw [if_neg h3, if_neg (by omega)]
def planT (s : GSchema) (t : Nat) : GPlan := GPl.mk 1 (t : Int) [] [] [] 0 0 (nth s.Tables t).Attrs
def statOk (s : GSchema) (ts : List (List LV)) : Bool := decide ((ts.length : Int) = s.Tables.length) && (List.range s.Tables.length).all fun t => evalOk s (planT s t) ts
def statRows (ts : List (List LV)) (i : Nat) : List Int := (List.range i).map fun t => ((setR (nth ts t)).length : Int)
def statDst (s : GSchema) (ts : List (List LV)) (i : Nat) : List (List Int) := (List.range i).map fun t => statD (setR (nth ts t)) (nth s.Tables t).Attrs.length
def statM (s : GSchema) (ts : List (List LV)) : GStats := if statOk s ts = true then ⟨statRows ts s.Tables.length, statDst s ts s.Tables.length⟩ else zStats
def statE (s : GSchema) (ts : List (List LV)) : Int := if statOk s ts = true then 0 else 1
theorem statRows_succ (ts : List (List LV)) (i : Nat) : statRows ts (i + 1) = statRows ts i ++ [((setR (nth ts i)).length : Int)] := by simp [statRows, List.range_succ]
theorem statDst_succ (s : GSchema) (ts : List (List LV)) (i : Nat) : statDst s ts (i + 1) = statDst s ts i ++ [statD (setR (nth ts i)) (nth s.Tables i).Attrs.length] := by simp [statDst, List.range_succ]
theorem seen_take {rows : List LV} {c j : Nat} (h : j < rows.length) : seenM (rows.take (j + 1)) c = seenS c (seenM (rows.take j) c) (nth rows j) := fold_take h
theorem mput_len {κ β : Type} [DecidableEq κ] (m : List (κ × β)) (q : κ) (y : β) : (mput m q y).length ≤ m.length + 1 := by
  induction m with
  | nil => simp [mput]
  | cons a m ih =>
    obtain ⟨k, x⟩ := a
    unfold mput
    split <;> simp <;> omega
theorem seen_len (rows : List LV) (c : Nat) : (seenM rows c).length ≤ rows.length := by
  have : ∀ (l : List LV) (m : List (GValue × Bool)), (l.foldl (seenS c) m).length ≤ m.length + l.length := by
    intro l
    induction l with
    | nil => intro m; simp
    | cons a l ih =>
      intro m
      have h1 := ih (seenS c m a)
      have h2 : (seenS c m a).length ≤ m.length + 1 := by
        unfold seenS
        split
        · exact mput_len _ _ _
        · omega
      simp only [List.foldl_cons, List.length_cons]; omega
  have := this rows []
  simpa [seenM] using this
set_option maxHeartbeats 8000000 in
theorem StatisticsE_spec (s : GSchema) (hz : SchSz s) (ha : ∀ t ∈ s.Tables, t.Attrs.length ≤ 1000) (ts : List (List LV)) (hl : ∀ t ∈ ts, t.length ≤ 4000) (hr : ∀ t ∈ ts, ∀ r ∈ t, r.length ≤ 1000000) : Fun1 prog 36 [rSchema.ty s, tSl (rSl (rSl rValue)) ts] (tTup [rStatsE.ty (statM s ts), tV (.int .i64 (statE s ts))]) := by
 refine Spec.enter func36 rfl rfl fun h0 w0 fr0 => ?_
 have htl := hz.tabs
 refine Jr (Js rfl (step_box (R := rSchema) Sr) ?_)
 refine Jx rfl (step_alloc (fun w => zeroValue60 w) zr60E) fun b4 => ?_
 refine Ja rfl (JL_nil (J_seq (Jr (Jm rfl (Js rfl (step_len_sl underlying61 Sr) ?_)))))
 refine Js rfl (step_fieldAddr so41 Sr rfl) (Jl rfl ty39 Sr (Js rfl (step_len_sl underlying39 Sr) (Js rfl (step_neq Sr Sr) (JL_nil ?_))))
 refine J_cond Sr (fun h23 => ?_) (fun h23 => ?_)
 ·
  try simp only [NF] at h23
  refine Jr ?_
  refine Js rfl (step_build (x := zStats) (zs := [[Value.slice none 0 0], [Value.slice none 0 0]]) so60E (fun w => zeroValue60 w) trivial ⟨fun h => ⟨_, rfl, Sub.nilslE h _ rfl⟩, fun h => ⟨_, rfl, Sub.nilslE h _ rfl⟩, trivial⟩) ?_
  refine Ju (step_store_box ty60E Sr Sr zS) fun _ => ?_
  refine Ja rfl (JL_nil (J_ret ?_))
  have hf : statOk s ts = false := by simp [statOk, show ¬ (ts.length : Int) = s.Tables.length by omega]
  have hR : statM s ts = zStats := by rw [statM, if_neg (by rw [hf]; simp)]
  have hE : statE s ts = 1 := by rw [statE, if_neg (by rw [hf]; simp)]
  refine K_ret2' (rv := .cell 4 60) (rv' := .tmp 5) rfl () (Sel.all _) (.cell (R := rStatsE) ty60E Sr zS Sr) (.tmp Sr) (Frz.sub (Sub.eqT (by rw [hR]))) (Frz.sub (Sub.int (hE.symm))) Sr
 try simp only [NF] at h23
 have hlen : ts.length = s.Tables.length := by omega
 refine J_skip (Jr ?_)
 refine Jx rfl (step_alloc (fun w => zeroValue60 w) zr60W) fun b6 => ?_
 refine JL_nil (J_seq (Jr (Js rfl (step_fieldAddr so41 Sr rfl) (Jl rfl ty39 Sr (Js rfl (step_len_sl underlying39 Sr) ?_)))))
 refine Jm rfl (JL_nil (J_block ?_))
 refine J_loopL (σ := Nat × Value × Value) (fun ⟨i, vr, vd⟩ => i ≤ s.Tables.length ∧ ∀ k, k < i → evalOk s (planT s k) ts = true) (fun ⟨i, vr, vd⟩ => upd (upd (upd (upd (upd (upd (upd env0 1 (tSl (rSl (rSl rValue)) ts)) 2 (tPtr rSchema s)) 4 (tAt b4 0)) 6 (tAt b6 0)) 26 (tSl rTable s.Tables)) 27 (tV (.int .i64 s.Tables.length))) 28 (tV (.int .i64 i))) (fun ⟨i, vr, vd⟩ => [box b6 60 rStatsW ⟨vr, vd⟩, own 3 rInt vr (statRows ts i), own 36 (rSlE 3 rInt) vd (statDst s ts i), box b4 60 rStatsE zStats]) (fun ⟨i, vr, vd⟩ => s.Tables.length - i) (0, .slice none 0 0, .slice none 0 0) ⟨by exact Nat.zero_le _, fun k hk => absurd hk (Nat.not_lt_zero _)⟩ (zU) (LSub.trans (LSub.trans (LSub.nilown (e := 36) (R := rSlE 3 rInt)) (LSub.nilown (e := 3) (R := rInt))) (LSub.cons (Sel.skip (Sel.skip (Sel.take (Sel.none _)))) SPs.rfl (LSub.cons (Sel.take (Sel.none _)) SPs.rfl (LSub.cons (Sel.take (Sel.none _)) SPs.rfl (LSub.cons (Sel.take (Sel.none _)) SPs.rfl LSub.nil))))) ?_
 rintro ⟨i, vr, vd⟩ ⟨hi, hv⟩
 refine Jr (Js rfl (step_lss Sr Sr) (JL_nil (J_seq ?_)))
 refine J_cond Sr (fun h29 => ?_) (fun h29 => ?_)
 ·
  try simp only [NF] at h29
  have hlt : i < s.Tables.length := by omega
  have hlts : i < ts.length := by omega
  have hat := ha _ (nth_mem hlt)
  have hpz : PlSz (0 + 1) (planT s i) := ⟨by show (0 : Nat) ≤ _; omega, by show (0 : Nat) ≤ _; omega, by show (0 : Nat) ≤ _; omega, hat, fun q hq => by cases hq⟩
  have hl4 := hl _ (nth_mem hlts)
  have hrl : (statRows ts i).length = i := by simp [statRows]
  have hdl : (statDst s ts i).length = i := by simp [statDst]
  refine J_skip (J_seq (J_block (Jr (Jm rfl ?_))))
  refine Js rfl (step_indexAddr_sl (i := i) underlying39 ty76 Sr Sr (by rfl) (gb (by exact hlt))) ?_
  refine Jl rfl ty76 Sr ?_
  refine Jx rfl (step_alloc (fun w => zeroValue76 w) zr76) fun b8 => ?_
  refine Ja rfl ?_
  refine Ju (step_store_box ty76 Sr Sr zS) fun _ => ?_
  refine JL_freeze (t := 8) (Sel.take (Sel.none _)) Frz.box ?_
  refine JL_nil (Jr (Jm rfl (Js rfl (step_fieldAddr so76 Sr rfl) (Jl rfl ty44 Sr (Js rfl (step_build (x := (planT s i : GPlan)) (zs := [[Value.int .i64 0], [Value.int .i64 0], [Value.slice none 0 0], [Value.slice none 0 0], [Value.slice none 0 0], [Value.int .i64 0], [Value.int .i64 0], [Value.slice none 0 0]]) (so46 (n := 0)) (fun w => zeroValue46 w) ⟨Sr, Sr, Sr, trivial⟩ ⟨⟨Sr, rfl⟩, ⟨Sr, rfl⟩, fun _ => ⟨_, rfl, none, ⟨0, Nat.le_refl _⟩, rfl, fun q => absurd rfl q⟩, fun _ => ⟨_, rfl, none, ⟨0, Nat.le_refl _⟩, rfl, fun q => absurd rfl q⟩, fun _ => ⟨_, rfl, none, ⟨0, Nat.le_refl _⟩, rfl, fun q => absurd rfl q⟩, fun _ => rfl, fun _ => rfl, ⟨Sr, rfl⟩, trivial⟩) ?_)))))
  refine Jx rfl (step_alloc (R := rPlan (0 + 1)) (fun w => zeroValue46 w) zr46) fun b9 => ?_
  refine Ju (step_store_box ty46 Sr Sr zS) fun _ => ?_
  refine JL_freeze (t := 9) (Sel.take (Sel.none _)) Frz.box ?_
  refine JL_nil (J_seq (Jr (Jl rfl ty41 Sr (Jl rfl ty46 Sr (Jm rfl ?_)))))
  refine Js rfl (step_call0 (EvalTab_spec s hz 0 (planT s i) hpz rfl rfl ts hl hr) ⟨Sr, Sr, Sr, trivial⟩ call83) (Jm rfl (Js rfl (step_extract Sr rfl) (Js rfl (step_extract Sr rfl) (Ja rfl (Ja rfl ?_)))))
  refine JL_nil (Jr (Jm rfl (Js rfl (step_eql Sr Sr) (JL_nil ?_))))
  refine J_cond Sr (fun h45 => ?_) (fun h45 => ?_)
  ·
   try simp only [NF] at h45
   have hf : evalOk s (planT s i) ts = false := by
    have h45 : evalE s (planT s i) ts = 1 := h45
    unfold evalE at h45
    split at h45
    ·
     omega
    rename_i q; simpa using q
   refine Jr ?_
   refine Js rfl (step_build (x := zStats) (zs := [[Value.slice none 0 0], [Value.slice none 0 0]]) so60E (fun w => zeroValue60 w) trivial ⟨fun h => ⟨_, rfl, Sub.nilslE h _ rfl⟩, fun h => ⟨_, rfl, Sub.nilslE h _ rfl⟩, trivial⟩) ?_
   refine Jm rfl ?_
   refine Ju (step_store_box ty60E Sr Sr zS) fun _ => ?_
   refine Ja rfl (JL_nil (J_ret ?_))
   have hf : statOk s ts = false := by rw [statOk, rall_f (f := fun t => evalOk s (planT s t) ts) hlt hf, Bool.and_false]
   have hR : statM s ts = zStats := by rw [statM, if_neg (by rw [hf]; simp)]
   have hE : statE s ts = 1 := by rw [statE, if_neg (by rw [hf]; simp)]
   refine K_ret2' (rv := .cell 4 60) (rv' := .tmp 5) rfl () (Sel.all _) (.cell (R := rStatsE) ty60E Sr zS Sr) (.tmp Sr) (Frz.sub (Sub.eqT (by rw [hR]))) (Frz.sub (Sub.int (show evalE s (planT s i) ts = statE s ts by rw [hE]; exact h45))) Sr
  try simp only [NF] at h45
  have hok : evalOk s (planT s i) ts = true := by
   have h45 : ¬ evalE s (planT s i) ts = 1 := h45
   unfold evalE at h45
   split at h45
   ·
    assumption
   omega
  have hrow := (evalOk_in hok).2.2 i hlts
  have hsl := setR_len (nth ts i)
  refine J_skip (Jr (Jm rfl (Jm rfl ?_)))
  refine Js rfl (step_indexAddr_sl (i := i) underlying61 ty73 Sr Sr (by rfl) (gb (by exact hlts))) ?_
  refine Jl rfl ty73 Sr (Js rfl (step_call0 (values_spec (nth ts i)) ⟨Sr, trivial⟩ call85) ?_)
  refine Jx rfl (step_call (Sel.none _) (SortedRows_spec (nth ts i) zG (hr _ (nth_mem hlts))) ⟨Sr, Sr, trivial⟩ call84) fun v53 => ?_
  refine Ja rfl (JL_nil (Jr (Jm rfl ?_)))
  refine Jx rfl (step_call (Sel.take (Sel.none _)) (CompactRows_spec v53 (sortR (nth ts i)) (by rw [sortR_len]; omega) 88 (fun x y hx hy => eqRow_spec x y (hr _ (nth_mem hlts) x ((sortR_perm _).mem_iff.1 hx)) (hr _ (nth_mem hlts) y ((sortR_perm _).mem_iff.1 hy))) call88) ⟨Sr, Sr, trivial⟩ call87) fun v55 => ?_
  refine Ja rfl (JL_nil (J_seq ?_))
  refine K_freeze (t := 12) (A' := tSl (rSl rValue) (setR (nth ts i))) zS (Frz.own' rfl) ?_
  refine J_region (Js rfl (step_fieldAddr so76 Sr rfl) (Jl rfl ty44 Sr (Js rfl (step_len_sl underlying44 Sr) ?_)))
  refine Jx rfl (step_make underlying36 el3 Sr Sr (n := (nth s.Tables i).Attrs.length) rfl zG zG) fun v59 => ?_
  refine Ja rfl (JL_nil (J_seq (Jr (Jm rfl ?_))))
  refine Js rfl (step_len_own underlying36 Sr zS) ?_
  refine Jm rfl (JL_nil (J_block ?_))
  refine J_loopL (σ := Nat) (fun c => c ≤ (nth s.Tables i).Attrs.length) (fun c => upd (upd (upd (upd (upd (upd (upd (upd (upd (upd (upd env0 1 (tSl (rSl (rSl rValue)) ts)) 2 (tPtr rSchema s)) 4 (tAt b4 0)) 6 (tAt b6 0)) 12 (tSl (rSl rValue) (setR (nth ts i)))) 13 (rV.ty v59)) 26 (tSl rTable s.Tables)) 27 (tV (.int .i64 s.Tables.length))) 28 (tV (.int .i64 i))) 61 (tV (.int .i64 ((nth s.Tables i).Attrs.length : Nat)))) 62 (tV (.int .i64 c))) (fun c => [own 3 rInt v59 (statI (setR (nth ts i)) (nth s.Tables i).Attrs.length c), box b6 60 rStatsW ⟨vr, vd⟩, own 3 rInt vr (statRows ts i), own 36 (rSlE 3 rInt) vd (statDst s ts i), box b4 60 rStatsE zStats]) (fun c => (nth s.Tables i).Attrs.length - c) 0 (by exact Nat.zero_le _) (.u (SubE.upd (Sub.int (by rw [List.length_replicate])) (zU))) (.c zS (SPs.of (A := own 3 rInt v59 (List.replicate (nth s.Tables i).Attrs.length 0)) (by rw [statI_0])) (zL)) ?_
  rintro c hc
  refine Jr (Js rfl (step_lss Sr Sr) (JL_nil (J_seq ?_)))
  refine J_cond Sr (fun h63 => ?_) (fun h63 => ?_)
  ·
   try simp only [NF] at h63
   have hlc : c < (nth s.Tables i).Attrs.length := by omega
   refine J_skip (J_seq (J_block (Jr (Jm rfl (Ja rfl ?_)))))
   refine JL_nil (Jr ?_)
   refine Jx rfl (step_makeMap (kv := kvV) (R := rBool)) fun v65 => ?_
   refine Ja rfl (JL_nil (J_seq (Jr (Jm rfl (Js rfl (step_len_sl underlying73 Sr) ?_)))))
   refine Jm rfl (JL_nil (J_block ?_))
   refine J_loopL (σ := Nat) (fun j => j ≤ (setR (nth ts i)).length) (fun j => upd (upd (upd (upd (upd (upd (upd (upd (upd (upd (upd (upd (upd (upd (upd (upd env0 1 (tSl (rSl (rSl rValue)) ts)) 2 (tPtr rSchema s)) 4 (tAt b4 0)) 6 (tAt b6 0)) 12 (tSl (rSl rValue) (setR (nth ts i)))) 13 (rV.ty v59)) 14 (tV (.int .i64 c))) 15 (tV v65)) 26 (tSl rTable s.Tables)) 27 (tV (.int .i64 s.Tables.length))) 28 (tV (.int .i64 i))) 61 (tV (.int .i64 ((nth s.Tables i).Attrs.length : Nat)))) 62 (tV (.int .i64 c))) 66 (tSl (rSl rValue) (setR (nth ts i)))) 67 (tV (.int .i64 (setR (nth ts i)).length))) 68 (tV (.int .i64 j))) (fun j => [mapOwn kvV rBool v65 (seenM ((setR (nth ts i)).take j) c), own 3 rInt v59 (statI (setR (nth ts i)) (nth s.Tables i).Attrs.length c), box b6 60 rStatsW ⟨vr, vd⟩, own 3 rInt vr (statRows ts i), own 36 (rSlE 3 rInt) vd (statDst s ts i), box b4 60 rStatsE zStats]) (fun j => (setR (nth ts i)).length - j) 0 (by exact Nat.zero_le _) (zU) (zL) ?_
   rintro j hj
   refine Jr (Js rfl (step_lss Sr Sr) (JL_nil (J_seq ?_)))
   refine J_cond Sr (fun h69 => ?_) (fun h69 => ?_)
   ·
    try simp only [NF] at h69
    have hlj : j < (setR (nth ts i)).length := by omega
    have hrw := hrow _ (setR_sub (nth_mem hlj))
    refine J_skip (J_seq (J_block (Jr ?_)))
    refine Js rfl (step_indexAddr_sl (i := j) underlying73 ty22 Sr Sr (by rfl) (gb (by exact hlj))) ?_
    refine Jl rfl ty22 Sr (Ja rfl (JL_nil (Jr (Jm rfl (Jm rfl ?_)))))
    refine Js rfl (step_indexAddr_sl (i := c) underlying22 ty87 Sr Sr (by rfl) (gb (by show c < (nth (setR (nth ts i)) j).length; omega))) ?_
    refine Js rfl (step_fieldAddr so87 Sr rfl) (Jl rfl ty3 Sr (Js rfl (step_neq Sr Sr) (JL_nil ?_)))
    refine J_cond Sr (fun h77 => ?_) (fun h77 => ?_)
    ·
     try simp only [NF] at h77
     have h77 : (nth (nth (setR (nth ts i)) j) c).Kind ≠ 0 := h77
     refine J_region (Jm rfl (Jm rfl (Jm rfl ?_)))
     refine Js rfl (step_indexAddr_sl (i := c) underlying22 ty87 Sr Sr (by rfl) (gb (by show c < (nth (setR (nth ts i)) j).length; omega))) ?_
     refine Jl rfl ty87 Sr ?_
     refine Ju (step_mapUpdate (kv := kvV) (R := rBool) keyV underlying142 Sr (Sub.trans Sr Sub.val) Sr zS) fun _ => ?_
     refine JL_nil (J_region (Js rfl (step_add Sr Sr z6) (Jm rfl (JL_nil ?_))))
     refine K_againL (σ := Nat) (s := j) (j + 1) zO (by show j + 1 ≤ _; omega) (zU) (.c zS (SPs.of (A := mapOwn kvV rBool v65 (mput (seenM ((setR (nth ts i)).take j) c) (nth (nth (setR (nth ts i)) j) c) true)) (by rw [seen_take hlj, seenS, if_pos h77])) (zL))
    try simp only [NF] at h77
    have h77 : ¬ (nth (nth (setR (nth ts i)) j) c).Kind ≠ 0 := by simpa using h77
    refine J_skip (J_region (Js rfl (step_add Sr Sr z6) (Jm rfl (JL_nil ?_))))
    refine K_againL (σ := Nat) (s := j) (j + 1) zO (by show j + 1 ≤ _; omega) (zU) (.c zS (SPs.of (A := mapOwn kvV rBool v65 (seenM ((setR (nth ts i)).take j) c)) (by rw [seen_take hlj, seenS, if_neg h77])) (zL))
   try simp only [NF] at h69
   obtain rfl : j = (setR (nth ts i)).length := by omega
   have hsn := seen_len (setR (nth ts i)) c
   refine J_exit (J_region (Jm rfl (Jm rfl (Jm rfl ?_))))
   refine Js rfl (step_len_mapV (kv := kvV) (R := rBool) underlying142 Sr zS) ?_
   refine Js rfl (step_indexAddr_own (i := c) underlying36 ty3 Sr zS Sr (by rfl) (by rw [statI_len]; exact hlc)) ?_
   refine Ju (step_store_own ty3 Sr Sr zS (by rw [statI_len]; exact hlc)) fun _ => ?_
   refine JL_nil (J_region (Js rfl (step_add Sr Sr z6) (Jm rfl (JL_nil ?_))))
   rw [List.take_length]
   refine K_drop (S := [mapOwn kvV rBool v65 (seenM (setR (nth ts i)) c)]) zS ?_
   refine K_againL (σ := Nat) (s := c) (c + 1) zO (by show c + 1 ≤ _; omega) (zU) (.c zS (SPs.of (A := own 3 rInt v59 ((statI (setR (nth ts i)) (nth s.Tables i).Attrs.length c).set c (dstN (setR (nth ts i)) c))) (by rw [← statI_set hlc])) (zL))
  try simp only [NF] at h63
  obtain rfl : c = (nth s.Tables i).Attrs.length := by omega
  refine J_exit (J_seq ?_)
  refine K_freeze (t := 13) (A' := tSlE 3 rInt (statD (setR (nth ts i)) (nth s.Tables i).Attrs.length)) zS (Frz.ownE' (statI_all _ _)) ?_
  refine J_region (Js rfl (step_fieldAddr_own so60W Sr rfl) ?_)
  refine Js rfl (step_load_fld ty36V60 Sr rfl zS) ?_
  refine Jm rfl (Js rfl (step_len_sl underlying73 Sr) ?_)
  refine Js rfl (step_literal (ys := [_]) underlying36 el3 ⟨rfl, Sr, trivial⟩ rfl (by decide)) ?_
  refine Jx rfl (step_append underlying36 el3 Sr Sr zS (by simp only [List.length_append, List.length_cons, List.length_nil]; omega) (by simp only [List.length_append, List.length_cons, List.length_nil]; omega)) fun v95 => ?_
  refine Js rfl (step_fieldAddr_own so60W Sr rfl) ?_
  refine Ju (step_store_fld (R := rV) (y' := ⟨v95, vd⟩) ty36V60 Sr Sr zS (by exact ⟨fun _ _ q => q, rfl, by intro g hg; simp only [List.mem_cons, List.not_mem_nil, or_false] at hg; subst hg; rfl⟩)) fun _ => ?_
  refine JL_nil (J_region (Js rfl (step_fieldAddr_own so60W Sr rfl) ?_))
  refine Js rfl (step_load_fld ty58V60 Sr rfl zS) ?_
  refine Jm rfl ?_
  refine Js rfl (step_literal (ys := [_]) underlying58 el36E ⟨rfl, Sr, trivial⟩ rfl (by decide)) ?_
  refine Jx rfl (step_append underlying58 el36E Sr Sr zS (by simp only [List.length_append, List.length_cons, List.length_nil]; omega) (by simp only [List.length_append, List.length_cons, List.length_nil]; omega)) fun v101 => ?_
  refine Js rfl (step_fieldAddr_own so60W Sr rfl) ?_
  refine Ju (step_store_fld (R := rV) (y' := ⟨v95, v101⟩) ty58V60 Sr Sr zS (by exact ⟨rfl, ⟨fun _ _ q => q, rfl, by intro g hg; cases hg⟩⟩)) fun _ => ?_
  refine JL_nil (J_region (Js rfl (step_add Sr Sr z6) (Jm rfl (JL_nil ?_))))
  refine K_againL (σ := Nat × Value × Value) (s := (i, vr, vd)) (i + 1, v95, v101) zO ⟨by show i + 1 ≤ _; omega, fun k hk => by by_cases e : k = i; exact e ▸ hok; exact hv k (by have hk : k < i + 1 := hk; omega)⟩ (zU) (.r zS (.c zS (SPs.of (A := own 3 rInt v95 (statRows ts i ++ [((setR (nth ts i)).length : Int)])) (by rw [statRows_succ])) (.c zS (SPs.of (A := own 36 (rSlE 3 rInt) v101 (statDst s ts i ++ [statD (setR (nth ts i)) (nth s.Tables i).Attrs.length])) (by rw [statDst_succ])) (zL))))
 try simp only [NF] at h29
 obtain rfl : i = s.Tables.length := by omega
 refine J_exit (J_seq ?_)
 refine K_lsub (L' := [box b6 60 rStatsW ⟨vr, vd⟩, own 3 rInt vr (statRows ts s.Tables.length), own 36 (rSlE 3 rInt) vd (statDst s ts s.Tables.length), box b4 60 rStatsE zStats]) (zL) ?_
 refine K_freeze (t := 6) (A' := tPtr rStatsE ⟨statRows ts s.Tables.length, statDst s ts s.Tables.length⟩) (Sel.take (Sel.take (Sel.take (Sel.none _)))) Frz.stats ?_
 refine J_region (Jl rfl ty60E Sr ?_)
 refine Ju (step_store_box ty60E Sr Sr zS) fun _ => ?_
 refine Ja rfl (JL_nil (J_ret ?_))
 have hf : statOk s ts = true := by
  rw [statOk, rall_t (n := s.Tables.length) (fun k hk => hv k hk)]
  simp [hlen]
 have hR : statM s ts = ⟨statRows ts s.Tables.length, statDst s ts s.Tables.length⟩ := by rw [statM, if_pos hf]
 have hE : statE s ts = 0 := by rw [statE, if_pos hf]
 refine K_ret2' (rv := .cell 4 60) (rv' := .tmp 5) rfl () (Sel.all _) (.cell (R := rStatsE) ty60E Sr zS Sr) (.tmp Sr) (Frz.sub (Sub.eqT (by rw [hR]))) (Frz.sub (Sub.int (hE.symm))) Sr
theorem Statistics_spec (s : GSchema) (hz : SchSz s) (ha : ∀ t ∈ s.Tables, t.Attrs.length ≤ 1000) (ts : List (List LV)) (hl : ∀ t ∈ ts, t.length ≤ 4000) (hr : ∀ t ∈ ts, ∀ r ∈ t, r.length ≤ 1000000) : Fun1 prog 36 [rSchema.ty s, tSl (rSl (rSl rValue)) ts] (tTup [rStats.ty (statM s ts), tV (.int .i64 (statE s ts))]) :=
  Fun1.to (StatisticsE_spec s hz ha ts hl hr) (Sub.tup2 Sub.statsE Sr)
open Go Go.Proofs Go.Proofs.Tryz
theorem Sub.spe {xs : List GPlan} : Sub (tSl rPlS xs) (tSl rPlanE xs) := fun h v hv => tSl_up (R := rPlS) (R' := rPlanE) _root_.rfl (fun r => planE_in r) hv
abbrev kRows : List (List GValue) := [[numV 1, numV 2], [numV 3, numV 2], [numV 1, numV 2], [numV 5, zValue]]
abbrev kTabs : List (List (List GValue)) := [kRows, []]
abbrev kStats : GStats := ⟨[3, 0], [[3, 1], [0, 0]]⟩
abbrev kSet : List (List GValue) := [[numV 1, numV 2], [numV 3, numV 2], [numV 5, zValue]]
theorem kSetR : setR kRows = kSet := by
  unfold setR
  rw [← sortR_of (xs := kRows) (ys := [[numV 1, numV 2], [numV 1, numV 2], [numV 3, numV 2], [numV 5, zValue]]) (by decide +kernel) (by decide +kernel)]
  decide +kernel
theorem kSet0 : setR [] = [] := by
  unfold setR
  rw [← sortR_of (xs := []) (ys := []) (List.Perm.refl _) List.Pairwise.nil]
  rfl
theorem kStM : statM kS kTabs = kStats := by
  unfold statM
  rw [if_pos (by decide +kernel)]
  have h1 : statRows kTabs kS.Tables.length = [3, 0] := by
    show [((setR kRows).length : Int), ((setR []).length : Int)] = _
    rw [kSetR, kSet0]; decide +kernel
  have h2 : statDst kS kTabs kS.Tables.length = [[3, 1], [0, 0]] := by
    show [statD (setR kRows) kAB.length, statD (setR []) kBC.length] = _
    rw [kSetR, kSet0]; decide +kernel
  rw [h1, h2]
theorem kStE : statE kS kTabs = 0 := by unfold statE; rw [if_pos (by decide +kernel)]
theorem errP_t {s : GSchema} {p : GPlan} {st : GStats} (h : prightM s p st = true) : errP s p st = 0 := if_pos h
theorem kEst {n : Nat} {p : GPlan} {st : GStats} (hd : Dep n p) (hz : PSz p) (hs : ∀ d ∈ st.Distinct, d.length ≤ 1000000000000) {a e : Int} (h1 : estM kS n p st = a) (h2 : errP kS p st = e) : Fun1 prog 38 [rSchema.ty kS, rPlS.ty p, rStats.ty st] (tTup [tV (.int .i64 a), tV (.int .i64 e)]) := by
  have := EstimateE_spec kS kSz n p hd hz st hs
  rwa [h1, h2] at this
theorem kStD : ∀ d ∈ kSt.Distinct, d.length ≤ 1000000000000 := by decide
theorem kImpS : Fun1 prog 40 [rSchema.ty kS, rPlS.ty kTop, rStats.ty kSt] (tTup [rPlS.ty kImp, tV (.int .i64 0)]) := by
  have := Improve_spec kS kSz (by decide) 3 kTop kdP kzP (fun _ => by decide +kernel) kSt kStD
  rwa [kImpE, show impE kS kTop kSt = 0 from imp_e kp3] at this
theorem kStS : Fun1 prog 36 [rSchema.ty kS, tSl (rSl (rSl rValue)) kTabs] (tTup [rStats.ty kStats, tV (.int .i64 0)]) := by
  have := Statistics_spec kS kSz (by decide) kTabs (by decide) (by decide)
  rwa [kStM, kStE] at this
theorem example35_spec  : Fun1 prog 79 [] (rSchema.ty kS) := by
 refine Spec.enter func79 rfl rfl fun h0 w0 fr0 => ?_
 refine Jr ?_
 refine Jx rfl (step_alloc (fun w => zeroValue41 w) zr41) fun b0 => ?_
 refine JL_nil (Jr (Js rfl (step_call0 (attr35_spec kA) ⟨Sr, trivial⟩ call81) (Js rfl (step_call0 (attr35_spec kB) ⟨Sr, trivial⟩ call81) ?_)))
 refine Js rfl (step_literal (ys := kAB) underlying44 el89 ⟨rfl, Sr, rfl, Sr, trivial⟩ rfl (by decide)) ?_
 refine Js rfl (step_literal (ys := [0]) underlying36 el3 ⟨rfl, Sr, trivial⟩ rfl (by decide)) ?_
 refine Js rfl (step_build (x := (⟨⟨#[116]⟩, kAB, [0]⟩ : GTable)) (zs := [[Value.string ⟨#[]⟩], [Value.slice none 0 0], [Value.slice none 0 0]]) so76 (fun w => zeroValue76 w) ⟨Sr, Sr, Sr, trivial⟩ ⟨⟨Sr, rfl⟩, ⟨Sr, rfl⟩, ⟨Sr, rfl⟩, trivial⟩) (Js rfl (step_call0 (attr35_spec kB) ⟨Sr, trivial⟩ call81) (Js rfl (step_call0 (attr35_spec kC) ⟨Sr, trivial⟩ call81) ?_))
 refine Js rfl (step_literal (ys := kBC) underlying44 el89 ⟨rfl, Sr, rfl, Sr, trivial⟩ rfl (by decide)) ?_
 refine Js rfl (step_literal (ys := [0]) underlying36 el3 ⟨rfl, Sr, trivial⟩ rfl (by decide)) ?_
 refine Js rfl (step_build (x := (⟨⟨#[117]⟩, kBC, [0]⟩ : GTable)) (zs := [[Value.string ⟨#[]⟩], [Value.slice none 0 0], [Value.slice none 0 0]]) so76 (fun w => zeroValue76 w) ⟨Sr, Sr, Sr, trivial⟩ ⟨⟨Sr, rfl⟩, ⟨Sr, rfl⟩, ⟨Sr, rfl⟩, trivial⟩) ?_
 refine Js rfl (step_literal (ys := kS.Tables) underlying39 el76 ⟨rfl, Sr, rfl, Sr, trivial⟩ rfl (by decide)) ?_
 refine Js rfl (step_build (x := (kS : GSchema)) (zs := [[Value.slice none 0 0]]) so41 (fun w => zeroValue41 w) ⟨Sr, trivial⟩ ⟨⟨Sr, rfl⟩, trivial⟩) ?_
 refine Ju (step_store_box ty41 Sr Sr zS) fun _ => ?_
 refine JL_nil (J_ret ?_)
 refine K_ret1' (rv := .cell 0 41) rfl () (Sel.all _) (.cell (R := rSchema) ty41 Sr zS Sr) (Frz.sub Sr)
set_option maxHeartbeats 4000000 in
theorem head35_spec  : Fun1 prog 34 [] (tV (.bool true)) := by
 refine Spec.enter func34 rfl rfl fun h0 w0 fr0 => ?_
 refine Jr (Ja rfl (JL_nil (Jr (Js rfl (step_call0 (example35_spec) trivial call79) ?_))))
 refine Jx rfl (step_alloc (fun w => zeroValue41 w) zr41) fun b1 => ?_
 refine Ju (step_store_box ty41 Sr Sr zS) fun _ => ?_
 refine JL_freeze (t := 1) (Sel.take (Sel.none _)) Frz.box ?_
 refine JL_nil (Jr ?_)
 refine Js rfl (step_literal (ys := [100, 20]) underlying36 el3 ⟨rfl, Sr, rfl, Sr, trivial⟩ rfl (by decide)) ?_
 refine Js rfl (step_literal (ys := [100, 10]) underlying36 el3 ⟨rfl, Sr, rfl, Sr, trivial⟩ rfl (by decide)) ?_
 refine Js rfl (step_literal (ys := [10, 20]) underlying36 el3 ⟨rfl, Sr, rfl, Sr, trivial⟩ rfl (by decide)) ?_
 refine Js rfl (step_literal (ys := kSt.Distinct) underlying58 el36 ⟨rfl, Sr, rfl, Sr, trivial⟩ rfl (by decide)) ?_
 refine Js rfl (step_build (x := (kSt : GStats)) (zs := [[Value.slice none 0 0], [Value.slice none 0 0]]) so60 (fun w => zeroValue60 w) ⟨Sr, Sr, trivial⟩ ⟨⟨Sr, rfl⟩, ⟨Sr, rfl⟩, trivial⟩) ?_
 refine Jx rfl (step_alloc (fun w => zeroValue60 w) zr60) fun b2 => ?_
 refine Ju (step_store_box ty60 Sr Sr zS) fun _ => ?_
 refine JL_freeze (t := 2) (Sel.take (Sel.none _)) Frz.box ?_
 refine JL_nil (Jr (Js rfl (step_fieldAddr so41 Sr rfl) (Jl rfl ty39 Sr ?_)))
 refine Js rfl (step_indexAddr_sl (i := 0) underlying39 ty76 Sr Sr (by rfl) (gb (by decide))) ?_
 refine Js rfl (step_fieldAddr so76 Sr rfl) (Jl rfl ty44 Sr (Js rfl (step_build (x := (kT : GPlan)) (zs := [[Value.int .i64 0], [Value.int .i64 0], [Value.slice none 0 0], [Value.slice none 0 0], [Value.slice none 0 0], [Value.int .i64 0], [Value.int .i64 0], [Value.slice none 0 0]]) so46E (fun w => zeroValue46 w) ⟨Sr, Sr, trivial⟩ ⟨⟨Sr, rfl⟩, fun _ => rfl, fun _ => ⟨_, rfl, none, ⟨0, Nat.le_refl _⟩, rfl, fun q => absurd rfl q⟩, fun _ => ⟨_, rfl, none, ⟨0, Nat.le_refl _⟩, rfl, fun q => absurd rfl q⟩, fun _ => ⟨_, rfl, none, ⟨0, Nat.le_refl _⟩, rfl, fun q => absurd rfl q⟩, fun _ => rfl, fun _ => rfl, ⟨Sr, rfl⟩, trivial⟩) ?_))
 refine Jx rfl (step_alloc (fun w => zeroValue46 w) zr46E) fun b3 => ?_
 refine Ju (step_store_box ty46E Sr Sr zS) fun _ => ?_
 refine JL_freeze (t := 3) (Sel.take (Sel.none _)) Frz.box ?_
 refine JL_nil (Jr (Js rfl (step_fieldAddr so41 Sr rfl) (Jl rfl ty39 Sr ?_)))
 refine Js rfl (step_indexAddr_sl (i := 1) underlying39 ty76 Sr Sr (by rfl) (gb (by decide))) ?_
 refine Js rfl (step_fieldAddr so76 Sr rfl) (Jl rfl ty44 Sr (Js rfl (step_build (x := (kU : GPlan)) (zs := [[Value.int .i64 0], [Value.int .i64 0], [Value.slice none 0 0], [Value.slice none 0 0], [Value.slice none 0 0], [Value.int .i64 0], [Value.int .i64 0], [Value.slice none 0 0]]) so46E (fun w => zeroValue46 w) ⟨Sr, Sr, Sr, trivial⟩ ⟨⟨Sr, rfl⟩, ⟨Sr, rfl⟩, fun _ => ⟨_, rfl, none, ⟨0, Nat.le_refl _⟩, rfl, fun q => absurd rfl q⟩, fun _ => ⟨_, rfl, none, ⟨0, Nat.le_refl _⟩, rfl, fun q => absurd rfl q⟩, fun _ => ⟨_, rfl, none, ⟨0, Nat.le_refl _⟩, rfl, fun q => absurd rfl q⟩, fun _ => rfl, fun _ => rfl, ⟨Sr, rfl⟩, trivial⟩) ?_))
 refine Jx rfl (step_alloc (fun w => zeroValue46 w) zr46E) fun b4 => ?_
 refine Ju (step_store_box ty46E Sr Sr zS) fun _ => ?_
 refine JL_freeze (t := 4) (Sel.take (Sel.none _)) Frz.box ?_
 refine JL_nil (J_seq ?_)
 refine J_draw [⟨0, [3], true⟩, ⟨1, [42], true⟩, ⟨2, [], true⟩, ⟨3, [44], true⟩, ⟨4, [3], true⟩, ⟨5, [46], true⟩, ⟨6, [43, 45, 47], true⟩, ⟨7, [], false⟩, ⟨8, [5, 48], false⟩] rfl (by kernel_rfl) ?_
 refine Mf rfl rfl (step_load_ptr ty46E Sr) ?_
 refine Mf rfl rfl (step_literal (ys := [kT]) underlying42 el46E ⟨rfl, Sr, trivial⟩ rfl (by decide)) ?_
 refine Mf rfl rfl (step_call0 (equals35_spec 1 3) ⟨Sr, Sr, trivial⟩ call80) ?_
 refine Mf rfl rfl (step_literal (ys := [eqT 1 3]) underlying43 el93 ⟨rfl, Sr, trivial⟩ rfl (by decide)) ?_
 refine Mf rfl rfl (step_fieldAddr so46E Sr rfl) (Mf rfl rfl (step_load_ptr ty44 Sr) (Mf rfl rfl (step_build (x := (kSome : GPlan)) (zs := [[Value.int .i64 0], [Value.int .i64 0], [Value.slice none 0 0], [Value.slice none 0 0], [Value.slice none 0 0], [Value.int .i64 0], [Value.int .i64 0], [Value.slice none 0 0]]) so46E (fun w => zeroValue46 w) ⟨Sr, Sub.spe, Sr, Sr, trivial⟩ ⟨⟨Sr, rfl⟩, fun _ => rfl, ⟨Sub.spe, rfl⟩, ⟨Sr, rfl⟩, fun _ => ⟨_, rfl, none, ⟨0, Nat.le_refl _⟩, rfl, fun q => absurd rfl q⟩, fun _ => rfl, fun _ => rfl, ⟨Sr, rfl⟩, trivial⟩) ?_))
 refine JM_stepX rfl rfl rfl rfl (step_alloc (fun w => zeroValue46 w) zr46E) fun b5 => ?_
 refine JM_stepU rfl rfl rfl (step_store_box ty46E Sr Sr zS) fun _ => ?_
 refine JM_nil ?_
 refine K_freeze (t := 5) zS Frz.box ?_
 refine J_seq ?_
 refine J_draw [⟨0, [3], true⟩, ⟨1, [4], true⟩, ⟨2, [49, 50], true⟩, ⟨3, [], true⟩, ⟨4, [], true⟩, ⟨5, [], true⟩, ⟨6, [52, 53, 54], true⟩, ⟨7, [51, 55], true⟩, ⟨8, [], false⟩, ⟨9, [6, 56], false⟩] rfl (by kernel_rfl) ?_
 refine Mf rfl rfl (step_load_ptr ty46E Sr) (Mf rfl rfl (step_load_ptr ty46E Sr) ?_)
 refine Mf rfl rfl (step_literal (ys := [kT, kU]) underlying42 el46E ⟨rfl, Sr, rfl, Sr, trivial⟩ rfl (by decide)) ?_
 refine Mf rfl rfl (step_call0 (attr35_spec kA) ⟨Sr, trivial⟩ call81) (Mf rfl rfl (step_call0 (attr35_spec kB) ⟨Sr, trivial⟩ call81) (Mf rfl rfl (step_call0 (attr35_spec kC) ⟨Sr, trivial⟩ call81) ?_))
 refine Mf rfl rfl (step_literal (ys := kABC) underlying44 el89 ⟨rfl, Sr, rfl, Sr, rfl, Sr, trivial⟩ rfl (by decide)) ?_
 refine Mf rfl rfl (step_build (x := (kBoth : GPlan)) (zs := [[Value.int .i64 0], [Value.int .i64 0], [Value.slice none 0 0], [Value.slice none 0 0], [Value.slice none 0 0], [Value.int .i64 0], [Value.int .i64 0], [Value.slice none 0 0]]) so46E (fun w => zeroValue46 w) ⟨Sr, Sub.spe, Sr, trivial⟩ ⟨⟨Sr, rfl⟩, fun _ => rfl, ⟨Sub.spe, rfl⟩, fun _ => ⟨_, rfl, none, ⟨0, Nat.le_refl _⟩, rfl, fun q => absurd rfl q⟩, fun _ => ⟨_, rfl, none, ⟨0, Nat.le_refl _⟩, rfl, fun q => absurd rfl q⟩, fun _ => rfl, fun _ => rfl, ⟨Sr, rfl⟩, trivial⟩) ?_
 refine JM_stepX rfl rfl rfl rfl (step_alloc (fun w => zeroValue46 w) zr46E) fun b6 => ?_
 refine JM_stepU rfl rfl rfl (step_store_box ty46E Sr Sr zS) fun _ => ?_
 refine JM_nil ?_
 refine K_freeze (t := 6) zS Frz.box ?_
 refine J_seq ?_
 refine J_draw [⟨0, [6], true⟩, ⟨1, [57], true⟩, ⟨2, [], true⟩, ⟨3, [59], true⟩, ⟨4, [6], true⟩, ⟨5, [61], true⟩, ⟨6, [58, 60, 62], true⟩, ⟨7, [], false⟩, ⟨8, [7, 63], false⟩] rfl (by kernel_rfl) ?_
 refine Mf rfl rfl (step_load_ptr ty46E Sr) ?_
 refine Mf rfl rfl (step_literal (ys := [kBoth]) underlying42 el46E ⟨rfl, Sr, trivial⟩ rfl (by decide)) ?_
 refine Mf rfl rfl (step_call0 (equals35_spec 0 7) ⟨Sr, Sr, trivial⟩ call80) ?_
 refine Mf rfl rfl (step_literal (ys := [eqT 0 7]) underlying43 el93 ⟨rfl, Sr, trivial⟩ rfl (by decide)) ?_
 refine Mf rfl rfl (step_fieldAddr so46E Sr rfl) (Mf rfl rfl (step_load_ptr ty44 Sr) (Mf rfl rfl (step_build (x := (kTop : GPlan)) (zs := [[Value.int .i64 0], [Value.int .i64 0], [Value.slice none 0 0], [Value.slice none 0 0], [Value.slice none 0 0], [Value.int .i64 0], [Value.int .i64 0], [Value.slice none 0 0]]) so46E (fun w => zeroValue46 w) ⟨Sr, Sub.spe, Sr, Sr, trivial⟩ ⟨⟨Sr, rfl⟩, fun _ => rfl, ⟨Sub.spe, rfl⟩, ⟨Sr, rfl⟩, fun _ => ⟨_, rfl, none, ⟨0, Nat.le_refl _⟩, rfl, fun q => absurd rfl q⟩, fun _ => rfl, fun _ => rfl, ⟨Sr, rfl⟩, trivial⟩) ?_))
 refine JM_stepX rfl rfl rfl rfl (step_alloc (fun w => zeroValue46 w) zr46E) fun b7 => ?_
 refine JM_stepU rfl rfl rfl (step_store_box ty46E Sr Sr zS) fun _ => ?_
 refine JM_nil ?_
 refine K_freeze (t := 7) zS Frz.box ?_
 refine Jr (Jl rfl ty41 Sr (Jl rfl ty46E Sr (Jl rfl ty60 Sr ?_)))
 refine Js rfl (step_call0 (kEst kdS kzS kStD ke1 (errP_t kp1)) ⟨Sr, Sr, Sr, trivial⟩ call38) ?_
 refine Jm rfl (Js rfl (step_extract Sr rfl) (Js rfl (step_extract Sr rfl) (Ja rfl (Ja rfl (JL_nil ?_)))))
 refine Jr (Jl rfl ty41 Sr (Jl rfl ty46E Sr (Jl rfl ty60 Sr (Js rfl (step_call0 (kEst kdB kzB kStD ke2 (errP_t kp2)) ⟨Sr, Sr, Sr, trivial⟩ call38) (Jm rfl ?_)))))
 refine Js rfl (step_extract Sr rfl) (Js rfl (step_extract Sr rfl) (Ja rfl (Ja rfl (JL_nil (Jr ?_)))))
 refine Jl rfl ty41 Sr (Jl rfl ty46E Sr (Jl rfl ty60 Sr (Js rfl (step_call0 (kEst kdP kzP kStD ke3 (errP_t kp3)) ⟨Sr, Sr, Sr, trivial⟩ call38) (Jm rfl (Js rfl (step_extract Sr rfl) ?_)))))
 refine Js rfl (step_extract Sr rfl) (Ja rfl (Ja rfl (JL_nil (Jr (Jl rfl ty41 Sr ?_)))))
 refine Jl rfl ty46E Sr (Jl rfl ty60 Sr (Js rfl (step_call0 kImpS ⟨Sr, Sr, Sr, trivial⟩ call40) (Jm rfl (Js rfl (step_extract Sr rfl) (Js rfl (step_extract Sr rfl) ?_)))))
 refine Jx rfl (step_alloc (fun w => zeroValue46 w) zr46E) fun b14 => ?_
 refine Ju (step_store_box ty46E Sr Sr zS) fun _ => ?_
 refine JL_freeze (t := 14) (Sel.take (Sel.none _)) Frz.box ?_
 refine Ja rfl (JL_nil (Jr (Jl rfl ty41 Sr (Jl rfl ty46E Sr (Jl rfl ty60 Sr ?_)))))
 refine Js rfl (step_call0 (kEst kdI kzI kStD ke4 (errP_t kp4)) ⟨Sr, Sr, Sr, trivial⟩ call38) (Jm rfl (Js rfl (step_extract Sr rfl) (Js rfl (step_extract Sr rfl) (Ja rfl (Ja rfl ?_)))))
 refine JL_nil (Jr (Jl rfl ty41 Sr (Jl rfl ty46E Sr ?_)))
 refine Js rfl (step_build (x := (zStats : GStats)) (zs := [[Value.slice none 0 0], [Value.slice none 0 0]]) so60 (fun w => zeroValue60 w) trivial ⟨fun _ => ⟨_, rfl, none, ⟨0, Nat.le_refl _⟩, rfl, fun q => absurd rfl q⟩, fun _ => ⟨_, rfl, none, ⟨0, Nat.le_refl _⟩, rfl, fun q => absurd rfl q⟩, trivial⟩) ?_
 refine Js rfl (step_call0 (kEst (st := zStats) kdI kzI (fun d hd => by cases hd) (a := 0) (e := 1) (by unfold estM; rw [if_neg (by rw [kp5]; simp)]) (by unfold errP; rw [if_neg (by rw [kp5]; simp)])) ⟨Sr, Sr, Sr, trivial⟩ call38) ?_
 refine Jm rfl (Js rfl (step_extract Sr rfl) (Js rfl (step_extract Sr rfl) (Ja rfl (Ja rfl (JL_nil ?_)))))
 refine Jr (Ja rfl (JL_nil (J_seq ?_)))
 refine J_draw [⟨0, [1], true⟩, ⟨1, [20], true⟩, ⟨2, [108], true⟩, ⟨3, [20], true⟩, ⟨4, [110], true⟩, ⟨5, [109, 111], true⟩, ⟨6, [20], true⟩, ⟨7, [113], true⟩, ⟨8, [20], true⟩, ⟨9, [115], true⟩, ⟨10, [114, 116], true⟩, ⟨11, [20], true⟩, ⟨12, [118], true⟩, ⟨13, [20], true⟩, ⟨14, [120], true⟩, ⟨15, [119, 121], true⟩, ⟨16, [20], true⟩, ⟨17, [123], true⟩, ⟨18, [], true⟩, ⟨19, [124, 125], true⟩, ⟨20, [112, 117, 122, 126], true⟩, ⟨21, [127], true⟩, ⟨22, [107, 128], true⟩, ⟨23, [129], true⟩, ⟨24, [106], true⟩, ⟨25, [106], true⟩, ⟨26, [], false⟩, ⟨27, [21, 130], false⟩, ⟨28, [131], true⟩] rfl (by kernel_rfl) ?_
 refine Mf rfl rfl (step_load_ptr ty41 Sr) (Mv rfl rfl (Mf rfl rfl (step_callv0 (aT := [_]) Sub.clo0 (num35_spec 1) ⟨Sr, trivial⟩ call82) (Mv rfl rfl (Mf rfl rfl (step_callv0 (aT := [_]) Sub.clo0 (num35_spec 2) ⟨Sr, trivial⟩ call82) ?_))))
 refine Mf rfl rfl (step_literal (ys := [numV 1, numV 2]) underlying22 el87 ⟨rfl, Sr, rfl, Sr, trivial⟩ rfl (by decide)) ?_
 refine Mv rfl rfl (Mf rfl rfl (step_callv0 (aT := [_]) Sub.clo0 (num35_spec 3) ⟨Sr, trivial⟩ call82) (Mv rfl rfl (Mf rfl rfl (step_callv0 (aT := [_]) Sub.clo0 (num35_spec 2) ⟨Sr, trivial⟩ call82) ?_)))
 refine Mf rfl rfl (step_literal (ys := [numV 3, numV 2]) underlying22 el87 ⟨rfl, Sr, rfl, Sr, trivial⟩ rfl (by decide)) ?_
 refine Mv rfl rfl (Mf rfl rfl (step_callv0 (aT := [_]) Sub.clo0 (num35_spec 1) ⟨Sr, trivial⟩ call82) (Mv rfl rfl (Mf rfl rfl (step_callv0 (aT := [_]) Sub.clo0 (num35_spec 2) ⟨Sr, trivial⟩ call82) ?_)))
 refine Mf rfl rfl (step_literal (ys := [numV 1, numV 2]) underlying22 el87 ⟨rfl, Sr, rfl, Sr, trivial⟩ rfl (by decide)) ?_
 refine Mv rfl rfl (Mf rfl rfl (step_callv0 (aT := [_]) Sub.clo0 (num35_spec 5) ⟨Sr, trivial⟩ call82) (Mf rfl rfl (step_build (x := (zValue : GValue)) (zs := [[Value.int .i64 0], [Value.int .i64 0], [Value.string ⟨#[]⟩]]) so87 (fun w => zeroValue87 w) trivial ⟨fun _ => rfl, fun _ => rfl, fun _ => rfl, trivial⟩) ?_))
 refine Mf rfl rfl (step_literal (ys := [numV 5, zValue]) underlying22 el87 ⟨rfl, Sr, rfl, Sr, trivial⟩ rfl (by decide)) ?_
 refine Mf rfl rfl (step_literal (ys := kRows) underlying73 el22 ⟨rfl, Sr, rfl, Sr, rfl, Sr, rfl, Sr, trivial⟩ rfl (by decide)) ?_
 refine Mf rfl rfl (step_literal (ys := kTabs) underlying61 el73 ⟨rfl, Sr, rfl, Sub.nilsl, trivial⟩ rfl (by decide)) ?_
 refine Mf rfl rfl (step_call0 kStS ⟨Sr, Sr, trivial⟩ call36) (Mv rfl rfl (Mf rfl rfl (step_extract Sr rfl) (Mf rfl rfl (step_extract Sr rfl) ?_)))
 refine JM_stepX rfl rfl rfl rfl (step_alloc (fun w => zeroValue60 w) zr60) fun b21 => ?_
 refine JM_stepU rfl rfl rfl (step_store_box ty60 Sr Sr zS) fun _ => ?_
 refine Mf rfl rfl (step_assign Sr) (JM_nil ?_)
 refine K_freeze (t := 21) zS Frz.box ?_
 refine Jr (Jm rfl (Js rfl (step_eql Sr Sr) (Jm rfl ?_)))
 refine Jk rfl Sr rfl (step_move Sr) ?_
 refine Jg rfl Sr rfl (fun hw => step_eql (Sub.w hw) Sr) (Js rfl (step_pick_and Sr Sr) (Jm rfl ?_))
 refine Jk rfl Sr rfl (step_move Sr) ?_
 refine Jg rfl Sr rfl (fun hw => step_eql (Sub.w hw) Sr) (Js rfl (step_pick_and Sr Sr) (Jm rfl ?_))
 refine Jk rfl Sr rfl (step_move Sr) ?_
 refine Jg rfl Sr rfl (fun hw => step_eql (Sub.w hw) Sr) (Js rfl (step_pick_and Sr Sr) (Jm rfl ?_))
 refine Jk rfl Sr rfl (step_move Sr) ?_
 refine Jg rfl Sr rfl (fun hw => step_eql (Sub.w hw) Sr) (Js rfl (step_pick_and Sr Sr) (Jm rfl ?_))
 refine Jk rfl Sr rfl (step_move Sr) ?_
 refine Jg rfl Sr rfl (fun hw => step_eql (Sub.w hw) Sr) (Js rfl (step_pick_and Sr Sr) (Jm rfl ?_))
 refine Jk rfl Sr rfl (step_move Sr) ?_
 refine Jg rfl Sr rfl (fun hw => step_eql (Sub.w hw) Sr) (Js rfl (step_pick_and Sr Sr) (Jm rfl ?_))
 refine Jk rfl Sr rfl (step_move Sr) ?_
 refine Jg rfl Sr rfl (fun hw => step_eql (Sub.w hw) Sr) (Js rfl (step_pick_and Sr Sr) (Jm rfl ?_))
 refine Jk rfl Sr rfl (step_move Sr) ?_
 refine Jg rfl Sr rfl (fun hw => step_eql (Sub.w hw) Sr) (Js rfl (step_pick_and Sr Sr) (Jm rfl ?_))
 refine Jk rfl Sr rfl (step_move Sr) ?_
 refine Jg rfl Sr rfl (fun hw => step_eql (Sub.w hw) Sr) (Js rfl (step_pick_and Sr Sr) (Ja rfl (JL_nil (Jr (Jm rfl ?_)))))
 refine Jm rfl ?_
 refine Jk rfl Sr rfl (step_fieldAddr so46E Sr rfl) ?_
 refine Jg rfl Sr rfl (fun hw => step_load_ptr ty3 (Sub.w hw)) (Jg rfl Sr rfl (fun hw => step_eql (Sub.w hw) Sr) (Js rfl (step_pick_and Sr Sr) (Jm rfl ?_)))
 refine Jk rfl Sr rfl (step_move Sr) ?_
 refine Jg rfl Sr rfl (fun hw => step_eql (Sub.w hw) Sr) (Js rfl (step_pick_and Sr Sr) (Jm rfl ?_))
 refine Jk rfl Sr rfl (step_load_ptr ty60 Sr) ?_
 refine Jk rfl Sr rfl (step_literal (ys := [3, 0]) underlying36 el3 ⟨rfl, Sr, rfl, Sr, trivial⟩ rfl (by decide)) ?_
 refine Jk rfl Sr rfl (step_literal (ys := [3, 1]) underlying36 el3 ⟨rfl, Sr, rfl, Sr, trivial⟩ rfl (by decide)) ?_
 refine Jk rfl Sr rfl (step_literal (ys := [0, 0]) underlying36 el3 ⟨rfl, Sr, rfl, Sr, trivial⟩ rfl (by decide)) ?_
 refine Jg rfl Sr rfl (fun hw => step_literal (ys := kStats.Distinct) underlying58 el36 ⟨rfl, (Sub.w hw), rfl, (Sub.w hw), trivial⟩ rfl (by decide)) ?_
 refine Jg rfl Sr rfl (fun hw => step_build (x := (kStats : GStats)) (zs := [[Value.slice none 0 0], [Value.slice none 0 0]]) so60 (fun w => zeroValue60 w) ⟨(Sub.w hw), (Sub.w hw), trivial⟩ ⟨⟨(Sub.w hw), rfl⟩, ⟨(Sub.w hw), rfl⟩, trivial⟩) ?_
 refine Jg rfl Sr rfl (fun hw => step_call0 (SameStats_spec kStats kStats (by decide)) ⟨(Sub.w hw), (Sub.w hw), trivial⟩ call42) ?_
 refine Js rfl (step_pick_and Sr Sr) (Ja rfl (JL_nil (J_ret ?_)))
 refine K_ret1 (t := 0) rfl () (Sub.bool (by decide))
open Go Go.Proofs Go.Proofs.Tryz
theorem narM_dep : ∀ {n m : Nat} {p : GPlan}, Dep n p → Dep m p → narM n p = narM m p
  | 0, _, _, h, _ => h.elim
  | n + 1, 0, _, _, h => h.elim
  | n + 1, m + 1, p, h1, h2 => by
    have : p.Kids.all (narM n) = p.Kids.all (narM m) := by
      rw [Bool.eq_iff_iff, List.all_eq_true, List.all_eq_true]
      exact ⟨fun h q hq => by rw [← narM_dep (h1 q hq) (h2 q hq)]; exact h q hq, fun h q hq => by rw [narM_dep (h1 q hq) (h2 q hq)]; exact h q hq⟩
    simp only [narM, this]
theorem cntL_congr {f g : GPlan → Int} : ∀ {l : List GPlan} {a : Int}, (∀ q ∈ l, f q = g q) → cntL f a l = cntL g a l
  | [], _, _ => rfl
  | q :: l, a, h => by
    unfold cntL
    rw [h q List.mem_cons_self, cntL_congr fun r hr => h r (List.mem_cons_of_mem _ hr)]
theorem cntW_dep : ∀ {n m : Nat} {p : GPlan}, Dep n p → Dep m p → cntW n p = cntW m p
  | 0, _, _, h, _ => h.elim
  | n + 1, 0, _, _, h => h.elim
  | n + 1, m + 1, p, h1, h2 => by
    simp only [cntW]
    exact cntL_congr fun q hq => cntW_dep (h1 q hq) (h2 q hq)
theorem small_dep {s : GSchema} {n m : Nat} {p : GPlan} {ts : List (List (List GValue))} {k : Int} (h1 : Dep n p) (h2 : Dep m p) : smallM s n p ts k = smallM s m p ts k := by
  unfold smallM; rw [cntW_dep h1 h2, narM_dep h1 h2]
def smallE (s : GSchema) (p : GPlan) (ts : List (List (List GValue))) (k : Int) : Bool := smallM s (depP p) p ts k
def PlLenE (p : GPlan) : Prop := ∀ m, PlLen m p
theorem len_all : ∀ {n : Nat} {p : GPlan}, Dep n p → PlLen n p → PlLenE p
  | 0, _, h, _ => h.elim
  | n + 1, p, hd, ⟨h1, h2⟩ => fun m => by
    cases m with
    | zero => exact trivial
    | succ m => exact ⟨h1, fun q hq => len_all (hd q hq) (h2 q hq) m⟩
theorem SmallE_spec (s : GSchema) (p : GPlan) (hl : PlLenE p) (ts : List (List (List GValue))) (m : Int) (hz : ∀ t ∈ ts, t.length ≤ 9223372036854775807) : Fun1 Tryz.prog 19 [rSchema.ty s, rPlS.ty p, tSl (rSl (rSl rValue)) ts, tV (.int .i64 m)] (tV (.bool (smallE s p ts m))) :=
  Fun1.ex (ι := { n : Nat // Dep n p }) (fun n => [rSchema.ty s, (rPlan n.1).ty p, tSl (rSl (rSl rValue)) ts, tV (.int .i64 m)]) (fun n => tV (.bool (smallM s n.1 p ts m))) fun vs h ha => by
    rcases vs with _ | ⟨v0, vs⟩
    · exact ha.elim
    obtain ⟨a0, ha⟩ := ha
    obtain ⟨v1, v2, v3, rfl, a1, a2, a3⟩ := args3 ha
    obtain ⟨n, a1⟩ := plS_ex a1
    have hd : Dep n p := ty_dep a1
    exact ⟨⟨n, hd⟩, ⟨a0, a1, a2, a3, trivial⟩, rSmall_spec s n p (hl n) ts m hz, Sub.bool (small_dep hd (dep_dep p))⟩
theorem psum_val {s : GSchema} : ∀ {n l : Nat} {p : GPlan}, Dep n p → validM s l p = true → narM n p = true → psum n p ≤ 20 * l
  | 0, _, _, h, _, _ => h.elim
  | n + 1, l, p, hd, hv, hn => by
    obtain ⟨l', rfl, _, _, hkv, _⟩ := valid_in hv
    simp only [narM, Bool.and_eq_true, decide_eq_true_eq, List.all_eq_true] at hn
    have : (p.Kids.map (psum n)).foldr max 0 ≤ 20 * l' := foldmax_le fun a ha => by
      obtain ⟨q, hq, rfl⟩ := List.mem_map.1 ha
      exact psum_val (hd q hq) (hkv q hq) (hn.1 q hq)
    simp only [psum]; omega
/-- What a law knows of arguments that are small. -/
structure SmF (s : GSchema) (p : GPlan) : Prop where
  z : SchSz s
  t : ∀ t ∈ s.Tables, t.Attrs.length ≤ 20
  n : narM (depP p) p = true
  pz : PSz p
  a : p.Attrs.length ≤ 40
theorem small_in {s : GSchema} {p : GPlan} {ts : List (List (List GValue))} {m : Int} (h : smallE s p ts m = true) (hn : ∀ t ∈ s.Tables, ∀ x ∈ namesL t.Attrs, x.size ≤ 9223372036854775807) (hl : PlLenE p) : SmF s p ∧ ts.length ≤ 30 ∧ ∀ t ∈ ts, (t.length : Int) ≤ m ∧ ∀ r ∈ t, r.length ≤ 20 := by
  unfold smallE smallM at h
  simp only [Bool.and_eq_true, decide_eq_true_eq, List.all_eq_true] at h
  obtain ⟨⟨⟨⟨h1, h2⟩, h3⟩, h4⟩, h5⟩ := h
  have hd := dep_dep p
  refine ⟨⟨sm_sz h1 hn, ?_, h3, psz_of hd (nar_sz hd h3 (hl _)).1, nar_attrs hd h3⟩, h4, fun t ht => ?_⟩
  · unfold smS at h1
    simp only [Bool.and_eq_true, decide_eq_true_eq, List.all_eq_true] at h1
    intro t ht
    have := h1.2 t ht
    unfold smT at this
    simp only [Bool.and_eq_true, decide_eq_true_eq] at this
    exact this.1.1.1
  · have := h5 t ht
    unfold rowsOk at this
    simp only [Bool.and_eq_true, decide_eq_true_eq, List.all_eq_true] at this
    exact this
def estE (s : GSchema) (p : GPlan) (st : GStats) : Int := estM s (depP p) p st
/-- A query that is in order and not too big. -/
structure QOk (s : GSchema) (q : GPlan) (b : Nat) : Prop where
  z : PSz q
  t : vldM s q = true → psum (depP q) q ≤ b
theorem SmF.q {s : GSchema} {p : GPlan} (h : SmF s p) : QOk s p 240 := ⟨h.pz, fun hv => psum_val (dep_dep p) (vld_in hv) h.n⟩
theorem est_t {s : GSchema} {p : GPlan} {st : GStats} (h : prightM s p st = true) : estE s p st = (wholeE ⟨s, st⟩ p).size.cost := by
  unfold estE estM; rw [if_pos h]; rfl
theorem est_f {s : GSchema} {p : GPlan} {st : GStats} (h : prightM s p st = false) : estE s p st = 0 ∧ errP s p st = 1 ∧ impE s p st = 1 := by
  have : ¬ prightM s p st = true := by simp [h]
  exact ⟨if_neg this, if_neg this, if_neg this⟩
theorem err_t {s : GSchema} {p : GPlan} {st : GStats} (h : prightM s p st = true) : errP s p st = 0 ∧ impE s p st = 0 := ⟨if_pos h, if_pos h⟩
theorem err_cases (s : GSchema) (p : GPlan) (st : GStats) : (prightM s p st = true ∧ errP s p st = 0 ∧ impE s p st = 0) ∨ (prightM s p st = false ∧ estE s p st = 0 ∧ errP s p st = 1 ∧ impE s p st = 1) := by
  cases h : prightM s p st with
  | true => exact .inl ⟨rfl, err_t h⟩
  | false => exact .inr ⟨rfl, est_f h⟩
theorem pright_congr {s : GSchema} {p q : GPlan} {st : GStats} (h : prightM s p st = true) (hq : vldM s q = true) : prightM s q st = true := by
  unfold prightM at h ⊢
  simp only [Bool.and_eq_true] at h ⊢
  exact ⟨⟨⟨hq, h.1.1.2⟩, h.1.2⟩, h.2⟩
section
variable {s : GSchema} {p : GPlan} {st : GStats}
theorem est_bd (hr : prightM s p st = true) (hsz : ∀ t ∈ s.Tables, t.Attrs.length ≤ 20) (hp : PSz p) : 0 ≤ estE s p st ∧ estE s p st ≤ 1000000000 := by
  obtain ⟨hv, hst⟩ := right_st hr
  have h := (whole_ok hst (fun t ht => Nat.le_trans (hsz t ht) (by omega)) (dep_dep p) (vld_in hv) (hp _)).2.1.c
  rw [est_t hr]; exact h
end
open Go Go.Proofs Go.Proofs.Tryz
theorem valid_mono {s : GSchema} : ∀ {l m : Nat} {p : GPlan}, l ≤ m → validM s l p = true → validM s m p = true
  | 0, _, _, _, h => by simp [validM] at h
  | l + 1, 0, _, hle, _ => absurd hle (by omega)
  | l + 1, m + 1, p, hle, h => by
    simp only [validM, Bool.and_eq_true, List.all_eq_true] at h ⊢
    exact ⟨⟨⟨⟨h.1.1.1.1, fun q hq => valid_mono (by omega) (h.1.1.1.2 q hq)⟩, h.1.1.2⟩, h.1.2⟩, h.2⟩
theorem kid_valid {s : GSchema} {p q : GPlan} (h : vldM s p = true) (hq : q ∈ p.Kids) : vldM s q = true := by
  unfold vldM at h ⊢
  simp only [Bool.and_eq_true] at h ⊢
  obtain ⟨l', hl, _, _, hkv, _⟩ := valid_in h.2
  exact ⟨h.1, valid_mono (by omega) (hkv q hq)⟩
theorem kid_right {s : GSchema} {p q : GPlan} {st : GStats} (h : prightM s p st = true) (hq : q ∈ p.Kids) : prightM s q st = true := pright_congr h (kid_valid (right_st h).1 hq)
theorem costF_ge : ∀ {l : List Gnode} {a : Int}, 0 ≤ a → a ≤ 1000000000 → (∀ k ∈ l, Upto k.size.cost) → a ≤ l.foldl (fun c k => min 1000000000 (c + k.size.cost)) a ∧ ∀ k ∈ l, k.size.cost ≤ l.foldl (fun c k => min 1000000000 (c + k.size.cost)) a
  | [], a, _, _, _ => ⟨Int.le_refl _, fun k hk => by cases hk⟩
  | b :: l, a, h0, h1, hl => by
    obtain ⟨c0, c1⟩ := hl b List.mem_cons_self
    obtain ⟨i1, i2⟩ := costF_ge (l := l) (a := min 1000000000 (a + b.size.cost)) (by omega) (by omega) fun k hk => hl k (List.mem_cons_of_mem _ hk)
    simp only [List.foldl_cons]
    refine ⟨by omega, fun k hk => ?_⟩
    rcases List.mem_cons.1 hk with rfl | hk
    · omega
    · exact i2 k hk
theorem costK_ge {ks : List Gnode} (h : ∀ k ∈ ks, NdOk k) {k : Gnode} (hk : k ∈ ks) : k.size.cost ≤ costK ks := (costF_ge (Int.le_refl 0) (by omega) fun k hk => (h k hk).c).2 k hk
section
variable {s : GSchema} {p : GPlan} {st : GStats}
theorem nd_of (hr : prightM s p st = true) (hsz : ∀ t ∈ s.Tables, t.Attrs.length ≤ 20) (hp : PSz p) : NdOk (wholeE ⟨s, st⟩ p) ∧ MkOk ⟨s, st⟩ p (p.Kids.map (wholeE ⟨s, st⟩)) := by
  obtain ⟨hv, hst⟩ := right_st hr
  have h := whole_ok hst (fun t ht => Nat.le_trans (hsz t ht) (by omega)) (dep_dep p) (vld_in hv) (hp _)
  exact ⟨h.2.1, (eokE_iff.1 h.1).1⟩
theorem kid_cost (hr : prightM s p st = true) (hsz : ∀ t ∈ s.Tables, t.Attrs.length ≤ 20) (hp : PSz p) {q : GPlan} (hq : q ∈ p.Kids) : estE s q st ≤ estE s p st := by
  obtain ⟨h1, h2⟩ := nd_of hr hsz hp
  have hk : ∀ k ∈ p.Kids.map (wholeE ⟨s, st⟩), NdOk k := h2.k0
  have hc := costK_ge hk (List.mem_map.2 ⟨q, hq, rfl⟩)
  have hr2 := rowsM_bd h2
  rw [est_t (kid_right hr hq), est_t hr]
  have e : (wholeE ⟨s, st⟩ p).size.cost = min 1000000000 (costK (p.Kids.map (wholeE ⟨s, st⟩)) + rowsM ⟨s, st⟩ p (p.Kids.map (wholeE ⟨s, st⟩))) := by rw [wholeE_eq]; rfl
  have hb := (nd_of (kid_right hr hq) hsz (psz_kid hp hq).1).1.c
  have := hr2.1
  have := hb.2
  omega
theorem cost_one {k : Gnode} (h : Upto k.size.cost) : costK [k] = k.size.cost := by
  show min 1000000000 (0 + k.size.cost) = _
  have := h.2; omega
/-- A query renamed. -/
def renP (p : GPlan) (at' : List GAttr) : GPlan := GPl.mk 7 0 [p] [] [] 0 0 at'
theorem ren_size (x : Gplanner) {p : GPlan} {at' : List GAttr} (h : Upto (wholeE x p).size.cost) : (wholeE x (renP p at')).size.cost = min 1000000000 ((wholeE x p).size.cost + (wholeE x p).size.rows) ∧ (wholeE x (renP p at')).size.rows = (wholeE x p).size.rows := by
  rw [wholeE_eq]
  have hr : rowsM x (renP p at') [wholeE x p] = (wholeE x p).size.rows := rows_d (by simp [renP, GPl.Kind]) (by simp [renP, GPl.Kind]) (by simp [renP, GPl.Kind]) (by simp [renP, GPl.Kind]) (by simp [renP, GPl.Kind]) (by simp [renP, GPl.Kind])
  show (min 1000000000 (costK [wholeE x p] + rowsM x (renP p at') [wholeE x p]) = _) ∧ rowsM x (renP p at') [wholeE x p] = _
  rw [hr, cost_one h]
  exact ⟨rfl, rfl⟩
theorem parts_law {at1 at2 : List GAttr} (h0 : prightM s p st = true) (h1 : prightM s (renP p at1) st = true) (h2 : prightM s (renP (renP p at1) at2) st = true) (hsz : ∀ t ∈ s.Tables, t.Attrs.length ≤ 20) (hp : PSz p) (hp1 : PSz (renP p at1)) :
    estE s (renP (renP p at1) at2) st = 1000000000 ∨ estE s (renP (renP p at1) at2) st - estE s (renP p at1) st = estE s (renP p at1) st - estE s p st := by
  rw [est_t h0, est_t h1, est_t h2]
  obtain ⟨n0, _⟩ := nd_of h0 hsz hp
  obtain ⟨n1, _⟩ := nd_of h1 hsz hp1
  obtain ⟨e1, e2⟩ := ren_size ⟨s, st⟩ (p := p) (at' := at1) n0.c
  obtain ⟨e3, e4⟩ := ren_size ⟨s, st⟩ (p := renP p at1) (at' := at2) n1.c
  have := n0.r.1
  have := n0.c.1
  have := n0.c.2
  omega
end
theorem right_of_err {s : GSchema} {p : GPlan} {st : GStats} (h : errP s p st = 0) : prightM s p st = true := by
  rcases err_cases s p st with ⟨hr, _⟩ | ⟨_, _, e1, _⟩
  · exact hr
  · rw [e1] at h; cases h
theorem est_all {s : GSchema} (p : GPlan) (st : GStats) (hsz : ∀ t ∈ s.Tables, t.Attrs.length ≤ 20) (hp : PSz p) : 0 ≤ estE s p st ∧ estE s p st ≤ 1000000000 := by
  rcases err_cases s p st with ⟨h, _⟩ | ⟨h, e, _⟩
  · exact est_bd h hsz hp
  · rw [e]; omega
theorem psz_one {a : Int} {p : GPlan} {l : List GTest} {at' : List GAttr} (hp : PSz p) (hl : l.length ≤ 1000) (ha : at'.length ≤ 1000) (hpa : p.Attrs.length ≤ 1000) : PSz (GPl.mk a 0 [p] l [] 0 0 at') := fun m => by
  cases m with
  | zero => exact trivial
  | succ m => exact ⟨by show (1 : Nat) ≤ _; omega, hl, by show (0 : Nat) ≤ _; omega, ha, fun q hq => by rw [List.mem_singleton.1 hq]; exact ⟨hp m, hpa⟩⟩
theorem psz_leaf {a b : Int} {at' : List GAttr} (ha : at'.length ≤ 1000) : PSz (GPl.mk a b [] [] [] 0 0 at') := fun m => by
  cases m with
  | zero => exact trivial
  | succ m => exact ⟨by show (0 : Nat) ≤ _; omega, by show (0 : Nat) ≤ _; omega, by show (0 : Nat) ≤ _; omega, ha, fun q hq => by cases hq⟩
theorem len_zero : PlLenE GPl.zero := fun m => by
  cases m with
  | zero => exact trivial
  | succ m => exact ⟨by show (0 : Nat) ≤ _; omega, fun q hq => by cases hq⟩
/-- A selection of a table. -/
def tabP (t : Int) (at' : List GAttr) : GPlan := GPl.mk 1 t [] [] [] 0 0 at'
def selP (p : GPlan) (l : List GTest) (at' : List GAttr) : GPlan := GPl.mk 2 0 [p] l [] 0 0 at'
theorem selR_le {d : List Int} {r : Int} (h : 0 ≤ r) : ∀ (l : List GTest), 0 ≤ selR d l r ∧ selR d l r ≤ r := by
  intro l
  exact fold_rule (P := fun a => 0 ≤ a ∧ a ≤ r) (fun a ha t ht => by have := share_bd (divM t d) ha.1; exact ⟨this.1, by have := this.2; omega⟩) ⟨h, Int.le_refl _⟩
theorem selR_app {d : List Int} {r : Int} (a b : List GTest) : selR d (a ++ b) r = selR d b (selR d a r) := by unfold selR; rw [List.foldl_append]
theorem sel_size (x : Gplanner) {t : Int} {at' : List GAttr} {l : List GTest} (h : Upto (nth x.st.Rows t.toNat)) :
    ∃ d, (wholeE x (selP (tabP t at') l at')).size.cost = min 1000000000 (nth x.st.Rows t.toNat + selR d l (nth x.st.Rows t.toNat)) ∧ d = (wholeE x (tabP t at')).size.distinct := by
  refine ⟨_, ?_, rfl⟩
  have e1 : (wholeE x (tabP t at')).size.rows = nth x.st.Rows t.toNat := by rw [wholeE_eq]; exact rows_1 (p := tabP t at') (ks := []) rfl
  have e2 : (wholeE x (tabP t at')).size.cost = nth x.st.Rows t.toNat := by
    rw [wholeE_eq]
    show min 1000000000 (costK [] + rowsM x (tabP t at') []) = _
    rw [show rowsM x (tabP t at') [] = nth x.st.Rows t.toNat from rows_1 (p := tabP t at') (ks := []) rfl]
    show min 1000000000 (0 + _) = _
    have := h.2; omega
  rw [wholeE_eq]
  show min 1000000000 (costK [wholeE x (tabP t at')] + rowsM x (selP (tabP t at') l at') [wholeE x (tabP t at')]) = _
  rw [show rowsM x (selP (tabP t at') l at') [wholeE x (tabP t at')] = selR (wholeE x (tabP t at')).size.distinct l (wholeE x (tabP t at')).size.rows from rows_2 (p := selP (tabP t at') l at') (ks := [wholeE x (tabP t at')]) rfl, cost_one (by rw [e2]; exact h), e1, e2]
theorem select_law {s : GSchema} {st : GStats} {t : Int} {at' : List GAttr} {one two : List GTest} (h1 : prightM s (selP (tabP t at') one at') st = true) (ht : t.toNat < s.Tables.length) :
    Upto (nth st.Rows t.toNat) ∧ nth st.Rows t.toNat ≤ estE s (selP (tabP t at') one at') st ∧ estE s (selP (tabP t at') one at') st ≤ min (2 * nth st.Rows t.toNat) 1000000000 ∧
    (prightM s (selP (tabP t at') (one ++ two) at') st = true → nth st.Rows t.toNat ≤ estE s (selP (tabP t at') (one ++ two) at') st ∧ estE s (selP (tabP t at') (one ++ two) at') st ≤ estE s (selP (tabP t at') one at') st) := by
  have hst := (right_st h1).2
  have hu : Upto (nth st.Rows t.toNat) := hst.u _ ht
  obtain ⟨d, e1, hd⟩ := sel_size ⟨s, st⟩ (t := t) (at' := at') (l := one) hu
  obtain ⟨d2, e2, hd2⟩ := sel_size ⟨s, st⟩ (t := t) (at' := at') (l := one ++ two) hu
  have e1 : (wholeE ⟨s, st⟩ (selP (tabP t at') one at')).size.cost = min 1000000000 (nth st.Rows t.toNat + selR d one (nth st.Rows t.toNat)) := e1
  have e2 : (wholeE ⟨s, st⟩ (selP (tabP t at') (one ++ two) at')).size.cost = min 1000000000 (nth st.Rows t.toNat + selR d2 (one ++ two) (nth st.Rows t.toNat)) := e2
  rw [hd2, ← hd, selR_app] at e2
  rw [est_t h1]
  have b1 := selR_le (d := d) hu.1 one
  have b2 := selR_le (d := d) b1.1 two
  have := hu.1
  have := hu.2
  refine ⟨hu, by omega, by omega, fun h2 => ?_⟩
  rw [est_t h2]
  omega
open Go Go.Proofs Go.Proofs.Tryz
theorem Step.frz {X : Type} {C : Cx} {o : Oper} {E : Env} {L R : List SP} {A : X → Ty} {S : X → SP} {B : Ty} (st : Step C o E L A (fun x => S x :: R)) (f : ∀ x, Frz [S x] (A x) B) : Step C o E L (fun _ : Unit => B) (fun _ => R) := fun a w h m n l se s0 fr next Q hk =>
  st a w h m n l se s0 fr next Q fun x v w' h' m' l' se' s' hv => by
    obtain ⟨m1, m2, d12, rfl, s1, s2⟩ := s'
    have hd := PH.disj_join'.1 se'.hm
    refine hk () v w' (h'.join m1) m2 (HL.trans l' ⟨PH.le_join_left _ _, Same.refl _⟩) (se'.freeze d12) ((stars R).mono (PH.le_join_left _ _) s2) (f x h' m1 v hd.1 ⟨m1, PH.emp, PH.disj_emp _, (PH.join_emp _).symm, s1, _root_.rfl⟩ hv)
open Go Go.Proofs Go.Proofs.Tryz
variable {H : Type} {enc : TypeId × Value → H} {W : World}
theorem rd3 : Rd enc Tryz.prog W 3 rInt := Rd.int ty3 Tryz.underlying3
theorem rd9 : Rd enc Tryz.prog W 9 rStr := Rd.str ty9 Tryz.underlying9
theorem rd36 : Rd enc Tryz.prog W 36 (rSl rInt) := Rd.sl ty36 Tryz.underlying36 rd3 (by decide)
theorem rd87 : Rd enc Tryz.prog W 87 rValue where
  k := ty87.cells W
  rd := fun fuel cs x h => by
    obtain ⟨hl, hf⟩ := readStruct so87 h
    obtain ⟨y0, h0⟩ := Rd.at (t := 87) (i := 0) hf rd3 rfl
    obtain ⟨y1, h1⟩ := Rd.at (t := 87) (i := 1) hf rd3 rfl
    obtain ⟨y2, h2⟩ := Rd.at (t := 87) (i := 2) hf rd9 rfl
    refine ⟨⟨y0, y1, y2⟩, SF.rel_of hl fun i f hi => ?_⟩
    match i, hi with
    | 0, hi => cases hi; exact h0
    | 1, hi => cases hi; exact h1
    | 2, hi => cases hi; exact h2
    | n + 3, hi => simp [fsValue] at hi
theorem rd22 : Rd enc Tryz.prog W 22 (rSl rValue) := Rd.sl ty22 Tryz.underlying22 rd87 (by decide)
theorem rd38 : Rd enc Tryz.prog W 38 rAtom where
  k := ty38.cells W
  rd := fun fuel cs x h => by
    obtain ⟨hl, hf⟩ := readStruct so38 h
    obtain ⟨y0, h0⟩ := Rd.at (t := 38) (i := 0) hf rd3 rfl
    obtain ⟨y1, h1⟩ := Rd.at (t := 38) (i := 1) hf rd36 rfl
    obtain ⟨y2, h2⟩ := Rd.at (t := 38) (i := 2) hf rd36 rfl
    obtain ⟨y3, h3⟩ := Rd.at (t := 38) (i := 3) hf rd3 rfl
    refine ⟨⟨y0, y1, y2, y3⟩, SF.rel_of hl fun i f hi => ?_⟩
    match i, hi with
    | 0, hi => cases hi; exact h0
    | 1, hi => cases hi; exact h1
    | 2, hi => cases hi; exact h2
    | 3, hi => cases hi; exact h3
    | n + 4, hi => simp [fsAtom] at hi
theorem rd23 : Rd enc Tryz.prog W 23 (rSl rAtom) := Rd.sl ty23 Tryz.underlying23 rd38 (by decide)
open Go Go.Proofs Go.Proofs.Tryz
theorem run_true {P : Program} {f : Nat} {As : List Ty} {vs : List Value} {W : World} (sp : Fun1 P f As (tV (.bool true))) (hi : Inv (wholeH W)) (ha : Args (wholeH W) As vs) :
    Calls P f vs.toArray W fun e W' => e = .returned (.bool true) ∧ Go.RowKit.Below W.heap.size W W' := by
  have hc := sp vs (wholeH W) PH.emp PH.emp W ha ⟨hi, PH.disj_emp _, PH.disj_emp _, PH.disj_emp _, wholeH_inw W, (fun b o e => by cases e), fun b o e => by cases e⟩ rfl
  refine hc.mono ?_
  rintro e W' ⟨x, v, h', m', rfl, l, s, _, hv⟩
  have hv : v = .bool true := hv
  subst hv
  exact ⟨rfl, below_of l.1 s.hw l.2⟩
section
variable {H : Type} {enc : TypeId × Value → H} {P : Program} {W : World} {base : Nat}
theorem arg_sl {α : Type} {t e : Nat} {R : Rp α} {v : Value} {d : DataW H} {p : List MemPlace} (hu : P.underlying t = some (.slice e)) (hR : Rd enc P W t (rSl R)) (hok : Value.okWide P W .any base t v) (h : DataW.Trod enc P W 0 (fun _ => true) true t v d p) :
    ∃ xs, (tSl R xs).p (wholeH W) v := by
  obtain ⟨a, len, cap, rfl⟩ := Go.WideShapes.okWide_slice hu hok
  obtain ⟨fuel, h⟩ := h
  obtain ⟨xs, u, e1, e2⟩ := hR.rd _ _ _ h
  have : Value.slice a len cap = u := by
    have := (List.cons.inj e1).1
    exact this
  exact ⟨xs, this ▸ e2⟩
theorem sl_len {α : Type} {t e : Nat} {R : Rp α} (hu : P.underlying t = some (.slice e)) {fuel : Nat} {cs : List Value} {x : DataW H × List MemPlace} (h : DataW.trod enc P W 0 (fun _ => true) true fuel t cs = some x) {xs : List α} (r : (rSl R).rel (wholeH W) xs cs) :
    xs.length ≤ 9223372036854775807 ∧ (x.1 = .nil ∧ xs = [] ∨ ∃ el rest, x.1 = .slice el rest ∧ el.length = xs.length) := by
  obtain ⟨u, e1, ao, cap, e2, _⟩ := r
  subst e1; subst e2
  rcases DataW.trod_slice hu h with ⟨h1, h2⟩ | ⟨a, len, cap', elems, rest, n, _, h1, h2, _, hlc, hm, hlen, _⟩
  · have h3 := (Value.slice.inj (List.cons.inj h1).1).2.1
    have h4 : xs = [] := List.eq_nil_of_length_eq_zero h3
    subst h4
    exact ⟨by simp, .inl ⟨by rw [h2], rfl⟩⟩
  · have h3 := (Value.slice.inj (List.cons.inj h1).1).2.1
    refine ⟨?_, .inr ⟨elems.map (·.1), rest.map (·.1), by rw [h2], by rw [List.length_map]; omega⟩⟩
    have : maxLen = 9223372036854775807 := by decide
    omega
/-- A slice that is handed in, and how long what was read is. -/
theorem arg_slL {α : Type} {t e : Nat} {R : Rp α} {v : Value} {d : DataW H} {p : List MemPlace} (hu : P.underlying t = some (.slice e)) (hR : Rd enc P W t (rSl R)) (hok : Value.okWide P W .any base t v) (h : DataW.Trod enc P W 0 (fun _ => true) true t v d p) :
    ∃ xs, (tSl R xs).p (wholeH W) v ∧ (d = .nil ∧ xs = [] ∨ ∃ el rest, d = .slice el rest ∧ el.length = xs.length) := by
  obtain ⟨a, len, cap, rfl⟩ := Go.WideShapes.okWide_slice hu hok
  obtain ⟨fuel, h⟩ := h
  obtain ⟨xs, hr⟩ := hR.rd _ _ _ h
  have hl := (sl_len hu h hr).2
  obtain ⟨u, e1, e2⟩ := hr
  have : Value.slice a len cap = u := (List.cons.inj e1).1
  exact ⟨xs, this ▸ e2, hl⟩
/-- A struct that is handed in. -/
theorem arg_st {α : Type} {t : Nat} {R : Rp α} {v : Value} {d : DataW H} {p : List MemPlace} (hR : Rd enc P W t R) (hg : R.agg = true) (hk : R.k ≠ 1) (h : DataW.Trod enc P W 0 (fun _ => true) true t v d p) :
    ∃ x, (R.ty x).p (wholeH W) v := by
  obtain ⟨fuel, h⟩ := h
  obtain ⟨x, r⟩ := hR.rd _ _ _ h
  refine ⟨x, R.iff.2 ⟨_, r, ?_⟩⟩
  have hl := R.len r
  unfold packV
  rw [hg]
  cases v with
  | agg cs => simp [Value.cells]
  | _ => simp [Value.cells] at hl; exact absurd hl.symm hk
theorem arg_str {t : Nat} {v : Value} {d : DataW H} {p : List MemPlace} (hu : P.underlying t = some .string) (hok : Value.okWide P W .any base t v) (h : DataW.Trod enc P W 0 (fun _ => true) true t v d p) :
    ∃ x : ByteArray, (tV (.string x)).p (wholeH W) v := by
  obtain ⟨x, rfl⟩ := Go.WideShapes.okWide_string hu hok
  exact ⟨x, rfl⟩
end
/-- A conjunction that is handed in. -/
theorem arg_cj {H : Type} {enc : TypeId × Value → H} {W : World} {v : Value} {d : DataW H} {p : List MemPlace} (h : DataW.Trod enc Tryz.prog W 0 (fun _ => true) true 25 v d p) :
    ∃ q : GConj, (rConj.ty q).p (wholeH W) v ∧ q.Atoms.length ≤ 9223372036854775807 := by
  obtain ⟨fuel, h⟩ := h
  obtain ⟨hl, hf⟩ := readStruct so25 h
  obtain ⟨y0, h0⟩ := Rd.at (t := 25) (i := 0) hf rd3 rfl
  obtain ⟨y1, h1⟩ := Rd.at (t := 25) (i := 1) hf rd22 rfl
  obtain ⟨n, z, hz⟩ := hf 2 _ rfl
  obtain ⟨y2, h2⟩ := rd23.rd _ _ _ hz
  have hb := (sl_len Tryz.underlying23 hz h2).1
  have hr : rConj.rel (wholeH W) (⟨y0, y1, y2⟩ : GConj) (Value.cells v).toList := SF.rel_of hl fun i f hi => by
    match i, hi with
    | 0, hi => cases hi; exact h0
    | 1, hi => cases hi; exact h1
    | 2, hi => cases hi; exact h2
    | n + 3, hi => simp [fsConj] at hi
  refine ⟨⟨y0, y1, y2⟩, rConj.iff.2 ⟨_, hr, ?_⟩, hb⟩
  have hl2 := rConj.len hr
  unfold packV
  rw [show rConj.agg = true from rfl]
  cases v with
  | agg cs => simp [Value.cells]
  | _ => simp [Value.cells] at hl2; exact absurd hl2.symm (by decide)
theorem inv_of {W : World} (h : Lib.TabIs Tryz.prog W "internal/strconv.uint64pow10" .u64 Lib.pow10Tab) : Inv (wholeH W) := by
  have hg : Tryz.prog.globalNamed "internal/strconv.uint64pow10" = some tabG := by kernel_rfl
  unfold Lib.TabIs World.var? at h
  rw [hg] at h
  simp only [Option.bind_some] at h
  unfold Inv wholeH
  cases hb : W.heap[tabG]? with
  | none => rw [hb] at h; cases h
  | some o =>
    rw [hb] at h
    cases o with
    | cells cs e fz => exact ⟨e, fz, by injection h with h; rw [h]; rfl⟩
    | _ => cases h
end Lg
namespace Go.Proofs.YtgaclpkapapjdaaGreatDoor
open Go.ChangeShapes Go.WideShapes Go.ChangeAt Go.RowKit
theorem own : ownKnob Tryz.prog.godebug = none := by kernel_rfl
theorem laidOut : laidOutB Tryz.prog = true := by kernel_rfl
theorem size25 : (25 : Nat) < Tryz.prog.types.size := of_decide_eq_true (by kernel_rfl)
theorem rec25 : Tryz.prog.readableRec 25 = true := by kernel_rfl
theorem want25 : Tryz.prog.wantsStandIn 25 = false := by kernel_rfl
/-- What the rows list. -/
abbrev laidL : List (String × DataW Unit) := [("math/bits.deBruijn32tab", Rows.laid_math_bits_deBruijn32tab), ("math/bits.deBruijn64tab", Rows.laid_math_bits_deBruijn64tab), ("internal/strconv.uint64pow10", Rows.laid_internal_strconv_uint64pow10)]
noncomputable def laidWorld (os : Os) : World := World.laidAll Tryz.prog os laidL
theorem tab_of {W : World} (h : laidMet Tryz.prog laidL W) : Lib.TabIs Tryz.prog W "internal/strconv.uint64pow10" .u64 Lib.pow10Tab :=
  Lib.tabIs_of_head (g := Lg.tabG) (t := 388) (e := 232) (n := 20) (rest := []) (by kernel_rfl) (by kernel_rfl) Tryz.underlying388 Tryz.underlying232 (by kernel_rfl) (by kernel_rfl) h.tail.tail
theorem noLooks : true = Tryz.pinned.checked.prog.looks [] := by kernel_rfl
end Go.Proofs.YtgaclpkapapjdaaGreatDoor
namespace Lg
open Go Go.Proofs Go.Proofs.Tryz
theorem arg_int {H : Type} {enc : TypeId × Value → H} {P : Program} {W : World} {base : Nat} {t : Nat} {v : Value} {d : DataW H} {p : List MemPlace} (hu : P.underlying t = some (.int .i64)) (hok : Value.okWide P W .any base t v) (h : DataW.Trod enc P W 0 (fun _ => true) true t v d p) :
    ∃ n : Int, (tV (.int .i64 n)).p (wholeH W) v := by
  obtain ⟨n, rfl⟩ := Go.WideShapes.okWide_int hu hok
  exact ⟨n, rfl⟩
end Lg
namespace Go.Proofs.YtgaclpkapapjdaaGreatDoor
open Go.ChangeShapes Go.WideShapes Go.ChangeAt Go.RowKit
theorem size3 : (3 : Nat) < Tryz.prog.types.size := of_decide_eq_true (by kernel_rfl)
theorem rec3 : Tryz.prog.readableRec 3 = true := by kernel_rfl
theorem want3 : Tryz.prog.wantsStandIn 3 = false := by kernel_rfl
end Go.Proofs.YtgaclpkapapjdaaGreatDoor
namespace Lg
open Go Go.Proofs Go.Proofs.Tryz
section
variable {H : Type} {enc : TypeId × Value → H} {P : Program} {W : World}
/-- Whatever the kit reads at type t is represented by R, and Q holds of it. -/
structure RdQ {α H : Type} (enc : TypeId × Value → H) (P : Program) (W : World) (t : Nat) (R : Rp α) (Q : α → Prop) : Prop where
  k : P.cellsOf t = R.k
  rd : ∀ fuel cs x, DataW.trod enc P W 0 (fun _ => true) true fuel t cs = some x → ∃ y, R.rel (wholeH W) y cs ∧ Q y
theorem RdQ.str {t : Nat} (hT : TyOf P t rStr) (hu : P.underlying t = some .string) : RdQ enc P W t rStr (fun s => s.size ≤ 9223372036854775807) where
  k := hT.cells W
  rd := fun _ _ _ h => by
    obtain ⟨n, rfl, _, hm⟩ := DataW.trod_string hu h
    have : maxLen = 9223372036854775807 := by decide
    exact ⟨n, rfl, by omega⟩
theorem sl_rdQ {α : Type} {t e N : Nat} {R : Rp α} {Q : α → Prop} (hu : P.underlying t = some (.slice e)) (hk : 0 < R.k) (hc : P.cellsOf e = R.k)
    (hR : ∀ n, N = n + 1 → ∀ cs x, DataW.trod enc P W 0 (fun _ => true) true n e cs = some x → ∃ y, R.rel (wholeH W) y cs ∧ Q y) {cs : List Value} {x : DataW H × List MemPlace} (h : DataW.trod enc P W 0 (fun _ => true) true N t cs = some x) :
    ∃ y, (rSl R).rel (wholeH W) y cs ∧ y.length ≤ 9223372036854775807 ∧ ∀ a ∈ y, Q a := by
  rcases DataW.trod_slice hu h with ⟨rfl, _⟩ | ⟨a, len, cap, elems, rest, n, hN, rfl, _, _, hlc, hmx, hlen, hel, _, _⟩
  · exact ⟨[], ⟨_, rfl, none, ⟨0, Nat.le_refl _⟩, rfl, fun q => absurd rfl q⟩, Nat.zero_le _, fun a ha => by cases ha⟩
  have hall : ∀ i : Fin len, ∃ y, (∃ cs, W.cells? 0 (a.add (i.1 * R.k)) R.k = some cs ∧ R.rel (wholeH W) y cs) ∧ Q y := fun i => by
    have h1 := hel i.1 i.2
    rw [List.getElem?_eq_getElem (by omega : i.1 < elems.length), Option.bind_eq_some_iff] at h1
    obtain ⟨cs, h2, h3⟩ := h1
    obtain ⟨y, hy, hq⟩ := hR n hN _ _ h3
    rw [hc] at h2
    exact ⟨y, ⟨cs, h2, hy⟩, hq⟩
  let f : Fin len → α := fun i => Classical.choose (hall i)
  have hf : ∀ i : Fin len, ∃ cs, W.cells? 0 (a.add (i.1 * R.k)) R.k = some cs ∧ R.rel (wholeH W) (f i) cs := fun i => (Classical.choose_spec (hall i)).1
  have hfq : ∀ i : Fin len, Q (f i) := fun i => (Classical.choose_spec (hall i)).2
  have hml : maxLen = 9223372036854775807 := by decide
  refine ⟨List.ofFn f, ⟨_, rfl, some a, ⟨cap, by rw [List.length_ofFn]; exact hlc⟩, by show Value.slice (some a) len cap = Value.slice (some a) (List.ofFn f).length cap; rw [List.length_ofFn], fun hne => ?_⟩, by rw [List.length_ofFn]; omega, fun y hy => ?_⟩
  · have hl0 : 0 < len := by
      rcases Nat.eq_zero_or_pos len with h0 | h0
      · exfalso; apply hne; subst h0; simp
      · exact h0
    have hsp : a.spot = none := by
      obtain ⟨cs, h1, h2⟩ := hf ⟨0, hl0⟩
      obtain ⟨_, h3, h4⟩ := World.cells?_some h1
      have h5 := h4 0 hk
      rw [List.getElem?_eq_getElem (by omega : 0 < cs.length)] at h5
      have h6 : (a.add (0 * R.k)).add 0 = a := by simp [Addr.add]
      rw [h6] at h5
      exact World.cell?_spot h5
    obtain ⟨b, off, sp⟩ := a
    simp only at hsp
    subst hsp
    refine ⟨b, off, rfl, fun i y hy => ?_⟩
    have hi : i < len := by have := (List.getElem?_eq_some_iff.1 hy).1; simpa using this
    have hy' : f ⟨i, hi⟩ = y := by
      rw [List.getElem?_eq_getElem (by simpa using hi)] at hy
      simpa using hy
    obtain ⟨cs, h1, h2⟩ := hf ⟨i, hi⟩
    obtain ⟨_, h3, h4⟩ := World.cells?_some h1
    rw [hy'] at h2
    refine ⟨cs, cell_holds hk h3 fun j hj => ?_, h2⟩
    have := h4 j hj
    simp only [addr_add] at this
    exact this
  · obtain ⟨i, rfl⟩ := (List.mem_ofFn).1 hy
    exact hfq i
theorem RdQ.sl {α : Type} {t e : Nat} {R : Rp α} {Q : α → Prop} (hT : TyOf P t (rSl R)) (hu : P.underlying t = some (.slice e)) (hR : RdQ enc P W e R Q) (hk : 0 < R.k) : RdQ enc P W t (rSl R) (fun xs => xs.length ≤ 9223372036854775807 ∧ ∀ a ∈ xs, Q a) where
  k := hT.cells W
  rd := fun fuel cs x h => sl_rdQ hu hk hR.k (fun n _ cs x hx => hR.rd n cs x hx) h
theorem RdQ.at {α β : Type} {t : Nat} {fs : List (SF α)} {cs : List Value} {i : Nat} {T : Nat} {R : Rp β} {Q : β → Prop} {get : α → β} (hf : ∀ (i : Nat) (f : SF α), fs[i]? = some f → ∃ n z, DataW.trod enc P W 0 (fun _ => true) true n f.T ((cs.drop (SF.off fs i)).take f.R.k) = some z)
    (hR : RdQ enc P W T R Q) (hi : fs[i]? = some ⟨β, T, R, get⟩) : ∃ y, R.rel (wholeH W) y ((cs.drop (SF.off fs i)).take R.k) ∧ Q y := by
  obtain ⟨n, z, hz⟩ := hf i _ hi
  exact hR.rd _ _ _ hz
end
section
variable {H : Type} {enc : TypeId × Value → H} {W : World}
def strQ (s : ByteArray) : Prop := s.size ≤ 9223372036854775807
def attrQ (a : GAttr) : Prop := strQ a.Name ∧ ∀ x ∈ a.Was, strQ x
theorem rq9 : RdQ enc Tryz.prog W 9 rStr strQ := RdQ.str ty9 Tryz.underlying9
theorem rq85 : RdQ enc Tryz.prog W 85 (rSl rStr) (fun xs => xs.length ≤ 9223372036854775807 ∧ ∀ a ∈ xs, strQ a) := RdQ.sl ty85 Tryz.underlying85 rq9 (by decide)
theorem rq89 : RdQ enc Tryz.prog W 89 rAttr attrQ where
  k := ty89.cells W
  rd := fun fuel cs x h => by
    obtain ⟨hl, hf⟩ := readStruct so89 h
    obtain ⟨y0, h0, q0⟩ := RdQ.at (t := 89) (i := 0) hf rq9 rfl
    obtain ⟨y1, h1⟩ := Rd.at (t := 89) (i := 1) hf rd3 rfl
    obtain ⟨y2, h2, q2⟩ := RdQ.at (t := 89) (i := 2) hf rq85 rfl
    obtain ⟨y3, h3⟩ := Rd.at (t := 89) (i := 3) hf rd87 rfl
    refine ⟨⟨y0, y1, y2, y3⟩, SF.rel_of hl fun i f hi => ?_, q0, q2.2⟩
    match i, hi with
    | 0, hi => cases hi; exact h0
    | 1, hi => cases hi; exact h1
    | 2, hi => cases hi; exact h2
    | 3, hi => cases hi; exact h3
    | n + 4, hi => simp [fsAttr] at hi
theorem rq44 : RdQ enc Tryz.prog W 44 (rSl rAttr) (fun xs => xs.length ≤ 9223372036854775807 ∧ ∀ a ∈ xs, attrQ a) := RdQ.sl ty44 Tryz.underlying44 rq89 (by decide)
theorem rd44 : Rd enc Tryz.prog W 44 (rSl rAttr) := ⟨ty44.cells W, fun f cs x h => let ⟨y, hy, _⟩ := (rq44 (enc := enc) (W := W)).rd f cs x h; ⟨y, hy⟩⟩
theorem rq76 : RdQ enc Tryz.prog W 76 rTable (fun t => ∀ a ∈ t.Attrs, attrQ a) where
  k := ty76.cells W
  rd := fun fuel cs x h => by
    obtain ⟨hl, hf⟩ := readStruct so76 h
    obtain ⟨y0, h0⟩ := Rd.at (t := 76) (i := 0) hf rd9 rfl
    obtain ⟨y1, h1, q1⟩ := RdQ.at (t := 76) (i := 1) hf rq44 rfl
    obtain ⟨y2, h2⟩ := Rd.at (t := 76) (i := 2) hf rd36 rfl
    refine ⟨⟨y0, y1, y2⟩, SF.rel_of hl fun i f hi => ?_, q1.2⟩
    match i, hi with
    | 0, hi => cases hi; exact h0
    | 1, hi => cases hi; exact h1
    | 2, hi => cases hi; exact h2
    | n + 3, hi => simp [fsTable] at hi
theorem rq39 : RdQ enc Tryz.prog W 39 (rSl rTable) (fun xs => xs.length ≤ 9223372036854775807 ∧ ∀ t ∈ xs, ∀ a ∈ t.Attrs, attrQ a) := RdQ.sl ty39 Tryz.underlying39 rq76 (by decide)
theorem rq41 : RdQ enc Tryz.prog W 41 rSchema (fun s => ∀ t ∈ s.Tables, ∀ a ∈ t.Attrs, attrQ a) where
  k := ty41.cells W
  rd := fun fuel cs x h => by
    obtain ⟨hl, hf⟩ := readStruct so41 h
    obtain ⟨y0, h0, q0⟩ := RdQ.at (t := 41) (i := 0) hf rq39 rfl
    refine ⟨⟨y0⟩, SF.rel_of hl fun i f hi => ?_, q0.2⟩
    match i, hi with
    | 0, hi => cases hi; exact h0
    | n + 1, hi => simp [fsSchema] at hi
theorem rd91 : Rd enc Tryz.prog W 91 rSide where
  k := ty91.cells W
  rd := fun fuel cs x h => by
    obtain ⟨hl, hf⟩ := readStruct so91 h
    obtain ⟨y0, h0⟩ := Rd.at (t := 91) (i := 0) hf rd3 rfl
    obtain ⟨y1, h1⟩ := Rd.at (t := 91) (i := 1) hf rd3 rfl
    obtain ⟨y2, h2⟩ := Rd.at (t := 91) (i := 2) hf rd87 rfl
    refine ⟨⟨y0, y1, y2⟩, SF.rel_of hl fun i f hi => ?_⟩
    match i, hi with
    | 0, hi => cases hi; exact h0
    | 1, hi => cases hi; exact h1
    | 2, hi => cases hi; exact h2
    | n + 3, hi => simp [fsSide] at hi
theorem rd93 : Rd enc Tryz.prog W 93 rTest where
  k := ty93.cells W
  rd := fun fuel cs x h => by
    obtain ⟨hl, hf⟩ := readStruct so93 h
    obtain ⟨y0, h0⟩ := Rd.at (t := 93) (i := 0) hf rd91 rfl
    obtain ⟨y1, h1⟩ := Rd.at (t := 93) (i := 1) hf rd3 rfl
    obtain ⟨y2, h2⟩ := Rd.at (t := 93) (i := 2) hf rd91 rfl
    obtain ⟨y3, h3⟩ := Rd.at (t := 93) (i := 3) hf rd3 rfl
    refine ⟨⟨y0, y1, y2, y3⟩, SF.rel_of hl fun i f hi => ?_⟩
    match i, hi with
    | 0, hi => cases hi; exact h0
    | 1, hi => cases hi; exact h1
    | 2, hi => cases hi; exact h2
    | 3, hi => cases hi; exact h3
    | n + 4, hi => simp [fsTest] at hi
theorem rd43 : Rd enc Tryz.prog W 43 (rSl rTest) := Rd.sl ty43 Tryz.underlying43 rd93 (by decide)
theorem len_le : ∀ {m n : Nat} {p : GPlan}, Dep m p → PlLen m p → m ≤ n → PlLen n p
  | 0, _, _, hd, _, _ => hd.elim
  | m + 1, 0, _, _, _, h => absurd h (by omega)
  | m + 1, n + 1, p, hd, ⟨h1, h2⟩, h => ⟨h1, fun q hq => len_le (hd q hq) (h2 q hq) (by omega)⟩
theorem pl_rdQ : ∀ (N : Nat) {cs : List Value} {x : DataW H × List MemPlace}, DataW.trod enc Tryz.prog W 0 (fun _ => true) true N 46 cs = some x → ∃ y, (rPlan N).rel (wholeH W) y cs ∧ PlLen N y := by
  intro N
  induction N using Nat.strongRecOn with
  | ind N ih =>
    intro cs x h
    obtain ⟨n, rfl, hl, hf⟩ := st_rd (so46 (n := 0)) h
    obtain ⟨z0, e0⟩ := hf 0 _ rfl
    obtain ⟨z1, e1⟩ := hf 1 _ rfl
    obtain ⟨z2, e2⟩ := hf 2 _ rfl
    obtain ⟨z3, e3⟩ := hf 3 _ rfl
    obtain ⟨z4, e4⟩ := hf 4 _ rfl
    obtain ⟨z5, e5⟩ := hf 5 _ rfl
    obtain ⟨z6, e6⟩ := hf 6 _ rfl
    obtain ⟨z7, e7⟩ := hf 7 _ rfl
    obtain ⟨y0, h0⟩ := rd3.rd _ _ _ e0
    obtain ⟨y1, h1⟩ := rd3.rd _ _ _ e1
    obtain ⟨y2, h2, q2⟩ := sl_rdQ (R := rPlan n) (Q := PlLen n) Tryz.underlying42 (by rw [show (rPlan n).k = 8 from rPl_k _ _ _ n]; omega) (by rw [show (rPlan n).k = 8 from rPl_k _ _ _ n]; exact (ty46 (n := 0)).cells W) (fun m hm cs x hx => by
      obtain ⟨y, hy, hq⟩ := ih m (by omega) hx
      exact ⟨y, rPl_le cPl rAttr rTest (by omega) hy, len_le (pl_dep hy) hq (by omega)⟩) e2
    obtain ⟨y3, h3⟩ := rd43.rd _ _ _ e3
    obtain ⟨y4, h4⟩ := rd36.rd _ _ _ e4
    obtain ⟨y5, h5⟩ := rd3.rd _ _ _ e5
    obtain ⟨y6, h6⟩ := rd3.rd _ _ _ e6
    obtain ⟨y7, h7⟩ := rd44.rd _ _ _ e7
    refine ⟨GPl.mk y0 y1 y2 y3 y4 y5 y6 y7, SF.rel_of (fs := fsPl cPl rAttr rTest (rPlan n)) hl fun i f hi => ?_, q2⟩
    match i, hi with
    | 0, hi => cases hi; exact h0
    | 1, hi => cases hi; exact h1
    | 2, hi => cases hi; exact h2
    | 3, hi => cases hi; exact h3
    | 4, hi => cases hi; exact h4
    | 5, hi => cases hi; exact h5
    | 6, hi => cases hi; exact h6
    | 7, hi => cases hi; exact h7
    | n + 8, hi => simp [fsPl] at hi
end
theorem val_of {α H : Type} {enc : TypeId × Value → H} {W : World} {t : Nat} {R : Rp α} {v : Value} {x : α} (r : R.rel (wholeH W) x (Value.cells v).toList) (hg : R.agg = true) (hk : R.k ≠ 1) : (R.ty x).p (wholeH W) v := by
  refine R.iff.2 ⟨_, r, ?_⟩
  have hl := R.len r
  unfold packV
  rw [hg]
  cases v with
  | agg cs => simp [Value.cells]
  | _ => simp [Value.cells] at hl; exact absurd hl.symm hk
set_option maxRecDepth 100000 in
/-- A schema that is handed in. -/
theorem arg_sc {H : Type} {enc : TypeId × Value → H} {W : World} {base : Nat} {v : Value} {d : DataW H} {p : List MemPlace} (hok : Value.okWide Tryz.prog W .any base 41 v) (h : DataW.Trod enc Tryz.prog W 0 (fun _ => true) true 41 v d p) :
    ∃ s : GSchema, (rSchema.ty s).p (wholeH W) v ∧ ∀ t ∈ s.Tables, ∀ x ∈ namesL t.Attrs, x.size ≤ 9223372036854775807 := by
  simp only [Value.okWide, Tryz.underlying41] at hok
  obtain ⟨cs, rfl, _⟩ := hok
  obtain ⟨fuel, h⟩ := h
  obtain ⟨s, r, hq⟩ := rq41.rd _ _ _ h
  refine ⟨s, ?_, fun t ht x hx => ?_⟩
  · refine rSchema.iff.2 ⟨_, r, ?_⟩
    unfold packV
    rw [show rSchema.agg = true from rfl]
    simp [Value.cells]
  · unfold namesL at hx
    obtain ⟨a, ha, hx⟩ := List.mem_flatMap.1 hx
    have := hq t ht a ha
    rcases List.mem_cons.1 hx with rfl | hx
    · exact this.1
    · exact this.2 x hx
/-- A query that is handed in. -/
theorem arg_pl {H : Type} {enc : TypeId × Value → H} {W : World} {v : Value} {d : DataW H} {p : List MemPlace} (h : DataW.Trod enc Tryz.prog W 0 (fun _ => true) true 46 v d p) :
    ∃ (n : Nat) (q : GPlan), ((rPlan n).ty q).p (wholeH W) v ∧ PlLen n q ∧ Dep n q := by
  obtain ⟨fuel, h⟩ := h
  obtain ⟨q, r, hq⟩ := pl_rdQ fuel h
  exact ⟨fuel, q, val_of (enc := enc) (t := 46) r (rPl_agg _ _ _ _) (by rw [show (rPlan fuel).k = 8 from rPl_k _ _ _ fuel]; omega), hq, pl_dep r⟩
end Lg
namespace Go.Proofs.YtgaclpkapapjdaaGreatDoor
open Go.ChangeShapes Go.WideShapes Go.ChangeAt Go.RowKit
theorem size41 : (41 : Nat) < Tryz.prog.types.size := of_decide_eq_true (by kernel_rfl)
theorem rec41 : Tryz.prog.readableRec 41 = true := by kernel_rfl
theorem want41 : Tryz.prog.wantsStandIn 41 = false := by kernel_rfl
end Go.Proofs.YtgaclpkapapjdaaGreatDoor
namespace Lg
open Go Go.Proofs Go.Proofs.Tryz
section
variable {H : Type} {enc : TypeId × Value → H} {W : World}
theorem rq3 : RdQ enc Tryz.prog W 3 rInt (fun _ => True) := ⟨ty3.cells W, fun f cs x h => let ⟨y, hy⟩ := (rd3 (enc := enc) (W := W)).rd f cs x h; ⟨y, hy, trivial⟩⟩
theorem rq36 : RdQ enc Tryz.prog W 36 (rSl rInt) (fun xs => xs.length ≤ 9223372036854775807 ∧ ∀ a ∈ xs, True) := RdQ.sl ty36 Tryz.underlying36 rq3 (by decide)
theorem rq58 : RdQ enc Tryz.prog W 58 (rSl (rSl rInt)) (fun xs => xs.length ≤ 9223372036854775807 ∧ ∀ a ∈ xs, a.length ≤ 9223372036854775807 ∧ ∀ b ∈ a, True) := RdQ.sl ty58 Tryz.underlying58 rq36 (by decide)
theorem rq60 : RdQ enc Tryz.prog W 60 rStats (fun s => s.Distinct.length ≤ 9223372036854775807) where
  k := ty60.cells W
  rd := fun fuel cs x h => by
    obtain ⟨hl, hf⟩ := readStruct so60 h
    obtain ⟨y0, h0⟩ := Rd.at (t := 60) (i := 0) hf rd36 rfl
    obtain ⟨y1, h1, q1⟩ := RdQ.at (t := 60) (i := 1) hf rq58 rfl
    refine ⟨⟨y0, y1⟩, SF.rel_of hl fun i f hi => ?_, q1.1⟩
    match i, hi with
    | 0, hi => cases hi; exact h0
    | 1, hi => cases hi; exact h1
    | n + 2, hi => simp [fsStats] at hi
theorem rq87 : RdQ enc Tryz.prog W 87 rValue (fun _ => True) := ⟨ty87.cells W, fun f cs x h => let ⟨y, hy⟩ := (rd87 (enc := enc) (W := W)).rd f cs x h; ⟨y, hy, trivial⟩⟩
theorem rq22 : RdQ enc Tryz.prog W 22 (rSl rValue) (fun xs => xs.length ≤ 9223372036854775807 ∧ ∀ a ∈ xs, True) := RdQ.sl ty22 Tryz.underlying22 rq87 (by decide)
theorem rq73 : RdQ enc Tryz.prog W 73 (rSl (rSl rValue)) (fun xs => xs.length ≤ 9223372036854775807 ∧ ∀ a ∈ xs, a.length ≤ 9223372036854775807 ∧ ∀ b ∈ a, True) := RdQ.sl ty73 Tryz.underlying73 rq22 (by decide)
end
theorem arg_sx {H : Type} {enc : TypeId × Value → H} {W : World} {base : Nat} {v : Value} {d : DataW H} {p : List MemPlace} (h : DataW.Trod enc Tryz.prog W 0 (fun _ => true) true 60 v d p) :
    ∃ s : GStats, (rStats.ty s).p (wholeH W) v ∧ s.Distinct.length ≤ 9223372036854775807 := by
  obtain ⟨fuel, h⟩ := h
  obtain ⟨s, r, hq⟩ := rq60.rd _ _ _ h
  exact ⟨s, val_of (enc := enc) (t := 60) r rfl (by decide), hq⟩
theorem arg_pe {H : Type} {enc : TypeId × Value → H} {W : World} {v : Value} {d : DataW H} {p : List MemPlace} (h : DataW.Trod enc Tryz.prog W 0 (fun _ => true) true 46 v d p) :
    ∃ q : GPlan, (rPlS.ty q).p (wholeH W) v ∧ PlLenE q := by
  obtain ⟨n, q, hv, hl, hd⟩ := arg_pl h
  exact ⟨q, Sub.pn _ _ hv, len_all hd hl⟩
end Lg
namespace Go.Proofs.YtgaclpkapapjdaaGreatDoor
open Go.ChangeShapes Go.WideShapes Go.ChangeAt Go.RowKit
theorem size60 : (60 : Nat) < Tryz.prog.types.size := of_decide_eq_true (by kernel_rfl)
theorem rec60 : Tryz.prog.readableRec 60 = true := by kernel_rfl
theorem want60 : Tryz.prog.wantsStandIn 60 = false := by kernel_rfl
theorem size43 : (43 : Nat) < Tryz.prog.types.size := of_decide_eq_true (by kernel_rfl)
theorem rec43 : Tryz.prog.readableRec 43 = true := by kernel_rfl
theorem want43 : Tryz.prog.wantsStandIn 43 = false := by kernel_rfl
end Go.Proofs.YtgaclpkapapjdaaGreatDoor
