/- A part of the proofs of the laws of cleanselaw33 and cleanselaw36: contracts of functions that the law reaches, and facts about what they compute. -/
import Derived.Test.YtecikhenhjphfaaGreatDoorC
import Derived.RecoverIn
import Derived.Tactics
import Derived.Tactics2
import Derived.Defers
import Derived.Laws.Pointers
import Derived.Laws.LoneSync
import Derived.Laws.NewBlocks
import Derived.RegionTactic
import Derived.RegionCalls
import Derived.ChangeAlike
import Derived.Laws.CopyRow
import Derived.Shelf.Strconv.Itoa3
import Derived.Shelf.GgClosure.Gives
import Derived.Test.YtecikhenhjphfaaGreatDoorProg
import Derived.Ground.NamesProg
set_option linter.unusedVariables false
set_option linter.unusedSimpArgs false
set_option linter.unusedSectionVars false
namespace Lg
open Go Go.Proofs Go.Proofs.Tryz
theorem CompareRows_spec (x y : LV) (hx : x.length ≤ 4398046511104) (hy : y.length ≤ 4398046511104) : Fun1 prog 56 [tSl rValue x, tSl rValue y] (tV (.int .i64 (cmpR x y))) := by
  intro vs h m r w ha sp st
  match vs, ha with
  | [u, u'], ⟨a1, a2, _⟩ =>
  refine (cmpR_calls x y hx hy u u' h w sp.hw a1 a2).mono ?_
  rintro e w' ⟨rfl, q, os, rfl⟩
  exact ⟨(), _, h, m, rfl, HL.same ⟨rfl, rfl, rfl⟩, ⟨sp.inv, sp.hm, sp.hr, sp.mr, inw_grow sp.hw q os, inw_grow sp.mw q os, inw_grow sp.rw q os⟩, st, rfl⟩
def leR (a b : LV) : Bool := decide (cmpR a b ≤ 0)
def sortR (l : List LV) : List LV := l.mergeSort leR
theorem leR_tot (a b : LV) : (leR a b || leR b a) = true := by
  unfold leR
  have := c3_R.anti (a := a) (b := b)
  have := c3_R.anti (a := b) (b := a)
  simp only [Bool.or_eq_true, decide_eq_true_eq]; omega
theorem leR_trans (a b c : LV) (h1 : leR a b = true) (h2 : leR b c = true) : leR a c = true := by
  unfold leR at *
  simp only [decide_eq_true_eq] at *
  have e1 := c3_R.eq (a := a) (b := b)
  have e2 := c3_R.eq (a := b) (b := c)
  by_cases h3 : cmpR a b = 0
  · rw [e1.1 h3]; exact h2
  · by_cases h4 : cmpR b c = 0
    · rw [← e2.1 h4]; exact h1
    · have := c3_R.tr (a := a) (b := b) (d := c) (by omega) (by omega)
      omega
theorem leR_anti {a b : LV} (h1 : leR a b = true) (h2 : leR b a = true) : a = b := by
  unfold leR at *
  simp only [decide_eq_true_eq] at *
  have := c3_R.anti (a := a) (b := b)
  exact c3_R.eq.1 (by omega)
theorem sortR_perm (l : List LV) : (sortR l).Perm l := List.mergeSort_perm _ _
theorem sortR_sorted (l : List LV) : (sortR l).Pairwise fun a b => leR a b = true := List.pairwise_mergeSort leR_trans leR_tot l
theorem sortR_len (l : List LV) : (sortR l).length = l.length := (sortR_perm l).length_eq
theorem sortR_of {xs ys : List LV} (hp : ys.Perm xs) (hs : ys.Pairwise fun a b => ¬ cmpR b a < 0) : ys = sortR xs :=
  (hp.trans (sortR_perm xs).symm).eq_of_pairwise (le := fun a b => leR a b = true) (fun a b _ _ h1 h2 => leR_anti h1 h2) (hs.imp fun {a b} h => by
    unfold leR
    have := c3_R.anti (a := b) (b := a)
    simp only [decide_eq_true_eq]; omega) (sortR_sorted xs)
/-- The rows of a table, in order, each once. -/
def setR (l : List LV) : List LV := compM (sortR l)
theorem setR_len (l : List LV) : (setR l).length ≤ l.length := Nat.le_trans (comp_len (sortR l) (sortR l).length) (Nat.le_of_eq (sortR_len l))
theorem mem_compI {l : List LV} {n : Nat} (hn : n ≤ l.length) {x : LV} (h : x ∈ compI l n) : x ∈ l := by
  unfold compI at h
  simp only [List.mem_map, List.mem_filter, List.mem_range] at h
  obtain ⟨i, ⟨hi, _⟩, rfl⟩ := h
  exact nth_mem (by omega)
theorem setR_sub {l : List LV} {x : LV} (h : x ∈ setR l) : x ∈ l := (sortR_perm l).mem_iff.1 (mem_compI (Nat.le_refl _) h)
theorem eqR_iff {x y : LV} : decide (cmpR x y = 0) = decide (x = y) := by rw [decide_eq_decide]; exact c3_R.eq
theorem SortRowsM_spec (v : Value) (xs : List LV) (hx : ∀ e ∈ xs, e.length ≤ 4398046511104) (hn : xs.length ≤ 1000000000) : Spec (X := Unit) prog 55 [rV.ty v, tV (.func (.func 56) #[] #[])] [own 45 (rSl rValue) v xs] (fun _ => tTup []) (fun _ => [own 45 (rSl rValue) v (sortR xs)]) := by
  intro vs h0 m r w ha sp st
  refine (SortRows_spec v xs hx hn vs h0 m r w ha sp st).mono ?_
  rintro e w' ⟨⟨ys, hp, hs⟩, u, h', m', rfl, l, s, st', hu⟩
  have := sortR_of hp hs
  subst this
  exact ⟨(), u, h', m', rfl, l, s, st', hu⟩
theorem eqRowA_spec (x y : LV) (hx : x.length ≤ 4398046511104) (hy : y.length ≤ 4398046511104) : Fun1 prog 58 [tSl rValue x, tSl rValue y] (tV (.bool (decide (x = y)))) := by
 refine Spec.enter func58 rfl rfl fun h0 w0 fr0 => ?_
 refine Jr (Ja rfl (JL_nil (Jr (Jm rfl (Jm rfl ?_)))))
 refine Js rfl (step_call0 (CompareRows_spec _ _ hx hy) ⟨Sr, Sr, trivial⟩ call56) (Js rfl (step_eql Sr Sr) (Ja rfl (JL_nil (J_ret ?_))))
 refine K_ret1 (t := 4) rfl () (Sub.bool ?_)
 exact eqR_iff
theorem CloneRows_spec (l : List LV) (hl : l.length ≤ 1000000000) : Spec (X := Value) prog 54 [tSl (rSl rValue) l] ([]) (fun v => rV.ty v) (fun v => [own 45 (rSl rValue) v l]) := by
 refine Spec.enter func54 rfl rfl fun h0 w0 fr0 => ?_
 refine Jr (Ja rfl (JL_nil (J_seq (Jr (Jm rfl ?_)))))
 refine Jx rfl (step_eql_slnil underlying38 Sr) fun v4 => ?_
 refine JL_nil ?_
 refine J_cond Sr (fun h4 => ?_) (fun h4 => ?_)
 ·
  try simp only [NF] at h4
  refine Jr (Ja rfl (JL_nil (J_ret ?_)))
  have hl0 := v4.2 h4
  subst hl0
  refine K_lsub (LSub.nilown (e := 45) (R := rSl rValue)) ?_
  refine K_ret1' (rv := .tmp 2) rfl (.slice none 0 0) (Sel.none _) (.tmp (Sub.rV rfl)) (Frz.sub Sr)
 try simp only [NF] at h4
 refine J_skip (Jr ?_)
 refine Jx rfl (step_literal_own (ys := []) underlying38 el45 trivial rfl (by decide)) fun v5 => ?_
 refine Jm rfl ?_
 refine Jx rfl (step_append underlying38 el45 Sr Sr zS (by simp; omega) (by simp; omega)) fun v7 => ?_
 refine Ja rfl (JL_nil (J_ret ?_))
 refine K_ret1' (rv := .tmp 2) rfl v7 (Sel.none _) (.tmp Sr) (Frz.sub Sr)
theorem CloneRow_spec (l : LV) (hl : l.length ≤ 4398046511104) : Spec (X := Value) prog 27 [tSl rValue l] ([]) (fun v => rV.ty v) (fun v => [own 62 rValue v l]) := by
 refine Spec.enter func27 rfl rfl fun h0 w0 fr0 => ?_
 refine Jr (Ja rfl (JL_nil (J_seq (Jr (Jm rfl ?_)))))
 refine Jx rfl (step_eql_slnil underlying45 Sr) fun v4 => ?_
 refine JL_nil ?_
 refine J_cond Sr (fun h4 => ?_) (fun h4 => ?_)
 ·
  try simp only [NF] at h4
  refine Jr (Ja rfl (JL_nil (J_ret ?_)))
  have hl0 := v4.2 h4
  subst hl0
  refine K_lsub (LSub.nilown (e := 62) (R := rValue)) ?_
  refine K_ret1' (rv := .tmp 2) rfl (.slice none 0 0) (Sel.none _) (.tmp (Sub.rV rfl)) (Frz.sub Sr)
 try simp only [NF] at h4
 refine J_skip (Jr ?_)
 refine Jx rfl (step_literal_own (ys := []) underlying45 el62 trivial rfl (by decide)) fun v5 => ?_
 refine Jm rfl ?_
 refine Jx rfl (step_append underlying45 el62 Sr Sr zS (by simp; omega) (by simp; omega)) fun v7 => ?_
 refine Ja rfl (JL_nil (J_ret ?_))
 refine K_ret1' (rv := .tmp 2) rfl v7 (Sel.none _) (.tmp Sr) (Frz.sub Sr)
theorem setA_spec (l : List LV) (hl : l.length ≤ 1000000000) (hr : ∀ e ∈ l, e.length ≤ 4398046511104) : Spec (X := Value) prog 28 [tSl (rSl rValue) l] ([]) (fun z => rV.ty z) (fun z => [own 45 (rSl rValue) z (setR l)]) := by
 refine Spec.enter func28 rfl rfl fun h0 w0 fr0 => ?_
 refine Jr (Ja rfl (JL_nil (Jr (Jm rfl ?_))))
 refine Jx rfl (step_call (Sel.none _) (CloneRows_spec l hl) ⟨Sr, trivial⟩ call54) fun v5 => ?_
 refine Ja rfl (JL_nil (Jr (Jm rfl ?_)))
 refine Jx rfl (step_call (Sel.take (Sel.none _)) (SortRowsM_spec v5 l hr hl) ⟨Sr, Sr, trivial⟩ call55) fun v7 => ?_
 refine JL_nil (Jr (Jm rfl ?_))
 refine Jx rfl (step_call (Sel.take (Sel.none _)) (CompactRows_spec v5 (sortR l) (by rw [sortR_len]; exact hl) 58 (fun x y hx hy => eqRowA_spec x y (hr x ((sortR_perm l).mem_iff.1 hx)) (hr y ((sortR_perm l).mem_iff.1 hy))) call58) ⟨Sr, Sr, trivial⟩ call57) fun v9 => ?_
 refine Ja rfl (JL_nil (J_ret ?_))
 refine K_retv (rv := .tmp 2) rfl v9 (.tmp Sr) Sr
end Lg
namespace Go.Proofs
open Go
theorem recNil (x y : Value) (w : World) : CallsDIn Fence.wide 0 Tryz.prog 34 #[x, y] .returning w fun e u' w' => e = .returned (.tuple #[]) ∧ u' = .returning ∧ w' = w := by
  refine callsDIn_of_wpSIn Tryz.func34 rfl trivial fun c₀ cs hu => ?_
  apply wpSIn_seq
  apply wpSIn_region
  simp [wpOpsSIn, go_sem, recoverD, hu, Tryz.ntmps34, Exit.thenS]
  apply wpSIn_seq
  apply wpSIn_region
  simp [wpOpsSIn, go_sem, recoverD, hu, Tryz.ntmps34, Exit.thenS]
  refine wpSIn_cond (t := false) (by simp [Act.eval, Array.replicate]) ?_
  simp only [Bool.false_eq_true, if_false]
  refine wpSIn_of_wpIn rfl (wpIn_skip ?_)
  cases c₀
  simp_all [bodyPostS, results, Tryz.results34]
end Go.Proofs
namespace Lg
open Go
theorem JL_defer {P : Program} {N : Nat} {ds : List Deferred} {h0 : PH} {w0 : World} {r : PH} {ops : Array Oper} {rest : List Oper} {Q : Exit → Act → World → Prop} {E : Env} {L : List SP} {x : Operand} {f : Nat} {cap : List Value} {ty : Nat} {pos : String} {af : Array Edge}
    (hx : Sub (opTy E x) (tV (.func (.func f) #[] cap.toArray))) (hk : JL ⟨P, none, N, ⟨.fn (.func f) cap.toArray, #[]⟩ :: ds, h0, w0, r⟩ ops rest Q E L) :
    JL ⟨P, none, N, ds, h0, w0, r⟩ ops (⟨none, .defer { callee := .value x, args := #[], argTypes := #[] }, ty, pos, af, none⟩ :: rest) Q E L := fun a w ⟨n, hds, h, m, l, sp, st, fr⟩ => by
  refine wpListIn_plain rfl fun K hK => ⟨fun _ _ => trivial, ?_⟩
  have hv : a.eval x = .func (.func f) #[] cap.toArray := fr.get hx
  have hr : (execOp a.eval ⟨none, .defer { callee := .value x, args := #[], argTypes := #[] }, ty, pos, af, none⟩).run P w = .ok (.defer ⟨.fn (.func f) cap.toArray, #[]⟩) w := by
    simp [execOp, resolve, hv, Deferred.ofValue]
  show Oper.uponIn (Fw none) 0 P ⟨none, .defer { callee := .value x, args := #[], argTypes := #[] }, ty, pos, af, none⟩ a K Q ((execOp a.eval ⟨none, .defer { callee := .value x, args := #[], argTypes := #[] }, ty, pos, af, none⟩).run P w)
  rw [hr]
  exact hK _ _ (hk _ w ⟨n, by show _ :: a.defers = _; rw [hds], h, m, l, sp, st, fr⟩)
theorem K_deferNil {P : Program} {fn : Func} {N : Nat} {ds : List Deferred} {h0 : PH} {w0 : World} {r : PH} {RR : Ending → World → Prop} {E : Env} {L : List SP} {f : Nat} {cap : List Value}
    (hi : ∀ w, (callFunc f cap.toArray).run P w = .ok (.enter f cap.toArray) w) (hc : ∀ w, CallsDIn Fence.wide 0 P f cap.toArray .returning w fun e u' w' => e = .returned (.tuple #[]) ∧ u' = .returning ∧ w' = w)
    (hk : K ⟨P, none, N, ds, h0, w0, r⟩ (bodyPostM Fence.wide 0 P fn RR .ret) E L) :
    K ⟨P, none, N, ⟨.fn (.func f) cap.toArray, #[]⟩ :: ds, h0, w0, r⟩ (bodyPostM Fence.wide 0 P fn RR .ret) E L := fun a w ⟨n, hds, h, m, le, sp, st, fr⟩ => by
  show LeavesInM Fence.wide 0 P fn a.tmps RR a.defers .returning w
  rw [hds]
  refine ⟨by simp, .inr ⟨fun q => absurd q (by simp [Fence.wide]), .func f, cap.toArray, f, cap.toArray, rfl, ?_, fun _ _ => trivial, ?_⟩⟩
  · show (callFunc f (#[] ++ cap.toArray)).run P w = _
    rw [Array.empty_append]; exact hi w
  · refine (hc w).mono ?_
    rintro e u' w' ⟨rfl, rfl, rfl⟩
    exact hk { a with defers := ds } _ ⟨n, rfl, h, m, le, sp, st, fr⟩
open Go Go.Proofs Go.Proofs.Tryz
theorem mapI_one {h : PH} {m : List (Int × Gkind)} {v : Value} (hv : (tMapI kvI rkind m).p h v) : v.oneCell' = true := by
  obtain ⟨r0, es, rfl, _⟩ := tMapI_iff hv
  rfl
structure Gev where
  tables : List (List LV)
  kinds : List (Int × Gkind)
abbrev rKM : Rp (List (Int × Gkind)) := rT (tMapI kvI rkind) mapI_one
def fsev : List (SF Gev) := [⟨List (List LV), 35, rSl (rSl (rSl rValue)), Gev.tables⟩, ⟨List (Int × Gkind), 80, rKM, Gev.kinds⟩]
abbrev rev : Rp Gev := rStruct fsev
theorem ty80 : TyOf prog 80 rKM := ⟨fun w => isAgg80 w, fun w => sizeOf80 w⟩
theorem ty83 : TyOf prog 83 rev := ⟨fun w => isAgg83 w, fun w => sizeOf83 w⟩
theorem so83 : StructOf prog 83 fsev := ⟨⟨_, underlying83, ⟨rfl, rfl, ty35, by decide, ⟨rfl, rfl, ty80, by decide, trivial⟩⟩⟩, ty83⟩
theorem kf_sub {f : Nat} {v : Value} (hv : v = .func (.func f) #[] #[]) : Sub (rV.ty v) (tClo f []) := by
  subst hv
  rintro h u ⟨rfl, _⟩
  exact ⟨[], rfl, trivial⟩
theorem cloV2_sub {g : Nat} {a b : Value} : Sub (tClo g [tV a, tV b]) (tV (.func (.func g) #[] [a, b].toArray)) := by
  rintro h u ⟨cap, rfl, ha⟩
  match cap, ha with
  | [x, y], ⟨h1, h2, _⟩ =>
    have h1 : x = a := h1
    have h2 : y = b := h2
    subst h1 h2; rfl
def fitsM (t : GTable) (row : LV) : Bool := decide (row.length = t.Attrs.length) && (List.range row.length).all fun i => fitM (nth t.Attrs i).Kind (nth row i)
/-- That tables may be queried. -/
def tabsM (s : GSchema) (ts : List (List LV)) : Bool := (List.range ts.length).all fun i => !((nth ts i).any fun row => !fitsM (nth s.Tables i) row)
def evalOk (s : GSchema) (p : GPlan) (ts : List (List LV)) : Bool := vldM s p && decide ((ts.length : Int) = s.Tables.length) && tabsM s ts
theorem IndexFuncRows_spec (l : List LV) (hl : l.length ≤ 4398046511104) (gi : Nat) (As : List Ty) (p : LV → Bool) (hp : ∀ x ∈ l, Fun1 prog gi ([tSl rValue x] ++ As) (tV (.bool (p x)))) (he : ∀ args w, (callFunc gi args).run prog w = .ok (.enter gi args) w) : Fun1 prog 60 [tSl (rSl rValue) l, tClo gi As] (tV (.int .i64 (findI p 0 l))) := by
 refine Spec.enter func60 rfl rfl fun h0 w0 fr0 => ?_
 refine Jr (Ja rfl (JL_nil (J_seq (Jr (Jm rfl ?_)))))
 refine Js rfl (step_len_sl underlying38 Sr) (Jm rfl (JL_nil (J_block ?_)))
 refine J_loopL (σ := Nat) (fun i => i ≤ l.length ∧ findI p 0 l = findI p i (l.drop i)) (fun i => upd (upd (upd (upd env0 0 (tSl (rSl rValue) l)) 1 (tClo gi As)) 7 (tV (.int .i64 l.length))) 8 (tV (.int .i64 i))) (fun i => []) (fun i => l.length - i) 0 ⟨by omega, by simp⟩ (zU) (LSub.rfl) ?_
 rintro i ⟨hi, hv⟩
 refine Jr (Js rfl (step_lss Sr Sr) (JL_nil (J_seq ?_)))
 refine J_cond Sr (fun h9 => ?_) (fun h9 => ?_)
 ·
  try simp only [NF] at h9
  have hlt : i < l.length := by omega
  have hd := dropB hlt
  refine J_skip (J_seq (J_block (Jr (Jm rfl (Ja rfl ?_)))))
  refine JL_nil (Jr (Jm rfl (Jm rfl (Jm rfl ?_))))
  refine Js rfl (step_indexAddr_sl  underlying38 ty45 Sr Sr rfl (gb (by first | assumption | omega))) ?_
  refine Jl rfl ty45 Sr (Js rfl (step_callv0 (aT := [_]) Sr (hp _ (nth_mem hlt)) ⟨Sr, trivial⟩ he) (JL_nil ?_))
  refine J_cond Sr (fun h16 => ?_) (fun h16 => ?_)
  ·
   try simp only [NF] at h16
   refine Jr (Jm rfl (Ja rfl (JL_nil (J_ret ?_))))
   refine K_retv (rv := .tmp 4) rfl () (.tmp Sr) (Sub.int ?_)
   rw [hv, hd]; simp only [findI]; rw [if_pos h16]
  try simp only [NF] at h16
  refine J_skip (J_region (Js rfl (step_add Sr Sr z6) (Jm rfl (JL_nil ?_))))
  refine K_againL (σ := Nat) (s := i) (i + 1) zO ?_ (zU) (LSub.rfl)
  refine ⟨by omega, ?_⟩
  rw [hv, hd]; simp only [findI]; rw [if_neg (by simp [h16])]; simp
 try simp only [NF] at h9
 refine J_exit (Jr (Ja rfl (JL_nil (J_ret ?_))))
 refine K_retv (rv := .tmp 4) rfl () (.tmp Sr) (Sub.int ?_)
 rw [hv, List.drop_of_length_le zG]; rfl
theorem ContainsFuncRows_spec (l : List LV) (hl : l.length ≤ 4398046511104) (gi : Nat) (As : List Ty) (p : LV → Bool) (hp : ∀ x ∈ l, Fun1 prog gi ([tSl rValue x] ++ As) (tV (.bool (p x)))) (he : ∀ args w, (callFunc gi args).run prog w = .ok (.enter gi args) w) : Fun1 prog 31 [tSl (rSl rValue) l, tClo gi As] (tV (.bool (l.any p))) := by
 refine Spec.enter func31 rfl rfl fun h0 w0 fr0 => ?_
 refine Jr (Ja rfl (JL_nil (Jr (Jm rfl (Jm rfl ?_)))))
 refine Js rfl (step_call0 (IndexFuncRows_spec l hl gi As p hp he) ⟨Sr, Sr, trivial⟩ call60) (Js rfl (step_geq Sr Sr) (Ja rfl (JL_nil (J_ret ?_))))
 refine K_retv (rv := .tmp 4) rfl () (.tmp Sr) (Sub.bool ?_)
 have hq := (findI_bd p l 0 zG).2.2
 by_cases ha : l.any p = true
 ·
  rw [ha]; simp; exact hq.2 ha
 simp only [Bool.not_eq_true] at ha; rw [ha]; simp; have : ¬ 0 ≤ findI p 0 l := (fun h => by rw [hq.1 h] at ha; cases ha)
 omega
set_option maxHeartbeats 1000000 in
theorem Fits_spec (t : GTable) (row : LV) (hl : row.length ≤ 4398046511104) : Fun1 prog 33 [rTable.ty t, tSl rValue row] (tV (.bool (fitsM t row))) := by
 refine Spec.enter func33 rfl rfl fun h0 w0 fr0 => ?_
 refine Jr (Js rfl (step_box (R := rTable) Sr) (Ja rfl (JL_nil (J_seq (Jr ?_)))))
 refine Jm rfl (Js rfl (step_len_sl underlying45 Sr) (Js rfl (step_fieldAddr so77 Sr rfl) (Jl rfl ty28 Sr (Js rfl (step_len_sl underlying28 Sr) (Js rfl (step_neq Sr Sr) ?_)))))
 refine JL_nil ?_
 refine J_cond Sr (fun h11 => ?_) (fun h11 => ?_)
 ·
  try simp only [NF] at h11
  refine Jr (Ja rfl (JL_nil (J_ret ?_)))
  refine K_ret1 (t := 4) rfl () ?_
  refine Sub.bool ?_
  have : ¬ row.length = t.Attrs.length := by omega
  simp [fitsM, this]
 try simp only [NF] at h11
 have heq : row.length = t.Attrs.length := by omega
 refine J_skip (J_seq (Jr (Jm rfl (Js rfl (step_len_sl underlying45 Sr) (Jm rfl ?_)))))
 refine JL_nil (J_block ?_)
 refine J_loopL (σ := Nat) (fun i => i ≤ row.length ∧ ∀ k, k < i → fitM (nth t.Attrs k).Kind (nth row k) = true) (fun i => upd (upd (upd (upd env0 1 (tSl rValue row)) 2 (tPtr rTable t)) 13 (tV (.int .i64 row.length))) 14 (tV (.int .i64 i))) (fun i => []) (fun i => row.length - i) 0 ⟨by omega, fun k hk => by omega⟩ (zU) (LSub.rfl) ?_
 rintro i ⟨hi, hv⟩
 refine Jr (Js rfl (step_lss Sr Sr) (JL_nil (J_seq ?_)))
 refine J_cond Sr (fun h15 => ?_) (fun h15 => ?_)
 ·
  try simp only [NF] at h15
  have hlt : i < row.length := by omega
  refine J_skip (J_seq (J_block (Jr (Jm rfl (Ja rfl ?_)))))
  refine JL_nil (J_seq ?_)
  refine J_draw [⟨0, [2], true⟩, ⟨1, [17], true⟩, ⟨2, [5], true⟩, ⟨3, [18, 19], true⟩, ⟨4, [20], true⟩, ⟨5, [21], true⟩, ⟨6, [1], true⟩, ⟨7, [5], true⟩, ⟨8, [23, 24], true⟩, ⟨9, [25], true⟩, ⟨10, [22, 26], true⟩, ⟨11, [27], true⟩] rfl (by kernel_rfl) ?_
  refine Mf rfl rfl (step_fieldAddr so77 Sr rfl) (Mf rfl rfl (step_load_ptr ty28 Sr) (Mv rfl rfl ?_))
  refine Mf rfl rfl (step_indexAddr_sl (i := i) underlying28 ty64 Sr Sr (by rfl) (gb (by show i < t.Attrs.length; omega))) ?_
  refine Mf rfl rfl (step_fieldAddr so64 Sr rfl) (Mf rfl rfl (step_load_ptr ty3 Sr) (Mv rfl rfl (Mv rfl rfl ?_)))
  refine Mf rfl rfl (step_indexAddr_sl (i := i) underlying45 ty62 Sr Sr (by rfl) (gb (by exact hlt))) ?_
  refine Mf rfl rfl (step_load_ptr ty62 Sr) (Mf rfl rfl (step_call0 (fit_spec _ _) ⟨Sr, Sr, trivial⟩ call61) (Mf rfl rfl (step_not Sr) (JM_nil ?_)))
  refine J_cond Sr (fun h28 => ?_) (fun h28 => ?_)
  ·
   try simp only [NF] at h28
   have hf : fitM (nth t.Attrs i).Kind (nth row i) = false := by simpa using h28
   refine Jr (Ja rfl (JL_nil (J_ret ?_)))
   refine K_ret1 (t := 4) rfl () ?_
   refine Sub.bool ?_
   rw [fitsM, rall_f (f := fun i => fitM (nth t.Attrs i).Kind (nth row i)) hlt hf, Bool.and_false]
  try simp only [NF] at h28
  have hf : fitM (nth t.Attrs i).Kind (nth row i) = true := by simpa using h28
  refine J_skip (J_region (Js rfl (step_add Sr Sr z6) (Jm rfl (JL_nil ?_))))
  refine K_againL (σ := Nat) (s := i) (i + 1) zO ⟨by omega, fun k hk => by by_cases e : k = i; exact e ▸ hf; exact hv k zG⟩ (zU) (LSub.rfl)
 try simp only [NF] at h15
 have hall := rall_t (n := row.length) (fun k hk => hv k zG)
 refine J_exit (Jr (Ja rfl (JL_nil (J_ret ?_))))
 refine K_ret1 (t := 4) rfl () ?_
 refine Sub.bool ?_
 rw [fitsM, hall]; simp [heq]
theorem evalF1_spec (s : GSchema) (i : Nat) (hi : i < s.Tables.length) (row : LV) (hl : row.length ≤ 4398046511104) : Fun1 prog 32 [tSl rValue row, tPtr rSchema s, tPtr rInt (i : Int)] (tV (.bool (!fitsM (nth s.Tables i) row))) := by
 refine Spec.enter func32 rfl rfl fun h0 w0 fr0 => ?_
 refine Jr (Ja rfl (JL_nil (Jr (Js rfl (step_fieldAddr so24 Sr rfl) (Jl rfl ty22 Sr ?_)))))
 refine Jl rfl ty3 Sr ?_
 refine Js rfl (step_indexAddr_sl (i := i) underlying22 ty77 Sr Sr (by rfl) (gb (by exact hi))) ?_
 refine Jl rfl ty77 Sr (Jm rfl (Js rfl (step_call0 (Fits_spec _ _ hl) ⟨Sr, Sr, trivial⟩ call33) (Js rfl (step_not Sr) (Ja rfl (JL_nil ?_)))))
 refine J_ret ?_
 exact K_ret1 (t := 4) rfl () Sr
theorem evTable_spec (e : Gev) (n : Nat) (p : GPlan) (l : List (List LV)) (ht : 0 ≤ p.Table ∧ p.Table < e.tables.length) : Fun1 prog 65 [tPtr rev e, (rPlan (n + 1)).ty p, tSl (rSl (rSl rValue)) l] (tSl (rSl rValue) (nth e.tables p.Table.toNat)) := by
 refine Spec.enter func65 rfl rfl fun h0 w0 fr0 => ?_
 refine Jr (Js rfl (step_box (R := (rPlan (n + 1))) Sr) (Ja rfl (JL_nil (J_seq ?_))))
 refine J_draw [⟨0, [0], true⟩, ⟨1, [7], true⟩, ⟨2, [8], true⟩, ⟨3, [9], true⟩, ⟨4, [4], true⟩, ⟨5, [11], true⟩, ⟨6, [10, 12], true⟩, ⟨7, [13], true⟩, ⟨8, [14], true⟩] rfl (by kernel_rfl) ?_
 refine Mv rfl rfl (Mf rfl rfl (step_nilCheckP Sr) (Mf rfl rfl (step_fieldAddr so83 Sr rfl) (Mf rfl rfl (step_load_ptr ty35 Sr) (Mf rfl rfl (step_fieldAddr so30 Sr rfl) (Mf rfl rfl (step_load_ptr ty3 Sr) ?_)))))
 refine Mf rfl rfl (step_indexAddr_sl (i := p.Table.toNat) underlying35 ty38 Sr Sr (by show p.Table = _; omega) (gb (by show _ < e.tables.length; omega))) ?_
 refine Mf rfl rfl (step_load_ptr ty38 Sr) (Mf rfl rfl (step_assign Sr) (JM_nil (J_ret ?_)))
 exact K_ret1 (t := 6) rfl () Sr
open Go Go.Proofs Go.Proofs.Tryz
theorem ty40 : TyOf prog 40 rInt := ⟨fun w => isAgg40 w, fun w => sizeOf40 w⟩
theorem zr40 : ∀ h, (rInt.ty 0).p h (Value.int .i64 0) := fun _ => rfl
theorem rvnil_sub {α : Type} {R : Rp α} : Sub (rV.ty (.slice none 0 0)) (tSl R []) := fun h v e => by
  have e : v = .slice none 0 0 := e.1
  subst e
  exact ⟨none, ⟨0, Nat.le_refl _⟩, rfl, fun q => absurd rfl q⟩
theorem CloneRowI_spec (l : LV) (hl : l.length ≤ 4398046511104) : Fun1 prog 27 [tSl rValue l] (tSl rValue l) := by
 refine Spec.enter func27 rfl rfl fun h0 w0 fr0 => ?_
 refine Jr (Ja rfl (JL_nil (J_seq (Jr (Jm rfl ?_)))))
 refine Jx rfl (step_eql_slnil underlying45 Sr) fun v4 => ?_
 refine JL_nil ?_
 refine J_cond Sr (fun h4 => ?_) (fun h4 => ?_)
 ·
  try simp only [NF] at h4
  refine Jr (Ja rfl (JL_nil (J_ret ?_)))
  have hl0 := v4.2 h4
  subst hl0
  refine K_ret1 (t := 2) rfl () Sub.nilsl
 try simp only [NF] at h4
 refine J_skip (Jr ?_)
 refine Jx rfl (step_literal_own (ys := []) underlying45 el62 trivial rfl (by decide)) fun v5 => ?_
 refine Jm rfl ?_
 refine Jx rfl (step_append underlying45 el62 Sr Sr zS (by simp; omega) (by simp; omega)) fun v7 => ?_
 refine Ja rfl (JL_nil (J_ret ?_))
 refine K_ret1' (rv := .tmp 2) rfl () (Sel.take (Sel.none _)) (.tmp Sr) Frz.own
open Go Go.Proofs Go.Proofs.Tryz
structure GFixed where
  Col : Int
  Value : GValue
def zFixed : GFixed := { Col := 0, Value := zValue }
instance : Inhabited GFixed := ⟨zFixed⟩
structure GRule where
  Kind : Int
  Name : ByteArray
  Table : Int
  Cols : List Int
  Col : Int
  Fixed : List GFixed
  Other : Int
  OtherCol : Int
  Tables : List Int
  Tests : List GTest
def zRule : GRule := { Kind := 0, Name := ⟨#[]⟩, Table := 0, Cols := [], Col := 0, Fixed := [], Other := 0, OtherCol := 0, Tables := [], Tests := [] }
instance : Inhabited GRule := ⟨zRule⟩
structure GFact where
  Table : Int
  Entity : Int
  Variant : Int
  Row : List GValue
  Cost : Int
  From : List Int
def zFact : GFact := { Table := 0, Entity := 0, Variant := 0, Row := [], Cost := 0, From := [] }
instance : Inhabited GFact := ⟨zFact⟩
def fsFact : List (SF GFact) := [⟨Int, 3, rInt, GFact.Table⟩, ⟨Int, 3, rInt, GFact.Entity⟩, ⟨Int, 3, rInt, GFact.Variant⟩, ⟨List GValue, 45, (rSl rValue), GFact.Row⟩, ⟨Int, 3, rInt, GFact.Cost⟩, ⟨List Int, 27, (rSl rInt), GFact.From⟩]
abbrev rFact : Rp GFact := rStruct fsFact
theorem ty71 : TyOf Tryz.prog 71 rFact := ⟨fun w => Tryz.isAgg71 w, fun w => Tryz.sizeOf71 w⟩
theorem so71 : StructOf Tryz.prog 71 fsFact := ⟨⟨_, Tryz.underlying71, ⟨rfl, rfl, ty3, by decide, ⟨rfl, rfl, ty3, by decide, ⟨rfl, rfl, ty3, by decide, ⟨rfl, rfl, ty45, by decide, ⟨rfl, rfl, ty3, by decide, ⟨rfl, rfl, ty27, by decide, trivial⟩⟩⟩⟩⟩⟩⟩, ty71⟩
theorem ty31 : TyOf Tryz.prog 31 (rSl rFact) := ⟨fun w => Tryz.isAgg31 w, fun w => Tryz.sizeOf31 w⟩
structure GOp where
  Drop : Bool
  Number : Int
  Fact : GFact
def zOp : GOp := { Drop := false, Number := 0, Fact := zFact }
instance : Inhabited GOp := ⟨zOp⟩
structure Gpair where
  rule : Int
  i : Int
  j : Int
  cols : List ((Int × Int))
def zpair : Gpair := { rule := 0, i := 0, j := 0, cols := [] }
instance : Inhabited Gpair := ⟨zpair⟩
structure Gkey where
  pair : Int
  texts : ByteArray
def zkey : Gkey := { pair := 0, texts := ⟨#[]⟩ }
instance : Inhabited Gkey := ⟨zkey⟩
structure GVigil where
  rules : List GRule
  pairs : List Gpair
  pairAt : Value
  facts : Value
  entities : Value
  index : Value
  violations : Value
  work : Int
def zVigil : GVigil := { rules := [], pairs := [], pairAt := (Value.map none), facts := (Value.map none), entities := (Value.map none), index := (Value.map none), violations := (Value.map none), work := 0 }
instance : Inhabited GVigil := ⟨zVigil⟩
structure GRVigil where
  Rules : List GRule
  Numbers : List Int
  Facts : List GFact
  Count : Int
def zRVigil : GRVigil := { Rules := [], Numbers := [], Facts := [], Count := 0 }
instance : Inhabited GRVigil := ⟨zRVigil⟩
theorem ty103 : TyOf Tryz.prog 103 rV := ⟨fun w => Tryz.isAgg103 w, fun w => Tryz.sizeOf103 w⟩
structure Gcomparison where
  op : Int
  holds : Value
def zcomparison : Gcomparison := { op := 0, holds := Value.nilFunc }
instance : Inhabited Gcomparison := ⟨zcomparison⟩
def fscomparison : List (SF Gcomparison) := [⟨Int, 3, rInt, Gcomparison.op⟩, ⟨Value, 103, rV, Gcomparison.holds⟩]
abbrev rcomparison : Rp Gcomparison := rStruct fscomparison
theorem ty190 : TyOf Tryz.prog 190 rcomparison := ⟨fun w => Tryz.isAgg190 w, fun w => Tryz.sizeOf190 w⟩
theorem so190 : StructOf Tryz.prog 190 fscomparison := ⟨⟨_, Tryz.underlying190, ⟨rfl, rfl, ty3, by decide, ⟨rfl, rfl, ty103, by decide, trivial⟩⟩⟩, ty190⟩
theorem zr190 : ∀ h, (rcomparison.ty zcomparison).p h (.agg #[Value.int .i64 0, Value.nilFunc]) := fun _ => ⟨_, ⟨[Value.int .i64 0], _, rfl, rfl, ⟨[Value.nilFunc], _, rfl, ⟨rfl, rfl⟩, rfl⟩⟩, rfl⟩
theorem el190 : ElT Tryz.prog 190 rcomparison 16 zcomparison := ⟨ty190, by decide, Tryz.t190, (.agg #[Value.int .i64 0, Value.nilFunc]), by kernel_rfl, by kernel_rfl, by kernel_rfl, by kernel_rfl, zr190⟩
open Go Go.Proofs Go.Proofs.Tryz
def ordS2 (a b : ByteArray) : Int := if Op.bytesLess a.toList b.toList then -1 else if Op.bytesLess a.toList b.toList || a.toList == b.toList then 0 else 1
def cmpV2 (a b : GValue) : Int := if ordI a.Kind b.Kind ≠ 0 then ordI a.Kind b.Kind else if ordI a.N b.N ≠ 0 then ordI a.N b.N else ordS2 a.Text b.Text
def opHolds (op c : Int) : Bool :=
  if op = 1 then decide (c = 0) else if op = 2 then !decide (c = 0) else if op = 3 then decide (c < 0) else if op = 4 then decide (c ≤ 0) else false
def testV (a : GValue) (op : Int) (b : GValue) (add : Int) : Bool :=
  if validV a = false ∨ validV b = false ∨ a.Kind ≠ b.Kind then false
  else if a.Kind = 2 ∨ a.Kind = 3 then opHolds op (ordI (a.N - b.N) add)
  else if a.Kind = 1 ∨ a.Kind = 4 then (if add ≠ 0 then false else opHolds op (cmpV2 a b))
  else false
theorem order_int_spec (a b : Int) : Fun1 prog 110 [tV (.int .i64 a), tV (.int .i64 b)] (tV (.int .i64 (ordI a b))) := by
 refine Spec.enter func110 rfl rfl fun h0 w0 fr0 => ?_
 refine Jr (Ja rfl (JL_nil (J_seq (J_block (Jr ?_)))))
 refine Jm rfl (Jm rfl (Js rfl (step_lss Sr Sr) (Ja rfl (JL_nil ?_))))
 refine J_cond Sr (fun hc1 => ?_) (fun hc1 => ?_)
 ·
  try simp only [NF] at hc1
  refine Jr (Ja rfl (JL_nil (J_ret ?_)))
  refine K_ret1 (t := 4) rfl () ?_
  refine Sub.int ?_
  simp [ordI, *]
 try simp only [NF] at hc1
 refine Jr (Jm rfl (Jm rfl (Js rfl (step_gtr Sr Sr) (Ja rfl (JL_nil ?_)))))
 refine J_cond Sr (fun hc2 => ?_) (fun hc2 => ?_)
 ·
  try simp only [NF] at hc2
  refine Jr (Ja rfl (JL_nil (J_ret ?_)))
  refine K_ret1 (t := 4) rfl () ?_
  refine Sub.int ?_
  have : ¬ a < b := by omega
  simp [ordI, *]
 try simp only [NF] at hc2
 refine J_skip (Jr (Ja rfl (JL_nil (J_ret ?_))))
 refine K_ret1 (t := 4) rfl () ?_
 refine Sub.int ?_
 have h1 : ¬ a < b := by omega
 have h2 : ¬ b < a := by omega
 simp [ordI, h1, h2]
theorem order_str_spec (a b : ByteArray) : Fun1 prog 156 [tV (.string a), tV (.string b)] (tV (.int .i64 (ordS2 a b))) := by
 refine Spec.enter func156 rfl rfl fun h0 w0 fr0 => ?_
 refine Jr (Ja rfl (JL_nil (J_seq (J_block (Jr ?_)))))
 refine Jm rfl (Jm rfl (Js rfl (step_lss_str Sr Sr) (Ja rfl (JL_nil ?_))))
 refine J_cond Sr (fun hc1 => ?_) (fun hc1 => ?_)
 ·
  try simp only [NF] at hc1
  refine Jr (Ja rfl (JL_nil (J_ret ?_)))
  refine K_ret1 (t := 4) rfl () ?_
  refine Sub.int ?_
  simp [ordS2, hc1]
 try simp only [NF] at hc1
 refine Jr (Jm rfl (Jm rfl (Js rfl (step_gtr_str Sr Sr) (Ja rfl (JL_nil ?_)))))
 refine J_cond Sr (fun hc2 => ?_) (fun hc2 => ?_)
 ·
  try simp only [NF] at hc2
  refine Jr (Ja rfl (JL_nil (J_ret ?_)))
  refine K_ret1 (t := 4) rfl () ?_
  refine Sub.int ?_
  simp only [ordS2, hc1, hc2]; simp
 try simp only [NF] at hc2
 refine J_skip (Jr (Ja rfl (JL_nil (J_ret ?_))))
 refine K_ret1 (t := 4) rfl () ?_
 refine Sub.int ?_
 simp only [ordS2, hc1]; simp_all
theorem Compare_spec (a b : GValue) : Fun1 prog 109 [rValue.ty a, rValue.ty b] (tV (.int .i64 (cmpV2 a b))) := by
 refine Spec.enter func109 rfl rfl fun h0 w0 fr0 => ?_
 refine Jr (Js rfl (step_box (R := rValue) Sr) (Js rfl (step_box (R := rValue) Sr) (Ja rfl (JL_nil (J_seq ?_)))))
 refine Jr (Js rfl (step_fieldAddr so62 Sr rfl) (Jl rfl ty3 Sr (Js rfl (step_fieldAddr so62 Sr rfl) (Jl rfl ty3 Sr (Js rfl (step_call0 (order_int_spec _ _) ⟨Sr, Sr, trivial⟩ call110) ?_)))))
 refine Ja rfl (JL_nil (Jr (Jm rfl (Js rfl (step_neq Sr Sr) (JL_nil ?_)))))
 refine J_cond Sr (fun hc1 => ?_) (fun hc1 => ?_)
 ·
  try simp only [NF] at hc1
  refine Jr (Jm rfl (Ja rfl (JL_nil (J_ret ?_))))
  refine K_ret1 (t := 4) rfl () ?_
  refine Sub.int ?_
  simp [cmpV2, hc1]
 try simp only [NF] at hc1
 refine J_skip (J_seq (Jr (Js rfl (step_fieldAddr so62 Sr rfl) (Jl rfl ty3 Sr (Js rfl (step_fieldAddr so62 Sr rfl) ?_)))))
 refine Jl rfl ty3 Sr (Js rfl (step_call0 (order_int_spec _ _) ⟨Sr, Sr, trivial⟩ call110) (Ja rfl (JL_nil (Jr (Jm rfl ?_)))))
 refine Js rfl (step_neq Sr Sr) (JL_nil ?_)
 refine J_cond Sr (fun hc2 => ?_) (fun hc2 => ?_)
 ·
  try simp only [NF] at hc2
  refine Jr (Jm rfl (Ja rfl (JL_nil (J_ret ?_))))
  refine K_ret1 (t := 4) rfl () ?_
  refine Sub.int ?_
  simp [cmpV2, hc1, hc2]
 try simp only [NF] at hc2
 refine J_skip (Jr (Js rfl (step_fieldAddr so62 Sr rfl) (Jl rfl ty9 Sr (Js rfl (step_fieldAddr so62 Sr rfl) (Jl rfl ty9 Sr ?_)))))
 refine Js rfl (step_call0 (order_str_spec _ _) ⟨Sr, Sr, trivial⟩ call156) (Ja rfl (JL_nil (J_ret ?_)))
 refine K_ret1 (t := 4) rfl () ?_
 refine Sub.int ?_
 simp [cmpV2, hc1, hc2]
theorem cE_spec (c : Int) : Fun1 prog 175 [tV (.int .i64 c)] (tV (.bool (decide (c = 0)))) := by
 refine Spec.enter func175 rfl rfl fun h0 w0 fr0 => ?_
 refine Jr (Ja rfl (JL_nil (Jr (Jm rfl (Js rfl (step_eql Sr Sr) ?_)))))
 refine Ja rfl (JL_nil (J_ret ?_))
 exact K_ret1 (t := 2) rfl () Sr
theorem cU_spec (c : Int) : Fun1 prog 176 [tV (.int .i64 c)] (tV (.bool (!decide (c = 0)))) := by
 refine Spec.enter func176 rfl rfl fun h0 w0 fr0 => ?_
 refine Jr (Ja rfl (JL_nil (Jr (Jm rfl (Js rfl (step_neq Sr Sr) ?_)))))
 refine Ja rfl (JL_nil (J_ret ?_))
 exact K_ret1 (t := 2) rfl () Sr
theorem cL_spec (c : Int) : Fun1 prog 177 [tV (.int .i64 c)] (tV (.bool (decide (c < 0)))) := by
 refine Spec.enter func177 rfl rfl fun h0 w0 fr0 => ?_
 refine Jr (Ja rfl (JL_nil (Jr (Jm rfl (Js rfl (step_lss Sr Sr) ?_)))))
 refine Ja rfl (JL_nil (J_ret ?_))
 exact K_ret1 (t := 2) rfl () Sr
theorem cA_spec (c : Int) : Fun1 prog 178 [tV (.int .i64 c)] (tV (.bool (decide (c ≤ 0)))) := by
 refine Spec.enter func178 rfl rfl fun h0 w0 fr0 => ?_
 refine Jr (Ja rfl (JL_nil (Jr (Jm rfl (Js rfl (step_leq Sr Sr) ?_)))))
 refine Ja rfl (JL_nil (J_ret ?_))
 exact K_ret1 (t := 2) rfl () Sr
def comps : List Gcomparison := [⟨1, .func (.func 175) #[] #[]⟩, ⟨2, .func (.func 176) #[] #[]⟩, ⟨3, .func (.func 177) #[] #[]⟩, ⟨4, .func (.func 178) #[] #[]⟩]
theorem comparisons_spec  : Fun1 prog 145 [] (tSl rcomparison comps) := by
 refine Spec.enter func145 rfl rfl fun h0 w0 fr0 => ?_
 refine Jr (Ja rfl (JL_nil (Jr ?_)))
 refine Js rfl (step_build (x := (⟨1, .func (.func 175) #[] #[]⟩ : Gcomparison)) (zs := [[Value.int .i64 0], [Value.nilFunc]]) so190 (fun w => zeroValue190 w) ⟨Sr, (by first | exact Sr | exact Sub.rV rfl), trivial⟩ ⟨⟨Sr, rfl⟩, ⟨(by first | exact Sr | exact Sub.rV rfl), rfl⟩, trivial⟩) ?_
 refine Js rfl (step_build (x := (⟨2, .func (.func 176) #[] #[]⟩ : Gcomparison)) (zs := [[Value.int .i64 0], [Value.nilFunc]]) so190 (fun w => zeroValue190 w) ⟨Sr, (by first | exact Sr | exact Sub.rV rfl), trivial⟩ ⟨⟨Sr, rfl⟩, ⟨(by first | exact Sr | exact Sub.rV rfl), rfl⟩, trivial⟩) ?_
 refine Js rfl (step_build (x := (⟨3, .func (.func 177) #[] #[]⟩ : Gcomparison)) (zs := [[Value.int .i64 0], [Value.nilFunc]]) so190 (fun w => zeroValue190 w) ⟨Sr, (by first | exact Sr | exact Sub.rV rfl), trivial⟩ ⟨⟨Sr, rfl⟩, ⟨(by first | exact Sr | exact Sub.rV rfl), rfl⟩, trivial⟩) ?_
 refine Js rfl (step_build (x := (⟨4, .func (.func 178) #[] #[]⟩ : Gcomparison)) (zs := [[Value.int .i64 0], [Value.nilFunc]]) so190 (fun w => zeroValue190 w) ⟨Sr, (by first | exact Sr | exact Sub.rV rfl), trivial⟩ ⟨⟨Sr, rfl⟩, ⟨(by first | exact Sr | exact Sub.rV rfl), rfl⟩, trivial⟩) ?_
 refine Js rfl (step_literal (ys := [_, _, _, _]) underlying187 el190 ⟨rfl, Sr, rfl, Sr, rfl, Sr, rfl, Sr, trivial⟩ rfl (by decide)) ?_
 refine Ja rfl (JL_nil (J_ret ?_))
 refine K_ret1 (t := 0) rfl () Sr
theorem step_comp {ro : Option Nat} {N : Nat} {ds : List Deferred} {h0 : PH} {w0 : World} {r : PH} {E : Env} {L : List SP} {d : Option Nat} {ty : Nat} {pos : String} {af : Array Edge} {g : Option (Nat × Bool)} {x y : Operand} {ts : Array Nat} {i : Nat} {c : Int}
    (hi : i < 4) (hx : Sub (opTy E x) (rV.ty (nth comps i).holds)) (hy : Sub (opTy E y) (tV (.int .i64 c))) :
    Step (X := Unit) ⟨prog, ro, N, ds, h0, w0, r⟩ ⟨d, .call { callee := .value x, args := #[y], argTypes := ts }, ty, pos, af, g⟩ E L (fun _ => tV (.bool (opHolds (nth comps i).op c))) (fun _ => L) := by
  have key : ∀ f v, Fun1 prog f [tV (.int .i64 c)] (tV (.bool v)) → (∀ args w, (callFunc f args).run prog w = .ok (.enter f args) w) → (nth comps i).holds = .func (.func f) #[] #[] → opHolds (nth comps i).op c = v →
      Step (X := Unit) ⟨prog, ro, N, ds, h0, w0, r⟩ ⟨d, .call { callee := .value x, args := #[y], argTypes := ts }, ty, pos, af, g⟩ E L (fun _ => tV (.bool (opHolds (nth comps i).op c))) (fun _ => L) := by
    intro f v hf he h1 h2
    rw [h2]
    refine step_callv0 (f := f) (aT := [tV (.int .i64 c)]) (As := []) (fun h u e => ?_) hf ⟨hy, trivial⟩ he
    obtain ⟨e1, _⟩ := hx h u e
    rw [h1] at e1
    exact ⟨[], e1, trivial⟩
  rcases i with _ | _ | _ | _ | i
  · exact key 175 _ (cE_spec c) call175 rfl (by simp [opHolds, comps])
  · exact key 176 _ (cU_spec c) call176 rfl (by simp [opHolds, comps])
  · exact key 177 _ (cL_spec c) call177 rfl (by simp [opHolds, comps])
  · exact key 178 _ (cA_spec c) call178 rfl (by simp [opHolds, comps])
  · omega
theorem opHolds_none {op c : Int} (h : ∀ k, k < 4 → (nth comps k).op ≠ op) : opHolds op c = false := by
  have h0 := h 0 (by omega); have h1 := h 1 (by omega); have h2 := h 2 (by omega); have h3 := h 3 (by omega)
  simp only [comps, nth] at h0 h1 h2 h3
  simp [opHolds, Ne.symm h0, Ne.symm h1, Ne.symm h2, Ne.symm h3]
theorem in64_sub {a b : GValue} (ha : validV a = true) (hb : validV b = true) : in64 (a.N - b.N) := by
  have := valid_N ha
  have := valid_N hb
  unfold in64; omega
theorem Test_spec (a b : GValue) (op add : Int) : Fun1 prog 106 [rValue.ty a, tV (.int .i64 op), rValue.ty b, tV (.int .i64 add)] (tV (.bool (testV a op b add))) := by
 refine Spec.enter func106 rfl rfl fun h0 w0 fr0 => ?_
 refine Jr (Js rfl (step_box (R := rValue) Sr) (Js rfl (step_box (R := rValue) Sr) (Ja rfl (JL_nil (J_seq ?_)))))
 refine Jr (Jl rfl ty62 Sr (Js rfl (step_call0 (Valid_spec _) ⟨Sr, trivial⟩ call48) (Js rfl (step_not Sr) (Jm rfl ?_))))
 refine Jk rfl Sr rfl (step_load_ptr ty62 Sr) ?_
 refine Jg rfl Sr rfl (fun hw => step_call0 (Valid_spec _) ⟨(Sub.w hw), trivial⟩ call48) (Jg rfl Sr rfl (fun hw => step_not (Sub.w hw)) (Js rfl (step_pick_or Sr Sr) (Jm rfl ?_)))
 refine Jk rfl Sr rfl (step_fieldAddr so62 Sr rfl) ?_
 refine Jg rfl Sr rfl (fun hw => step_load_ptr ty3 (Sub.w hw)) ?_
 refine Jk rfl Sr rfl (step_fieldAddr so62 Sr rfl) ?_
 refine Jg rfl Sr rfl (fun hw => step_load_ptr ty3 (Sub.w hw)) (Jg rfl Sr rfl (fun hw => step_neq (Sub.w hw) (Sub.w hw)) (Js rfl (step_pick_or Sr Sr) (JL_nil ?_)))
 refine J_cond Sr (fun hc1 => ?_) (fun hc1 => ?_)
 ·
  try simp only [NF] at hc1
  refine Jr (Ja rfl (JL_nil (J_ret ?_)))
  refine K_ret1 (t := 8) rfl () ?_
  refine Sub.bool ?_
  have : (validV a = false ∨ validV b = false ∨ a.Kind ≠ b.Kind) := by simpa [or_assoc] using hc1
  simp only [testV, if_pos this]
 try simp only [NF] at hc1
 have hva : validV a = true := by simp_all
 have hvb : validV b = true := by simp_all
 have hk : a.Kind = b.Kind := by simp_all
 have hpre : ¬ (validV a = false ∨ validV b = false ∨ a.Kind ≠ b.Kind) := by simp [hva, hvb, hk]
 refine J_skip (Jr (Ja rfl (JL_nil (J_seq (Jr ?_)))))
 refine Js rfl (step_fieldAddr so62 Sr rfl) (Jl rfl ty3 Sr (JL_nil (J_block (J_seq (Jr ?_)))))
 refine Js rfl (step_eql Sr Sr) (Ja rfl (JL_nil ?_))
 refine J_cond Sr (fun hc2 => ?_) (fun hc2 => ?_)
 ·
  try simp only [NF] at hc2
  refine J_skip ?_
  refine J_cond Sr (fun hc3 => ?_) (fun hc3 => ?_)
  ·
   try simp only [NF] at hc3
   refine J_region (Js rfl (step_fieldAddr so62 Sr rfl) (Jl rfl ty3 Sr (Js rfl (step_fieldAddr so62 Sr rfl) (Jl rfl ty3 Sr (Js rfl (step_sub Sr Sr (in64_sub hva hvb)) ?_)))))
   refine Jm rfl (Js rfl (step_call0 (order_int_spec _ _) ⟨Sr, Sr, trivial⟩ call110) (Ja rfl (JL_nil (J_seq (Jr ?_)))))
   refine Js rfl (step_call0 (comparisons_spec ) trivial call145) (Js rfl (step_len_sl underlying187 Sr) (Jm rfl (JL_nil (J_block ?_))))
   refine J_loopL (σ := Nat) (fun i => i ≤ 4 ∧ ∀ k, k < i → (nth comps k).op ≠ op) (fun i => upd (upd (upd (upd (upd env0 1 (tV (.int .i64 op))) 9 (tV (.int .i64 (ordI (a.N - b.N) add)))) 47 (tSl rcomparison comps)) 48 (tV (.int .i64 4))) 49 (tV (.int .i64 i))) (fun i => []) (fun i => 4 - i) 0 ⟨by omega, fun k hk => by omega⟩ (zU) (LSub.rfl) ?_
   rintro i ⟨hi, hv⟩
   refine Jr (Js rfl (step_lss Sr Sr) (JL_nil (J_seq ?_)))
   refine J_cond Sr (fun hc4 => ?_) (fun hc4 => ?_)
   ·
    try simp only [NF] at hc4
    have hlt : i < 4 := by omega
    refine J_skip (J_seq (J_block (Jr ?_)))
    refine Js rfl (step_indexAddr_sl  underlying187 ty190 Sr Sr rfl (gb (by exact hlt))) ?_
    refine Jl rfl ty190 Sr ?_
    refine Jx rfl (step_alloc (fun w => zeroValue190 w) zr190) fun v11 => ?_
    refine Ju (step_store_box ty190 Sr Sr zS) fun _ => ?_
    refine JL_freeze (t := 11) (Sel.take (Sel.none _)) Frz.box ?_
    refine JL_nil (Jr (Js rfl (step_fieldAddr so190 Sr rfl) (Jl rfl ty3 Sr (Jm rfl (Js rfl (step_eql Sr Sr) ?_)))))
    refine JL_nil ?_
    refine J_cond Sr (fun hc5 => ?_) (fun hc5 => ?_)
    ·
     try simp only [NF] at hc5
     refine Jr (Js rfl (step_fieldAddr so190 Sr rfl) (Jl rfl ty103 Sr (Jm rfl (Js rfl (step_comp hlt Sr Sr) (Ja rfl ?_)))))
     refine JL_nil (J_ret ?_)
     refine K_ret1 (t := 8) rfl () ?_
     refine Sub.bool ?_
     rw [testV, if_neg hpre]
     simp_all
    try simp only [NF] at hc5
    refine J_skip (J_region (Js rfl (step_add Sr Sr z6) (Jm rfl (JL_nil ?_))))
    refine K_againL (σ := Nat) (s := i) (i + 1) zO ?_ (zU) (LSub.rfl)
    refine ⟨by omega, fun k hk => ?_⟩
    by_cases e : k = i
    ·
     subst e; simp_all
    exact hv k zG
   try simp only [NF] at hc4
   have hno := fun c => opHolds_none (op := op) (c := c) (fun k hk => hv k zG)
   refine J_exit (Jr (Ja rfl (JL_nil (J_ret ?_))))
   refine K_ret1 (t := 8) rfl () ?_
   refine Sub.bool ?_
   rw [testV, if_neg hpre]
   simp_all
  try simp only [NF] at hc3
  first | contradiction | omega | (simp_all; done)
 try simp only [NF] at hc2
 refine J_region (Js rfl (step_eql Sr Sr) (Ja rfl (JL_nil ?_)))
 refine J_cond Sr (fun hc6 => ?_) (fun hc6 => ?_)
 ·
  try simp only [NF] at hc6
  refine J_region (Js rfl (step_fieldAddr so62 Sr rfl) (Jl rfl ty3 Sr (Js rfl (step_fieldAddr so62 Sr rfl) (Jl rfl ty3 Sr (Js rfl (step_sub Sr Sr (in64_sub hva hvb)) ?_)))))
  refine Jm rfl (Js rfl (step_call0 (order_int_spec _ _) ⟨Sr, Sr, trivial⟩ call110) (Ja rfl (JL_nil (J_seq (Jr ?_)))))
  refine Js rfl (step_call0 (comparisons_spec ) trivial call145) (Js rfl (step_len_sl underlying187 Sr) (Jm rfl (JL_nil (J_block ?_))))
  refine J_loopL (σ := Nat) (fun i => i ≤ 4 ∧ ∀ k, k < i → (nth comps k).op ≠ op) (fun i => upd (upd (upd (upd (upd env0 1 (tV (.int .i64 op))) 9 (tV (.int .i64 (ordI (a.N - b.N) add)))) 47 (tSl rcomparison comps)) 48 (tV (.int .i64 4))) 49 (tV (.int .i64 i))) (fun i => []) (fun i => 4 - i) 0 ⟨by omega, fun k hk => by omega⟩ (zU) (LSub.rfl) ?_
  rintro i ⟨hi, hv⟩
  refine Jr (Js rfl (step_lss Sr Sr) (JL_nil (J_seq ?_)))
  refine J_cond Sr (fun hc7 => ?_) (fun hc7 => ?_)
  ·
   try simp only [NF] at hc7
   have hlt : i < 4 := by omega
   refine J_skip (J_seq (J_block (Jr ?_)))
   refine Js rfl (step_indexAddr_sl  underlying187 ty190 Sr Sr rfl (gb (by exact hlt))) ?_
   refine Jl rfl ty190 Sr ?_
   refine Jx rfl (step_alloc (fun w => zeroValue190 w) zr190) fun v11 => ?_
   refine Ju (step_store_box ty190 Sr Sr zS) fun _ => ?_
   refine JL_freeze (t := 11) (Sel.take (Sel.none _)) Frz.box ?_
   refine JL_nil (Jr (Js rfl (step_fieldAddr so190 Sr rfl) (Jl rfl ty3 Sr (Jm rfl (Js rfl (step_eql Sr Sr) ?_)))))
   refine JL_nil ?_
   refine J_cond Sr (fun hc8 => ?_) (fun hc8 => ?_)
   ·
    try simp only [NF] at hc8
    refine Jr (Js rfl (step_fieldAddr so190 Sr rfl) (Jl rfl ty103 Sr (Jm rfl (Js rfl (step_comp hlt Sr Sr) (Ja rfl ?_)))))
    refine JL_nil (J_ret ?_)
    refine K_ret1 (t := 8) rfl () ?_
    refine Sub.bool ?_
    rw [testV, if_neg hpre]
    simp_all
   try simp only [NF] at hc8
   refine J_skip (J_region (Js rfl (step_add Sr Sr z6) (Jm rfl (JL_nil ?_))))
   refine K_againL (σ := Nat) (s := i) (i + 1) zO ?_ (zU) (LSub.rfl)
   refine ⟨by omega, fun k hk => ?_⟩
   by_cases e : k = i
   ·
    subst e; simp_all
   exact hv k zG
  try simp only [NF] at hc7
  have hno := fun c => opHolds_none (op := op) (c := c) (fun k hk => hv k zG)
  refine J_exit (Jr (Ja rfl (JL_nil (J_ret ?_))))
  refine K_ret1 (t := 8) rfl () ?_
  refine Sub.bool ?_
  rw [testV, if_neg hpre]
  simp_all
 try simp only [NF] at hc6
 refine J_seq (Jr (Js rfl (step_eql Sr Sr) (Ja rfl (JL_nil ?_))))
 refine J_cond Sr (fun hc9 => ?_) (fun hc9 => ?_)
 ·
  try simp only [NF] at hc9
  refine J_skip ?_
  refine J_cond Sr (fun hc10 => ?_) (fun hc10 => ?_)
  ·
   try simp only [NF] at hc10
   refine J_seq (Jr (Jm rfl (Js rfl (step_neq Sr Sr) (JL_nil ?_))))
   refine J_cond Sr (fun hc11 => ?_) (fun hc11 => ?_)
   ·
    try simp only [NF] at hc11
    refine Jr (Ja rfl (JL_nil (J_ret ?_)))
    refine K_ret1 (t := 8) rfl () ?_
    refine Sub.bool ?_
    rw [testV, if_neg hpre]
    simp_all
   try simp only [NF] at hc11
   refine J_skip (J_region (Jl rfl ty62 Sr (Jl rfl ty62 Sr (Js rfl (step_call0 (Compare_spec _ _) ⟨Sr, Sr, trivial⟩ call109) (Ja rfl ?_)))))
   refine JL_nil (J_seq (Jr (Js rfl (step_call0 (comparisons_spec ) trivial call145) (Js rfl (step_len_sl underlying187 Sr) (Jm rfl ?_)))))
   refine JL_nil (J_block ?_)
   refine J_loopL (σ := Nat) (fun i => i ≤ 4 ∧ ∀ k, k < i → (nth comps k).op ≠ op) (fun i => upd (upd (upd (upd (upd env0 1 (tV (.int .i64 op))) 9 (tV (.int .i64 (cmpV2 a b)))) 47 (tSl rcomparison comps)) 48 (tV (.int .i64 4))) 49 (tV (.int .i64 i))) (fun i => []) (fun i => 4 - i) 0 ⟨by omega, fun k hk => by omega⟩ (zU) (LSub.rfl) ?_
   rintro i ⟨hi, hv⟩
   refine Jr (Js rfl (step_lss Sr Sr) (JL_nil (J_seq ?_)))
   refine J_cond Sr (fun hc12 => ?_) (fun hc12 => ?_)
   ·
    try simp only [NF] at hc12
    have hlt : i < 4 := by omega
    refine J_skip (J_seq (J_block (Jr ?_)))
    refine Js rfl (step_indexAddr_sl  underlying187 ty190 Sr Sr rfl (gb (by exact hlt))) ?_
    refine Jl rfl ty190 Sr ?_
    refine Jx rfl (step_alloc (fun w => zeroValue190 w) zr190) fun v11 => ?_
    refine Ju (step_store_box ty190 Sr Sr zS) fun _ => ?_
    refine JL_freeze (t := 11) (Sel.take (Sel.none _)) Frz.box ?_
    refine JL_nil (Jr (Js rfl (step_fieldAddr so190 Sr rfl) (Jl rfl ty3 Sr (Jm rfl (Js rfl (step_eql Sr Sr) ?_)))))
    refine JL_nil ?_
    refine J_cond Sr (fun hc13 => ?_) (fun hc13 => ?_)
    ·
     try simp only [NF] at hc13
     refine Jr (Js rfl (step_fieldAddr so190 Sr rfl) (Jl rfl ty103 Sr (Jm rfl (Js rfl (step_comp hlt Sr Sr) (Ja rfl ?_)))))
     refine JL_nil (J_ret ?_)
     refine K_ret1 (t := 8) rfl () ?_
     refine Sub.bool ?_
     rw [testV, if_neg hpre]
     simp_all
    try simp only [NF] at hc13
    refine J_skip (J_region (Js rfl (step_add Sr Sr z6) (Jm rfl (JL_nil ?_))))
    refine K_againL (σ := Nat) (s := i) (i + 1) zO ?_ (zU) (LSub.rfl)
    refine ⟨by omega, fun k hk => ?_⟩
    by_cases e : k = i
    ·
     subst e; simp_all
    exact hv k zG
   try simp only [NF] at hc12
   have hno := fun c => opHolds_none (op := op) (c := c) (fun k hk => hv k zG)
   refine J_exit (Jr (Ja rfl (JL_nil (J_ret ?_))))
   refine K_ret1 (t := 8) rfl () ?_
   refine Sub.bool ?_
   rw [testV, if_neg hpre]
   simp_all
  try simp only [NF] at hc10
  first | contradiction | omega | (simp_all; done)
 try simp only [NF] at hc9
 refine J_region (Js rfl (step_eql Sr Sr) (Ja rfl (JL_nil ?_)))
 refine J_cond Sr (fun hc14 => ?_) (fun hc14 => ?_)
 ·
  try simp only [NF] at hc14
  refine J_seq (Jr (Jm rfl (Js rfl (step_neq Sr Sr) (JL_nil ?_))))
  refine J_cond Sr (fun hc15 => ?_) (fun hc15 => ?_)
  ·
   try simp only [NF] at hc15
   refine Jr (Ja rfl (JL_nil (J_ret ?_)))
   refine K_ret1 (t := 8) rfl () ?_
   refine Sub.bool ?_
   rw [testV, if_neg hpre]
   simp_all
  try simp only [NF] at hc15
  refine J_skip (J_region (Jl rfl ty62 Sr (Jl rfl ty62 Sr (Js rfl (step_call0 (Compare_spec _ _) ⟨Sr, Sr, trivial⟩ call109) (Ja rfl ?_)))))
  refine JL_nil (J_seq (Jr (Js rfl (step_call0 (comparisons_spec ) trivial call145) (Js rfl (step_len_sl underlying187 Sr) (Jm rfl ?_)))))
  refine JL_nil (J_block ?_)
  refine J_loopL (σ := Nat) (fun i => i ≤ 4 ∧ ∀ k, k < i → (nth comps k).op ≠ op) (fun i => upd (upd (upd (upd (upd env0 1 (tV (.int .i64 op))) 9 (tV (.int .i64 (cmpV2 a b)))) 47 (tSl rcomparison comps)) 48 (tV (.int .i64 4))) 49 (tV (.int .i64 i))) (fun i => []) (fun i => 4 - i) 0 ⟨by omega, fun k hk => by omega⟩ (zU) (LSub.rfl) ?_
  rintro i ⟨hi, hv⟩
  refine Jr (Js rfl (step_lss Sr Sr) (JL_nil (J_seq ?_)))
  refine J_cond Sr (fun hc16 => ?_) (fun hc16 => ?_)
  ·
   try simp only [NF] at hc16
   have hlt : i < 4 := by omega
   refine J_skip (J_seq (J_block (Jr ?_)))
   refine Js rfl (step_indexAddr_sl  underlying187 ty190 Sr Sr rfl (gb (by exact hlt))) ?_
   refine Jl rfl ty190 Sr ?_
   refine Jx rfl (step_alloc (fun w => zeroValue190 w) zr190) fun v11 => ?_
   refine Ju (step_store_box ty190 Sr Sr zS) fun _ => ?_
   refine JL_freeze (t := 11) (Sel.take (Sel.none _)) Frz.box ?_
   refine JL_nil (Jr (Js rfl (step_fieldAddr so190 Sr rfl) (Jl rfl ty3 Sr (Jm rfl (Js rfl (step_eql Sr Sr) ?_)))))
   refine JL_nil ?_
   refine J_cond Sr (fun hc17 => ?_) (fun hc17 => ?_)
   ·
    try simp only [NF] at hc17
    refine Jr (Js rfl (step_fieldAddr so190 Sr rfl) (Jl rfl ty103 Sr (Jm rfl (Js rfl (step_comp hlt Sr Sr) (Ja rfl ?_)))))
    refine JL_nil (J_ret ?_)
    refine K_ret1 (t := 8) rfl () ?_
    refine Sub.bool ?_
    rw [testV, if_neg hpre]
    simp_all
   try simp only [NF] at hc17
   refine J_skip (J_region (Js rfl (step_add Sr Sr z6) (Jm rfl (JL_nil ?_))))
   refine K_againL (σ := Nat) (s := i) (i + 1) zO ?_ (zU) (LSub.rfl)
   refine ⟨by omega, fun k hk => ?_⟩
   by_cases e : k = i
   ·
    subst e; simp_all
   exact hv k zG
  try simp only [NF] at hc16
  have hno := fun c => opHolds_none (op := op) (c := c) (fun k hk => hv k zG)
  refine J_exit (Jr (Ja rfl (JL_nil (J_ret ?_))))
  refine K_ret1 (t := 8) rfl () ?_
  refine Sub.bool ?_
  rw [testV, if_neg hpre]
  simp_all
 try simp only [NF] at hc14
 refine Jr (Ja rfl (JL_nil (J_ret ?_)))
 refine K_ret1 (t := 8) rfl () ?_
 refine Sub.bool ?_
 rw [testV, if_neg hpre]
 simp_all
open Go Go.Proofs Go.Proofs.Tryz
theorem rDisable (w : World) : (callFunc 231 #[]).run prog w = .ok (.value (.tuple #[])) w := run_call_mark0 func231 (by kernel_rfl) (by kernel_rfl) (by kernel_rfl) .disable (by kernel_rfl) w
theorem rEnable (w : World) : (callFunc 233 #[]).run prog w = .ok (.value (.tuple #[])) w := run_call_mark0 func233 (by kernel_rfl) (by kernel_rfl) (by kernel_rfl) .enable (by kernel_rfl) w
theorem rAcquire (a : Addr) (w : World) : (callFunc 234 #[.pointer (some a)]).run prog w = .ok (.value (.tuple #[])) w := run_call_marked func234 (by kernel_rfl) (by kernel_rfl) (by kernel_rfl) .acquire (by kernel_rfl) a w
theorem rMerge (a : Addr) (w : World) : (callFunc 236 #[.pointer (some a)]).run prog w = .ok (.value (.tuple #[])) w := run_call_marked func236 (by kernel_rfl) (by kernel_rfl) (by kernel_rfl) .releaseMerge (by kernel_rfl) a w
theorem store_deferred (a : Addr) (x : Value) (u : FrameMode) (w : World) (hc : w.cell? a = some x) (hz : w.frozen? a = false) :
    CallsD prog 213 #[.pointer (some a), .bool true] u w fun e u' w' => u' = u ∧ (e = .returned (.tuple #[]) ∧ w' = w.drew.setCell a (.int .u32 1)) := by
  have hc' : w.drew.cell? a = some x := by go_simp
  have hz' : w.drew.frozen? a = false := by go_simp
  have hst := run_call_store (P := prog) func223 (by kernel_rfl) (by kernel_rfl) (by kernel_rfl) (by kernel_rfl) (k := .u32) (y := 1) hc' hz'
  go_enter_d func213, Tryz.ntmps213
  go_wp2
  go_region_calls
  all_goals (go_end0; exact ⟨rfl, rfl⟩)
set_option maxRecDepth 100000 in
set_option maxHeartbeats 1600000 in
theorem unlock_deferred (a : Addr) (u : FrameMode) (w : World) (hc : w.cell? a = some (.int .i32 1)) (hz : w.frozen? a = false) :
    CallsD prog 212 #[.pointer (some a)] u w fun e u' w' => u' = u ∧ (e = .returned (.tuple #[]) ∧ w' = w.setCell a (.int .i32 0)) := by
  have hd := rDisable
  have he := rEnable
  have hr := rMerge
  have hadd := run_call_add (P := prog) func237 (by kernel_rfl) (by kernel_rfl) (by kernel_rfl) .i32 (by kernel_rfl) (y := -1) (s := 0) hc hz (by simp [go_sem]; rfl)
  have hcv := run_convert_to_unsafe (P := prog) (src := 298) (dst := 302) underlying298 underlying302 (by kernel_rfl) hc
  go_enter_d func212, Tryz.ntmps212
  go_wp2
  go_end0
  go_wp2
  go_end0
  exact ⟨rfl, rfl⟩
set_option maxRecDepth 100000 in
set_option maxHeartbeats 1600000 in
theorem lock_free (a : Addr) (w : World) (hc : w.cell? a = some (.int .i32 0)) (hz : w.frozen? a = false) :
    Calls prog 211 #[.pointer (some a)] w fun e w' => e = .returned (.tuple #[]) ∧ w' = w.setCell a (.int .i32 1) := by
  have hd := rDisable
  have he := rEnable
  have ha := rAcquire
  have hcas := run_call_cas_hit (P := prog) func232 (by kernel_rfl) (by kernel_rfl) (by kernel_rfl) .i32 (by kernel_rfl) (y := 1) hc hz
  have hc' : (w.setCell a (.int .i32 1)).cell? a = some (.int .i32 1) := World.cell?_setCell_same w a _ hc
  have hcv := run_convert_to_unsafe (P := prog) (src := 298) (dst := 302) underlying298 underlying302 (by kernel_rfl) hc'
  go_enter func211, Tryz.ntmps211
  go_wp2
  first | go_end0 | (simp only [Exit.inBlock, Exit.then]; refine bodyPost_ret (results_none rfl _ _ _) rfl ?_) | refine bodyPost_ret (results_none rfl _ _ _) rfl ?_
  go_wp2
  go_end0
  exact ⟨rfl, rfl⟩
open Go Go.Proofs Go.Proofs.Tryz
set_option maxRecDepth 100000 in
set_option maxHeartbeats 1600000 in
theorem slow_any (b : Nat) (w : World) (Q : World → Prop) (h0 : w.cell? ⟨b, 0, none⟩ = some (.int .u32 0)) (h1 : w.cell? ⟨b, 1, none⟩ = some (.int .i32 0)) (f0 : w.frozen? ⟨b, 0, none⟩ = false) (f1 : w.frozen? ⟨b, 1, none⟩ = false)
    (hf : Calls prog 186 #[.pointer (some ⟨b, 0, none⟩)] (w.setCell ⟨b, 1, none⟩ (.int .i32 1)) fun e w2 => e = .returned (.tuple #[]) ∧ Q w2 ∧ w2.cell? ⟨b, 0, none⟩ = some (.int .u32 0) ∧ w2.cell? ⟨b, 1, none⟩ = some (.int .i32 1) ∧ w2.frozen? ⟨b, 0, none⟩ = false ∧ w2.frozen? ⟨b, 1, none⟩ = false) :
    Calls prog 202 #[.pointer (some ⟨b, 0, none⟩), .func (.func 186) #[.pointer (some ⟨b, 0, none⟩)] #[]] w fun e w' => e = .returned (.tuple #[]) ∧ ∃ w2, Q w2 ∧ w' = (w2.drew.setCell ⟨b, 0, none⟩ (.int .u32 1)).setCell ⟨b, 1, none⟩ (.int .i32 0) := by
  have hl := run_call_load (P := prog) func210 (by kernel_rfl) (by kernel_rfl) (by kernel_rfl) .u32 (by kernel_rfl) (w := w.setCell ⟨b, 1, none⟩ (.int .i32 1)) (a := ⟨b, 0, none⟩) (x := 0) ((World.cell?_setCell_other _ ⟨b, 1, none⟩ ⟨b, 0, none⟩ _ (by simp)).trans h0)
  have hnot : ∀ (x : Bool) (w : World), (Op.unary .not (.bool x)).run prog w = .ok (.bool (!x)) w := fun _ _ => rfl
  go_enter_defers func202, Tryz.ntmps202
  go_wp2_with (first | (go_at_call 211; refine (lock_free ⟨b, 1, none⟩ _ (by first | exact h1 | go_simp) (by first | exact f1 | go_simp)).mono ?_; rintro e w' ⟨rfl, rfl⟩) | (go_at_call 186; refine hf.mono ?_; rintro e w2 ⟨rfl, hq, g0, g1, z0, z1⟩) | (go_at_call 201; go_in))
  refine leaves_cons (f := 213) (args := #[.pointer (some ⟨b, 0, none⟩), .bool true]) (by simp) (by simp [go_sem]) ?_
  refine (store_deferred ⟨b, 0, none⟩ (.int .u32 0) .returning _ g0 z0).mono ?_
  rintro e u' w'' ⟨rfl, rfl, rfl⟩
  refine leaves_cons (f := 212) (args := #[.pointer (some ⟨b, 1, none⟩)]) (by simp [settle]) (by simp [go_sem]) ?_
  refine (unlock_deferred ⟨b, 1, none⟩ _ _ ?_ (by simp [z1])).mono ?_
  · refine (World.cell?_setCell_other _ ⟨b, 0, none⟩ ⟨b, 1, none⟩ _ (by simp)).trans ?_
    rw [World.cell?_drew]; exact g1
  rintro e u' w'' ⟨rfl, rfl, rfl⟩
  simp only [Leaves, settle]
  simp [results, Tryz.results202]
  exact ⟨w2, hq, rfl⟩
set_option maxRecDepth 100000 in
set_option maxHeartbeats 1600000 in
/-- Once.Do, for the first time. -/
theorem do_first (b : Nat) (w : World) (Q : World → Prop) (h0 : w.cell? ⟨b, 0, none⟩ = some (.int .u32 0)) (h1 : w.cell? ⟨b, 1, none⟩ = some (.int .i32 0)) (f0 : w.frozen? ⟨b, 0, none⟩ = false) (f1 : w.frozen? ⟨b, 1, none⟩ = false)
    (hf : Calls prog 186 #[.pointer (some ⟨b, 0, none⟩)] (w.setCell ⟨b, 1, none⟩ (.int .i32 1)) fun e w2 => e = .returned (.tuple #[]) ∧ Q w2 ∧ w2.cell? ⟨b, 0, none⟩ = some (.int .u32 0) ∧ w2.cell? ⟨b, 1, none⟩ = some (.int .i32 1) ∧ w2.frozen? ⟨b, 0, none⟩ = false ∧ w2.frozen? ⟨b, 1, none⟩ = false) :
    Calls prog 185 #[.pointer (some ⟨b, 0, none⟩), .func (.func 186) #[.pointer (some ⟨b, 0, none⟩)] #[]] w fun e w' => e = .returned (.tuple #[]) ∧ ∃ w2, Q w2 ∧ w' = (w2.drew.setCell ⟨b, 0, none⟩ (.int .u32 1)).setCell ⟨b, 1, none⟩ (.int .i32 0) := by
  have hl := run_call_load (P := prog) func210 (by kernel_rfl) (by kernel_rfl) (by kernel_rfl) .u32 (by kernel_rfl) h0
  have hnot : ∀ (x : Bool) (w : World), (Op.unary .not (.bool x)).run prog w = .ok (.bool (!x)) w := fun _ _ => rfl
  go_enter func185, Tryz.ntmps185
  go_wp2_with (first | (go_at_call 202; refine (slow_any b w Q h0 h1 f0 f1 hf).mono ?_; rintro e w' ⟨rfl, w2, hq, rfl⟩) | (go_at_call 201; go_in))
  go_end0
  exact ⟨rfl, w2, hq, rfl⟩
open Go Go.Proofs Go.Proofs.Tryz
theorem bytesOf_rng (s : ByteArray) : ∀ x ∈ bytesOf s, 0 ≤ x ∧ x < 256 := by
  intro x hx
  unfold bytesOf at hx
  obtain ⟨b, _, rfl⟩ := List.mem_map.1 hx
  have := b.toNat_lt
  omega
def escU (c : Int) : List Int := if c = 34 then [92, 34] else if c = 92 then [92, 92] else if c = 10 then [92, 110] else [c]
def escL (l : List Int) : List Int := l.flatMap escU
theorem escL_cons (c : Int) (l : List Int) : escL (c :: l) = escU c ++ escL l := by simp [escL]
theorem escL_append (a b : List Int) : escL (a ++ b) = escL a ++ escL b := by simp [escL]
open Go Go.Proofs Go.Proofs.Tryz
/-- What a byte is replaced by; nil where it stays. -/
def tRep : List Int → Ty
  | [] => tV (.slice none 0 0)
  | x :: xs => tSl rU8 (x :: xs)
theorem tRep_one : ∀ {xs : List Int} {h : PH} {v : Value}, (tRep xs).p h v → v.oneCell' = true
  | [], h, v, a => by have a : v = .slice none 0 0 := a; subst a; rfl
  | x :: xs, h, v, a => by obtain ⟨ao, cap, rfl, _⟩ := a; rfl
theorem tRep_of {xs : List Int} (h : xs ≠ []) : tRep xs = tSl rU8 xs := by
  cases xs with
  | nil => exact absurd rfl h
  | cons x xs => rfl
def rRep : Rp (List Int) where
  k := 1
  agg := false
  rel := fun h o cs => ∃ u, cs = [u] ∧ (tRep o).p h u
  ty := tRep
  len := by rintro _ _ _ ⟨u, rfl, _⟩; rfl
  one := by rintro _ _ _ ⟨u, rfl, h⟩ c hc; simp at hc; subst hc; exact tRep_one h
  mono := fun {h h' o cs} l ⟨u, e, a⟩ => ⟨u, e, (tRep o).mono l a⟩
  scalar := fun _ => rfl
  iff := by
    intro h x v
    constructor
    · intro h1; exact ⟨[v], ⟨v, rfl, h1⟩, rfl⟩
    · rintro ⟨cs, ⟨u, rfl, h1⟩, rfl⟩; exact h1
theorem ty271R : TyOf prog 271 rRep := ⟨fun w => isAgg271 w, fun w => sizeOf271 w⟩
theorem ty272 : TyOf prog 272 (rArr 256 rRep) := ⟨fun w => isAgg272 w, fun w => sizeOf272 w⟩
abbrev fsB1 : List (SF (List (List Int) × Value)) := [⟨List (List Int), 272, rArr 256 rRep, Prod.fst⟩, ⟨Value, 60, rV, Prod.snd⟩]
abbrev fsB2 : List (SF (List (List Int) × List ByteArray)) := [⟨List (List Int), 272, rArr 256 rRep, Prod.fst⟩, ⟨List ByteArray, 60, rSl rStr, Prod.snd⟩]
theorem ty274a : TyOf prog 274 (rStruct fsB1) := ⟨fun w => isAgg274 w, fun w => sizeOf274 w⟩
theorem ty274 : TyOf prog 274 (rStruct fsB2) := ⟨fun w => isAgg274 w, fun w => sizeOf274 w⟩
theorem so274a : StructOf prog 274 fsB1 := ⟨⟨_, underlying274, ⟨rfl, rfl, ty272, by decide, ⟨rfl, rfl, ty60V, by decide, trivial⟩⟩⟩, ty274a⟩
theorem so274 : StructOf prog 274 fsB2 := ⟨⟨_, underlying274, ⟨rfl, rfl, ty272, by decide, ⟨rfl, rfl, ty60, by decide, trivial⟩⟩⟩, ty274⟩
abbrev nilsR : List (List Int) := List.replicate 256 []
theorem relAll_nils {h : PH} : ∀ n, relAll rRep h (List.replicate n []) (List.replicate n (Value.slice none 0 0))
  | 0 => rfl
  | n + 1 => ⟨[.slice none 0 0], List.replicate n (.slice none 0 0), rfl, ⟨_, rfl, rfl⟩, relAll_nils n⟩
theorem zr274 : ∀ h, ((rStruct fsB1).ty (nilsR, .slice none 0 0)).p h (.agg Tryz.zeroCells274) := fun h =>
  ⟨List.replicate 256 (.slice none 0 0) ++ [.slice none 0 0], ⟨_, _, rfl, ⟨by simp, relAll_nils 256⟩, [.slice none 0 0], [], rfl, ⟨rfl, rfl⟩, rfl⟩, by kernel_rfl⟩
/-- The object behind the interface. -/
def replE (l : List ByteArray) : Nat → List (List Int)
  | 0 => nilsR
  | n + 1 => (replE l n).set (nth (bytesOf (nth l (l.length - 2 - 2 * n))) 0).toNat (bytesOf (nth l (l.length - 2 - 2 * n + 1)))
def toRepE (l : List ByteArray) (n : Nat) : List ByteArray := (List.range n).map fun i => nth l (l.length - 2 - 2 * i)
abbrev six : List ByteArray := [⟨#[34]⟩, ⟨#[92, 34]⟩, ⟨#[92]⟩, ⟨#[92, 92]⟩, ⟨#[10]⟩, ⟨#[92, 110]⟩]
def tRI : Ty := tIf 275 (tPtr (rStruct fsB2) (replE six 3, toRepE six 3))
def tOI : Bool → Ty
  | false => tV .nilIface
  | true => tRI
theorem tOI_one : ∀ {o : Bool} {h : PH} {v : Value}, (tOI o).p h v → v.oneCell' = true
  | false, h, v, a => by have a : v = .nilIface := a; subst a; rfl
  | true, h, v, a => by obtain ⟨u, rfl, b, off, cs, rfl, _⟩ := a; rfl
def rOI : Rp Bool where
  k := 1
  agg := false
  rel := fun h o cs => ∃ u, cs = [u] ∧ (tOI o).p h u
  ty := tOI
  len := by rintro _ _ _ ⟨u, rfl, _⟩; rfl
  one := by rintro _ _ _ ⟨u, rfl, h⟩ c hc; simp at hc; subst hc; exact tOI_one h
  mono := fun {h h' o cs} l ⟨u, e, a⟩ => ⟨u, e, (tOI o).mono l a⟩
  scalar := fun _ => rfl
  iff := by
    intro h x v
    constructor
    · intro h1; exact ⟨[v], ⟨v, rfl, h1⟩, rfl⟩
    · rintro ⟨cs, ⟨u, rfl, h1⟩, rfl⟩; exact h1
theorem ty240 : TyOf prog 240 rOI := ⟨fun w => isAgg240 w, fun w => sizeOf240 w⟩
theorem ty238 : TyOf prog 238 (rCells 3) := ⟨fun w => isAgg238 w, fun w => sizeOf238 w⟩
abbrev GRpl := List Value × Bool × List ByteArray
abbrev fsRpl : List (SF GRpl) := [⟨List Value, 238, rCells 3, fun x => x.1⟩, ⟨Bool, 240, rOI, fun x => x.2.1⟩, ⟨List ByteArray, 60, rSl rStr, fun x => x.2.2⟩]
theorem ty242 : TyOf prog 242 (rStruct fsRpl) := ⟨fun w => isAgg242 w, fun w => sizeOf242 w⟩
theorem so242 : StructOf prog 242 fsRpl := ⟨⟨_, underlying242, ⟨rfl, rfl, ty238, by decide, ⟨rfl, rfl, ty240, by decide, ⟨rfl, rfl, ty60, by decide, trivial⟩⟩⟩⟩, ty242⟩
abbrev once (d m : Int) : List Value := [.int .u32 d, .int .i32 m, .int .u32 0]
open Go Go.Proofs Go.Proofs.Tryz
theorem rpl_cells {h : PH} {y : GRpl} {cs : List Value} (r : SF.rel h y fsRpl cs) : ∃ u v, cs = y.1 ++ [u, v] ∧ y.1.length = 3 := by
  obtain ⟨c0, _, rfl, ⟨rfl, hl, _⟩, c1, _, rfl, ⟨u, rfl, _⟩, c2, _, rfl, r2, rz⟩ := r
  obtain ⟨v, rfl, _⟩ := r2
  rw [show _ = [] from rz]
  exact ⟨u, v, by simp, hl⟩
theorem rpl_set {h : PH} {o o' : List Value} {a : Bool} {l : List ByteArray} {cs : List Value} (r : SF.rel h (o, a, l) fsRpl cs) (hl : o'.length = 3) (ho : ∀ c ∈ o', c.oneCell' = true) : SF.rel h (o', a, l) fsRpl (o' ++ cs.drop 3) := by
  obtain ⟨c0, c1, rfl, ⟨e0, h0, _⟩, r1⟩ := r
  have e0 : c0 = o := e0
  subst e0
  refine ⟨o', c1, ?_, ⟨rfl, hl, ho⟩, r1⟩
  rw [List.drop_left' h0]
theorem setCell_heap {w : World} {b i : Nat} {c : Array Value} {t : Nat} {v : Value} (hb : w.heap[b]? = some (.cells c t (0, 0))) : (w.setCell ⟨b, i, none⟩ v).heap[b]? = some (.cells (c.setIfInBounds i v) t (0, 0)) := by
  simpa using heap_setCell_same w b i c t v hb
theorem Sep.setCell {h m r : PH} {w : World} {b i : Nat} {c : Array Value} {t : Nat} {v : Value} (d : (PH.one b (.cells c t (0, 0))).disj m) (s : Sep h ((PH.one b (.cells c t (0, 0))).join m) r w) :
    Sep h ((PH.one b (.cells (c.setIfInBounds i v) t (0, 0))).join m) r (w.setCell ⟨b, i, none⟩ v) :=
  Sep.write d s (fun b' hne _ => heap_setCell_other w ⟨b, i, none⟩ b' v hne) (setCell_heap s.heap_own)
theorem Same.setCell (w : World) (a : Addr) (v : Value) : Same w (w.setCell a v) := ⟨rfl, rfl, rfl⟩
theorem Do_spec (b : Nat) (hB : Spec (X := Unit) prog 186 [tAt b 0] [box b 242 (rStruct fsRpl) (once 0 1, false, six)] (fun _ => tTup []) (fun _ => [box b 242 (rStruct fsRpl) (once 0 1, true, [])])) :
    Spec (X := Unit) prog 185 [tAt b 0, tV (.func (.func 186) #[.pointer (some ⟨b, 0, none⟩)] #[])] [box b 242 (rStruct fsRpl) (once 0 0, false, six)] (fun _ => tTup []) (fun _ => [box b 242 (rStruct fsRpl) (once 1 0, true, [])]) := by
  intro vs h m r w ha sp st
  match vs, ha with
  | [u1, u2], ⟨a1, a2, _⟩ =>
  have a1 : u1 = .pointer (some ⟨b, 0, none⟩) := a1
  have a2 : u2 = .func (.func 186) #[.pointer (some ⟨b, 0, none⟩)] #[] := a2
  subst a1; subst a2
  obtain ⟨m1, m2, d12, rfl, ⟨cs, rel, rfl⟩, e2⟩ := st
  have e2 : m2 = PH.emp := e2
  subst e2
  obtain ⟨u, v, hcs, _⟩ := rpl_cells rel
  have hcs : cs = [.int .u32 0, .int .i32 0, .int .u32 0, u, v] := hcs
  subst hcs
  have hb := sp.heap_own
  have hcell : ∀ i, w.cell? ⟨b, i, none⟩ = ([.int .u32 0, .int .i32 0, .int .u32 0, u, v] : List Value).toArray[i]? := fun i => inw_cells (h := h) hb i
  have hfz : ∀ i, w.frozen? ⟨b, i, none⟩ = false := fun i => by simp [World.frozen?, hb]
  have s1 := sp.setCell (i := 1) (v := .int .i32 1) d12
  have rel1 := rpl_set (o' := once 0 1) rel rfl (by intro c hc; simp at hc; rcases hc with rfl | rfl | rfl <;> rfl)
  refine (do_first b w (fun w2 => ∃ h' m', HL h w h' w2 ∧ Sep h' m' r w2 ∧ (stars [box b 242 (rStruct fsRpl) (once 0 1, true, [])]).p h' m') (hcell 0) (hcell 1) (hfz 0) (hfz 1) ?_).mono ?_
  · refine (hB [.pointer (some ⟨b, 0, none⟩)] h _ r _ ⟨rfl, trivial⟩ s1 ⟨_, PH.emp, PH.disj_emp _, rfl, ⟨_, rel1, rfl⟩, rfl⟩).mono ?_
    rintro e w2 ⟨x, v2, h', m', rfl, l, s2, st2, ⟨vs, hv, hva⟩⟩
    have hvs : v2 = .tuple #[] := by
      cases vs with
      | nil => exact hv
      | cons a b => exact hva.elim
    subst hvs
    have st2' := st2
    obtain ⟨m3, m4, d34, rfl, ⟨cs2, relb, rfl⟩, e4⟩ := st2
    have e4 : m4 = PH.emp := e4
    subst e4
    obtain ⟨u', v', hcs2, _⟩ := rpl_cells relb
    have hcs2 : cs2 = [.int .u32 0, .int .i32 1, .int .u32 0, u', v'] := hcs2
    subst hcs2
    have hb2 := s2.heap_own
    have hc2 : ∀ i, w2.cell? ⟨b, i, none⟩ = ([.int .u32 0, .int .i32 1, .int .u32 0, u', v'] : List Value).toArray[i]? := fun i => inw_cells (h := h') hb2 i
    have hz2 : ∀ i, w2.frozen? ⟨b, i, none⟩ = false := fun i => by simp [World.frozen?, hb2]
    exact ⟨rfl, ⟨h', _, ⟨l.1, (Same.setCell w ⟨b, 1, none⟩ _).trans l.2⟩, s2, st2'⟩, hc2 0, hc2 1, hz2 0, hz2 1⟩
  · rintro e w' ⟨rfl, w2, ⟨h', m', l, s2, st2⟩, rfl⟩
    obtain ⟨m3, m4, d34, rfl, ⟨cs2, relb, rfl⟩, e4⟩ := st2
    have e4 : m4 = PH.emp := e4
    subst e4
    obtain ⟨u', v', hcs2, _⟩ := rpl_cells relb
    have hcs2 : cs2 = [.int .u32 0, .int .i32 1, .int .u32 0, u', v'] := hcs2
    subst hcs2
    have t1 := (s2.drew).setCell (i := 0) (v := .int .u32 1) d34
    have t2 := t1.setCell (i := 1) (v := .int .i32 0) (PH.disj_emp _)
    have rel2 := rpl_set (o' := once 1 0) relb rfl (by intro c hc; simp at hc; rcases hc with rfl | rfl | rfl <;> rfl)
    exact ⟨(), .tuple #[], h', _, rfl, ⟨l.1, l.2.trans ((Same.drew _).trans ((Same.setCell _ _ _).trans (Same.setCell _ _ _)))⟩, t2, ⟨_, PH.emp, PH.disj_emp _, rfl, ⟨_, rel2, rfl⟩, rfl⟩, ⟨[], rfl, trivial⟩⟩
open Go Go.Proofs Go.Proofs.Tryz
theorem step_eql_nilV {C : Cx} {E : Env} {L : List SP} {d : Option Nat} {ty : Nat} {pos : String} {af : Array Edge} {g : Option (Nat × Bool)} {T U e : Nat} {x : Operand} (hu : C.P.underlying T = some (.slice e)) (hx : Sub (opTy E x) (tV (.slice none 0 0))) :
    Step1 C ⟨d, .binOp .eql T x (.const (.slice none 0 0)) U, ty, pos, af, g⟩ E L (tV (.bool true)) :=
  Step.of_same (by intro c h; cases h) fun a w h hw fr => by
    have hv : a.eval x = .slice none 0 0 := fr.get hx
    refine ⟨.bool true, ?_, rfl⟩
    have he : ∀ w, (eqGuard .eql T x (.const (.slice none 0 0)) (a.eval x) (.slice none 0 0)).run C.P w = .ok () w := by intro w; rw [hv]; simp [eqGuard]
    have h2 : a.eval (.const (.slice none 0 0)) = .slice none 0 0 := rfl
    have hr := Lib.run_eql_slice_nil (P := C.P) w T e none 0 0 0 0 hu
    rw [hv] at he
    simp [execOp, hv, h2, Sem.run_bind, he, hr]
theorem bsr_eq : ∀ c, c < 3 → nth (replE six c) (nth (bytesOf (nth six (6 - 2 - 2 * c))) 0).toNat = [] := by decide
theorem key_str : ∀ c, c < 3 → ofBytes [nth (bytesOf (nth six (6 - 2 - 2 * c))) 0] = nth six (6 - 2 - 2 * c) := by decide
theorem val_ne : ∀ c, c < 3 → bytesOf (nth six (6 - 2 - 2 * c + 1)) ≠ [] := by decide
theorem z229 (w : World) : (zeroValue 274).run prog w = .ok (.agg ([List.replicate 256 (.slice none 0 0), [.slice none 0 0]].flatten.toArray)) w := by
  rw [zeroValue274 w]
  exact congrArg (fun c => Result.ok (Value.agg c) w) (by kernel_rfl)
theorem oldnew_one : ∀ i, i < 6 → i % 2 = 0 → (nth six i).size = 1 := by decide
theorem oldnew_two : ∀ i, i < 6 → i % 2 = 0 → (nth six (i + 1)).size = 2 := by decide
theorem NewReplacer_spec (l : List ByteArray) (hl : l.length ≤ 1000000) (he : l.length % 2 = 0) : Spec (X := Nat) prog 162 [tSl rStr l] ([]) (fun b => tAt b 0) (fun b => [box b 242 (rStruct fsRpl) (once 0 0, false, l)]) := by
 refine Spec.enter func162 rfl rfl fun h0 w0 fr0 => ?_
 refine Jr (Ja rfl (JL_nil (J_seq (Jr (Jm rfl ?_)))))
 refine Js rfl (step_len_sl underlying60 Sr) ?_
 refine Js rfl (step_rem Sr Sr zG (by decide)) ?_
 refine Js rfl (step_eql Sr Sr) (JL_nil ?_)
 refine J_cond Sr (fun h6 => ?_) (fun h6 => ?_)
 ·
  try simp only [NF] at h6
  exfalso; have h6 : (l.length : Int) % 2 = 1 := h6; omega
 try simp only [NF] at h6
 refine J_skip (J_seq ?_)
 refine K_lsub (LSub.nilown (e := 9) (R := rStr)) ?_
 refine J_region (Jm rfl ?_)
 refine Jx rfl (step_append underlying60 el9 (Sub.rV rfl) Sr zS (by simp; omega) (by simp; omega)) fun v9 => ?_
 refine JL_freeze (t := 9) (A' := tSl rStr l) (Sel.take (Sel.none _)) (Frz.own' (by simp)) ?_
 refine Js rfl (step_build (x := ((once 0 0, false, l) : GRpl)) (zs := [once 0 0, [.nilIface], [.slice none 0 0]]) so242 (fun w => zeroValue242 w) ⟨Sr, trivial⟩ ⟨fun _ => ⟨rfl, rfl, by intro c hc; simp at hc; rcases hc with rfl | rfl | rfl <;> rfl⟩, fun _ => ⟨_, rfl, rfl⟩, ⟨Sr, rfl⟩, trivial⟩) ?_
 refine Jx rfl (step_box_own (R := rStruct fsRpl) Sr) fun b11 => ?_
 refine Ja rfl (JL_nil (J_ret ?_))
 refine K_ret1 (t := 2) rfl b11 Sr
set_option maxHeartbeats 4000000 in
theorem build_spec (b : Nat) : Spec (X := Unit) prog 203 [tAt b 0] ([box b 242 (rStruct fsRpl) (once 0 1, false, six)]) (fun _ => tRI) (fun _ => [box b 242 (rStruct fsRpl) (once 0 1, false, six)]) := by
 refine Spec.enter func203 rfl rfl fun h0 w0 fr0 => ?_
 refine Jr (Ja rfl (JL_nil (Jr (Jm rfl (Js rfl (step_nilCheck Sr) ?_)))))
 refine Js rfl (step_fieldAddr_own so242 Sr rfl) ?_
 refine Js rfl (step_load_fld ty60 Sr rfl zS) ?_
 refine Ja rfl (JL_nil (J_seq (Jr (Jm rfl (Js rfl (step_len_sl underlying60 Sr) ?_)))))
 refine Js rfl (step_eql Sr Sr) (Jm rfl ?_)
 refine Jk rfl Sr rfl (step_move Sr) ?_
 refine Jg rfl Sr rfl (fun hw => step_indexAddr_sl (i := 0) underlying60 ty9 (Sub.w hw) Sr (by rfl) (gb (by have hwq := hw; (try simp only [beqB_t, beqB_f, NF] at hwq); decide))) ?_
 refine Jg rfl Sr rfl (fun hw => step_load_ptr ty9 (Sub.w hw)) (Jg rfl Sr rfl (fun hw => step_len_str underlying9 (Sub.w hw)) (Jg rfl Sr rfl (fun hw => step_gtr (Sub.w hw) Sr) (Js rfl (step_pick_and Sr Sr) (JL_nil ?_))))
 refine J_cond Sr (fun h28 => ?_) (fun h28 => ?_)
 ·
  try simp only [NF] at h28
  exfalso; simp at h28
 try simp only [NF] at h28
 refine J_skip (Jr (Ja rfl (JL_nil (J_seq (Jr ?_)))))
 refine Ja rfl (JL_nil (J_block ?_))
 refine J_loopL (σ := Nat × Bool) (fun ⟨i, al⟩ => i ≤ 6 ∧ i % 2 = 0 ∧ (al = true → i = 0)) (fun ⟨i, al⟩ => upd (upd (upd env0 3 (tSl rStr six)) 4 (tV (.bool al))) 5 (tV (.int .i64 i))) (fun ⟨i, al⟩ => [box b 242 (rStruct fsRpl) (once 0 1, false, six)]) (fun ⟨i, al⟩ => 6 - i) (0, true) ⟨by omega, by omega, fun _ => rfl⟩ (zU) (LSub.rfl) ?_
 rintro ⟨i, al⟩ ⟨hi, hev, hal⟩
 refine J_seq (Jr (Jm rfl (Jm rfl (Js rfl (step_len_sl underlying60 Sr) (Js rfl (step_lss Sr Sr) ?_)))))
 refine JL_nil ?_
 refine J_cond Sr (fun h40 => ?_) (fun h40 => ?_)
 ·
  try simp only [NF] at h40
  have h6 : six.length = 6 := rfl
  have hlt : i < 6 := by omega
  refine J_skip (J_seq (J_block (J_seq (Jr (Jm rfl ?_)))))
  refine Jm rfl ?_
  refine Js rfl (step_indexAddr_sl  underlying60 ty9 Sr Sr rfl (gb (by exact hlt))) ?_
  refine Jl rfl ty9 Sr (Js rfl (step_len_str underlying9 Sr) (Js rfl (step_neq Sr Sr) (JL_nil ?_)))
  refine J_cond Sr (fun h48 => ?_) (fun h48 => ?_)
  ·
   try simp only [NF] at h48
   exact absurd h48 (by have := oldnew_one i hlt hev; omega)
  try simp only [NF] at h48
  refine J_skip (Jr (Jm rfl (Jm rfl (Js rfl (step_add Sr Sr z6) ?_))))
  refine Js rfl (step_indexAddr_sl (i := (i + 1)) underlying60 ty9 Sr Sr zG (gb (by show i + 1 < 6; omega))) ?_
  refine Jl rfl ty9 Sr (Js rfl (step_len_str underlying9 Sr) (Js rfl (step_neq Sr Sr) (JL_nil ?_)))
  refine J_cond Sr (fun h58 => ?_) (fun h58 => ?_)
  ·
   try simp only [NF] at h58
   refine J_region (Ja rfl (JL_nil (J_region (Jm rfl (Js rfl (step_add Sr Sr z6) ?_)))))
   refine Ja rfl (JL_nil ?_)
   refine K_againL (σ := Nat × Bool) (s := (i, al)) (i + 2, false) zO ⟨by omega, by omega, fun q => by cases q⟩ (zU) (LSub.rfl)
  try simp only [NF] at h58
  exact absurd h58 (by have := oldnew_two i hlt hev; omega)
 try simp only [NF] at h40
 have h6 : six.length = 6 := rfl
 have hge : 6 ≤ i := by omega
 refine J_exit (J_seq (Jr (Jm rfl (JL_nil ?_))))
 refine J_cond Sr (fun h59 => ?_) (fun h59 => ?_)
 ·
  try simp only [NF] at h59
  exfalso; have := hal h59; omega
 try simp only [NF] at h59
 refine J_skip (Jr (Jm rfl (Js rfl (step_len_sl underlying60 Sr) ?_)))
 refine Js rfl (step_quo Sr Sr (by decide) (by decide) z6) ?_
 refine Jx rfl (step_make0 (c := 3) underlying60 el9 Sr Sr rfl (by decide) (by decide) (by decide)) fun v94 => ?_
 refine Js rfl (step_build (x := ((nilsR, v94) : List (List Int) × Value)) (zs := [List.replicate 256 (.slice none 0 0), [.slice none 0 0]]) so274a z229 ⟨Sr, trivial⟩ ⟨fun _ => ⟨by simp, relAll_nils 256⟩, ⟨Sr, rfl⟩, trivial⟩) ?_
 refine Jx rfl (step_alloc (R := rStruct fsB1) (z := (nilsR, .slice none 0 0)) (fun w => zeroValue274 w) zr274) fun b11 => ?_
 refine Ju (step_store_box ty274a Sr Sr zS) fun _ => ?_
 refine JL_nil (J_seq (Jr (Jm rfl (Js rfl (step_len_sl underlying60 Sr) (Js rfl (step_sub Sr Sr z6) ?_)))))
 refine Ja rfl (JL_nil (J_block ?_))
 refine J_loopL (σ := Nat × Value) (fun ⟨c, v⟩ => c ≤ 3) (fun ⟨c, v⟩ => upd (upd (upd env0 3 (tSl rStr six)) 11 (tAt b11 0)) 12 (tV (.int .i64 (4 - 2 * (c : Int))))) (fun ⟨c, v⟩ => [box b11 274 (rStruct fsB1) (replE six c, v), own 9 rStr v (toRepE six c), box b 242 (rStruct fsRpl) (once 0 1, false, six)]) (fun ⟨c, v⟩ => 3 - c) (0, v94) zG (SubE.upd (Sub.int (by decide)) (zU)) (.r zS (.c zS (own_eq rfl) (zL))) ?_
 rintro ⟨c, v⟩ hc
 try dsimp only at hc
 refine J_seq (Jr (Jm rfl (Js rfl (step_geq Sr Sr) (JL_nil ?_))))
 refine J_cond Sr (fun h100 => ?_) (fun h100 => ?_)
 ·
  try simp only [NF] at h100
  have hc3 : c < 3 := by omega
  have htl : (toRepE six c).length = c := by simp [toRepE]
  have hs1 := oldnew_one (6 - 2 - 2 * c) zG zG
  have hk : 0 ≤ (nth (bytesOf (nth six (6 - 2 - 2 * c))) 0) ∧ (nth (bytesOf (nth six (6 - 2 - 2 * c))) 0) < 256 := bytesOf_rng _ _ (nth_mem (by rw [bytesOf_len]; omega))
  refine J_skip (J_seq (J_block (Jr (Jm rfl (Jm rfl ?_)))))
  refine Js rfl (step_indexAddr_sl (i := (6 - 2 - 2 * c)) underlying60 ty9 Sr Sr zG (gb (by show 6 - 2 - 2 * c < 6; omega))) ?_
  refine Jl rfl ty9 Sr ?_
  refine Js rfl (step_index_str (i := 0) underlying9 Sr Sr (by rfl) zG) ?_
  refine Ja rfl (JL_nil (Jr (Jm rfl (Jm rfl (Js rfl (step_add Sr Sr z6) ?_)))))
  refine Js rfl (step_indexAddr_sl (i := (6 - 2 - 2 * c + 1)) underlying60 ty9 Sr Sr zG (gb (by show 6 - 2 - 2 * c + 1 < 6; omega))) ?_
  refine Jl rfl ty9 Sr (Ja rfl (JL_nil (J_seq (Jr (Jm rfl ?_)))))
  refine Js rfl (step_fieldAddr_own so274a Sr rfl) ?_
  refine Js rfl (step_arrIdx (o := 0) (i := (nth (bytesOf (nth six (6 - 2 - 2 * c))) 0).toNat) underlying272 (fun w => sizeOf271 w) Sr Sr zG zG) ?_
  refine Js rfl (step_load_arr (n := 256) ty271R rfl (Sub.v (by rw [Nat.zero_add])) zG zS) ?_
  refine Js rfl (step_eql_nilV underlying271 (Sub.of_eq (by show tRep (nth (replE six c) _) = _; rw [bsr_eq c hc3]; rfl))) ?_
  refine JL_nil ?_
  refine J_cond Sr (fun h117 => ?_) (fun h117 => ?_)
  ·
   try simp only [NF] at h117
   refine J_region (Js rfl (step_fieldAddr_own so274a Sr rfl) ?_)
   refine Js rfl (step_load_fld ty60V Sr rfl zS) ?_
   refine Jm rfl ?_
   refine Jx rfl (step_literal_own (ys := [_]) underlying271 el5 ⟨rfl, Sr, trivial⟩ rfl (by decide)) fun v121 => ?_
   refine Js rfl (step_convert_str underlying271 underlying5 underlying9 Sr zS) ?_
   refine JL_freeze (t := 121) (A' := tSl rU8 [(nth (bytesOf (nth six (6 - 2 - 2 * c))) 0)]) (Sel.take (Sel.none _)) Frz.own ?_
   refine Js rfl (step_literal (ys := [_]) underlying60 el9 ⟨rfl, Sr, trivial⟩ rfl (by decide)) ?_
   refine Jx rfl (step_append underlying60 el9 Sr Sr zS (by simp; omega) (by simp; omega)) fun v124 => ?_
   refine Js rfl (step_fieldAddr_own so274a Sr rfl) ?_
   refine Ju (step_store_fld (R := rV) (y := ((replE six c, v) : List (List Int) × Value)) (y' := ((replE six c, v124) : List (List Int) × Value)) ty60V Sr Sr zS ⟨rfl, fun h cs r => r, rfl, by intro g hg; cases hg⟩) fun _ => ?_
   refine JL_nil (J_region (Jm rfl (Jm rfl (Js rfl (step_convert_bytes underlying9 underlying271 underlying5 Sr) (Js rfl (step_fieldAddr_own so274a Sr rfl) ?_)))))
   refine Js rfl (step_arrIdx (o := 0) (i := (nth (bytesOf (nth six (6 - 2 - 2 * c))) 0).toNat) underlying272 (fun w => sizeOf271 w) Sr Sr zG zG) ?_
   refine Ju (step_store_arr (n := 256) (z := bytesOf (nth six (6 - 2 - 2 * c + 1))) (y' := ((replE six (c + 1), v124) : List (List Int) × Value)) ty271R rfl (Sub.v (by rw [Nat.zero_add])) zG (Sub.of_eq (tRep_of (val_ne c hc3)).symm) zS rfl (by intro f hf; simp at hf; subst hf; rfl)) fun _ => ?_
   refine JL_nil (J_region (Jm rfl (Js rfl (step_sub Sr Sr z6) (Ja rfl (JL_nil ?_)))))
   refine K_againL (σ := Nat × Value) (s := (c, v)) (c + 1, v124) zO zG (SubE.upd (Sub.int zG) (zU)) (.r zS (.c zS (own_eq (by rw [key_str c hc3]; simp [toRepE, List.range_succ])) (zL)))
  try simp only [NF] at h117
  exfalso; simp at h117
 try simp only [NF] at h100
 obtain rfl : c = 3 := by omega
 refine J_exit (Jr ?_)
 refine JL_freeze (t := 11) (A' := tPtr (rStruct fsB2) (replE six 3, toRepE six 3)) (Sel.take (Sel.take (Sel.none _))) (Frz.up (fun h h' cs le hv r => by
 obtain ⟨c0, _, rfl, r0, c1, _, rfl, r1, rz⟩ := r
 exact ⟨c0, _, rfl, (rArr 256 rRep).mono le r0, c1, _, rfl, ⟨_, r1.1, hv⟩, rz⟩)) ?_
 refine Js rfl (step_mkIface underlying275 (by intro m h; cases h) Sr) ?_
 refine Ja rfl (JL_nil (J_ret ?_))
 refine K_ret1 (t := 2) rfl () Sr
open Go
def tailAt (v : Value) (n : Nat) : Value := match v with
  | .slice (some a) l c => .slice (if c = n then some a else some ⟨a.block, a.off + n, none⟩) (l - n) (c - n)
  | v => v
section
variable {C : Cx} {E : Env} {L : List SP} {d : Option Nat} {ty : Nat} {pos : String} {af : Array Edge} {g : Option (Nat × Bool)}
theorem step_slice_tail8 {T e n : Nat} {x y : Operand} {v : Value} {xs : List Int} {S : List SP} {k : IntKind} {i : Int} (hu : C.P.underlying T = some (.slice e)) (hR : TyOf C.P e rU8)
    (hx : Sub (opTy E x) (rV.ty v)) (hy : Sub (opTy E y) (tV (.int k i))) (hi : i = n) (sel : Sel L [own e rU8 v xs] S) (hn : n ≤ xs.length) :
    Step1 C ⟨d, .slice T x (some y) none none, ty, pos, af, g⟩ E L (tV (tailAt v n)) :=
  Step.of_run (by intro c h; cases h) fun a w h m l sp st fr => by
    have hv : a.eval x = v := (fr.get hx).1
    have h2 : a.eval y = .int k i := fr.get hy
    subst hi
    obtain ⟨m1, m2, d12, rfl, ho, s2⟩ := sel.one.1 st
    have hsz := hR.size
    have hk : rU8.k = 1 := rfl
    rw [hk] at hsz
    rcases ho with ⟨rfl, rfl, rfl⟩ | ⟨b, cap, cur, rfl, rfl, hl, hm, hs, r⟩
    · have hn0 : n = 0 := by simpa using hn
      subst hn0
      refine ⟨(), .slice none 0 0, w, h, _, ?_, HL.refl, sp, st, rfl⟩
      simp [execOp, Instr.sliceAt, run_underlying hu, hv, h2, Instr.slice, Instr.sliceBounds, Instr.sliceBound, asIntOf, hsz]
    · have hnc : (n : Int) ≤ cap := by omega
      refine ⟨(), .slice (if cap = n then some ⟨b, 0, none⟩ else some ⟨b, 0 + n, none⟩) (xs.length - n) (cap - n), w, h, _, ?_, HL.refl, sp, st, rfl⟩
      simp [execOp, Instr.sliceAt, run_underlying hu, hv, h2, Instr.slice, Instr.sliceBounds, Instr.sliceBound, asIntOf, hsz, hn, hl, show n ≤ cap by omega]
      rw [addr_add, Nat.zero_add]
theorem step_copy_tail8 {T e n U : Nat} {x y : Operand} {v : Value} {xs ys : List Int} {S : List SP} (hu : C.P.underlying T = some (.slice e)) (hs : (C.P.info? e).map (·.size) = some 1)
    (hx : Sub (opTy E x) (tV (tailAt v n))) (hy : Sub (opTy E y) (tSl rU8 ys)) (sel : Sel L [own e rU8 v xs] S) (hn : n + ys.length ≤ xs.length) (hne : ys ≠ []) :
    Step C ⟨d, .call { callee := .builtin .copy, args := #[x, y], argTypes := #[T, U] }, ty, pos, af, g⟩ E L (fun _ : Unit => tV (.int .i64 (ys.length : Int))) (fun _ => own e rU8 v (xs.take n ++ ys ++ xs.drop (n + ys.length)) :: S) :=
  Step.of_run (by intro c h; cases h) fun a w h m l sp st fr => by
    have hv : a.eval x = tailAt v n := fr.get hx
    obtain ⟨ao, scap, hyv, H⟩ := fr.get hy
    obtain ⟨sb, so, rfl, H2⟩ := H hne
    obtain ⟨m1, m2, d12, rfl, ho, s2⟩ := sel.one.1 st
    have hyl : 0 < ys.length := List.length_pos_iff.2 hne
    rcases ho with ⟨rfl, rfl, rfl⟩ | ⟨b, cap, cur, rfl, rfl, hl, hm, hcs, r⟩
    · have hn : n + ys.length ≤ 0 := hn
      omega
    · have hb := sp.heap_own
      have hk : rU8.k = 1 := rfl
      rw [hk, Nat.mul_one] at hcs
      rw [hk, Nat.mul_one] at r
      have r := relAll_u8.1 r
      have hcn : ¬ cap = n := by omega
      have hv : a.eval x = .slice (some ⟨b, n, none⟩) (xs.length - n) (cap - n) := by rw [hv]; simp [tailAt, hcn]
      have hsrc : ∀ (j : Nat) u, (ys.map (Value.int .u8 ·))[j]? = some u → w.cell? ((⟨sb, so, none⟩ : Addr).add j) = some u := fun j u hj => by
        simp only [List.getElem?_map, Option.map_eq_some_iff] at hj
        obtain ⟨z, hz, rfl⟩ := hj
        obtain ⟨cs, Hc, hr⟩ := H2 j z hz
        have hr : cs = [.int .u8 z] := hr
        subst hr
        rw [addr_add]
        have := Hc.cell sp.hw (i := 0) (v := .int .u8 z) rfl
        simpa [hk] using this
      have hrun := run_copy_row (P := C.P) w T U ty e b n (xs.length - n) (cap - n) ⟨sb, so, none⟩ ys.length scap cur e (ys.map (Value.int .u8 ·)) hu hs hb (by rw [List.length_map]; exact (Nat.min_eq_left (by omega)).symm) hsrc (by simp; omega) (by intro u hu; obtain ⟨z, _, rfl⟩ := List.mem_map.1 hu; rfl)
      refine ⟨(), .int .i64 ys.length, w.setRow b (cur.toList.take n ++ ys.map (Value.int .u8 ·) ++ cur.toList.drop (n + ys.length)).toArray, h, (PH.one b (.cells (cur.toList.take n ++ ys.map (Value.int .u8 ·) ++ cur.toList.drop (n + ys.length)).toArray e (0, 0))).join m2, ?_, HL.same ⟨rfl, rfl, rfl⟩, Sep.write d12 sp (fun b' hne' _ => setRow_other w b b' _ hne') (setRow_heap w b cur _ e _ hb), ?_, rfl⟩
      · simp only [List.length_map] at hrun
        simp [execOp, resolve, invoke, builtin, hv, hyv, hrun, goInt]
      · refine ⟨_, m2, PH.one_disj_iff.2 (PH.one_disj_iff.1 d12), rfl, .inr ⟨b, cap, _, ?_, rfl, ?_, hm, ?_, ?_⟩, s2⟩
        · have : (xs.take n ++ ys ++ xs.drop (n + ys.length)).length = xs.length := by simp; omega
          rw [this]
        · simp; omega
        · simp [hk]; omega
        · rw [hk, Nat.mul_one]
          refine relAll_u8.2 ?_
          have hl2 : (xs.take n ++ ys ++ xs.drop (n + ys.length)).length = xs.length := by simp; omega
          rw [hl2]
          have := list_take_splice cur.toList (ys.map (Value.int .u8 ·)) n ys.length xs.length hn (by simp; omega) (by simp)
          rw [List.toList_toArray, this, r]
          simp [List.map_take, List.map_drop]
end
open Go Go.Proofs Go.Proofs.Tryz
theorem count_bytes (l : List UInt8) (c : Int) (h : 0 ≤ c ∧ c < 256) : l.count c.toNat.toUInt8 = (l.map fun b => (b.toNat : Int)).count c := by
  induction l with
  | nil => rfl
  | cons b l ih =>
    rw [List.map_cons, List.count_cons, List.count_cons, ih]
    congr 1
    have e : (b == c.toNat.toUInt8) = ((b.toNat : Int) == c) := by
      rw [Bool.eq_iff_iff, beq_iff_eq, beq_iff_eq]
      constructor
      · intro q
        subst q
        have : c.toNat.toUInt8.toNat = c.toNat := by show (UInt8.ofNat c.toNat).toNat = _; rw [UInt8.toNat_ofNat']; omega
        omega
      · intro q
        apply UInt8.toNat_inj.1
        show _ = (UInt8.ofNat c.toNat).toNat
        rw [UInt8.toNat_ofNat']; omega
    rw [e]
def extraL (l : List Int) : Nat := l.count 10 + l.count 92 + l.count 34
theorem escU_len (c : Int) : (escU c).length = 1 + extraL [c] := by
  unfold escU extraL
  by_cases h1 : c = 34
  · subst h1; rfl
  · by_cases h2 : c = 92
    · subst h2; rfl
    · by_cases h3 : c = 10
      · subst h3; rfl
      · simp [h1, h2, h3, List.count_cons]
theorem extraL_append (a b : List Int) : extraL (a ++ b) = extraL a + extraL b := by unfold extraL; rw [List.count_append, List.count_append, List.count_append]; omega
theorem extraL_le (l : List Int) : extraL l ≤ 3 * l.length := by
  unfold extraL
  have h1 := List.count_le_length (a := (10 : Int)) (l := l)
  have h2 := List.count_le_length (a := (92 : Int)) (l := l)
  have h3 := List.count_le_length (a := (34 : Int)) (l := l)
  omega
theorem escL_length : ∀ l : List Int, (escL l).length = l.length + extraL l
  | [] => rfl
  | c :: l => by
    have e : c :: l = [c] ++ l := rfl
    rw [escL_cons, List.length_append, escL_length l, escU_len, e, extraL_append]
    simp; omega
theorem escL_same : ∀ {l : List Int}, extraL l = 0 → escL l = l
  | [], _ => rfl
  | c :: l, h => by
    have e : c :: l = [c] ++ l := rfl
    rw [e, extraL_append] at h
    have h1 : escU c = [c] := by
      have h2 : extraL [c] = 0 := by omega
      unfold extraL at h2
      simp only [List.count_cons, List.count_nil] at h2
      unfold escU
      rw [if_neg, if_neg, if_neg]
      · rintro rfl; simp at h2
      · rintro rfl; simp at h2
      · rintro rfl; simp at h2
    rw [escL_cons, h1, escL_same (by omega)]; rfl
abbrev R3 : List (List Int) := replE six 3
abbrev T3 : List ByteArray := toRepE six 3
theorem r3_all : (List.range 256).all (fun c => decide (escU (c : Int) = if nth R3 c = [] then [(c : Int)] else nth R3 c) && decide (nth R3 c = [] ∨ (nth R3 c).length = 2)) = true := by kernel_rfl
theorem r3 {c : Int} (h : 0 ≤ c ∧ c < 256) : escU c = (if nth R3 c.toNat = [] then [c] else nth R3 c.toNat) ∧ (nth R3 c.toNat = [] ∨ (nth R3 c.toNat).length = 2) := by
  have := List.all_eq_true.1 r3_all c.toNat (List.mem_range.2 (by omega))
  rw [Bool.and_eq_true, decide_eq_true_eq, decide_eq_true_eq, Int.toNat_of_nonneg h.1] at this
  exact this
theorem t3_one : ∀ i, i < 3 → (nth T3 i).size = 1 := by decide
theorem t3_rep : ∀ i, i < 3 → (nth R3 (nth (bytesOf (nth T3 i)) 0).toNat).length = 2 := by decide
def sumC (l : List Int) (j : Nat) : Nat := ((List.range j).map fun i => l.count (nth (bytesOf (nth T3 i)) 0)).sum
theorem sumC_succ (l : List Int) (j : Nat) : sumC l (j + 1) = sumC l j + l.count (nth (bytesOf (nth T3 j)) 0) := by simp [sumC, List.range_succ]
theorem sumC_3 (l : List Int) : sumC l 3 = extraL l := by
  rw [sumC_succ, sumC_succ, sumC_succ]
  have e0 : nth (bytesOf (nth T3 0)) 0 = 10 := rfl
  have e1 : nth (bytesOf (nth T3 1)) 0 = 92 := rfl
  have e2 : nth (bytesOf (nth T3 2)) 0 = 34 := rfl
  rw [e0, e1, e2]; simp [sumC, extraL]
theorem ofBytes_bytesOf (s : ByteArray) : ofBytes (bytesOf s) = s := by
  have e : ∀ l : List UInt8, (l.map fun b => (b.toNat : Int)).map (fun n => UInt8.ofNat n.toNat) = l := by
    intro l
    induction l with
    | nil => rfl
    | cons b l ih => rw [List.map_cons, List.map_cons, ih]; congr 1; show UInt8.ofNat b.toNat = b; exact UInt8.ofNat_toNat
  show (⟨_⟩ : ByteArray) = s
  unfold bytesOf
  rw [e]
theorem esc_take_le (l : List Int) (i : Nat) : (escL (l.take i)).length ≤ (escL l).length := by
  conv => rhs; rw [← List.take_append_drop i l, escL_append, List.length_append]
  omega
theorem esc_take_succ {l : List Int} {i : Nat} (h : i < l.length) : escL (l.take (i + 1)) = escL (l.take i) ++ escU (nth l i) := by
  rw [takeB h, escL_append]; simp [escL]
theorem extra_take_succ {l : List Int} {i : Nat} (h : i < l.length) : extraL (l.take (i + 1)) = extraL (l.take i) + extraL [nth l i] := by
  rw [takeB h, extraL_append]
theorem fill_copy {pre ys : List Int} {N : Nat} (h : pre.length + ys.length ≤ N) : (pre ++ List.replicate (N - pre.length) (0 : Int)).take pre.length ++ ys ++ (pre ++ List.replicate (N - pre.length) (0 : Int)).drop (pre.length + ys.length) = (pre ++ ys) ++ List.replicate (N - (pre ++ ys).length) 0 := by
  rw [List.take_left, List.drop_append, List.drop_of_length_le (by omega), List.nil_append, List.drop_replicate, List.length_append]
  congr 2; omega
theorem fill_put {pre : List Int} {N : Nat} {b : Int} (h : pre.length + 1 ≤ N) : (pre ++ List.replicate (N - pre.length) (0 : Int)).set pre.length b = (pre ++ [b]) ++ List.replicate (N - (pre ++ [b]).length) 0 := by
  rw [List.set_append_right _ _ (Nat.le_refl _), Nat.sub_self]
  obtain ⟨k, hk⟩ : ∃ k, N - pre.length = k + 1 := ⟨N - pre.length - 1, by omega⟩
  rw [hk, List.replicate_succ, List.set_cons_zero, List.length_append, List.append_assoc]
  congr 2
  show _ = List.replicate (N - (pre.length + 1)) 0
  congr 1; omega
section
variable {ro : Option Nat} {N : Nat} {ds : List Deferred} {h0 : PH} {w0 : World} {r : PH} {E : Env} {L : List SP} {d : Option Nat} {ty : Nat} {pos : String} {af : Array Edge} {g : Option (Nat × Bool)}
theorem step_count {x y : Operand} {s : ByteArray} {c : Int} {ts : Array Nat} (hx : Sub (opTy E x) (tV (.string s))) (hy : Sub (opTy E y) (tV (.int .u8 c))) (hc : 0 ≤ c ∧ c < 256) :
    Step1 ⟨prog, ro, N, ds, h0, w0, r⟩ ⟨d, .call { callee := .value (.func 286), args := #[x, y], argTypes := ts }, ty, pos, af, g⟩ E L (tV (.int .i64 ((bytesOf s).count c : Nat))) :=
  Step.of_same (by intro c h; cases h) fun a w h hw fr => by
    have h1 : a.eval x = .string s := fr.get hx
    have h2 : a.eval y = .int .u8 c := fr.get hy
    refine ⟨_, ?_, rfl⟩
    have hr := run_callFunc_extern (P := prog) func286 (by kernel_rfl) (by kernel_rfl) (by kernel_rfl) (e := Extern.BytealgCount.count) (by kernel_rfl) #[.string s, .int .u8 c] w
    rw [Lib.run_countString] at hr
    have e : Lib.countByte s.data.toList c.toNat.toUInt8 = (bytesOf s).count c := count_bytes _ _ hc
    rw [e] at hr
    simp only [execOp, resolve, show a.eval (.func 286) = .func (.func 286) #[] #[] from rfl, Deferred.ofValue]
    simp [invoke, h1, h2, hr, Result.andThen]
theorem step_neq_rep {T U e : Nat} {x : Operand} {xs : List Int} (hu : prog.underlying T = some (.slice e)) (hx : Sub (opTy E x) (tRep xs)) :
    Step1 ⟨prog, ro, N, ds, h0, w0, r⟩ ⟨d, .binOp .neq T x (.const (.slice none 0 0)) U, ty, pos, af, g⟩ E L (tV (.bool (!decide (xs = [])))) :=
  Step.of_same (by intro c h; cases h) fun a w h hw fr => by
    obtain ⟨ao, len, cap, hv, hn⟩ : ∃ ao len cap, a.eval x = .slice ao len cap ∧ ao.isNone = decide (xs = []) := by
      have hp := fr.get hx
      cases xs with
      | nil => exact ⟨none, 0, 0, hp, rfl⟩
      | cons z zs =>
        obtain ⟨ao, cap, hv, H⟩ := hp
        obtain ⟨b, off, rfl, _⟩ := H (by simp)
        exact ⟨_, _, _, hv, rfl⟩
    refine ⟨.bool (!ao.isNone), ?_, by rw [hn]; rfl⟩
    have he : ∀ w, (eqGuard .neq T x (.const (.slice none 0 0)) (a.eval x) (.slice none 0 0)).run prog w = .ok () w := by intro w; rw [hv]; simp [eqGuard]
    have h2 : a.eval (.const (.slice none 0 0)) = .slice none 0 0 := rfl
    have hr := Go.run_neq_slice_nil (P := prog) w T e ao len cap hu
    rw [hv] at he
    simp [execOp, hv, h2, Sem.run_bind, he, hr]
end
theorem buildOnce_spec (b : Nat) : Spec (X := Unit) prog 186 [tAt b 0] ([box b 242 (rStruct fsRpl) (once 0 1, false, six)]) (fun _ => tTup []) (fun _ => [box b 242 (rStruct fsRpl) (once 0 1, true, [])]) := by
 refine Spec.enter func186 rfl rfl fun h0 w0 fr0 => ?_
 refine Jr (Jm rfl (Jm rfl ?_))
 refine Jx rfl (step_call zS (build_spec b) ⟨Sr, trivial⟩ call203) fun v4 => ?_
 refine Js rfl (step_nilCheck Sr) (Js rfl (step_fieldAddr_own so242 Sr rfl) ?_)
 refine Ju (step_store_fld (R := rOI) (z := true) (y := ((once 0 1, false, six) : GRpl)) (y' := ((once 0 1, true, six) : GRpl)) ty240 Sr Sr zS ⟨rfl, fun h cs r => r, rfl, by intro g hg; simp at hg; subst hg; rfl⟩) fun _ => ?_
 refine JL_nil (J_region (Jm rfl (Js rfl (step_nilCheck Sr) (Js rfl (step_fieldAddr_own so242 Sr rfl) ?_))))
 refine Ju (step_store_fld (R := rSl rStr) (z := []) (y := ((once 0 1, true, six) : GRpl)) (y' := ((once 0 1, true, []) : GRpl)) ty60 Sr Sub.nilsl zS ⟨rfl, rfl, fun h cs r => r, rfl, by intro g hg; cases hg⟩) fun _ => ?_
 refine JL_nil ?_
 refine K_end0 rfl () Sr
theorem Count1_spec (s x : ByteArray) (hx : x.size = 1) : Fun1 prog 284 [tV (.string s), tV (.string x)] (tV (.int .i64 ((bytesOf s).count (nth (bytesOf x) 0) : Nat))) := by
 refine Spec.enter func284 rfl rfl fun h0 w0 fr0 => ?_
 have hk : 0 ≤ nth (bytesOf x) 0 ∧ nth (bytesOf x) 0 < 256 := bytesOf_rng _ _ (nth_mem (by rw [bytesOf_len]; omega))
 refine Jr (Ja rfl (JL_nil (J_seq (Jr (Jm rfl ?_)))))
 refine Js rfl (step_len_str underlying9 Sr) (Js rfl (step_eql Sr Sr) (JL_nil ?_))
 refine J_cond Sr (fun h9 => ?_) (fun h9 => ?_)
 ·
  try simp only [NF] at h9
  exfalso; omega
 try simp only [NF] at h9
 refine J_skip (J_seq (Jr (Jm rfl (Js rfl (step_len_str underlying9 Sr) (Js rfl (step_eql Sr Sr) ?_)))))
 refine JL_nil ?_
 refine J_cond Sr (fun h15 => ?_) (fun h15 => ?_)
 ·
  try simp only [NF] at h15
  refine Jr (Jm rfl (Jm rfl ?_))
  refine Js rfl (step_index_str (i := 0) underlying9 Sr Sr (by rfl) zG) ?_
  refine Js rfl (step_count Sr Sr hk) (Ja rfl (JL_nil (J_ret ?_)))
  exact K_ret1 (t := 4) rfl () Sr
 try simp only [NF] at h15
 exfalso; omega
set_option maxHeartbeats 4000000 in
theorem BsrReplace_spec (s : ByteArray) (hs : s.size ≤ 1000000) : Fun1 prog 282 [tPtr (rStruct fsB2) (R3, T3), tV (.string s)] (tV (.string (ofBytes (escL (bytesOf s))))) := by
 refine Spec.enter func282 rfl rfl fun h0 w0 fr0 => ?_
 have hbl := bytesOf_len s
 have hT3 : T3.length = 3 := rfl
 have hLn := escL_length (bytesOf s)
 have hx3 := sumC_3 (bytesOf s)
 have hxl := extraL_le (bytesOf s)
 refine Jr (Ja rfl (JL_nil (Jr (Jm rfl (Js rfl (step_len_str underlying9 Sr) ?_)))))
 refine Ja rfl (JL_nil (Jr (Ja rfl (JL_nil (J_seq ?_)))))
 refine Jr (Jm rfl (Js rfl (step_nilCheckP Sr) (Js rfl (step_fieldAddr so274 Sr rfl) (Js rfl (step_load_ptr (R := rSl rStr) (y := T3) ty60 Sr) (Js rfl (step_len_sl (xs := T3) underlying60 Sr) ?_)))))
 refine Js rfl (step_mul Sr Sr z6) (Jm rfl (Js rfl (step_len_str underlying9 Sr) (Js rfl (step_leq Sr Sr) (JL_nil ?_))))
 refine J_cond Sr (fun h26 => ?_) (fun h26 => ?_)
 ·
  try simp only [NF] at h26
  refine Jr (Jm rfl (Js rfl (step_nilCheckP Sr) (Js rfl (step_fieldAddr so274 Sr rfl) (Js rfl (step_load_ptr (R := rSl rStr) (y := T3) ty60 Sr) (Js rfl (step_len_sl (xs := T3) underlying60 Sr) ?_)))))
  refine Jm rfl (JL_nil (J_block ?_))
  refine J_loopL (σ := Nat × Int × Bool) (fun ⟨j, n, al⟩ => j ≤ 3 ∧ n = (s.size : Int) + sumC (bytesOf s) j ∧ al = decide (0 < sumC (bytesOf s) j) ∧ sumC (bytesOf s) j ≤ j * s.size) (fun ⟨j, n, al⟩ => upd (upd (upd (upd (upd (upd (upd env0 0 (tPtr (rStruct fsB2) (R3, T3))) 1 (tV (.string s))) 5 (tV (.int .i64 n))) 6 (tV (.bool al))) 30 (tSl rStr T3)) 31 (tV (.int .i64 T3.length))) 32 (tV (.int .i64 j))) (fun ⟨j, n, al⟩ => []) (fun ⟨j, n, al⟩ => 3 - j) (0, (s.size : Int), false) ⟨by omega, by simp [sumC], by simp [sumC], by simp [sumC]⟩ (zU) (LSub.rfl) ?_
  rintro ⟨j, n, al⟩ ⟨hj, hn5, hn6, hcb⟩
  refine Jr (Js rfl (step_lss Sr Sr) (JL_nil (J_seq ?_)))
  refine J_cond Sr (fun h33 => ?_) (fun h33 => ?_)
  ·
   try simp only [NF] at h33
   have hj3 : j < 3 := by omega
   have hk : 0 ≤ (nth (bytesOf (nth T3 j)) 0) ∧ (nth (bytesOf (nth T3 j)) 0) < 256 := bytesOf_rng _ _ (nth_mem (by rw [bytesOf_len, t3_one j hj3]; decide))
   have hr2 := t3_rep j hj3
   have hcb2 : j * s.size ≤ 3 * 1000000 := Nat.mul_le_mul zG hs
   have hcs := sumC_succ (bytesOf s) j
   have hcl := List.count_le_length (a := (nth (bytesOf (nth T3 j)) 0)) (l := (bytesOf s))
   refine J_skip (J_seq (J_block (Jr ?_)))
   refine Js rfl (step_indexAddr_sl  underlying60 ty9 Sr Sr rfl (gb (by show j < 3; exact hj3))) ?_
   refine Jl rfl ty9 Sr (Ja rfl (JL_nil (Jr (Jm rfl (Jm rfl ?_)))))
   refine Js rfl (step_call0 (Count1_spec s (nth T3 j) (t3_one j hj3)) ⟨Sr, Sr, trivial⟩ call284) (Ja rfl (JL_nil (Jr (Jm rfl (Js rfl (step_neq Sr Sr) ?_)))))
   refine JL_nil ?_
   refine J_cond Sr (fun h40 => ?_) (fun h40 => ?_)
   ·
    try simp only [NF] at h40
    refine J_seq ?_
    refine J_draw [⟨0, [5], true⟩, ⟨1, [9], true⟩, ⟨2, [0], true⟩, ⟨3, [8], true⟩, ⟨4, [44], true⟩, ⟨5, [43], true⟩, ⟨6, [46], true⟩, ⟨7, [45, 47], true⟩, ⟨8, [48], true⟩, ⟨9, [49], true⟩, ⟨10, [50], true⟩, ⟨11, [42, 51], true⟩, ⟨12, [41, 52], true⟩, ⟨13, [53], true⟩] rfl (by kernel_rfl) ?_
    refine Mv rfl rfl (Mv rfl rfl (Mv rfl rfl (Mv rfl rfl ?_)))
    refine Mf rfl rfl (step_index_str (i := 0) underlying9 Sr Sr (by rfl) (by rw [t3_one j hj3]; decide)) ?_
    refine Mf rfl rfl (step_nilCheckP Sr) (Mf rfl rfl (step_fieldAddr so274 Sr rfl) ?_)
    refine Mf rfl rfl (step_arrIdxP (i := (nth (bytesOf (nth T3 j)) 0).toNat) underlying272 ty271R rfl Sr Sr zG zG) ?_
    refine Mf rfl rfl (step_load_ptr ty271R Sr) ?_
    refine Mf rfl rfl (step_len_sl (xs := nth R3 (nth (bytesOf (nth T3 j)) 0).toNat) underlying271 (Sub.of_eq (tRep_of (by intro q; rw [q] at hr2; simp at hr2)))) ?_
    refine Mf rfl rfl (step_sub Sr Sr z6) ?_
    refine Mf rfl rfl (step_mul Sr Sr (by unfold in64; rw [hr2]; omega)) ?_
    refine Mf rfl rfl (step_add Sr Sr (by unfold in64; rw [hr2]; omega)) ?_
    refine Mf rfl rfl (step_assign Sr) (JM_nil (J_region (Ja rfl (JL_nil (J_region ?_)))))
    refine Js rfl (step_add Sr Sr z6) (Jm rfl (JL_nil ?_))
    refine K_againL (σ := Nat × Int × Bool) (s := (j, n, al)) (j + 1, n + (((bytesOf s).count (nth (bytesOf (nth T3 j)) 0) : Nat) : Int) * ((2 : Nat) - 1), true) zO ⟨by omega, by rw [hcs, hn5]; omega, by rw [hcs]; symm; rw [decide_eq_true_eq]; omega, by rw [hcs, Nat.add_mul]; omega⟩ (.u (.u (.u (.u (SubE.upd (Sub.int (by rw [hr2])) (zU)))))) (LSub.rfl)
   try simp only [NF] at h40
   refine J_skip (J_region (Js rfl (step_add Sr Sr z6) (Jm rfl (JL_nil ?_))))
   refine K_againL (σ := Nat × Int × Bool) (s := (j, n, al)) (j + 1, n, al) zO ⟨by omega, by rw [hcs, hn5]; omega, by rw [hcs, hn6]; congr 1; simp; omega, by rw [hcs, Nat.add_mul]; omega⟩ (zU) (LSub.rfl)
  try simp only [NF] at h33
  obtain rfl : j = 3 := by omega
  rw [hx3] at hn5 hn6
  refine J_exit (J_seq (Jr (Jm rfl (Js rfl (step_not Sr) (JL_nil ?_)))))
  refine J_cond Sr (fun h82 => ?_) (fun h82 => ?_)
  ·
   try simp only [NF] at h82
   refine Jr (Jm rfl (Ja rfl (JL_nil (J_ret ?_))))
   refine K_ret1' (rv := .tmp 4) rfl () (Sel.all _) (.tmp Sr) (Frz.sub ?_)
   refine Sub.v (congrArg Value.string ?_)
   have h0 : extraL (bytesOf s) = 0 := by rw [h82] at hn6; have := hn6.symm; rw [decide_eq_false_iff_not] at this; omega
   rw [escL_same h0, ofBytes_bytesOf]
  try simp only [NF] at h82
  refine J_skip (Jr (Jm rfl ?_))
  refine Jx rfl (step_make (n := (escL (bytesOf s)).length) underlying271 el5 Sr Sr zG zG zG) fun v85 => ?_
  refine Ja rfl (JL_nil (Jr (Ja rfl (JL_nil (J_seq ?_)))))
  refine Jr (Ja rfl (JL_nil (J_block ?_)))
  refine J_loopL (σ := Nat) (fun i => i ≤ s.size) (fun i => upd (upd (upd (upd (upd env0 0 (tPtr (rStruct fsB2) (R3, T3))) 1 (tV (.string s))) 12 (rV.ty v85)) 13 (tV (.int .i64 ((escL ((bytesOf s).take i)).length : Nat)))) 14 (tV (.int .i64 i))) (fun i => [own 5 rU8 v85 ((escL ((bytesOf s).take i)) ++ List.replicate ((escL (bytesOf s)).length - (escL ((bytesOf s).take i)).length) 0)]) (fun i => s.size - i) 0 zG (.u (SubE.upd (Sub.int (by simp [escL])) (zU))) (.c zS (own_eq (by simp [escL])) (LSub.nil)) ?_
  rintro i hi
  refine J_seq (Jr (Jm rfl (Jm rfl (Js rfl (step_len_str underlying9 Sr) (Js rfl (step_lss Sr Sr) ?_)))))
  refine JL_nil ?_
  refine J_cond Sr (fun h89 => ?_) (fun h89 => ?_)
  ·
   try simp only [NF] at h89
   have hlt : i < s.size := by omega
   have hlb : i < (bytesOf s).length := by rw [bytesOf_len]; exact hlt
   have hk : 0 ≤ (nth (bytesOf s) i) ∧ (nth (bytesOf s) i) < 256 := bytesOf_rng _ _ (nth_mem hlb)
   obtain ⟨hr1, hr3⟩ := r3 hk
   have hel := escU_len (nth (bytesOf s) i)
   have hes := esc_take_succ hlb
   have hll : (escL ((bytesOf s).take (i + 1))).length = (escL ((bytesOf s).take i)).length + (escU (nth (bytesOf s) i)).length := by rw [hes, List.length_append]
   have hex := extra_take_succ hlb
   have hle := esc_take_le (bytesOf s) (i + 1)
   have hLt := escL_length ((bytesOf s).take i)
   have hxt := extraL_le ((bytesOf s).take i)
   have htl : ((bytesOf s).take i).length ≤ s.size := by rw [List.length_take, hbl]; omega
   have hLn := escL_length (bytesOf s)
   refine J_skip (J_seq (J_block (Jr (Jm rfl (Jm rfl ?_)))))
   refine Js rfl (step_index_str (i := i) underlying9 Sr Sr (by rfl) (by exact hlt)) ?_
   refine Ja rfl (JL_nil (Jr (Jm rfl (Jm rfl (Js rfl (step_nilCheckP Sr) ?_)))))
   refine Js rfl (step_fieldAddr so274 Sr rfl) ?_
   refine Js rfl (step_arrIdxP (i := (nth (bytesOf s) i).toNat) underlying272 ty271R rfl Sr Sr zG zG) ?_
   refine Jl rfl ty271R Sr (Js rfl (step_neq_rep underlying271 Sr) (JL_nil ?_))
   refine J_cond Sr (fun h101 => ?_) (fun h101 => ?_)
   ·
    try simp only [NF] at h101
    have hne : nth R3 (nth (bytesOf s) i).toNat ≠ [] := by simpa using h101
    have hr2 := hr3.resolve_left hne
    rw [if_neg hne] at hr1
    rw [hr1] at hel hes hll
    refine J_draw [⟨0, [13], true⟩, ⟨1, [12], true⟩, ⟨2, [13], true⟩, ⟨4, [0], true⟩, ⟨5, [15], true⟩, ⟨6, [106], true⟩, ⟨7, [108], true⟩, ⟨8, [107, 109], true⟩, ⟨9, [110], true⟩, ⟨3, [103, 104], false⟩, ⟨10, [105, 111], false⟩, ⟨11, [102, 112], true⟩, ⟨12, [113], true⟩] rfl (by kernel_rfl) ?_
    refine Mv rfl rfl (Mv rfl rfl (Mv rfl rfl (Mv rfl rfl (Mv rfl rfl (Mf rfl rfl (step_nilCheckP Sr) ?_)))))
    refine Mf rfl rfl (step_fieldAddr so274 Sr rfl) ?_
    refine Mf rfl rfl (step_arrIdxP (i := (nth (bytesOf s) i).toNat) underlying272 ty271R rfl Sr Sr zG zG) ?_
    refine Mf rfl rfl (step_load_ptr ty271R Sr) ?_
    refine JM_look rfl rfl rfl rfl (step_slice_tail8 (n := (escL ((bytesOf s).take i)).length) underlying271 ty5 Sr Sr rfl zS (by simp)) ?_
    refine JM_stepX rfl rfl rfl rfl (step_copy_tail8 (ys := nth R3 (nth (bytesOf s) i).toNat) underlying271 (by kernel_rfl) Sr (Sub.of_eq (tRep_of hne)) zS (by simp; omega) hne) fun v112 => ?_
    refine Mf rfl rfl (step_add Sr Sr z6) (Mf rfl rfl (step_assign Sr) (JM_nil (J_region (Jm rfl (Js rfl (step_add Sr Sr z6) ?_)))))
    refine Ja rfl (JL_nil ?_)
    refine K_againL (σ := Nat) (s := i) (i + 1) zO zG (.u (SubE.upd (Sub.int (by rw [hes, List.length_append]; omega)) (zU))) (.c zS (own_eq (by rw [hes]; exact fill_copy (by rw [hes, List.length_append] at hle; exact hle))) (LSub.nil))
   try simp only [NF] at h101
   have hne : nth R3 (nth (bytesOf s) i).toNat = [] := by simpa using h101
   rw [if_pos hne] at hr1
   rw [hr1] at hel hes hll
   refine Jr (Jm rfl (Jm rfl (Jm rfl ?_)))
   refine Js rfl (step_indexAddr_own (i := (escL ((bytesOf s).take i)).length) underlying271 ty5 Sr zS Sr (by rfl) (by simp; omega)) ?_
   refine Ju (step_store_own ty5 Sr Sr zS (by simp; omega)) fun _ => ?_
   refine JL_nil (J_region (Jm rfl (Js rfl (step_add Sr Sr z6) (Ja rfl (JL_nil ?_)))))
   refine J_region (Jm rfl (Js rfl (step_add Sr Sr z6) (Ja rfl (JL_nil ?_))))
   refine K_againL (σ := Nat) (s := i) (i + 1) zO zG (.u (SubE.upd (Sub.int (by rw [hes, List.length_append]; simp)) (zU))) (.c zS (own_eq (by rw [hes]; exact fill_put (by rw [hes, List.length_append] at hle; exact hle))) (LSub.nil))
  try simp only [NF] at h89
  have hie : (bytesOf s).take i = (bytesOf s) := List.take_of_length_le zG
  refine J_exit (Jr (Jm rfl ?_))
  refine Js rfl (step_convert_str underlying271 underlying5 underlying9 Sr zS) ?_
  refine Ja rfl (JL_nil (J_ret ?_))
  refine K_ret1' (rv := .tmp 4) rfl () (Sel.all _) (.tmp Sr) (Frz.sub ?_)
  refine Sub.v (congrArg Value.string ?_)
  rw [hie]; simp
 try simp only [NF] at h26
 refine Jr (Ja rfl (JL_nil (J_block ?_)))
 refine J_loopL (σ := Nat × Int × Bool) (fun ⟨i, n, al⟩ => i ≤ s.size ∧ n = (s.size : Int) + extraL ((bytesOf s).take i) ∧ al = decide (0 < extraL ((bytesOf s).take i))) (fun ⟨i, n, al⟩ => upd (upd (upd (upd (upd env0 0 (tPtr (rStruct fsB2) (R3, T3))) 1 (tV (.string s))) 5 (tV (.int .i64 n))) 6 (tV (.bool al))) 10 (tV (.int .i64 i))) (fun ⟨i, n, al⟩ => []) (fun ⟨i, n, al⟩ => s.size - i) (0, (s.size : Int), false) ⟨by omega, by simp [extraL], by simp [extraL]⟩ (zU) (LSub.rfl) ?_
 rintro ⟨i, n, al⟩ ⟨hi, hn5, hn6⟩
 refine J_seq (Jr (Jm rfl (Jm rfl (Js rfl (step_len_str underlying9 Sr) (Js rfl (step_lss Sr Sr) ?_)))))
 refine JL_nil ?_
 refine J_cond Sr (fun h58 => ?_) (fun h58 => ?_)
 ·
  try simp only [NF] at h58
  have hlt : i < s.size := by omega
  have hlb : i < (bytesOf s).length := by rw [bytesOf_len]; exact hlt
  have hk : 0 ≤ (nth (bytesOf s) i) ∧ (nth (bytesOf s) i) < 256 := bytesOf_rng _ _ (nth_mem hlb)
  obtain ⟨hr1, hr3⟩ := r3 hk
  have hel := escU_len (nth (bytesOf s) i)
  have hes := esc_take_succ hlb
  have hll : (escL ((bytesOf s).take (i + 1))).length = (escL ((bytesOf s).take i)).length + (escU (nth (bytesOf s) i)).length := by rw [hes, List.length_append]
  have hex := extra_take_succ hlb
  have hle := esc_take_le (bytesOf s) (i + 1)
  have hLt := escL_length ((bytesOf s).take i)
  have hxt := extraL_le ((bytesOf s).take i)
  have htl : ((bytesOf s).take i).length ≤ s.size := by rw [List.length_take, hbl]; omega
  have hLn := escL_length (bytesOf s)
  refine J_skip (J_seq (J_block (Jr (Jm rfl (Jm rfl ?_)))))
  refine Js rfl (step_index_str (i := i) underlying9 Sr Sr (by rfl) (by exact hlt)) ?_
  refine Ja rfl (JL_nil (Jr (Jm rfl (Jm rfl (Js rfl (step_nilCheckP Sr) ?_)))))
  refine Js rfl (step_fieldAddr so274 Sr rfl) ?_
  refine Js rfl (step_arrIdxP (i := (nth (bytesOf s) i).toNat) underlying272 ty271R rfl Sr Sr zG zG) ?_
  refine Jl rfl ty271R Sr (Js rfl (step_neq_rep underlying271 Sr) (JL_nil ?_))
  refine J_cond Sr (fun h70 => ?_) (fun h70 => ?_)
  ·
   try simp only [NF] at h70
   have hne : nth R3 (nth (bytesOf s) i).toNat ≠ [] := by simpa using h70
   have hr2 := hr3.resolve_left hne
   rw [if_neg hne] at hr1
   rw [hr1] at hel
   refine Jr (Jm rfl (Jm rfl (Jm rfl (Js rfl (step_nilCheckP Sr) (Js rfl (step_fieldAddr so274 Sr rfl) ?_)))))
   refine Js rfl (step_arrIdxP (i := (nth (bytesOf s) i).toNat) underlying272 ty271R rfl Sr Sr zG zG) ?_
   refine Jl rfl ty271R Sr ?_
   refine Js rfl (step_len_sl (xs := nth R3 (nth (bytesOf s) i).toNat) underlying271 (Sub.of_eq (tRep_of (by intro q; rw [q] at hr2; simp at hr2)))) ?_
   refine Js rfl (step_sub Sr Sr z6) (Js rfl (step_add Sr Sr z6) (Ja rfl (JL_nil (J_region (Ja rfl ?_)))))
   refine JL_nil (J_region (Jm rfl (Js rfl (step_add Sr Sr z6) (Ja rfl (JL_nil ?_)))))
   refine K_againL (σ := Nat × Int × Bool) (s := (i, n, al)) (i + 1, n + 1, true) zO ⟨by omega, by rw [hex, hn5]; omega, by rw [hex]; symm; rw [decide_eq_true_eq]; omega⟩ (.u (.u (SubE.upd (Sub.int (by rw [hr2]; omega)) (zU)))) (LSub.rfl)
  try simp only [NF] at h70
  have hne : nth R3 (nth (bytesOf s) i).toNat = [] := by simpa using h70
  rw [if_pos hne] at hr1
  rw [hr1] at hel
  refine J_skip (J_region (Jm rfl (Js rfl (step_add Sr Sr z6) (Ja rfl (JL_nil ?_)))))
  refine K_againL (σ := Nat × Int × Bool) (s := (i, n, al)) (i + 1, n, al) zO ⟨by omega, by rw [hex, hn5]; simp at hel; omega, by rw [hex, hn6]; congr 1; simp at hel; simp; omega⟩ (zU) (LSub.rfl)
 try simp only [NF] at h58
 have hie : (bytesOf s).take i = (bytesOf s) := List.take_of_length_le zG
 rw [hie] at hn5 hn6
 refine J_exit (J_seq (Jr (Jm rfl (Js rfl (step_not Sr) (JL_nil ?_)))))
 refine J_cond Sr (fun h82 => ?_) (fun h82 => ?_)
 ·
  try simp only [NF] at h82
  refine Jr (Jm rfl (Ja rfl (JL_nil (J_ret ?_))))
  refine K_ret1' (rv := .tmp 4) rfl () (Sel.all _) (.tmp Sr) (Frz.sub ?_)
  refine Sub.v (congrArg Value.string ?_)
  have h0 : extraL (bytesOf s) = 0 := by rw [h82] at hn6; have := hn6.symm; rw [decide_eq_false_iff_not] at this; omega
  rw [escL_same h0, ofBytes_bytesOf]
 try simp only [NF] at h82
 refine J_skip (Jr (Jm rfl ?_))
 refine Jx rfl (step_make (n := (escL (bytesOf s)).length) underlying271 el5 Sr Sr zG zG zG) fun v85 => ?_
 refine Ja rfl (JL_nil (Jr (Ja rfl (JL_nil (J_seq ?_)))))
 refine Jr (Ja rfl (JL_nil (J_block ?_)))
 refine J_loopL (σ := Nat) (fun i => i ≤ s.size) (fun i => upd (upd (upd (upd (upd env0 0 (tPtr (rStruct fsB2) (R3, T3))) 1 (tV (.string s))) 12 (rV.ty v85)) 13 (tV (.int .i64 ((escL ((bytesOf s).take i)).length : Nat)))) 14 (tV (.int .i64 i))) (fun i => [own 5 rU8 v85 ((escL ((bytesOf s).take i)) ++ List.replicate ((escL (bytesOf s)).length - (escL ((bytesOf s).take i)).length) 0)]) (fun i => s.size - i) 0 zG (.u (SubE.upd (Sub.int (by simp [escL])) (zU))) (.c zS (own_eq (by simp [escL])) (LSub.nil)) ?_
 rintro i hi
 refine J_seq (Jr (Jm rfl (Jm rfl (Js rfl (step_len_str underlying9 Sr) (Js rfl (step_lss Sr Sr) ?_)))))
 refine JL_nil ?_
 refine J_cond Sr (fun h89 => ?_) (fun h89 => ?_)
 ·
  try simp only [NF] at h89
  have hlt : i < s.size := by omega
  have hlb : i < (bytesOf s).length := by rw [bytesOf_len]; exact hlt
  have hk : 0 ≤ (nth (bytesOf s) i) ∧ (nth (bytesOf s) i) < 256 := bytesOf_rng _ _ (nth_mem hlb)
  obtain ⟨hr1, hr3⟩ := r3 hk
  have hel := escU_len (nth (bytesOf s) i)
  have hes := esc_take_succ hlb
  have hll : (escL ((bytesOf s).take (i + 1))).length = (escL ((bytesOf s).take i)).length + (escU (nth (bytesOf s) i)).length := by rw [hes, List.length_append]
  have hex := extra_take_succ hlb
  have hle := esc_take_le (bytesOf s) (i + 1)
  have hLt := escL_length ((bytesOf s).take i)
  have hxt := extraL_le ((bytesOf s).take i)
  have htl : ((bytesOf s).take i).length ≤ s.size := by rw [List.length_take, hbl]; omega
  have hLn := escL_length (bytesOf s)
  refine J_skip (J_seq (J_block (Jr (Jm rfl (Jm rfl ?_)))))
  refine Js rfl (step_index_str (i := i) underlying9 Sr Sr (by rfl) (by exact hlt)) ?_
  refine Ja rfl (JL_nil (Jr (Jm rfl (Jm rfl (Js rfl (step_nilCheckP Sr) ?_)))))
  refine Js rfl (step_fieldAddr so274 Sr rfl) ?_
  refine Js rfl (step_arrIdxP (i := (nth (bytesOf s) i).toNat) underlying272 ty271R rfl Sr Sr zG zG) ?_
  refine Jl rfl ty271R Sr (Js rfl (step_neq_rep underlying271 Sr) (JL_nil ?_))
  refine J_cond Sr (fun h101 => ?_) (fun h101 => ?_)
  ·
   try simp only [NF] at h101
   have hne : nth R3 (nth (bytesOf s) i).toNat ≠ [] := by simpa using h101
   have hr2 := hr3.resolve_left hne
   rw [if_neg hne] at hr1
   rw [hr1] at hel hes hll
   refine J_draw [⟨0, [13], true⟩, ⟨1, [12], true⟩, ⟨2, [13], true⟩, ⟨4, [0], true⟩, ⟨5, [15], true⟩, ⟨6, [106], true⟩, ⟨7, [108], true⟩, ⟨8, [107, 109], true⟩, ⟨9, [110], true⟩, ⟨3, [103, 104], false⟩, ⟨10, [105, 111], false⟩, ⟨11, [102, 112], true⟩, ⟨12, [113], true⟩] rfl (by kernel_rfl) ?_
   refine Mv rfl rfl (Mv rfl rfl (Mv rfl rfl (Mv rfl rfl (Mv rfl rfl (Mf rfl rfl (step_nilCheckP Sr) ?_)))))
   refine Mf rfl rfl (step_fieldAddr so274 Sr rfl) ?_
   refine Mf rfl rfl (step_arrIdxP (i := (nth (bytesOf s) i).toNat) underlying272 ty271R rfl Sr Sr zG zG) ?_
   refine Mf rfl rfl (step_load_ptr ty271R Sr) ?_
   refine JM_look rfl rfl rfl rfl (step_slice_tail8 (n := (escL ((bytesOf s).take i)).length) underlying271 ty5 Sr Sr rfl zS (by simp)) ?_
   refine JM_stepX rfl rfl rfl rfl (step_copy_tail8 (ys := nth R3 (nth (bytesOf s) i).toNat) underlying271 (by kernel_rfl) Sr (Sub.of_eq (tRep_of hne)) zS (by simp; omega) hne) fun v112 => ?_
   refine Mf rfl rfl (step_add Sr Sr z6) (Mf rfl rfl (step_assign Sr) (JM_nil (J_region (Jm rfl (Js rfl (step_add Sr Sr z6) ?_)))))
   refine Ja rfl (JL_nil ?_)
   refine K_againL (σ := Nat) (s := i) (i + 1) zO zG (.u (SubE.upd (Sub.int (by rw [hes, List.length_append]; omega)) (zU))) (.c zS (own_eq (by rw [hes]; exact fill_copy (by rw [hes, List.length_append] at hle; exact hle))) (LSub.nil))
  try simp only [NF] at h101
  have hne : nth R3 (nth (bytesOf s) i).toNat = [] := by simpa using h101
  rw [if_pos hne] at hr1
  rw [hr1] at hel hes hll
  refine Jr (Jm rfl (Jm rfl (Jm rfl ?_)))
  refine Js rfl (step_indexAddr_own (i := (escL ((bytesOf s).take i)).length) underlying271 ty5 Sr zS Sr (by rfl) (by simp; omega)) ?_
  refine Ju (step_store_own ty5 Sr Sr zS (by simp; omega)) fun _ => ?_
  refine JL_nil (J_region (Jm rfl (Js rfl (step_add Sr Sr z6) (Ja rfl (JL_nil ?_)))))
  refine J_region (Jm rfl (Js rfl (step_add Sr Sr z6) (Ja rfl (JL_nil ?_))))
  refine K_againL (σ := Nat) (s := i) (i + 1) zO zG (.u (SubE.upd (Sub.int (by rw [hes, List.length_append]; simp)) (zU))) (.c zS (own_eq (by rw [hes]; exact fill_put (by rw [hes, List.length_append] at hle; exact hle))) (LSub.nil))
 try simp only [NF] at h89
 have hie : (bytesOf s).take i = (bytesOf s) := List.take_of_length_le zG
 refine J_exit (Jr (Jm rfl ?_))
 refine Js rfl (step_convert_str underlying271 underlying5 underlying9 Sr zS) ?_
 refine Ja rfl (JL_nil (J_ret ?_))
 refine K_ret1' (rv := .tmp 4) rfl () (Sel.all _) (.tmp Sr) (Frz.sub ?_)
 refine Sub.v (congrArg Value.string ?_)
 rw [hie]; simp
open Go
/-- The table in the world. -/
theorem inv_tab {P : Program} (hg : P.globalNamed "internal/strconv.uint64pow10" = some tabG) {h : PH} {w : World} (hi : Inv h) (hw : h.inw w) : Lib.TabIs P w "internal/strconv.uint64pow10" .u64 Lib.pow10Tab := by
  obtain ⟨e, fz, q⟩ := hi
  have := hw _ _ q
  simp only [Lib.TabIs, World.var?, hg, Option.bind_some, this]
  rfl
def itoaB (n : Int) : ByteArray := toB (Lib.itoa n)
theorem itoa_spec {P : Program} {ρ : Shelf.Ren} (L : Go.Proofs.LaysM.n171 P ρ) (hg : P.globalNamed "internal/strconv.uint64pow10" = some tabG) (n : Int) (h0 : -9223372036854775808 ≤ n) (h1 : n ≤ 9223372036854775807) :
    Fun1 P (ρ.f 171) [tV (.int .i64 n)] (tV (.string (itoaB n))) := by
  intro vs h m r w ha sp st
  match vs, ha with
  | [u1], ⟨a1, _⟩ =>
  have a1 : u1 = .int .i64 n := a1
  subst a1
  refine (Go.Proofs.Any.strconv_Itoa L n h0 h1 w (inv_tab hg sp.inv sp.hw)).mono ?_
  rintro e w' ⟨rfl, k, os, rfl⟩
  obtain ⟨l, s⟩ := sep_below sp (Go.Proofs.below_grown w k os)
  exact ⟨(), _, h, m, rfl, l, s, st, rfl⟩
end Lg
namespace Go.Proofs
open Go.Shelf
def Tryz.itoaL_ren : Go.Shelf.Ren := ⟨fun | 171 => 164 | 243 => 187 | 246 => 204 | 283 => 216 | 284 => 217 | 285 => 218 | 286 => 219 | 129 => 155 | 317 => 227 | 318 => 228 | 319 => 229 | 320 => 230 | 337 => 241 | 338 => 242 | n => n, fun | 3 => 3 | 9 => 9 | 2 => 2 | 4 => 4 | 171 => 276 | 0 => 0 | 53 => 201 | 37 => 271 | 5 => 5 | 173 => 278 | 212 => 296 | 51 => 199 | 20 => 20 | 213 => 297 | 46 => 157 | 232 => 311 | 233 => 312 | n => n, fun | 17 => 0 | 18 => 1 | 19 => 2 | n => n⟩
theorem Tryz.itoaL : Go.Proofs.LaysM.n171 Tryz.prog Tryz.itoaL_ren := {
  mixed := by kernel_rfl
  f129 := Tryz.func155.trans (congrArg some (by kernel_rfl))
  f171 := Tryz.func164.trans (congrArg some (by kernel_rfl))
  f243 := Tryz.func187.trans (congrArg some (by kernel_rfl))
  f246 := Tryz.func204.trans (congrArg some (by kernel_rfl))
  f283 := Tryz.func216.trans (congrArg some (by kernel_rfl))
  f284 := Tryz.func217.trans (congrArg some (by kernel_rfl))
  f285 := Tryz.func218.trans (congrArg some (by kernel_rfl))
  f286 := Tryz.func219.trans (congrArg some (by kernel_rfl))
  f317 := Tryz.func227.trans (congrArg some (by kernel_rfl))
  f318 := Tryz.func228.trans (congrArg some (by kernel_rfl))
  f319 := Tryz.func229.trans (congrArg some (by kernel_rfl))
  f320 := Tryz.func230.trans (congrArg some (by kernel_rfl))
  f337 := Tryz.func241.trans (congrArg some (by kernel_rfl))
  f338 := Tryz.func242.trans (congrArg some (by kernel_rfl))
  t0 := Tryz.underlying0
  a0 := Tryz.isAgg0
  z0 := Tryz.sizeOf0
  v0 := Tryz.zeroValue0
  t2 := Tryz.underlying2
  a2 := Tryz.isAgg2
  z2 := Tryz.sizeOf2
  v2 := Tryz.zeroValue2
  t3 := Tryz.underlying3
  a3 := Tryz.isAgg3
  z3 := Tryz.sizeOf3
  v3 := Tryz.zeroValue3
  t4 := Tryz.underlying4
  a4 := Tryz.isAgg4
  z4 := Tryz.sizeOf4
  v4 := Tryz.zeroValue4
  t5 := Tryz.underlying5
  a5 := Tryz.isAgg5
  z5 := Tryz.sizeOf5
  v5 := Tryz.zeroValue5
  t9 := Tryz.underlying9
  a9 := Tryz.isAgg9
  z9 := Tryz.sizeOf9
  v9 := Tryz.zeroValue9
  t20 := Tryz.underlying20
  a20 := Tryz.isAgg20
  z20 := Tryz.sizeOf20
  v20 := Tryz.zeroValue20
  t37 := Tryz.underlying271
  a37 := Tryz.isAgg271
  z37 := Tryz.sizeOf271
  v37 := Tryz.zeroValue271
  t46 := Tryz.underlying157
  a46 := Tryz.isAgg157
  z46 := Tryz.sizeOf157
  v46 := Tryz.zeroValue157
  t51 := Tryz.underlying199
  a51 := Tryz.isAgg199
  z51 := Tryz.sizeOf199
  v51 := Tryz.zeroValue199
  t53 := Tryz.underlying201
  a53 := Tryz.isAgg201
  z53 := Tryz.sizeOf201
  v53 := Tryz.zeroValue201
  t171 := Tryz.underlying276
  a171 := Tryz.isAgg276
  z171 := Tryz.sizeOf276
  v171 := Tryz.zeroValue276
  t173 := Tryz.underlying278
  a173 := Tryz.isAgg278
  z173 := Tryz.sizeOf278
  v173 := Tryz.zeroValue278
  t212 := Tryz.underlying296
  a212 := Tryz.isAgg296
  z212 := Tryz.sizeOf296
  v212 := Tryz.zeroValue296
  t213 := Tryz.underlying297
  a213 := Tryz.isAgg297
  z213 := Tryz.sizeOf297
  t232 := Tryz.underlying311
  a232 := Tryz.isAgg311
  z232 := Tryz.sizeOf311
  v232 := Tryz.zeroValue311
  t233 := Tryz.underlying312
  a233 := Tryz.isAgg312
  z233 := Tryz.sizeOf312
  v233 := Tryz.zeroValue312
  g17 := by kernel_rfl
  g18 := by kernel_rfl
  g19 := by kernel_rfl
  i0 := by kernel_rfl
  i2 := by kernel_rfl
  i3 := by kernel_rfl
  i4 := by kernel_rfl
  i5 := by kernel_rfl
  i9 := by kernel_rfl
  i20 := by kernel_rfl
  i37 := by kernel_rfl
  i46 := by kernel_rfl
  i51 := by kernel_rfl
  i53 := by kernel_rfl
  i171 := by kernel_rfl
  i173 := by kernel_rfl
  i212 := by kernel_rfl
  i232 := by kernel_rfl
  i233 := by kernel_rfl
  m17 := by kernel_rfl
  m18 := by kernel_rfl
  m19 := by kernel_rfl }
end Go.Proofs
namespace Lg
open Go Go.Proofs Go.Proofs.Tryz
theorem method_rep (b off : Nat) (w : World) : (method (prog.types.size + Made.depth) 275 (.pointer (some ⟨b, off, none⟩)) "Replace").run prog w = .ok (282, .pointer (some ⟨b, off, none⟩)) w := by
  kernel_rfl
theorem step_makeFirst {C : Cx} {E : Env} {L : List SP} {d : Option Nat} {ty : Nat} {pos : String} {af : Array Edge} {g : Option (Nat × Bool)} {f b : Nat} {x : Operand} (hx : Sub (opTy E x) (tAt b 0)) :
    Step1 C ⟨d, .makeFunc (.func f) #[x] #[], ty, pos, af, g⟩ E L (tV (.func (.func f) #[.pointer (some ⟨b, 0, none⟩)] #[])) :=
  Step.of_same (by intro c h; cases h) fun a w h hw fr => by
    have hv : a.eval x = .pointer (some ⟨b, 0, none⟩) := fr.get hx
    exact ⟨_, by simp [execOp, Instr.makeFunc, hv], rfl⟩
theorem Itoa_spec (n : Int) (h : -9223372036854775808 ≤ n ∧ n ≤ 9223372036854775807) : Fun1 prog 164 [tV (.int .i64 n)] (tV (.string (itoaB n))) := itoa_spec Tryz.itoaL (by kernel_rfl) n h.1 h.2
theorem itoaB_size {n : Int} (h : -9223372036854775808 ≤ n ∧ n ≤ 9223372036854775807) : (itoaB n).size ≤ 30 := by
  have hd : ∀ (k u : Nat), u < 10 ^ (k + 1) → Lib.nDigits u ≤ k + 1 := by
    intro k
    induction k with
    | zero => intro u hu; rw [Lib.nDigits_small (by simpa using hu)]; exact Nat.le_refl _
    | succ k ih =>
      intro u hu
      by_cases h10 : u < 10
      · rw [Lib.nDigits_small h10]; omega
      · rw [Lib.nDigits_big h10]
        have := ih (u / 10) (by rw [Nat.pow_succ] at hu; exact Nat.div_lt_of_lt_mul (by rw [Nat.mul_comm]; exact hu))
        omega
  have h2 : (itoaB n).size = (Lib.itoa n).length := by show (List.toArray _).size = _; simp
  rw [h2]
  unfold Lib.itoa
  split
  · rw [List.length_cons, Lib.decDigits_length]
    have := hd 19 n.natAbs (by have : (10 : Nat) ^ (19 + 1) = 100000000000000000000 := by decide
                               omega)
    omega
  · rw [Lib.decDigits_length]
    have := hd 19 n.toNat (by have : (10 : Nat) ^ (19 + 1) = 100000000000000000000 := by decide
                              omega)
    omega
def boolB (b : Bool) : ByteArray := if b then ⟨#[116, 114, 117, 101]⟩ else ⟨#[102, 97, 108, 115, 101]⟩
def nullB : ByteArray := ⟨#[110, 117, 108, 108]⟩
def atB : ByteArray := ⟨#[64]⟩
def quoteB (s : ByteArray) : ByteArray := (⟨#[34]⟩ : ByteArray) ++ ofBytes (escL (bytesOf s)) ++ (⟨#[34]⟩ : ByteArray)
theorem ofBytes_size (cur : List Int) : (ofBytes cur).size = cur.length := by show (List.toArray _).size = _; simp
theorem valid_txt {v : GValue} (h : validV v = true) (hk : v.Kind = 1) : v.Text.size ≤ 200 := by
  unfold validV at h
  simp [hk] at h
  have := h.1; omega
/-- The text of a value. -/
def textV (v : GValue) : ByteArray :=
  if validV v = false then ⟨#[]⟩ else if v.Kind = 1 then quoteB v.Text else if v.Kind = 2 then itoaB v.N else if v.Kind = 3 then atB ++ itoaB v.N else if v.Kind = 4 then boolB (decide (v.N = 1)) else nullB
theorem quote_size (s : ByteArray) : (quoteB s).size ≤ 4 * s.size + 2 := by
  unfold quoteB
  rw [ByteArray.size_append, ByteArray.size_append, ofBytes_size, escL_length, bytesOf_len]
  have h1 := extraL_le (bytesOf s)
  rw [bytesOf_len] at h1
  have h2 : (⟨#[34]⟩ : ByteArray).size = 1 := rfl
  omega
theorem textV_size (v : GValue) : (textV v).size ≤ 1000 := by
  unfold textV
  split
  · exact Nat.zero_le _
  · rename_i hv
    have hv : validV v = true := by simpa using hv
    have hn := valid_N hv
    have := itoaB_size (n := v.N) (by omega)
    split
    · rename_i hk
      have h1 := valid_txt hv hk
      have h2 := quote_size v.Text
      omega
    · repeat' split
      · omega
      · rw [ByteArray.size_append]; have : atB.size = 1 := rfl; omega
      · unfold boolB; split <;> decide
      · decide
theorem Replace_spec (b : Nat) (s : ByteArray) (hs : s.size ≤ 1000000) : Spec (X := Unit) prog 163 [tAt b 0, tV (.string s)] ([box b 242 (rStruct fsRpl) (once 0 0, false, six)]) (fun _ => tV (.string (ofBytes (escL (bytesOf s))))) (fun _ => [box b 242 (rStruct fsRpl) (once 1 0, true, [])]) := by
 refine Spec.enter func163 rfl rfl fun h0 w0 fr0 => ?_
 refine Jr (Ja rfl (JL_nil (Jr (Jm rfl (Js rfl (step_nilCheck Sr) ?_)))))
 refine Js rfl (step_fieldAddr_own so242 Sr rfl) (Jm rfl (Js rfl (step_makeFirst Sr) ?_))
 refine Jx rfl (step_call zS (Do_spec b (buildOnce_spec b)) ⟨Sr, Sr, trivial⟩ call185) fun v10 => ?_
 refine JL_nil (Jr (Jm rfl (Js rfl (step_nilCheck Sr) (Js rfl (step_fieldAddr_own so242 Sr rfl) ?_))))
 refine Js rfl (step_load_fld ty240 Sr rfl zS) ?_
 refine Jm rfl ?_
 refine Jx rfl (step_invoke (A := tPtr (rStruct fsB2) (R3, T3)) Sr (by rintro h u w ⟨b, off, cs, rfl, _⟩; exact method_rep b off w) (Sel.none _) (BsrReplace_spec s hs) ⟨Sr, trivial⟩ call282) fun v16 => ?_
 refine Ja rfl (JL_nil (J_ret ?_))
 refine K_ret1 (t := 4) rfl () Sr
theorem fmtB_spec (b : Bool) : Fun1 prog 188 [tV (.bool b)] (tV (.string (boolB b))) := by
 refine Spec.enter func188 rfl rfl fun h0 w0 fr0 => ?_
 refine Jr (Ja rfl (JL_nil (J_seq (Jr (Jm rfl ?_)))))
 refine JL_nil ?_
 refine J_cond Sr (fun h3 => ?_) (fun h3 => ?_)
 ·
  try simp only [NF] at h3
  refine Jr (Ja rfl (JL_nil (J_ret ?_)))
  refine K_retv (rv := .tmp 2) rfl () (.tmp Sr) (Sub.v (congrArg Value.string ?_))
  simp [boolB, h3]
 try simp only [NF] at h3
 refine J_skip (Jr (Ja rfl (JL_nil (J_ret ?_))))
 refine K_retv (rv := .tmp 2) rfl () (.tmp Sr) (Sub.v (congrArg Value.string ?_))
 simp [boolB, h3]
theorem FormatBool_spec (b : Bool) : Fun1 prog 165 [tV (.bool b)] (tV (.string (boolB b))) := by
 refine Spec.enter func165 rfl rfl fun h0 w0 fr0 => ?_
 refine Jr (Ja rfl (JL_nil (Jr (Jm rfl (Js rfl (step_call0 (fmtB_spec _) ⟨Sr, trivial⟩ call188) ?_)))))
 refine Ja rfl (JL_nil (J_ret ?_))
 exact K_ret1 (t := 2) rfl () Sr
theorem Text_spec (v : GValue) : Fun1 prog 125 [rValue.ty v] (tV (.string (textV v))) := by
 refine Spec.enter func125 rfl rfl fun h0 w0 fr0 => ?_
 refine Jr (Js rfl (step_box (R := rValue) Sr) (Ja rfl (JL_nil (J_seq (Jr ?_)))))
 refine Jl rfl ty62 Sr (Js rfl (step_call0 (Valid_spec _) ⟨Sr, trivial⟩ call48) (Js rfl (step_not Sr) (JL_nil ?_)))
 refine J_cond Sr (fun h5 => ?_) (fun h5 => ?_)
 ·
  try simp only [NF] at h5
  refine Jr (Ja rfl (JL_nil (J_ret ?_)))
  refine K_ret1' (rv := .tmp 2) rfl () (Sel.all _) (.tmp Sr) (Frz.sub (Sub.v (congrArg Value.string ?_)))
  have : validV v = false := by simpa using h5
  rw [textV, if_pos this]
 try simp only [NF] at h5
 have hvv : validV v = true := by simpa using h5
 have hn := valid_N hvv
 have hNr : -9223372036854775808 ≤ v.N ∧ v.N ≤ 9223372036854775807 := by omega
 have his := itoaB_size hNr
 refine J_skip (J_seq (Jr (Js rfl (step_fieldAddr so62 Sr rfl) (Jl rfl ty3 Sr (JL_nil ?_)))))
 refine J_block (Jr (Js rfl (step_eql Sr Sr) (Ja rfl (JL_nil ?_))))
 refine J_cond Sr (fun h8 => ?_) (fun h8 => ?_)
 ·
  try simp only [NF] at h8
  have hts : v.Text.size ≤ 1000000 := by have := valid_txt hvv h8; omega
  have hqs := quote_size v.Text
  have hq1 : (⟨#[34]⟩ : ByteArray).size = 1 := rfl
  have hes : (ofBytes (escL (bytesOf v.Text))).size ≤ 4 * v.Text.size := by unfold quoteB at hqs; rw [ByteArray.size_append, ByteArray.size_append] at hqs; omega
  refine J_seq ?_
  refine J_draw [⟨0, [], true⟩, ⟨2, [1], true⟩, ⟨3, [12], true⟩, ⟨1, [10], false⟩, ⟨4, [11, 13], false⟩, ⟨5, [14], true⟩, ⟨6, [15], true⟩, ⟨7, [16], true⟩] rfl (by kernel_rfl) ?_
  refine Mf rfl rfl (step_literal (ys := [_, _, _, _, _, _]) underlying60 el9 ⟨rfl, Sr, rfl, Sr, rfl, Sr, rfl, Sr, rfl, Sr, rfl, Sr, trivial⟩ rfl (by decide)) ?_
  refine Mf rfl rfl (step_fieldAddr so62 Sr rfl) (Mf rfl rfl (step_load_ptr ty9 Sr) ?_)
  refine JM_stepX rfl rfl rfl rfl (step_call (Sel.none _) (NewReplacer_spec six (by decide) (by decide)) ⟨Sr, trivial⟩ call162) fun b11 => ?_
  refine JM_stepX rfl rfl rfl rfl (step_call zS (Replace_spec b11 v.Text hts) ⟨Sr, Sr, trivial⟩ call163) fun v14 => ?_
  refine Mf rfl rfl (step_add_str Sr Sr zG) ?_
  refine Mf rfl rfl (step_add_str Sr Sr (by rw [ByteArray.size_append]; omega)) ?_
  refine Mf rfl rfl (step_assign Sr) (JM_nil (J_ret ?_))
  refine K_ret1' (rv := .tmp 2) rfl () (Sel.all _) (.tmp Sr) (Frz.sub (Sub.v (congrArg Value.string ?_)))
  rw [textV, if_neg (by rw [hvv]; decide), if_pos h8]; rfl
 try simp only [NF] at h8
 refine Jr (Js rfl (step_eql Sr Sr) (Ja rfl (JL_nil ?_)))
 refine J_cond Sr (fun h17 => ?_) (fun h17 => ?_)
 ·
  try simp only [NF] at h17
  refine Jr (Js rfl (step_fieldAddr so62 Sr rfl) (Jl rfl ty3 Sr (Js rfl (step_call0 (Itoa_spec v.N hNr) ⟨Sr, trivial⟩ call164) (Ja rfl (JL_nil ?_)))))
  refine J_ret ?_
  refine K_ret1' (rv := .tmp 2) rfl () (Sel.all _) (.tmp Sr) (Frz.sub (Sub.v (congrArg Value.string ?_)))
  first | (simp [textV, *]; done) | (simp [textV, *]; rfl)
 try simp only [NF] at h17
 refine Jr (Js rfl (step_eql Sr Sr) (Ja rfl (JL_nil ?_)))
 refine J_cond Sr (fun h22 => ?_) (fun h22 => ?_)
 ·
  try simp only [NF] at h22
  refine Jr (Js rfl (step_fieldAddr so62 Sr rfl) (Jl rfl ty3 Sr (Js rfl (step_call0 (Itoa_spec v.N hNr) ⟨Sr, trivial⟩ call164) ?_)))
  refine Js rfl (step_add_str Sr Sr (by have : (⟨#[64]⟩ : ByteArray).size = 1 := rfl; omega)) ?_
  refine Ja rfl (JL_nil (J_ret ?_))
  refine K_ret1' (rv := .tmp 2) rfl () (Sel.all _) (.tmp Sr) (Frz.sub (Sub.v (congrArg Value.string ?_)))
  first | (simp [textV, *]; done) | (simp [textV, *]; rfl)
 try simp only [NF] at h22
 refine Jr (Js rfl (step_eql Sr Sr) (Ja rfl (JL_nil ?_)))
 refine J_cond Sr (fun h28 => ?_) (fun h28 => ?_)
 ·
  try simp only [NF] at h28
  refine Jr (Js rfl (step_fieldAddr so62 Sr rfl) (Jl rfl ty3 Sr (Js rfl (step_eql Sr Sr) (Js rfl (step_call0 (FormatBool_spec _) ⟨Sr, trivial⟩ call165) (Ja rfl ?_)))))
  refine JL_nil (J_ret ?_)
  refine K_ret1' (rv := .tmp 2) rfl () (Sel.all _) (.tmp Sr) (Frz.sub (Sub.v (congrArg Value.string ?_)))
  first | (simp [textV, *]; done) | (simp [textV, *]; rfl)
 try simp only [NF] at h28
 refine J_skip (Jr (Ja rfl (JL_nil (J_ret ?_))))
 refine K_ret1' (rv := .tmp 2) rfl () (Sel.all _) (.tmp Sr) (Frz.sub (Sub.v (congrArg Value.string ?_)))
 first | (simp [textV, *]; done) | (simp [textV, *]; rfl)
open Go
section
variable {C : Cx} {E : Env} {L : List SP} {d : Option Nat} {ty : Nat} {pos : String} {af : Array Edge} {g : Option (Nat × Bool)}
end
/-! ### Growing from nothing -/
theorem run_append_nil_make {P : Program} (w : World) (t ti ty e : TypeId) (i : TypeInfo) (z : Value) (ht : P.underlying t = some (.slice e)) (hti : P.underlying ti = some (.int .i64)) (hi : P.info? e = some i) (hz : i.zero = some z) (hk : 0 < i.size) (n : Nat) (h0 : 0 < n) (h63 : (n : Int) ≤ 9223372036854775807) (h48 : n * i.bytes ≤ 281474976710656) :
    (Builtin.append_ #[t, ti] ty #[.slice none 0 0, .int .i64 n]).run P w =
      .ok (.slice (some ⟨w.heap.size, 0, none⟩) n (grownCap w n 0 e)) (w.drew.alloc (.cells (Builtin.zeroCells z.cells n ++ Builtin.zeroCells z.cells (grownCap w n 0 e - n)) e)) := by
  have hn : n ≠ 0 := by omega
  have h63' : ¬ (9223372036854775807 < (n : Int)) := by omega
  have h48' : ¬ (281474976710656 < Builtin.nextslicecap n 0 * i.bytes) := by rw [nextslicecap_zero h0]; omega
  have h48'' : ¬ (281474976710656 < (n : Int) * (i.bytes : Int)) := by
    have : ((n * i.bytes : Nat) : Int) ≤ 281474976710656 := by omega
    rw [Int.natCast_mul] at this; omega
  have hw : IntKind.i64.wrap (n : Int) = n := wrap64_in ⟨by omega, by omega⟩
  have hns : ¬ (n * i.size = 0) := Nat.mul_ne_zero (by omega) (by omega)
  have hmx : ¬ (9223372036854775807 < max (n : Int) 0) := by omega
  simp [Builtin.append_, run_underlying ht, run_underlying hti, Go.sizeOf, typeInfo, zeroValue, hi, hz, Builtin.lenOf, hn, hw, asInt, asIntOf, h63', h48', h48'', hns, hmx, Question.forced, run_firstCells_none, newRow, grownCap]
  intro q; exfalso; omega
section
variable {C : Cx} {E : Env} {L : List SP} {d : Option Nat} {ty : Nat} {pos : String} {af : Array Edge} {g : Option (Nat × Bool)}
theorem step_cap_nil {T e : Nat} {x : Operand} (hu : C.P.underlying T = some (.slice e)) (hx : Sub (opTy E x) (rV.ty (.slice none 0 0))) :
    Step1 C ⟨d, .call { callee := .builtin .cap, args := #[x], argTypes := #[T] }, ty, pos, af, g⟩ E L (tV (.int .i64 0)) :=
  Step.of_same (by intro c h; cases h) fun a w h hw fr => by
    have hv : a.eval x = .slice none 0 0 := (fr.get hx).1
    exact ⟨_, by simp [execOp, resolve, invoke, builtin, Builtin.cap_, hv, run_underlying hu, goInt], rfl⟩
theorem step_len_nil {T e : Nat} {x : Operand} (hu : C.P.underlying T = some (.slice e)) (hx : Sub (opTy E x) (rV.ty (.slice none 0 0))) :
    Step1 C ⟨d, .call { callee := .builtin .len, args := #[x], argTypes := #[T] }, ty, pos, af, g⟩ E L (tV (.int .i64 0)) :=
  Step.of_same (by intro c h; cases h) fun a w h hw fr => by
    have hv : a.eval x = .slice none 0 0 := (fr.get hx).1
    exact ⟨_, by simp [execOp, resolve, invoke, builtin, Builtin.len_, hv, run_underlying hu, goInt], rfl⟩
theorem step_slice_nil {T e : Nat} {α : Type} {R : Rp α} {x y : Operand} {z : Int} (hu : C.P.underlying T = some (.slice e)) (hR : TyOf C.P e R) (hx : Sub (opTy E x) (rV.ty (.slice none 0 0))) (hy : Sub (opTy E y) (tV (.int .i64 z))) (hz : z = 0) :
    Step1 C ⟨d, .slice T x none (some y) none, ty, pos, af, g⟩ E L (rV.ty (.slice none 0 0)) :=
  Step.of_run (by intro c h; cases h) fun a w h m l sp st fr => by
    have hv : a.eval x = .slice none 0 0 := (fr.get hx).1
    have h2 : a.eval y = .int .i64 z := fr.get hy
    subst hz
    refine ⟨(), .slice none 0 0, w, h, _, ?_, HL.refl, sp, st, ⟨rfl, rfl⟩⟩
    simp [execOp, Instr.sliceAt, run_underlying hu, hv, h2, Instr.slice, Instr.sliceBounds, Instr.sliceBound, asIntOf, hR.size]
theorem step_append_make {α : Type} {T Ti e bytes n : Nat} {R : Rp α} {z : α} {x y : Operand} {i : Int} (hu : C.P.underlying T = some (.slice e)) (hi : C.P.underlying Ti = some (.int .i64)) (hE : ElT C.P e R bytes z)
    (hx : Sub (opTy E x) (rV.ty (.slice none 0 0))) (hy : Sub (opTy E y) (tV (.int .i64 i))) (hn : i = n) (h0 : 0 < n) (hb : n * bytes ≤ 281474976710656) (h63 : n ≤ 4611686018427387904) :
    Step C ⟨d, .call { callee := .builtin .append, args := #[x, y], argTypes := #[T, Ti] }, ty, pos, af, g⟩ E L (fun v' : Value => rV.ty v') (fun v' => own e R v' (List.replicate n z) :: L) :=
  Step.of_run (by intro c h; cases h) fun a w h m l sp st fr => by
    have hv : a.eval x = .slice none 0 0 := (fr.get hx).1
    have h2 : a.eval y = .int .i64 i := fr.get hy
    subst hn
    obtain ⟨ii, zv, hii, hz, hk, hby, hzr⟩ := hE.inf
    have rz := R.cells (hzr h)
    have hzl := R.len rz
    have hzs : zv.cells.size = R.k := by simpa using hzl
    have hp := hE.pos
    have hr := run_append_nil_make (P := C.P) w T Ti ty e ii zv hu hi hii hz (by omega) n h0 (by omega) (by rw [hby]; exact hb)
    have hop : (execOp a.eval ⟨d, .call { callee := .builtin .append, args := #[x, y], argTypes := #[T, Ti] }, ty, pos, af, g⟩).run C.P w = .ok (.value (.slice (some ⟨w.heap.size, 0, none⟩) n (grownCap w n 0 e))) (w.drew.alloc (.cells (Builtin.zeroCells zv.cells n ++ Builtin.zeroCells zv.cells (grownCap w n 0 e - n)) e)) := by
      simp [execOp, resolve, invoke, builtin, hv, h2, hr]
    have hge := grownCap_ge w n 0 e
    have hzf : (Builtin.zeroCells zv.cells n).toList = (List.replicate n zv).flatMap fun v => v.cells.toList := by
      rw [show Builtin.zeroCells zv.cells n = madeCells zv.cells (n * R.k) by rw [← hzs]; rfl]
      exact madeCells_flat zv hE.pos hzs n
    have hra : Args h ((List.replicate n z).map R.ty) (List.replicate n zv) := by
      have : ∀ n : Nat, Args h ((List.replicate n z).map R.ty) (List.replicate n zv) := by
        intro n
        induction n with
        | zero => trivial
        | succ n ih => exact ⟨hzr h, ih⟩
      exact this n
    have hrf := relAll_flat hra
    have hlf := relAll_len hrf
    rw [List.length_replicate] at hlf
    refine ⟨_, _, _, h, (PH.one w.heap.size (.cells _ e)).join m, hop, HL.same (Same.drewAlloc _ _), Sep.drew sp |>.allocOwn (w := w.drew) _, ?_, ⟨rfl, rfl⟩⟩
    refine ⟨_, m, PH.disj_symm (PH.one_disj_new sp.mw _), rfl, .inr ⟨w.heap.size, _, _, by rw [List.length_replicate], rfl, by rw [List.length_replicate]; exact hge, grownCap_le_maxLen w _ _ _ (by unfold maxLen; omega), ?_, ?_⟩, st⟩
    · rw [Array.size_append, size_zeroCells, size_zeroCells, hzs, ← Nat.add_mul]; congr 1; omega
    · rw [List.length_replicate, Array.toList_append, hzf, List.take_append_of_le_length (by rw [hlf]; exact Nat.le_refl _), List.take_of_length_le (by rw [hlf]; exact Nat.le_refl _)]
      exact hrf
end
open Go Go.Proofs Go.Proofs.Tryz
theorem flat_le {α : Type} {ls : List (List α)} {i : Nat} : (ls.take i).flatten.length ≤ ls.flatten.length := by
  have : ls.flatten = (ls.take i).flatten ++ (ls.drop i).flatten := by rw [← List.flatten_append, List.take_append_drop]
  rw [this, List.length_append]; omega
theorem flat_succ {α : Type} [Inhabited α] {ls : List (List α)} {i : Nat} (h : i < ls.length) : (ls.take (i + 1)).flatten = (ls.take i).flatten ++ nth ls i := by
  rw [takeB h]; simp
/-- The values with some indices. -/
def pickV (l : LV) (cols : List Int) : LV := cols.map fun c => nth l c.toNat
def pickW (l : LV) (cols : List Int) : LV := if pickOk l.length cols = true then pickV l cols else []
/-- What a side of a test is at a row. -/
def ofS (x : GSide) (row : LV) : GValue := if x.Var = -1 then x.Value else nth row x.Col.toNat
def tstV (t : GTest) (row : LV) : Bool := testV (ofS t.Left row) t.Op (ofS t.Right row) t.Add
def SideOk (x : GSide) (n : Nat) : Prop := x.Var ≠ -1 → 0 ≤ x.Col ∧ x.Col < n
/-- That a row is struck by a selection. -/
def selB (ts : List GTest) (row : LV) : Bool := ts.any fun t => !tstV t row
theorem GrowR_spec (n : Nat) (hn : n ≤ 1000000) : Spec (X := Value) prog 167 [rV.ty (.slice none 0 0), tV (.int .i64 n)] ([]) (fun z => rV.ty z) (fun z => [own 45 (rSl rValue) z []]) := by
 refine Spec.enter func167 rfl rfl fun h0 w0 fr0 => ?_
 refine Jr (Ja rfl (JL_nil (J_seq (Jr (Jm rfl ?_)))))
 refine Js rfl (step_lss Sr Sr) (JL_nil ?_)
 refine J_cond Sr (fun h6 => ?_) (fun h6 => ?_)
 ·
  try simp only [NF] at h6
  omega
 try simp only [NF] at h6
 refine J_skip (J_seq (Jr (Jm rfl (Jm rfl (Js rfl (step_cap_nil underlying38 Sr) ?_)))))
 refine Jm rfl (Js rfl (step_len_nil underlying38 Sr) (Js rfl (step_sub Sr Sr z6) (Js rfl (step_sub Sr Sr z6) (Ja rfl (JL_nil ?_)))))
 refine Jr (Jm rfl (Js rfl (step_gtr Sr Sr) (JL_nil ?_)))
 refine J_cond Sr (fun h16 => ?_) (fun h16 => ?_)
 ·
  try simp only [NF] at h16
  refine J_region (Jm rfl (Jm rfl (Js rfl (step_cap_nil underlying38 Sr) (Js rfl (step_slice_nil underlying38 ty45 Sr Sr rfl) (Jm rfl ?_)))))
  refine Jx rfl (step_append_make (n := n) underlying38 underlying3 el45 Sr Sr zG zG zG zG) fun v22 => ?_
  refine Jm rfl (Js rfl (step_len_nil underlying38 Sr) ?_)
  refine Jx rfl (step_slice_own (n := 0) underlying38 ty45 Sr Sr (by rfl) zS (by exact Nat.zero_le _)) fun v25 => ?_
  refine Ja rfl (JL_nil (Jr (Jm rfl (Ja rfl (JL_nil ?_)))))
  refine J_ret ?_
  refine K_retv (rv := .tmp 4) rfl v25 (.tmp Sr) Sr
 try simp only [NF] at h16
 refine J_skip (Jr (Jm rfl (Ja rfl (JL_nil (J_ret ?_)))))
 refine K_lsub (LSub.nilown (e := 45) (R := (rSl rValue))) ?_
 refine K_retv (rv := .tmp 4) rfl (.slice none 0 0 : Value) (.tmp Sr) Sr
set_option maxHeartbeats 1000000 in
theorem ConcatR_spec (ls : List (List LV)) (hn : ls.length ≤ 1000) (hl : ls.flatten.length ≤ 1000000) : Spec (X := Value) prog 127 [tSl (rSl (rSl rValue)) ls] ([]) (fun z => rV.ty z) (fun z => [own 45 (rSl rValue) z ls.flatten]) := by
 refine Spec.enter func127 rfl rfl fun h0 w0 fr0 => ?_
 refine Jr (Ja rfl (JL_nil (Jr (Ja rfl (JL_nil ?_)))))
 refine J_seq (Jr (Jm rfl (Js rfl (step_len_sl underlying35 Sr) (Jm rfl (JL_nil ?_)))))
 refine J_block ?_
 refine J_loopL (σ := Nat) (fun i => i ≤ ls.length) (fun i => upd (upd (upd (upd (upd (upd env0 0 (tSl (rSl (rSl rValue)) ls)) 2 (tV (.slice none 0 0))) 3 (tV (.int .i64 ((ls.take i).flatten.length : Nat)))) 9 (tSl (rSl (rSl rValue)) ls)) 10 (tV (.int .i64 ls.length))) 11 (tV (.int .i64 i))) (fun i => []) (fun i => ls.length - i) 0 (by exact Nat.zero_le _) (zU) (LSub.rfl) ?_
 rintro i hi
 refine Jr (Js rfl (step_lss Sr Sr) (JL_nil (J_seq ?_)))
 refine J_cond Sr (fun h12 => ?_) (fun h12 => ?_)
 ·
  try simp only [NF] at h12
  have hlt : i < ls.length := by omega
  refine J_skip (J_seq (J_block (Jr ?_)))
  refine Js rfl (step_indexAddr_sl (i := i) underlying35 ty38 Sr Sr (by rfl) (gb (by exact hlt))) ?_
  refine Jl rfl ty38 Sr (Ja rfl (JL_nil (Jr (Jm rfl (Jm rfl ?_)))))
  refine Js rfl (step_len_sl underlying38 Sr) ?_
  refine Js rfl (step_add Sr Sr (by have := flat_le (ls := ls) (i := i + 1); rw [flat_succ hlt, List.length_append] at this; unfold in64; omega)) ?_
  refine Ja rfl (JL_nil (Jr (Jm rfl (Js rfl (step_lss Sr Sr) (JL_nil ?_)))))
  refine J_cond Sr (fun h20 => ?_) (fun h20 => ?_)
  ·
   try simp only [NF] at h20
   omega
  try simp only [NF] at h20
  refine J_skip (J_region (Js rfl (step_add Sr Sr z6) (Jm rfl (JL_nil ?_))))
  refine K_againL (σ := Nat) (s := i) (i + 1) zO zG (.u (.u (.u (SubE.upd (Sub.int (by rw [flat_succ hlt, List.length_append, Int.natCast_add])) (zU))))) (LSub.rfl)
 try simp only [NF] at h12
 obtain rfl : i = ls.length := by omega
 refine J_exit (Jr (Jm rfl ?_))
 refine Jx rfl (step_call (Sel.none _) (GrowR_spec ls.flatten.length hl) ⟨Sub.rV rfl, Sub.int (by rw [List.take_length]), trivial⟩ call167) fun v24 => ?_
 refine Ja rfl (JL_nil (J_seq (Jr (Jm rfl (Js rfl (step_len_sl underlying35 Sr) ?_)))))
 refine Jm rfl (JL_nil (J_block ?_))
 refine J_loopL (σ := Nat × Value) (fun ⟨i, vo⟩ => i ≤ ls.length) (fun ⟨i, vo⟩ => upd (upd (upd (upd (upd env0 2 (tV (.slice none 0 0))) 6 (rV.ty vo)) 25 (tSl (rSl (rSl rValue)) ls)) 26 (tV (.int .i64 ls.length))) 27 (tV (.int .i64 i))) (fun ⟨i, vo⟩ => [own 45 (rSl rValue) vo (ls.take i).flatten]) (fun ⟨i, vo⟩ => ls.length - i) (0, v24) (by exact Nat.zero_le _) (zU) (zL) ?_
 rintro ⟨i, vo⟩ hi
 try dsimp only at hi
 refine Jr (Js rfl (step_lss Sr Sr) (JL_nil (J_seq ?_)))
 refine J_cond Sr (fun h28 => ?_) (fun h28 => ?_)
 ·
  try simp only [NF] at h28
  have hlt : i < ls.length := by omega
  refine J_skip (J_seq (J_block (Jr ?_)))
  refine Js rfl (step_indexAddr_sl (i := i) underlying35 ty38 Sr Sr (by rfl) (gb (by exact hlt))) ?_
  refine Jl rfl ty38 Sr (Ja rfl (JL_nil (J_region (Jm rfl (Jm rfl ?_)))))
  refine Jx rfl (step_append underlying38 el45 Sr Sr zS (by have := flat_le (ls := ls) (i := i + 1); rw [flat_succ hlt, List.length_append] at this; omega) (by have := flat_le (ls := ls) (i := i + 1); rw [flat_succ hlt, List.length_append] at this; omega)) fun v33 => ?_
  refine Ja rfl (JL_nil (J_region (Js rfl (step_add Sr Sr z6) (Jm rfl (JL_nil ?_)))))
  refine K_againL (σ := Nat × Value) (s := (i, vo)) (i + 1, v33) zO (by show i + 1 ≤ _; omega) (zU) (.c zS (SPs.of (A := own 45 (rSl rValue) v33 ((ls.take i).flatten ++ nth ls i)) (by rw [flat_succ hlt])) (LSub.nil))
 try simp only [NF] at h28
 obtain rfl : i = ls.length := by omega
 refine J_exit (Jr (Jm rfl (Ja rfl (JL_nil (J_ret ?_)))))
 refine K_lsub (L' := [own 45 (rSl rValue) vo ls.flatten]) (.c zS (SPs.of (A := own 45 (rSl rValue) vo (ls.take ls.length).flatten) (by rw [List.take_length])) (LSub.nil)) ?_
 refine K_retv (rv := .tmp 2) rfl vo (.tmp Sr) Sr
theorem GrowV_spec (n : Nat) (hn : n ≤ 1000000) : Spec (X := Value) prog 166 [rV.ty (.slice none 0 0), tV (.int .i64 n)] ([]) (fun z => rV.ty z) (fun z => [own 62 rValue z []]) := by
 refine Spec.enter func166 rfl rfl fun h0 w0 fr0 => ?_
 refine Jr (Ja rfl (JL_nil (J_seq (Jr (Jm rfl ?_)))))
 refine Js rfl (step_lss Sr Sr) (JL_nil ?_)
 refine J_cond Sr (fun h6 => ?_) (fun h6 => ?_)
 ·
  try simp only [NF] at h6
  omega
 try simp only [NF] at h6
 refine J_skip (J_seq (Jr (Jm rfl (Jm rfl (Js rfl (step_cap_nil underlying45 Sr) ?_)))))
 refine Jm rfl (Js rfl (step_len_nil underlying45 Sr) (Js rfl (step_sub Sr Sr z6) (Js rfl (step_sub Sr Sr z6) (Ja rfl (JL_nil ?_)))))
 refine Jr (Jm rfl (Js rfl (step_gtr Sr Sr) (JL_nil ?_)))
 refine J_cond Sr (fun h16 => ?_) (fun h16 => ?_)
 ·
  try simp only [NF] at h16
  refine J_region (Jm rfl (Jm rfl (Js rfl (step_cap_nil underlying45 Sr) (Js rfl (step_slice_nil underlying45 ty62 Sr Sr rfl) (Jm rfl ?_)))))
  refine Jx rfl (step_append_make (n := n) underlying45 underlying3 el62 Sr Sr zG zG zG zG) fun v22 => ?_
  refine Jm rfl (Js rfl (step_len_nil underlying45 Sr) ?_)
  refine Jx rfl (step_slice_own (n := 0) underlying45 ty62 Sr Sr (by rfl) zS (by exact Nat.zero_le _)) fun v25 => ?_
  refine Ja rfl (JL_nil (Jr (Jm rfl (Ja rfl (JL_nil ?_)))))
  refine J_ret ?_
  refine K_retv (rv := .tmp 4) rfl v25 (.tmp Sr) Sr
 try simp only [NF] at h16
 refine J_skip (Jr (Jm rfl (Ja rfl (JL_nil (J_ret ?_)))))
 refine K_lsub (LSub.nilown (e := 62) (R := rValue)) ?_
 refine K_retv (rv := .tmp 4) rfl (.slice none 0 0 : Value) (.tmp Sr) Sr
set_option maxHeartbeats 1000000 in
theorem ConcatV_spec (ls : List (List GValue)) (hn : ls.length ≤ 1000) (hl : ls.flatten.length ≤ 1000000) : Spec (X := Value) prog 126 [tSl (rSl rValue) ls] ([]) (fun z => rV.ty z) (fun z => [own 62 rValue z ls.flatten]) := by
 refine Spec.enter func126 rfl rfl fun h0 w0 fr0 => ?_
 refine Jr (Ja rfl (JL_nil (Jr (Ja rfl (JL_nil ?_)))))
 refine J_seq (Jr (Jm rfl (Js rfl (step_len_sl underlying38 Sr) (Jm rfl (JL_nil ?_)))))
 refine J_block ?_
 refine J_loopL (σ := Nat) (fun i => i ≤ ls.length) (fun i => upd (upd (upd (upd (upd (upd env0 0 (tSl (rSl rValue) ls)) 2 (tV (.slice none 0 0))) 3 (tV (.int .i64 ((ls.take i).flatten.length : Nat)))) 9 (tSl (rSl rValue) ls)) 10 (tV (.int .i64 ls.length))) 11 (tV (.int .i64 i))) (fun i => []) (fun i => ls.length - i) 0 (by exact Nat.zero_le _) (zU) (LSub.rfl) ?_
 rintro i hi
 refine Jr (Js rfl (step_lss Sr Sr) (JL_nil (J_seq ?_)))
 refine J_cond Sr (fun h12 => ?_) (fun h12 => ?_)
 ·
  try simp only [NF] at h12
  have hlt : i < ls.length := by omega
  refine J_skip (J_seq (J_block (Jr ?_)))
  refine Js rfl (step_indexAddr_sl (i := i) underlying38 ty45 Sr Sr (by rfl) (gb (by exact hlt))) ?_
  refine Jl rfl ty45 Sr (Ja rfl (JL_nil (Jr (Jm rfl (Jm rfl ?_)))))
  refine Js rfl (step_len_sl underlying45 Sr) ?_
  refine Js rfl (step_add Sr Sr (by have := flat_le (ls := ls) (i := i + 1); rw [flat_succ hlt, List.length_append] at this; unfold in64; omega)) ?_
  refine Ja rfl (JL_nil (Jr (Jm rfl (Js rfl (step_lss Sr Sr) (JL_nil ?_)))))
  refine J_cond Sr (fun h20 => ?_) (fun h20 => ?_)
  ·
   try simp only [NF] at h20
   omega
  try simp only [NF] at h20
  refine J_skip (J_region (Js rfl (step_add Sr Sr z6) (Jm rfl (JL_nil ?_))))
  refine K_againL (σ := Nat) (s := i) (i + 1) zO zG (.u (.u (.u (SubE.upd (Sub.int (by rw [flat_succ hlt, List.length_append, Int.natCast_add])) (zU))))) (LSub.rfl)
 try simp only [NF] at h12
 obtain rfl : i = ls.length := by omega
 refine J_exit (Jr (Jm rfl ?_))
 refine Jx rfl (step_call (Sel.none _) (GrowV_spec ls.flatten.length hl) ⟨Sub.rV rfl, Sub.int (by rw [List.take_length]), trivial⟩ call166) fun v24 => ?_
 refine Ja rfl (JL_nil (J_seq (Jr (Jm rfl (Js rfl (step_len_sl underlying38 Sr) ?_)))))
 refine Jm rfl (JL_nil (J_block ?_))
 refine J_loopL (σ := Nat × Value) (fun ⟨i, vo⟩ => i ≤ ls.length) (fun ⟨i, vo⟩ => upd (upd (upd (upd (upd env0 2 (tV (.slice none 0 0))) 6 (rV.ty vo)) 25 (tSl (rSl rValue) ls)) 26 (tV (.int .i64 ls.length))) 27 (tV (.int .i64 i))) (fun ⟨i, vo⟩ => [own 62 rValue vo (ls.take i).flatten]) (fun ⟨i, vo⟩ => ls.length - i) (0, v24) (by exact Nat.zero_le _) (zU) (zL) ?_
 rintro ⟨i, vo⟩ hi
 try dsimp only at hi
 refine Jr (Js rfl (step_lss Sr Sr) (JL_nil (J_seq ?_)))
 refine J_cond Sr (fun h28 => ?_) (fun h28 => ?_)
 ·
  try simp only [NF] at h28
  have hlt : i < ls.length := by omega
  refine J_skip (J_seq (J_block (Jr ?_)))
  refine Js rfl (step_indexAddr_sl (i := i) underlying38 ty45 Sr Sr (by rfl) (gb (by exact hlt))) ?_
  refine Jl rfl ty45 Sr (Ja rfl (JL_nil (J_region (Jm rfl (Jm rfl ?_)))))
  refine Jx rfl (step_append underlying45 el62 Sr Sr zS (by have := flat_le (ls := ls) (i := i + 1); rw [flat_succ hlt, List.length_append] at this; omega) (by have := flat_le (ls := ls) (i := i + 1); rw [flat_succ hlt, List.length_append] at this; omega)) fun v33 => ?_
  refine Ja rfl (JL_nil (J_region (Js rfl (step_add Sr Sr z6) (Jm rfl (JL_nil ?_)))))
  refine K_againL (σ := Nat × Value) (s := (i, vo)) (i + 1, v33) zO (by show i + 1 ≤ _; omega) (zU) (.c zS (SPs.of (A := own 62 rValue v33 ((ls.take i).flatten ++ nth ls i)) (by rw [flat_succ hlt])) (LSub.nil))
 try simp only [NF] at h28
 obtain rfl : i = ls.length := by omega
 refine J_exit (Jr (Jm rfl (Ja rfl (JL_nil (J_ret ?_)))))
 refine K_lsub (L' := [own 62 rValue vo ls.flatten]) (.c zS (SPs.of (A := own 62 rValue vo (ls.take ls.length).flatten) (by rw [List.take_length])) (LSub.nil)) ?_
 refine K_retv (rv := .tmp 2) rfl vo (.tmp Sr) Sr
set_option maxHeartbeats 1000000 in
theorem pickV_spec (l : LV) (cols : List Int) (hc : cols.length ≤ 1000000000) : Spec (X := Value) prog 123 [tSl rValue l, tSl rInt cols] ([]) (fun v => tTup [rV.ty v, tV (.bool (pickOk l.length cols))]) (fun v => [own 62 rValue v (pickW l cols)]) := by
 refine Spec.enter func123 rfl rfl fun h0 w0 fr0 => ?_
 refine Jr (Ja rfl (Ja rfl (JL_nil (Jr (Ja rfl ?_)))))
 refine JL_nil (J_seq (Jr (Jm rfl (Js rfl (step_len_sl underlying27 Sr) (Jm rfl ?_)))))
 refine JL_nil (J_block ?_)
 refine J_loopL (σ := Nat × Value) (fun ⟨i, v⟩ => i ≤ cols.length ∧ ∀ k, k < i → (decide (0 ≤ nth cols k) && decide (nth cols k < l.length)) = true) (fun ⟨i, v⟩ => upd (upd (upd (upd (upd env0 0 (tSl rValue l)) 6 (rV.ty v)) 9 (tSl rInt cols)) 10 (tV (.int .i64 cols.length))) 11 (tV (.int .i64 i))) (fun ⟨i, v⟩ => [own 62 rValue v (pickV l (cols.take i))]) (fun ⟨i, v⟩ => cols.length - i) (0, .slice none 0 0) ⟨by omega, fun k hk => by omega⟩ (.u (.u (.u (SubE.upd (Sub.rV rfl) (zU))))) (LSub.nilown) ?_
 rintro ⟨i, v⟩ ⟨hi, hv⟩
 refine Jr (Js rfl (step_lss Sr Sr) (JL_nil (J_seq ?_)))
 refine J_cond Sr (fun h12 => ?_) (fun h12 => ?_)
 ·
  try simp only [NF] at h12
  have hlt : i < cols.length := by omega
  have hpl : (pickV l (cols.take i)).length ≤ 1000000000 := by simp [pickV]; omega
  refine J_skip (J_seq (J_block (Jr ?_)))
  refine Js rfl (step_indexAddr_sl  underlying27 ty3 Sr Sr rfl (gb (by exact hlt))) ?_
  refine Jl rfl ty3 Sr (Ja rfl (JL_nil (J_seq (Jr (Jm rfl ?_)))))
  refine Js rfl (step_lss Sr Sr) (Jm rfl ?_)
  refine Jk rfl Sr rfl (step_move Sr) ?_
  refine Jk rfl Sr rfl (step_move Sr) ?_
  refine Jg rfl Sr rfl (fun hw => step_len_sl underlying45 (Sub.w hw)) (Jg rfl Sr rfl (fun hw => step_geq (Sub.w hw) (Sub.w hw)) (Js rfl (step_pick_or Sr Sr) (JL_nil ?_)))
  refine J_cond Sr (fun h22 => ?_) (fun h22 => ?_)
  ·
   try simp only [NF] at h22
   refine Jr (Ja rfl (Ja rfl (JL_nil (J_ret ?_))))
   have hno : pickOk l.length cols = false := all_f hlt (by rcases h22 with h | h <;> simp <;> omega)
   have hpm : pickW l cols = [] := by rw [pickW, if_neg (by rw [hno]; simp)]
   refine K_drop zS ?_
   refine K_lsub (L' := [own 62 rValue (.slice none 0 0) (pickW l cols)]) (LSub.trans (LSub.nilown (e := 62) (R := rValue)) (.c zS (SPs.of (A := own 62 rValue (.slice none 0 0) ([] : LV)) (by rw [hpm])) (LSub.nil))) ?_
   refine K_ret2' (rv := .tmp 4) (rv' := .tmp 5) rfl (.slice none 0 0) (Sel.none _) (.tmp (Sub.rV rfl)) (.tmp Sr) (Frz.sub Sr) (Frz.sub (Sub.bool hno.symm)) Sr
  try simp only [NF] at h22
  refine J_skip (J_region (Jm rfl (Jm rfl (Jm rfl (Js rfl (step_indexAddr_sl (i := (nth cols i).toNat) underlying45 ty62 Sr Sr zG (gb zG)) ?_)))))
  refine Jl rfl ty62 Sr ?_
  refine Js rfl (step_literal (ys := [_]) underlying45 el62 ⟨rfl, Sr, trivial⟩ rfl (by decide)) ?_
  refine Jx rfl (step_append underlying45 el62 Sr Sr zS (by simp; omega) (by simp; omega)) fun v29 => ?_
  refine Ja rfl (JL_nil (J_region (Js rfl (step_add Sr Sr z6) (Jm rfl (JL_nil ?_)))))
  refine K_againL (σ := Nat × Value) (s := (i, v)) (i + 1, v29) zO ?_ (zU) (.c zS (SPs.of (A := own 62 rValue v29 (pickV l (cols.take i) ++ [nth l (nth cols i).toNat])) (by rw [takeB hlt]; simp [pickV])) (LSub.nil))
  refine ⟨by omega, fun k hk => ?_⟩
  by_cases e : k = i
  ·
   subst e; simp; omega
  exact hv k zG
 try simp only [NF] at h12
 obtain rfl : i = cols.length := by omega
 have hok : pickOk l.length cols = true := all_t hv
 refine J_exit (Jr (Jm rfl (Ja rfl (Ja rfl (JL_nil ?_)))))
 refine J_ret ?_
 have hpm : pickW l cols = pickV l cols := by rw [pickW, if_pos hok]
 refine K_lsub (L' := [own 62 rValue v (pickW l cols)]) (.c zS (SPs.of (A := own 62 rValue v (pickV l (cols.take cols.length))) (by rw [hpm, List.take_length])) (LSub.nil)) ?_
 refine K_ret2' (rv := .tmp 4) (rv' := .tmp 5) rfl v (Sel.none _) (.tmp Sr) (.tmp Sr) (Frz.sub Sr) (Frz.sub (Sub.bool hok.symm)) Sr
theorem ofS_spec (x : GSide) (row : LV) (hs : SideOk x row.length) : Fun1 prog 118 [rSide.ty x, tSl rValue row] (rValue.ty (ofS x row)) := by
 refine Spec.enter func118 rfl rfl fun h0 w0 fr0 => ?_
 refine Jr (Js rfl (step_box (R := rSide) Sr) ?_)
 refine Jx rfl (step_alloc (fun w => zeroValue62 w) zr62) fun b4 => ?_
 refine JL_nil (J_seq (Jr (Js rfl (step_fieldAddr so91 Sr rfl) (Jl rfl ty3 Sr (Js rfl (step_eql Sr Sr) ?_)))))
 refine JL_nil ?_
 refine J_cond Sr (fun h7 => ?_) (fun h7 => ?_)
 ·
  try simp only [NF] at h7
  refine Jr (Js rfl (step_fieldAddr so91 Sr rfl) (Jl rfl ty62 Sr ?_))
  refine Ju (step_store_box ty62 Sr Sr zS) fun _ => ?_
  refine JL_nil (J_ret ?_)
  have e : ofS x row = x.Value := by rw [ofS, if_pos (by simpa using h7)]
  rw [e]
  exact K_ret1' (rv := .cell 4 62) rfl () (Sel.all _) (.cell (R := rValue) ty62 Sr zS Sr) (Frz.sub Sr)
 try simp only [NF] at h7
 have hc := hs (by simpa using h7)
 refine J_skip (Jr (Jm rfl (Js rfl (step_fieldAddr so91 Sr rfl) (Jl rfl ty3 Sr ?_))))
 refine Js rfl (step_indexAddr_sl (i := x.Col.toNat) underlying45 ty62 Sr Sr (by show x.Col = _; omega) (gb zG)) ?_
 refine Jl rfl ty62 Sr ?_
 refine Ju (step_store_box ty62 Sr Sr zS) fun _ => ?_
 refine JL_nil (J_ret ?_)
 have e : ofS x row = nth row x.Col.toNat := by rw [ofS, if_neg (by simpa using h7)]
 rw [e]
 exact K_ret1' (rv := .cell 4 62) rfl () (Sel.all _) (.cell (R := rValue) ty62 Sr zS Sr) (Frz.sub Sr)
open Go Go.Proofs Go.Proofs.Tryz
section
variable {α : Type} [Inhabited α]
theorem findI_splitA (p : α → Bool) : ∀ (l : List α) (i : Int), 0 ≤ i → (findI p i l = -1 ∧ ∀ x ∈ l, p x = false) ∨ ∃ k : Nat, k < l.length ∧ findI p i l = i + k ∧ p (nth l k) = true ∧ ∀ x ∈ l.take k, p x = false
  | [], i, h => .inl ⟨rfl, by simp⟩
  | x :: l, i, h => by
    by_cases hx : p x = true
    · refine .inr ⟨0, by simp, by simp [findI, hx], hx, by simp⟩
    · have hx' : p x = false := by simpa using hx
      rcases findI_splitA p l (i + 1) (by omega) with ⟨h1, h2⟩ | ⟨k, h1, h2, h3, h4⟩
      · refine .inl ⟨by simp [findI, hx', h1], ?_⟩
        intro y hy
        rcases List.mem_cons.1 hy with rfl | hy
        · exact hx'
        · exact h2 y hy
      · refine .inr ⟨k + 1, by simp; omega, ?_, h3, ?_⟩
        · simp only [findI, hx', Bool.false_eq_true, if_false, h2]; omega
        · intro y hy
          rw [List.take_succ_cons] at hy
          rcases List.mem_cons.1 hy with rfl | hy
          · exact hx'
          · exact h4 y hy
abbrev delA (p : α → Bool) (l : List α) : List α := l.filter fun x => !p x
theorem delA_all {p : α → Bool} {l : List α} (h : ∀ x ∈ l, p x = false) : delA p l = l := List.filter_eq_self.2 fun x hx => by simp [h x hx]
theorem delA_succ {p : α → Bool} {l : List α} {j : Nat} (h : j < l.length) : delA p (l.take (j + 1)) = delA p (l.take j) ++ if p (nth l j) = true then [] else [nth l j] := by
  rw [takeB h]
  simp only [delA, List.filter_append]
  by_cases hp : p (nth l j) = true <;> simp [hp]
def dInvA (p : α → Bool) (xs zs : List α) (i j : Nat) : Prop := j ≤ xs.length ∧ i < j ∧ zs.length = xs.length ∧ zs.take i = delA p (xs.take j) ∧ zs.drop j = xs.drop j
theorem dInvA_nth {p : α → Bool} {xs zs : List α} {i j : Nat} (h : dInvA p xs zs i j) (hj : j < xs.length) : nth zs j = nth xs j := by
  have h1 := h.2.2.2.2
  rw [dropB (show j < zs.length by rw [h.2.2.1]; exact hj), dropB hj] at h1
  exact (List.cons.inj h1).1
theorem dInvA_skip {p : α → Bool} {xs zs : List α} {i j : Nat} (h : dInvA p xs zs i j) (hj : j < xs.length) (hp : p (nth xs j) = true) : dInvA p xs zs i (j + 1) := by
  obtain ⟨h1, h2, h3, h4, h5⟩ := h
  refine ⟨by omega, by omega, h3, by rw [delA_succ hj, if_pos hp, List.append_nil]; exact h4, ?_⟩
  rw [dropB (show j < zs.length by omega), dropB hj] at h5
  exact (List.cons.inj h5).2
theorem dInvA_put {p : α → Bool} {xs zs : List α} {i j : Nat} (h : dInvA p xs zs i j) (hj : j < xs.length) (hp : ¬ p (nth xs j) = true) : dInvA p xs (zs.set i (nth xs j)) (i + 1) (j + 1) := by
  obtain ⟨h1, h2, h3, h4, h5⟩ := h
  refine ⟨by omega, by omega, by simp [h3], ?_, ?_⟩
  · rw [delA_succ hj, if_neg hp, ← h4]
    have : i < zs.length := by omega
    have hl2 : (zs.take i).length = i := by simp; omega
    rw [List.take_set, takeB this, List.set_append, if_neg (by omega), hl2, Nat.sub_self]
    rfl
  · rw [List.drop_set_of_lt (by omega)]
    rw [dropB (show j < zs.length by omega), dropB hj] at h5
    exact (List.cons.inj h5).2
theorem dInvA_start {p : α → Bool} {xs : List α} {k : Nat} (hk : k < xs.length) (hp : p (nth xs k) = true) (ha : ∀ x ∈ xs.take k, p x = false) : dInvA p xs xs k (k + 1) := by
  refine ⟨by omega, by omega, rfl, ?_, rfl⟩
  rw [delA_succ hk, if_pos hp, List.append_nil, delA_all ha]
end
theorem ty165V : TyOf prog 165 rV := ⟨fun w => isAgg165 w, fun w => sizeOf165 w⟩
/-- The rows that a selection keeps. -/
def selR (ts : List GTest) (l : List LV) : List LV := delA (selB ts) l
def projR (cols : List Int) (l : List LV) : List LV := l.map fun r => pickW r cols
def TestsOk (ts : List GTest) (n : Nat) : Prop := ∀ t ∈ ts, SideOk t.Left n ∧ SideOk t.Right n
set_option maxHeartbeats 1000000 in
theorem DeleteRows_spec (v : Value) (l : List LV) (hl : l.length ≤ 1000000000) (gi : Nat) (As : List Ty) (p : LV → Bool) (hp : ∀ x ∈ l, Fun1 prog gi ([tSl rValue x] ++ As) (tV (.bool (p x)))) (he : ∀ args w, (callFunc gi args).run prog w = .ok (.enter gi args) w) : Spec (X := Value) prog 119 [rV.ty v, tClo gi As] ([own 45 (rSl rValue) v l]) (fun z => rV.ty z) (fun z => [own 45 (rSl rValue) z (delA p l)]) := by
 refine Spec.enter func119 rfl rfl fun h0 w0 fr0 => ?_
 refine Jr (Ja rfl (JL_nil (Jr (Jm rfl (Jm rfl ?_)))))
 refine Js rfl (step_call_look zS (IndexFuncRows_spec l zG gi As p hp he) (fun _ => Flat.v _) ⟨(Frz.own), (Frz.sub Sr), trivial⟩ call60) ?_
 refine Ja rfl (JL_nil (J_seq (Jr (Jm rfl (Js rfl (step_eql Sr Sr) ?_)))))
 refine JL_nil ?_
 refine J_cond Sr (fun h12 => ?_) (fun h12 => ?_)
 ·
  try simp only [NF] at h12
  have hall : ∀ x ∈ l, p x = false := by rcases findI_splitA p l 0 zG with ⟨_, h⟩ | ⟨k, _, h, _⟩; exact h; omega
  refine Jr (Jm rfl (Ja rfl (JL_nil (J_ret ?_))))
  refine K_lsub (L' := [own 45 (rSl rValue) v (delA p l)]) (.c zS (SPs.of (A := own 45 (rSl rValue) v l) (by rw [delA_all hall])) (LSub.nil)) ?_
  refine K_retv (rv := .tmp 4) rfl v (.tmp Sr) Sr
 try simp only [NF] at h12
 obtain ⟨k, hk, hfk, hpk, hak⟩ : ∃ k : Nat, k < l.length ∧ findI p 0 l = 0 + (k : Int) ∧ p (nth l k) = true ∧ ∀ x ∈ l.take k, p x = false := by rcases findI_splitA p l 0 zG with ⟨h, _⟩ | h; exact absurd h h12; exact h
 rw [Int.zero_add] at hfk
 refine J_skip (J_seq (Jr (Jm rfl (Js rfl (step_add Sr Sr z6) (Ja rfl ?_)))))
 refine JL_nil (J_block ?_)
 refine J_loopL (σ := Nat × Nat × List LV) (fun ⟨j, i, zs⟩ => dInvA p l zs i j) (fun ⟨j, i, zs⟩ => upd (upd (upd (upd (upd env0 0 (rV.ty v)) 1 (tClo gi As)) 4 (tV (.slice none 0 0))) 5 (tV (.int .i64 i))) 6 (tV (.int .i64 j))) (fun ⟨j, i, zs⟩ => [own 45 (rSl rValue) v zs]) (fun ⟨j, i, zs⟩ => l.length - j) (k + 1, k, l) (dInvA_start hk hpk hak) (SubE.upd (Sub.int (by rw [hfk]; simp)) (SubE.upd (Sub.int hfk) (zU))) (LSub.rfl) ?_
 rintro ⟨j, i, zs⟩ hv
 try dsimp only at hv
 refine J_seq (Jr (Jm rfl (Jm rfl ?_)))
 refine Js rfl (step_len_own underlying38 Sr zS) ?_
 refine Js rfl (step_lss Sr Sr) (JL_nil ?_)
 refine J_cond Sr (fun h19 => ?_) (fun h19 => ?_)
 ·
  try simp only [NF] at h19
  have hlt : j < l.length := by have := hv.2.2.1; omega
  have hzj := dInvA_nth hv hlt
  have hzl := hv.2.2.1
  have hij := hv.2.1
  refine J_skip (J_seq (J_block (Jr (Jm rfl (Jm rfl ?_)))))
  refine Js rfl (step_indexAddr_own  underlying38 ty45 Sr zS Sr rfl (by first | assumption | omega)) ?_
  refine Js rfl (step_load_own ty45 Sr zS (gb (by first | assumption | omega))) ?_
  refine Ja rfl (JL_nil (Jr (Jm rfl (Jm rfl ?_))))
  refine Js rfl (step_callv0 (aT := [_]) Sr (hp _ (nth_mem hlt)) ⟨Sub.of_eq (show tSl rValue (nth zs j) = tSl rValue (nth l j) by rw [hzj]), trivial⟩ he) ?_
  refine Js rfl (step_not Sr) (JL_nil ?_)
  refine J_cond Sr (fun h29 => ?_) (fun h29 => ?_)
  ·
   try simp only [NF] at h29
   refine Jr (Jm rfl (Jm rfl (Jm rfl ?_)))
   refine Js rfl (step_indexAddr_own  underlying38 ty45 Sr zS Sr rfl (by first | assumption | omega)) ?_
   refine Ju (step_store_own ty45 Sr Sr zS (by first | assumption | omega)) fun _ => ?_
   refine JL_nil (J_region (Jm rfl (Js rfl (step_add Sr Sr z6) (Ja rfl (JL_nil ?_)))))
   refine J_region (Jm rfl (Js rfl (step_add Sr Sr z6) (Ja rfl (JL_nil ?_))))
   refine K_againL (σ := Nat × Nat × List LV) (s := (j, i, zs)) (j + 1, i + 1, zs.set i (nth l j)) zO (dInvA_put hv hlt (by simp_all)) (zU) (.c zS (SPs.of (A := own 45 (rSl rValue) v (zs.set i (nth zs j))) (by rw [hzj])) (LSub.nil))
  try simp only [NF] at h29
  refine J_skip (J_region (Jm rfl (Js rfl (step_add Sr Sr z6) (Ja rfl (JL_nil ?_)))))
  refine K_againL (σ := Nat × Nat × List LV) (s := (j, i, zs)) (j + 1, i, zs) zO (dInvA_skip hv hlt (by simp_all)) (zU) (zL)
 try simp only [NF] at h19
 have hil : i < zs.length := by have := hv.2.2.1; have := hv.2.1; have := hv.1; omega
 refine J_exit (Jr (Jm rfl (Jm rfl ?_)))
 refine Js rfl (step_tail underlying38 ty45 Sr Sr rfl zS hil) ?_
 refine Ju (step_tail_clear (R := rSl rValue) (zv := Value.slice none 0 0) (z := []) underlying38 (fun w => zeroValue45 w) rfl rfl rfl (fun h => ⟨_, rfl, none, ⟨0, Nat.le_refl _⟩, rfl, fun q => absurd rfl q⟩) Sr zS hil) fun _ => ?_
 refine JL_nil (Jr (Jm rfl (Jm rfl ?_)))
 refine Jx rfl (step_slice_own (n := i) underlying38 ty45 Sr Sr (by rfl) zS (by have := hv.2.2.1; have := hv.2.1; have := hv.1; simp; omega)) fun u41 => ?_
 refine Ja rfl (JL_nil (J_ret ?_))
 refine K_lsub (L' := [own 45 (rSl rValue) u41 (delA p l)]) (.c zS (SPs.of (A := own 45 (rSl rValue) u41 ((zs.take i ++ List.replicate (zs.length - i) []).take i)) (by obtain ⟨q1, q2, q3, q4, q5⟩ := hv; obtain rfl : j = l.length := zG; rw [List.take_length] at q4; rw [List.take_append_of_le_length (by simp; omega), List.take_take, Nat.min_self, q4])) (LSub.nil)) ?_
 refine K_retv (rv := .tmp 4) rfl u41 (.tmp Sr) Sr
theorem selRT_spec (t : GTest) (row : LV) (h1 : SideOk t.Left row.length) (h2 : SideOk t.Right row.length) : Fun1 prog 121 [rTest.ty t, tPtr rV (.func (.func 118) #[] #[]), tPtr (rSl rValue) row] (tV (.bool (!tstV t row))) := by
 refine Spec.enter func121 rfl rfl fun h0 w0 fr0 => ?_
 refine Jr (Js rfl (step_box (R := rTest) Sr) (Ja rfl (JL_nil (J_seq ?_))))
 refine J_draw [⟨0, [1], true⟩, ⟨1, [3], true⟩, ⟨2, [6], true⟩, ⟨3, [2], true⟩, ⟨4, [5, 7, 8], true⟩, ⟨5, [3], true⟩, ⟨6, [10], true⟩, ⟨7, [1], true⟩, ⟨8, [3], true⟩, ⟨9, [13], true⟩, ⟨10, [2], true⟩, ⟨11, [12, 14, 15], true⟩, ⟨12, [3], true⟩, ⟨13, [17], true⟩, ⟨14, [9, 11, 16, 18], true⟩, ⟨15, [19], true⟩, ⟨16, [20], true⟩] rfl (by kernel_rfl) ?_
 refine Mf rfl rfl (step_load_ptr ty165V Sr) (Mf rfl rfl (step_fieldAddr so93 Sr rfl) (Mf rfl rfl (step_load_ptr ty91 Sr) (Mf rfl rfl (step_load_ptr ty45 Sr) (Mf rfl rfl (step_callv0 (aT := [_, _]) (As := []) (Sub.trans Sub.ofRV Sub.clo0) (ofS_spec _ _ (h1)) ⟨Sr, Sr, trivial⟩ call118) (Mf rfl rfl (step_fieldAddr so93 Sr rfl) ?_)))))
 refine Mf rfl rfl (step_load_ptr ty3 Sr) (Mf rfl rfl (step_load_ptr ty165V Sr) (Mf rfl rfl (step_fieldAddr so93 Sr rfl) (Mf rfl rfl (step_load_ptr ty91 Sr) (Mf rfl rfl (step_load_ptr ty45 Sr) (Mf rfl rfl (step_callv0 (aT := [_, _]) (As := []) (Sub.trans Sub.ofRV Sub.clo0) (ofS_spec _ _ (h2)) ⟨Sr, Sr, trivial⟩ call118) ?_)))))
 refine Mf rfl rfl (step_fieldAddr so93 Sr rfl) (Mf rfl rfl (step_load_ptr ty3 Sr) (Mf rfl rfl (step_call0 (Test_spec _ _ _ _) ⟨Sr, Sr, Sr, Sr, trivial⟩ call106) (Mf rfl rfl (step_not Sr) (Mf rfl rfl (step_assign Sr) (JM_nil ?_)))))
 refine J_ret ?_
 exact K_ret1 (t := 4) rfl () Sr
theorem selRF_spec (n : Nat) (p : GPlan) (row : LV) (hl : p.Tests.length ≤ 1000) (ht : TestsOk p.Tests row.length) : Fun1 prog 120 [tSl rValue row, tPtr (rPlan (n + 1)) p, tPtr rV (.func (.func 118) #[] #[])] (tV (.bool (selB p.Tests row))) := by
 refine Spec.enter func120 rfl rfl fun h0 w0 fr0 => ?_
 refine Jr (Js rfl (step_box (R := (rSl rValue)) Sr) (Ja rfl (JL_nil (Jr (Js rfl (step_fieldAddr so30 Sr rfl) ?_)))))
 refine Jl rfl ty26 Sr (Js rfl (step_makeFunc (As := [_, _]) ⟨Sr, Sr, trivial⟩) ?_)
 refine Js rfl (step_call0 (ContainsFuncT_spec _ (by show p.Tests.length ≤ _; omega) 121 [tPtr rV (.func (.func 118) #[] #[]), tPtr (rSl rValue) row] (fun t => !tstV t row) (fun t hm => selRT_spec t row (ht t hm).1 (ht t hm).2) call121) ⟨Sr, Sr, trivial⟩ call115) ?_
 refine Ja rfl (JL_nil (J_ret ?_))
 exact K_ret1 (t := 4) rfl () Sr
theorem evSel_spec (e : Gev) (n : Nat) (p : GPlan) (l : List (List LV)) (h0 : 0 < l.length) (hl : (nth l 0).length ≤ 1000000000) (hn : p.Tests.length ≤ 1000) (ht : ∀ r ∈ nth l 0, TestsOk p.Tests r.length) : Fun1 prog 68 [tPtr rev e, (rPlan (n + 1)).ty p, tSl (rSl (rSl rValue)) l] (tSl (rSl rValue) (selR p.Tests (nth l 0))) := by
 refine Spec.enter func68 rfl rfl fun h0 w0 fr0 => ?_
 refine Jr (Js rfl (step_box (R := (rPlan (n + 1))) Sr) (Ja rfl (JL_nil (Jr ?_))))
 refine Jx rfl (step_alloc (R := rV) (z := Value.nilFunc) (fun w => zeroValue165 w) (fun _ => ⟨rfl, rfl⟩)) fun b7 => ?_
 refine Ju (step_store_box (R := rV) ty165V Sr (Sub.rV rfl) zS) fun _ => ?_
 refine JL_nil ?_
 refine K_freeze (t := 7) zS Frz.box ?_
 refine Jr (Jm rfl ?_)
 refine Js rfl (step_indexAddr_sl (i := 0) underlying35 ty38 Sr Sr (by rfl) (gb zG)) ?_
 refine Jl rfl ty38 Sr ?_
 refine Jx rfl (step_call (Sel.none _) (CloneRows_spec _ hl) ⟨Sr, trivial⟩ call54) fun v11 => ?_
 refine Js rfl (step_makeFunc (As := [_, _]) ⟨Sr, Sr, trivial⟩) ?_
 refine Jx rfl (step_call zS (DeleteRows_spec v11 (nth l 0) hl 120 [tPtr (rPlan (n + 1)) p, tPtr rV (.func (.func 118) #[] #[])] (selB p.Tests) (fun x hx => selRF_spec n p x hn (ht x hx)) call120) ⟨Sr, Sr, trivial⟩ call119) fun v13 => ?_
 refine Ja rfl (JL_nil (J_ret ?_))
 refine K_ret1' (rv := .tmp 6) rfl () (Sel.take (Sel.none _)) (.tmp Sr) Frz.own
open Go Go.Proofs Go.Proofs.Tryz
theorem nth_bd {l : List LV} {n : Nat} (h : ∀ r ∈ l, r.length ≤ n) (i : Nat) : (nth l i).length ≤ n := by
  by_cases hi : i < l.length
  · exact h _ (nth_mem hi)
  · rw [nth_out (by omega)]; exact Nat.zero_le _
/-- Strictly in order. -/
def StrR (l : List LV) : Prop := l.Pairwise fun a b => cmpR a b < 0
theorem StrR.nth {l : List LV} (h : StrR l) {i j : Nat} (hij : i < j) (hj : j < l.length) : cmpR (Lg.nth l i) (Lg.nth l j) < 0 := by
  have := List.pairwise_iff_getElem.1 h i j (by omega) hj hij
  rwa [nth_get (by omega), nth_get hj]
structure BSr (l : List LV) (r : LV) (i : Nat) : Prop where
  le : i ≤ l.length
  lo : ∀ t, t < i → cmpR (nth l t) r < 0
  hi : ∀ t, i ≤ t → t < l.length → ¬ cmpR (nth l t) r < 0
theorem BSr.mem {l : List LV} {r : LV} {i : Nat} (h : BSr l r i) (hs : StrR l) : r ∈ l ↔ i < l.length ∧ cmpR (nth l i) r = 0 := by
  constructor
  · intro hm
    obtain ⟨t, ht, e⟩ := List.getElem_of_mem hm
    rw [← nth_get ht] at e
    have h0 : cmpR (nth l t) r = 0 := c3_R.eq.2 e
    have h1 : i ≤ t := Classical.byContradiction fun q => by have := h.lo t (by omega); omega
    have h2 : t = i := Classical.byContradiction fun q => by
      have h3 := hs.nth (i := i) (j := t) (by omega) ht
      rw [e] at h3
      exact h.hi i (Nat.le_refl _) (by omega) h3
    subst h2; exact ⟨ht, h0⟩
  · rintro ⟨h1, h2⟩
    rw [← c3_R.eq.1 h2]; exact nth_mem h1
section
variable {C : Cx} {E : Env} {L : List SP} {d : Option Nat} {ty : Nat} {pos : String} {af : Array Edge} {g : Option (Nat × Bool)}
/-- Half of an unsigned number. -/
theorem step_half {T U : Nat} {x y : Operand} {yk : IntKind} {n : Nat} (hx : Sub (opTy E x) (tV (.int .u64 n))) (hy : Sub (opTy E y) (tV (.int yk 1))) :
    Step1 C ⟨d, .binOp .shr T x y U, ty, pos, af, g⟩ E L (tV (.int .u64 ((n / 2 : Nat) : Int))) := step_shift (.inr rfl) hx hy (fun P w => by
  have e := shift_shr .u64 yk n 1 (by omega) (by decide)
  rw [e]; simp)
end
/-- The rows of a difference. -/
def minR (a b : List LV) : List LV := delA (fun r => decide (r ∈ b)) a
set_option maxHeartbeats 1000000 in
theorem BinR_spec (l : List LV) (r : LV) (hs : StrR l) (hl : l.length ≤ 1000000000) (hr : ∀ x ∈ l, x.length ≤ 4398046511104) (hx : r.length ≤ 4398046511104) : Spec (X := Nat) prog 168 [tSl (rSl rValue) l, tSl rValue r, tV (.func (.func 56) #[] #[])] ([]) (fun i => tTup [tV (.int .i64 (i : Int)), tV (.bool (decide (r ∈ l)))]) (fun i => []) := by
 refine Spec.enter func168 rfl rfl fun h0 w0 fr0 => ?_
 refine Jr (Ja rfl (Ja rfl (JL_nil (Jr (Jm rfl ?_)))))
 refine Js rfl (step_len_sl underlying38 Sr) (Ja rfl (JL_nil (Jr (Jm rfl (Ja rfl ?_)))))
 refine Ja rfl (JL_nil (J_seq (J_block ?_)))
 refine J_loopL (σ := Nat × Nat) (fun ⟨i, j⟩ => i ≤ j ∧ j ≤ l.length ∧ (∀ t, t < i → cmpR (nth l t) r < 0) ∧ ∀ t, j ≤ t → t < l.length → ¬ cmpR (nth l t) r < 0) (fun ⟨i, j⟩ => upd (upd (upd (upd (upd (upd (upd (upd env0 0 (tSl (rSl rValue) l)) 1 (tSl rValue r)) 2 (tV (.func (.func 56) #[] #[]))) 6 (tV (.int .i64 0))) 7 (tV (.bool false))) 8 (tV (.int .i64 l.length))) 9 (tV (.int .i64 i))) 10 (tV (.int .i64 j))) (fun ⟨i, j⟩ => []) (fun ⟨i, j⟩ => j - i) (0, l.length) ⟨Nat.zero_le _, Nat.le_refl _, fun t h => by omega, fun t h1 h2 => by omega⟩ (zU) (LSub.rfl) ?_
 rintro ⟨i, j⟩ ⟨hi, hj, hlo, hhi⟩
 refine J_seq (Jr (Jm rfl (Jm rfl (Js rfl (step_lss Sr Sr) (JL_nil ?_)))))
 refine J_cond Sr (fun h17 => ?_) (fun h17 => ?_)
 ·
  try simp only [NF] at h17
  have hij : i < j := by omega
  have hml : ((i + j) / 2) < l.length := by omega
  refine J_skip (J_block (Jr (Jm rfl (Jm rfl (Js rfl (step_add Sr Sr z6) ?_)))))
  refine Js rfl (step_convert_int (m := ((i + j : Nat) : Int)) underlying3 underlying157 Sr (by simp [IntKind.wrap, IntKind.bits, IntKind.signed]; omega)) ?_
  refine Js rfl (step_half Sr Sr) ?_
  refine Js rfl (step_convert_int (m := (((i + j) / 2 : Nat) : Int)) underlying157 underlying3 Sr (by simp [IntKind.wrap, IntKind.bits, IntKind.signed]; omega)) ?_
  refine Ja rfl (JL_nil (Jr (Jm rfl (Jm rfl (Jm rfl ?_)))))
  refine Js rfl (step_indexAddr_sl (i := ((i + j) / 2)) underlying38 ty45 Sr Sr zG (gb (by show ((i + j) / 2) < l.length; omega))) ?_
  refine Jl rfl ty45 Sr (Jm rfl (Js rfl (step_callv0 (aT := [_, _]) Sub.clo0 (CompareRows_spec (nth l ((i + j) / 2)) r (nth_bd hr _) hx) ⟨Sr, Sr, trivial⟩ call56) (Js rfl (step_lss Sr Sr) (JL_nil ?_))))
  refine J_cond Sr (fun h31 => ?_) (fun h31 => ?_)
  ·
   try simp only [NF] at h31
   refine J_region (Jm rfl (Js rfl (step_add Sr Sr z6) (Ja rfl (JL_nil ?_))))
   refine K_againL (σ := Nat × Nat) (s := (i, j)) (((i + j) / 2) + 1, j) zO ?_ (.u (SubE.upd (Sub.int (by first | omega | (push_cast; omega))) (zU))) (LSub.rfl)
   refine ⟨by omega, hj, fun t ht => ?_, hhi⟩
   by_cases e : t = (i + j) / 2
   ·
    subst e; exact h31
   have h1 := hs.nth (i := t) (j := (i + j) / 2) zG hml
   exact c3_R.tr h1 h31
  try simp only [NF] at h31
  refine J_region (Jm rfl (Ja rfl (JL_nil ?_)))
  refine K_againL (σ := Nat × Nat) (s := (i, j)) (i, ((i + j) / 2)) zO ?_ (zU) (LSub.rfl)
  refine ⟨by omega, by omega, hlo, fun t ht htl => ?_⟩
  by_cases e : t = (i + j) / 2
  ·
   subst e; omega
  intro q
  have := c3_R.tr (hs.nth (i := (i + j) / 2) (j := t) zG htl) q
  omega
 try simp only [NF] at h17
 have hije : i = j := by omega
 subst hije
 have hbs : BSr l r i := ⟨hj, hlo, hhi⟩
 refine J_exit (Jr (Jm rfl (Jm rfl (Jm rfl (Js rfl (step_lss Sr Sr) ?_)))))
 refine Jm rfl ?_
 refine Jk rfl Sr rfl (step_move Sr) ?_
 refine Jk rfl Sr rfl (step_move Sr) ?_
 refine Jk rfl Sr rfl (step_move Sr) ?_
 refine Jg rfl Sr rfl (fun hw => step_indexAddr_sl (i := i) underlying38 ty45 (Sub.w hw) (Sub.w hw) (by rfl) (gb (by have hwq := hw; (try simp only [beqB_t, beqB_f, NF] at hwq); show i < l.length; omega))) ?_
 refine Jg rfl Sr rfl (fun hw => step_load_ptr ty45 (Sub.w hw)) ?_
 refine Jk rfl Sr rfl (step_move Sr) ?_
 refine Jg rfl Sr rfl (fun hw => step_callv0 (aT := [_, _]) (Sub.trans (Sub.w hw) Sub.clo0) (CompareRows_spec (nth l i) r (nth_bd hr _) hx) ⟨(Sub.w hw), (Sub.w hw), trivial⟩ call56) (Jg rfl Sr rfl (fun hw => step_eql (Sub.w hw) Sr) (Js rfl (step_pick_and Sr Sr) (Ja rfl (Ja rfl (JL_nil ?_)))))
 refine J_ret ?_
 refine K_ret2' (rv := .tmp 6) (rv' := .tmp 7) rfl i (Sel.all _) (.tmp Sr) (.tmp Sr) (Frz.sub Sr) (Frz.sub (Sub.bool ?_)) Sr
 rw [Bool.eq_iff_iff, decide_eq_true_eq, hbs.mem hs]
 simp
theorem inR_spec (l : List LV) (r : LV) (hs : StrR l) (hl : l.length ≤ 1000000000) (hr : ∀ x ∈ l, x.length ≤ 4398046511104) (hx : r.length ≤ 4398046511104) : Fun1 prog 129 [tSl (rSl rValue) l, tSl rValue r] (tV (.bool (decide (r ∈ l)))) := by
 refine Spec.enter func129 rfl rfl fun h0 w0 fr0 => ?_
 refine Jr (Ja rfl (JL_nil (Jr (Jm rfl (Jm rfl ?_)))))
 refine Jx rfl (step_call (Sel.none _) (BinR_spec l r hs hl hr hx) ⟨Sr, Sr, Sr, trivial⟩ call168) fun i10 => ?_
 refine Jm rfl (Js rfl (step_extract Sr rfl) (Js rfl (step_extract Sr rfl) (Ja rfl (Ja rfl (JL_nil ?_)))))
 refine Jr (Jm rfl (Ja rfl (JL_nil (J_ret ?_))))
 exact K_ret1 (t := 4) rfl () Sr
theorem minF_spec (l : List (List LV)) (row : LV) (h1 : 1 < l.length) (hs : StrR (nth l 1)) (hl : (nth l 1).length ≤ 1000000000) (hr : ∀ x ∈ nth l 1, x.length ≤ 4398046511104) (hx : row.length ≤ 4398046511104) : Fun1 prog 128 [tSl rValue row, tPtr (rSl (rSl (rSl rValue))) l] (tV (.bool (decide (row ∈ nth l 1)))) := by
 refine Spec.enter func128 rfl rfl fun h0 w0 fr0 => ?_
 refine Jr (Ja rfl (JL_nil (Jr (Jl rfl ty35 Sr ?_))))
 refine Js rfl (step_indexAddr_sl (i := 1) underlying35 ty38 Sr Sr (by rfl) (gb (by exact h1))) ?_
 refine Jl rfl ty38 Sr (Jm rfl (Js rfl (step_call0 (inR_spec _ _ hs hl hr hx) ⟨Sr, Sr, trivial⟩ call129) (Ja rfl (JL_nil (J_ret ?_)))))
 exact K_ret1 (t := 3) rfl () Sr
theorem evMin_spec (e : Gev) (n : Nat) (p : GPlan) (l : List (List LV)) (h1 : 1 < l.length) (hl0 : (nth l 0).length ≤ 1000000000) (hs : StrR (nth l 1)) (hl : (nth l 1).length ≤ 1000000000) (hr0 : ∀ x ∈ nth l 0, x.length ≤ 4398046511104) (hr : ∀ x ∈ nth l 1, x.length ≤ 4398046511104) : Fun1 prog 76 [tPtr rev e, (rPlan (n + 1)).ty p, tSl (rSl (rSl rValue)) l] (tSl (rSl rValue) (minR (nth l 0) (nth l 1))) := by
 refine Spec.enter func76 rfl rfl fun h0 w0 fr0 => ?_
 refine Jr (Js rfl (step_box (R := (rPlan (n + 1))) Sr) (Js rfl (step_box (R := (rSl (rSl (rSl rValue)))) Sr) (Ja rfl (JL_nil (Jr ?_)))))
 refine Jl rfl ty35 Sr ?_
 refine Js rfl (step_indexAddr_sl (i := 0) underlying35 ty38 Sr Sr (by rfl) (gb zG)) ?_
 refine Jl rfl ty38 Sr ?_
 refine Jx rfl (step_call (Sel.none _) (CloneRows_spec _ hl0) ⟨Sr, trivial⟩ call54) fun v10 => ?_
 refine Js rfl (step_makeFunc (As := [_]) ⟨Sr, trivial⟩) ?_
 refine Jx rfl (step_call zS (DeleteRows_spec v10 (nth l 0) hl0 128 [tPtr (rSl (rSl (rSl rValue))) l] (fun r => decide (r ∈ nth l 1)) (fun x hx => minF_spec l x h1 hs hl hr (hr0 x hx)) call128) ⟨Sr, Sr, trivial⟩ call119) fun v12 => ?_
 refine Ja rfl (JL_nil (J_ret ?_))
 refine K_ret1' (rv := .tmp 6) rfl () (Sel.take (Sel.none _)) (.tmp Sr) Frz.own
theorem evUni_spec (e : Gev) (n : Nat) (p : GPlan) (l : List (List LV)) (h1 : 1 < l.length) (hl : (nth l 0).length + (nth l 1).length ≤ 1000000) : Fun1 prog 75 [tPtr rev e, (rPlan (n + 1)).ty p, tSl (rSl (rSl rValue)) l] (tSl (rSl rValue) (nth l 0 ++ nth l 1)) := by
 refine Spec.enter func75 rfl rfl fun h0 w0 fr0 => ?_
 refine Jr (Js rfl (step_box (R := (rPlan (n + 1))) Sr) (Ja rfl (JL_nil (J_seq ?_))))
 refine J_draw [⟨0, [2], true⟩, ⟨1, [7], true⟩, ⟨2, [8], true⟩, ⟨3, [2], true⟩, ⟨4, [10], true⟩, ⟨5, [11], true⟩, ⟨6, [9, 12], true⟩, ⟨7, [13], false⟩, ⟨8, [14], true⟩] rfl (by kernel_rfl) ?_
 refine Mv rfl rfl ?_
 refine Mf rfl rfl (step_indexAddr_sl (i := 0) underlying35 ty38 Sr Sr (by rfl) (gb zG)) ?_
 refine Mf rfl rfl (step_load_ptr ty38 Sr) (Mv rfl rfl ?_)
 refine Mf rfl rfl (step_indexAddr_sl (i := 1) underlying35 ty38 Sr Sr (by rfl) (gb zG)) ?_
 refine Mf rfl rfl (step_load_ptr ty38 Sr) ?_
 refine Mf rfl rfl (step_literal (ys := [_, _]) underlying35 el38 ⟨rfl, Sr, rfl, Sr, trivial⟩ rfl (by decide)) ?_
 refine JM_stepX rfl rfl rfl rfl (step_call (Sel.none _) (ConcatR_spec [nth l 0, nth l 1] (by simp) (by simpa using hl)) ⟨Sr, trivial⟩ call127) fun v14 => ?_
 refine Mf rfl rfl (step_assign Sr) (JM_nil (J_ret ?_))
 refine K_ret1' (rv := .tmp 6) rfl () (Sel.take (Sel.none _)) (.tmp Sr) (Frz.own' (by simp))
theorem evRen_spec (e : Gev) (n : Nat) (p : GPlan) (l : List (List LV)) (h0 : 0 < l.length) : Fun1 prog 78 [tPtr rev e, (rPlan (n + 1)).ty p, tSl (rSl (rSl rValue)) l] (tSl (rSl rValue) (nth l 0)) := by
 refine Spec.enter func78 rfl rfl fun h0 w0 fr0 => ?_
 refine Jr (Js rfl (step_box (R := (rPlan (n + 1))) Sr) (Ja rfl (JL_nil (Jr (Jm rfl ?_)))))
 refine Js rfl (step_indexAddr_sl (i := 0) underlying35 ty38 Sr Sr (by rfl) (gb zG)) ?_
 refine Jl rfl ty38 Sr (Ja rfl (JL_nil (J_ret ?_)))
 exact K_ret1 (t := 6) rfl () Sr
set_option maxHeartbeats 1000000 in
theorem evProj_spec (e : Gev) (n : Nat) (p : GPlan) (l : List (List LV)) (h0 : 0 < l.length) (hl : (nth l 0).length ≤ 1000000) (hc : p.Cols.length ≤ 1000) : Fun1 prog 71 [tPtr rev e, (rPlan (n + 1)).ty p, tSl (rSl (rSl rValue)) l] (tSl (rSl rValue) (projR p.Cols (nth l 0))) := by
 refine Spec.enter func71 rfl rfl fun h0 w0 fr0 => ?_
 refine Jr (Js rfl (step_box (R := (rPlan (n + 1))) Sr) (Ja rfl (JL_nil (Jr (Ja rfl ?_)))))
 refine JL_nil (J_seq (Jr (Jm rfl ?_)))
 refine Js rfl (step_indexAddr_sl (i := 0) underlying35 ty38 Sr Sr (by rfl) (gb zG)) ?_
 refine Jl rfl ty38 Sr (Js rfl (step_len_sl underlying38 Sr) (Jm rfl (JL_nil (J_block ?_))))
 refine J_loopL (σ := Nat × Value) (fun ⟨i, vo⟩ => i ≤ (nth l 0).length) (fun ⟨i, vo⟩ => upd (upd (upd (upd (upd (upd env0 4 (tPtr (rPlan (n + 1)) p)) 6 (tV (.slice none 0 0))) 7 (rV.ty vo)) 14 (tSl (rSl rValue) (nth l 0))) 15 (tV (.int .i64 (nth l 0).length))) 16 (tV (.int .i64 i))) (fun ⟨i, vo⟩ => [own 45 (rSl rValue) vo (projR p.Cols ((nth l 0).take i))]) (fun ⟨i, vo⟩ => (nth l 0).length - i) (0, .slice none 0 0) (by exact Nat.zero_le _) (.u (.u (.u (SubE.upd (Sub.rV rfl) (zU))))) (LSub.nilown) ?_
 rintro ⟨i, vo⟩ hi
 try dsimp only at hi
 refine Jr (Js rfl (step_lss Sr Sr) (JL_nil (J_seq ?_)))
 refine J_cond Sr (fun h17 => ?_) (fun h17 => ?_)
 ·
  try simp only [NF] at h17
  have hlt : i < (nth l 0).length := by omega
  refine J_skip (J_seq (J_block (Jr ?_)))
  refine Js rfl (step_indexAddr_sl (i := i) underlying38 ty45 Sr Sr (by rfl) (gb (by exact hlt))) ?_
  refine Jl rfl ty45 Sr (Ja rfl (JL_nil (Jr (Jm rfl (Js rfl (step_fieldAddr so30 Sr rfl) ?_)))))
  refine Jl rfl ty27 Sr ?_
  refine Jx rfl (step_call (Sel.none _) (pickV_spec (nth (nth l 0) i) p.Cols zG) ⟨Sr, Sr, trivial⟩ call123) fun v24 => ?_
  refine Jm rfl (Js rfl (step_extract Sr rfl) (Js rfl (step_extract Sr rfl) (Ja rfl (Ja rfl (JL_nil ?_)))))
  refine J_region ?_
  refine JL_freeze (t := 10) (A' := tSl rValue (pickW (nth (nth l 0) i) p.Cols)) (Sel.take (Sel.none _)) Frz.own ?_
  refine Jm rfl (Jm rfl ?_)
  refine Js rfl (step_literal (ys := [_]) underlying38 el45 ⟨rfl, Sr, trivial⟩ rfl (by decide)) ?_
  refine Jx rfl (step_append underlying38 el45 Sr Sr zS (by simp [projR]; omega) (by simp [projR]; omega)) fun v30 => ?_
  refine Ja rfl (JL_nil (J_region (Js rfl (step_add Sr Sr z6) (Jm rfl (JL_nil ?_)))))
  refine K_againL (σ := Nat × Value) (s := (i, vo)) (i + 1, v30) zO (by show i + 1 ≤ _; omega) (zU) (.c zS (SPs.of (A := own 45 (rSl rValue) v30 ((projR p.Cols ((nth l 0).take i)) ++ [(pickW (nth (nth l 0) i) p.Cols)])) (by rw [takeB hlt]; simp [projR])) (LSub.nil))
 try simp only [NF] at h17
 obtain rfl : i = (nth l 0).length := by omega
 refine J_exit (Jr (Jm rfl (Ja rfl (JL_nil (J_ret ?_)))))
 refine K_ret1' (rv := .tmp 6) rfl () (Sel.take (Sel.none _)) (.tmp Sr) (Frz.own' (by rw [List.take_length]))
end Lg
