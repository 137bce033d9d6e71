/- A part of the proof of the law PlannerSelections: contracts of functions that the law reaches, and facts about what they compute. -/
import Derived.Test.YtgaclpkapapjdaaGreatDoorD
import Derived.Lib.SliceRun
import Derived.Shelf.SlSortCmp.NoneTotal
set_option linter.unusedVariables false
set_option linter.unusedSimpArgs false
set_option linter.unusedSectionVars false
namespace Lg
open Go Go.Proofs Go.Proofs.Tryz
theorem ty298 : TyOf prog 298 rV := ⟨fun w => isAgg298 w, fun w => sizeOf298 w⟩
theorem el298 : ElT prog 298 rV 8 (.pointer none) := ⟨ty298, by decide, t298, (Value.pointer none), by kernel_rfl, by kernel_rfl, by kernel_rfl, by kernel_rfl, fun _ => ⟨rfl, rfl⟩⟩
theorem args2 {h : PH} {A B : Ty} {vs : List Value} (ha : Args h [A, B] vs) : ∃ v1 v2, vs = [v1, v2] ∧ A.p h v1 ∧ B.p h v2 := by
  rcases vs with _ | ⟨v1, _ | ⟨v2, _ | ⟨v3, vs⟩⟩⟩
  · exact ha.elim
  · exact ha.2.elim
  · exact ⟨v1, v2, rfl, ha.1, ha.2.1⟩
  · exact ha.2.2.elim
theorem args3 {h : PH} {A B D : Ty} {vs : List Value} (ha : Args h [A, B, D] vs) : ∃ v1 v2 v3, vs = [v1, v2, v3] ∧ A.p h v1 ∧ B.p h v2 ∧ D.p h v3 := by
  rcases vs with _ | ⟨v1, vs⟩
  · exact ha.elim
  · obtain ⟨v2, v3, rfl, h2, h3⟩ := args2 (A := B) (B := D) ha.2
    exact ⟨v1, v2, v3, rfl, ha.1, h2, h3⟩
theorem Fun1.ex {ι : Type} {P : Program} {f : Nat} {As : List Ty} {R : Ty} (A' : ι → List Ty) (R' : ι → Ty) (hE : ∀ (vs : List Value) (h : PH), Args h As vs → ∃ i, Args h (A' i) vs ∧ Fun1 P f (A' i) (R' i) ∧ Sub (R' i) R) : Fun1 P f As R := fun vs h m r w ha sp st => by
  obtain ⟨i, ha', hs, hR⟩ := hE vs h ha
  refine (hs vs h m r w ha' sp st).mono ?_
  rintro e w' ⟨x', v, h', m', he, l, s, st', hv⟩
  exact ⟨x', v, h', m', he, l, s, st', hR _ _ hv⟩
theorem makeE_spec (x : Gplanner) (p : GPlan) (ks : List Gnode) (hm : MkOk x p ks) : Fun1 prog 146 [rplanner.ty x, rPlS.ty p, tSl rnodeE ks] (rnodeE.ty (makeM x p ks)) :=
  Fun1.ex (ι := Nat × Nat) (fun i => [rplanner.ty x, (rPlan (i.1 + 1)).ty p, tSl (rnode i.2) ks]) (fun i => (rnode (i.2 + 1)).ty (makeM x p ks)) fun vs h ha => by
    obtain ⟨v1, v2, v3, rfl, a1, a2, a3⟩ := args3 ha
    obtain ⟨n0, a2⟩ := plS_ex a2
    have hpos : ∃ m0, n0 = m0 + 1 := by
      obtain ⟨cs, r, _⟩ := (rPlan n0).iff.1 a2
      exact rPl_pos cPl rAttr rTest r
    obtain ⟨m0, rfl⟩ := hpos
    obtain ⟨n, a3⟩ := nslE_ex a3
    exact ⟨(m0, n), ⟨a1, a2, a3, trivial⟩, make_spec x m0 n p ks hm, Sub.ne⟩
theorem wholeE_spec (x : Gplanner) (p : GPlan) (he : EOkE x p) : Fun1 prog 93 [rplanner.ty x, rPlS.ty p] (rnodeE.ty (wholeE x p)) :=
  Fun1.ex (ι := Nat) (fun n => [rplanner.ty x, (rPlan n).ty p]) (fun n => (rnode n).ty (wholeM x n p)) fun vs h ha => by
    obtain ⟨v1, v2, rfl, a1, a2⟩ := args2 ha
    obtain ⟨n, a2⟩ := plS_ex a2
    have hd : Dep n p := ty_dep a2
    refine ⟨n, ⟨a1, a2, trivial⟩, whole_spec x n p (eok_dep x (dep_dep p) hd he), ?_⟩
    rw [← wholeE_of hd]; exact Sub.ne
/-! ### A test in its cells -/
def testCells (t : GTest) : List Value := [.int .i64 t.Left.Var, .int .i64 t.Left.Col, .int .i64 t.Left.Value.Kind, .int .i64 t.Left.Value.N, .string t.Left.Value.Text, .int .i64 t.Op, .int .i64 t.Right.Var, .int .i64 t.Right.Col, .int .i64 t.Right.Value.Kind, .int .i64 t.Right.Value.N, .string t.Right.Value.Text, .int .i64 t.Add]
theorem test_cells {h : PH} {t : GTest} {cs : List Value} (r : rTest.rel h t cs) : cs = testCells t := by
  obtain ⟨c0, _, rfl, r0, c1, _, rfl, r1, c2, _, rfl, r2, c3, _, rfl, r3, rz⟩ := r
  have r1 : c1 = [.int .i64 t.Op] := r1
  have r3 : c3 = [.int .i64 t.Add] := r3
  rw [show c0 = _ from side_cells r0, show c2 = _ from side_cells r2]
  subst r1 r3; rw [show _ = [] from rz]; rfl
theorem val_rel (h : PH) (x : GValue) : rValue.rel h x [.int .i64 x.Kind, .int .i64 x.N, .string x.Text] := ⟨[_], _, rfl, rfl, [_], _, rfl, rfl, [_], _, rfl, rfl, rfl⟩
theorem side_rel (h : PH) (x : GSide) : rSide.rel h x [.int .i64 x.Var, .int .i64 x.Col, .int .i64 x.Value.Kind, .int .i64 x.Value.N, .string x.Value.Text] := ⟨[_], _, rfl, rfl, [_], _, rfl, rfl, [_, _, _], _, rfl, val_rel h x.Value, rfl⟩
theorem test_rel (h : PH) (t : GTest) : rTest.rel h t (testCells t) := ⟨[_, _, _, _, _], _, rfl, side_rel h t.Left, [_], _, rfl, rfl, [_, _, _, _, _], _, rfl, side_rel h t.Right, [_], _, rfl, rfl, rfl⟩
section
variable {C : Cx} {E : Env} {L : List SP} {d : Option Nat} {ty : Nat} {pos : String} {af : Array Edge} {g : Option (Nat × Bool)}
theorem step_load_tc {T U b o : Nat} {x : Operand} {t : GTest} {n : Int} {S : List SP} (hR : TyOf C.P T rInt) (hx : Sub (opTy E x) (tAt b o)) (sel : Sel L [box b U rTest t] S) (hv : (testCells t)[o]? = some (.int .i64 n)) :
    Step1 C ⟨d, .load T x, ty, pos, af, g⟩ E L (tV (.int .i64 n)) :=
  Step.of_run (by intro c h; cases h) fun a w h m l sp st fr => by
    obtain ⟨m1, m2, d12, rfl, ⟨cs, r, rfl⟩, s2⟩ := sel.one.1 st
    have hb := sp.heap_own
    rw [test_cells r] at hb
    have := run_loadVar_cells (P := C.P) (T := T) (b := b) (o := o) (w := w) (cs := [.int .i64 n]) (k := 1) (g := false) hR.agg hR.size rfl (fun _ => rfl) (fun i v hv' => by
      rw [inw_cells (h := h) hb]
      cases i with
      | zero => simp at hv'; subst hv'; simpa using hv
      | succ i => simp at hv')
    refine ⟨(), .int .i64 n, w, h, _, ?_, HL.refl, sp, st, rfl⟩
    have hp : a.eval x = .pointer (some ⟨b, o, none⟩) := fr.get hx
    simp [execOp, Instr.loadAt, Instr.sureAddr, hp, this, packV]
theorem step_store_tc {T U b o : Nat} {x u : Operand} {t t' : GTest} {z : Int} {S : List SP} (hR : TyOf C.P T rInt) (hx : Sub (opTy E x) (tAt b o)) (hv : Sub (opTy E u) (tV (.int .i64 z))) (sel : Sel L [box b U rTest t] S) (ho : o < 12) (ht : testCells t' = (testCells t).set o (.int .i64 z)) :
    Step C ⟨d, .store T x u, ty, pos, af, g⟩ E L (fun _ : Unit => tAny) (fun _ => box b U rTest t' :: S) :=
  Step.of_skip (by intro c h; cases h) fun a w h m l sp st fr => by
    obtain ⟨m1, m2, d12, rfl, ⟨cs, r, rfl⟩, s2⟩ := sel.one.1 st
    have hb := sp.heap_own
    have hc := test_cells r
    subst hc
    have hz : a.eval u = .int .i64 z := fr.get hv
    have hp : a.eval x = .pointer (some ⟨b, o, none⟩) := fr.get hx
    have hlen : (testCells t).length = 12 := rfl
    have h1 : ∀ v ∈ (a.eval u).cells.toList, v.oneCell' = true := by
      rw [hz]; intro v hv'
      have : v = .int .i64 z := by simpa [Value.cells] using hv'
      subst this; rfl
    obtain ⟨w', hrun, hoth, hsame, hnew⟩ := run_storeVar_cells (P := C.P) (b := b) (o := o) (v := a.eval u) (k := 1) hR.size (by rw [hz]; rfl) hb (by simp [hlen]; omega) (h1)
    refine ⟨(), w', h, (PH.one b (.cells (testCells t').toArray U (0, 0))).join m2, ?_, HL.same hsame, Sep.write d12 sp (fun b' hne _ => hoth b' hne) ?_, ?_⟩
    · simp [execOp, Instr.storeAt, Instr.sureAddr, hp, hrun]
    · rw [hnew, ht, hz]
      congr 3
      have : (Value.int IntKind.i64 z).cells.toList = [Value.int IntKind.i64 z] := rfl
      rw [this]
      show (testCells t).take o ++ [_] ++ (testCells t).drop (o + 1) = _
      rw [List.set_eq_take_append_cons_drop, if_pos (by rw [hlen]; exact ho), List.append_assoc]; rfl
    · exact ⟨_, m2, PH.one_disj_iff.2 (PH.one_disj_iff.1 d12), rfl, ⟨_, test_rel h t', rfl⟩, s2⟩
end
/-! ### Moving, side by side -/
def sideAt (t : GTest) (i : Nat) : GSide := if i = 0 then t.Left else t.Right
def offS (i : Nat) : Nat := if i = 0 then 0 else 6
def mvI (pl : Int → Int) (t : GTest) (i : Nat) : GTest := if i = 0 then t else if i = 1 then { t with Left := moveS pl t.Left } else moveT pl t
def okI (pl : Int → Int) (t : GTest) (i : Nat) : Bool := if i = 0 then true else if i = 1 then okS pl t.Left else okT pl t
theorem mv_side {pl : Int → Int} {t : GTest} {i : Nat} (hi : i < 2) : sideAt (mvI pl t i) i = sideAt t i := by
  rcases (by omega : i = 0 ∨ i = 1) with rfl | rfl <;> rfl
theorem mv_var {pl : Int → Int} {t : GTest} {i : Nat} (hi : i < 2) : (testCells (mvI pl t i))[offS i]? = some (.int .i64 (sideAt t i).Var) := by
  rcases (by omega : i = 0 ∨ i = 1) with rfl | rfl <;> rfl
theorem mv_col {pl : Int → Int} {t : GTest} {i : Nat} (hi : i < 2) : (testCells (mvI pl t i))[offS i + 1]? = some (.int .i64 (sideAt t i).Col) := by
  rcases (by omega : i = 0 ∨ i = 1) with rfl | rfl <;> rfl
theorem mv_next {pl : Int → Int} {t : GTest} {i : Nat} (hi : i < 2) (hv : (sideAt t i).Var = 0) : testCells (mvI pl t (i + 1)) = (testCells (mvI pl t i)).set (offS i + 1) (.int .i64 (pl (sideAt t i).Col)) ∧ (testCells (mvI pl t (i + 1)))[offS i + 1]? = some (.int .i64 (pl (sideAt t i).Col)) ∧ okI pl t (i + 1) = (okI pl t i && decide (0 ≤ pl (sideAt t i).Col)) := by
  rcases (by omega : i = 0 ∨ i = 1) with rfl | rfl
  · have hv : t.Left.Var = 0 := hv
    simp [mvI, okI, testCells, moveS, okS, hv, sideAt, offS]
  · have hv : t.Right.Var = 0 := hv
    refine ⟨?_, ?_, ?_⟩
    · simp [mvI, testCells, moveT, moveS, hv, sideAt, offS]
    · simp [mvI, testCells, moveT, moveS, hv, sideAt, offS]
    · simp [okI, okT, okS, hv, sideAt]
theorem mv_stay {pl : Int → Int} {t : GTest} {i : Nat} (hi : i < 2) (hv : ¬ (sideAt t i).Var = 0) : mvI pl t (i + 1) = mvI pl t i ∧ okI pl t (i + 1) = okI pl t i := by
  rcases (by omega : i = 0 ∨ i = 1) with rfl | rfl
  · have hv : ¬ t.Left.Var = 0 := hv
    exact ⟨by simp [mvI, moveS, hv], by simp [okI, okS, hv]⟩
  · have hv : ¬ t.Right.Var = 0 := hv
    exact ⟨by simp [mvI, moveT, moveS, hv], by simp [okI, okT, okS, hv]⟩
theorem side_tin {k : Nat} {t : GTest} (ht : tstIn k t) {i : Nat} (hi : i < 2) (hv : (sideAt t i).Var = 0) : 0 ≤ (sideAt t i).Col ∧ (sideAt t i).Col < k := by
  rcases (by omega : i = 0 ∨ i = 1) with rfl | rfl
  · exact ht t.Left (by simp) hv
  · exact ht t.Right (by simp) hv
def ptrs2 (b : Nat) : List Value := [.pointer (some ⟨b, 0, none⟩), .pointer (some ⟨b, 6, none⟩)]
theorem ptr_nth {b i : Nat} (hi : i < 2) : nth (ptrs2 b) i = .pointer (some ⟨b, offS i, none⟩) := by
  rcases (by omega : i = 0 ∨ i = 1) with rfl | rfl <;> rfl
theorem rv_tv {v : Value} : Sub (rV.ty v) (tV v) := fun _ _ e => e.1
theorem tv_rv {v : Value} (h1 : v.oneCell' = true) : Sub (tV v) (rV.ty v) := fun _ _ e => ⟨e, by have e := (show _ = v from e); subst e; exact h1⟩
theorem ptr_at {b i : Nat} (hi : i < 2) : Sub (rV.ty (nth (ptrs2 b) i)) (tAt b (offS i)) := Sub.trans rv_tv (Sub.of_eq (by rw [ptr_nth hi]))
theorem divIn_t {pl : Int → Int} {l : List GTest} {i : Nat} (h : i < l.length) (hk : okT pl (nth l i) = true) : divIn pl (l.take (i + 1)) = divIn pl (l.take i) ++ [moveT pl (nth l i)] ∧ divOut pl (l.take (i + 1)) = divOut pl (l.take i) := by
  unfold divIn divOut; rw [takeB h, List.filter_append, List.filter_append]; simp [hk]
theorem divIn_f {pl : Int → Int} {l : List GTest} {i : Nat} (h : i < l.length) (hk : okT pl (nth l i) = false) : divIn pl (l.take (i + 1)) = divIn pl (l.take i) ∧ divOut pl (l.take (i + 1)) = divOut pl (l.take i) ++ [nth l i] := by
  unfold divIn divOut; rw [takeB h, List.filter_append, List.filter_append]; simp [hk]
/-- What a function that tells places does. -/
def PlcS (gf : Nat) (As : List Ty) (m : Nat) (pl : Int → Int) : Prop := ∀ c : Int, 0 ≤ c → c < (m : Int) → Fun1 prog gf ([tV (.int .i64 c)] ++ As) (tV (.int .i64 (pl c)))
theorem joinL_take {a b : List GAttr} {i : Nat} (h : i < b.length) : joinL a (b.take (i + 1)) = if columnL a (nth b i).Name < 0 then joinL a (b.take i) ++ [nth b i] else joinL a (b.take i) := by rw [takeB h, join_snoc]
theorem joinL_nil (a : List GAttr) : joinL a [] = a := by simp [joinL]
set_option maxHeartbeats 2000000 in
theorem move_spec (t : GTest) (gf : Nat) (As : List Ty) (m : Nat) (pl : Int → Int) (hp : PlcS gf As m pl) (he : ∀ args w, (callFunc gf args).run prog w = .ok (.enter gf args) w) (ht : tstIn m t) : Fun1 prog 228 [rTest.ty t, tClo gf As] (tTup [rTest.ty (moveT pl t), tV (.bool (okT pl t))]) := by
 refine Spec.enter func228 rfl rfl fun h0 w0 fr0 => ?_
 refine Jr ?_
 refine Jx rfl (step_box_own (R := rTest) Sr) fun b2 => ?_
 refine Jx rfl (step_alloc (fun w => zeroValue93 w) zr93) fun b4 => ?_
 refine Ja rfl (JL_nil (Jr (Ja rfl (JL_nil (J_seq ?_)))))
 refine Jr (Js rfl (step_fieldAt (o := 0) (o' := 0) so93 Sr rfl rfl) (Js rfl (step_fieldAt (o := 0) (o' := 6) so93 Sr rfl rfl) ?_))
 refine Js rfl (step_literal (R := rV) (ys := ptrs2 b2) underlying299 el298 ⟨rfl, (tv_rv rfl), rfl, (tv_rv rfl), trivial⟩ rfl (by decide)) ?_
 refine Js rfl (step_len_sl underlying299 Sr) (Jm rfl (JL_nil (J_block ?_)))
 refine J_loopL (σ := Nat) (fun i => i ≤ 2) (fun i => upd (upd (upd (upd (upd (upd (upd (upd env0 1 (tClo gf As)) 2 (tAt b2 0)) 4 (tAt b4 0)) 5 (tV (.bool false))) 6 (tV (.bool (okI pl t i)))) 11 (tSl rV (ptrs2 b2))) 12 (tV (.int .i64 2))) 13 (tV (.int .i64 i))) (fun i => [box b4 93 rTest zTest, box b2 93 rTest (mvI pl t i)]) (fun i => 2 - i) 0 zG (zU) (LSub.rfl) ?_
 rintro i hi
 refine Jr (Js rfl (step_lss Sr Sr) (JL_nil (J_seq ?_)))
 refine J_cond Sr (fun h14 => ?_) (fun h14 => ?_)
 ·
  try simp only [NF] at h14
  have hlt : i < 2 := by omega
  refine J_skip (J_seq (J_block (Jr (Js rfl (step_indexAddr_sl (i := i) underlying299 ty298 Sr Sr rfl (gb hlt)) (Jl rfl ty298 Sr ?_)))))
  refine Ja rfl (JL_nil (Jr (Jm rfl ?_)))
  refine Js rfl (step_nilCheck (b := b2) (o := offS i) (by exact ptr_at hlt)) ?_
  refine Js rfl (step_fieldAt (o := offS i) (o' := offS i) so91 Sr rfl rfl) ?_
  refine Js rfl (step_load_tc ty3 Sr zS (mv_var hlt)) ?_
  refine Js rfl (step_eql Sr Sr) (JL_nil ?_)
  refine J_cond Sr (fun h21 => ?_) (fun h21 => ?_)
  ·
   try simp only [NF] at h21
   have hin := side_tin ht hlt h21
   have hmv := mv_next (pl := pl) hlt h21
   refine Jr (Jm rfl (Jm rfl (Jm rfl ?_)))
   refine Js rfl (step_nilCheck (b := b2) (o := offS i) (by exact ptr_at hlt)) ?_
   refine Js rfl (step_fieldAt (o := offS i) (o' := offS i + 1) so91 Sr rfl rfl) ?_
   refine Js rfl (step_load_tc ty3 Sr zS (mv_col hlt)) ?_
   refine Js rfl (step_callv0 (aT := [_]) Sr (hp _ hin.1 hin.2) ⟨Sr, trivial⟩ he) ?_
   refine Js rfl (step_nilCheck (b := b2) (o := offS i) (by exact ptr_at hlt)) ?_
   refine Js rfl (step_fieldAt (o := offS i) (o' := offS i + 1) so91 Sr rfl rfl) ?_
   refine Ju (step_store_tc (t' := mvI pl t (i + 1)) ty3 Sr Sr zS (by unfold offS; split <;> omega) hmv.1) fun _ => ?_
   refine JL_nil (J_region (Jm rfl (Jm rfl ?_)))
   refine Jk rfl Sr rfl (step_move Sr) ?_
   refine Jg rfl Sr rfl (fun hw => step_nilCheck (b := b2) (o := offS i) (by exact Sub.trans (Sub.w hw) (ptr_at hlt))) ?_
   refine Jg rfl Sr rfl (fun hw => step_fieldAt (o := offS i) (o' := offS i + 1) so91 (Sub.w hw) rfl rfl) ?_
   refine Jg rfl Sr rfl (fun hw => step_load_tc ty3 (Sub.w hw) zS hmv.2.1) ?_
   refine Jg rfl Sr rfl (fun hw => step_geq (Sub.w hw) Sr) (Js rfl (step_pick_and Sr Sr) (Ja rfl (JL_nil (J_region (Js rfl (step_add Sr Sr z6) ?_)))))
   refine Jm rfl (JL_nil ?_)
   refine K_againL (σ := Nat) (s := i) (i + 1) zO zG (.u (.u (.u (SubE.upd (Sub.bool hmv.2.2.symm) (zU))))) (zL)
  try simp only [NF] at h21
  have hst := mv_stay (pl := pl) hlt h21
  refine J_skip (J_region (Js rfl (step_add Sr Sr z6) (Jm rfl (JL_nil ?_))))
  refine K_againL (σ := Nat) (s := i) (i + 1) zO zG (.u (.u (.u (SubE.upd (Sub.bool hst.2.symm) (zU))))) (.r zS (.c zS (SPs.of (A := box b2 93 rTest (mvI pl t i)) (by rw [hst.1])) (LSub.nil)))
 try simp only [NF] at h14
 obtain rfl : i = 2 := by omega
 refine J_exit (Jr ?_)
 refine Js rfl (step_load_box ty93 Sr zS) ?_
 refine Jm rfl ?_
 refine Ju (step_store_box ty93 Sr Sr zS) fun _ => ?_
 refine Ja rfl (JL_nil (J_ret ?_))
 refine K_ret2' (rv := .cell 4 93) (rv' := .tmp 5) rfl () (Sel.all _) (.cell (R := rTest) ty93 Sr zS Sr) (.tmp Sr) (Frz.sub Sr) (Frz.sub Sr) Sr
set_option maxHeartbeats 2000000 in
theorem divide_spec (l : List GTest) (gf : Nat) (As : List Ty) (m : Nat) (pl : Int → Int) (hp : PlcS gf As m pl) (he : ∀ args w, (callFunc gf args).run prog w = .ok (.enter gf args) w) (ht : TIn m l) (hl : l.length ≤ 1000000) : Fun1 prog 154 [tSl rTest l, tClo gf As] (tTup [tSl rTest (divIn pl l), tSl rTest (divOut pl l)]) := by
 refine Spec.enter func154 rfl rfl fun h0 w0 fr0 => ?_
 refine Jr (Ja rfl (Ja rfl (JL_nil (J_seq (Jr ?_)))))
 refine Jm rfl (Js rfl (step_len_sl underlying43 Sr) (Jm rfl (JL_nil (J_block ?_))))
 refine J_loopL (σ := Nat × Value × Value) (fun ⟨i, va, vb⟩ => i ≤ l.length) (fun ⟨i, va, vb⟩ => upd (upd (upd (upd (upd (upd env0 1 (tClo gf As)) 4 (rV.ty va)) 5 (rV.ty vb)) 10 (tSl rTest l)) 11 (tV (.int .i64 l.length))) 12 (tV (.int .i64 i))) (fun ⟨i, va, vb⟩ => [own 93 rTest va (divIn pl (l.take i)), own 93 rTest vb (divOut pl (l.take i))]) (fun ⟨i, va, vb⟩ => l.length - i) (0, .slice none 0 0, .slice none 0 0) (by exact Nat.zero_le _) (.u (.u (.u (SubE.upd (Sub.rV rfl) (SubE.upd (Sub.rV rfl) (zU)))))) (LSub.trans (LSub.nilown (e := 93) (R := rTest)) (LSub.nilown (e := 93) (R := rTest))) ?_
 rintro ⟨i, va, vb⟩ hi
 try dsimp only at hi
 refine Jr (Js rfl (step_lss Sr Sr) (JL_nil (J_seq ?_)))
 refine J_cond Sr (fun h13 => ?_) (fun h13 => ?_)
 ·
  try simp only [NF] at h13
  have hlt : i < l.length := by omega
  refine J_skip (J_seq (J_block (Jr ?_)))
  refine Js rfl (step_indexAddr_sl (i := i) underlying43 ty93 Sr Sr (by rfl) (gb (by exact hlt))) ?_
  refine Jl rfl ty93 Sr ?_
  refine Jx rfl (step_alloc (fun w => zeroValue93 w) zr93) fun b7 => ?_
  refine Ju (step_store_box ty93 Sr Sr zS) fun _ => ?_
  refine JL_freeze (t := 7) (Sel.take (Sel.none _)) Frz.box ?_
  refine JL_nil (Jr (Jl rfl ty93 Sr (Jm rfl (Js rfl (step_call0 (move_spec (nth l i) gf As m pl hp he (ht _ (nth_mem hlt))) ⟨Sr, Sr, trivial⟩ call228) (Jm rfl ?_)))))
  refine Js rfl (step_extract Sr rfl) (Js rfl (step_extract Sr rfl) ?_)
  refine Jx rfl (step_alloc (fun w => zeroValue93 w) zr93) fun b8 => ?_
  refine Ju (step_store_box ty93 Sr Sr zS) fun _ => ?_
  refine JL_freeze (t := 8) (Sel.take (Sel.none _)) Frz.box ?_
  refine Ja rfl (JL_nil (Jr (Jm rfl (JL_nil ?_))))
  refine J_cond Sr (fun h22 => ?_) (fun h22 => ?_)
  ·
   try simp only [NF] at h22
   have hdi := divIn_t hlt (by simpa using h22)
   refine J_region (Jm rfl (Jl rfl ty93 Sr ?_))
   refine Js rfl (step_literal (ys := [_]) underlying43 el93 ⟨rfl, Sr, trivial⟩ rfl (by decide)) ?_
   refine Jx rfl (step_append underlying43 el93 Sr Sr zS (by have := div_len pl (l.take i); simp only [List.length_append, List.length_cons, List.length_nil, List.length_take] at this ⊢; omega) (by have := div_len pl (l.take i); simp only [List.length_append, List.length_cons, List.length_nil, List.length_take] at this ⊢; omega)) fun v26 => ?_
   refine Ja rfl (JL_nil (J_region (Js rfl (step_add Sr Sr z6) (Jm rfl (JL_nil ?_)))))
   refine K_againL (σ := Nat × Value × Value) (s := (i, va, vb)) (i + 1, v26, vb) zO (by show i + 1 ≤ _; omega) (zU) (.c zS (SPs.of (A := own 93 rTest v26 (divIn pl (l.take i) ++ [moveT pl (nth l i)])) (by rw [hdi.1])) (.c zS (SPs.of (A := own 93 rTest vb (divOut pl (l.take i))) (by rw [hdi.2])) (LSub.nil)))
  try simp only [NF] at h22
  have hdi := divIn_f hlt (by simpa using h22)
  refine J_region (Jm rfl (Jl rfl ty93 Sr ?_))
  refine Js rfl (step_literal (ys := [_]) underlying43 el93 ⟨rfl, Sr, trivial⟩ rfl (by decide)) ?_
  refine Jx rfl (step_append underlying43 el93 Sr Sr zS (by have := div_len pl (l.take i); simp only [List.length_append, List.length_cons, List.length_nil, List.length_take] at this ⊢; omega) (by have := div_len pl (l.take i); simp only [List.length_append, List.length_cons, List.length_nil, List.length_take] at this ⊢; omega)) fun v30 => ?_
  refine Ja rfl (JL_nil (J_region (Js rfl (step_add Sr Sr z6) (Jm rfl (JL_nil ?_)))))
  refine K_againL (σ := Nat × Value × Value) (s := (i, va, vb)) (i + 1, va, v30) zO (by show i + 1 ≤ _; omega) (zU) (.c zS (SPs.of (A := own 93 rTest va (divIn pl (l.take i))) (by rw [hdi.1])) (.c zS (SPs.of (A := own 93 rTest v30 (divOut pl (l.take i) ++ [nth l i])) (by rw [hdi.2])) (LSub.nil)))
 try simp only [NF] at h13
 obtain rfl : i = l.length := by omega
 refine J_exit (Jr (Jm rfl (Jm rfl (Ja rfl (Ja rfl ?_)))))
 refine JL_nil (J_ret ?_)
 refine K_ret2' (rv := .tmp 4) (rv' := .tmp 5) rfl () (Sel.all _) (.tmp Sr) (.tmp Sr) (B := tSl rTest (divIn pl l)) (B' := tSl rTest (divOut pl l)) (Frz.own' (by rw [List.take_length])) (Frz.skip (Frz.own' (by rw [List.take_length]))) Sr
set_option maxHeartbeats 1000000 in
theorem ppick_spec (l : List GAttr) (cols : List Int) (hc : colsIn l.length cols) (hl : cols.length ≤ 1000000) : Spec (X := Value) prog 156 [tSl rAttr l, tSl rInt cols] ([]) (fun z => rV.ty z) (fun z => [own 89 rAttr z (pickL l cols)]) := by
 refine Spec.enter func156 rfl rfl fun h0 w0 fr0 => ?_
 refine Jr (Ja rfl (JL_nil (Jr (Ja rfl (JL_nil ?_)))))
 refine J_seq (Jr (Jm rfl (Js rfl (step_len_sl underlying36 Sr) (Jm rfl (JL_nil ?_)))))
 refine J_block ?_
 refine J_loopL (σ := Nat × Value) (fun ⟨i, vo⟩ => i ≤ cols.length) (fun ⟨i, vo⟩ => upd (upd (upd (upd (upd (upd env0 0 (tSl rAttr l)) 4 (tV (.slice none 0 0))) 5 (rV.ty vo)) 8 (tSl rInt cols)) 9 (tV (.int .i64 cols.length))) 10 (tV (.int .i64 i))) (fun ⟨i, vo⟩ => [own 89 rAttr vo (pickL l (cols.take i))]) (fun ⟨i, vo⟩ => cols.length - i) (0, .slice none 0 0) (by exact Nat.zero_le _) (.u (.u (.u (SubE.upd (Sub.rV rfl) (zU))))) (LSub.nilown) ?_
 rintro ⟨i, vo⟩ hi
 try dsimp only at hi
 refine Jr (Js rfl (step_lss Sr Sr) (JL_nil (J_seq ?_)))
 refine J_cond Sr (fun h11 => ?_) (fun h11 => ?_)
 ·
  try simp only [NF] at h11
  have hlt : i < cols.length := by omega
  have hci := hc _ (nth_mem hlt)
  refine J_skip (J_seq (J_block (Jr ?_)))
  refine Js rfl (step_indexAddr_sl (i := i) underlying36 ty3 Sr Sr (by rfl) (gb (by exact hlt))) ?_
  refine Jl rfl ty3 Sr (Ja rfl (JL_nil (J_region (Jm rfl (Jm rfl ?_)))))
  refine Jm rfl ?_
  refine Js rfl (step_indexAddr_sl (i := (nth cols i).toNat) underlying44 ty89 Sr Sr (by show nth cols i = _; omega) (gb (by show _ < l.length; omega))) ?_
  refine Jl rfl ty89 Sr ?_
  refine Js rfl (step_literal (ys := [_]) underlying44 el89 ⟨rfl, Sr, trivial⟩ rfl (by decide)) ?_
  refine Jx rfl (step_append underlying44 el89 Sr Sr zS (by simp only [pickL, List.length_append, List.length_cons, List.length_nil, List.length_map, List.length_take]; omega) (by simp only [pickL, List.length_append, List.length_cons, List.length_nil, List.length_map, List.length_take]; omega)) fun v20 => ?_
  refine Ja rfl (JL_nil (J_region (Js rfl (step_add Sr Sr z6) (Jm rfl (JL_nil ?_)))))
  refine K_againL (σ := Nat × Value) (s := (i, vo)) (i + 1, v20) zO (by show i + 1 ≤ _; omega) (zU) (.c zS (SPs.of (A := own 89 rAttr v20 ((pickL l (cols.take i)) ++ [nth l (nth cols i).toNat])) (by unfold pickL; rw [takeB hlt, List.map_append]; rfl)) (LSub.nil))
 try simp only [NF] at h11
 obtain rfl : i = cols.length := by omega
 refine J_exit (Jr (Jm rfl (Ja rfl (JL_nil (J_ret ?_)))))
 refine K_lsub (L' := [own 89 rAttr vo (pickL l cols)]) (.c zS (SPs.of (A := own 89 rAttr vo (pickL l (cols.take cols.length))) (by rw [List.take_length])) (LSub.nil)) ?_
 refine K_retv (rv := .tmp 4) rfl vo (.tmp Sr) Sr
set_option maxHeartbeats 1000000 in
theorem above_spec (x : Gplanner) (n : Gnode) (ts : List GTest) (hm : ¬ ts.length = 0 → MkOk x (GPl.mk 2 0 [] ts [] 0 0 n.Plan.Attrs) [n]) : Fun1 prog 151 [rplanner.ty x, rnodeE.ty n, tSl rTest ts] (rnodeE.ty (aboveM x n ts)) := by
 refine Spec.enter func151 rfl rfl fun h0 w0 fr0 => ?_
 refine Jr (Js rfl (step_box (R := rplanner) Sr) (Js rfl (step_box (R := rnodeE) Sr) ?_))
 refine Jx rfl (step_alloc (fun w => zeroValue152 w) zr152E) fun b6 => ?_
 refine JL_nil (J_seq (Jr (Jm rfl (Js rfl (step_len_sl underlying43 Sr) (Js rfl (step_eql Sr Sr) ?_)))))
 refine JL_nil ?_
 refine J_cond Sr (fun h9 => ?_) (fun h9 => ?_)
 ·
  try simp only [NF] at h9
  refine Jr (Jl rfl ty152E Sr ?_)
  refine Ju (step_store_box ty152E Sr Sr zS) fun _ => ?_
  refine JL_nil (J_ret ?_)
  refine K_ret1' (rv := .cell 6 152) rfl () (Sel.all _) (.cell (R := rnodeE) ty152E Sr zS Sr) (Frz.sub (Sub.of_eq (by rw [aboveM, if_pos zG])))
 try simp only [NF] at h9
 refine J_skip (Jr (Jl rfl ty146 Sr (Jm rfl (Js rfl (step_fieldAddr so152E Sr rfl) (Js rfl (step_fieldAddr so46E Sr rfl) ?_)))))
 refine Jl rfl ty44 Sr (Js rfl (step_build (x := ((GPl.mk 2 0 [] ts [] 0 0 n.Plan.Attrs) : GPlan)) (zs := [[Value.int .i64 0], [Value.int .i64 0], [Value.slice none 0 0], [Value.slice none 0 0], [Value.slice none 0 0], [Value.int .i64 0], [Value.int .i64 0], [Value.slice none 0 0]]) so46E (fun w => zeroValue46 w) ⟨Sr, Sr, Sr, trivial⟩ ⟨⟨Sr, rfl⟩, fun _ => rfl, fun _ => ⟨_, rfl, none, ⟨0, Nat.le_refl _⟩, rfl, fun q => absurd rfl q⟩, ⟨Sr, rfl⟩, fun _ => ⟨_, rfl, none, ⟨0, Nat.le_refl _⟩, rfl, fun q => absurd rfl q⟩, fun _ => rfl, fun _ => rfl, ⟨Sr, rfl⟩, trivial⟩) (Jl rfl ty152E Sr ?_))
 refine Js rfl (step_literal (ys := [n]) underlying197 el152E ⟨rfl, Sr, trivial⟩ rfl (by decide)) ?_
 refine Js rfl (step_call0 (makeE_spec x (GPl.mk 2 0 [] ts [] 0 0 n.Plan.Attrs) [n] (hm zG)) ⟨Sr, Sr, Sr, trivial⟩ call146) ?_
 refine Ju (step_store_box ty152E Sr Sr zS) fun _ => ?_
 refine JL_nil (J_ret ?_)
 refine K_ret1' (rv := .cell 6 152) rfl () (Sel.all _) (.cell (R := rnodeE) ty152E Sr zS Sr) (Frz.sub (Sub.of_eq (by rw [aboveM, if_neg zG])))
set_option maxHeartbeats 2000000 in
theorem joined_spec (x : Gplanner) (a b : Gnode) (ha : a.Plan.Attrs.length ≤ 1000000) (hb : b.Plan.Attrs.length ≤ 1000000) (hm : MkOk x (GPl.mk 4 0 [] [] [] 0 0 (joinL a.Plan.Attrs b.Plan.Attrs)) [a, b]) : Fun1 prog 223 [rplanner.ty x, rnodeE.ty a, rnodeE.ty b] (rnodeE.ty (joinedM x a b)) := by
 refine Spec.enter func223 rfl rfl fun h0 w0 fr0 => ?_
 refine Jr (Js rfl (step_box (R := rplanner) Sr) (Js rfl (step_box (R := rnodeE) Sr) (Js rfl (step_box (R := rnodeE) Sr) ?_)))
 refine Jx rfl (step_alloc (fun w => zeroValue152 w) zr152E) fun b6 => ?_
 refine JL_nil (Jr (Js rfl (step_fieldAddr so152E Sr rfl) (Js rfl (step_fieldAddr so46E Sr rfl) (Jl rfl ty44 Sr ?_))))
 refine Jx rfl (step_call (Sel.none _) (CloneA_spec _ (by show a.Plan.Attrs.length ≤ _; omega)) ⟨Sr, trivial⟩ call158) fun v13 => ?_
 refine Ja rfl (JL_nil (J_seq (Jr (Js rfl (step_fieldAddr so152E Sr rfl) (Js rfl (step_fieldAddr so46E Sr rfl) ?_)))))
 refine Jl rfl ty44 Sr (Js rfl (step_len_sl underlying44 Sr) (Jm rfl (JL_nil (J_block ?_))))
 refine J_loopL (σ := Nat × Value) (fun ⟨i, vo⟩ => i ≤ b.Plan.Attrs.length) (fun ⟨i, vo⟩ => upd (upd (upd (upd (upd (upd (upd (upd env0 3 (tPtr rplanner x)) 4 (tPtr rnodeE a)) 5 (tPtr rnodeE b)) 6 (tAt b6 0)) 7 (rV.ty vo)) 16 (tSl rAttr b.Plan.Attrs)) 17 (tV (.int .i64 b.Plan.Attrs.length))) 18 (tV (.int .i64 i))) (fun ⟨i, vo⟩ => [own 89 rAttr vo (joinL a.Plan.Attrs (b.Plan.Attrs.take i)), box b6 152 rnodeE ⟨GPl.zero, zsize⟩]) (fun ⟨i, vo⟩ => b.Plan.Attrs.length - i) (0, v13) (by exact Nat.zero_le _) (zU) (.c zS (SPs.of (A := own 89 rAttr v13 a.Plan.Attrs) (by rw [List.take_zero, joinL_nil])) (zL)) ?_
 rintro ⟨i, vo⟩ hi
 try dsimp only at hi
 refine Jr (Js rfl (step_lss Sr Sr) (JL_nil (J_seq ?_)))
 refine J_cond Sr (fun h19 => ?_) (fun h19 => ?_)
 ·
  try simp only [NF] at h19
  have hlt : i < b.Plan.Attrs.length := by omega
  have hjl := joinL_len a.Plan.Attrs (b.Plan.Attrs.take i)
  rw [List.length_take] at hjl
  refine J_skip (J_seq (J_block (Jr ?_)))
  refine Js rfl (step_indexAddr_sl (i := i) underlying44 ty89 Sr Sr (by rfl) (gb (by exact hlt))) ?_
  refine Jl rfl ty89 Sr ?_
  refine Jx rfl (step_alloc (fun w => zeroValue89 w) zr89) fun b9 => ?_
  refine Ju (step_store_box ty89 Sr Sr zS) fun _ => ?_
  refine JL_freeze (t := 9) (Sel.take (Sel.none _)) Frz.box ?_
  refine JL_nil (Jr (Js rfl (step_fieldAddr so152E Sr rfl) (Js rfl (step_fieldAddr so46E Sr rfl) (Jl rfl ty44 Sr (Js rfl (step_fieldAddr so89 Sr rfl) ?_)))))
  refine Jl rfl ty9 Sr ?_
  refine Js rfl (step_call0 (pcolumn_spec _ _ (by show a.Plan.Attrs.length ≤ _; omega)) ⟨Sr, Sr, trivial⟩ call219) ?_
  refine Js rfl (step_lss Sr Sr) (JL_nil ?_)
  refine J_cond Sr (fun h28 => ?_) (fun h28 => ?_)
  ·
   try simp only [NF] at h28
   refine J_region (Jm rfl (Jl rfl ty89 Sr ?_))
   refine Js rfl (step_literal (ys := [_]) underlying44 el89 ⟨rfl, Sr, trivial⟩ rfl (by decide)) ?_
   refine Jx rfl (step_append underlying44 el89 Sr Sr zS (by simp only [List.length_append, List.length_cons, List.length_nil]; omega) (by simp only [List.length_append, List.length_cons, List.length_nil]; omega)) fun v32 => ?_
   refine Ja rfl (JL_nil (J_region (Js rfl (step_add Sr Sr z6) (Jm rfl (JL_nil ?_)))))
   refine K_againL (σ := Nat × Value) (s := (i, vo)) (i + 1, v32) zO (by show i + 1 ≤ _; omega) (zU) (.c zS (SPs.of (A := own 89 rAttr v32 ((joinL a.Plan.Attrs (b.Plan.Attrs.take i)) ++ [nth b.Plan.Attrs i])) (by rw [joinL_take hlt, if_pos h28])) (zL))
  try simp only [NF] at h28
  have h28 : ¬ columnL a.Plan.Attrs (nth b.Plan.Attrs i).Name < 0 := by show ¬ columnL _ _ < 0; omega
  refine J_skip (J_region (Js rfl (step_add Sr Sr z6) (Jm rfl (JL_nil ?_))))
  refine K_againL (σ := Nat × Value) (s := (i, vo)) (i + 1, vo) zO (by show i + 1 ≤ _; omega) (zU) (.c zS (SPs.of (A := own 89 rAttr vo (joinL a.Plan.Attrs (b.Plan.Attrs.take i))) (by rw [joinL_take hlt, if_neg h28])) (zL))
 try simp only [NF] at h19
 obtain rfl : i = b.Plan.Attrs.length := by omega
 refine J_exit (J_seq ?_)
 refine K_freeze (t := 7) (A' := tSl rAttr (joinL a.Plan.Attrs b.Plan.Attrs)) (Sel.take (Sel.none _)) (Frz.own' (by rw [List.take_length])) ?_
 refine J_region (Jl rfl ty146 Sr (Jm rfl (Js rfl (step_build (x := ((GPl.mk 4 0 [] [] [] 0 0 (joinL a.Plan.Attrs b.Plan.Attrs)) : GPlan)) (zs := [[Value.int .i64 0], [Value.int .i64 0], [Value.slice none 0 0], [Value.slice none 0 0], [Value.slice none 0 0], [Value.int .i64 0], [Value.int .i64 0], [Value.slice none 0 0]]) so46E (fun w => zeroValue46 w) ⟨Sr, Sr, trivial⟩ ⟨⟨Sr, rfl⟩, fun _ => rfl, fun _ => ⟨_, rfl, none, ⟨0, Nat.le_refl _⟩, rfl, fun q => absurd rfl q⟩, fun _ => ⟨_, rfl, none, ⟨0, Nat.le_refl _⟩, rfl, fun q => absurd rfl q⟩, fun _ => ⟨_, rfl, none, ⟨0, Nat.le_refl _⟩, rfl, fun q => absurd rfl q⟩, fun _ => rfl, fun _ => rfl, ⟨Sr, rfl⟩, trivial⟩) (Jl rfl ty152E Sr (Jl rfl ty152E Sr ?_)))))
 refine Js rfl (step_literal (ys := [a, b]) underlying197 el152E ⟨rfl, Sr, rfl, Sr, trivial⟩ rfl (by decide)) ?_
 refine Js rfl (step_call0 (makeE_spec x (GPl.mk 4 0 [] [] [] 0 0 (joinL a.Plan.Attrs b.Plan.Attrs)) [a, b] hm) ⟨Sr, Sr, Sr, trivial⟩ call146) ?_
 refine Ju (step_store_box ty152E Sr Sr zS) fun _ => ?_
 refine JL_nil (J_ret ?_)
 refine K_ret1' (rv := .cell 6 152) rfl () (Sel.all _) (.cell (R := rnodeE) ty152E Sr zS Sr) (Frz.sub (Sub.of_eq rfl))
open Go
/-- The slice value of all from k on. -/
def tailV (v : Value) (K k : Nat) : Value := match v with
  | .slice (some a) n c => .slice (some ⟨a.block, a.off + k * K, none⟩) (n - k) (c - k)
  | _ => undef
theorem run_clear_row {P : Program} {w : World} {t e ty : TypeId} {z : Value} (ht : P.underlying t = some (.slice e)) (hv : ∀ w, (zeroValue e).run P w = .ok z w) (hz : z.cells = #[z]) (h1 : z.oneCell' = true) {b o n c el : Nat} {cur : Array Value} (hn : 0 < n)
    (hb : w.heap[b]? = some (.cells cur el (0, 0))) (hl : o + n ≤ cur.size) :
    ∃ w', (Builtin.clear_ #[t] ty #[.slice (some ⟨b, o, none⟩) n c]).run P w = .ok (.tuple #[]) w' ∧ (∀ b', b' ≠ b → w'.heap[b']? = w.heap[b']?) ∧ Same w w' ∧
      w'.heap[b]? = some (.cells (cur.toList.take o ++ List.replicate n z ++ cur.toList.drop (o + n)).toArray el (0, 0)) := by
  have hzc : (Builtin.zeroCells z.cells n).toList = List.replicate n z := by
    rw [hz]
    simp [Builtin.zeroCells]
    apply List.ext_getElem
    · simp
    · intro i h1 h2
      simp [Nat.mod_one]
  have hst := run_storeCells_at P b o el (List.replicate n z) 0 cur w hb (by simpa using hl) (by intro v hv'; rw [List.eq_of_mem_replicate hv']; exact h1)
  simp only [Nat.add_zero, List.length_replicate] at hst
  refine ⟨_, ?_, fun b' hne => setRow_other w b b' _ hne, ⟨rfl, rfl, rfl⟩, setRow_heap w b cur _ el _ hb⟩
  obtain ⟨m, rfl⟩ : ∃ m, n = m + 1 := ⟨n - 1, by omega⟩
  simp [Builtin.clear_, run_underlying ht, hv, hzc, hst]
section
variable {C : Cx} {E : Env} {L : List SP} {d : Option Nat} {ty : Nat} {pos : String} {af : Array Edge} {g : Option (Nat × Bool)}
theorem step_tail {α : Type} {T e k : Nat} {R : Rp α} {x y : Operand} {v : Value} {xs : List α} {S : List SP} {i : Int} (hu : C.P.underlying T = some (.slice e)) (hR : TyOf C.P e R)
    (hx : Sub (opTy E x) (rV.ty v)) (hy : Sub (opTy E y) (tV (.int .i64 i))) (hi : i = k) (sel : Sel L [own e R v xs] S) (hn : k < xs.length) :
    Step1 C ⟨d, .slice T x (some y) none none, ty, pos, af, g⟩ E L (tV (tailV v R.k k)) :=
  Step.of_run (by intro c h; cases h) fun a w h m l sp st fr => by
    have hv : a.eval x = v := (fr.get hx).1
    have h2 : a.eval y = .int .i64 i := fr.get hy
    subst hi
    obtain ⟨m1, m2, d12, rfl, ho, s2⟩ := sel.one.1 st
    refine ⟨(), tailV v R.k k, w, h, _, ?_, HL.refl, sp, st, rfl⟩
    rcases ho with ⟨rfl, rfl, rfl⟩ | ⟨b, cap, cur, rfl, rfl, hl, hm, hs, r⟩
    · simp at hn
    · simp [execOp, Instr.sliceAt, run_underlying hu, hv, h2, Instr.slice, Instr.sliceBounds, Instr.sliceBound, asIntOf, hR.size, show k ≤ xs.length by omega, show k ≤ cap by omega, addr_add, tailV]
      intro q; exfalso; omega
theorem step_tail_len {α : Type} {T e k : Nat} {R : Rp α} {K : Nat} {x : Operand} {v : Value} {xs : List α} {S : List SP} (hu : C.P.underlying T = some (.slice e)) (hx : Sub (opTy E x) (tV (tailV v K k))) (sel : Sel L [own e R v xs] S) (hn : k < xs.length) :
    Step1 C ⟨d, .call { callee := .builtin .len, args := #[x], argTypes := #[T] }, ty, pos, af, g⟩ E L (tV (.int .i64 ((xs.length - k : Nat) : Int))) :=
  Step.of_run (by intro c h; cases h) fun a w h m l sp st fr => by
    have hv : a.eval x = tailV v K k := fr.get hx
    obtain ⟨m1, m2, d12, rfl, ho, s2⟩ := sel.one.1 st
    refine ⟨(), _, w, h, _, ?_, HL.refl, sp, st, rfl⟩
    rcases ho with ⟨rfl, rfl, rfl⟩ | ⟨b, cap, cur, rfl, rfl, hl, hm, hs, r⟩
    · simp at hn
    · simp [execOp, resolve, invoke, builtin, Builtin.len_, hv, run_underlying hu, goInt, tailV]
theorem step_tail_addr {α : Type} {R : Rp α} {T e k : Nat} {x ix : Operand} {v : Value} {xs : List α} {z : Int} {i : Nat} {S : List SP} (hu : C.P.underlying T = some (.slice e)) (hR : TyOf C.P e R)
    (hx : Sub (opTy E x) (tV (tailV v R.k k))) (sel : Sel L [own e R v xs] S) (hi : Sub (opTy E ix) (tV (.int .i64 z))) (hz : z = i) (hlt : k + i < xs.length) :
    Step1 C ⟨d, .indexAddr T x ix, ty, pos, af, g⟩ E L (tV (elemAt v R.k (k + i))) :=
  Step.of_run (by intro c h; cases h) fun a w h m l sp st fr => by
    have hv : a.eval x = tailV v R.k k := fr.get hx
    have h2 : a.eval ix = .int .i64 z := fr.get hi
    obtain ⟨m1, m2, d12, rfl, ho, s2⟩ := sel.one.1 st
    subst hz
    refine ⟨(), elemAt v R.k (k + i), w, h, _, ?_, HL.refl, sp, st, rfl⟩
    rcases ho with ⟨rfl, rfl, _⟩ | ⟨b, cap, _, rfl, _⟩
    · simp at hlt
    · have : k * R.k + i * R.k = (k + i) * R.k := (Nat.add_mul _ _ _).symm
      simp [execOp, Instr.indexAt, hv, h2, asIntOf, run_underlying hu, hR.size, show i < xs.length - k by omega, addr_add, elemAt, tailV, this]
/-- 'clear' at the tail. -/
theorem step_tail_clear {α : Type} {R : Rp α} {T e k : Nat} {x : Operand} {v : Value} {xs : List α} {z : α} {zv : Value} {S : List SP} (hu : C.P.underlying T = some (.slice e)) (hzv : ∀ w, (zeroValue e).run C.P w = .ok zv w) (hzc : zv.cells = #[zv]) (h1 : zv.oneCell' = true) (hR : R.k = 1) (hr : ∀ h, R.rel h z [zv])
    (hx : Sub (opTy E x) (tV (tailV v R.k k))) (sel : Sel L [own e R v xs] S) (hk : k < xs.length) :
    Step C ⟨d, .call { callee := .builtin .clear, args := #[x], argTypes := #[T] }, ty, pos, af, g⟩ E L (fun _ : Unit => tAny) (fun _ => own e R v (xs.take k ++ List.replicate (xs.length - k) z) :: S) :=
  Step.of_run (by intro c h; cases h) fun a w h m l sp st fr => by
    have hv : a.eval x = tailV v R.k k := fr.get hx
    obtain ⟨m1, m2, d12, rfl, ho, s2⟩ := sel.one.1 st
    rcases ho with ⟨rfl, rfl, _⟩ | ⟨b, cap, cur, rfl, rfl, hl, hm, hs, r⟩
    · simp at hk
    · have hb := sp.heap_own
      simp only [tailV, hR, Nat.mul_one, Nat.zero_add] at hv
      rw [hR, Nat.mul_one] at hs r
      obtain ⟨w', hrun, hoth, hsame, hnew⟩ := run_clear_row (P := C.P) (ty := ty) (c := cap - k) hu hzv hzc h1 (n := xs.length - k) (o := k) (by omega) hb (by omega)
      refine ⟨(), .tuple #[], w', h, (PH.one b _).join m2, ?_, HL.same hsame, Sep.write d12 sp (fun b' hne _ => hoth b' hne) hnew, ?_, trivial⟩
      · simp [execOp, resolve, invoke, builtin, hv, hrun]
      · have hcl : cur.toList.length = cap := by simpa using hs
        refine ⟨_, m2, PH.one_disj_iff.2 (PH.one_disj_iff.1 d12), rfl, .inr ⟨b, cap, _, ?_, rfl, ?_, hm, ?_, ?_⟩, s2⟩
        · simp only [List.length_append, List.length_take, List.length_replicate]
          rw [show min k xs.length + (xs.length - k) = xs.length by omega]
        · simp only [List.length_append, List.length_take, List.length_replicate]; omega
        · simp only [List.size_toArray, List.length_append, List.length_take, List.length_drop, List.length_replicate, hcl, hR]; omega
        · have e1 : (xs.take k ++ List.replicate (xs.length - k) z).length = xs.length := by simp only [List.length_append, List.length_take, List.length_replicate]; omega
          have e2 : (cur.toList.take k ++ List.replicate (xs.length - k) zv ++ cur.toList.drop (k + (xs.length - k))).take xs.length = cur.toList.take k ++ List.replicate (xs.length - k) zv := by
            refine List.take_left' ?_
            simp only [List.length_append, List.length_take, List.length_replicate, hcl]; omega
          rw [e1, hR, Nat.mul_one, e2]
          refine relAll_append ?_ ?_
          · have := relAll_take k r
            rwa [List.take_take, hR, Nat.mul_one, Nat.min_eq_left (by omega)] at this
          · have := relAll_replicate (hr h) (xs.length - k)
            rwa [show (List.replicate (xs.length - k) [zv]).flatten = List.replicate (xs.length - k) zv by simp] at this
end
open Go
/-- The slice value of the first k. -/
def headV (v : Value) (k : Nat) : Value := match v with
  | .slice (some a) _ c => .slice (some a) k c
  | _ => undef
/-- The slice value of all from k on; k may be the end. -/
def tailW (v : Value) (K k : Nat) : Value := match v with
  | .slice (some a) n c => .slice (some (if c = k then a else ⟨a.block, a.off + k * K, none⟩)) (n - k) (c - k)
  | _ => undef
theorem relAll_dropD {α : Type} {R : Rp α} {h : PH} : ∀ {xs : List α} {cs : List Value} (n : Nat), relAll R h xs cs → relAll R h (xs.drop n) (cs.drop (n * R.k))
  | [], _, n, r => by cases r; simp [relAll]
  | x :: xs, _, 0, r => by simpa using r
  | x :: xs, _, n + 1, ⟨c1, c2, e, r1, r2⟩ => by
    subst e
    have hl := R.len r1
    have : (c1 ++ c2).drop ((n + 1) * R.k) = c2.drop (n * R.k) := by
      rw [Nat.add_mul, Nat.one_mul, Nat.add_comm, ← List.drop_drop, List.drop_left' hl]
    rw [this]
    exact relAll_dropD n r2
/-- What 'append(s[:i], s[i+1:]...)' leaves in the row. -/
def delR {α : Type} (xs : List α) (i : Nat) : List α := xs.take i ++ xs.drop (i + 1) ++ xs.drop (xs.length - 1)
theorem delR_len {α : Type} {xs : List α} {i : Nat} (h : i < xs.length) : (delR xs i).length = xs.length := by
  simp only [delR, List.length_append, List.length_take, List.length_drop]; omega
theorem delR_take {α : Type} {xs : List α} {i : Nat} (h : i < xs.length) : (delR xs i).take (xs.length - 1) = xs.eraseIdx i := by
  rw [List.eraseIdx_eq_take_drop_succ, delR]
  refine List.take_left' ?_
  simp only [List.length_append, List.length_take, List.length_drop]; omega
section
variable {C : Cx} {E : Env} {L : List SP} {d : Option Nat} {ty : Nat} {pos : String} {af : Array Edge} {g : Option (Nat × Bool)}
theorem step_head {α : Type} {T e k : Nat} {R : Rp α} {x y : Operand} {v : Value} {xs : List α} {S : List SP} {i : Int} (hu : C.P.underlying T = some (.slice e)) (hR : TyOf C.P e R)
    (hx : Sub (opTy E x) (rV.ty v)) (hy : Sub (opTy E y) (tV (.int .i64 i))) (hi : i = k) (sel : Sel L [own e R v xs] S) (hn : k < xs.length) :
    Step1 C ⟨d, .slice T x none (some y) none, ty, pos, af, g⟩ E L (tV (headV v k)) :=
  Step.of_run (by intro c h; cases h) fun a w h m l sp st fr => by
    have hv : a.eval x = v := (fr.get hx).1
    have h2 : a.eval y = .int .i64 i := fr.get hy
    subst hi
    obtain ⟨m1, m2, d12, rfl, ho, s2⟩ := sel.one.1 st
    refine ⟨(), headV v k, w, h, _, ?_, HL.refl, sp, st, rfl⟩
    rcases ho with ⟨rfl, rfl, rfl⟩ | ⟨b, cap, cur, rfl, rfl, hl, hm, hs, r⟩
    · simp at hn
    · simp [execOp, Instr.sliceAt, run_underlying hu, hv, h2, Instr.slice, Instr.sliceBounds, Instr.sliceBound, asIntOf, hR.size, show k ≤ cap by omega, addr_add, headV]
/-- A slice with three indices, for its bounds alone. -/
theorem step_slice3 {α : Type} {T e j k l : Nat} {R : Rp α} {x y z u : Operand} {v : Value} {xs : List α} {S : List SP} {i1 i2 i3 : Int} (hu : C.P.underlying T = some (.slice e)) (hR : TyOf C.P e R)
    (hx : Sub (opTy E x) (rV.ty v)) (hy : Sub (opTy E y) (tV (.int .i64 i1))) (hz : Sub (opTy E z) (tV (.int .i64 i2))) (hw : Sub (opTy E u) (tV (.int .i64 i3))) (e1 : i1 = j) (e2 : i2 = k) (e3 : i3 = l) (sel : Sel L [own e R v xs] S)
    (hjk : j ≤ k) (hkl : k ≤ l) (hl : l ≤ xs.length) :
    Step1 C ⟨d, .slice T x (some y) (some z) (some u), ty, pos, af, g⟩ E L tAny :=
  Step.of_run (by intro c h; cases h) fun a w h m lv sp st fr => by
    have hv : a.eval x = v := (fr.get hx).1
    have h1 : a.eval y = .int .i64 i1 := fr.get hy
    have h2 : a.eval z = .int .i64 i2 := fr.get hz
    have h3 : a.eval u = .int .i64 i3 := fr.get hw
    subst e1 e2 e3
    obtain ⟨m1, m2, d12, rfl, ho, s2⟩ := sel.one.1 st
    rcases ho with ⟨rfl, rfl, rfl⟩ | ⟨b, cap, cur, rfl, rfl, hlc, hm, hs, r⟩
    · have q1 : l = 0 := by simpa using hl
      have q2 : k = 0 := by omega
      have q3 : j = 0 := by omega
      subst q1 q2 q3
      exact ⟨(), .slice none 0 0, w, h, _, by simp [execOp, Instr.sliceAt, run_underlying hu, hv, h1, h2, h3, Instr.slice, Instr.sliceBounds, Instr.sliceBound, asIntOf, hR.size], HL.refl, sp, st, trivial⟩
    · exact ⟨(), _, w, h, _, by simp [execOp, Instr.sliceAt, run_underlying hu, hv, h1, h2, h3, Instr.slice, Instr.sliceBounds, Instr.sliceBound, asIntOf, hR.size, show l ≤ cap by omega, hkl, hjk]; rfl, HL.refl, sp, st, trivial⟩
theorem step_tailW {α : Type} {T e k : Nat} {R : Rp α} {x y : Operand} {v : Value} {xs : List α} {S : List SP} {i : Int} (hu : C.P.underlying T = some (.slice e)) (hR : TyOf C.P e R)
    (hx : Sub (opTy E x) (rV.ty v)) (hy : Sub (opTy E y) (tV (.int .i64 i))) (hi : i = k) (sel : Sel L [own e R v xs] S) (hn : k ≤ xs.length) (h0 : 0 < xs.length) :
    Step1 C ⟨d, .slice T x (some y) none none, ty, pos, af, g⟩ E L (tV (tailW v R.k k)) :=
  Step.of_run (by intro c h; cases h) fun a w h m l sp st fr => by
    have hv : a.eval x = v := (fr.get hx).1
    have h2 : a.eval y = .int .i64 i := fr.get hy
    subst hi
    obtain ⟨m1, m2, d12, rfl, ho, s2⟩ := sel.one.1 st
    refine ⟨(), tailW v R.k k, w, h, _, ?_, HL.refl, sp, st, rfl⟩
    rcases ho with ⟨rfl, rfl, rfl⟩ | ⟨b, cap, cur, rfl, rfl, hl, hm, hs, r⟩
    · simp at h0
    · by_cases hc : cap = k
      · simp [execOp, Instr.sliceAt, run_underlying hu, hv, h2, Instr.slice, Instr.sliceBounds, Instr.sliceBound, asIntOf, hR.size, hn, hc, addr_add, tailW]
      · simp [execOp, Instr.sliceAt, run_underlying hu, hv, h2, Instr.slice, Instr.sliceBounds, Instr.sliceBound, asIntOf, hR.size, hn, hc, addr_add, tailW]
/-- append(s[:i], s[i+1:]...) -/
theorem step_del {α : Type} {T e i : Nat} {R : Rp α} {x y : Operand} {v : Value} {xs : List α} {S : List SP} {bytes : Nat} {z : α} (hu : C.P.underlying T = some (.slice e)) (hE : ElT C.P e R bytes z)
    (hx : Sub (opTy E x) (tV (headV v i))) (hy : Sub (opTy E y) (tV (tailW v R.k (i + 1)))) (sel : Sel L [own e R v xs] S) (hi : i < xs.length) :
    Step C ⟨d, .call { callee := .builtin .append, args := #[x, y], argTypes := #[T, T] }, ty, pos, af, g⟩ E L (fun _ : Unit => tV (headV v (xs.length - 1))) (fun _ => own e R v (delR xs i) :: S) :=
  Step.of_run (by intro c h; cases h) fun a w h m l sp st fr => by
    have hv : a.eval x = headV v i := fr.get hx
    have hyv : a.eval y = tailW v R.k (i + 1) := fr.get hy
    obtain ⟨m1, m2, d12, rfl, ho, s2⟩ := sel.one.1 st
    obtain ⟨ii, zv, hii, hz, hk, hby, hzr⟩ := hE.inf
    have hop : ∀ u w', (Builtin.append_ #[T, T] ty #[headV v i, tailW v R.k (i + 1)]).run C.P w = .ok u w' →
        (execOp a.eval ⟨d, .call { callee := .builtin .append, args := #[x, y], argTypes := #[T, T] }, ty, pos, af, g⟩).run C.P w = .ok (.value u) w' := by
      intro u w' hr
      simp [execOp, resolve, invoke, builtin, hv, hyv, hr]
    rcases ho with ⟨rfl, rfl, _⟩ | ⟨b, cap, cur, rfl, rfl, hl, hm, hs, r⟩
    · simp at hi
    · by_cases hlast : i + 1 = xs.length
      · -- nothing to move
        refine ⟨(), _, w, h, (PH.one b (.cells cur e (0, 0))).join m2, hop _ _ (by
          show (Builtin.append_ #[T, T] ty #[.slice (some ⟨b, 0, none⟩) i cap, .slice _ (xs.length - (i + 1)) (cap - (i + 1))]).run C.P w = _
          rw [show xs.length - (i + 1) = 0 by omega]
          exact run_append_zero w T ty e ii hu hii _ _ i cap _ (by omega)), HL.refl, sp, ?_, ?_⟩
        · refine ⟨_, m2, d12, rfl, .inr ⟨b, cap, cur, by rw [delR_len hi], rfl, by rw [delR_len hi]; exact hl, hm, hs, ?_⟩, s2⟩
          have : delR xs i = xs := by
            rw [delR, show i + 1 = xs.length from hlast, List.drop_length, List.append_nil, show xs.length - 1 = i by omega, List.take_append_drop]
          rw [this]; exact r
        · show _ = headV _ _
          simp only [headV]; rw [show i = xs.length - 1 by omega]
      · have hb := sp.heap_own
        have hcl : cur.toList.length = cap * R.k := by simpa using hs
        have hle : (i + 1) * R.k ≤ xs.length * R.k := Nat.mul_le_mul_right _ (by omega)
        have hle2 : xs.length * R.k ≤ cap * R.k := Nat.mul_le_mul_right _ hl
        have hce : cap ≠ i + 1 := by omega
        have hrl := relAll_len r
        have rd := relAll_dropD (i + 1) r
        have hdl : ((cur.toList.take (xs.length * R.k)).drop ((i + 1) * R.k)).length = (xs.length - (i + 1)) * R.k := by have := relAll_len rd; rwa [List.length_drop (l := xs)] at this
        have hr' := run_append_room (P := C.P) w T ty e ii hu hii b i cap cur hb ⟨b, (i + 1) * R.k, none⟩ (xs.length - (i + 1)) (cap - (i + 1)) ((cur.toList.take (xs.length * R.k)).drop ((i + 1) * R.k)) (by rw [hk]; exact hdl)
          (fun j u hu' => by
            rw [addr_add, inw_cells (h := h) hb]
            rw [List.getElem?_drop, List.getElem?_take] at hu'
            split at hu'
            · simpa using hu'
            · cases hu') (relAll_one rd) (by omega)
          (by rw [hk, hdl, ← Nat.add_mul, hs]; exact Nat.mul_le_mul_right _ (by omega))
        have e0 : tailW (.slice (some ⟨b, 0, none⟩) xs.length cap) R.k (i + 1) = .slice (some ⟨b, (i + 1) * R.k, none⟩) (xs.length - (i + 1)) (cap - (i + 1)) := by simp only [tailW]; rw [if_neg hce, Nat.zero_add]
        rw [e0] at hop
        have hop' := hop _ _ hr'
        refine ⟨(), _, _, h, (PH.one b _).join m2, hop', HL.same ⟨rfl, rfl, rfl⟩, Sep.write d12 sp (fun b0 hne _ => setRow_other w b b0 _ hne) (setRow_heap w b cur _ e _ hb), ?_, ?_⟩
        · refine ⟨_, m2, PH.one_disj_iff.2 (PH.one_disj_iff.1 d12), rfl, .inr ⟨b, cap, _, by rw [delR_len hi], rfl, by rw [delR_len hi]; exact hl, hm, ?_, ?_⟩, s2⟩
          · have h3 : i * R.k ≤ cap * R.k := Nat.mul_le_mul_right _ (by omega)
            have h4 : i * R.k + (xs.length - (i + 1)) * R.k ≤ cap * R.k := by rw [← Nat.add_mul]; exact Nat.mul_le_mul_right _ (by omega)
            simp only [List.size_toArray, List.length_append, List.length_take, List.length_drop, hk, hcl, hdl] at *
            omega
          · rw [List.toList_toArray, delR_len hi, hk, hdl, ← Nat.add_mul, show i + (xs.length - (i + 1)) = xs.length - 1 by omega]
            have h5 : (xs.length - 1) * R.k + R.k = xs.length * R.k := by rw [← Nat.succ_mul]; congr 1; omega
            have h3 : i * R.k ≤ xs.length * R.k := Nat.mul_le_mul_right _ (by omega)
            have hA : (cur.toList.take (i * R.k)).length = i * R.k := by rw [List.length_take, hcl]; omega
            have hAB : (cur.toList.take (i * R.k) ++ (cur.toList.take (xs.length * R.k)).drop ((i + 1) * R.k)).length = (xs.length - 1) * R.k := by
              rw [List.length_append, hA, hdl, ← Nat.add_mul]; congr 1; omega
            rw [List.take_append, hAB, List.take_of_length_le (by rw [hAB]; omega)]
            refine relAll_append (relAll_append ?_ rd) ?_
            · have := relAll_take i r
              rwa [List.take_take, Nat.min_eq_left h3] at this
            · have := relAll_dropD (xs.length - 1) r
              rw [List.drop_take] at this
              exact this
        · show _ = headV _ _
          simp only [headV]; rw [show i + (xs.length - (i + 1)) = xs.length - 1 by omega]
theorem step_len_head {α : Type} {T e k : Nat} {R : Rp α} {x : Operand} {v : Value} {xs : List α} {S : List SP} (hu : C.P.underlying T = some (.slice e)) (hx : Sub (opTy E x) (tV (headV v k))) (sel : Sel L [own e R v xs] S) (h0 : 0 < xs.length) :
    Step1 C ⟨d, .call { callee := .builtin .len, args := #[x], argTypes := #[T] }, ty, pos, af, g⟩ E L (tV (.int .i64 (k : Int))) :=
  Step.of_run (by intro c h; cases h) fun a w h m l sp st fr => by
    have hv : a.eval x = headV v k := fr.get hx
    obtain ⟨m1, m2, d12, rfl, ho, s2⟩ := sel.one.1 st
    rcases ho with ⟨rfl, rfl, rfl⟩ | ⟨b, cap, cur, rfl, rfl, hl, hm, hs, r⟩
    · simp at h0
    · exact ⟨(), _, w, h, _, by simp [execOp, resolve, invoke, builtin, Builtin.len_, hv, run_underlying hu, goInt, headV], HL.refl, sp, st, rfl⟩
theorem rV_head {v : Value} {k : Nat} (hv : ∃ a n c, v = .slice (some a) n c) : Sub (tV (headV v k)) (rV.ty (headV v k)) := fun _ _ e => ⟨e, by obtain ⟨a, n, c, rfl⟩ := hv; have e := (show _ = headV _ k from e); subst e; rfl⟩
/-- The freed place: s[n-1:n] of the shorter slice. -/
theorem step_midW {α : Type} {T e : Nat} {R : Rp α} {x y u : Operand} {v : Value} {xs : List α} {S : List SP} {i1 i2 : Int} (hu : C.P.underlying T = some (.slice e)) (hR : TyOf C.P e R)
    (hx : Sub (opTy E x) (tV (headV v (xs.length - 1)))) (hy : Sub (opTy E y) (tV (.int .i64 i1))) (hz : Sub (opTy E u) (tV (.int .i64 i2))) (e1 : i1 = (xs.length - 1 : Nat)) (e2 : i2 = xs.length) (sel : Sel L [own e R v xs] S) (hn : 0 < xs.length) :
    Step1 C ⟨d, .slice T x (some y) (some u) none, ty, pos, af, g⟩ E L (tV (tailV v R.k (xs.length - 1))) :=
  Step.of_run (by intro c h; cases h) fun a w h m l sp st fr => by
    have hv : a.eval x = headV v (xs.length - 1) := fr.get hx
    have h1 : a.eval y = .int .i64 i1 := fr.get hy
    have h2 : a.eval u = .int .i64 i2 := fr.get hz
    subst e1 e2
    obtain ⟨m1, m2, d12, rfl, ho, s2⟩ := sel.one.1 st
    refine ⟨(), tailV v R.k (xs.length - 1), w, h, _, ?_, HL.refl, sp, st, rfl⟩
    rcases ho with ⟨rfl, rfl, rfl⟩ | ⟨b, cap, cur, rfl, rfl, hl, hm, hs, r⟩
    · simp at hn
    · have q1 : ¬ cap = xs.length - 1 := by omega
      simp only [headV] at hv
      have e1 : ((xs.length - 1 : Nat) : Int).toNat = xs.length - 1 := Int.toNat_natCast _
      simp [execOp, Instr.sliceAt, run_underlying hu, hv, h1, h2, Instr.slice, Instr.sliceBounds, Instr.sliceBound, asIntOf, hR.size, show xs.length ≤ cap by omega, show xs.length - 1 ≤ xs.length by omega, q1, addr_add, tailV]
/-- 'clear' of the freed place. -/
theorem step_clear1 {α : Type} {T e : Nat} {R : Rp α} {x : Operand} {v : Value} {xs : List α} {S : List SP} {bytes : Nat} {z : α} (hu : C.P.underlying T = some (.slice e)) (hE : ElT C.P e R bytes z)
    (hx : Sub (opTy E x) (tV (tailV v R.k (xs.length - 1)))) (sel : Sel L [own e R v xs] S) (hn : 0 < xs.length) :
    Step C ⟨d, .call { callee := .builtin .clear, args := #[x], argTypes := #[T] }, ty, pos, af, g⟩ E L (fun _ : Unit => tAny) (fun _ => own e R v (xs.take (xs.length - 1) ++ [z]) :: S) :=
  Step.of_run (by intro c h; cases h) fun a w h m l sp st fr => by
    have hv : a.eval x = tailV v R.k (xs.length - 1) := fr.get hx
    obtain ⟨m1, m2, d12, rfl, ho, s2⟩ := sel.one.1 st
    obtain ⟨ii, zv, hii, hz, hk, hby, hzr⟩ := hE.inf
    rcases ho with ⟨rfl, rfl, _⟩ | ⟨b, cap, cur, rfl, rfl, hl, hm, hs, r⟩
    · simp at hn
    · have hb := sp.heap_own
      have hcl : cur.toList.length = cap * R.k := by simpa using hs
      have rz := R.cells (hzr h)
      have hzl := R.len rz
      have hzs : zv.cells.size = R.k := by simpa using hzl
      have hzc : (Builtin.zeroCells zv.cells 1).toList = zv.cells.toList := by
        have := madeCells_flat zv hE.pos hzs 1
        rw [show Builtin.zeroCells zv.cells 1 = madeCells zv.cells (1 * R.k) by rw [← hzs]; rfl, this]
        simp
      have h5 : (xs.length - 1) * R.k + R.k = xs.length * R.k := by rw [← Nat.succ_mul]; congr 1; omega
      have hle : xs.length * R.k ≤ cap * R.k := Nat.mul_le_mul_right _ hl
      have hst := run_storeCells_at C.P b ((xs.length - 1) * R.k) e zv.cells.toList 0 cur w hb (by rw [hzl, hs]; omega) (R.one rz)
      simp only [Nat.add_zero] at hst
      simp only [tailV, Nat.zero_add] at hv
      rw [show xs.length - (xs.length - 1) = 1 by omega] at hv
      have hop : (execOp a.eval ⟨d, .call { callee := .builtin .clear, args := #[x], argTypes := #[T] }, ty, pos, af, g⟩).run C.P w = .ok (.value (.tuple #[])) (w.setRow b (cur.toList.take ((xs.length - 1) * R.k) ++ zv.cells.toList ++ cur.toList.drop ((xs.length - 1) * R.k + zv.cells.toList.length)).toArray) := by
        simp [execOp, resolve, invoke, builtin, hv, Builtin.clear_, run_underlying hu, zeroValue, typeInfo, hii, hz, hzc, hst]
      refine ⟨(), .tuple #[], _, h, (PH.one b _).join m2, hop, HL.same ⟨rfl, rfl, rfl⟩, Sep.write d12 sp (fun b0 hne _ => setRow_other w b b0 _ hne) (setRow_heap w b cur _ e _ hb), ?_, trivial⟩
      · have e1 : (xs.take (xs.length - 1) ++ [z]).length = xs.length := by simp only [List.length_append, List.length_take, List.length_singleton]; omega
        refine ⟨_, m2, PH.one_disj_iff.2 (PH.one_disj_iff.1 d12), rfl, .inr ⟨b, cap, _, by rw [e1], rfl, by rw [e1]; exact hl, hm, ?_, ?_⟩, s2⟩
        · simp only [List.size_toArray, List.length_append, List.length_take, List.length_drop, hcl, hzl]; omega
        · rw [List.toList_toArray, e1]
          have hA : (cur.toList.take ((xs.length - 1) * R.k) ++ zv.cells.toList).length = xs.length * R.k := by
            rw [List.length_append, List.length_take, hcl, hzl]; omega
          rw [List.take_left' hA]
          refine relAll_append ?_ ⟨_, [], by simp, rz, rfl⟩
          have := relAll_take (xs.length - 1) r
          rwa [List.take_take, Nat.min_eq_left (by omega)] at this
end
theorem LSub.headV {α : Type} {e k : Nat} {R : Rp α} {v : Value} {xs : List α} {L : List SP} (hk : k ≤ xs.length) (h0 : 0 < xs.length) : LSub (own e R v xs :: L) (own e R (Lg.headV v k) (xs.take k) :: L) := fun h m p => by
  obtain ⟨m1, m2, d, rfl, ho, s2⟩ := p
  refine ⟨m1, m2, d, _root_.rfl, ?_, s2⟩
  rcases ho with ⟨rfl, rfl, rfl⟩ | ⟨b, cap, cur, rfl, rfl, hl, hm, hs, r⟩
  · simp at h0
  · refine .inr ⟨b, cap, cur, by simp [Lg.headV, hk], _root_.rfl, by rw [List.length_take]; omega, hm, hs, ?_⟩
    have := relAll_take k r
    rwa [List.take_take, show min (k * R.k) (xs.length * R.k) = (xs.take k).length * R.k by rw [List.length_take, Nat.min_eq_left hk, Nat.min_eq_left (Nat.mul_le_mul_right _ hk)]] at this
/-! ### Growing from nothing -/
theorem run_append_nil_make {P : Program} (w : World) (t ti ty e : TypeId) (i : TypeInfo) (z : Value) (ht : P.underlying t = some (.slice e)) (hti : P.underlying ti = some (.int .i64)) (hi : P.info? e = some i) (hz : i.zero = some z) (hk : 0 < i.size) (n : Nat) (h0 : 0 < n) (h63 : (n : Int) ≤ 9223372036854775807) (h48 : n * i.bytes ≤ 281474976710656) :
    (Builtin.append_ #[t, ti] ty #[.slice none 0 0, .int .i64 n]).run P w =
      .ok (.slice (some ⟨w.heap.size, 0, none⟩) n (grownCap w n 0 e)) (w.drew.alloc (.cells (Builtin.zeroCells z.cells n ++ Builtin.zeroCells z.cells (grownCap w n 0 e - n)) e)) := by
  have hn : n ≠ 0 := by omega
  have h63' : ¬ (9223372036854775807 < (n : Int)) := by omega
  have h48' : ¬ (281474976710656 < Builtin.nextslicecap n 0 * i.bytes) := by rw [nextslicecap_zero h0]; omega
  have h48'' : ¬ (281474976710656 < (n : Int) * (i.bytes : Int)) := by
    have : ((n * i.bytes : Nat) : Int) ≤ 281474976710656 := by omega
    rw [Int.natCast_mul] at this; omega
  have hw : IntKind.i64.wrap (n : Int) = n := wrap64_in ⟨by omega, by omega⟩
  have hns : ¬ (n * i.size = 0) := Nat.mul_ne_zero (by omega) (by omega)
  have hmx : ¬ (9223372036854775807 < max (n : Int) 0) := by omega
  simp [Builtin.append_, run_underlying ht, run_underlying hti, Go.sizeOf, typeInfo, zeroValue, hi, hz, Builtin.lenOf, hn, hw, asInt, asIntOf, h63', h48', h48'', hns, hmx, Question.forced, run_firstCells_none, newRow, grownCap]
  intro q; exfalso; omega
section
variable {C : Cx} {E : Env} {L : List SP} {d : Option Nat} {ty : Nat} {pos : String} {af : Array Edge} {g : Option (Nat × Bool)}
theorem step_cap_nil {T e : Nat} {x : Operand} (hu : C.P.underlying T = some (.slice e)) (hx : Sub (opTy E x) (rV.ty (.slice none 0 0))) :
    Step1 C ⟨d, .call { callee := .builtin .cap, args := #[x], argTypes := #[T] }, ty, pos, af, g⟩ E L (tV (.int .i64 0)) :=
  Step.of_same (by intro c h; cases h) fun a w h hw fr => by
    have hv : a.eval x = .slice none 0 0 := (fr.get hx).1
    exact ⟨_, by simp [execOp, resolve, invoke, builtin, Builtin.cap_, hv, run_underlying hu, goInt], rfl⟩
theorem step_len_nil {T e : Nat} {x : Operand} (hu : C.P.underlying T = some (.slice e)) (hx : Sub (opTy E x) (rV.ty (.slice none 0 0))) :
    Step1 C ⟨d, .call { callee := .builtin .len, args := #[x], argTypes := #[T] }, ty, pos, af, g⟩ E L (tV (.int .i64 0)) :=
  Step.of_same (by intro c h; cases h) fun a w h hw fr => by
    have hv : a.eval x = .slice none 0 0 := (fr.get hx).1
    exact ⟨_, by simp [execOp, resolve, invoke, builtin, Builtin.len_, hv, run_underlying hu, goInt], rfl⟩
theorem step_slice_nil {T e : Nat} {α : Type} {R : Rp α} {x y : Operand} {z : Int} (hu : C.P.underlying T = some (.slice e)) (hR : TyOf C.P e R) (hx : Sub (opTy E x) (rV.ty (.slice none 0 0))) (hy : Sub (opTy E y) (tV (.int .i64 z))) (hz : z = 0) :
    Step1 C ⟨d, .slice T x none (some y) none, ty, pos, af, g⟩ E L (rV.ty (.slice none 0 0)) :=
  Step.of_run (by intro c h; cases h) fun a w h m l sp st fr => by
    have hv : a.eval x = .slice none 0 0 := (fr.get hx).1
    have h2 : a.eval y = .int .i64 z := fr.get hy
    subst hz
    refine ⟨(), .slice none 0 0, w, h, _, ?_, HL.refl, sp, st, ⟨rfl, rfl⟩⟩
    simp [execOp, Instr.sliceAt, run_underlying hu, hv, h2, Instr.slice, Instr.sliceBounds, Instr.sliceBound, asIntOf, hR.size]
theorem step_append_make {α : Type} {T Ti e bytes n : Nat} {R : Rp α} {z : α} {x y : Operand} {i : Int} (hu : C.P.underlying T = some (.slice e)) (hi : C.P.underlying Ti = some (.int .i64)) (hE : ElT C.P e R bytes z)
    (hx : Sub (opTy E x) (rV.ty (.slice none 0 0))) (hy : Sub (opTy E y) (tV (.int .i64 i))) (hn : i = n) (h0 : 0 < n) (hb : n * bytes ≤ 281474976710656) (h63 : n ≤ 4611686018427387904) :
    Step C ⟨d, .call { callee := .builtin .append, args := #[x, y], argTypes := #[T, Ti] }, ty, pos, af, g⟩ E L (fun v' : Value => rV.ty v') (fun v' => own e R v' (List.replicate n z) :: L) :=
  Step.of_run (by intro c h; cases h) fun a w h m l sp st fr => by
    have hv : a.eval x = .slice none 0 0 := (fr.get hx).1
    have h2 : a.eval y = .int .i64 i := fr.get hy
    subst hn
    obtain ⟨ii, zv, hii, hz, hk, hby, hzr⟩ := hE.inf
    have rz := R.cells (hzr h)
    have hzl := R.len rz
    have hzs : zv.cells.size = R.k := by simpa using hzl
    have hp := hE.pos
    have hr := run_append_nil_make (P := C.P) w T Ti ty e ii zv hu hi hii hz (by omega) n h0 (by omega) (by rw [hby]; exact hb)
    have hop : (execOp a.eval ⟨d, .call { callee := .builtin .append, args := #[x, y], argTypes := #[T, Ti] }, ty, pos, af, g⟩).run C.P w = .ok (.value (.slice (some ⟨w.heap.size, 0, none⟩) n (grownCap w n 0 e))) (w.drew.alloc (.cells (Builtin.zeroCells zv.cells n ++ Builtin.zeroCells zv.cells (grownCap w n 0 e - n)) e)) := by
      simp [execOp, resolve, invoke, builtin, hv, h2, hr]
    have hge := grownCap_ge w n 0 e
    have hzf : (Builtin.zeroCells zv.cells n).toList = (List.replicate n zv).flatMap fun v => v.cells.toList := by
      rw [show Builtin.zeroCells zv.cells n = madeCells zv.cells (n * R.k) by rw [← hzs]; rfl]
      exact madeCells_flat zv hE.pos hzs n
    have hra : Args h ((List.replicate n z).map R.ty) (List.replicate n zv) := by
      have : ∀ n : Nat, Args h ((List.replicate n z).map R.ty) (List.replicate n zv) := by
        intro n
        induction n with
        | zero => trivial
        | succ n ih => exact ⟨hzr h, ih⟩
      exact this n
    have hrf := relAll_flat hra
    have hlf := relAll_len hrf
    rw [List.length_replicate] at hlf
    refine ⟨_, _, _, h, (PH.one w.heap.size (.cells _ e)).join m, hop, HL.same (Same.drewAlloc _ _), Sep.drew sp |>.allocOwn (w := w.drew) _, ?_, ⟨rfl, rfl⟩⟩
    refine ⟨_, m, PH.disj_symm (PH.one_disj_new sp.mw _), rfl, .inr ⟨w.heap.size, _, _, by rw [List.length_replicate], rfl, by rw [List.length_replicate]; exact hge, grownCap_le_maxLen w _ _ _ (by unfold maxLen; omega), ?_, ?_⟩, st⟩
    · rw [Array.size_append, size_zeroCells, size_zeroCells, hzs, ← Nat.add_mul]; congr 1; omega
    · rw [List.length_replicate, Array.toList_append, hzf, List.take_append_of_le_length (by rw [hlf]; exact Nat.le_refl _), List.take_of_length_le (by rw [hlf]; exact Nat.le_refl _)]
      exact hrf
end
open Go Go.Proofs Go.Proofs.Tryz
def okP {α : Type} (tot : List α) : List α → Prop := fun l => l <+: tot
section
variable {C : Cx} {E : Env} {L : List SP} {d : Option Nat} {ty : Nat} {pos : String} {af : Array Edge} {g : Option (Nat × Bool)}
theorem step_load_nd {T U b n : Nat} {f : SF GPlan} {x : Operand} {k : Gnode} {S : List SP} (hR : TyOf C.P T f.R) (hx : Sub (opTy E x) (tAt b (SF.off fsPlE n))) (sel : Sel L [box b U rnodeE k] S) (hf : fsPlE[n]? = some f) :
    Step1 C ⟨d, .load T x, ty, pos, af, g⟩ E L (f.R.ty (f.get k.Plan)) :=
  Step.of_run (by intro c h; cases h) fun a w h m l sp st fr => by
    obtain ⟨m1, m2, d12, rfl, ⟨cs, r, rfl⟩, s2⟩ := sel.one.1 st
    have hb := sp.heap_own
    obtain ⟨c0, rest, rfl, r0, _⟩ := (show SF.rel h k fsnodeE cs from r)
    obtain ⟨c, rc, hc⟩ := SF.rel_field (show SF.rel h k.Plan fsPlE c0 from r0) hf
    have := run_loadVar_cells (b := b) (o := SF.off fsPlE n) (w := w) hR.agg hR.size (f.R.len rc) f.R.scalar (fun i v hv' => by
      rw [inw_cells (h := h) hb]
      have h1 := hc i v hv'
      have h2 := (List.getElem?_eq_some_iff.1 h1).1
      simpa [List.getElem?_append_left h2] using h1)
    refine ⟨(), packV f.R.agg c, w, h, _, ?_, HL.refl, sp, st, f.R.pack rc⟩
    have hv : a.eval x = .pointer (some ⟨b, SF.off fsPlE n, none⟩) := fr.get hx
    simp [execOp, Instr.loadAt, Instr.sureAddr, hv, this]
theorem step_addr_nd {n b : Nat} {x : Operand} {f : SF GPlan} (S : StructOf C.P 46 fsPlE) (hx : Sub (opTy E x) (tAt b 0)) (hf : fsPlE[n]? = some f) :
    Step1 C ⟨d, .fieldAddr 46 x n, ty, pos, af, g⟩ E L (tAt b (SF.off fsPlE n)) := step_fieldAt S hx hf (Nat.zero_add _)
end
/-- What a function hands back as own memory may be made immutable. -/
theorem Spec.frz {X : Type} {P : Program} {f : Nat} {As : List Ty} {res : X → Ty} {Lo : X → List SP} {B : Ty} (h : Spec P f As [] res Lo) (fz : ∀ x, Frz (Lo x) (res x) B) : Fun1 P f As B := fun vs h0 m r w ha sp st => by
  refine (h vs h0 m r w ha sp st).mono ?_
  rintro e w' ⟨x', v, h', m', he, l, s, st', hv⟩
  refine ⟨(), v, h'.join m', PH.emp, he, HL.trans l ⟨PH.le_join_left _ _, Same.refl _⟩, ?_, rfl, fz x' h' m' v s.hm st' hv⟩
  have s' : Sep h' (m'.join PH.emp) r w' := by rw [PH.join_emp]; exact s
  exact s'.freeze (PH.disj_emp _)
/-- A contract without own memory, beside own memory that stays. -/
theorem Spec.frame {X : Type} {P : Program} {f : Nat} {As : List Ty} {L : List SP} {res : X → Ty} {Lo : X → List SP} {B : SP} (h : Spec P f As L res Lo) : Spec P f As (B :: L) res (fun x => B :: Lo x) := fun vs h0 m r w ha sp st => by
  obtain ⟨m1, m2, d12, rfl, s1, s2⟩ := st
  have hm := PH.disj_join'.1 sp.hm
  have hr := PH.disj_join.1 sp.mr
  have s' : Sep h0 m2 (m1.join r) w := ⟨sp.inv, hm.2, PH.disj_join'.2 ⟨hm.1, sp.hr⟩, PH.disj_join'.2 ⟨PH.disj_symm d12, hr.2⟩, sp.hw, fun b o e => sp.mw _ _ (PH.le_join_right d12 _ _ e), PH.join_inw (fun b o e => sp.mw _ _ (PH.le_join_left _ _ _ _ e)) sp.rw⟩
  refine (h vs h0 m2 (m1.join r) w ha s' s2).mono ?_
  rintro e w' ⟨x', v, h', m', he, l, s, st', hv⟩
  have e1 := PH.disj_join'.1 s.hr
  have e2 := PH.disj_join'.1 s.mr
  refine ⟨x', v, h', m1.join m', he, l, ⟨s.inv, PH.disj_join'.2 ⟨e1.1, s.hm⟩, e1.2, PH.disj_join.2 ⟨hr.1, e2.2⟩, s.hw, PH.join_inw (fun b o e => s.rw _ _ (PH.le_join_left _ _ _ _ e)) s.mw, fun b o e => s.rw _ _ (PH.le_join_right hr.1 _ _ e)⟩, ⟨m1, m', PH.disj_symm e2.1, rfl, B.mono l.1 s1, st'⟩, hv⟩
/-- A variable and the slice in it, both made immutable. -/
theorem Frz.boxOwn {α : Type} {b T e : Nat} {R : Rp α} {v : Value} {xs : List α} {S : List SP} : Frz (Lg.box b T rV v :: Lg.own e R v xs :: S) (tAt b 0) (tPtr (rSl R) xs) := fun h m u d st hu => by
  obtain ⟨m1, m2, d12, e0, ⟨cs, r, e1⟩, st2⟩ := st
  subst e0 e1
  have hd := PH.disj_join'.1 d
  obtain ⟨rfl, h1⟩ := (show rV.rel h v cs from r)
  have ht := Frz.ownV (S := S) h m2 v hd.2 st2 rfl
  refine ⟨b, 0, [v], hu, ⟨#[v], T, (0, 0), ?_, fun i w hw => by simpa using hw⟩, ⟨v, rfl, ?_⟩⟩
  · exact PH.le_join_right d _ _ (PH.le_join_left _ _ _ _ (PH.one_same _ _))
  · refine (tSl R xs).mono ?_ ht
    refine PH.join_le (PH.le_join_left _ _) ?_
    exact PH.le_trans (PH.le_join_right d12) (PH.le_join_right d)
theorem LSub.stn {L : List SP} : LSub L (Lg.stars [] :: L) := fun h m p => ⟨PH.emp, m, PH.disj_emp_left m, (PH.emp_join m).symm, _root_.rfl, p⟩
theorem LSub.unemp {L : List SP} : LSub (Lg.stars [] :: L) L := fun h m ⟨m1, m2, d, e, h1, h2⟩ => by
  rw [show m1 = PH.emp from h1, PH.emp_join] at e; exact e ▸ h2
open Go Go.Proofs Go.Proofs.Tryz
/-! ### The cheapest -/
theorem cheapI_succ (f : Gnode → Int) (l : List Gnode) (i : Nat) : cheapI f l (i + 1) = if f (nth l i) < f (nth l (cheapI f l i)) then i else cheapI f l i := fold_rng
theorem cheapI_le {f : Gnode → Int} {l : List Gnode} {i : Nat} (h0 : 0 < l.length) (hi : i ≤ l.length) : cheapI f l i < l.length :=
  fold_rule (P := fun a => a < l.length) (fun a ha j hj => by have := List.mem_range.1 hj; split <;> omega) h0
theorem flat_le {α : Type} {ls : List (List α)} {i : Nat} : (ls.take i).flatten.length ≤ ls.flatten.length := by
  conv => rhs; rw [← List.take_append_drop i ls, List.flatten_append, List.length_append]
  omega
theorem flat_succ {α : Type} {ls : List (List α)} {i : Nat} (h : i < ls.length) : (ls.take (i + 1)).flatten = (ls.take i).flatten ++ nth ls i := by
  rw [takeB h, List.flatten_append]; simp
/-! ### In order -/
def upTo (l : List Int) (i : Nat) : Bool := (List.range (l.length - 1 - i)).all fun k => !decide (nth l (i + k + 1) < nth l (i + k))
theorem upTo_end {l : List Int} {i : Nat} (h : l.length - 1 ≤ i) : upTo l i = true := by
  unfold upTo; rw [show l.length - 1 - i = 0 by omega]; rfl
theorem upTo_zero (l : List Int) : upTo l 0 = sortedB l := by
  unfold upTo sortedB; simp
theorem upTo_step {l : List Int} {i : Nat} (h : i < l.length - 1) : upTo l i = (!decide (nth l (i + 1) < nth l i) && upTo l (i + 1)) := by
  unfold upTo
  rw [show l.length - 1 - i = (l.length - 1 - (i + 1)) + 1 by omega, List.range_succ_eq_map, List.all_cons, List.all_map]
  congr 1
  refine List.all_congr rfl fun k => ?_
  show (!decide (nth l (i + (k + 1) + 1) < nth l (i + (k + 1)))) = _
  rw [show i + (k + 1) = i + 1 + k by omega]
theorem sorted_not {l : List Int} {i : Nat} (hi : i < l.length - 1) (h : nth l (i + 1) < nth l i) : sortedB l = false := by
  unfold sortedB
  rw [List.all_eq_false]
  exact ⟨i, List.mem_range.2 hi, by simp [h]⟩
theorem del_end {α : Type} {xs : List α} {i : Nat} {z : α} (h : i < xs.length) : ((delR xs i).take ((delR xs i).length - 1) ++ [z]).take (xs.length - 1) = xs.eraseIdx i := by
  rw [delR_len h, List.take_append_of_le_length (by rw [List.length_take, delR_len h]; omega), List.take_take, Nat.min_self, delR_take h]
theorem K_addrOwn {α : Type} {e : Nat} {R : Rp α} {v : Value} {xs : List α} {C : Cx} {k : Act → World → Prop} {E : Env} {L S : List SP} (sel : Sel L [own e R v xs] S) (h0 : 0 < xs.length) (hk : (∃ a n c, v = .slice (some a) n c) → K C k E L) : K C k E L := fun a w p => by
  obtain ⟨h1, h2, h, m, l, sp, st, f⟩ := id p
  obtain ⟨m1, m2, d12, rfl, ho, s2⟩ := sel.one.1 st
  refine hk ?_ a w p
  rcases ho with ⟨rfl, rfl, rfl⟩ | ⟨g, cap, cur, rfl, rfl, hl, hm, hs, hr⟩
  · simp at h0
  · exact ⟨_, _, _, rfl⟩
theorem push1_spec (p : GPlan) (c : Int) (h0c : 0 ≤ c) (hc : c < (p.Cols.length : Int)) : Fun1 prog 155 [tV (.int .i64 c), tPtr rPlS p] (tV (.int .i64 (plcP p c))) := by
 refine Spec.enter func155 rfl rfl fun h0 w0 fr0 => ?_
 refine Jr (Ja rfl (JL_nil (Jr (Js rfl (step_fieldAddr so46E Sr rfl) (Jl rfl ty36 Sr ?_)))))
 refine Jm rfl ?_
 refine Js rfl (step_indexAddr_sl (i := c.toNat) underlying36 ty3 Sr Sr (by show c = _; omega) (gb (by show _ < p.Cols.length; omega))) ?_
 refine Jl rfl ty3 Sr (Ja rfl (JL_nil (J_ret ?_)))
 exact K_ret1 (t := 3) rfl () Sr
theorem push2_spec (p : GPlan) (c : Int) (h0c : 0 ≤ c) : Fun1 prog 157 [tV (.int .i64 c), tPtr rPlS p] (tV (.int .i64 (plcG p c))) := by
 refine Spec.enter func157 rfl rfl fun h0 w0 fr0 => ?_
 refine Jr (Ja rfl (JL_nil (J_seq (Jr (Jm rfl ?_)))))
 refine Js rfl (step_fieldAddr so46E Sr rfl) (Jl rfl ty36 Sr (Js rfl (step_len_sl underlying36 Sr) (Js rfl (step_lss Sr Sr) (JL_nil ?_))))
 refine J_cond Sr (fun h8 => ?_) (fun h8 => ?_)
 ·
  try simp only [NF] at h8
  refine Jr (Js rfl (step_fieldAddr so46E Sr rfl) (Jl rfl ty36 Sr (Jm rfl ?_)))
  refine Js rfl (step_indexAddr_sl (i := c.toNat) underlying36 ty3 Sr Sr (by show c = _; omega) (gb (by show _ < p.Cols.length; omega))) ?_
  refine Jl rfl ty3 Sr (Ja rfl (JL_nil (J_ret ?_)))
  exact K_ret1 (t := 3) rfl () (Sub.int (by rw [plcG, if_pos h8]))
 try simp only [NF] at h8
 refine J_skip (Jr (Ja rfl (JL_nil (J_ret ?_))))
 exact K_ret1 (t := 3) rfl () (Sub.int (by rw [plcG, if_neg zG]))
theorem join1_spec (p q : GPlan) (c : Int) (h0c : 0 ≤ c) (hc : c < (p.Attrs.length : Int)) (hq : q.Attrs.length ≤ 1000000000000) : Fun1 prog 222 [tV (.int .i64 c), tPtr rPlS q, tPtr rPlS p] (tV (.int .i64 (plcJ p q c))) := by
 refine Spec.enter func222 rfl rfl fun h0 w0 fr0 => ?_
 refine Jr (Ja rfl (JL_nil (J_seq ?_)))
 refine J_draw [⟨0, [1], true⟩, ⟨1, [5], true⟩, ⟨2, [2], true⟩, ⟨3, [7], true⟩, ⟨4, [0], true⟩, ⟨5, [8, 9], true⟩, ⟨6, [10], true⟩, ⟨7, [11], true⟩, ⟨8, [6, 12], true⟩, ⟨9, [13], true⟩] rfl (by kernel_rfl) ?_
 refine Mf rfl rfl (step_fieldAddr so46E Sr rfl) (Mf rfl rfl (step_load_ptr ty44 Sr) (Mf rfl rfl (step_fieldAddr so46E Sr rfl) (Mf rfl rfl (step_load_ptr ty44 Sr) (Mv rfl rfl ?_))))
 refine Mf rfl rfl (step_indexAddr_sl (i := c.toNat) underlying44 ty89 Sr Sr (by show c = _; omega) (gb (by show _ < p.Attrs.length; omega))) ?_
 refine Mf rfl rfl (step_fieldAddr so89 Sr rfl) (Mf rfl rfl (step_load_ptr ty9 Sr) (Mf rfl rfl (step_call0 (pcolumn_spec _ _ hq) ⟨Sr, Sr, trivial⟩ call219) (Mf rfl rfl (step_assign Sr) (JM_nil (J_ret ?_)))))
 exact K_ret1 (t := 4) rfl () Sr
theorem join2_spec (k : Gnode) : Fun1 prog 225 [rnodeE.ty k] (tV (.int .i64 k.size.rows)) := by
 refine Spec.enter func225 rfl rfl fun h0 w0 fr0 => ?_
 refine Jr (Js rfl (step_box (R := rnodeE) Sr) (Ja rfl (JL_nil (Jr (Js rfl (step_fieldAddr so152E Sr rfl) ?_)))))
 refine Js rfl (step_fieldAddr so150 Sr rfl) (Jl rfl ty3 Sr (Ja rfl (JL_nil (J_ret ?_))))
 exact K_ret1 (t := 2) rfl () Sr
theorem join3_spec (x : Gplanner) (a k : Gnode) (bo : Nat) (ha : a.Plan.Attrs.length ≤ 1000000) (hb : k.Plan.Attrs.length ≤ 1000000) (hm : MkOk x (GPl.mk 4 0 [] [] [] 0 0 (joinL a.Plan.Attrs k.Plan.Attrs)) [a, k]) : Spec (X := Unit) prog 226 [rnodeE.ty k, tPtr rplanner x, tAt bo 0] ([box bo 152 rnodeE a]) (fun _ => tV (.int .i64 (joinedM x a k).size.rows)) (fun _ => [box bo 152 rnodeE a]) := by
 refine Spec.enter func226 rfl rfl fun h0 w0 fr0 => ?_
 refine Jr (Js rfl (step_box (R := rnodeE) Sr) (Ja rfl (JL_nil (Jr (Jl rfl ty146 Sr ?_)))))
 refine Js rfl (step_load_box ty152E Sr zS) ?_
 refine Jl rfl ty152E Sr (Js rfl (step_call0 (joined_spec x a k ha hb hm) ⟨Sr, Sr, Sr, trivial⟩ call223) (Js rfl (step_field so152E Sr rfl) (Js rfl (step_field so150 Sr rfl) (Ja rfl (JL_nil ?_)))))
 refine J_ret ?_
 exact K_ret1 (t := 4) rfl () Sr
theorem isNaNI_spec (x : Int) : Fun1 prog 276 [tV (.int .i64 x)] (tV (.bool (!decide (x = x)))) := by
 refine Spec.enter func276 rfl rfl fun h0 w0 fr0 => ?_
 refine Jr (Ja rfl (JL_nil (Jr (Jm rfl (Jm rfl ?_)))))
 refine Js rfl (step_neq Sr Sr) (Ja rfl (JL_nil (J_ret ?_)))
 exact K_ret1 (t := 2) rfl () Sr
theorem lessI_spec (x y : Int) : Fun1 prog 201 [tV (.int .i64 x), tV (.int .i64 y)] (tV (.bool (decide (x < y)))) := by
 refine Spec.enter func201 rfl rfl fun h0 w0 fr0 => ?_
 refine Jr (Ja rfl (JL_nil (Jr (Jm rfl (Js rfl (step_call0 (isNaNI_spec x) ⟨Sr, trivial⟩ call276) ?_)))))
 refine Jm rfl ?_
 refine Jk rfl Sr rfl (step_move Sr) ?_
 refine Jg rfl Sr rfl (fun hw => step_call0 (isNaNI_spec y) ⟨(Sub.w hw), trivial⟩ call276) (Jg rfl Sr rfl (fun hw => step_not (Sub.w hw)) (Js rfl (step_pick_and Sr Sr) (Jm rfl ?_)))
 refine Jk rfl Sr rfl (step_move Sr) ?_
 refine Jk rfl Sr rfl (step_move Sr) ?_
 refine Jg rfl Sr rfl (fun hw => step_lss (Sub.w hw) (Sub.w hw)) (Js rfl (step_pick_or Sr Sr) (Ja rfl (JL_nil (J_ret ?_))))
 refine K_ret1 (t := 4) rfl () (Sub.bool (by simp))
theorem IsSortedI_spec (l : List Int) (hl : l.length ≤ 1000000000) : Fun1 prog 227 [tSl rInt l] (tV (.bool (sortedB l))) := by
 refine Spec.enter func227 rfl rfl fun h0 w0 fr0 => ?_
 refine Jr (Ja rfl (JL_nil (J_seq (Jr (Jm rfl ?_)))))
 refine Js rfl (step_len_sl underlying36 Sr) (Js rfl (step_sub Sr Sr z6) (Ja rfl (JL_nil (J_block ?_))))
 refine J_loopL (σ := Int) (fun i => -1 ≤ i ∧ i ≤ (l.length : Int) - 1 ∧ upTo l i.toNat = true) (fun i => upd (upd env0 0 (tSl rInt l)) 3 (tV (.int .i64 i))) (fun i => []) (fun i => i.toNat) ((l.length : Int) - 1) ⟨by omega, by omega, upTo_end zG⟩ (zU) (LSub.rfl) ?_
 rintro i hi
 refine J_seq (Jr (Jm rfl (Js rfl (step_gtr Sr Sr) (JL_nil ?_))))
 refine J_cond Sr (fun h8 => ?_) (fun h8 => ?_)
 ·
  try simp only [NF] at h8
  have hst := upTo_step (l := l) (i := i.toNat - 1) zG
  rw [show i.toNat - 1 + 1 = i.toNat by omega] at hst
  refine J_skip (J_seq (J_block (J_seq ?_)))
  refine J_draw [⟨0, [0], true⟩, ⟨1, [3], true⟩, ⟨2, [11, 12], true⟩, ⟨3, [13], true⟩, ⟨4, [0], true⟩, ⟨5, [3], true⟩, ⟨6, [16], true⟩, ⟨7, [15, 17], true⟩, ⟨8, [18], true⟩, ⟨9, [14, 19], true⟩] rfl (by kernel_rfl) ?_
  refine Mv rfl rfl (Mv rfl rfl (Mf rfl rfl (step_indexAddr_sl (i := i.toNat) underlying36 ty3 Sr Sr zG (gb zG)) (Mf rfl rfl (step_load_ptr ty3 Sr) (Mv rfl rfl (Mv rfl rfl ?_)))))
  refine Mf rfl rfl (step_sub Sr Sr z6) (Mf rfl rfl (step_indexAddr_sl (i := (i.toNat - 1)) underlying36 ty3 Sr Sr zG (gb zG)) (Mf rfl rfl (step_load_ptr ty3 Sr) (Mf rfl rfl (step_call0 (lessI_spec (nth l i.toNat) (nth l (i.toNat - 1))) ⟨Sr, Sr, trivial⟩ call201) (JM_nil ?_))))
  refine J_cond Sr (fun h20 => ?_) (fun h20 => ?_)
  ·
   try simp only [NF] at h20
   refine Jr (Ja rfl (JL_nil (J_ret ?_)))
   refine K_ret1 (t := 2) rfl () (Sub.bool (Eq.symm ?_))
   exact sorted_not (i := i.toNat - 1) zG (by rw [show i.toNat - 1 + 1 = i.toNat by omega]; exact h20)
  try simp only [NF] at h20
  refine J_skip (J_region (Jm rfl (Js rfl (step_sub Sr Sr z6) (Ja rfl (JL_nil ?_)))))
  refine K_againL (σ := Int) (s := i) (i - 1) zO ?_ (zU) (LSub.rfl)
  refine ⟨by omega, by omega, ?_⟩
  rw [show (i - 1).toNat = i.toNat - 1 by omega, hst, hi.2.2, Bool.and_true, Bool.not_eq_true', decide_eq_false_iff_not]
  omega
 try simp only [NF] at h8
 have hi0 : i.toNat = 0 := by omega
 have hsb := hi.2.2
 rw [hi0, upTo_zero] at hsb
 refine J_exit (Jr (Ja rfl (JL_nil (J_ret ?_))))
 exact K_ret1 (t := 2) rfl () (Sub.bool hsb.symm)
theorem Grow0_spec (n : Nat) (hn : n ≤ 1000000) : Spec (X := Value) prog 220 [rV.ty (.slice none 0 0), tV (.int .i64 n)] ([]) (fun z => rV.ty z) (fun z => [own 93 rTest z []]) := by
 refine Spec.enter func220 rfl rfl fun h0 w0 fr0 => ?_
 refine Jr (Ja rfl (JL_nil (J_seq (Jr (Jm rfl ?_)))))
 refine Js rfl (step_lss Sr Sr) (JL_nil ?_)
 refine J_cond Sr (fun h6 => ?_) (fun h6 => ?_)
 ·
  try simp only [NF] at h6
  omega
 try simp only [NF] at h6
 refine J_skip (J_seq (Jr (Jm rfl (Jm rfl (Js rfl (step_cap_nil underlying43 Sr) ?_)))))
 refine Jm rfl (Js rfl (step_len_nil underlying43 Sr) (Js rfl (step_sub Sr Sr z6) (Js rfl (step_sub Sr Sr z6) (Ja rfl (JL_nil ?_)))))
 refine Jr (Jm rfl (Js rfl (step_gtr Sr Sr) (JL_nil ?_)))
 refine J_cond Sr (fun h16 => ?_) (fun h16 => ?_)
 ·
  try simp only [NF] at h16
  refine J_region (Jm rfl (Jm rfl (Js rfl (step_cap_nil underlying43 Sr) (Js rfl (step_slice_nil underlying43 ty93 Sr Sr rfl) (Jm rfl ?_)))))
  refine Jx rfl (step_append_make (n := n) underlying43 underlying3 el93 Sr Sr zG zG zG zG) fun v22 => ?_
  refine Jm rfl (Js rfl (step_len_nil underlying43 Sr) ?_)
  refine Jx rfl (step_slice_own (n := 0) underlying43 ty93 Sr Sr (by rfl) zS (by exact Nat.zero_le _)) fun v25 => ?_
  refine Ja rfl (JL_nil (Jr (Jm rfl (Ja rfl (JL_nil ?_)))))
  refine J_ret ?_
  refine K_retv (rv := .tmp 4) rfl v25 (.tmp Sr) Sr
 try simp only [NF] at h16
 refine J_skip (Jr (Jm rfl (Ja rfl (JL_nil (J_ret ?_)))))
 refine K_lsub (LSub.nilown (e := 93) (R := rTest)) ?_
 refine K_retv (rv := .tmp 4) rfl (.slice none 0 0 : Value) (.tmp Sr) Sr
set_option maxHeartbeats 1000000 in
theorem ConcatT_spec (ls : List (List GTest)) (hn : ls.length ≤ 1000) (hl : ls.flatten.length ≤ 1000000) : Spec (X := Value) prog 152 [tSl (rSl rTest) ls] ([]) (fun z => rV.ty z) (fun z => [own 93 rTest z ls.flatten]) := by
 refine Spec.enter func152 rfl rfl fun h0 w0 fr0 => ?_
 refine Jr (Ja rfl (JL_nil (Jr (Ja rfl (JL_nil ?_)))))
 refine J_seq (Jr (Jm rfl (Js rfl (step_len_sl underlying241 Sr) (Jm rfl (JL_nil ?_)))))
 refine J_block ?_
 refine J_loopL (σ := Nat) (fun i => i ≤ ls.length) (fun i => upd (upd (upd (upd (upd (upd env0 0 (tSl (rSl rTest) ls)) 2 (tV (.slice none 0 0))) 3 (tV (.int .i64 ((ls.take i).flatten.length : Nat)))) 9 (tSl (rSl rTest) ls)) 10 (tV (.int .i64 ls.length))) 11 (tV (.int .i64 i))) (fun i => []) (fun i => ls.length - i) 0 (by exact Nat.zero_le _) (zU) (LSub.rfl) ?_
 rintro i hi
 refine Jr (Js rfl (step_lss Sr Sr) (JL_nil (J_seq ?_)))
 refine J_cond Sr (fun h12 => ?_) (fun h12 => ?_)
 ·
  try simp only [NF] at h12
  have hlt : i < ls.length := by omega
  refine J_skip (J_seq (J_block (Jr ?_)))
  refine Js rfl (step_indexAddr_sl (i := i) underlying241 ty43 Sr Sr (by rfl) (gb (by exact hlt))) ?_
  refine Jl rfl ty43 Sr (Ja rfl (JL_nil (Jr (Jm rfl (Jm rfl ?_)))))
  refine Js rfl (step_len_sl underlying43 Sr) ?_
  refine Js rfl (step_add Sr Sr (by have := flat_le (ls := ls) (i := i + 1); rw [flat_succ hlt, List.length_append] at this; unfold in64; omega)) ?_
  refine Ja rfl (JL_nil (Jr (Jm rfl (Js rfl (step_lss Sr Sr) (JL_nil ?_)))))
  refine J_cond Sr (fun h20 => ?_) (fun h20 => ?_)
  ·
   try simp only [NF] at h20
   omega
  try simp only [NF] at h20
  refine J_skip (J_region (Js rfl (step_add Sr Sr z6) (Jm rfl (JL_nil ?_))))
  refine K_againL (σ := Nat) (s := i) (i + 1) zO zG (.u (.u (.u (SubE.upd (Sub.int (by rw [flat_succ hlt, List.length_append, Int.natCast_add])) (zU))))) (LSub.rfl)
 try simp only [NF] at h12
 obtain rfl : i = ls.length := by omega
 refine J_exit (Jr (Jm rfl ?_))
 refine Jx rfl (step_call (Sel.none _) (Grow0_spec ls.flatten.length hl) ⟨Sub.rV rfl, Sub.int (by rw [List.take_length]), trivial⟩ call220) fun v24 => ?_
 refine Ja rfl (JL_nil (J_seq (Jr (Jm rfl (Js rfl (step_len_sl underlying241 Sr) ?_)))))
 refine Jm rfl (JL_nil (J_block ?_))
 refine J_loopL (σ := Nat × Value) (fun ⟨i, vo⟩ => i ≤ ls.length) (fun ⟨i, vo⟩ => upd (upd (upd (upd (upd env0 2 (tV (.slice none 0 0))) 6 (rV.ty vo)) 25 (tSl (rSl rTest) ls)) 26 (tV (.int .i64 ls.length))) 27 (tV (.int .i64 i))) (fun ⟨i, vo⟩ => [own 93 rTest vo (ls.take i).flatten]) (fun ⟨i, vo⟩ => ls.length - i) (0, v24) (by exact Nat.zero_le _) (zU) (zL) ?_
 rintro ⟨i, vo⟩ hi
 try dsimp only at hi
 refine Jr (Js rfl (step_lss Sr Sr) (JL_nil (J_seq ?_)))
 refine J_cond Sr (fun h28 => ?_) (fun h28 => ?_)
 ·
  try simp only [NF] at h28
  have hlt : i < ls.length := by omega
  refine J_skip (J_seq (J_block (Jr ?_)))
  refine Js rfl (step_indexAddr_sl (i := i) underlying241 ty43 Sr Sr (by rfl) (gb (by exact hlt))) ?_
  refine Jl rfl ty43 Sr (Ja rfl (JL_nil (J_region (Jm rfl (Jm rfl ?_)))))
  refine Jx rfl (step_append underlying43 el93 Sr Sr zS (by have := flat_le (ls := ls) (i := i + 1); rw [flat_succ hlt, List.length_append] at this; omega) (by have := flat_le (ls := ls) (i := i + 1); rw [flat_succ hlt, List.length_append] at this; omega)) fun v33 => ?_
  refine Ja rfl (JL_nil (J_region (Js rfl (step_add Sr Sr z6) (Jm rfl (JL_nil ?_)))))
  refine K_againL (σ := Nat × Value) (s := (i, vo)) (i + 1, v33) zO (by show i + 1 ≤ _; omega) (zU) (.c zS (SPs.of (A := own 93 rTest v33 ((ls.take i).flatten ++ nth ls i)) (by rw [flat_succ hlt])) (LSub.nil))
 try simp only [NF] at h28
 obtain rfl : i = ls.length := by omega
 refine J_exit (Jr (Jm rfl (Ja rfl (JL_nil (J_ret ?_)))))
 refine K_lsub (L' := [own 93 rTest vo ls.flatten]) (.c zS (SPs.of (A := own 93 rTest vo (ls.take ls.length).flatten) (by rw [List.take_length])) (LSub.nil)) ?_
 refine K_retv (rv := .tmp 2) rfl vo (.tmp Sr) Sr
theorem CloneN_spec (l : List Gnode) (hl : l.length ≤ 1000000000) : Spec (X := Value) prog 291 [tSl rnodeE l] ([]) (fun v => rV.ty v) (fun v => [own 152 rnodeE v l]) := by
 refine Spec.enter func291 rfl rfl fun h0 w0 fr0 => ?_
 refine Jr (Ja rfl (JL_nil (J_seq (Jr (Jm rfl ?_)))))
 refine Jx rfl (step_eql_slnil underlying197 Sr) fun v4 => ?_
 refine JL_nil ?_
 refine J_cond Sr (fun h4 => ?_) (fun h4 => ?_)
 ·
  try simp only [NF] at h4
  refine Jr (Ja rfl (JL_nil (J_ret ?_)))
  have hl0 := v4.2 h4
  subst hl0
  refine K_lsub (LSub.nilown (e := 152) (R := rnodeE)) ?_
  refine K_ret1' (rv := .tmp 2) rfl (.slice none 0 0) (Sel.none _) (.tmp (Sub.rV rfl)) (Frz.sub Sr)
 try simp only [NF] at h4
 refine J_skip (Jr ?_)
 refine Jx rfl (step_literal_own (ys := []) underlying197 el152E trivial rfl (by decide)) fun v5 => ?_
 refine Jm rfl ?_
 refine Jx rfl (step_append underlying197 el152E Sr Sr zS (by simp; omega) (by simp; omega)) fun v7 => ?_
 refine Ja rfl (JL_nil (J_ret ?_))
 refine K_ret1' (rv := .tmp 2) rfl v7 (Sel.none _) (.tmp Sr) (Frz.sub Sr)
set_option maxHeartbeats 1000000 in
theorem DeleteN_spec (v : Value) (l : List Gnode) (i : Nat) (hi : i < l.length) (hl : l.length ≤ 1000000000) : Spec (X := Value) prog 290 [rV.ty v, tV (.int .i64 i), tV (.int .i64 ((i : Int) + 1))] ([own 152 rnodeE v l]) (fun z => rV.ty z) (fun z => [own 152 rnodeE z (l.eraseIdx i)]) := by
 refine Spec.enter func290 rfl rfl fun h0 w0 fr0 => ?_
 refine K_addrOwn zS zG fun hsh => ?_
 refine Jr (Ja rfl (JL_nil (Jr (Jm rfl (Jm rfl ?_)))))
 refine Jm rfl (Jm rfl ?_)
 refine Js rfl (step_len_own underlying197 Sr zS) ?_
 refine Js rfl (step_slice3 (j := i) (k := i + 1) (l := l.length) underlying197 ty152E Sr Sr Sr Sr rfl rfl rfl zS zG zG zG) ?_
 refine JL_nil (J_seq (Jr (Jm rfl (Jm rfl (Js rfl (step_eql Sr Sr) ?_)))))
 refine JL_nil ?_
 refine J_cond Sr (fun h16 => ?_) (fun h16 => ?_)
 ·
  try simp only [NF] at h16
  omega
 try simp only [NF] at h16
 refine J_skip (Jr (Jm rfl ?_))
 refine Js rfl (step_len_own underlying197 Sr zS) ?_
 refine Ja rfl (JL_nil (J_seq ?_))
 refine J_drawX [⟨0, [0], 0⟩, ⟨1, [1], 0⟩, ⟨3, [0], 0⟩, ⟨4, [2], 0⟩, ⟨2, [20, 21], 1⟩, ⟨5, [23, 24], 1⟩, ⟨6, [22, 25], 2⟩, ⟨7, [26], 0⟩] rfl (by kernel_rfl) ?_
 refine JX_step rfl rfl rfl rfl (fun _ => step_move Sr) ?_
 refine JX_step rfl rfl rfl rfl (fun _ => step_move Sr) ?_
 refine JX_step rfl rfl rfl rfl (fun _ => step_move Sr) ?_
 refine JX_step rfl rfl rfl rfl (fun _ => step_move Sr) ?_
 refine JX_look rfl rfl rfl rfl (step_head (k := i) underlying197 ty152E Sr Sr rfl zS hi) ?_
 refine JX_look rfl rfl rfl rfl (step_tailW (k := i + 1) underlying197 ty152E Sr Sr rfl zS hi zG) ?_
 refine JX_stepX rfl rfl rfl rfl (step_del (i := i) underlying197 el152E Sr Sr zS hi) fun _ => ?_
 refine JX_step rfl rfl rfl rfl (fun _ => step_assign Sr) ?_
 refine JX_nil (Jr (Jm rfl (Jm rfl ?_)))
 refine Js rfl (step_len_head underlying197 Sr zS (by rw [delR_len hi]; omega)) ?_
 refine Jm rfl ?_
 refine Js rfl (step_midW (xs := delR l i) underlying197 ty152E (by rw [delR_len hi]; exact Sr) Sr Sr (by rw [delR_len hi]) (by rw [delR_len hi]) zS (by rw [delR_len hi]; omega)) ?_
 refine Ju (step_clear1 (xs := delR l i) underlying197 el152E Sr zS (by rw [delR_len hi]; omega)) fun _ => ?_
 refine JL_nil (Jr (Jm rfl (Ja rfl (JL_nil (J_ret ?_)))))
 refine K_lsub (L' := [own 152 rnodeE (headV v (l.length - 1)) (l.eraseIdx i)]) (LSub.trans (LSub.headV (k := l.length - 1) (by rw [List.length_append, List.length_take, delR_len hi, List.length_singleton]; omega) (by rw [List.length_append, List.length_singleton]; omega)) (LSub.of (by rw [del_end hi]))) ?_
 refine K_retv (rv := .tmp 6) rfl (headV v (l.length - 1)) (.tmp (rV_head hsh)) Sr
set_option maxHeartbeats 2000000 in
theorem cheapest_spec (l : List Gnode) (f : Gnode → Int) (gf : Nat) (As : List Ty) (B : SP) (hp : ∀ k ∈ l, Spec (X := Unit) prog gf ([rnodeE.ty k] ++ As) [B] (fun _ => tV (.int .i64 (f k))) (fun _ => [B])) (he : ∀ args w, (callFunc gf args).run prog w = .ok (.enter gf args) w) (h0l : 0 < l.length) (hl : l.length ≤ 1000000) : Spec (X := Unit) prog 224 [tSl rnodeE l, tClo gf As] ([B]) (fun _ => tTup [rnodeE.ty (cheapM f l).1, tSl rnodeE (cheapM f l).2]) (fun _ => [B]) := by
 refine Spec.enter func224 rfl rfl fun h0 w0 fr0 => ?_
 refine Jr ?_
 refine Jx rfl (step_alloc (fun w => zeroValue152 w) zr152E) fun b4 => ?_
 refine Ja rfl (JL_nil (Jr (Ja rfl (JL_nil (J_seq ?_)))))
 refine Jr (Jm rfl (Js rfl (step_len_sl underlying197 Sr) (Jm rfl (JL_nil (J_block ?_)))))
 refine J_loopL (σ := Nat) (fun i => i ≤ l.length) (fun i => upd (upd (upd (upd (upd (upd (upd (upd env0 0 (tSl rnodeE l)) 1 (tClo gf As)) 4 (tAt b4 0)) 5 (tV (.slice none 0 0))) 6 (tV (.int .i64 ((cheapI f l i) : Nat)))) 9 (tSl rnodeE l)) 10 (tV (.int .i64 l.length))) 11 (tV (.int .i64 i))) (fun i => [box b4 152 rnodeE ⟨GPl.zero, zsize⟩, B]) (fun i => l.length - i) 0 (by exact Nat.zero_le _) (zU) (zL) ?_
 rintro i hi
 refine Jr (Js rfl (step_lss Sr Sr) (JL_nil (J_seq ?_)))
 refine J_cond Sr (fun h12 => ?_) (fun h12 => ?_)
 ·
  try simp only [NF] at h12
  have hlt : i < l.length := by omega
  have hci := cheapI_le (f := f) h0l hi
  refine J_skip (J_seq (J_block (Jr (Jm rfl ?_))))
  refine Js rfl (step_indexAddr_sl (i := i) underlying197 ty152E Sr Sr (by rfl) (gb (by exact hlt))) ?_
  refine Jl rfl ty152E Sr ?_
  refine Jx rfl (step_alloc (fun w => zeroValue152 w) zr152E) fun b8 => ?_
  refine Ja rfl ?_
  refine Ju (step_store_box ty152E Sr Sr zS) fun _ => ?_
  refine JL_freeze (t := 8) (Sel.take (Sel.none _)) Frz.box ?_
  refine JL_nil (J_seq ?_)
  refine J_draw [⟨0, [1], true⟩, ⟨1, [8], true⟩, ⟨3, [1], true⟩, ⟨4, [0], true⟩, ⟨5, [6], true⟩, ⟨6, [20, 21], true⟩, ⟨7, [22], true⟩, ⟨2, [16, 17], false⟩, ⟨8, [19, 23], false⟩, ⟨9, [18, 24], true⟩] rfl (by kernel_rfl) ?_
  refine Mv rfl rfl (Mf rfl rfl (step_load_ptr ty152E Sr) (Mv rfl rfl (Mv rfl rfl (Mv rfl rfl ?_))))
  refine Mf rfl rfl (step_indexAddr_sl (i := (cheapI f l i)) underlying197 ty152E Sr Sr (by rfl) (gb (by exact hci))) ?_
  refine Mf rfl rfl (step_load_ptr ty152E Sr) ?_
  refine JM_stepX rfl rfl rfl rfl (step_callv (aT := [_]) Sr zS (hp _ (nth_mem hlt)) ⟨Sr, trivial⟩ he) fun v18 => ?_
  refine JM_stepX rfl rfl rfl rfl (step_callv (aT := [_]) Sr zS (hp _ (nth_mem hci)) ⟨Sr, trivial⟩ he) fun v24 => ?_
  refine Mf rfl rfl (step_lss Sr Sr) (JM_nil ?_)
  refine J_cond Sr (fun h25 => ?_) (fun h25 => ?_)
  ·
   try simp only [NF] at h25
   refine J_region (Jm rfl (Ja rfl (JL_nil (J_region (Js rfl (step_add Sr Sr z6) ?_)))))
   refine Jm rfl (JL_nil ?_)
   refine K_againL (σ := Nat) (s := i) (i + 1) zO zG (.u (.u (.u (SubE.upd (Sub.int (by rw [cheapI_succ, if_pos h25])) (zU))))) (zL)
  try simp only [NF] at h25
  refine J_skip (J_region (Js rfl (step_add Sr Sr z6) (Jm rfl (JL_nil ?_))))
  refine K_againL (σ := Nat) (s := i) (i + 1) zO zG (.u (.u (.u (SubE.upd (Sub.int (by rw [cheapI_succ, if_neg zG])) (zU))))) (zL)
 try simp only [NF] at h12
 obtain rfl : i = l.length := by omega
 have hcl := cheapI_le (f := f) h0l (Nat.le_refl _)
 refine J_exit (J_seq ?_)
 refine J_drawX [⟨0, [0], 0⟩, ⟨1, [6], 0⟩, ⟨2, [28, 29], 0⟩, ⟨3, [30], 0⟩, ⟨4, [0], 0⟩, ⟨6, [6], 0⟩, ⟨7, [6], 0⟩, ⟨8, [35], 0⟩, ⟨5, [32], 2⟩, ⟨9, [33, 34, 36], 2⟩, ⟨10, [4, 31], 2⟩, ⟨11, [37], 0⟩] rfl (by kernel_rfl) ?_
 refine JX_step rfl rfl rfl rfl (fun _ => step_move Sr) ?_
 refine JX_step rfl rfl rfl rfl (fun _ => step_move Sr) ?_
 refine JX_step rfl rfl rfl rfl (fun _ => step_indexAddr_sl (i := (cheapI f l l.length)) underlying197 ty152E Sr Sr (by rfl) (gb (by exact hcl))) ?_
 refine JX_step rfl rfl rfl rfl (fun _ => step_load_ptr ty152E Sr) ?_
 refine JX_step rfl rfl rfl rfl (fun _ => step_move Sr) ?_
 refine JX_step rfl rfl rfl rfl (fun _ => step_move Sr) ?_
 refine JX_step rfl rfl rfl rfl (fun _ => step_move Sr) ?_
 refine JX_step rfl rfl rfl rfl (fun _ => step_add Sr Sr z6) ?_
 refine JX_stepX rfl rfl rfl rfl (step_call (Sel.none _) (CloneN_spec l zG) ⟨Sr, trivial⟩ call291) fun v33 => ?_
 refine JX_stepX rfl rfl rfl rfl (step_call zS (DeleteN_spec v33 l (cheapI f l l.length) hcl zG) ⟨Sr, Sr, Sr, trivial⟩ call290) fun v37 => ?_
 refine JX_stepU rfl rfl rfl (step_store_box ty152E Sr Sr zS) fun _ => ?_
 refine JX_step rfl rfl rfl rfl (fun _ => step_assign Sr) ?_
 refine JX_nil (J_ret ?_)
 refine K_ret2' (rv := .cell 4 152) (rv' := .tmp 5) (S := [_, _]) rfl () (by first | exact Sel.take (Sel.take (Sel.none _)) | exact Sel.take (Sel.skip (Sel.take (Sel.none _))) | exact Sel.skip (Sel.take (Sel.take (Sel.none _)))) (.cell (R := rnodeE) ty152E Sr zS Sr) (.tmp Sr) (B := rnodeE.ty (cheapM f l).1) (B' := tSl rnodeE (cheapM f l).2) (Frz.sub Sr) (by first | exact Frz.own | exact Frz.skip Frz.own) Sr
open Go Go.Proofs Go.Proofs.Tryz
def inK (n : Nat) (k : GPlan) : List GPlan := if k.Kind = 4 then inputsM n k else [k]
theorem inputs_eq (n : Nat) (p : GPlan) : inputsM (n + 1) p = p.Kids.flatMap (inK n) := rfl
def tPl (q : GPlan) : List Ty := [rPlS.ty q]
theorem in_succ {n : Nat} {l : List GPlan} {i : Nat} (h : i < l.length) : (l.take (i + 1)).flatMap (inK n) = (l.take i).flatMap (inK n) ++ inK n (nth l i) := by rw [takeB h, List.flatMap_append]; simp
theorem in_pre {n : Nat} {l : List GPlan} {i : Nat} (h : i < l.length) : (l.take i).flatMap (inK n) ++ inK n (nth l i) <+: l.flatMap (inK n) := by
  rw [← in_succ h]
  conv => rhs; rw [← List.take_append_drop (i + 1) l, List.flatMap_append]
  exact List.prefix_append _ _
theorem inK_4 {n : Nat} {k : GPlan} (h : k.Kind = 4) : inK n k = inputsM n k := if_pos h
theorem inK_n {n : Nat} {k : GPlan} (h : ¬ k.Kind = 4) : inK n k = [k] := if_neg h
theorem ty102Y {tot : List GPlan} {M Mx : List GPlan → SP} : TyOf prog 102 (rY prog tPl (okP tot) M Mx) := ⟨fun w => isAgg102 w, fun w => sizeOf102 w⟩
def InpS (n : Nat) : Prop := ∀ p : GPlan, Dep n p → PSz p → ItSpec prog 289 [tPtr rPlS p] [] tPl (okP (inputsM n p)) (fun l => l = inputsM n p)
theorem inputs_spec (p : GPlan) : Fun1 prog 221 [rPlS.ty p] (tClo 289 [tPtr rPlS p]) := by
 refine Spec.enter func221 rfl rfl fun h0 w0 fr0 => ?_
 refine Jr (Js rfl (step_box (R := rPlS) Sr) (Ja rfl (JL_nil (Jr (Js rfl (step_makeFunc (As := [_]) ⟨Sr, trivial⟩) ?_)))))
 refine Ja rfl (JL_nil (J_ret ?_))
 exact K_ret1 (t := 2) rfl () Sr
theorem inp_zero : InpS 0 := fun p hd => hd.elim
set_option maxHeartbeats 2000000 in
theorem inputs1_spec (n : Nat) (ih : InpS n) (p : GPlan) (hd : Dep (n + 1) p) (hz : PSz p) : ItSpec prog 289 [tPtr rPlS p] [] (tPl) (okP (inputsM (n + 1) p)) (fun l => l = (inputsM (n + 1) p)) := by
 intro M Mx
 refine Spec.enter func289 rfl rfl fun h0 w0 fr0 => ?_
 have hkl : p.Kids.length ≤ 9223372036854775807 := (hz 1).1
 refine Jr (Js rfl (step_box (R := rY prog tPl (okP (inputsM (n + 1) p)) M Mx) (y := ()) Sr) (JL_nil (Jr (Js rfl (step_fieldAddr so46E Sr rfl) (Jl rfl ty42E Sr ?_)))))
 refine Js rfl (step_len_sl underlying42 Sr) (Jm rfl (JL_nil (J_block ?_)))
 refine J_loopD (σ := Nat × List Nat) (fun ⟨i, Ds⟩ => i ≤ p.Kids.length) (fun ⟨i, Ds⟩ => upd (upd (upd (upd env0 2 (tPtr (rY prog tPl (okP (inputsM (n + 1) p)) M Mx) ())) 7 (tSl rPlanE p.Kids)) 8 (tV (.int .i64 p.Kids.length))) 9 (tV (.int .i64 i))) (fun ⟨i, Ds⟩ => [M ((p.Kids.take i).flatMap (inK n)), stars (Ds.map dfB)]) (fun ⟨i, Ds⟩ => p.Kids.length - i) (fun ⟨i, Ds⟩ => Ds.map markD) (0, []) (by exact Nat.zero_le _) (zU) ((fun h m ⟨m1, m2, d, e, hm, he⟩ => ⟨m1, m2, d, e, hm, PH.emp, m2, PH.disj_emp_left _, (PH.emp_join _).symm, rfl, he⟩)) rfl ?_
 rintro ⟨i, Ds⟩ hi
 try dsimp only at hi
 refine Jr (Js rfl (step_lss Sr Sr) (JL_nil (J_seq ?_)))
 refine J_cond Sr (fun h10 => ?_) (fun h10 => ?_)
 ·
  try simp only [NF] at h10
  have hlt : i < p.Kids.length := by omega
  refine J_skip (J_seq (J_block (Jr (Js rfl (step_indexAddr_sl (i := i) underlying42 ty46P Sr Sr rfl (gb hlt)) (Js rfl (step_load_ptr ty46E Sub.pps) ?_)))))
  refine Jx rfl (step_alloc (fun w => zeroValue46 w) zr46E) fun v4 => ?_
  refine Ju (step_store_box ty46E Sr Sr zS) fun _ => ?_
  refine JL_freeze (t := 4) (Sel.take (Sel.none _)) Frz.box ?_
  refine JL_nil (J_seq (Jr (Js rfl (step_fieldAddr so46E Sr rfl) (Jl rfl ty3 Sr (Js rfl (step_neq Sr Sr) ?_)))))
  refine JL_nil ?_
  refine J_cond Sr (fun h15 => ?_) (fun h15 => ?_)
  ·
   try simp only [NF] at h15
   refine J_seq (Jr (Jl rfl ty102Y Sr (Jl rfl ty46E Sr ?_)))
   refine Jx rfl (step_yield (T := tPl) (Ok := okP (inputsM (n + 1) p)) (M := M) (Mx := Mx) (pre := ((p.Kids.take i).flatMap (inK n))) (y := (nth p.Kids i)) Sr (by show _ <+: _; rw [← inK_n (n := n) (show ¬ (nth p.Kids i).Kind = 4 from h15)]; exact in_pre hlt) (by exact ⟨Sr, trivial⟩) zS) fun v18 => ?_
   cases v18
   ·
    skip
    refine Js rfl (step_not Sr) (JL_nil ?_)
    refine J_cond Sr (fun hc3 => ?_) (fun hc3 => ?_)
    ·
     try simp only [NF] at hc3
     refine J_ret ?_
     refine K_unmarks (Ds := Ds) (L' := [Mx (((p.Kids.take i).flatMap (inK n)) ++ [(nth p.Kids i)])]) ?_ ?_
     ·
      exact zL
     refine K_itStop (Fin := fun p_1 => p_1 = (inputsM (n + 1) p)) (M := M) (Mx := Mx) (A := []) ?_ (((p.Kids.take i).flatMap (inK n)) ++ [(nth p.Kids i)]) ?_
     ·
      rfl
     exact LSub.of rfl
    try simp only [NF] at hc3
    exfalso; simp_all
   skip
   refine Js rfl (step_not Sr) (JL_nil ?_)
   refine J_cond Sr (fun hc4 => ?_) (fun hc4 => ?_)
   ·
    try simp only [NF] at hc4
    exfalso; simp_all
   try simp only [NF] at hc4
   refine J_skip (J_exit (J_region (Js rfl (step_add Sr Sr z6) (Jm rfl (JL_nil ?_)))))
   refine K_againD (σ := Nat × List Nat) (s := (i, Ds)) (i + 1, Ds) zO (by show i + 1 ≤ _; omega) (zU) (.c zS (SPs.of (A := M (((p.Kids.take i).flatMap (inK n)) ++ [(nth p.Kids i)])) (by rw [in_succ hlt, inK_n (show ¬ (nth p.Kids i).Kind = 4 from h15)])) (zL)) rfl
  try simp only [NF] at h15
  refine J_skip (Jr (Jl rfl ty46E Sr (Js rfl (step_call0 (inputs_spec _) ⟨Sr, trivial⟩ call221) (JL_nil (J_block ?_)))))
  refine J_range (A := []) (T := tPl) (Ok := okP (inputsM n (nth p.Kids i))) (Fin := fun l => l = inputsM n (nth p.Kids i)) (R := [stars (Ds.map dfB)]) (fun xs => M (((p.Kids.take i).flatMap (inK n)) ++ xs)) (fun c xs => stars [SP.pure (c = .ret), Mx (((p.Kids.take i).flatMap (inK n)) ++ xs)]) rfl (fun _ => rfl) rfl (ih (nth p.Kids i) (hd _ (nth_mem hlt)) (psz_kid hz (nth_mem hlt)).1) Sr call289 (.c zS (SPs.of (by rw [List.append_nil])) (zL)) ?round1 ?done1 ?stop1
  case round1 =>
   intro l1 rec1 h2 w2 fr2 pre y hle1 hst1 hpd1 hdj1 hok
   refine J_region ?_
   refine Jx rfl (step_alloc (fun w => zeroValue46 w) zr46E) fun v5 => ?_
   refine Ju (step_store_box ty46E Sr Sr zS) fun _ => ?_
   refine JL_freeze (t := 5) (Sel.take (Sel.none _)) Frz.box ?_
   refine JL_nil ?_
   refine K_begin hst1 hdj1 ?_
   refine J_block (Jr (Jl rfl ty102Y Sr (Jl rfl ty46E Sr ?_)))
   refine Jx rfl (step_yield (T := tPl) (Ok := okP (inputsM (n + 1) p)) (M := M) (Mx := Mx) (pre := ((p.Kids.take i).flatMap (inK n)) ++ pre) (y := y) Sr (by show _ <+: _; rw [List.append_assoc]; refine List.IsPrefix.trans ((List.prefix_append_right_inj _).2 hok) ?_; rw [← inK_4 (n := n) (show (nth p.Kids i).Kind = 4 from h15)]; exact in_pre hlt) (by exact ⟨Sr, trivial⟩) zS) fun v25 => ?_
   cases v25
   ·
    skip
    refine Js rfl (step_not Sr) (JL_nil ?_)
    refine J_cond Sr (fun hc5 => ?_) (fun hc5 => ?_)
    ·
     try simp only [NF] at hc5
     refine J_ret ?_
     refine K_roundR ?_
     exact LSub.cons zS SPs.rfl (LSub.stars (LSub.pure rfl (.c zS (SPs.of (by first | (rw [List.append_assoc]; done) | (rw [List.append_assoc]; rfl))) LSub.nil)))
    try simp only [NF] at hc5
    exfalso; simp_all
   skip
   refine Js rfl (step_not Sr) (JL_nil ?_)
   refine J_cond Sr (fun hc6 => ?_) (fun hc6 => ?_)
   ·
    try simp only [NF] at hc6
    exfalso; simp_all
   try simp only [NF] at hc6
   refine J_skip ?_
   refine K_roundN hst1 hpd1 ?_
   exact .r zS (.c zS (SPs.of (by first | (rw [List.append_assoc]; done) | (rw [List.append_assoc]; rfl))) (LSub.nil))
  case done1 =>
   intro D1 xs hfin
   subst hfin
   refine J_region (Js rfl (step_add Sr Sr z6) (Jm rfl (JL_nil ?_)))
   refine K_againD (σ := Nat × List Nat) (s := (i, Ds)) (i + 1, D1 :: Ds) zO (by show i + 1 ≤ _; omega) (zU) (LSub.trans (B := [dfB D1, stars (Ds.map dfB), M (((p.Kids.take i).flatMap (inK n)) ++ inputsM n (nth p.Kids i))]) (zL) (LSub.trans LSub.push (.c zS (SPs.of (A := M (((p.Kids.take i).flatMap (inK n)) ++ inputsM n (nth p.Kids i))) (by rw [in_succ hlt, inK_4 (show (nth p.Kids i).Kind = 4 from h15)])) (zL)))) rfl
  case stop1 =>
   intro D1 c1 xs
   refine K_stars (K_pure fun hcc => ?_)
   subst hcc
   refine J_ret ?_
   refine K_unmarks (Ds := D1 :: Ds) (L' := [Mx (((p.Kids.take i).flatMap (inK n)) ++ xs)]) ?_ ?_
   ·
    exact LSub.trans (B := [dfB D1, stars (Ds.map dfB), Mx (((p.Kids.take i).flatMap (inK n)) ++ xs)]) (zL) LSub.push
   refine K_itStop (Fin := fun p_1 => p_1 = (inputsM (n + 1) p)) (M := M) (Mx := Mx) (A := []) ?_ (((p.Kids.take i).flatMap (inK n)) ++ xs) ?_
   ·
    rfl
   exact LSub.of rfl
 try simp only [NF] at h10
 obtain rfl : i = p.Kids.length := by omega
 refine J_exit ?_
 refine K_endRet (K_unmarks (L' := [M ((p.Kids.take p.Kids.length).flatMap (inK n))]) (zL) (K_itDone (Fin := fun p_1 => p_1 = (inputsM (n + 1) p)) (M := M) (Mx := Mx) (A := []) ?_ (inputsM (n + 1) p) rfl ?_))
 ·
  rfl
 exact LSub.of (by rw [List.take_length]; rfl)
theorem inp_spec : ∀ n, InpS n
  | 0 => inp_zero
  | n + 1 => fun p hd hz => inputs1_spec n (inp_spec n) p hd hz
open Go Go.Proofs Go.Proofs.Tryz
section
variable {x : Gplanner}
theorem map_whole {p : GPlan} {ks : List Gnode} (hk : ∀ k ∈ ks, NGd x k) : (makeM x p ks).Plan.Kids.map (wholeE x) = ks := by
  show (ks.map Gnode.Plan).map (wholeE x) = ks
  rw [List.map_map]
  conv => rhs; rw [← List.map_id ks]
  exact List.map_congr_left fun k hk' => (hk k hk').w
theorem mk_of_gd {p : GPlan} {ks : List Gnode} (hk : ∀ k ∈ ks, NGd x k) (h : NGd x (makeM x p ks)) : MkOk x p ks := by
  obtain ⟨e1, _⟩ := eokE_iff.1 h.e
  rw [map_whole hk] at e1
  exact mkok_plan e1 rfl rfl rfl rfl
theorem mk_above {b : Nat} {n : Gnode} (h : PI x b n) {ts : List GTest} (hl : ts.length ≤ 1000) (ht : TIn n.Plan.Attrs.length ts) : ¬ ts.length = 0 → MkOk x (GPl.mk 2 0 [] ts [] 0 0 n.Plan.Attrs) [n] := fun h0 => by
  have h1 := (pi_above h hl ht).1.g
  rw [aboveM, if_neg h0] at h1
  exact mk_of_gd (fun k hk => by rw [List.mem_singleton] at hk; subst hk; exact h.g) h1
theorem pair_gd {b : Nat} {k l : Gnode} (h : PI x b k) (h2 : PI x b l) : ∀ q ∈ [k, l], NGd x q := fun q hq => by
  rcases List.mem_cons.1 hq with rfl | hq
  · exact h.g
  · rw [List.mem_singleton] at hq; subst hq; exact h2.g
theorem mk_join {b : Nat} {k l : Gnode} (h : PI x b k) (h2 : PI x b l) (hl : (joinL k.Plan.Attrs l.Plan.Attrs).length ≤ 1000) : MkOk x (GPl.mk 4 0 [] [] [] 0 0 (joinL k.Plan.Attrs l.Plan.Attrs)) [k, l] :=
  mk_of_gd (pair_gd h h2) (pi_join h h2 hl).g
theorem one_gd {b : Nat} {k : Gnode} (h : PI x b k) : ∀ q ∈ [k], NGd x q := fun q hq => by
  rw [List.mem_singleton] at hq; subst hq; exact h.g
/-- A state of the chain of joins. -/
structure JnOk (x : Gplanner) (b : Nat) (U : List ByteArray) (out : Gnode) (rest : List Gnode) : Prop where
  l : U.length ≤ 1000
  o : PI x b out
  k : ∀ k ∈ rest, PI x b k
  n : (nmL out.Plan.Attrs).Nodup
  kn : ∀ k ∈ rest, (nmL k.Plan.Attrs).Nodup
  u : ∀ n ∈ nmL out.Plan.Attrs, n ∈ U
  ku : ∀ k ∈ rest, ∀ n ∈ nmL k.Plan.Attrs, n ∈ U
theorem JnOk.len {b : Nat} {U : List ByteArray} {out : Gnode} {rest : List Gnode} (h : JnOk x b U out rest) {k : Gnode} (hk : k ∈ rest) : (joinL out.Plan.Attrs k.Plan.Attrs).length ≤ 1000 := by
  have hnd := nodup_joinL h.n (h.kn _ hk)
  have hjU : ∀ n ∈ nmL (joinL out.Plan.Attrs k.Plan.Attrs), n ∈ U := fun n q => (mem_joinL.1 q).elim (h.u n) (h.ku _ hk n)
  have := nodup_len hnd hjU
  have := h.l
  rw [nm_len] at *; omega
theorem JnOk.mk1 {b : Nat} {U : List ByteArray} {out : Gnode} {rest : List Gnode} (h : JnOk x b U out rest) {k : Gnode} (hk : k ∈ rest) : MkOk x (GPl.mk 4 0 [] [] [] 0 0 (joinL out.Plan.Attrs k.Plan.Attrs)) [out, k] := mk_join h.o (h.k _ hk) (h.len hk)
theorem JnOk.next {b : Nat} {U : List ByteArray} {out : Gnode} {rest : List Gnode} (h : JnOk x b U out rest) (hl : 0 < rest.length) (f : Gnode → Int) : JnOk x b U (joinedM x out (cheapM f rest).1) (cheapM f rest).2 := by
  have hm := cheap_mem (f := f) hl
  have hp := cheap_perm (f := f) hl
  have hsub : ∀ k ∈ (cheapM f rest).2, k ∈ rest := fun k hk => hp.mem_iff.1 (List.mem_cons_of_mem _ hk)
  exact ⟨h.l, pi_join h.o (h.k _ hm) (h.len hm), fun k hk => h.k k (hsub k hk), nodup_joinL h.n (h.kn _ hm), fun k hk => h.kn k (hsub k hk), fun n q => (mem_joinL.1 q).elim (h.u n) (h.ku _ hm n), fun k hk => h.ku k (hsub k hk)⟩
theorem chain_nil {n : Nat} {out : Gnode} {rest : List Gnode} (h : rest.length = 0) : chainM x n out rest = out := by
  cases n with
  | zero => rfl
  | succ n => rw [chainM, if_pos h]
theorem chain_cons {n : Nat} {out : Gnode} {rest : List Gnode} (h : ¬ rest.length = 0) : chainM x (n + 1) out rest = chainM x n (joinedM x out (cheapM (fun k => (joinedM x out k).size.rows) rest).1) (cheapM (fun k => (joinedM x out k).size.rows) rest).2 := by
  rw [chainM, if_neg h]
abbrev rowsF : Gnode → Int := fun k => k.size.rows
/-- What join needs to know of what its loop leaves. -/
structure JoinF (x : Gplanner) (p : GPlan) (m : Nat) (st : List Gnode × List GTest) : Prop where
  l : st.1.length = m
  l2 : 2 ≤ st.1.length
  k : ∀ k ∈ st.1, PI x 1000 k
  t : TIn p.Attrs.length st.2
  tl : st.2.length ≤ 1000
  two : st.1.length = 2 → (joinL (nth st.1 0).Plan.Attrs (nth st.1 1).Plan.Attrs).length = p.Attrs.length
  many : JnOk x 1000 (nmL p.Attrs) (cheapM rowsF st.1).1 (cheapM rowsF st.1).2
  nd : (nmL p.Attrs).Nodup
  mem : ∀ n, n ∈ nmL (chainM x st.1.length (cheapM rowsF st.1).1 (cheapM rowsF st.1).2).Plan.Attrs ↔ n ∈ nmL p.Attrs
/-- The steps of the loop. -/
theorem fold_facts (hst : StOk x) {n l : Nat} {p : GPlan} {ts : List GTest} (hd : Dep (n + 1) p) (hv : validM x.s l p = true) (hz : PSz p) (k : p.Kind = 4) (ht : TIn p.Attrs.length ts) (hl : ts.length + psum (n + 1) p ≤ 1000) :
    ∀ i, i ≤ (inputsM (n + 1) p).length →
    (joinFold (pushM x n) p ((inputsM (n + 1) p).take i) ts).1.length = i ∧ (∀ j, j < i → nmL (nth (joinFold (pushM x n) p ((inputsM (n + 1) p).take i) ts).1 j).Plan.Attrs = nmL (nth (inputsM (n + 1) p) j).Attrs) ∧ (∀ k ∈ (joinFold (pushM x n) p ((inputsM (n + 1) p).take i) ts).1, PI x (ts.length - (joinFold (pushM x n) p ((inputsM (n + 1) p).take i) ts).2.length + psum (n + 1) p) k) ∧
      TIn p.Attrs.length (joinFold (pushM x n) p ((inputsM (n + 1) p).take i) ts).2 ∧ (joinFold (pushM x n) p ((inputsM (n + 1) p).take i) ts).2.length ≤ ts.length := by
  obtain ⟨i1, i2, i3, i4⟩ := inputs_ok hd hv hz k
  exact fold_ok (x := x) (push := pushM x n) (p := p) (P := psum (n + 1) p) (qs := inputsM (n + 1) p) (ts := ts) (fun q hq ts' h1 h2 => by
    obtain ⟨q1, ⟨l2, q2⟩, q3, q4, q5⟩ := i1 q hq
    obtain ⟨h3, h4⟩ := push_ok hst n q1 q2 q3 h1 (by omega)
    exact ⟨h3.le (by omega), h4⟩) ht hl
theorem join_facts (hst : StOk x) {n l : Nat} {p : GPlan} {ts : List GTest} (hd : Dep (n + 1) p) (hv : validM x.s l p = true) (hz : PSz p) (k : p.Kind = 4) (ht : TIn p.Attrs.length ts) (hl : ts.length + psum (n + 1) p ≤ 1000) :
    JoinF x p (inputsM (n + 1) p).length (joinFold (pushM x n) p (inputsM (n + 1) p) ts) := by
  have hsz := psz_at hz
  obtain ⟨i1, i2, i3, i4⟩ := inputs_ok hd hv hz k
  obtain ⟨_, _, hpn⟩ := val_nm hv
  have hf := fold_facts hst hd hv hz k ht hl _ (Nat.le_refl _)
  rw [List.take_length] at hf
  generalize joinFold (pushM x n) p (inputsM (n + 1) p) ts = st at hf
  obtain ⟨ls, tt⟩ := st
  obtain ⟨f1, f2, f3, f4, f5⟩ := hf
  simp only at f1 f2 f3 f4 f5
  have hl0 : 0 < ls.length := by omega
  have hmemq : ∀ a ∈ ls, ∃ q ∈ inputsM (n + 1) p, nmL a.Plan.Attrs = nmL q.Attrs := fun a ha => by
    obtain ⟨i, hi, rfl⟩ := List.getElem_of_mem ha
    refine ⟨nth (inputsM (n + 1) p) i, nth_mem (by omega), ?_⟩
    rw [← nth_get hi]; exact f2 i (by omega)
  have hnd : ∀ a ∈ ls, (nmL a.Plan.Attrs).Nodup := fun a ha => by
    obtain ⟨q, hq, e⟩ := hmemq a ha
    obtain ⟨q1, ⟨l2, q2⟩, _⟩ := i1 q hq
    rw [e]; exact (val_nm q2).2.2
  have hU : ∀ a ∈ ls, ∀ m ∈ nmL a.Plan.Attrs, m ∈ nmL p.Attrs := fun a ha m hm => by
    obtain ⟨q, hq, e⟩ := hmemq a ha
    rw [e] at hm
    exact (i2 m).2 ⟨q, hq, hm⟩
  have hP : ∀ a ∈ ls, PI x 1000 a := fun a ha => (f3 a ha).le (by omega)
  have c1 := cheap_mem (f := rowsF) hl0
  have c2 := cheap_len (f := rowsF) hl0
  have c3 := cheap_perm (f := rowsF) hl0
  have c4 : ∀ a ∈ (cheapM rowsF ls).2, a ∈ ls := fun a ha => c3.mem_iff.1 (List.mem_cons_of_mem _ ha)
  refine ⟨f1, by show 2 ≤ ls.length; omega, hP, f4, by show tt.length ≤ _; omega, fun h2 => ?_, ⟨by rw [nm_len]; exact hsz.2.2, hP _ c1, fun a ha => hP a (c4 a ha), hnd _ c1, fun a ha => hnd a (c4 a ha), hU _ c1, fun a ha => hU a (c4 a ha)⟩, hpn, fun m => ?_⟩
  · have h2 : ls.length = 2 := h2
    have hkeq := i4 (by omega)
    have g0 : nmL (nth ls 0).Plan.Attrs = nmL (nth p.Kids 0).Attrs := by rw [f2 0 (by omega), hkeq]
    have g1 : nmL (nth ls 1).Plan.Attrs = nmL (nth p.Kids 1).Attrs := by rw [f2 1 (by omega), hkeq]
    have hjn : nmL (joinL (nth ls 0).Plan.Attrs (nth ls 1).Plan.Attrs) = nmL p.Attrs := by rw [vn4 hv k]; exact nm_join_congr g0 g1
    exact nm_len_eq hjn
  · show m ∈ nmL (chainM x ls.length (cheapM rowsF ls).1 (cheapM rowsF ls).2).Plan.Attrs ↔ _
    obtain ⟨d1, d2, d3⟩ := chain_ok (x := x) (U := nmL p.Attrs) (by rw [nm_len]; exact hsz.2.2) ls.length (cheapM rowsF ls).1 (cheapM rowsF ls).2 (by omega) (hP _ c1) (fun a ha => hP a (c4 a ha)) (hnd _ c1) (fun a ha => hnd a (c4 a ha)) (hU _ c1) (fun a ha => hU a (c4 a ha))
    rw [d3, i2]
    constructor
    · rintro (h | ⟨a, ha, h⟩)
      · obtain ⟨q, hq, e⟩ := hmemq _ c1
        exact ⟨q, hq, by rw [← e]; exact h⟩
      · obtain ⟨q, hq, e⟩ := hmemq _ (c4 a ha)
        exact ⟨q, hq, by rw [← e]; exact h⟩
    · rintro ⟨q, hq, h⟩
      obtain ⟨i, hi, rfl⟩ := List.getElem_of_mem hq
      rw [← nth_get hi, ← f2 i (by omega)] at h
      rcases List.mem_cons.1 (c3.mem_iff.2 (nth_mem (l := ls) (i := i) (by omega))) with e | hm
      · exact .inl (by rw [← e]; exact h)
      · exact .inr ⟨_, hm, h⟩
/-- What stands behind the chain. -/
theorem order_facts {p : GPlan} {b : Nat} {out : Gnode} (hj : JnOk x b (nmL p.Attrs) out []) (hn : (nmL p.Attrs).Nodup) (he : ∀ n, n ∈ nmL out.Plan.Attrs ↔ n ∈ nmL p.Attrs) (ha : p.Attrs.length ≤ 1000) :
    PI x b (orderM x p out) ∧ (orderM x p out).Plan.Attrs.length = p.Attrs.length ∧ colsIn out.Plan.Attrs.length (colsOf p out) ∧ (¬ sortedB (colsOf p out) = true → MkOk x (GPl.mk 3 0 [] [] (colsOf p out) 0 0 (pickL out.Plan.Attrs (colsOf p out))) [out]) := by
  obtain ⟨o1, o2, o3⟩ := order_ok hj.o hj.n hn he ha
  refine ⟨o1, nm_len_eq o2, o3, fun h => ?_⟩
  unfold orderM at o1
  rw [if_neg h] at o1
  exact mk_of_gd (one_gd hj.o) o1.g
end
open Go Go.Proofs Go.Proofs.Tryz
/-- Inputs of valid queries: valid at no greater a level, and not too many. -/
theorem inputs_lv {s : GSchema} : ∀ {n l : Nat} {p : GPlan}, validM s l p = true → (∀ q ∈ inputsM n p, ∃ l', l' ≤ l ∧ validM s l' q = true) ∧ (inputsM n p).length ≤ 2 ^ l
  | 0, l, p, h => ⟨fun q hq => (by cases hq), Nat.zero_le _⟩
  | n + 1, l, p, h => by
    obtain ⟨l', hl, hkd, hkn, hkv, _⟩ := valid_in h
    have hkb : kidsN p.Kind ≤ 2 := by unfold kidsN; split; omega; split <;> omega
    have hk2 : p.Kids.length ≤ 2 := by omega
    rw [inputs_eq]
    have hone : ∀ k ∈ p.Kids, (∀ q ∈ inK n k, ∃ m, m ≤ l ∧ validM s m q = true) ∧ (inK n k).length ≤ 2 ^ l' := fun k hk => by
      have hv := hkv k hk
      by_cases h4 : k.Kind = 4
      · rw [inK_4 h4]
        obtain ⟨h1, h2⟩ := inputs_lv (n := n) hv
        exact ⟨fun q hq => by obtain ⟨m, hm, hv⟩ := h1 q hq; exact ⟨m, by omega, hv⟩, h2⟩
      · rw [inK_n h4]
        exact ⟨fun q hq => by rw [List.mem_singleton] at hq; subst hq; exact ⟨l', by omega, hv⟩, Nat.one_le_two_pow⟩
    refine ⟨fun q hq => ?_, ?_⟩
    · obtain ⟨k, hk, hq⟩ := List.mem_flatMap.1 hq
      exact (hone k hk).1 q hq
    · have hp : 2 ^ l = 2 ^ l' + 2 ^ l' := by rw [show l = l' + 1 by omega, Nat.pow_succ]; omega
      rw [List.length_flatMap]
      generalize p.Kids = ks at hk2 hone
      match ks, hk2, hone with
      | [], _, _ => simp
      | [a], _, ho => have := (ho a (by simp)).2; simp; omega
      | [a, b], _, ho => have := (ho a (by simp)).2; have := (ho b (by simp)).2; simp; omega
/-- What pushing does. -/
def PushS (x : Gplanner) (n : Nat) : Prop := ∀ (l : Nat) (p : GPlan) (ts : List GTest), l ≤ 12 → Dep n p → validM x.s l p = true → PSz p → TIn p.Attrs.length ts → ts.length + psum n p ≤ 1000 → Fun1 prog 96 [rplanner.ty x, rPlS.ty p, tSl rTest ts] (rnodeE.ty (pushM x n p ts))
theorem ppickI_spec (l : List GAttr) (cols : List Int) (hc : colsIn l.length cols) (hl : cols.length ≤ 1000000) : Fun1 prog 156 [tSl rAttr l, tSl rInt cols] (tSl rAttr (pickL l cols)) := (ppick_spec l cols hc hl).frz fun z => Frz.own
theorem joinFold_app (push : GPlan → List GTest → Gnode) (p : GPlan) (qs : List GPlan) (y : GPlan) (ts : List GTest) : joinFold push p (qs ++ [y]) ts = ((joinFold push p qs ts).1 ++ [push y (divIn (plcJ p y) (joinFold push p qs ts).2)], divOut (plcJ p y) (joinFold push p qs ts).2) := by
  unfold joinFold; rw [List.foldl_append]; rfl
set_option maxHeartbeats 8000000 in
theorem join_spec (x : Gplanner) (hst : StOk x) (n : Nat) (ih : PushS x n) (l : Nat) (p : GPlan) (ts : List GTest) (hl12 : l ≤ 12) (hd : Dep (n + 1) p) (hv : validM x.s l p = true) (hz : PSz p) (hk : p.Kind = 4) (ht : TIn p.Attrs.length ts) (hl : ts.length + psum (n + 1) p ≤ 1000) : Fun1 prog 153 [rplanner.ty x, rPlS.ty p, tSl rTest ts] (rnodeE.ty (joinEnd x p (joinFold (pushM x n) p (inputsM (n + 1) p) ts))) := by
 refine Spec.enter func153 rfl rfl fun h0 w0 fr0 => ?_
 obtain ⟨i1, i2, i3, i4⟩ := inputs_ok hd hv hz hk
 have hlv := inputs_lv (n := n + 1) hv
 have h2l : 2 ^ l ≤ 4096 := Nat.le_trans (Nat.pow_le_pow_right zG hl12) (Nat.le_refl (2 ^ 12))
 have hsz := psz_at hz
 refine Jr (Js rfl (step_box (R := rplanner) Sr) (Js rfl (step_box (R := rPlS) Sr) ?_))
 refine Jx rfl (step_box_own (R := (rSl rTest)) Sr) fun b5 => ?_
 refine Jx rfl (step_alloc (fun w => zeroValue152 w) zr152E) fun b6 => ?_
 refine JL_nil (Jr ?_)
 refine Jx rfl (step_alloc (R := rV) (z := Value.slice none 0 0) (fun w => zeroValue197 w) (fun _ => ⟨rfl, rfl⟩)) fun b7 => ?_
 refine JL_nil (J_seq (Jr (Jl rfl ty46E Sr (Js rfl (step_call0 (inputs_spec p) ⟨Sr, trivial⟩ call221) (JL_nil ?_)))))
 refine J_block ?_
 refine J_range (A := []) (T := tPl) (Ok := okP (inputsM (n + 1) p)) (Fin := fun l => l = (inputsM (n + 1) p)) (R := [box b6 152 rnodeE ⟨GPl.zero, zsize⟩]) (fun xs => SP.ex fun vo => stars [box b7 197 rV vo, own 152 rnodeE vo (joinFold (pushM x n) p xs ts).1, box b5 43 (rSl rTest) (joinFold (pushM x n) p xs ts).2]) (fun _ _ => SP.pure False) rfl (fun _ => rfl) rfl (inp_spec (n + 1) p hd hz) Sr call289 (LSub.ex (.slice none 0 0) (LSub.stars (LSub.cons zS SPs.rfl (LSub.trans (LSub.nilown (e := 152) (R := rnodeE)) (zL))))) ?round1 ?done1 ?stop1
 case round1 =>
  intro l1 rec1 h2 w2 fr2 pre y hle1 hst1 hpd1 hdj1 hok
  refine K_ex fun vo => K_stars ?_
  have hpre : pre ++ [y] <+: (inputsM (n + 1) p) := hok
  have hplt : pre.length < (inputsM (n + 1) p).length := by have := hpre.length_le; simp at this; omega
  have hpe : pre = (inputsM (n + 1) p).take pre.length := List.prefix_iff_eq_take.1 ((List.prefix_append _ _).trans hpre)
  have hyi : y ∈ (inputsM (n + 1) p) := hpre.subset (by simp)
  have hff := fold_facts hst hd hv hz hk ht hl pre.length zG
  rw [← hpe] at hff
  obtain ⟨f1, _, f3, f4, f5⟩ := hff
  obtain ⟨q1, _, q3, q4, q5⟩ := i1 y hyi
  obtain ⟨ly, hly, qv⟩ := hlv.1 y hyi
  have hya := (psz_at q3).2.2
  have hti : TIn y.Attrs.length (divIn (plcJ p y) (joinFold (pushM x n) p pre ts).2) := div_in (fun c _ _ _ => (col_lt _ _).2) f4
  have hdl := div_len (plcJ p y) (joinFold (pushM x n) p pre ts).2
  refine J_region ?_
  refine Jx rfl (step_alloc (fun w => zeroValue46 w) zr46E) fun b8 => ?_
  refine Ju (step_store_box ty46E Sr Sr zS) fun _ => ?_
  refine JL_freeze (t := 8) (Sel.take (Sel.none _)) Frz.box ?_
  refine JL_nil ?_
  refine K_begin hst1 hdj1 ?_
  refine J_block (Jr (Ja rfl (JL_nil (Jr ?_))))
  refine Js rfl (step_load_box ty43 Sr zS) ?_
  refine Js rfl (step_makeFunc (As := [_, _]) ⟨Sr, Sr, trivial⟩) (Js rfl (step_call0 (divide_spec _ _ _ p.Attrs.length (plcJ p y) (fun c h1 h2 => join1_spec p y c h1 h2 zG) call222 f4 zG) ⟨Sr, Sr, trivial⟩ call154) (Jm rfl (Js rfl (step_extract Sr rfl) (Js rfl (step_extract Sr rfl) (Ja rfl ?_)))))
  refine Ju (step_store_box ty43 Sr Sr zS) fun _ => ?_
  refine JL_nil ?_
  refine J_draw [⟨1, [3], true⟩, ⟨2, [8], true⟩, ⟨3, [9], true⟩, ⟨4, [26, 27, 28], true⟩, ⟨5, [29], true⟩, ⟨0, [7], false⟩, ⟨6, [25, 30], false⟩, ⟨7, [7, 31], false⟩] rfl (by kernel_rfl) ?_
  refine Mf rfl rfl (step_load_ptr ty146 Sr) (Mf rfl rfl (step_load_ptr ty46E Sr) (Mv rfl rfl (Mf rfl rfl (step_call0 (ih ly y (divIn (plcJ p y) (joinFold (pushM x n) p pre ts).2) zG q1 qv q3 hti zG) ⟨Sr, Sr, Sr, trivial⟩ call96) ?_)))
  refine Mf rfl rfl (step_literal (ys := [pushM x n y (divIn (plcJ p y) (joinFold (pushM x n) p pre ts).2)]) underlying197 el152E ⟨rfl, Sr, trivial⟩ rfl (by decide)) ?_
  refine JM_look rfl rfl rfl rfl (step_load_box ty197V Sr zS) ?_
  refine JM_stepX rfl rfl rfl rfl (step_append underlying197 el152E Sr Sr zS (by simp only [List.length_append, List.length_cons, List.length_nil]; omega) (by simp only [List.length_append, List.length_cons, List.length_nil]; omega)) fun v31 => ?_
  refine JM_stepU rfl rfl rfl (step_store_box (R := rV) ty197V Sr Sr zS) fun _ => ?_
  refine JM_nil ?_
  refine K_roundN hst1 hpd1 ?_
  exact LSub.cons zS SPs.rfl (LSub.ex v31 (LSub.stars (LSub.cons zS SPs.rfl (.c zS (SPs.of (by rw [joinFold_app])) (.c zS (SPs.of (by rw [joinFold_app])) LSub.nil)))))
 case done1 =>
  intro D1 xs hfin
  refine K_ex fun vo => K_stars ?_
  have hfin : xs = (inputsM (n + 1) p) := hfin
  subst xs
  have hJ := join_facts hst hd hv hz hk ht hl
  generalize (joinFold (pushM x n) p (inputsM (n + 1) p) ts) = st at hJ ⊢
  have hl0 := hJ.l2
  have hl1 := hJ.l
  have hcl := cheap_len (f := rowsF) (l := st.1) zG
  refine K_freeze (t := 7) (A' := tPtr (rSl rnodeE) st.1) (Sel.take (Sel.take (Sel.none _))) Frz.boxOwn ?_
  refine K_freeze (t := 5) (A' := tPtr (rSl rTest) st.2) (Sel.take (Sel.none _)) Frz.box ?_
  refine J_seq (Jr (Jl rfl ty197E Sr (Js rfl (step_len_sl underlying197 Sr) (Js rfl (step_eql Sr Sr) (JL_nil ?_)))))
  refine J_cond Sr (fun h34 => ?_) (fun h34 => ?_)
  ·
   try simp only [NF] at h34
   have h2 : st.1.length = 2 := by omega
   have hjl := hJ.two h2
   have hk0 := hJ.k _ (nth_mem (l := st.1) (i := 0) zG)
   have hk1 := hJ.k _ (nth_mem (l := st.1) (i := 1) zG)
   have hmj := mk_join hk0 hk1 zG
   have hab := mk_above (pi_join hk0 hk1 zG) hJ.tl (by show TIn (joinL _ _).length st.2; rw [hjl]; exact hJ.t)
   refine J_seq ?_
   refine J_draw [⟨0, [3], true⟩, ⟨1, [3], true⟩, ⟨2, [7], true⟩, ⟨3, [37], true⟩, ⟨4, [38], true⟩, ⟨5, [7], true⟩, ⟨6, [40], true⟩, ⟨7, [41], true⟩, ⟨8, [36, 39, 42], true⟩, ⟨9, [5], true⟩, ⟨10, [35, 43, 44], true⟩, ⟨11, [6, 45], false⟩] rfl (by kernel_rfl) ?_
   refine Mf rfl rfl (step_load_ptr ty146 Sr) (Mf rfl rfl (step_load_ptr ty146 Sr) (Mf rfl rfl (step_load_ptr ty197E Sr) ?_))
   refine Mf rfl rfl (step_indexAddr_sl (i := 0) underlying197 ty152E Sr Sr (by rfl) (gb zG)) ?_
   refine Mf rfl rfl (step_load_ptr ty152E Sr) (Mf rfl rfl (step_load_ptr ty197E Sr) ?_)
   refine Mf rfl rfl (step_indexAddr_sl (i := 1) underlying197 ty152E Sr Sr (by rfl) (gb zG)) ?_
   refine Mf rfl rfl (step_load_ptr ty152E Sr) ?_
   refine Mf rfl rfl (step_call0 (joined_spec x (nth st.1 0) (nth st.1 1) (by have := (hJ.k _ (nth_mem (l := st.1) (i := 0) zG)).a; omega) (by have := (hJ.k _ (nth_mem (l := st.1) (i := 1) zG)).a; omega) hmj) ⟨Sr, Sr, Sr, trivial⟩ call223) ?_
   refine Mf rfl rfl (step_load_ptr ty43 Sr) (Mf rfl rfl (step_call0 (above_spec x (joinedM x (nth st.1 0) (nth st.1 1)) st.2 hab) ⟨Sr, Sr, Sr, trivial⟩ call151) ?_)
   refine JM_stepU rfl rfl rfl (step_store_box ty152E Sr Sr zS) fun _ => ?_
   refine JM_nil (J_ret ?_)
   refine K_unmark (LSub.cons zS SPs.rfl LSub.rfl) ?_
   refine K_ret1' (rv := .cell 6 152) rfl () (Sel.all _) (.cell (R := rnodeE) ty152E Sr zS Sr) (Frz.sub (Sub.of_eq (by rw [joinEnd, if_pos h2])))
  try simp only [NF] at h34
  have h2 : ¬ st.1.length = 2 := by omega
  refine J_skip (J_seq ?_)
  refine K_lsub LSub.stn ?_
  refine J_region (Jl rfl ty197E Sr ?_)
  refine Jx rfl (step_call zS (cheapest_spec st.1 rowsF 225 [] (stars []) (fun k _ => (join2_spec k).frame) call225 zG zG) ⟨Sr, Sub.clo0, trivial⟩ call224) fun _ => ?_
  refine Jm rfl (Js rfl (step_extract Sr rfl) (Js rfl (step_extract Sr rfl) ?_))
  refine Jx rfl (step_alloc (fun w => zeroValue152 w) zr152E) fun b10 => ?_
  refine Ju (step_store_box ty152E Sr Sr zS) fun _ => ?_
  refine Ja rfl (JL_nil (J_seq (J_block ?_)))
  refine J_loopL (σ := Nat × Gnode × List Gnode) (fun ⟨fuel, out, rest⟩ => JnOk x 1000 (nmL p.Attrs) out rest ∧ rest.length ≤ fuel ∧ rest.length ≤ 4096 ∧ chainM x fuel out rest = (chainM x st.1.length (cheapM rowsF st.1).1 (cheapM rowsF st.1).2)) (fun ⟨fuel, out, rest⟩ => upd (upd (upd (upd (upd (upd env0 3 (tPtr rplanner x)) 4 (tPtr rPlS p)) 5 (tPtr (rSl rTest) st.2)) 6 (tAt b6 0)) 10 (tAt b10 0)) 11 (tSl rnodeE rest)) (fun ⟨fuel, out, rest⟩ => [box b10 152 rnodeE out, box b6 152 rnodeE ⟨GPl.zero, zsize⟩, dfB D1]) (fun ⟨fuel, out, rest⟩ => rest.length) (st.1.length, (cheapM rowsF st.1).1, (cheapM rowsF st.1).2) ⟨hJ.many, by show (cheapM rowsF st.1).2.length ≤ _; omega, by show (cheapM rowsF st.1).2.length ≤ _; omega, rfl⟩ (zU) (.r zS (.r zS (.r zS (LSub.unemp)))) ?_
  rintro ⟨fuel, out, rest⟩ ⟨hjn, hrf, hr4, hch⟩
  refine J_seq (Jr (Jm rfl (Js rfl (step_len_sl underlying197 Sr) (Js rfl (step_gtr Sr Sr) (JL_nil ?_)))))
  refine J_cond Sr (fun h53 => ?_) (fun h53 => ?_)
  ·
   try simp only [NF] at h53
   have hr0 : 0 < rest.length := by omega
   have hcm := cheap_mem (f := (fun k => (joinedM x out k).size.rows)) hr0
   have hcl2 := cheap_len (f := (fun k => (joinedM x out k).size.rows)) hr0
   obtain ⟨f, rfl⟩ : ∃ f, fuel = f + 1 := ⟨fuel - 1, by omega⟩
   rw [chain_cons zG] at hch
   refine J_skip (J_block (Jr ?_))
   refine Jx rfl (step_alloc (fun w => zeroValue152 w) zr152E) fun b12 => ?_
   refine JL_nil (Jr (Jm rfl (Js rfl (step_makeFunc (As := [_, _]) ⟨Sr, Sr, trivial⟩) ?_)))
   refine Jx rfl (step_call zS (cheapest_spec rest (fun k => (joinedM x out k).size.rows) 226 [tPtr rplanner x, tAt b10 0] (box b10 152 rnodeE out) (fun k hk => join3_spec x out k b10 (by have := hjn.o.a; omega) (by have := (hjn.k _ hk).a; omega) (hjn.mk1 hk)) call226 zG zG) ⟨Sr, Sr, trivial⟩ call224) fun _ => ?_
   refine Jm rfl (Js rfl (step_extract Sr rfl) (Js rfl (step_extract Sr rfl) ?_))
   refine Ju (step_store_box ty152E Sr Sr zS) fun _ => ?_
   refine JL_freeze (t := 12) (Sel.take (Sel.none _)) Frz.box ?_
   refine Ja rfl (JL_nil (J_region (Jl rfl ty146 Sr ?_)))
   refine Js rfl (step_load_box ty152E Sr zS) ?_
   refine Jl rfl ty152E Sr ?_
   refine Js rfl (step_call0 (joined_spec x out (cheapM (fun k => (joinedM x out k).size.rows) rest).1 (by have := hjn.o.a; omega) (by have := (hjn.k _ hcm).a; omega) (hjn.mk1 hcm)) ⟨Sr, Sr, Sr, trivial⟩ call223) ?_
   refine Ju (step_store_box ty152E Sr Sr zS) fun _ => ?_
   refine JL_nil ?_
   refine K_againL (σ := Nat × Gnode × List Gnode) (s := (f + 1, out, rest)) (f, joinedM x out (cheapM (fun k => (joinedM x out k).size.rows) rest).1, (cheapM (fun k => (joinedM x out k).size.rows) rest).2) ((by show (cheapM (fun k => (joinedM x out k).size.rows) rest).2.length < rest.length; omega)) ⟨hjn.next hr0 _, by show (cheapM (fun k => (joinedM x out k).size.rows) rest).2.length ≤ _; omega, by show (cheapM (fun k => (joinedM x out k).size.rows) rest).2.length ≤ _; omega, hch⟩ (zU) (zL)
  try simp only [NF] at h53
  have hr0 : rest.length = 0 := by omega
  rw [chain_nil hr0] at hch
  obtain rfl : rest = [] := List.length_eq_zero_iff.1 hr0
  have hof := order_facts hjn hJ.nd (by rw [hch]; exact hJ.mem) hsz.2.2
  have hcol : (colsOf p out).length = p.Attrs.length := by simp [colsOf]
  refine J_exit (Jr (Ja rfl (JL_nil (J_seq (Jr ?_)))))
  refine Js rfl (step_fieldAddr so46E Sr rfl) (Jl rfl ty44 Sr (Js rfl (step_len_sl underlying44 Sr) (Jm rfl (JL_nil (J_block ?_)))))
  refine J_loopL (σ := Nat × Value) (fun ⟨i, vo⟩ => i ≤ p.Attrs.length) (fun ⟨i, vo⟩ => upd (upd (upd (upd (upd (upd (upd (upd env0 3 (tPtr rplanner x)) 5 (tPtr (rSl rTest) st.2)) 6 (tAt b6 0)) 10 (tAt b10 0)) 13 (rV.ty vo)) 65 (tSl rAttr p.Attrs)) 66 (tV (.int .i64 p.Attrs.length))) 67 (tV (.int .i64 i))) (fun ⟨i, vo⟩ => [own 3 rInt vo ((p.Attrs.take i).map fun a => columnL out.Plan.Attrs a.Name), box b10 152 rnodeE out, box b6 152 rnodeE ⟨GPl.zero, zsize⟩, dfB D1]) (fun ⟨i, vo⟩ => p.Attrs.length - i) (0, .slice none 0 0) (by exact Nat.zero_le _) (.u (.u (.u (SubE.upd (Sub.rV rfl) (zU))))) (LSub.trans (LSub.nilown (e := 3) (R := rInt)) (zL)) ?_
  rintro ⟨i, vo⟩ hi
  try dsimp only at hi
  refine Jr (Js rfl (step_lss Sr Sr) (JL_nil (J_seq ?_)))
  refine J_cond Sr (fun h68 => ?_) (fun h68 => ?_)
  ·
   try simp only [NF] at h68
   have hlt : i < p.Attrs.length := by omega
   refine J_skip (J_seq (J_block (Jr ?_)))
   refine Js rfl (step_indexAddr_sl (i := i) underlying44 ty89 Sr Sr (by rfl) (gb (by exact hlt))) ?_
   refine Jl rfl ty89 Sr ?_
   refine Jx rfl (step_alloc (fun w => zeroValue89 w) zr89) fun b15 => ?_
   refine Ju (step_store_box ty89 Sr Sr zS) fun _ => ?_
   refine JL_freeze (t := 15) (Sel.take (Sel.none _)) Frz.box ?_
   refine JL_nil (J_region (Jm rfl (Js rfl (step_fieldAt (o := 0) (o' := 0) so152E Sr rfl rfl) (Js rfl (step_addr_nd so46E Sr rfl) ?_))))
   refine Js rfl (step_load_nd ty44 Sr zS rfl) ?_
   refine Js rfl (step_fieldAddr so89 Sr rfl) (Jl rfl ty9 Sr ?_)
   refine Js rfl (step_call0 (pcolumn_spec out.Plan.Attrs (nth p.Attrs i).Name (by have := hjn.o.a; omega)) ⟨Sr, Sr, trivial⟩ call219) ?_
   refine Js rfl (step_literal (ys := [_]) underlying36 el3 ⟨rfl, Sr, trivial⟩ rfl (by decide)) ?_
   refine Jx rfl (step_append underlying36 el3 Sr Sr zS (by simp only [List.length_append, List.length_cons, List.length_nil, List.length_map, List.length_take]; omega) (by simp only [List.length_append, List.length_cons, List.length_nil, List.length_map, List.length_take]; omega)) fun v79 => ?_
   refine Ja rfl (JL_nil (J_region (Js rfl (step_add Sr Sr z6) (Jm rfl (JL_nil ?_)))))
   refine K_againL (σ := Nat × Value) (s := (i, vo)) (i + 1, v79) zO (by show i + 1 ≤ _; omega) (zU) (.c zS (SPs.of (by rw [takeB hlt, List.map_append]; rfl)) (zL))
  try simp only [NF] at h68
  obtain rfl : i = p.Attrs.length := by omega
  refine J_exit (J_seq (J_seq ?_))
  refine K_freeze (t := 13) (A' := tSl rInt (colsOf p out)) (Sel.take (Sel.none _)) (Frz.own' (by rw [List.take_length]; rfl)) ?_
  refine J_region (Jm rfl ?_)
  refine Js rfl (step_call0 (IsSortedI_spec (colsOf p out) (by rw [hcol]; omega)) ⟨Sr, trivial⟩ call227) ?_
  refine Js rfl (step_not Sr) (JL_nil ?_)
  refine J_cond Sr (fun h83 => ?_) (fun h83 => ?_)
  ·
   try simp only [NF] at h83
   have hs : sortedB (colsOf p out) = false := by simpa using h83
   have hor : orderM x p out = (makeM x (GPl.mk 3 0 [] [] (colsOf p out) 0 0 (pickL out.Plan.Attrs (colsOf p out))) [out]) := if_neg (by simp [hs])
   have hab := mk_above hof.1 hJ.tl (by rw [hof.2.1]; exact hJ.t)
   rw [hor] at hab
   refine J_drawX [⟨0, [3], 0⟩, ⟨1, [13], 0⟩, ⟨2, [10], 0⟩, ⟨3, [86], 0⟩, ⟨5, [13], 0⟩, ⟨4, [87], 1⟩, ⟨6, [88, 89], 0⟩, ⟨7, [85, 90], 0⟩, ⟨8, [10], 1⟩, ⟨9, [92], 0⟩, ⟨10, [84, 91, 93], 0⟩, ⟨11, [10, 94], 2⟩] rfl (by kernel_rfl) ?_
   refine JX_step rfl rfl rfl rfl (fun _ => step_load_ptr ty146 Sr) ?_
   refine JX_step rfl rfl rfl rfl (fun _ => step_move Sr) ?_
   refine JX_step rfl rfl rfl rfl (fun _ => step_fieldAt (o := 0) (o' := 0) so152E Sr rfl rfl) ?_
   refine JX_step rfl rfl rfl rfl (fun _ => step_addr_nd so46E Sr rfl) ?_
   refine JX_step rfl rfl rfl rfl (fun _ => step_move Sr) ?_
   refine JX_look rfl rfl rfl rfl (step_load_nd ty44 Sr zS rfl) ?_
   refine JX_step rfl rfl rfl rfl (fun _ => step_call0 (ppickI_spec _ _ hof.2.2.1 (by rw [hcol]; omega)) ⟨Sr, Sr, trivial⟩ call156) ?_
   refine JX_step rfl rfl rfl rfl (fun _ => step_build (x := ((GPl.mk 3 0 [] [] (colsOf p out) 0 0 (pickL out.Plan.Attrs (colsOf p out))) : GPlan)) (zs := [[Value.int .i64 0], [Value.int .i64 0], [Value.slice none 0 0], [Value.slice none 0 0], [Value.slice none 0 0], [Value.int .i64 0], [Value.int .i64 0], [Value.slice none 0 0]]) so46E (fun w => zeroValue46 w) ⟨Sr, Sr, Sr, trivial⟩ ⟨⟨Sr, rfl⟩, fun _ => rfl, fun _ => ⟨_, rfl, none, ⟨0, Nat.le_refl _⟩, rfl, fun q => absurd rfl q⟩, fun _ => ⟨_, rfl, none, ⟨0, Nat.le_refl _⟩, rfl, fun q => absurd rfl q⟩, ⟨Sr, rfl⟩, fun _ => rfl, fun _ => rfl, ⟨Sr, rfl⟩, trivial⟩) ?_
   refine JX_look rfl rfl rfl rfl (step_load_box ty152E Sr zS) ?_
   refine JX_step rfl rfl rfl rfl (fun _ => step_literal (ys := [out]) underlying197 el152E ⟨rfl, Sr, trivial⟩ rfl (by decide)) ?_
   refine JX_step rfl rfl rfl rfl (fun _ => step_call0 (makeE_spec x (GPl.mk 3 0 [] [] (colsOf p out) 0 0 (pickL out.Plan.Attrs (colsOf p out))) [out] (hof.2.2.2 (by simp [hs]))) ⟨Sr, Sr, Sr, trivial⟩ call146) ?_
   refine JX_stepU rfl rfl rfl (step_store_box ty152E Sr Sr zS) fun _ => ?_
   refine JX_nil (Jr (Jl rfl ty146 Sr ?_))
   refine Js rfl (step_load_box ty152E Sr zS) ?_
   refine Jl rfl ty43 Sr (Js rfl (step_call0 (above_spec x _ st.2 hab) ⟨Sr, Sr, Sr, trivial⟩ call151) ?_)
   refine Ju (step_store_box ty152E Sr Sr zS) fun _ => ?_
   refine JL_nil (J_ret ?_)
   refine K_unmark (LSub.cons zS SPs.rfl LSub.rfl) ?_
   refine K_ret1' (rv := .cell 6 152) rfl () (Sel.all _) (.cell (R := rnodeE) ty152E Sr zS Sr) (Frz.sub (Sub.of_eq (by rw [joinEnd, if_neg h2, ← hch, hor])))
  try simp only [NF] at h83
  have hs : sortedB (colsOf p out) = true := by simpa using h83
  have hor : orderM x p out = out := if_pos hs
  have hab := mk_above hof.1 hJ.tl (by rw [hof.2.1]; exact hJ.t)
  rw [hor] at hab
  refine J_skip (Jr (Jl rfl ty146 Sr ?_))
  refine Js rfl (step_load_box ty152E Sr zS) ?_
  refine Jl rfl ty43 Sr (Js rfl (step_call0 (above_spec x _ st.2 hab) ⟨Sr, Sr, Sr, trivial⟩ call151) ?_)
  refine Ju (step_store_box ty152E Sr Sr zS) fun _ => ?_
  refine JL_nil (J_ret ?_)
  refine K_unmark (LSub.cons zS SPs.rfl LSub.rfl) ?_
  refine K_ret1' (rv := .cell 6 152) rfl () (Sel.all _) (.cell (R := rnodeE) ty152E Sr zS Sr) (Frz.sub (Sub.of_eq (by rw [joinEnd, if_neg h2, ← hch, hor])))
 case stop1 =>
  intro D1 c1 xs
  refine K_pure fun h => h.elim
open Go Go.Proofs Go.Proofs.Tryz
section
variable {x : Gplanner}
theorem tab_facts (hst : StOk x) {l : Nat} {p : GPlan} {ts : List GTest} (hv : validM x.s l p = true) (hz : PSz p) (ht : TIn p.Attrs.length ts) (hl : ts.length ≤ 1000) (k : p.Kind = 1) :
    MkOk x (GPl.mk p.Kind p.Table [] [] [] 0 0 p.Attrs) [] ∧ (¬ ts.length = 0 → MkOk x (GPl.mk 2 0 [] ts [] 0 0 p.Attrs) [makeM x (GPl.mk p.Kind p.Table [] [] [] 0 0 p.Attrs) []]) := by
  obtain ⟨v1, v2⟩ := vk1 hv k
  have h0 := pi_tab hst v1 v2 (psz_at hz).2.2
  rw [k]
  exact ⟨mk_of_gd (fun q hq => by cases hq) h0.g, mk_above h0 hl ht⟩
/-- A selection: its tests with those of above fit the kid. -/
theorem sel_facts {l : Nat} {p : GPlan} {ts : List GTest} (hv : validM x.s l p = true) (ht : TIn p.Attrs.length ts) (k : p.Kind = 2) : 0 < p.Kids.length ∧ TIn (nth p.Kids 0).Attrs.length (p.Tests ++ ts) := by
  obtain ⟨v1, v2, v3⟩ := vk2 hv k
  refine ⟨by omega, fun t h => ?_⟩
  rcases List.mem_append.1 h with h | h
  · exact test_in (v2 t h) rfl
  · rw [← v3]; exact ht t h
theorem proj_in {l : Nat} {p : GPlan} {ts : List GTest} (hv : validM x.s l p = true) (ht : TIn p.Attrs.length ts) (k : p.Kind = 3) : 0 < p.Kids.length ∧ p.Attrs.length = p.Cols.length ∧ TIn (nth p.Kids 0).Attrs.length (divIn (plcP p) ts) := by
  obtain ⟨v1, v2, v3⟩ := vk3 hv k
  exact ⟨by omega, v3, div_in (fun c h1 h2 _ => (v2 _ (nth_mem (by omega))).2) ht⟩
theorem proj_facts {l : Nat} {p : GPlan} {b : Nat} {kid : Gnode} (hv : validM x.s l p = true) (hz : PSz p) (k : p.Kind = 3) (j1 : PI x b kid) (j2 : nmL kid.Plan.Attrs = nmL (nth p.Kids 0).Attrs) :
    colsIn kid.Plan.Attrs.length p.Cols ∧ (¬ kid.Plan.Kind = 3 → MkOk x (GPl.mk p.Kind 0 [] [] p.Cols 0 0 (pickL kid.Plan.Attrs p.Cols)) [kid]) ∧
    (kid.Plan.Kind = 3 → 0 < kid.Plan.Kids.length ∧ EOkE x (nth kid.Plan.Kids 0) ∧ colsIn kid.Plan.Cols.length p.Cols ∧
      MkOk x (GPl.mk p.Kind 0 [] [] (p.Cols.map fun c => nth kid.Plan.Cols c.toNat) 0 0 (pickL kid.Plan.Attrs p.Cols)) [wholeE x (nth kid.Plan.Kids 0)]) := by
  obtain ⟨v1, v2, v3⟩ := vk3 hv k
  have hsz := psz_at hz
  have hal := nm_len_eq j2
  have hci : colsIn kid.Plan.Attrs.length p.Cols := fun c hc => by rw [hal]; exact v2 c hc
  refine ⟨hci, fun _ => ?_, fun h3 => ?_⟩
  · rw [k]; exact mk_of_gd (one_gd j1) (pi_proj j1 hci hsz.2.1 (by simp [pickL])).g
  · obtain ⟨e1, e2⟩ := eokE_iff.1 j1.g.e
    have hk0 : 0 < kid.Plan.Kids.length := by have := e1.k2 (by omega); rwa [List.length_map] at this
    have hq : nth kid.Plan.Kids 0 ∈ kid.Plan.Kids := nth_mem hk0
    have hsub := pi_sub j1 hq
    have h4 := e1.k4 (.inl h3)
    have h5 : nth (kid.Plan.Kids.map (wholeE x)) 0 = wholeE x (nth kid.Plan.Kids 0) := by rw [nth_get (by rw [List.length_map]; exact hk0), nth_get hk0]; simp
    rw [h5, hsub.dn] at h4
    have hcl : kid.Plan.Cols.length = kid.Plan.Attrs.length := by
      have hd2 := j1.dn
      have hw := j1.g.w
      rw [wholeE_eq] at hw
      have h7 : kid.size.distinct = (dsM x kid.Plan (kid.Plan.Kids.map (wholeE x))).map fun d => min d (rowsM x kid.Plan (kid.Plan.Kids.map (wholeE x))) := (congrArg (fun a : Gnode => a.size.distinct) hw).symm
      rw [← hd2, h7, List.length_map, ds_3 h3, pickD, List.length_map]
    have hcc : colsIn kid.Plan.Cols.length p.Cols := by rw [hcl]; exact hci
    refine ⟨hk0, e2 _ hq, hcc, ?_⟩
    rw [k]
    refine mk_of_gd (one_gd hsub) (pi_proj hsub (fun c hc => ?_) (by rw [List.length_map]; exact hsz.2.1) (by simp [pickL])).g
    obtain ⟨d, hd', rfl⟩ := List.mem_map.1 hc
    have h6 := hcc d hd'
    exact h4 _ (nth_mem (by omega))
theorem grp_in {l : Nat} {p : GPlan} {ts : List GTest} (hv : validM x.s l p = true) (ht : TIn p.Attrs.length ts) (k : p.Kind = 8) : 0 < p.Kids.length ∧ p.Attrs.length = p.Cols.length + 1 ∧ TIn (nth p.Kids 0).Attrs.length (divIn (plcG p) ts) := by
  obtain ⟨v1, v2, v3⟩ := wk8 hv k
  refine ⟨by omega, v3, div_in (fun c h1 h2 h3 => ?_) ht⟩
  unfold plcG at h3 ⊢
  split
  · exact (v2 _ (nth_mem (by omega))).2
  · rename_i h4; rw [if_neg h4] at h3; omega
theorem grp_facts {l : Nat} {p : GPlan} {ts : List GTest} {b : Nat} {kid : Gnode} (hv : validM x.s l p = true) (hz : PSz p) (ht : TIn p.Attrs.length ts) (hl : ts.length ≤ 1000) (k : p.Kind = 8) (j1 : PI x b kid) (j2 : nmL kid.Plan.Attrs = nmL (nth p.Kids 0).Attrs) :
    colsIn kid.Plan.Attrs.length p.Cols ∧ MkOk x (GPl.mk p.Kind 0 [] [] p.Cols p.Col p.Agg (pickL kid.Plan.Attrs p.Cols ++ [nth p.Attrs p.Cols.length])) [kid] ∧
    (¬ (divOut (plcG p) ts).length = 0 → MkOk x (GPl.mk 2 0 [] (divOut (plcG p) ts) [] 0 0 (pickL kid.Plan.Attrs p.Cols ++ [nth p.Attrs p.Cols.length])) [makeM x (GPl.mk p.Kind 0 [] [] p.Cols p.Col p.Agg (pickL kid.Plan.Attrs p.Cols ++ [nth p.Attrs p.Cols.length])) [kid]]) := by
  obtain ⟨v1, v2, v3⟩ := wk8 hv k
  have hsz := psz_at hz
  have hci : colsIn kid.Plan.Attrs.length p.Cols := fun c hc => by rw [nm_len_eq j2]; exact v2 c hc
  have hdl := div_len (plcG p) ts
  have hg := pi_grp j1 (cols := p.Cols) (c := p.Col) (g := p.Agg) (ats := pickL kid.Plan.Attrs p.Cols ++ [nth p.Attrs p.Cols.length]) hci (by rw [List.length_append]; simp [pickL]; omega) (by rw [List.length_append]; simp [pickL])
  rw [k]
  refine ⟨hci, mk_of_gd (one_gd j1) hg.g, mk_above hg (by omega) ?_⟩
  show TIn (pickL kid.Plan.Attrs p.Cols ++ [nth p.Attrs p.Cols.length]).length _
  rw [show (pickL kid.Plan.Attrs p.Cols ++ [nth p.Attrs p.Cols.length]).length = p.Attrs.length by rw [List.length_append]; simp [pickL]; omega]
  exact div_out ht
theorem ren_facts {l : Nat} {p : GPlan} {b : Nat} {kid : Gnode} (hv : validM x.s l p = true) (k : p.Kind = 7) (j1 : PI x b kid) (j2 : nmL kid.Plan.Attrs = nmL (nth p.Kids 0).Attrs) :
    (0 ≤ p.Col ∧ p.Col < kid.Plan.Attrs.length ∧ p.Col < p.Attrs.length) ∧ MkOk x (GPl.mk p.Kind 0 [] [] [] p.Col 0 (kid.Plan.Attrs.set p.Col.toNat { nth kid.Plan.Attrs p.Col.toNat with Name := (nth p.Attrs p.Col.toNat).Name })) [kid] := by
  obtain ⟨v1, v2⟩ := vk7 hv k
  obtain ⟨⟨w1, w2⟩, w3⟩ := vn7 hv k
  have := nm_len_eq j2
  refine ⟨⟨w1, by omega, by omega⟩, ?_⟩
  rw [k]
  exact mk_of_gd (one_gd j1) (pi_ren j1 (by rw [List.length_set])).g
theorem bin_facts {l : Nat} {p : GPlan} {b : Nat} {a c : Gnode} (hv : validM x.s l p = true) (k : p.Kind = 5 ∨ p.Kind = 6) (j1 : PI x b a) (j2 : nmL a.Plan.Attrs = nmL (nth p.Kids 0).Attrs) (j3 : PI x b c) (j4 : nmL c.Plan.Attrs = nmL (nth p.Kids 1).Attrs) :
    MkOk x (GPl.mk p.Kind 0 [] [] [] 0 0 a.Plan.Attrs) [a, c] := by
  obtain ⟨v1, v2, v3⟩ := wk5 hv k
  exact mk_of_gd (pair_gd j1 j3) (pi_bin j1 j3 (by rw [nm_len_eq j2, nm_len_eq j4, v3]) k).g
end
open Go Go.Proofs Go.Proofs.Tryz
theorem ConcatI_spec (a b : List GTest) (h : a.length + b.length ≤ 1000000) : Fun1 prog 152 [tSl (rSl rTest) [a, b]] (tSl rTest (a ++ b)) :=
  (ConcatT_spec [a, b] (by simp) (by simpa using h)).frz fun z => Frz.own' (by simp)
theorem prightE_spec (s : GSchema) (hz : SchSz s) (p : GPlan) (hp : PSz p) (st : GStats) (hd : ∀ d ∈ st.Distinct, d.length ≤ 1000000000000) : Fun1 prog 92 [rSchema.ty s, rPlS.ty p, rStats.ty st] (tTup [rplanner.ty (if prightM s p st = true then (⟨s, st⟩ : Gplanner) else zplanner), tV (.bool (prightM s p st))]) :=
  Fun1.ex (ι := Nat) (fun n => [rSchema.ty s, (rPlan n).ty p, rStats.ty st]) (fun _ => tTup [rplanner.ty (if prightM s p st = true then (⟨s, st⟩ : Gplanner) else zplanner), tV (.bool (prightM s p st))]) fun vs h ha => by
    obtain ⟨v1, v2, v3, rfl, a1, a2, a3⟩ := args3 ha
    obtain ⟨n, a2⟩ := plS_ex a2
    exact ⟨n, ⟨a1, a2, a3, trivial⟩, pright_spec s hz n p (hp n) st hd, Sr⟩
theorem algValidE_spec (s : GSchema) (hz : SchSz s) (p : GPlan) (hp : PSz p) : Fun1 prog 60 [rSchema.ty s, rPlS.ty p] (tV (.bool (vldM s p))) :=
  Fun1.ex (ι := Nat) (fun n => [rSchema.ty s, (rPlan n).ty p]) (fun _ => tV (.bool (vldM s p))) fun vs h ha => by
    obtain ⟨v1, v2, rfl, a1, a2⟩ := args2 ha
    obtain ⟨n, a2⟩ := plS_ex a2
    exact ⟨n, ⟨a1, a2, trivial⟩, algValid_spec s hz n p (hp n), Sr⟩
theorem EstimateE_spec (s : GSchema) (hz : SchSz s) (m : Nat) (p : GPlan) (hm : Dep m p) (hp : PSz p) (st : GStats) (hd : ∀ d ∈ st.Distinct, d.length ≤ 1000000000000) : Fun1 prog 38 [rSchema.ty s, rPlS.ty p, rStats.ty st] (tTup [tV (.int .i64 (estM s m p st)), tV (.int .i64 (errP s p st))]) :=
  Fun1.ex (ι := Nat) (fun n => [rSchema.ty s, (rPlan n).ty p, rStats.ty st]) (fun n => tTup [tV (.int .i64 (estM s n p st)), tV (.int .i64 (errP s p st))]) fun vs h ha => by
    obtain ⟨v1, v2, v3, rfl, a1, a2, a3⟩ := args3 ha
    obtain ⟨n, a2⟩ := plS_ex a2
    have hd' : Dep n p := ty_dep a2
    refine ⟨n, ⟨a1, a2, a3, trivial⟩, Estimate_spec s hz n p (hp n) st hd, Sub.of_eq ?_⟩
    have : estM s n p st = estM s m p st := by unfold estM; rw [whole_dep ⟨s, st⟩ hd' hm]
    rw [this]
theorem map_take1 {α β : Type} [Inhabited α] {f : α → β} {l : List α} {i : Nat} (h : i < l.length) : (l.take (i + 1)).map f = (l.take i).map f ++ [f (nth l i)] := by rw [takeB h, List.map_append]; rfl
set_option maxHeartbeats 8000000 in
theorem push1g_spec (x : Gplanner) (hst : StOk x) (n : Nat) (ih : PushS x n) (l : Nat) (p : GPlan) (ts : List GTest) (hl12 : l ≤ 12) (hd : Dep (n + 1) p) (hv : validM x.s l p = true) (hz : PSz p) (ht : TIn p.Attrs.length ts) (hl : ts.length + psum (n + 1) p ≤ 1000) : Fun1 prog 96 [rplanner.ty x, rPlS.ty p, tSl rTest ts] (rnodeE.ty (pushM x (n + 1) p ts)) := by
 refine Spec.enter func96 rfl rfl fun h0 w0 fr0 => ?_
 obtain ⟨l', hll, hkd, hkn, hkv, _⟩ := valid_in hv
 have hsz := psz_at hz
 have hps : ∀ q ∈ p.Kids, p.Tests.length + psum n q ≤ psum (n + 1) p := fun q hq => psum_kid hq
 have IH : ∀ i, i < p.Kids.length → ∀ ts', TIn (nth p.Kids i).Attrs.length ts' → ts'.length ≤ ts.length + p.Tests.length → Fun1 prog 96 [rplanner.ty x, rPlS.ty (nth p.Kids i), tSl rTest ts'] (rnodeE.ty (pushM x n (nth p.Kids i) ts')) := fun i hi ts' h1 h2 => ih l' _ ts' zG (hd _ (nth_mem hi)) (hkv _ (nth_mem hi)) (psz_kid hz (nth_mem hi)).1 h1 (by have := hps _ (nth_mem hi); omega)
 have IP : ∀ i, i < p.Kids.length → ∀ ts', TIn (nth p.Kids i).Attrs.length ts' → ts'.length ≤ ts.length + p.Tests.length → PI x 1000 (pushM x n (nth p.Kids i) ts') ∧ nmL (pushM x n (nth p.Kids i) ts').Plan.Attrs = nmL (nth p.Kids i).Attrs := fun i hi ts' h1 h2 => by
  have h3 := hps _ (nth_mem hi)
  obtain ⟨h4, h5⟩ := push_ok hst n (hd _ (nth_mem hi)) (hkv _ (nth_mem hi)) (psz_kid hz (nth_mem hi)).1 h1 zG
  exact ⟨h4.le zG, h5⟩
 have hdiv : ∀ pl, (divIn pl ts).length ≤ ts.length ∧ (divOut pl ts).length ≤ ts.length := fun pl => by have := div_len pl ts; omega
 refine Jr (Js rfl (step_box (R := rplanner) Sr) (Js rfl (step_box (R := rPlS) Sr) ?_))
 refine Jx rfl (step_alloc (fun w => zeroValue152 w) zr152E) fun b6 => ?_
 refine JL_nil (J_seq (Jr (Js rfl (step_fieldAddr so46E Sr rfl) (Jl rfl ty3 Sr (JL_nil ?_)))))
 refine J_block (Jr (Js rfl (step_eql Sr Sr) (Ja rfl (JL_nil ?_))))
 refine J_cond Sr (fun h24 => ?_) (fun h24 => ?_)
 ·
  try simp only [NF] at h24
  have hin := tab_facts hst hv hz ht zG h24
  refine J_seq ?_
  refine J_draw [⟨0, [3], true⟩, ⟨1, [3], true⟩, ⟨2, [4], true⟩, ⟨3, [28], true⟩, ⟨4, [4], true⟩, ⟨5, [30], true⟩, ⟨6, [4], true⟩, ⟨7, [32], true⟩, ⟨8, [29, 31, 33], true⟩, ⟨9, [27, 34], true⟩, ⟨10, [2], true⟩, ⟨11, [26, 35, 36], true⟩, ⟨12, [6, 37], false⟩] rfl (by kernel_rfl) ?_
  refine Mf rfl rfl (step_load_ptr ty146 Sr) (Mf rfl rfl (step_load_ptr ty146 Sr) (Mf rfl rfl (step_fieldAddr so46E Sr rfl) (Mf rfl rfl (step_load_ptr ty3 Sr) (Mf rfl rfl (step_fieldAddr so46E Sr rfl) (Mf rfl rfl (step_load_ptr ty3 Sr) ?_)))))
  refine Mf rfl rfl (step_fieldAddr so46E Sr rfl) (Mf rfl rfl (step_load_ptr ty44 Sr) (Mf rfl rfl (step_build (x := (GPl.mk p.Kind p.Table [] [] [] 0 0 p.Attrs : GPlan)) (zs := [[Value.int .i64 0], [Value.int .i64 0], [Value.slice none 0 0], [Value.slice none 0 0], [Value.slice none 0 0], [Value.int .i64 0], [Value.int .i64 0], [Value.slice none 0 0]]) so46E (fun w => zeroValue46 w) ⟨Sr, Sr, Sr, trivial⟩ ⟨⟨Sr, rfl⟩, ⟨Sr, rfl⟩, fun _ => ⟨_, rfl, none, ⟨0, Nat.le_refl _⟩, rfl, fun q => absurd rfl q⟩, fun _ => ⟨_, rfl, none, ⟨0, Nat.le_refl _⟩, rfl, fun q => absurd rfl q⟩, fun _ => ⟨_, rfl, none, ⟨0, Nat.le_refl _⟩, rfl, fun q => absurd rfl q⟩, fun _ => rfl, fun _ => rfl, ⟨Sr, rfl⟩, trivial⟩) (Mf rfl rfl (step_call0 (makeE_spec x (GPl.mk p.Kind p.Table [] [] [] 0 0 p.Attrs) [] hin.1) ⟨Sr, Sr, Sub.nilsl, trivial⟩ call146) (Mv rfl rfl (Mf rfl rfl (step_call0 (above_spec x _ ts hin.2) ⟨Sr, Sr, Sr, trivial⟩ call151) ?_)))))
  refine JM_stepU rfl rfl rfl (step_store_box ty152E Sr Sr zS) fun _ => ?_
  refine JM_nil (J_ret ?_)
  refine K_ret1' (rv := .cell 6 152) rfl () (Sel.all _) (.cell (R := rnodeE) ty152E Sr zS Sr) (Frz.sub (Sub.of_eq (by simp [pushM, h24])))
 try simp only [NF] at h24
 refine Jr (Js rfl (step_eql Sr Sr) (Ja rfl (JL_nil ?_)))
 refine J_cond Sr (fun h38 => ?_) (fun h38 => ?_)
 ·
  try simp only [NF] at h38
  have hin := sel_facts hv ht h38
  have hk0 := hin.1
  refine J_seq ?_
  refine J_draw [⟨0, [3], true⟩, ⟨1, [4], true⟩, ⟨2, [41], true⟩, ⟨3, [42], true⟩, ⟨4, [43], true⟩, ⟨5, [4], true⟩, ⟨6, [45], true⟩, ⟨7, [2], true⟩, ⟨8, [46, 47], true⟩, ⟨9, [48], true⟩, ⟨10, [40, 44, 49], true⟩, ⟨11, [6, 50], false⟩] rfl (by kernel_rfl) ?_
  refine Mf rfl rfl (step_load_ptr ty146 Sr) (Mf rfl rfl (step_fieldAddr so46E Sr rfl) (Mf rfl rfl (step_load_ptr ty42E Sr) (Mf rfl rfl (step_indexAddr_sl (i := 0) underlying42 ty46P Sr Sr rfl (gb hk0)) (Mf rfl rfl (step_load_ptr ty46E Sub.pps) (Mf rfl rfl (step_fieldAddr so46E Sr rfl) ?_)))))
  refine Mf rfl rfl (step_load_ptr ty43 Sr) (Mv rfl rfl ?_)
  refine Mf rfl rfl (step_literal (ys := [p.Tests, ts]) underlying241 el43 ⟨rfl, Sr, rfl, Sr, trivial⟩ rfl (by decide)) ?_
  refine Mf rfl rfl (step_call0 (ConcatI_spec p.Tests ts zG) ⟨Sr, trivial⟩ call152) ?_
  refine Mf rfl rfl (step_call0 (IH 0 hk0 (p.Tests ++ ts) hin.2 (by rw [List.length_append]; omega)) ⟨Sr, Sr, Sr, trivial⟩ call96) ?_
  refine JM_stepU rfl rfl rfl (step_store_box ty152E Sr Sr zS) fun _ => ?_
  refine JM_nil (J_ret ?_)
  refine K_ret1' (rv := .cell 6 152) rfl () (Sel.all _) (.cell (R := rnodeE) ty152E Sr zS Sr) (Frz.sub (Sub.of_eq (by simp [pushM, h38])))
 try simp only [NF] at h38
 refine Jr (Js rfl (step_eql Sr Sr) (Ja rfl (JL_nil ?_)))
 refine J_cond Sr (fun h51 => ?_) (fun h51 => ?_)
 ·
  try simp only [NF] at h51
  refine Jr (Jl rfl ty146 Sr (Jl rfl ty46E Sr (Jm rfl (Js rfl (step_call0 (join_spec x hst n ih l p ts hl12 hd hv hz h51 ht hl) ⟨Sr, Sr, Sr, trivial⟩ call153) ?_))))
  refine Ju (step_store_box ty152E Sr Sr zS) fun _ => ?_
  refine JL_nil (J_ret ?_)
  refine K_ret1' (rv := .cell 6 152) rfl () (Sel.all _) (.cell (R := rnodeE) ty152E Sr zS Sr) (Frz.sub (Sub.of_eq (by simp [pushM, h51])))
 try simp only [NF] at h51
 refine Jr (Js rfl (step_eql Sr Sr) (Ja rfl (JL_nil ?_)))
 refine J_cond Sr (fun h57 => ?_) (fun h57 => ?_)
 ·
  try simp only [NF] at h57
  have hin := proj_in hv ht h57
  have hk0 := hin.1
  have hip := IP 0 hk0 _ hin.2.2 (by have := hdiv (plcP p); omega)
  refine Jr (Jm rfl (Js rfl (step_makeFunc (As := [_]) ⟨Sr, trivial⟩) ?_))
  refine Js rfl (step_call0 (divide_spec ts 155 [tPtr rPlS p] p.Attrs.length (plcP p) (fun c h1 h2 => push1_spec p c h1 (by have := hin.2.1; omega)) call155 ht zG) ⟨Sr, Sr, trivial⟩ call154) ?_
  refine Jm rfl (Js rfl (step_extract Sr rfl) (Js rfl (step_extract Sr rfl) (Ja rfl (Ja rfl (JL_nil ?_)))))
  refine J_seq ?_
  refine J_draw [⟨0, [3], true⟩, ⟨1, [4], true⟩, ⟨2, [66], true⟩, ⟨3, [67], true⟩, ⟨4, [68], true⟩, ⟨5, [7], true⟩, ⟨6, [65, 69, 70], true⟩, ⟨7, [], false⟩, ⟨8, [9, 71], false⟩] rfl (by kernel_rfl) ?_
  refine Mf rfl rfl (step_load_ptr ty146 Sr) (Mf rfl rfl (step_fieldAddr so46E Sr rfl) (Mf rfl rfl (step_load_ptr ty42E Sr) (Mf rfl rfl (step_indexAddr_sl (i := 0) underlying42 ty46P Sr Sr rfl (gb hk0)) (Mf rfl rfl (step_load_ptr ty46E Sub.pps) (Mv rfl rfl ?_)))))
  refine Mf rfl rfl (step_call0 (IH 0 hk0 (divIn (plcP p) ts) hin.2.2 (by have := hdiv (plcP p); omega)) ⟨Sr, Sr, Sr, trivial⟩ call96) ?_
  refine JM_stepX rfl rfl rfl rfl (step_alloc (fun w => zeroValue152 w) zr152E) fun b9 => ?_
  refine JM_stepU rfl rfl rfl (step_store_box ty152E Sr Sr zS) fun _ => ?_
  refine JM_nil ?_
  generalize hkd : (pushM x n (nth p.Kids 0) (divIn (plcP p) ts)) = kid at hip
  have hpf := proj_facts hv hz h57 hip.1 hip.2
  refine Jr (Js rfl (step_fieldAddr so46E Sr rfl) (Jl rfl ty36 Sr (Ja rfl (JL_nil (Jr ?_)))))
  refine Js rfl (step_fieldAt (o := 0) (o' := 0) so152E Sr rfl rfl) (Js rfl (step_addr_nd so46E Sr rfl) ?_)
  refine Js rfl (step_load_nd ty44 Sr zS rfl) ?_
  refine Jm rfl (Js rfl (step_call0 (ppickI_spec _ _ hpf.1 zG) ⟨Sr, Sr, trivial⟩ call156) (Ja rfl (JL_nil (J_seq (Jr ?_)))))
  refine Js rfl (step_fieldAt (o := 0) (o' := 0) so152E Sr rfl rfl) (Js rfl (step_addr_nd so46E Sr rfl) ?_)
  refine Js rfl (step_load_nd ty3 Sr zS rfl) ?_
  refine Js rfl (step_eql Sr Sr) (JL_nil ?_)
  refine J_cond Sr (fun h82 => ?_) (fun h82 => ?_)
  ·
   try simp only [NF] at h82
   have h82 : kid.Plan.Kind = 3 := h82
   have hpk := hpf.2.2 h82
   refine Jr (Ja rfl (JL_nil (J_seq (Jr (Js rfl (step_fieldAddr so46E Sr rfl) ?_)))))
   refine Jl rfl ty36 Sr (Js rfl (step_len_sl underlying36 Sr) (Jm rfl (JL_nil (J_block ?_))))
   refine J_loopL (σ := Nat × Value) (fun ⟨i, vo⟩ => i ≤ p.Cols.length) (fun ⟨i, vo⟩ => upd (upd (upd (upd (upd (upd (upd (upd (upd (upd env0 2 (tSl rTest ts)) 3 (tPtr rplanner x)) 4 (tPtr rPlS p)) 6 (tAt b6 0)) 9 (tAt b9 0)) 10 (rV.ty vo)) 11 (tSl rAttr (pickL kid.Plan.Attrs p.Cols))) 84 (tSl rInt p.Cols)) 85 (tV (.int .i64 p.Cols.length))) 86 (tV (.int .i64 i))) (fun ⟨i, vo⟩ => [own 3 rInt vo ((p.Cols.take i).map fun c => nth kid.Plan.Cols c.toNat), box b9 152 rnodeE kid, box b6 152 rnodeE ⟨GPl.zero, zsize⟩]) (fun ⟨i, vo⟩ => p.Cols.length - i) (0, .slice none 0 0) (by exact Nat.zero_le _) (.u (.u (.u (.u (SubE.upd (Sub.rV rfl) (zU)))))) (LSub.trans (LSub.nilown (e := 3) (R := rInt)) (zL)) ?_
   rintro ⟨i, vo⟩ hi
   try dsimp only at hi
   refine Jr (Js rfl (step_lss Sr Sr) (JL_nil (J_seq ?_)))
   refine J_cond Sr (fun h87 => ?_) (fun h87 => ?_)
   ·
    try simp only [NF] at h87
    have hlt : i < p.Cols.length := by omega
    have hci := hpk.2.2.1 _ (nth_mem hlt)
    refine J_skip (J_seq (J_block (Jr ?_)))
    refine Js rfl (step_indexAddr_sl (i := i) underlying36 ty3 Sr Sr (by rfl) (gb (by exact hlt))) ?_
    refine Jl rfl ty3 Sr (Ja rfl (JL_nil (J_region (Jm rfl (Js rfl (step_fieldAt (o := 0) (o' := 0) so152E Sr rfl rfl) ?_)))))
    refine Js rfl (step_addr_nd so46E Sr rfl) ?_
    refine Js rfl (step_load_nd ty36 Sr zS rfl) ?_
    refine Jm rfl ?_
    refine Js rfl (step_indexAddr_sl (i := (nth p.Cols i).toNat) underlying36 ty3 Sr Sr (by show nth p.Cols i = _; omega) (gb (by show _ < kid.Plan.Cols.length; omega))) ?_
    refine Jl rfl ty3 Sr ?_
    refine Js rfl (step_literal (ys := [_]) underlying36 el3 ⟨rfl, Sr, trivial⟩ rfl (by decide)) ?_
    refine Jx rfl (step_append underlying36 el3 Sr Sr zS (by simp only [List.length_append, List.length_cons, List.length_nil, List.length_map, List.length_take]; omega) (by simp only [List.length_append, List.length_cons, List.length_nil, List.length_map, List.length_take]; omega)) fun v98 => ?_
    refine Ja rfl (JL_nil (J_region (Js rfl (step_add Sr Sr z6) (Jm rfl (JL_nil ?_)))))
    refine K_againL (σ := Nat × Value) (s := (i, vo)) (i + 1, v98) zO (by show i + 1 ≤ _; omega) (zU) (.c zS (SPs.of (by rw [map_take1 hlt])) (zL))
   try simp only [NF] at h87
   obtain rfl : i = p.Cols.length := by omega
   refine J_exit ?_
   refine K_freeze (t := 10) (A' := tSl rInt (p.Cols.map fun c => nth kid.Plan.Cols c.toNat)) (Sel.take (Sel.none _)) (Frz.own' (by rw [List.take_length])) ?_
   refine J_draw [⟨0, [3], true⟩, ⟨1, [9], true⟩, ⟨2, [101], true⟩, ⟨3, [102], false⟩, ⟨4, [103], true⟩, ⟨5, [104], true⟩, ⟨6, [100, 105], true⟩, ⟨7, [9, 106], false⟩] rfl (by kernel_rfl) ?_
   refine Mf rfl rfl (step_load_ptr ty146 Sr) (Mf rfl rfl (step_fieldAt (o := 0) (o' := 0) so152E Sr rfl rfl) (Mf rfl rfl (step_addr_nd so46E Sr rfl) ?_))
   refine JM_look rfl rfl rfl rfl (step_load_nd ty42E Sr zS rfl) ?_
   refine Mf rfl rfl (step_indexAddr_sl (i := 0) underlying42 ty46P Sr Sr rfl (gb hpk.1)) (Mf rfl rfl (step_load_ptr ty46E Sub.pps) (Mf rfl rfl (step_call0 (wholeE_spec x (nth kid.Plan.Kids 0) hpk.2.1) ⟨Sr, Sr, trivial⟩ call93) ?_))
   refine JM_stepU rfl rfl rfl (step_store_box ty152E Sr Sr zS) fun _ => ?_
   refine JM_nil (Jr (Jl rfl ty146 Sr (Js rfl (step_fieldAddr so46E Sr rfl) (Jl rfl ty3 Sr (Jm rfl ?_)))))
   refine Jm rfl ?_
   refine Js rfl (step_build (x := (GPl.mk p.Kind 0 [] [] (p.Cols.map fun c => nth kid.Plan.Cols c.toNat) 0 0 (pickL kid.Plan.Attrs p.Cols) : GPlan)) (zs := [[Value.int .i64 0], [Value.int .i64 0], [Value.slice none 0 0], [Value.slice none 0 0], [Value.slice none 0 0], [Value.int .i64 0], [Value.int .i64 0], [Value.slice none 0 0]]) so46E (fun w => zeroValue46 w) ⟨Sr, (by dsimp only [opTy, upd, Nat.beq, fsPlE, fsPl, List.getElem?_cons_succ, List.getElem?_cons_zero]; exact Sr), Sr, trivial⟩ ⟨⟨Sr, rfl⟩, fun _ => rfl, fun _ => ⟨_, rfl, none, ⟨0, Nat.le_refl _⟩, rfl, fun q => absurd rfl q⟩, fun _ => ⟨_, rfl, none, ⟨0, Nat.le_refl _⟩, rfl, fun q => absurd rfl q⟩, ⟨(by dsimp only [opTy, upd, Nat.beq, fsPlE, fsPl, List.getElem?_cons_succ, List.getElem?_cons_zero]; exact Sr), rfl⟩, fun _ => rfl, fun _ => rfl, ⟨Sr, rfl⟩, trivial⟩) ?_
   refine Js rfl (step_load_box ty152E Sr zS) ?_
   refine Js rfl (step_literal (ys := [(wholeE x (nth kid.Plan.Kids 0))]) underlying197 el152E ⟨rfl, Sr, trivial⟩ rfl (by decide)) ?_
   refine Js rfl (step_call0 (makeE_spec x (GPl.mk p.Kind 0 [] [] (p.Cols.map fun c => nth kid.Plan.Cols c.toNat) 0 0 (pickL kid.Plan.Attrs p.Cols)) [(wholeE x (nth kid.Plan.Kids 0))] hpk.2.2.2) ⟨Sr, Sr, Sr, trivial⟩ call146) ?_
   refine Ju (step_store_box ty152E Sr Sr zS) fun _ => ?_
   refine JL_nil (J_ret ?_)
   refine K_ret1' (rv := .cell 6 152) rfl () (Sel.all _) (.cell (R := rnodeE) ty152E Sr zS Sr) (Frz.sub (Sub.of_eq (by simp [pushM, h57, hkd, projM, h82])))
  try simp only [NF] at h82
  have h82 : ¬ kid.Plan.Kind = 3 := h82
  refine J_skip (Jr (Jl rfl ty146 Sr (Js rfl (step_fieldAddr so46E Sr rfl) (Jl rfl ty3 Sr (Jm rfl ?_)))))
  refine Jm rfl ?_
  refine Js rfl (step_build (x := (GPl.mk p.Kind 0 [] [] p.Cols 0 0 (pickL kid.Plan.Attrs p.Cols) : GPlan)) (zs := [[Value.int .i64 0], [Value.int .i64 0], [Value.slice none 0 0], [Value.slice none 0 0], [Value.slice none 0 0], [Value.int .i64 0], [Value.int .i64 0], [Value.slice none 0 0]]) so46E (fun w => zeroValue46 w) ⟨Sr, (by dsimp only [opTy, upd, Nat.beq, fsPlE, fsPl, List.getElem?_cons_succ, List.getElem?_cons_zero]; exact Sr), Sr, trivial⟩ ⟨⟨Sr, rfl⟩, fun _ => rfl, fun _ => ⟨_, rfl, none, ⟨0, Nat.le_refl _⟩, rfl, fun q => absurd rfl q⟩, fun _ => ⟨_, rfl, none, ⟨0, Nat.le_refl _⟩, rfl, fun q => absurd rfl q⟩, ⟨(by dsimp only [opTy, upd, Nat.beq, fsPlE, fsPl, List.getElem?_cons_succ, List.getElem?_cons_zero]; exact Sr), rfl⟩, fun _ => rfl, fun _ => rfl, ⟨Sr, rfl⟩, trivial⟩) ?_
  refine Js rfl (step_load_box ty152E Sr zS) ?_
  refine Js rfl (step_literal (ys := [kid]) underlying197 el152E ⟨rfl, Sr, trivial⟩ rfl (by decide)) ?_
  refine Js rfl (step_call0 (makeE_spec x (GPl.mk p.Kind 0 [] [] p.Cols 0 0 (pickL kid.Plan.Attrs p.Cols)) [kid] (hpf.2.1 h82)) ⟨Sr, Sr, Sr, trivial⟩ call146) ?_
  refine Ju (step_store_box ty152E Sr Sr zS) fun _ => ?_
  refine JL_nil (J_ret ?_)
  refine K_ret1' (rv := .cell 6 152) rfl () (Sel.all _) (.cell (R := rnodeE) ty152E Sr zS Sr) (Frz.sub (Sub.of_eq (by simp [pushM, h57, hkd, projM, h82])))
 try simp only [NF] at h57
 refine Jr (Js rfl (step_eql Sr Sr) (Ja rfl (JL_nil ?_)))
 refine J_cond Sr (fun h116 => ?_) (fun h116 => ?_)
 ·
  try simp only [NF] at h116
  have hin := grp_in hv ht h116
  have hk0 := hin.1
  have hip := IP 0 hk0 _ hin.2.2 (by have := hdiv (plcG p); omega)
  refine Jr (Jm rfl (Js rfl (step_makeFunc (As := [_]) ⟨Sr, trivial⟩) (Js rfl (step_call0 (divide_spec ts 157 [tPtr rPlS p] p.Attrs.length (plcG p) (fun c h1 h2 => push2_spec p c h1) call157 ht zG) ⟨Sr, Sr, trivial⟩ call154) (Jm rfl (Js rfl (step_extract Sr rfl) ?_)))))
  refine Js rfl (step_extract Sr rfl) (Ja rfl (Ja rfl (JL_nil (J_seq ?_))))
  refine J_draw [⟨0, [3], true⟩, ⟨1, [4], true⟩, ⟨2, [125], true⟩, ⟨3, [126], true⟩, ⟨4, [127], true⟩, ⟨5, [14], true⟩, ⟨6, [124, 128, 129], true⟩, ⟨7, [], false⟩, ⟨8, [16, 130], false⟩] rfl (by kernel_rfl) ?_
  refine Mf rfl rfl (step_load_ptr ty146 Sr) (Mf rfl rfl (step_fieldAddr so46E Sr rfl) (Mf rfl rfl (step_load_ptr ty42E Sr) (Mf rfl rfl (step_indexAddr_sl (i := 0) underlying42 ty46P Sr Sr rfl (gb hk0)) (Mf rfl rfl (step_load_ptr ty46E Sub.pps) (Mv rfl rfl ?_)))))
  refine Mf rfl rfl (step_call0 (IH 0 hk0 (divIn (plcG p) ts) hin.2.2 (by have := hdiv (plcG p); omega)) ⟨Sr, Sr, Sr, trivial⟩ call96) ?_
  refine JM_stepX rfl rfl rfl rfl (step_alloc (fun w => zeroValue152 w) zr152E) fun b16 => ?_
  refine JM_stepU rfl rfl rfl (step_store_box ty152E Sr Sr zS) fun _ => ?_
  refine JM_nil ?_
  generalize hkd : (pushM x n (nth p.Kids 0) (divIn (plcG p) ts)) = kid at hip
  refine K_freeze (t := 16) zS Frz.box ?_
  have hgf := grp_facts hv hz ht zG h116 hip.1 hip.2
  refine J_seq ?_
  refine J_draw [⟨0, [16], true⟩, ⟨1, [131], true⟩, ⟨2, [132], true⟩, ⟨3, [4], true⟩, ⟨4, [134], true⟩, ⟨6, [4], true⟩, ⟨7, [137], true⟩, ⟨8, [4], true⟩, ⟨9, [139], true⟩, ⟨10, [140], true⟩, ⟨11, [138, 141], true⟩, ⟨12, [142], true⟩, ⟨13, [143], true⟩, ⟨5, [133, 135], false⟩, ⟨14, [136, 144], false⟩, ⟨15, [145], true⟩] rfl (by kernel_rfl) ?_
  refine Mf rfl rfl (step_fieldAddr so152E Sr rfl) (Mf rfl rfl (step_fieldAddr so46E Sr rfl) (Mf rfl rfl (step_load_ptr ty44 Sr) (Mf rfl rfl (step_fieldAddr so46E Sr rfl) (Mf rfl rfl (step_load_ptr ty36 Sr) (Mf rfl rfl (step_fieldAddr so46E Sr rfl) ?_)))))
  refine Mf rfl rfl (step_load_ptr ty44 Sr) (Mf rfl rfl (step_fieldAddr so46E Sr rfl) (Mf rfl rfl (step_load_ptr ty36 Sr) (Mf rfl rfl (step_len_sl underlying36 Sr) ?_)))
  refine Mf rfl rfl (step_indexAddr_sl (i := p.Cols.length) underlying44 ty89 Sr Sr (by rfl) (gb (by show _ < p.Attrs.length; have := hin.2.1; omega))) ?_
  refine Mf rfl rfl (step_load_ptr ty89 Sr) ?_
  refine Mf rfl rfl (step_literal (ys := [_]) underlying44 el89 ⟨rfl, Sr, trivial⟩ rfl (by decide)) ?_
  refine JM_stepX rfl rfl rfl rfl (step_call (Sel.none _) (ppick_spec kid.Plan.Attrs p.Cols hgf.1 zG) ⟨Sr, Sr, trivial⟩ call156) fun v136 => ?_
  refine JM_stepX rfl rfl rfl rfl (step_append underlying44 el89 Sr Sr zS (by simp [pickL]; omega) (by simp [pickL]; omega)) fun v145 => ?_
  refine Mf rfl rfl (step_assign Sr) (JM_nil ?_)
  refine K_freeze (t := 17) (A' := tSl rAttr ((pickL kid.Plan.Attrs p.Cols) ++ [nth p.Attrs p.Cols.length])) zS Frz.own ?_
  refine J_seq ?_
  refine J_draw [⟨0, [3], true⟩, ⟨1, [3], true⟩, ⟨2, [4], true⟩, ⟨3, [148], true⟩, ⟨4, [4], true⟩, ⟨5, [150], true⟩, ⟨6, [4], true⟩, ⟨7, [152], true⟩, ⟨8, [4], true⟩, ⟨9, [154], true⟩, ⟨10, [17], true⟩, ⟨11, [149, 151, 153, 155, 156], true⟩, ⟨12, [16], true⟩, ⟨13, [158], true⟩, ⟨14, [147, 157, 159], true⟩, ⟨15, [15], true⟩, ⟨16, [146, 160, 161], true⟩, ⟨17, [6, 162], false⟩] rfl (by kernel_rfl) ?_
  refine Mf rfl rfl (step_load_ptr ty146 Sr) (Mf rfl rfl (step_load_ptr ty146 Sr) (Mf rfl rfl (step_fieldAddr so46E Sr rfl) (Mf rfl rfl (step_load_ptr ty3 Sr) (Mf rfl rfl (step_fieldAddr so46E Sr rfl) (Mf rfl rfl (step_load_ptr ty36 Sr) ?_)))))
  refine Mf rfl rfl (step_fieldAddr so46E Sr rfl) (Mf rfl rfl (step_load_ptr ty3 Sr) (Mf rfl rfl (step_fieldAddr so46E Sr rfl) (Mf rfl rfl (step_load_ptr ty3 Sr) (Mv rfl rfl (Mf rfl rfl (step_build (x := (GPl.mk p.Kind 0 [] [] p.Cols p.Col p.Agg ((pickL kid.Plan.Attrs p.Cols) ++ [nth p.Attrs p.Cols.length]) : GPlan)) (zs := [[Value.int .i64 0], [Value.int .i64 0], [Value.slice none 0 0], [Value.slice none 0 0], [Value.slice none 0 0], [Value.int .i64 0], [Value.int .i64 0], [Value.slice none 0 0]]) so46E (fun w => zeroValue46 w) ⟨Sr, Sr, Sr, Sr, Sr, trivial⟩ ⟨⟨Sr, rfl⟩, fun _ => rfl, fun _ => ⟨_, rfl, none, ⟨0, Nat.le_refl _⟩, rfl, fun q => absurd rfl q⟩, fun _ => ⟨_, rfl, none, ⟨0, Nat.le_refl _⟩, rfl, fun q => absurd rfl q⟩, ⟨Sr, rfl⟩, ⟨Sr, rfl⟩, ⟨Sr, rfl⟩, ⟨Sr, rfl⟩, trivial⟩) ?_)))))
  refine Mf rfl rfl (step_load_ptr ty152E Sr) ?_
  refine Mf rfl rfl (step_literal (ys := [kid]) underlying197 el152E ⟨rfl, Sr, trivial⟩ rfl (by decide)) ?_
  refine Mf rfl rfl (step_call0 (makeE_spec x (GPl.mk p.Kind 0 [] [] p.Cols p.Col p.Agg ((pickL kid.Plan.Attrs p.Cols) ++ [nth p.Attrs p.Cols.length])) [kid] hgf.2.1) ⟨Sr, Sr, Sr, trivial⟩ call146) (Mv rfl rfl (Mf rfl rfl (step_call0 (above_spec x (makeM x (GPl.mk p.Kind 0 [] [] p.Cols p.Col p.Agg ((pickL kid.Plan.Attrs p.Cols) ++ [nth p.Attrs p.Cols.length])) [kid]) (divOut (plcG p) ts) hgf.2.2) ⟨Sr, Sr, Sr, trivial⟩ call151) ?_))
  refine JM_stepU rfl rfl rfl (step_store_box ty152E Sr Sr zS) fun _ => ?_
  refine JM_nil (J_ret ?_)
  refine K_ret1' (rv := .cell 6 152) rfl () (Sel.all _) (.cell (R := rnodeE) ty152E Sr zS Sr) (Frz.sub (Sub.of_eq (by simp [pushM, h116, hkd, grpM])))
 try simp only [NF] at h116
 refine Jr (Js rfl (step_eql Sr Sr) (Ja rfl (JL_nil ?_)))
 refine J_cond Sr (fun h163 => ?_) (fun h163 => ?_)
 ·
  try simp only [NF] at h163
  have hvk := vk7 hv h163
  have hk0 : 0 < p.Kids.length := by omega
  have hin : TIn (nth p.Kids 0).Attrs.length ts := by rw [← hvk.2]; exact ht
  have hip := IP 0 hk0 _ hin zG
  refine J_seq ?_
  refine J_draw [⟨0, [3], true⟩, ⟨1, [4], true⟩, ⟨2, [166], true⟩, ⟨3, [167], true⟩, ⟨4, [168], true⟩, ⟨5, [2], true⟩, ⟨6, [165, 169, 170], true⟩, ⟨7, [], false⟩, ⟨8, [18, 171], false⟩] rfl (by kernel_rfl) ?_
  refine Mf rfl rfl (step_load_ptr ty146 Sr) (Mf rfl rfl (step_fieldAddr so46E Sr rfl) (Mf rfl rfl (step_load_ptr ty42E Sr) (Mf rfl rfl (step_indexAddr_sl (i := 0) underlying42 ty46P Sr Sr rfl (gb hk0)) (Mf rfl rfl (step_load_ptr ty46E Sub.pps) (Mv rfl rfl ?_)))))
  refine Mf rfl rfl (step_call0 (IH 0 hk0 ts hin zG) ⟨Sr, Sr, Sr, trivial⟩ call96) ?_
  refine JM_stepX rfl rfl rfl rfl (step_alloc (fun w => zeroValue152 w) zr152E) fun b18 => ?_
  refine JM_stepU rfl rfl rfl (step_store_box ty152E Sr Sr zS) fun _ => ?_
  refine JM_nil ?_
  generalize hkd : (pushM x n (nth p.Kids 0) ts) = kid at hip
  refine K_freeze (t := 18) zS Frz.box ?_
  have hrf := ren_facts hv h163 hip.1 hip.2
  refine Jr (Js rfl (step_fieldAddr so152E Sr rfl) (Js rfl (step_fieldAddr so46E Sr rfl) (Jl rfl ty44 Sr ?_)))
  refine Jx rfl (step_call (Sel.none _) (CloneA_spec kid.Plan.Attrs (by have := hip.1.a; omega)) ⟨Sr, trivial⟩ call158) fun v175 => ?_
  refine Ja rfl (JL_nil (J_seq ?_))
  refine J_draw [⟨0, [19], true⟩, ⟨1, [4], true⟩, ⟨2, [177], true⟩, ⟨3, [4], true⟩, ⟨4, [179], true⟩, ⟨5, [4], true⟩, ⟨6, [181], true⟩, ⟨7, [180, 182], true⟩, ⟨8, [183], true⟩, ⟨9, [184], true⟩, ⟨10, [176, 178], false⟩, ⟨11, [186], false⟩, ⟨12, [185, 187], false⟩] rfl (by kernel_rfl) ?_
  refine Mv rfl rfl (Mf rfl rfl (step_fieldAddr so46E Sr rfl) (Mf rfl rfl (step_load_ptr ty3 Sr) (Mf rfl rfl (step_fieldAddr so46E Sr rfl) (Mf rfl rfl (step_load_ptr ty44 Sr) (Mf rfl rfl (step_fieldAddr so46E Sr rfl) ?_)))))
  refine Mf rfl rfl (step_load_ptr ty3 Sr) ?_
  refine Mf rfl rfl (step_indexAddr_sl (i := p.Col.toNat) underlying44 ty89 Sr Sr (by show p.Col = _; have := hrf.1; omega) (gb (by show _ < p.Attrs.length; have := hrf.1; omega))) ?_
  refine Mf rfl rfl (step_fieldAddr so89 Sr rfl) (Mf rfl rfl (step_load_ptr ty9 Sr) ?_)
  refine JM_look rfl rfl rfl rfl (step_indexAddr_own (i := p.Col.toNat) underlying44 ty89 Sr zS Sr (by show p.Col = _; have := hrf.1; omega) (by show _ < kid.Plan.Attrs.length; have := hrf.1; omega)) ?_
  refine JM_look rfl rfl rfl rfl (step_fieldAddr_elem (i := p.Col.toNat) so89 Sr rfl zS (by show _ < kid.Plan.Attrs.length; have := hrf.1; omega)) ?_
  refine JM_stepU rfl rfl rfl (step_store_elemfld (R := rStr) (i := p.Col.toNat) (y := nth kid.Plan.Attrs p.Col.toNat) (y' := { nth kid.Plan.Attrs p.Col.toNat with Name := (nth p.Attrs p.Col.toNat).Name }) ty9 Sr Sr zS (gb (by show _ < kid.Plan.Attrs.length; have := hrf.1; omega)) (by exact ⟨fun _ _ q => q, rfl, by intro g hg; simp only [List.mem_cons, List.not_mem_nil, or_false] at hg; rcases hg with rfl | rfl | rfl <;> rfl⟩)) fun _ => ?_
  refine JM_nil ?_
  refine K_freeze (t := 19) (A' := tSl rAttr (kid.Plan.Attrs.set p.Col.toNat { nth kid.Plan.Attrs p.Col.toNat with Name := (nth p.Attrs p.Col.toNat).Name })) zS Frz.own ?_
  refine Jr (Jl rfl ty146 Sr (Js rfl (step_fieldAddr so46E Sr rfl) (Jl rfl ty3 Sr (Js rfl (step_fieldAddr so46E Sr rfl) (Jl rfl ty3 Sr ?_)))))
  refine Jm rfl (Js rfl (step_build (x := (GPl.mk p.Kind 0 [] [] [] p.Col 0 (kid.Plan.Attrs.set p.Col.toNat { nth kid.Plan.Attrs p.Col.toNat with Name := (nth p.Attrs p.Col.toNat).Name }) : GPlan)) (zs := [[Value.int .i64 0], [Value.int .i64 0], [Value.slice none 0 0], [Value.slice none 0 0], [Value.slice none 0 0], [Value.int .i64 0], [Value.int .i64 0], [Value.slice none 0 0]]) so46E (fun w => zeroValue46 w) ⟨Sr, Sr, Sr, trivial⟩ ⟨⟨Sr, rfl⟩, fun _ => rfl, fun _ => ⟨_, rfl, none, ⟨0, Nat.le_refl _⟩, rfl, fun q => absurd rfl q⟩, fun _ => ⟨_, rfl, none, ⟨0, Nat.le_refl _⟩, rfl, fun q => absurd rfl q⟩, fun _ => ⟨_, rfl, none, ⟨0, Nat.le_refl _⟩, rfl, fun q => absurd rfl q⟩, ⟨Sr, rfl⟩, fun _ => rfl, ⟨Sr, rfl⟩, trivial⟩) (Jl rfl ty152E Sr ?_))
  refine Js rfl (step_literal (ys := [kid]) underlying197 el152E ⟨rfl, Sr, trivial⟩ rfl (by decide)) ?_
  refine Js rfl (step_call0 (makeE_spec x (GPl.mk p.Kind 0 [] [] [] p.Col 0 (kid.Plan.Attrs.set p.Col.toNat { nth kid.Plan.Attrs p.Col.toNat with Name := (nth p.Attrs p.Col.toNat).Name })) [kid] hrf.2) ⟨Sr, Sr, Sr, trivial⟩ call146) ?_
  refine Ju (step_store_box ty152E Sr Sr zS) fun _ => ?_
  refine JL_nil (J_ret ?_)
  refine K_ret1' (rv := .cell 6 152) rfl () (Sel.all _) (.cell (R := rnodeE) ty152E Sr zS Sr) (Frz.sub (Sub.of_eq (by simp [pushM, h163, hkd, renM])))
 try simp only [NF] at h163
 have h56 : p.Kind = 5 ∨ p.Kind = 6 := by rcases kind_cases hkd with k | k | k | k | k | k | k | k <;> omega
 have hwk := wk5 hv h56
 have hk0 : 0 < p.Kids.length := by omega
 have hk1 : 1 < p.Kids.length := by omega
 have hin : TIn (nth p.Kids 0).Attrs.length ts := by rw [← hwk.2.1]; exact ht
 have hin1 : TIn (nth p.Kids 1).Attrs.length ts := by rw [← hwk.2.2, ← hwk.2.1]; exact ht
 have hip := IP 0 hk0 _ hin zG
 have hip1 := IP 1 hk1 _ hin1 zG
 have hbf := bin_facts hv h56 hip.1 hip.2 hip1.1 hip1.2
 refine J_skip (J_seq ?_)
 refine J_drawZ [] [⟨0, [3], 0⟩, ⟨1, [4], 0⟩, ⟨2, [199], 0⟩, ⟨3, [200], 0⟩, ⟨4, [201], 0⟩, ⟨5, [2], 0⟩, ⟨6, [198, 202, 203], 0⟩, ⟨7, [3], 0⟩, ⟨8, [4], 0⟩, ⟨9, [206], 0⟩, ⟨10, [207], 0⟩, ⟨11, [208], 0⟩, ⟨12, [2], 0⟩, ⟨13, [205, 209, 210], 0⟩] [⟨14, [], 20, SP.emp, fun v => tAt (vN v) 0, fun v => box (vN v) 152 rnodeE ⟨GPl.zero, zsize⟩⟩, ⟨15, [], 21, SP.emp, fun v => tAt (vN v) 0, fun v => box (vN v) 152 rnodeE ⟨GPl.zero, zsize⟩⟩] [⟨16, [20, 204], 2⟩, ⟨17, [21, 211], 2⟩] (L := [box b6 152 rnodeE ⟨GPl.zero, zsize⟩]) (LSub.trans LSub.emp LSub.emp) rfl (by kernel_rfl) (Nat.le_of_ble_eq_true rfl) ?_
 refine JF_step rfl rfl rfl rfl (fun _ => step_load_ptr ty146 Sr) ?_
 refine JF_step rfl rfl rfl rfl (fun _ => step_fieldAddr so46E Sr rfl) ?_
 refine JF_step rfl rfl rfl rfl (fun _ => step_load_ptr ty42E Sr) ?_
 refine JF_step rfl rfl rfl rfl (fun _ => step_indexAddr_sl (i := 0) underlying42 ty46P Sr Sr rfl (gb hk0)) ?_
 refine JF_step rfl rfl rfl rfl (fun _ => step_load_ptr ty46E Sub.pps) ?_
 refine JF_step rfl rfl rfl rfl (fun _ => step_move Sr) ?_
 refine JF_step rfl rfl rfl rfl (fun _ => step_call0 (IH 0 hk0 ts hin zG) ⟨Sr, Sr, Sr, trivial⟩ call96) ?_
 refine JF_step rfl rfl rfl rfl (fun _ => step_load_ptr ty146 Sr) ?_
 refine JF_step rfl rfl rfl rfl (fun _ => step_fieldAddr so46E Sr rfl) ?_
 refine JF_step rfl rfl rfl rfl (fun _ => step_load_ptr ty42E Sr) ?_
 refine JF_step rfl rfl rfl rfl (fun _ => step_indexAddr_sl (i := 1) underlying42 ty46P Sr Sr rfl (gb hk1)) ?_
 refine JF_step rfl rfl rfl rfl (fun _ => step_load_ptr ty46E Sub.pps) ?_
 refine JF_step rfl rfl rfl rfl (fun _ => step_move Sr) ?_
 refine JF_step rfl rfl rfl rfl (fun _ => step_call0 (IH 1 hk1 ts hin1 zG) ⟨Sr, Sr, Sr, trivial⟩ call96) ?_
 refine JF_nil ?_
 refine ⟨⟨_, rfl, rfl, rfl, rfl, fun _ => by refine Step.empty ?_; exact Step.emb ptrV (step_alloc (fun w => zeroValue152 w) zr152E) (fun _ => rfl) (fun _ => rfl)⟩, fun b20 => ?_⟩
 refine ⟨⟨_, rfl, rfl, rfl, rfl, fun _ => by refine Step.empty ?_; exact Step.emb ptrV (step_alloc (fun w => zeroValue152 w) zr152E) (fun _ => rfl) (fun _ => rfl)⟩, fun b21 => ?_⟩
 refine upP_in ?_
 refine JX_stepU rfl rfl rfl (step_store_box ty152E Sr Sr zS) fun _ => ?_
 refine JX_stepU rfl rfl rfl (step_store_box ty152E Sr Sr zS) fun _ => ?_
 refine JX_nil ?_
 refine K_freeze (t := 20) zS Frz.box ?_
 refine K_freeze (t := 21) zS Frz.box ?_
 refine Jr (Jl rfl ty146 Sr (Js rfl (step_fieldAddr so46E Sr rfl) (Jl rfl ty3 Sr (Js rfl (step_fieldAddr so152E Sr rfl) (Js rfl (step_fieldAddr so46E Sr rfl) ?_)))))
 refine Jl rfl ty44 Sr (Js rfl (step_build (x := (GPl.mk p.Kind 0 [] [] [] 0 0 (pushM x n (nth p.Kids 0) ts).Plan.Attrs : GPlan)) (zs := [[Value.int .i64 0], [Value.int .i64 0], [Value.slice none 0 0], [Value.slice none 0 0], [Value.slice none 0 0], [Value.int .i64 0], [Value.int .i64 0], [Value.slice none 0 0]]) so46E (fun w => zeroValue46 w) ⟨Sr, Sr, trivial⟩ ⟨⟨Sr, rfl⟩, fun _ => rfl, fun _ => ⟨_, rfl, none, ⟨0, Nat.le_refl _⟩, rfl, fun q => absurd rfl q⟩, fun _ => ⟨_, rfl, none, ⟨0, Nat.le_refl _⟩, rfl, fun q => absurd rfl q⟩, fun _ => ⟨_, rfl, none, ⟨0, Nat.le_refl _⟩, rfl, fun q => absurd rfl q⟩, fun _ => rfl, fun _ => rfl, ⟨Sr, rfl⟩, trivial⟩) (Jl rfl ty152E Sr (Jl rfl ty152E Sr ?_)))
 refine Js rfl (step_literal (ys := [(pushM x n (nth p.Kids 0) ts), (pushM x n (nth p.Kids 1) ts)]) underlying197 el152E ⟨rfl, Sr, rfl, Sr, trivial⟩ rfl (by decide)) ?_
 refine Js rfl (step_call0 (makeE_spec x (GPl.mk p.Kind 0 [] [] [] 0 0 (pushM x n (nth p.Kids 0) ts).Plan.Attrs) [(pushM x n (nth p.Kids 0) ts), (pushM x n (nth p.Kids 1) ts)] hbf) ⟨Sr, Sr, Sr, trivial⟩ call146) ?_
 refine Ju (step_store_box ty152E Sr Sr zS) fun _ => ?_
 refine JL_nil (J_ret ?_)
 refine K_ret1' (rv := .cell 6 152) rfl () (Sel.all _) (.cell (R := rnodeE) ty152E Sr zS Sr) (Frz.sub (Sub.of_eq (by rcases h56 with h56 | h56 <;> simp [pushM, h56])))
theorem push_spec (x : Gplanner) (hst : StOk x) : ∀ n, PushS x n
  | 0 => fun _ _ _ _ hd => hd.elim
  | n + 1 => fun l p ts h12 hd hv hz ht hl => push1g_spec x hst n (push_spec x hst n) l p ts h12 hd hv hz ht hl
open Go Go.Proofs Go.Proofs.Tryz
def impE (s : GSchema) (p : GPlan) (st : GStats) : Int := if prightM s p st = true then 0 else 1
theorem imp_f {s : GSchema} {n : Nat} {p : GPlan} {st : GStats} (h : prightM s p st = false) : impM s n p st = GPl.zero ∧ impE s p st = 1 := by
  have : ¬ prightM s p st = true := by simp [h]
  exact ⟨if_neg this, if_neg this⟩
theorem imp_same {s : GSchema} {n : Nat} {p : GPlan} {st : GStats} (h : prightM s p st = true) (h2 : vldM s (pushM ⟨s, st⟩ n p []).Plan = false ∨ (wholeM ⟨s, st⟩ n p).size.cost < (pushM ⟨s, st⟩ n p []).size.cost) : impM s n p st = p := by
  rw [impM, if_pos h, if_pos h2]
theorem imp_push {s : GSchema} {n : Nat} {p : GPlan} {st : GStats} (h : prightM s p st = true) (h2 : ¬ (vldM s (pushM ⟨s, st⟩ n p []).Plan = false ∨ (wholeM ⟨s, st⟩ n p).size.cost < (pushM ⟨s, st⟩ n p []).size.cost)) : impM s n p st = (pushM ⟨s, st⟩ n p []).Plan := by
  rw [impM, if_pos h, if_neg h2]
theorem imp_e {s : GSchema} {p : GPlan} {st : GStats} (h : prightM s p st = true) : impE s p st = 0 := if_pos h
theorem vld_in {s : GSchema} {p : GPlan} (h : vldM s p = true) : validM s 12 p = true := by
  unfold vldM at h; simp only [Bool.and_eq_true] at h; exact h.2
theorem sch_sz {s : GSchema} (h : ∀ t ∈ s.Tables, t.Attrs.length ≤ 1000) : ∀ t ∈ s.Tables, t.Attrs.length ≤ 1000000 := fun t ht => Nat.le_trans (h t ht) (by omega)
set_option maxHeartbeats 4000000 in
theorem Improve_spec (s : GSchema) (hz : SchSz s) (hsz : ∀ t ∈ s.Tables, t.Attrs.length ≤ 1000) (n : Nat) (p : GPlan) (hd : Dep n p) (hp : PSz p) (hs : vldM s p = true → psum n p ≤ 1000) (st : GStats) (hds : ∀ d ∈ st.Distinct, d.length ≤ 1000000000000) : Fun1 prog 40 [rSchema.ty s, rPlS.ty p, rStats.ty st] (tTup [rPlS.ty (impM s n p st), tV (.int .i64 (impE s p st))]) := by
 refine Spec.enter func40 rfl rfl fun h0 w0 fr0 => ?_
 refine Jr (Js rfl (step_box (R := rSchema) Sr) (Js rfl (step_box (R := rPlS) Sr) (Js rfl (step_box (R := rStats) Sr) ?_)))
 refine Jx rfl (step_alloc (fun w => zeroValue46 w) zr46E) fun b6 => ?_
 refine Ja rfl (JL_nil (Jr (Jl rfl ty41 Sr (Jl rfl ty46E Sr (Jl rfl ty60 Sr ?_)))))
 refine Js rfl (step_call0 (prightE_spec s hz p hp st hds) ⟨Sr, Sr, Sr, trivial⟩ call92) (Jm rfl (Js rfl (step_extract Sr rfl) (Js rfl (step_extract Sr rfl) ?_)))
 refine Jx rfl (step_alloc (fun w => zeroValue146 w) zr146) fun b8 => ?_
 refine Ju (step_store_box ty146 Sr Sr zS) fun _ => ?_
 refine JL_freeze (t := 8) (Sel.take (Sel.none _)) Frz.box ?_
 refine Ja rfl (JL_nil (J_seq (Jr (Jm rfl (Js rfl (step_not Sr) ?_)))))
 refine JL_nil ?_
 refine J_cond Sr (fun h19 => ?_) (fun h19 => ?_)
 ·
  try simp only [NF] at h19
  have hf : prightM s p st = false := by simpa using h19
  refine Jr (Js rfl (step_build (x := (GPl.zero : GPlan)) (zs := [[Value.int .i64 0], [Value.int .i64 0], [Value.slice none 0 0], [Value.slice none 0 0], [Value.slice none 0 0], [Value.int .i64 0], [Value.int .i64 0], [Value.slice none 0 0]]) so46E (fun w => zeroValue46 w) trivial ⟨fun _ => rfl, fun _ => rfl, fun _ => ⟨_, rfl, none, ⟨0, Nat.le_refl _⟩, rfl, fun q => absurd rfl q⟩, fun _ => ⟨_, rfl, none, ⟨0, Nat.le_refl _⟩, rfl, fun q => absurd rfl q⟩, fun _ => ⟨_, rfl, none, ⟨0, Nat.le_refl _⟩, rfl, fun q => absurd rfl q⟩, fun _ => rfl, fun _ => rfl, fun _ => ⟨_, rfl, none, ⟨0, Nat.le_refl _⟩, rfl, fun q => absurd rfl q⟩, trivial⟩) ?_)
  refine Ju (step_store_box ty46E Sr Sr zS) fun _ => ?_
  refine Ja rfl (JL_nil (J_ret ?_))
  refine K_ret2' (rv := .cell 6 46) (rv' := .tmp 7) rfl () (Sel.all _) (.cell (R := rPlS) ty46E Sr zS Sr) (.tmp Sr) (Frz.sub (Sub.of_eq (by rw [(imp_f (n := n) hf).1]))) (Frz.sub (Sub.int (by rw [(imp_f (n := n) hf).2]))) Sr
 try simp only [NF] at h19
 have hf : prightM s p st = true := by simpa using h19
 have hpl : (if prightM s p st = true then (⟨s, st⟩ : Gplanner) else zplanner) = ⟨s, st⟩ := if_pos hf
 have hplS : Sub (tPtr rplanner (if prightM s p st = true then (⟨s, st⟩ : Gplanner) else zplanner)) (tPtr rplanner (⟨s, st⟩ : Gplanner)) := Sub.of_eq (by rw [hpl])
 obtain ⟨hvl, hst⟩ := right_st hf
 have hv := vld_in hvl
 have hs := hs hvl
 have hpu := (push_ok hst n (ts := []) hd hv hp (fun t ht => by cases ht) (by show 0 + _ ≤ _; omega)).1
 have hwo : EOkE (⟨s, st⟩ : Gplanner) p := eok_dep _ hd (dep_dep p) (whole_ok hst (sch_sz hsz) hd hv (hp n)).1
 have hwe : wholeM (⟨s, st⟩ : Gplanner) n p = wholeE (⟨s, st⟩ : Gplanner) p := wholeE_of hd
 refine J_skip (Jr (Js rfl (step_load_ptr (R := rplanner) ty146 hplS) (Jl rfl ty46E Sr ?_)))
 refine Js rfl (step_call0 (push_spec (⟨s, st⟩ : Gplanner) hst n 12 p [] zG hd hv hp (fun t ht => by cases ht) (by show 0 + _ ≤ _; omega)) ⟨Sr, Sr, Sub.nilsl, trivial⟩ call96) ?_
 refine Jx rfl (step_alloc (fun w => zeroValue152 w) zr152E) fun b10 => ?_
 refine Ju (step_store_box ty152E Sr Sr zS) fun _ => ?_
 refine JL_freeze (t := 10) (Sel.take (Sel.none _)) Frz.box ?_
 refine JL_nil (J_seq (J_seq ?_))
 refine J_draw [⟨0, [3], true⟩, ⟨1, [10], true⟩, ⟨2, [25], true⟩, ⟨3, [24, 26], true⟩, ⟨4, [27], true⟩, ⟨5, [28], true⟩, ⟨6, [10, 29], true⟩, ⟨7, [29, 30], true⟩, ⟨8, [29, 31], true⟩, ⟨9, [8, 29], true⟩, ⟨10, [4, 29], true⟩, ⟨11, [29, 33, 34], true⟩, ⟨12, [29, 35], true⟩, ⟨13, [29, 36], true⟩, ⟨14, [29, 32, 37], true⟩, ⟨15, [29, 38], true⟩] rfl (by kernel_rfl) ?_
 refine Mf rfl rfl (step_load_ptr ty41 Sr) (Mf rfl rfl (step_fieldAddr so152E Sr rfl) (Mf rfl rfl (step_load_ptr ty46E Sr) (Mf rfl rfl (step_call0 (algValidE_spec s hz (pushM (⟨s, st⟩ : Gplanner) n p []).Plan hpu.z) ⟨Sr, Sr, trivial⟩ call60) (Mf rfl rfl (step_not Sr) (Mv rfl rfl ?_)))))
 refine Mk rfl rfl Sr rfl (step_fieldAddr so152E Sr rfl) ?_
 refine Mg rfl rfl Sr rfl (fun hw => step_fieldAddr so150 (Sub.w hw) rfl) (Mg rfl rfl Sr rfl (fun hw => step_load_ptr ty3 (Sub.w hw)) ?_)
 refine Mk rfl rfl Sr rfl (step_load_ptr (R := rplanner) ty146 hplS) ?_
 refine Mk rfl rfl Sr rfl (step_load_ptr ty46E Sr) ?_
 refine Mg rfl rfl Sr rfl (fun hw => step_call0 (wholeE_spec (⟨s, st⟩ : Gplanner) p hwo) ⟨(Sub.w hw), (Sub.w hw), trivial⟩ call93) (Mg rfl rfl Sr rfl (fun hw => step_field so152E (Sub.w hw) rfl) (Mg rfl rfl Sr rfl (fun hw => step_field so150 (Sub.w hw) rfl) (Mg rfl rfl Sr rfl (fun hw => step_gtr (Sub.w hw) (Sub.w hw)) (Mf rfl rfl (step_pick_or Sr Sr) (JM_nil ?_)))))
 refine J_cond Sr (fun h39 => ?_) (fun h39 => ?_)
 ·
  try simp only [NF] at h39
  have hal : (vldM s (pushM (⟨s, st⟩ : Gplanner) n p []).Plan = false ∨ (wholeM (⟨s, st⟩ : Gplanner) n p).size.cost < (pushM (⟨s, st⟩ : Gplanner) n p []).size.cost) := by rw [hwe]; simpa using h39
  refine Jr (Jl rfl ty46E Sr ?_)
  refine Ju (step_store_box ty46E Sr Sr zS) fun _ => ?_
  refine Ja rfl (JL_nil (J_ret ?_))
  refine K_ret2' (rv := .cell 6 46) (rv' := .tmp 7) rfl () (Sel.all _) (.cell (R := rPlS) ty46E Sr zS Sr) (.tmp Sr) (Frz.sub (Sub.of_eq (by rw [imp_same hf hal]))) (Frz.sub (Sub.int (by rw [imp_e hf]))) Sr
 try simp only [NF] at h39
 have hal : ¬ (vldM s (pushM (⟨s, st⟩ : Gplanner) n p []).Plan = false ∨ (wholeM (⟨s, st⟩ : Gplanner) n p).size.cost < (pushM (⟨s, st⟩ : Gplanner) n p []).size.cost) := by rw [hwe]; simpa using h39
 refine J_skip (Jr (Js rfl (step_fieldAddr so152E Sr rfl) (Jl rfl ty46E Sr ?_)))
 refine Ju (step_store_box ty46E Sr Sr zS) fun _ => ?_
 refine Ja rfl (JL_nil (J_ret ?_))
 refine K_ret2' (rv := .cell 6 46) (rv' := .tmp 7) rfl () (Sel.all _) (.cell (R := rPlS) ty46E Sr zS Sr) (.tmp Sr) (Frz.sub (Sub.of_eq (by rw [imp_push hf hal]))) (Frz.sub (Sub.int (by rw [imp_e hf]))) Sr
open Go Go.Proofs Go.Proofs.Tryz
abbrev kA : ByteArray := ⟨#[97]⟩
abbrev kB : ByteArray := ⟨#[98]⟩
abbrev kC : ByteArray := ⟨#[99]⟩
abbrev kAB : List GAttr := [attrN kA, attrN kB]
abbrev kBC : List GAttr := [attrN kB, attrN kC]
abbrev kABC : List GAttr := [attrN kA, attrN kB, attrN kC]
abbrev kS : GSchema := ⟨[⟨⟨#[116]⟩, kAB, [0]⟩, ⟨⟨#[117]⟩, kBC, [0]⟩]⟩
abbrev kSt : GStats := ⟨[100, 20], [[100, 10], [10, 20]]⟩
abbrev kT : GPlan := GPl.mk 1 0 [] [] [] 0 0 kAB
abbrev kU : GPlan := GPl.mk 1 1 [] [] [] 0 0 kBC
abbrev kSome : GPlan := GPl.mk 2 0 [kT] [eqT 1 3] [] 0 0 kAB
abbrev kBoth : GPlan := GPl.mk 4 0 [kT, kU] [] [] 0 0 kABC
abbrev kTop : GPlan := GPl.mk 2 0 [kBoth] [eqT 0 7] [] 0 0 kABC
abbrev kImp : GPlan := GPl.mk 4 0 [GPl.mk 2 0 [kT] [eqT 0 7] [] 0 0 kAB, kU] [] [] 0 0 kABC
theorem kp1 : prightM kS kSome kSt = true := by decide +kernel
theorem kp2 : prightM kS kBoth kSt = true := by decide +kernel
theorem kp3 : prightM kS kTop kSt = true := by decide +kernel
theorem kp4 : prightM kS kImp kSt = true := by decide +kernel
theorem kp5 : prightM kS kImp zStats = false := by decide +kernel
theorem ke1 : estM kS 2 kSome kSt = 110 := by decide +kernel
theorem ke2 : estM kS 2 kBoth kSt = 320 := by decide +kernel
theorem ke3 : estM kS 3 kTop kSt = 322 := by decide +kernel
theorem ke4 : estM kS 3 kImp kSt = 123 := by decide +kernel
theorem kImpE : impM kS 3 kTop kSt = kImp := by
  unfold impM
  rw [if_pos kp3, if_neg (by decide +kernel)]
  rfl
theorem kSz : SchSz kS := ⟨by decide, fun t ht => by
  rcases List.mem_cons.1 ht with rfl | ht
  · exact ⟨by decide, by decide, by decide, by decide, by decide⟩
  · rw [List.mem_singleton.1 ht]
    exact ⟨by decide, by decide, by decide, by decide, by decide⟩⟩
theorem kdT : Dep 1 kT := by intro q hq; cases hq
theorem kdU : Dep 1 kU := by intro q hq; cases hq
theorem kdO {a : Int} {b c : GPlan} {ts : List GTest} {at' : List GAttr} {n : Nat} (h : Dep n b) : Dep (n + 1) (GPl.mk a 0 [b] ts [] 0 0 at') := by
  intro q hq; rw [List.mem_singleton.1 hq]; exact h
theorem kd2 {a : Int} {b c : GPlan} {at' : List GAttr} {n : Nat} (h : Dep n b) (h2 : Dep n c) : Dep (n + 1) (GPl.mk a 0 [b, c] [] [] 0 0 at') := by
  intro q hq
  rcases List.mem_cons.1 hq with rfl | hq
  · exact h
  · rw [List.mem_singleton.1 hq]; exact h2
theorem kzL {a b : Int} {at' : List GAttr} (h : at'.length ≤ 1000) : PSz (GPl.mk a b [] [] [] 0 0 at') := fun m => by
  cases m with
  | zero => exact trivial
  | succ m => exact ⟨by show (0 : Nat) ≤ _; omega, by show (0 : Nat) ≤ _; omega, by show (0 : Nat) ≤ _; omega, h, fun q hq => by cases hq⟩
theorem kzN {a : Int} {ks : List GPlan} {ts : List GTest} {at' : List GAttr} (hk : ks.length ≤ 1000) (ht : ts.length ≤ 1000) (h : at'.length ≤ 1000) (hs : ∀ q ∈ ks, PSz q ∧ q.Attrs.length ≤ 1000) : PSz (GPl.mk a 0 ks ts [] 0 0 at') := fun m => by
  cases m with
  | zero => exact trivial
  | succ m => exact ⟨by show ks.length ≤ _; omega, ht, by show (0 : Nat) ≤ _; omega, h, fun q hq => ⟨(hs q hq).1 m, (hs q hq).2⟩⟩
theorem kz1 {a : Int} {b : GPlan} {ts : List GTest} {at' : List GAttr} (hb : PSz b) (hl : b.Attrs.length ≤ 1000) (ht : ts.length ≤ 1000) (h : at'.length ≤ 1000) : PSz (GPl.mk a 0 [b] ts [] 0 0 at') :=
  kzN (by simp) ht h fun q hq => by rw [List.mem_singleton.1 hq]; exact ⟨hb, hl⟩
theorem kz2 {a : Int} {b c : GPlan} {at' : List GAttr} (hb : PSz b) (hc : PSz c) (hl : b.Attrs.length ≤ 1000) (hl2 : c.Attrs.length ≤ 1000) (h : at'.length ≤ 1000) : PSz (GPl.mk a 0 [b, c] [] [] 0 0 at') :=
  kzN (by simp) (by simp) h fun q hq => by
    rcases List.mem_cons.1 hq with rfl | hq
    · exact ⟨hb, hl⟩
    · rw [List.mem_singleton.1 hq]; exact ⟨hc, hl2⟩
theorem kzT : PSz kT := kzL (by decide)
theorem kzU : PSz kU := kzL (by decide)
theorem kzS : PSz kSome := kz1 kzT (by decide) (by decide) (by decide)
theorem kzB : PSz kBoth := kz2 kzT kzU (by decide) (by decide) (by decide)
theorem kzP : PSz kTop := kz1 kzB (by decide) (by decide) (by decide)
theorem kzI : PSz kImp := kz2 (kz1 kzT (by decide) (by decide) (by decide)) kzU (by decide) (by decide) (by decide)
theorem kdS : Dep 2 kSome := kdO (c := kT) kdT
theorem kdB : Dep 2 kBoth := kd2 kdT kdU
theorem kdP : Dep 3 kTop := kdO (c := kT) kdB
theorem kdI : Dep 3 kImp := kd2 (kdO (c := kT) kdT) (dep_mono (by omega) kdU)
open Go
open Go.Sort (SWO SortedIn PermIn)
section
variable {β : Type} (R : Rp β)
/-- An element: its cell, its datum. -/
abbrev El (p : β → Prop) (h : PH) : Type := { q : Value × β // (R.ty q.2).p h q.1 ∧ p q.2 }
variable {R}
theorem El.of_relAll {p : β → Prop} {h : PH} (hR : R.agg = false) : ∀ {xs : List β} {cs : List Value}, (∀ x ∈ xs, p x) → relAll R h xs cs → ∃ ds : List (El R p h), ds.map (fun x => x.1.2) = xs ∧ ds.map (fun x => x.1.1) = cs
  | [], _, _, r => by cases r; exact ⟨[], rfl, rfl⟩
  | x :: xs, _, hp, ⟨c1, c2, e, r1, r2⟩ => by
    subst e
    obtain ⟨ds, h1, h2⟩ := El.of_relAll hR (fun x hx => hp x (by simp [hx])) r2
    have hl := R.len r1
    rw [R.scalar hR] at hl
    match c1, hl with
    | [v], _ =>
      have hv : (R.ty x).p h v := by have := R.pack r1; rw [hR] at this; exact this
      exact ⟨⟨(v, x), hv, hp x (by simp)⟩ :: ds, by simp [h1], by simp [h2]⟩
theorem El.relAll {p : β → Prop} {h : PH} (hR : R.agg = false) : ∀ (ds : List (El R p h)), Lg.relAll R h (ds.map fun x => x.1.2) (ds.map fun x => x.1.1)
  | [] => rfl
  | ⟨(v, x), hv, _⟩ :: ds => by
    refine ⟨[v], ds.map (fun x => x.1.1), rfl, ?_, El.relAll hR ds⟩
    obtain ⟨cs, r, e⟩ := R.iff.1 hv
    have hl := R.len r
    rw [R.scalar hR] at hl
    match cs, hl with
    | [u], _ =>
      simp only [packV, hR, Bool.false_eq_true, if_false, List.headD_cons] at e
      subst e; exact r
end
/-- slices.SortFunc, at elements of one cell, in own memory. -/
theorem sortFunc_spec {P : Program} {ρ : Shelf.Ren} (LL : Go.Proofs.SlLaysF.n6 P ρ) {β : Type} {R : Rp β} (hR : R.agg = false) (cf : β → β → Int) (hO : SWO (Go.Proofs.ltOf cf)) {gf e : Nat} (eg : ∀ args w, (callFunc gf args).run P w = .ok (.enter gf args) w)
    (p : β → Prop) (hc : ∀ x y, p x → p y → ∀ (u u' : Value) (h : PH) (W : World), h.inw W → (R.ty x).p h u → (R.ty y).p h u' → Calls P gf #[u, u'] W fun e' w' => e' = .returned (.int .i64 (cf x y)) ∧ ∃ q os, w' = Sort.grow (W.drewN q) os) (v : Value) (xs : List β) (hpx : ∀ x ∈ xs, p x) (hn : xs.length < 4611686018427387904) :
    Spec (X := { ys : List β // ys.Perm xs ∧ ys.Pairwise fun a b => Go.Proofs.ltOf cf b a = false }) P (ρ.f 6) [rV.ty v, tV (.func (.func gf) #[] #[])] [own e R v xs] (fun _ => tTup []) (fun ys => [own e R v ys.1]) := by
  intro vs h m r w ha sp st
  match vs, ha with
  | [u1, u2], ⟨a1, a2, _⟩ =>
  obtain ⟨e1, _⟩ := a1
  have e2 : u2 = .func (.func gf) #[] #[] := a2
  subst e1; subst e2
  obtain ⟨m1, m2, d12, rfl, ho, e3⟩ := st
  rw [stars_nil] at e3; subst e3
  rw [PH.join_emp] at sp
  have none_case : ∀ (p : Option Addr) (cap : Nat), u1 = .slice p 0 cap → xs = [] → Calls P (ρ.f 6) [u1, .func (.func gf) #[] #[]].toArray w (Ret (X := { ys : List β // ys.Perm xs ∧ ys.Pairwise fun a b => Go.Proofs.ltOf cf b a = false }) h w r (fun _ => tTup []) (fun ys => [own e R u1 ys.1])) := by
    intro p cap hu hx
    subst hu; subst hx
    refine (Go.Proofs.AnyF.slices_SortFunc_none (P := P) (ρ := ρ) { LL with } p cap _ w).mono ?_
    rintro e' w' ⟨rfl, rfl⟩
    refine ⟨⟨[], List.Perm.refl _, List.Pairwise.nil⟩, _, h, m1, rfl, HL.refl, sp, ⟨m1, PH.emp, PH.disj_emp _, (PH.join_emp _).symm, ho, rfl⟩, ⟨[], rfl, trivial⟩⟩
  rcases ho with ⟨rfl, rfl, rfl⟩ | ⟨g, cap, cur, rfl, rfl, hl, hm, hs, hr⟩
  · exact none_case none 0 rfl rfl
  · by_cases hx : xs = []
    · subst hx; exact none_case _ cap rfl rfl
    · obtain ⟨ds, hd1, hd2⟩ := El.of_relAll (p := p) hR hpx hr
      have hk := R.scalar hR
      rw [hk, Nat.mul_one] at hd2 hs
      have hlen : ds.length = xs.length := by rw [← hd1]; simp
      have hne : ds ≠ [] := fun q => hx (by rw [← hd1, q]; rfl)
      haveI : Inhabited (El R p h) := ⟨ds.head hne⟩
      have hb := sp.mw g _ (PH.one_same _ _)
      have hgh : h g = none := PH.disj_one_iff.1 sp.hm
      have hget : ∀ j, j < ds.toArray.size → cur[j]? = some (ds.toArray[j]!).1.1 := fun j hj => by
        have hj' : j < ds.length := by simpa using hj
        have : (cur.toList.take xs.length)[j]? = some (ds[j]).1.1 := by rw [← hd2]; simp [hj']
        rw [List.getElem?_take, if_pos (by omega)] at this
        rw [getElem!_pos _ j hj]
        simpa using this
      have hH : Sort.Holds (fun x : El R p h => x.1.1) w g 0 ds.toArray := fun j hj => ⟨by
        rw [Nat.zero_add]; simp only [World.cell?, hb]
        exact hget j hj, by simp [World.frozen?, hb]⟩
      have hcell : ∀ x : El R p h, x.1.1.oneCell' = true := fun x => by
        obtain ⟨cs, rx, ex⟩ := R.iff.1 x.2.1
        have hlx := R.len rx
        rw [hk] at hlx
        match cs, hlx with
        | [u], _ => simp only [packV, hR, Bool.false_eq_true, if_false, List.headD_cons] at ex; rw [ex]; exact R.one rx u (by simp)
      have hblk : g < w.heap.size := (Array.getElem?_eq_some_iff.1 hb).1
      have hcmp : Go.Proofs.CmpLays1 P gf #[] (fun x : El R p h => x.1.1) (fun x y => cf x.1.2 y.1.2) g 0 ds.toArray.size w := by
        intro n os dk hdk x y
        have hw : h.inw (Go.Proofs.sortWorld (fun x : El R p h => x.1.1) w g 0 n dk os) := fun b o eb => by
          have hne' : b ≠ g := fun q => by rw [q, hgh] at eb; cases eb
          rw [sortWorld_other (PH.inw_lt sp.hw eb) hne']; exact sp.hw b o eb
        refine (hc x.1.2 y.1.2 x.2.2 y.2.2 x.1.1 y.1.1 h _ hw x.2.1 y.2.1).mono ?_
        rintro e' w' ⟨he, q, os', hq⟩
        exact ⟨he, q, os', hq⟩
      have hO' : SWO (Go.Proofs.ltOf fun x y : El R p h => cf x.1.2 y.1.2) := ⟨fun x => hO.irrefl _, fun x y z => hO.trans _ _ _, fun x y z => hO.ntrans _ _ _⟩
      have hS := Go.Proofs.Any.slices_SortFunc LL (fun x : El R p h => x.1.1) hcell (fun x y => cf x.1.2 y.1.2) hO' gf #[] g 0 cap ds.toArray w eg hcmp hH hblk (by simpa [hlen] using hn)
      have hsz : ds.toArray.size = xs.length := by simp [hlen]
      rw [hsz] at hS
      refine hS.mono ?_
      rintro e' w' ⟨rfl, d', n, os, ⟨p1, _, p3⟩, hso, rfl⟩
      have hd's : d'.size = xs.length := by rw [p1, hsz]
      have hperm : d'.toList.Perm ds := by
        have q1 : (d'.extract 0 xs.length) = d' := by rw [← hd's]; simp
        have q2 : (ds.toArray.extract 0 xs.length) = ds.toArray := by rw [← hsz]; simp
        rw [q1, q2] at p3
        simpa using p3
      have hcur : (Sort.putCells (fun x : El R p h => x.1.1) 0 d' cur).toList.take xs.length = d'.toList.map (fun x => x.1.1) := by
        apply List.ext_getElem?
        intro j
        rw [List.getElem?_take]
        split
        · rename_i hj
          have hjc : j < cur.size := by omega
          have hjd : j < d'.size := by omega
          simp [Sort.putCells, hjc, hjd, hj, hd's]
        · rw [List.getElem?_eq_none (by simp; omega)]
      refine ⟨⟨d'.toList.map (fun x => x.1.2), ?_, ?_⟩, _, h, PH.one g (.cells (Sort.putCells (fun x : El R p h => x.1.1) 0 d' cur) e (0, 0)), rfl, HL.same ⟨rfl, rfl, rfl⟩, ?_, ⟨_, PH.emp, PH.disj_emp _, (PH.join_emp _).symm, .inr ⟨g, cap, _, by simp [hd's], rfl, by simpa [hd's] using hl, hm, ?_, ?_⟩, rfl⟩, ⟨[], rfl, trivial⟩⟩
      · have := hperm.map (fun x : El R p h => x.1.2)
        rw [hd1] at this; exact this
      · rw [List.pairwise_map]
        rw [List.pairwise_iff_getElem]
        intro i j hi hj hij
        have hi' : i < d'.size := by simpa using hi
        have hj' : j < d'.size := by simpa using hj
        have := hso i j (by omega) hij (by omega)
        rw [getElem!_pos d' i hi', getElem!_pos d' j hj'] at this
        simp only [Array.getElem_toList]
        exact this
      · have sp' : Sep h ((PH.one g (.cells cur e (0, 0))).join PH.emp) r w := by rw [PH.join_emp]; exact sp
        have := Sep.write (o' := .cells (Sort.putCells (fun x : El R p h => x.1.1) 0 d' cur) e (0, 0)) (PH.disj_emp _) sp' (fun b hne' hb' => sortWorld_other (enc := fun x : El R p h => x.1.1) (off := 0) (m := n) (dk := d') (os := os) hb' hne') (sortWorld_row hb)
        rw [PH.join_emp] at this; exact this
      · simp [Sort.putCells, hs, hk]
      · have e5 : (d'.toList.map (fun x : El R p h => x.1.2)).length = xs.length := by simp [hd's]
        rw [e5, hk, Nat.mul_one, hcur]
        exact El.relAll hR d'.toList
open Go Go.Proofs Go.Proofs.Tryz
open Go.Sort (SWO)
theorem bytesLess_iff : ∀ (a b : List UInt8), Op.bytesLess a b = true ↔ a < b
  | [], [] => by simp [Op.bytesLess]
  | [], _ :: _ => by simp [Op.bytesLess]
  | _ :: _, [] => by simp [Op.bytesLess]
  | a :: ra, b :: rb => by
    have ih := bytesLess_iff ra rb
    simp only [Op.bytesLess, List.cons_lt_cons_iff]
    by_cases h1 : a < b
    · simp [h1]
    · by_cases h2 : b < a
      · have : a ≠ b := fun e => by subst e; exact h1 h2
        simp [h1, h2, this]
      · have : a = b := UInt8.le_antisymm (UInt8.not_lt.1 h2) (UInt8.not_lt.1 h1)
        subst this
        simp [h1, ih]
/-- A comparison that tells before, same, behind. -/
structure Cmp3 {α : Type} (c : α → α → Int) : Prop where
  eq : ∀ {a b}, c a b = 0 ↔ a = b
  anti : ∀ {a b}, c a b < 0 ↔ 0 < c b a
  tr : ∀ {a b d}, c a b < 0 → c b d < 0 → c a d < 0
theorem Cmp3.swo {α : Type} {c : α → α → Int} (h : Cmp3 c) : SWO (Go.Proofs.ltOf c) where
  irrefl x := by
    have : c x x = 0 := h.eq.2 rfl
    unfold Go.Proofs.ltOf; rw [this]; rfl
  trans x y z h1 h2 := by
    unfold Go.Proofs.ltOf at *
    simp only [decide_eq_true_eq] at *
    exact h.tr h1 h2
  ntrans x y z h1 h2 := by
    unfold Go.Proofs.ltOf at *
    simp only [decide_eq_false_iff_not] at *
    intro h3
    by_cases h4 : c y x < 0
    · exact h2 (h.tr h4 h3)
    · have : c x y = 0 := by
        have := h.anti (a := y) (b := x)
        omega
      have := h.eq.1 this
      subst this
      exact h2 h3
def ordI (a b : Int) : Int := if a < b then -1 else if b < a then 1 else 0
def ordS (a b : ByteArray) : Int := if ofB a < ofB b then -1 else if ofB b < ofB a then 1 else 0
def cmpV (a b : GValue) : Int := if ordI a.Kind b.Kind ≠ 0 then ordI a.Kind b.Kind else if ordI a.N b.N ≠ 0 then ordI a.N b.N else ordS a.Text b.Text
def cmpR : List GValue → List GValue → Int
  | [], [] => 0
  | [], _ :: _ => -1
  | _ :: _, [] => 1
  | a :: x, b :: y => if cmpV a b ≠ 0 then cmpV a b else cmpR x y
theorem c3_I : Cmp3 ordI where
  eq := by intro a b; unfold ordI; split; omega; split <;> omega
  anti := by intro a b; unfold ordI; by_cases h1 : a < b <;> by_cases h2 : b < a <;> simp [h1, h2] <;> omega
  tr := by
    intro a b d h1 h2
    unfold ordI at *
    split at h1
    · split at h2
      · rw [if_pos (by omega)]; omega
      · split at h2 <;> omega
    · split at h1 <;> omega
theorem ofB_inj' {x y : ByteArray} (h : ofB x = ofB y) : x = y := by rw [← toB_ofB x, h, toB_ofB]
theorem c3_S : Cmp3 ordS where
  eq := by
    intro a b
    unfold ordS
    constructor
    · intro h
      split at h
      · omega
      · rename_i h1
        split at h
        · omega
        · rename_i h2
          exact ofB_inj' (List.le_antisymm (List.not_lt.1 h2) (List.not_lt.1 h1))
    · rintro rfl
      rw [if_neg (List.lt_irrefl _), if_neg (List.lt_irrefl _)]
  anti := by
    intro a b
    unfold ordS
    by_cases h : ofB a < ofB b
    · have h2 : ¬ ofB b < ofB a := fun q => List.lt_irrefl _ (List.lt_trans h q)
      simp [h, h2]
    · by_cases h2 : ofB b < ofB a <;> simp [h, h2]
  tr := by
    intro a b d h1 h2
    unfold ordS at *
    have h1 : ofB a < ofB b := by
      split at h1
      · assumption
      · split at h1 <;> omega
    have h2 : ofB b < ofB d := by
      split at h2
      · assumption
      · split at h2 <;> omega
    rw [if_pos (List.lt_trans h1 h2)]; omega
theorem Cmp3.lex {α β γ : Type} {c : α → α → Int} {e : β → β → Int} (hc : Cmp3 c) (he : Cmp3 e) (f : γ → α) (g : γ → β) (hi : ∀ x y, f x = f y → g x = g y → x = y) : Cmp3 fun x y => if c (f x) (f y) ≠ 0 then c (f x) (f y) else e (g x) (g y) where
  eq := by
    intro a b
    have h1 := hc.eq (a := f a) (b := f b)
    have h2 := he.eq (a := g a) (b := g b)
    try dsimp only
    constructor
    · intro h
      split at h
      · omega
      · exact hi _ _ (h1.1 (by omega)) (h2.1 h)
    · rintro rfl
      rw [if_neg (by rw [h1.2 rfl]; simp)]
      exact h2.2 rfl
  anti := by
    intro a b
    have h1 := hc.anti (a := f a) (b := f b)
    have h1' := hc.anti (a := f b) (b := f a)
    have h2 := he.anti (a := g a) (b := g b)
    try dsimp only
    split <;> split <;> omega
  tr := by
    intro a b d h1 h2
    try dsimp only at *
    have e1 := hc.eq (a := f a) (b := f b)
    have e2 := hc.eq (a := f b) (b := f d)
    split at h1
    · split at h2
      · have := hc.tr h1 h2
        rw [if_pos (by omega)]; exact this
      · rw [← e2.1 (by omega)]
        rw [if_pos (by assumption)]; exact h1
    · split at h2
      · rw [e1.1 (by omega), if_pos (by assumption)]; exact h2
      · have q1 := e1.1 (by omega)
        have q2 := e2.1 (by omega)
        rw [if_neg (by rw [q1, q2, hc.eq.2 rfl]; simp)]
        exact he.tr h1 h2
theorem c3_V : Cmp3 cmpV := by
  have h := Cmp3.lex c3_I c3_S (fun v : { v : Int × ByteArray // True } => v.1.1) (fun v => v.1.2) (fun x y h1 h2 => Subtype.ext (Prod.ext h1 h2))
  exact Cmp3.lex c3_I h (fun v : GValue => v.Kind) (fun v => (⟨(v.N, v.Text), trivial⟩ : { v : Int × ByteArray // True })) (fun x y h1 h2 => by
    have h3 := congrArg (fun v => v.1.1) h2
    have h4 := congrArg (fun v => v.1.2) h2
    cases x; cases y; simp_all)
theorem c3_R : Cmp3 cmpR := by
  have e : ∀ a b : List GValue, cmpR a b = 0 ↔ a = b := by
    intro a
    induction a with
    | nil => intro b; cases b <;> simp [cmpR]
    | cons x a ih =>
      intro b
      cases b with
      | nil => simp [cmpR]
      | cons y b =>
        have h1 := c3_V.eq (a := x) (b := y)
        have h2 := ih b
        simp only [cmpR, List.cons.injEq]
        split <;> simp_all
  have n : ∀ a b : List GValue, cmpR a b < 0 ↔ 0 < cmpR b a := by
    intro a
    induction a with
    | nil => intro b; cases b <;> simp [cmpR]
    | cons x a ih =>
      intro b
      cases b with
      | nil => simp [cmpR]
      | cons y b =>
        have h1 := c3_V.anti (a := x) (b := y)
        have h1' := c3_V.anti (a := y) (b := x)
        have h2 := ih b
        simp only [cmpR]
        split <;> split <;> omega
  refine ⟨e _ _, n _ _, ?_⟩
  intro a
  induction a with
  | nil =>
    intro b d h1 h2
    cases b with
    | nil => simp [cmpR] at h1
    | cons y b =>
      cases d with
      | nil => simp [cmpR] at h2
      | cons z d => simp [cmpR]
  | cons x a ih =>
    intro b d h1 h2
    cases b with
    | nil => simp [cmpR] at h1
    | cons y b =>
      cases d with
      | nil => simp [cmpR] at h2
      | cons z d =>
        simp only [cmpR] at *
        have e1 := c3_V.eq (a := x) (b := y)
        have e2 := c3_V.eq (a := y) (b := z)
        split at h1
        · split at h2
          · have := c3_V.tr h1 h2
            rw [if_pos (by omega)]; exact this
          · rw [← e2.1 (by omega)]
            rw [if_pos (by assumption)]; exact h1
        · split at h2
          · rw [e1.1 (by omega), if_pos (by assumption)]; exact h2
          · have q1 := e1.1 (by omega)
            have q2 := e2.1 (by omega)
            rw [if_neg (by rw [q1, q2, c3_V.eq.2 rfl]; simp)]
            exact ih h1 h2
end Lg
