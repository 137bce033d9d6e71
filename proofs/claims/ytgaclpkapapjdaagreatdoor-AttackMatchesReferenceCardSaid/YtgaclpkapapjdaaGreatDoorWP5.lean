/- The walk and the plain law of AttackMatchesReference. -/
import Derived.Test.YtgaclpkapapjdaaGreatDoorH
set_option linter.unusedVariables false
set_option linter.unusedSimpArgs false
set_option linter.unusedSectionVars false
namespace Lg
open Go Go.Proofs Go.Proofs.Tryz
theorem few_facts {q : GConj} {n : Int} (h : fewM q n = true) : (∀ i, i < q.Atoms.length → (nth q.Atoms i).Cols.length ≤ 14 ∧ (nth q.Atoms i).Terms.length ≤ 14) ∧ (q.Atoms.length : Int) ≤ n ∧ q.Consts.length ≤ 30 ∧ q.Vars ≤ 40 := by
  unfold fewM at h
  simp only [Bool.and_eq_true, decide_eq_true_eq] at h
  obtain ⟨⟨⟨h1, h2⟩, h3⟩, h4⟩ := h
  exact ⟨fun i hi => by simpa using rall_iff.1 h1 i hi, h2, h3, h4⟩
theorem uni_len {q : GConj} {vars : List Int} (h : ∀ i, i < q.Atoms.length → (nth q.Atoms i).Terms.length ≤ 14) : (uniV q vars).length ≤ vars.length + q.Atoms.length * 14 := by
  unfold uniV
  rw [List.length_append, List.length_flatMap]
  have : ∀ l : List GAtom, (∀ a ∈ l, a.Terms.length ≤ 14) → (l.map fun a => a.Terms.length).sum ≤ l.length * 14 := by
    intro l
    induction l with
    | nil => intro _; simp
    | cons a l ih =>
      intro hl
      have h1 := hl a List.mem_cons_self
      have h2 := ih fun x hx => hl x (List.mem_cons_of_mem _ hx)
      simp only [List.map_cons, List.sum_cons, List.length_cons]; omega
  have h2 := this q.Atoms fun a ha => by
    obtain ⟨i, hi, rfl⟩ := List.getElem_of_mem ha
    rw [← nth_get hi]; exact h i hi
  omega
open Go Go.Proofs Go.Proofs.Tryz
structure GAtomR where
  Table : Int
  Cols : List Int
  Terms : Value
  Key : Int
def zAtomR : GAtomR := { Table := 0, Cols := [], Terms := Value.slice none 0 0, Key := 0 }
def fsAtomR : List (SF GAtomR) := [⟨Int, 3, rInt, GAtomR.Table⟩, ⟨List Int, 36, rSl rInt, GAtomR.Cols⟩, ⟨Value, 36, rV, GAtomR.Terms⟩, ⟨Int, 3, rInt, GAtomR.Key⟩]
abbrev rAtomR : Rp GAtomR := rStruct fsAtomR
theorem ty38R : TyOf prog 38 rAtomR := ⟨fun w => isAgg38 w, fun w => sizeOf38 w⟩
theorem so38R : StructOf prog 38 fsAtomR := ⟨⟨_, underlying38, ⟨rfl, rfl, ty3, by decide, ⟨rfl, rfl, ty36, by decide, ⟨rfl, rfl, ty36V38, by decide, ⟨rfl, rfl, ty3, by decide, trivial⟩⟩⟩⟩⟩, ty38R⟩
theorem zr38R : ∀ h, (rAtomR.ty zAtomR).p h (.agg #[Value.int .i64 0, Value.slice none 0 0, Value.slice none 0 0, Value.int .i64 0]) := fun _ => ⟨_, ⟨[Value.int .i64 0], _, rfl, rfl, ⟨[Value.slice none 0 0], _, rfl, ⟨_, rfl, none, ⟨0, Nat.le_refl _⟩, rfl, fun q => absurd rfl q⟩, ⟨[Value.slice none 0 0], _, rfl, ⟨rfl, rfl⟩, ⟨[Value.int .i64 0], _, rfl, rfl, rfl⟩⟩⟩⟩, rfl⟩
theorem Frz.atomR {b : Nat} {t k : Int} {vt : Value} {cols terms : List Int} {S : List SP} : Frz (Lg.box b 38 rAtomR ⟨t, cols, vt, k⟩ :: Lg.own 3 rInt vt terms :: S) (tAt b 0) (tPtr rAtom ⟨t, cols, terms, k⟩) :=
  Frz.upS fun h m cs d hs r => by
    obtain ⟨c0, _, rfl, r0, c1, _, rfl, r1, c2, _, rfl, r2, c3, _, rfl, r3, rz⟩ := r
    exact ⟨c0, _, rfl, rInt.mono (PH.le_join_left h m) r0, c1, _, rfl, (rSl rInt).mono (PH.le_join_left h m) r1, c2, _, rfl, ⟨_, r2.1, Frz.ownV h m vt d hs rfl⟩, c3, _, rfl, rInt.mono (PH.le_join_left h m) r3, rz⟩
abbrev tbW (sc : GSchema) (w : Bst) (i : Nat) : GTable := nth sc.Tables (nth w.T i).toNat
abbrev ckW (sc : GSchema) (w : Bst) (i : Nat) : List Int := colsK (tbW sc w i)
abbrev tsW (sc : GSchema) (w : Bst) (i k : Nat) : Tst × List Int := termsS w.P (nth w.S i).toNat (atI sc w i).1 ((ckW sc w i).take k)
abbrev ixW (sc : GSchema) (w : Bst) (i k : Nat) : Nat := (nth w.S i).toNat + (nth (ckW sc w i) k).toNat
abbrev tpW (sc : GSchema) (w : Bst) (i k : Nat) : Nat := topM w.P (ixW sc w i k)
abbrev tmW (sc : GSchema) (w : Bst) (i k : Nat) : Tst × Int := termS w.P (tsW sc w i k).1 (ixW sc w i k)
theorem tsW_full (sc : GSchema) (w : Bst) (i : Nat) : tsW sc w i (ckW sc w i).length = termsS w.P (nth w.S i).toNat (atI sc w i).1 (ckW sc w i) := by unfold tsW; rw [List.take_length]
theorem tsW_snoc {sc : GSchema} {w : Bst} {i k : Nat} (h : k < (ckW sc w i).length) : tsW sc w i (k + 1) = ((tmW sc w i k).1, (tsW sc w i k).2 ++ [(tmW sc w i k).2]) := by
  have := termsS_snoc w.P (nth w.S i).toNat (nth (ckW sc w i) k) ((ckW sc w i).take k) (atI sc w i).1
  rw [← takeB h] at this
  exact this
theorem tsW_len (sc : GSchema) (w : Bst) (i : Nat) {k : Nat} (h : k ≤ (ckW sc w i).length) : (tsW sc w i k).1.C.length ≤ (atI sc w i).1.C.length + k ∧ (tsW sc w i k).1.M.length ≤ (atI sc w i).1.M.length + k ∧ (tsW sc w i k).2.length = k := by
  have := termsS_len w.P (nth w.S i).toNat ((ckW sc w i).take k) (atI sc w i).1
  rw [List.length_take, Nat.min_eq_left h] at this
  exact this
theorem alone_take {sc : GSchema} {F : List Int} {P : List Gplace} {i : Nat} (h : i < F.length) : ((F.take (i + 1)).any fun x => aloneM P x.toNat) = (((F.take i).any fun x => aloneM P x.toNat) || aloneM P (nth F i).toNat) := by
  rw [takeB h, List.any_append]; simp
theorem any_take_le {F : List Int} {p : Int → Bool} {i : Nat} (h : (F.take i).any p = true) : F.any p = true := by
  obtain ⟨x, hx, hp⟩ := List.any_eq_true.1 h
  exact List.any_eq_true.2 ⟨x, List.mem_of_mem_take hx, hp⟩
set_option maxHeartbeats 16000000 in
theorem rOf_spec (sc : GSchema) (hz : SchSz sc) (n : Nat) (p : GPlan) (hp : PlSz n p) (hd : Dep n p) (hP : vldM sc p = true → 12 * nodes n p ≤ 1000000) (hF : vldM sc p = true → binds n p ≤ 1000000000) : Fun1 prog 21 [rSchema.ty sc, (rPlan n).ty p] (tTup [rConj.ty (ofR sc n p).1, tV (.int .i64 (ofR sc n p).2)]) := by
 refine Spec.enter func21 rfl rfl fun h0 w0 fr0 => ?_
 refine Jr (Js rfl (step_box (R := rSchema) Sr) (Js rfl (step_box (R := (rPlan n)) Sr) ?_))
 refine Jx rfl (step_alloc (fun w => zeroValue25 w) zr25) fun v4 => ?_
 refine Ja rfl (JL_nil (J_seq (Jr (Jl rfl ty41 Sr (Jl rfl ty46 Sr ?_)))))
 refine Js rfl (step_call0 (rqValid_spec sc hz n p hp) ⟨Sr, Sr, trivial⟩ call66) (Js rfl (step_not Sr) (JL_nil ?_))
 refine J_cond Sr (fun h20 => ?_) (fun h20 => ?_)
 ·
  try simp only [NF] at h20
  refine Jr (Js rfl (step_build (x := (⟨0, [], []⟩ : GConj)) (zs := [[Value.int .i64 0], [Value.slice none 0 0], [Value.slice none 0 0]]) so25 (fun w => zeroValue25 w) trivial ⟨fun _ => rfl, fun _ => ⟨_, rfl, none, ⟨0, Nat.le_refl _⟩, rfl, fun q => absurd rfl q⟩, fun _ => ⟨_, rfl, none, ⟨0, Nat.le_refl _⟩, rfl, fun q => absurd rfl q⟩, trivial⟩) ?_)
  refine Ju (step_store_box ty25 Sr Sr zS) fun _ => ?_
  refine Ja rfl (JL_nil (J_ret ?_))
  have hO : ofR sc n p = (zConj', 1) := by unfold ofR; rw [if_pos h20]
  refine K_ret2' (rv := .cell 4 25) (rv' := .tmp 5) rfl () (Sel.all _) (.cell ty25 Sr zS Sr) (.tmp Sr) (Frz.sub (Sub.eqT (by rw [hO] <;> rfl))) (Frz.sub (Sub.eqT (by rw [hO] <;> rfl))) Sr
 try simp only [NF] at h20
 have hval : vldM sc p = true := by simpa using h20
 have hP := hP hval
 have hF := hF hval
 have hval2 := hval
 unfold vldM at hval2
 simp only [Bool.and_eq_true] at hval2
 obtain ⟨hs, hv⟩ := hval2
 have hw := rwalk_ok hs (s := st0) hd hv (st0_inv sc)
 obtain ⟨hb1, hb2, hb3⟩ := of_bounds hw
 refine J_skip (Jr (Jl rfl ty41 Sr (Js rfl (step_build (x := (⟨sc, (.slice none 0 0), (.slice none 0 0), (.slice none 0 0), false⟩ : GBuilderW)) (zs := [[Value.slice none 0 0], [Value.slice none 0 0], [Value.slice none 0 0], [Value.slice none 0 0], [Value.bool false]]) so116W (fun w => zeroValue116 w) ⟨Sr, trivial⟩ ⟨⟨Sr, rfl⟩, fun _ => ⟨rfl, rfl⟩, fun _ => ⟨rfl, rfl⟩, fun _ => ⟨rfl, rfl⟩, fun _ => rfl, trivial⟩) ?_)))
 refine Jx rfl (step_box_own (R := rBuilderW) Sr) fun b24 => ?_
 refine Ja rfl (JL_nil (J_seq ?_))
 refine K_lsub (L' := [rbS b24 sc st0, box v4 25 rConj zConj]) (LSub.trans (LSub.nilown (e := 3) (R := rInt)) (LSub.trans (LSub.nilown (e := 3) (R := rInt)) (LSub.trans (LSub.nilown (e := 121) (R := rPlace)) (LSub.trans (B := [bldR b24 sc (.slice none 0 0) (.slice none 0 0) (.slice none 0 0) false, own 121 rPlace (.slice none 0 0) [], own 3 rInt (.slice none 0 0) [], own 3 rInt (.slice none 0 0) [], box v4 25 rConj zConj]) (zL) (LSub.rb (s := st0) (L := []) rfl))))) ?_
 refine J_region (Jm rfl (Jl rfl ty46 Sr ?_))
 refine Jx rfl (step_call (Sel.take (Sel.none _)) (rwalk_spec b24 sc hs n 12 p st0 hv hp hd (st0_inv sc) rfl (by simp [st0]; omega) (by simp [st0]; omega) (by simp [st0]; omega)) ⟨Sr, Sr, trivial⟩ call67) fun v27 => ?_
 refine JL_nil ?_
 have hall : BdInv sc (rwalkS sc n st0 p).1 ∧ SInv sc (rwalkS sc n st0 p).1 ∧ (rwalkS sc n st0 p).1.P.length ≤ 1000000 ∧ (rwalkS sc n st0 p).1.T.length ≤ 1000000 ∧ (rwalkS sc n st0 p).1.F.length ≤ 1000000000 ∧ ofR sc n p = (if (rwalkS sc n st0 p).1.bad = true ∨ ((rwalkS sc n st0 p).1.F.any fun i => aloneM (rwalkS sc n st0 p).1.P i.toNat) = true then (zConj', 11) else (conjM sc (rwalkS sc n st0 p).1, 0)) :=
  ⟨hw.inv, rwalk_sinv n st0 p (st0_sinv sc), by omega, by omega, by omega, by unfold ofR; rw [if_neg (by rw [hval]; simp)]⟩
 clear hb1 hb2 hb3 hw
 revert hall
 generalize (rwalkS sc n st0 p).1 = w
 rintro ⟨hI, hSv, hwP, hwT, hwF, hofR⟩
 refine K_rb fun vt vp vf L hL => ?_
 have hpk : POk (absP L) := by rw [hL]; exact hI.pok
 have hLl : L.length = w.P.length := by rw [← hL, abs_len]
 have hlL : L.length ≤ 1000000000 := by omega
 have hts := hI.ts
 have hnP : ∀ j, j < L.length → nth w.P j = abs1 (nth L j) := fun j hj => by rw [← hL]; exact abs_nth hj
 refine J_seq (Jr (Ja rfl (JL_nil (J_block ?_))))
 refine J_loopL (σ := Nat) (fun i => i ≤ w.F.length) (fun i => upd (upd (upd (upd (upd env0 2 (tPtr rSchema sc)) 4 (tAt v4 0)) 5 (tV (.int .i64 0))) 6 (tAt b24 0)) 7 (tV (.int .i64 i))) (fun i => [bldR b24 sc vt vp vf (w.bad || (w.F.take i).any fun x => aloneM w.P x.toNat), own 121 rPlace vp L, own 3 rInt vf w.F, own 3 rInt vt w.T, box v4 25 rConj zConj]) (fun i => w.F.length - i) 0 zG (zU) (.c zS (SPs.of (A := bldR b24 sc vt vp vf w.bad) (by simp)) (zL)) ?_
 rintro i hil
 refine J_seq (Jr (Jm rfl (Jm rfl (Js rfl (step_nilCheck Sr) (Js rfl (step_fieldAddr_own so116W Sr rfl) ?_)))))
 refine Js rfl (step_load_fld ty36V116 Sr rfl zS) ?_
 refine Js rfl (step_len_own underlying36 Sr zS) ?_
 refine Js rfl (step_lss Sr Sr) (Jm rfl ?_)
 refine Jk rfl Sr rfl (step_move Sr) ?_
 refine Jg rfl Sr rfl (fun hw => step_nilCheck (Sub.w hw)) (Jg rfl Sr rfl (fun hw => step_fieldAddr_own so116W (Sub.w hw) rfl) ?_)
 refine Jg rfl Sr rfl (fun hw => step_load_fld ty4 (Sub.w hw) rfl zS) ?_
 refine Jg rfl Sr rfl (fun hw => step_not (Sub.w hw)) (Js rfl (step_pick_and Sr Sr) (JL_nil ?_))
 refine J_cond Sr (fun h41 => ?_) (fun h41 => ?_)
 ·
  try simp only [NF] at h41
  obtain ⟨hlt0, hab⟩ := h41
  have hlt : i < w.F.length := by omega
  have hfin := hI.fin _ (nth_mem hlt)
  have hfi : (nth w.F i).toNat < L.length := by omega
  have hat := alone_take (sc := sc) (P := w.P) hlt
  refine J_skip (J_seq (J_block (J_region (Jm rfl (Jm rfl ?_)))))
  refine Jm rfl (Js rfl (step_nilCheck Sr) (Js rfl (step_fieldAddr_own so116W Sr rfl) ?_))
  refine Js rfl (step_load_fld ty36V116 Sr rfl zS) ?_
  refine Jm rfl ?_
  refine Js rfl (step_indexAddr_own (i := i) underlying36 ty3 Sr zS Sr (by rfl) (by exact hlt)) ?_
  refine Js rfl (step_load_own ty3 Sr zS (gb (by first | assumption | omega))) ?_
  refine Js rfl (step_eqTy (B := tV (.bool (aloneM w.P (nth w.F i).toNat))) (step_call_look (Sel.take (Sel.take (Sel.none _))) (ralone_spec sc vt vf (w.bad || (w.F.take i).any fun x => aloneM w.P x.toNat) L hpk hlL (nth w.F i).toNat hfi) (fun _ => Flat.v _) ⟨Frz.bldRP, Frz.sub (Sub.int zG), trivial⟩ call68) (by rw [hL])) ?_
  refine Js rfl (step_nilCheck Sr) (Js rfl (step_fieldAddr_own so116W Sr rfl) ?_)
  refine Ju (step_store_fld (R := rBool) (y' := (⟨sc, vt, vp, vf, aloneM w.P (nth w.F i).toNat⟩ : GBuilderW)) ty4 Sr Sr zS (by exact ⟨rfl, ⟨rfl, ⟨rfl, ⟨rfl, ⟨fun _ _ q => q, rfl, by intro g hg; cases hg⟩⟩⟩⟩⟩)) fun _ => ?_
  refine JL_nil (J_region (Jm rfl (Js rfl (step_add Sr Sr z6) (Ja rfl (JL_nil ?_)))))
  refine K_againL (σ := Nat) (s := i) (i + 1) zO zG (zU) (.c zS (SPs.of (A := bldR b24 sc vt vp vf (aloneM w.P (nth w.F i).toNat)) (by rw [hat, ← Bool.or_assoc, show (w.bad || (w.F.take i).any fun x => aloneM w.P x.toNat) = false from Bool.or_eq_false_iff.2 hab, Bool.false_or])) (zL))
 try simp only [NF] at h41
 refine J_exit (J_seq (Jr (Jm rfl (Js rfl (step_nilCheck Sr) (Js rfl (step_fieldAddr_own so116W Sr rfl) ?_)))))
 refine Js rfl (step_load_fld ty4 Sr rfl zS) ?_
 refine JL_nil ?_
 refine J_cond Sr (fun h59 => ?_) (fun h59 => ?_)
 ·
  try simp only [NF] at h59
  have hbad : w.bad = true ∨ (w.F.any fun i => aloneM w.P i.toNat) = true := by
   rcases h59 with q | q
   ·
    exact .inl q
   exact .inr (any_take_le q)
  refine Jr (Js rfl (step_build (x := (⟨0, [], []⟩ : GConj)) (zs := [[Value.int .i64 0], [Value.slice none 0 0], [Value.slice none 0 0]]) so25 (fun w => zeroValue25 w) trivial ⟨fun _ => rfl, fun _ => ⟨_, rfl, none, ⟨0, Nat.le_refl _⟩, rfl, fun q => absurd rfl q⟩, fun _ => ⟨_, rfl, none, ⟨0, Nat.le_refl _⟩, rfl, fun q => absurd rfl q⟩, trivial⟩) ?_)
  refine Ju (step_store_box ty25 Sr Sr zS) fun _ => ?_
  refine Ja rfl (JL_nil (J_ret ?_))
  have hO : ofR sc n p = (zConj', 11) := by rw [hofR, if_pos hbad]
  refine K_ret2' (rv := .cell 4 25) (rv' := .tmp 5) rfl () (Sel.all _) (.cell ty25 Sr zS Sr) (.tmp Sr) (Frz.sub (Sub.eqT (by rw [hO] <;> rfl))) (Frz.sub (Sub.eqT (by rw [hO] <;> rfl))) Sr
 try simp only [NF] at h59
 obtain ⟨hbf, haf⟩ := h59
 obtain rfl : i = w.F.length := by
  rcases h41 with q | q | q
  ·
   omega
  ·
   rw [hbf] at q; cases q
  rw [haf] at q; cases q
 rw [List.take_length] at haf
 refine K_lsub (L' := [bldR b24 sc vt vp vf false, own 121 rPlace vp L, own 3 rInt vf w.F, own 3 rInt vt w.T, box v4 25 rConj zConj]) (.c zS (SPs.of (A := bldR b24 sc vt vp vf (w.bad || (w.F.take w.F.length).any fun x => aloneM w.P x.toNat)) (by rw [List.take_length, hbf, haf]; rfl)) (zL)) ?_
 refine K_freeze (t := 6) (A' := tPtr rBuilderP ⟨sc, vt, L, vf, false⟩) (Sel.take (Sel.take (Sel.none _))) Frz.bldRP ?_
 refine K_drop (Sel.take (Sel.none _)) ?_
 refine J_skip (Jr (Jm rfl (Js rfl (step_nilCheckP Sr) (Js rfl (step_fieldAddr so116P Sr rfl) (Jl rfl ty114 Sr ?_)))))
 refine Js rfl (step_len_sl underlying114 Sr) ?_
 refine Jx rfl (step_make underlying36 el3 Sr Sr rfl (by show 8 * L.length ≤ _; omega) (by show L.length ≤ _; omega)) fun v66 => ?_
 refine Ja rfl (JL_nil (Jr ?_))
 refine Jx rfl (step_alloc (fun w => zeroValue25 w) zr25W) fun v9 => ?_
 refine JL_nil (Jr (Ja rfl (JL_nil (J_seq (Jr ?_)))))
 refine Ja rfl (JL_nil (J_block ?_))
 refine J_loopL (σ := Nat × Value × Value × Value) (fun ⟨i, vc, va, vn⟩ => i ≤ w.T.length) (fun ⟨i, vc, va, vn⟩ => upd (upd (upd (upd (upd (upd (upd (upd env0 2 (tPtr rSchema sc)) 4 (tAt v4 0)) 5 (tV (.int .i64 0))) 6 (tPtr rBuilderP ⟨sc, vt, L, vf, false⟩)) 8 (rV.ty vn)) 9 (tAt v9 0)) 10 (tV (.int .i64 (sumA sc (w.T.take i) : Int)))) 11 (tV (.int .i64 i))) (fun ⟨i, vc, va, vn⟩ => [box v9 25 rConjW (⟨((atI sc w i).1.M.length : Int), vc, va⟩ : GConjW), own 87 rValue vc (atI sc w i).1.C, own 38 rAtom va (atI sc w i).2, own 3 rInt vn (namesM L.length (atI sc w i).1.M), own 3 rInt vt w.T, box v4 25 rConj zConj]) (fun ⟨i, vc, va, vn⟩ => w.T.length - i) (0, (.slice none 0 0), (.slice none 0 0), v66) (by exact Nat.zero_le _) (.u (SubE.upd (Sub.int (by simp [sumA])) (zU))) (LSub.trans (LSub.nilown (e := 87) (R := rValue)) (LSub.trans (LSub.nilown (e := 38) (R := rAtom)) (.c zS (SPs.of (A := box v9 25 rConjW (⟨0, (.slice none 0 0), (.slice none 0 0)⟩ : GConjW)) rfl) (.c zS (SPs.of (A := own 87 rValue (.slice none 0 0) []) rfl) (.c zS (SPs.of (A := own 38 rAtom (.slice none 0 0) []) rfl) (.c zS (SPs.of (A := own 3 rInt v66 (List.replicate L.length 0)) (by rw [show (atI sc w 0).1.M = [] from rfl, names_nil])) (zL))))))) ?_
 rintro ⟨i, vc, va, vn⟩ hil
 try dsimp only at hil
 refine J_seq (Jr (Jm rfl (Jm rfl (Js rfl (step_nilCheckP Sr) (Js rfl (step_fieldAddr so116P Sr rfl) ?_)))))
 refine Jl rfl ty36V116 Sr ?_
 refine Js rfl (step_len_own underlying36 Sr zS) ?_
 refine Js rfl (step_lss Sr Sr) (JL_nil ?_)
 refine J_cond Sr (fun h73 => ?_) (fun h73 => ?_)
 ·
  try simp only [NF] at h73
  have hlt : i < w.T.length := by omega
  obtain ⟨⟨ht1, ht2⟩, hs1, hs2⟩ := hI.tin i hlt
  have htt : (nth w.T i).toNat < sc.Tables.length := by omega
  have hkk : (tbW sc w i).Key.length ≤ 12 ∧ (tbW sc w i).Attrs.length ≤ 12 ∧ ∀ c ∈ (tbW sc w i).Key, 0 ≤ c ∧ c < (tbW sc w i).Attrs.length := sch_keys hs _ (nth_mem htt)
  obtain ⟨hk1, hk2, hk3⟩ := hkk
  have hcl : (ckW sc w i).length ≤ (tbW sc w i).Key.length + (tbW sc w i).Attrs.length := colsK_len _
  have hs2 : nth w.S i + ((tbW sc w i).Attrs.length : Int) ≤ w.P.length := hs2
  obtain ⟨hA1, hA2, hA3⟩ := at_len sc w (sch_keys hs) hI i zG
  have hstep := at_snoc sc w hts hlt
  have hSi := hSv.st i hlt
  have hSn : sumA sc (w.T.take (i + 1)) = sumA sc (w.T.take i) + (tbW sc w i).Attrs.length := sumA_take hlt
  have hmb0 : MB (atI sc w i).1.M := atoms_mb _ _ _ MB.nil
  refine J_skip (J_seq (J_block (J_seq ?_)))
  refine J_drawZ [own 3 rInt vt w.T] [⟨0, [2], 0⟩, ⟨1, [76], 0⟩, ⟨2, [6], 0⟩, ⟨3, [78], 0⟩, ⟨4, [79], 0⟩, ⟨5, [80], 0⟩, ⟨6, [11], 0⟩, ⟨7, [81, 82], 1⟩, ⟨8, [83], 1⟩, ⟨9, [77, 84], 0⟩, ⟨10, [85], 0⟩] [⟨11, [], 12, SP.emp, fun v => tAt (vN v) 0, fun v => box (vN v) 76 rTable zTable⟩] [⟨12, [12, 86], 2⟩] (L := [box v9 25 rConjW (⟨((atI sc w i).1.M.length : Int), vc, va⟩ : GConjW), own 87 rValue vc (atI sc w i).1.C, own 38 rAtom va (atI sc w i).2, own 3 rInt vn (namesM L.length (atI sc w i).1.M), box v4 25 rConj zConj]) (LSub.trans LSub.emp (zL)) rfl (by kernel_rfl) (Nat.le_of_ble_eq_true rfl) ?_
  refine JF_step rfl rfl rfl rfl (fun _ => step_fieldAddr so41 Sr rfl) ?_
  refine JF_step rfl rfl rfl rfl (fun _ => step_load_ptr ty39 Sr) ?_
  refine JF_step rfl rfl rfl rfl (fun _ => step_move Sr) ?_
  refine JF_step rfl rfl rfl rfl (fun _ => step_nilCheckP Sr) ?_
  refine JF_step rfl rfl rfl rfl (fun _ => step_fieldAddr so116P Sr rfl) ?_
  refine JF_step rfl rfl rfl rfl (fun _ => step_load_ptr ty36V116 Sr) ?_
  refine JF_step rfl rfl rfl rfl (fun _ => step_move Sr) ?_
  refine JF_look rfl rfl rfl rfl (fun _ => step_indexAddr_own (i := i) underlying36 ty3 Sr zS Sr (by rfl) (by exact hlt)) ?_
  refine JF_look rfl rfl rfl rfl (fun _ => step_load_own ty3 Sr zS (gb (by first | assumption | omega))) ?_
  refine JF_step rfl rfl rfl rfl (fun _ => step_indexAddr_sl (i := (nth w.T i).toNat) underlying39 ty76 Sr Sr (by show nth w.T i = _; omega) (gb (by exact htt))) ?_
  refine JF_step rfl rfl rfl rfl (fun _ => step_load_ptr ty76 Sr) ?_
  refine JF_nil ?_
  refine ⟨⟨_, rfl, rfl, rfl, rfl, fun _ => by refine Step.empty ?_; exact Step.emb ptrV (step_alloc (fun w => zeroValue76 w) zr76) (fun _ => rfl) (fun _ => rfl)⟩, fun b12 => ?_⟩
  refine upP_in ?_
  refine JX_stepU rfl rfl rfl (step_store_box ty76 Sr Sr zS) fun _ => ?_
  refine JX_nil (J_seq ?_)
  refine K_freeze (t := 12) (A' := tPtr rTable (tbW sc w i)) (Sel.take (Sel.none _)) Frz.box ?_
  refine J_drawZ [own 3 rInt vt w.T] [⟨0, [6], 0⟩, ⟨1, [87], 0⟩, ⟨2, [88], 0⟩, ⟨3, [89], 0⟩, ⟨4, [11], 0⟩, ⟨5, [90, 91], 1⟩, ⟨6, [92], 1⟩, ⟨7, [12], 0⟩, ⟨8, [94], 0⟩, ⟨9, [12], 0⟩, ⟨10, [96], 0⟩, ⟨11, [97], 0⟩, ⟨12, [93, 95, 98], 0⟩] [⟨13, [], 13, SP.emp, fun v => tAt (vN v) 0, fun v => box (vN v) 38 rAtomR zAtomR⟩] [⟨14, [13, 99], 2⟩] (L := [box v9 25 rConjW (⟨((atI sc w i).1.M.length : Int), vc, va⟩ : GConjW), own 87 rValue vc (atI sc w i).1.C, own 38 rAtom va (atI sc w i).2, own 3 rInt vn (namesM L.length (atI sc w i).1.M), box v4 25 rConj zConj]) (LSub.trans LSub.emp (zL)) rfl (by kernel_rfl) (Nat.le_of_ble_eq_true rfl) ?_
  refine JF_step rfl rfl rfl rfl (fun _ => step_move Sr) ?_
  refine JF_step rfl rfl rfl rfl (fun _ => step_nilCheckP Sr) ?_
  refine JF_step rfl rfl rfl rfl (fun _ => step_fieldAddr so116P Sr rfl) ?_
  refine JF_step rfl rfl rfl rfl (fun _ => step_load_ptr ty36V116 Sr) ?_
  refine JF_step rfl rfl rfl rfl (fun _ => step_move Sr) ?_
  refine JF_look rfl rfl rfl rfl (fun _ => step_indexAddr_own (i := i) underlying36 ty3 Sr zS Sr (by rfl) (by exact hlt)) ?_
  refine JF_look rfl rfl rfl rfl (fun _ => step_load_own ty3 Sr zS (gb (by first | assumption | omega))) ?_
  refine JF_step rfl rfl rfl rfl (fun _ => step_load_ptr ty76 Sr) ?_
  refine JF_step rfl rfl rfl rfl (fun _ => step_call0 (rorder_spec _ zG zG) ⟨Sr, trivial⟩ call69) ?_
  refine JF_step rfl rfl rfl rfl (fun _ => step_fieldAddr so76 Sr rfl) ?_
  refine JF_step rfl rfl rfl rfl (fun _ => step_load_ptr ty36 Sr) ?_
  refine JF_step rfl rfl rfl rfl (fun _ => step_len_sl underlying36 Sr) ?_
  refine JF_step rfl rfl rfl rfl (fun _ => step_build (x := (⟨nth w.T i, (ckW sc w i), (.slice none 0 0), ((tbW sc w i).Key.length : Int)⟩ : GAtomR)) (zs := [[Value.int .i64 0], [Value.slice none 0 0], [Value.slice none 0 0], [Value.int .i64 0]]) so38R (fun w => zeroValue38 w) ⟨Sr, Sr, Sr, trivial⟩ ⟨⟨Sr, rfl⟩, ⟨Sr, rfl⟩, fun _ => ⟨rfl, rfl⟩, ⟨Sr, rfl⟩, trivial⟩) ?_
  refine JF_nil ?_
  refine ⟨⟨_, rfl, rfl, rfl, rfl, fun _ => by refine Step.empty ?_; exact Step.emb ptrV (step_alloc (fun w => zeroValue38 w) zr38R) (fun _ => rfl) (fun _ => rfl)⟩, fun b13 => ?_⟩
  refine upP_in ?_
  refine JX_stepU rfl rfl rfl (step_store_box ty38R Sr Sr zS) fun _ => ?_
  refine JX_nil (J_seq (Jr (Ja rfl (JL_nil (J_block ?_)))))
  refine J_loopL (σ := Nat × Value × Value) (fun ⟨k, vc, vtm⟩ => k ≤ (ckW sc w i).length) (fun ⟨k, vc, vtm⟩ => upd (upd (upd (upd (upd (upd (upd (upd (upd (upd (upd env0 2 (tPtr rSchema sc)) 4 (tAt v4 0)) 5 (tV (.int .i64 0))) 6 (tPtr rBuilderP ⟨sc, vt, L, vf, false⟩)) 8 (rV.ty vn)) 9 (tAt v9 0)) 10 (tV (.int .i64 (sumA sc (w.T.take i) : Int)))) 11 (tV (.int .i64 i))) 12 (tPtr rTable (tbW sc w i))) 13 (tAt (vN b13) 0)) 14 (tV (.int .i64 k))) (fun ⟨k, vc, vtm⟩ => [box (vN b13) 38 rAtomR (⟨nth w.T i, (ckW sc w i), vtm, ((tbW sc w i).Key.length : Int)⟩ : GAtomR), own 3 rInt vtm (tsW sc w i k).2, box v9 25 rConjW (⟨((tsW sc w i k).1.M.length : Int), vc, va⟩ : GConjW), own 87 rValue vc (tsW sc w i k).1.C, own 38 rAtom va (atI sc w i).2, own 3 rInt vn (namesM L.length (tsW sc w i k).1.M), own 3 rInt vt w.T, box v4 25 rConj zConj]) (fun ⟨k, vc, vtm⟩ => (ckW sc w i).length - k) (0, vc, (.slice none 0 0)) (by exact Nat.zero_le _) (zU) (LSub.trans (LSub.nilown (e := 3) (R := rInt)) (.r zS (.c zS (SPs.of (A := own 3 rInt (.slice none 0 0) ([] : List Int)) rfl) (zL)))) ?_
  rintro ⟨k, vc, vtm⟩ hkl
  try dsimp only at hkl
  refine J_seq (Jr (Jm rfl (Js rfl (step_fieldAddr_own so38R Sr rfl) ?_)))
  refine Js rfl (step_load_fld ty36 Sr rfl zS) ?_
  refine Js rfl (step_len_sl underlying36 Sr) (Js rfl (step_lss Sr Sr) (JL_nil ?_))
  refine J_cond Sr (fun h104 => ?_) (fun h104 => ?_)
  ·
   try simp only [NF] at h104
   have hkt : k < (ckW sc w i).length := by omega
   have hcc : 0 ≤ nth (ckW sc w i) k ∧ nth (ckW sc w i) k < (tbW sc w i).Attrs.length := colsK_in hk3 _ (nth_mem hkt)
   obtain ⟨hc1, hc2⟩ := hcc
   obtain ⟨hl1, hl2, hl3⟩ := tsW_len sc w i hkl
   have hts2 := tsW_snoc hkt
   have hix : (ixW sc w i k) < L.length := by show (nth w.S i).toNat + (nth (ckW sc w i) k).toNat < _; omega
   have htl : (tpW sc w i k) < L.length := by rw [hLl]; exact hI.pok.top_lt (by rw [← hLl]; exact hix)
   have hmb : MB (tsW sc w i k).1.M := terms_mb _ _ hmb0
   have hnb := nm_mb hmb (tpW sc w i k)
   have hnn : nth (namesM L.length (tsW sc w i k).1.M) (tpW sc w i k) = nmV (tsW sc w i k).1.M (tpW sc w i k) := names_nth htl
   have hnl1 : (tpW sc w i k) < (namesM L.length (tsW sc w i k).1.M).length := by rw [names_ln]; exact htl
   have hnl2 : (tpW sc w i k) < ((namesM L.length (tsW sc w i k).1.M).set (tpW sc w i k) (((tsW sc w i k).1.M.length : Int) + 1)).length := by rw [List.length_set, names_ln]; exact htl
   refine J_skip (J_seq (J_block (Jr (Jm rfl (Jm rfl ?_)))))
   refine Js rfl (step_fieldAddr_own so38R Sr rfl) ?_
   refine Js rfl (step_load_fld ty36 Sr rfl zS) ?_
   refine Jm rfl ?_
   refine Js rfl (step_indexAddr_sl (i := k) underlying36 ty3 Sr Sr (by rfl) (gb (by exact hkt))) ?_
   refine Jl rfl ty3 Sr ?_
   refine Js rfl (step_add Sr Sr (by show in64 ((sumA sc (w.T.take i) : Int) + nth (ckW sc w i) k); unfold in64; omega)) ?_
   refine Js rfl (step_eqTy (B := tV (.int .i64 (tpW sc w i k))) (step_call0 (rtop_spec sc vt vf false L hpk (ixW sc w i k) hix) ⟨Sr, Sub.int (by show (sumA sc (w.T.take i) : Int) + nth (ckW sc w i) k = (((nth w.S i).toNat + (nth (ckW sc w i) k).toNat : Nat) : Int); omega), trivial⟩ call70) (by rw [hL])) ?_
   refine Ja rfl (JL_nil (J_seq (Jr (Jm rfl (Js rfl (step_nilCheckP Sr) ?_)))))
   refine Js rfl (step_fieldAddr so116P Sr rfl) (Jl rfl ty114 Sr (Jm rfl ?_))
   refine Js rfl (step_indexAddr_sl (i := (tpW sc w i k)) underlying114 ty121 Sr Sr (by rfl) (gb (by exact htl))) ?_
   refine Js rfl (step_fieldAddr so121 Sr rfl) (Jl rfl ty4 Sr (JL_nil ?_))
   refine J_cond Sr (fun h123 => ?_) (fun h123 => ?_)
   ·
    try simp only [NF] at h123
    have hfx : (nth w.P (tpW sc w i k)).fixed = true := by rw [hnP _ htl]; exact h123
    have hvx : (nth w.P (tpW sc w i k)).value = (nth L (tpW sc w i k)).Const := by rw [hnP _ htl]; rfl
    have hfi := find_idx (nth L (tpW sc w i k)).Const (tsW sc w i k).1.C 0
    have hil := idx_le (tsW sc w i k).1.C (nth L (tpW sc w i k)).Const
    refine J_seq ?_
    refine J_drawN [⟨0, [9], true⟩, ⟨2, [6], true⟩, ⟨3, [126], true⟩, ⟨4, [127], true⟩, ⟨5, [128], true⟩, ⟨6, [15], true⟩, ⟨7, [129, 130], true⟩, ⟨8, [131], true⟩, ⟨9, [132], true⟩, ⟨1, [124], true⟩, ⟨10, [125, 133], true⟩, ⟨11, [134], true⟩] rfl (by kernel_rfl) rfl ?_
    refine JN_step rfl rfl rfl rfl (step_fieldAddr_own so25W Sr rfl) ?_
    refine JN_step rfl rfl rfl rfl (step_move Sr) ?_
    refine JN_step rfl rfl rfl rfl (step_nilCheckP Sr) ?_
    refine JN_step rfl rfl rfl rfl (step_fieldAddr so116P Sr rfl) ?_
    refine JN_step rfl rfl rfl rfl (step_load_ptr ty114 Sr) ?_
    refine JN_step rfl rfl rfl rfl (step_move Sr) ?_
    refine JN_step rfl rfl rfl rfl (step_indexAddr_sl (i := (tpW sc w i k)) underlying114 ty121 Sr Sr (by rfl) (gb (by exact htl))) ?_
    refine JN_step rfl rfl rfl rfl (step_fieldAddr so121 Sr rfl) ?_
    refine JN_step rfl rfl rfl rfl (step_load_ptr ty87 Sr) ?_
    refine JN_step rfl rfl rfl rfl (step_load_fld ty22V25 Sr rfl zS) ?_
    refine JN_step rfl rfl rfl rfl (step_call_look zS (refIndex_spec _ _ zG) (fun _ => Flat.v _) ⟨(Frz.own), (Frz.sub Sr), trivial⟩ call71) ?_
    refine JN_step rfl rfl rfl rfl (step_assign Sr) ?_
    refine JN_nil (J_seq (Jr (Jm rfl (Js rfl (step_fieldAddr_own so25W Sr rfl) ?_))))
    refine Js rfl (step_load_fld ty22V25 Sr rfl zS) ?_
    refine Js rfl (step_len_own underlying22 Sr zS) ?_
    refine Js rfl (step_eql Sr Sr) (JL_nil ?_)
    refine J_cond Sr (fun h139 => ?_) (fun h139 => ?_)
    ·
     try simp only [NF] at h139
     have hT : (tmW sc w i k) = ({ (tsW sc w i k).1 with C := (tsW sc w i k).1.C ++ [(nth L (tpW sc w i k)).Const] }, -1 - ((tsW sc w i k).1.C.length : Int))   := by show termS _ _ _ = _; unfold termS; rw [if_pos hfx, hvx, if_pos (by rw [hfi, if_neg zG]; omega)]
     have hnl : (idxL (tsW sc w i k).1.C (nth L (tpW sc w i k)).Const : Int) = (tsW sc w i k).1.C.length := by omega
     refine J_draw [⟨0, [9], true⟩, ⟨2, [6], true⟩, ⟨3, [142], true⟩, ⟨4, [143], true⟩, ⟨5, [144], true⟩, ⟨6, [15], true⟩, ⟨7, [145, 146], true⟩, ⟨8, [147], true⟩, ⟨9, [148], true⟩, ⟨10, [149], true⟩, ⟨1, [140], false⟩, ⟨11, [141, 150], false⟩, ⟨12, [9], true⟩, ⟨13, [151, 152], false⟩] rfl (by kernel_rfl) ?_
     refine Mf rfl rfl (step_fieldAddr_own so25W Sr rfl) (Mv rfl rfl (Mf rfl rfl (step_nilCheckP Sr) (Mf rfl rfl (step_fieldAddr so116P Sr rfl) (Mf rfl rfl (step_load_ptr ty114 Sr) (Mv rfl rfl ?_)))))
     refine Mf rfl rfl (step_indexAddr_sl (i := (tpW sc w i k)) underlying114 ty121 Sr Sr (by rfl) (gb (by exact htl))) ?_
     refine Mf rfl rfl (step_fieldAddr so121 Sr rfl) (Mf rfl rfl (step_load_ptr ty87 Sr) ?_)
     refine Mf rfl rfl (step_literal (ys := [_]) underlying22 el87 ⟨rfl, Sr, trivial⟩ rfl (by decide)) ?_
     refine JM_look rfl rfl rfl rfl (step_load_fld ty22V25 Sr rfl zS) ?_
     refine JM_stepX rfl rfl rfl rfl (step_append underlying22 el87 Sr Sr zS (by simp; omega) (by simp; omega)) fun v151 => ?_
     refine Mf rfl rfl (step_fieldAddr_own so25W Sr rfl) ?_
     refine JM_stepU rfl rfl rfl (step_store_fld (R := rV) (y' := (⟨((tsW sc w i k).1.M.length : Int), v151, va⟩ : GConjW)) ty22V25 Sr Sr zS (by exact ⟨rfl, ⟨fun _ _ q => q, rfl, by intro g hg; simp only [List.mem_cons, List.not_mem_nil, or_false] at hg; subst hg; rfl⟩⟩)) fun _ => ?_
     refine JM_nil (Jr (Js rfl (step_fieldAddr_own so38R Sr rfl) ?_))
     refine Js rfl (step_load_fld ty36V38 Sr rfl zS) ?_
     refine Jm rfl ?_
     refine Js rfl (step_sub Sr Sr (by show in64 (-1 - (idxL (tsW sc w i k).1.C (nth L (tpW sc w i k)).Const : Int)); unfold in64; omega)) ?_
     refine Js rfl (step_literal (ys := [_]) underlying36 el3 ⟨rfl, Sr, trivial⟩ rfl (by decide)) ?_
     refine Jx rfl (step_append underlying36 el3 Sr Sr zS (by simp; omega) (by simp; omega)) fun v158 => ?_
     refine Js rfl (step_fieldAddr_own so38R Sr rfl) ?_
     refine Ju (step_store_fld (R := rV) (y' := (⟨nth w.T i, (ckW sc w i), v158, ((tbW sc w i).Key.length : Int)⟩ : GAtomR)) ty36V38 Sr Sr zS (by exact ⟨rfl, ⟨rfl, ⟨fun _ _ q => q, rfl, by intro g hg; simp only [List.mem_cons, List.not_mem_nil, or_false] at hg; subst hg; rfl⟩⟩⟩)) fun _ => ?_
     refine JL_nil (J_exit (J_region (Jm rfl (Js rfl (step_add Sr Sr z6) (Ja rfl ?_)))))
     refine JL_nil ?_
     rw [← hnl] at hT
     refine K_againL (σ := Nat × Value × Value) (s := (k, vc, vtm)) (k + 1, v151, v158) zO (by show k + 1 ≤ _; omega) (zU) (.r zS (.c zS (SPs.of (A := own 3 rInt v158 ((tsW sc w i k).2 ++ [(-1 - (idxL (tsW sc w i k).1.C (nth L (tpW sc w i k)).Const : Int))])) (by rw [hts2, hT])) (.c zS (SPs.of (A := box v9 25 rConjW (⟨((tsW sc w i k).1.M.length : Int), v151, va⟩ : GConjW)) (by rw [hts2, hT])) (.c zS (SPs.of (A := own 87 rValue v151 ((tsW sc w i k).1.C ++ [(nth L (tpW sc w i k)).Const])) (by rw [hts2, hT])) (.r zS (.c zS (SPs.of (A := own 3 rInt vn (namesM L.length (tsW sc w i k).1.M)) (by rw [hts2, hT])) (zL)))))))
    try simp only [NF] at h139
    have hT : (tmW sc w i k) = ((tsW sc w i k).1, -1 - (idxL (tsW sc w i k).1.C (nth L (tpW sc w i k)).Const : Int))   := by show termS _ _ _ = _; unfold termS; rw [if_pos hfx, hvx, hfi, if_pos (show idxL (tsW sc w i k).1.C (nth L (tpW sc w i k)).Const < (tsW sc w i k).1.C.length by omega), if_neg zG]; simp
    refine J_skip (Jr (Js rfl (step_fieldAddr_own so38R Sr rfl) ?_))
    refine Js rfl (step_load_fld ty36V38 Sr rfl zS) ?_
    refine Jm rfl ?_
    refine Js rfl (step_sub Sr Sr (by show in64 (-1 - (idxL (tsW sc w i k).1.C (nth L (tpW sc w i k)).Const : Int)); unfold in64; omega)) ?_
    refine Js rfl (step_literal (ys := [_]) underlying36 el3 ⟨rfl, Sr, trivial⟩ rfl (by decide)) ?_
    refine Jx rfl (step_append underlying36 el3 Sr Sr zS (by simp; omega) (by simp; omega)) fun v158 => ?_
    refine Js rfl (step_fieldAddr_own so38R Sr rfl) ?_
    refine Ju (step_store_fld (R := rV) (y' := (⟨nth w.T i, (ckW sc w i), v158, ((tbW sc w i).Key.length : Int)⟩ : GAtomR)) ty36V38 Sr Sr zS (by exact ⟨rfl, ⟨rfl, ⟨fun _ _ q => q, rfl, by intro g hg; simp only [List.mem_cons, List.not_mem_nil, or_false] at hg; subst hg; rfl⟩⟩⟩)) fun _ => ?_
    refine JL_nil (J_exit (J_region (Jm rfl (Js rfl (step_add Sr Sr z6) (Ja rfl ?_)))))
    refine JL_nil ?_
    refine K_againL (σ := Nat × Value × Value) (s := (k, vc, vtm)) (k + 1, vc, v158) zO (by show k + 1 ≤ _; omega) (zU) (.r zS (.c zS (SPs.of (A := own 3 rInt v158 ((tsW sc w i k).2 ++ [(-1 - (idxL (tsW sc w i k).1.C (nth L (tpW sc w i k)).Const : Int))])) (by rw [hts2, hT])) (.c zS (SPs.of (A := box v9 25 rConjW (⟨((tsW sc w i k).1.M.length : Int), vc, va⟩ : GConjW)) (by rw [hts2, hT])) (.c zS (SPs.of (A := own 87 rValue vc (tsW sc w i k).1.C) (by rw [hts2, hT])) (.r zS (.c zS (SPs.of (A := own 3 rInt vn (namesM L.length (tsW sc w i k).1.M)) (by rw [hts2, hT])) (zL)))))))
   try simp only [NF] at h123
   have hfx : ¬ (nth w.P (tpW sc w i k)).fixed = true := by rw [hnP _ htl]; show ¬ (nth L _).Fixed = true; rw [h123]; simp
   refine J_skip (J_seq (Jr (Jm rfl (Jm rfl ?_))))
   refine Js rfl (step_indexAddr_own (i := (tpW sc w i k)) underlying36 ty3 Sr zS Sr (by rfl) (by rw [names_ln]; exact htl)) ?_
   refine Js rfl (step_load_own ty3 Sr zS (gb (by first | assumption | omega))) ?_
   refine Js rfl (step_eql Sr Sr) (JL_nil ?_)
   refine J_cut (X := { z : List (Int × Int) × Int // (tmW sc w i k) = ({ (tsW sc w i k).1 with M := z.1 }, z.2) ∧ nmV z.1 (tpW sc w i k) = z.2 + 1 ∧ 0 ≤ z.2 ∧ z.2 ≤ 100000000 }) (fun ⟨⟨Mz, yz⟩, hT, hnz, hz0, hz1⟩ => upd (upd (upd (upd (upd (upd (upd (upd (upd (upd (upd (upd (upd (upd (upd (upd (upd (upd (upd (upd (upd (upd (upd env0 2 (tPtr rSchema sc)) 4 (tAt v4 0)) 5 (tV (.int .i64 0))) 6 (tPtr rBuilderP ⟨sc, vt, L, vf, false⟩)) 8 (rV.ty vn)) 9 (tAt v9 0)) 10 (tV (.int .i64 (sumA sc (w.T.take i) : Int)))) 11 (tV (.int .i64 i))) 12 (tPtr rTable (tbW sc w i))) 13 (tAt (vN b13) 0)) 14 (tV (.int .i64 k))) 15 (tV (.int .i64 (tpW sc w i k)))) 100 (tV (.int .i64 k))) 102 (tSl rInt (ckW sc w i))) 107 (tPtr rBuilderP ⟨sc, vt, L, vf, false⟩)) 108 (tV (.int .i64 (sumA sc (w.T.take i) : Int)))) 110 (tSl rInt (ckW sc w i))) 111 (tV (.int .i64 k))) 113 (tV (.int .i64 (nth (ckW sc w i) k)))) 115 (tV (.int .i64 (tpW sc w i k)))) 116 (tPtr rBuilderP ⟨sc, vt, L, vf, false⟩)) 117 (tPtr rBuilderP ⟨sc, vt, L, vf, false⟩)) 120 (tV (.int .i64 (tpW sc w i k)))) (fun ⟨⟨Mz, yz⟩, hT, hnz, hz0, hz1⟩ => [box (vN b13) 38 rAtomR (⟨nth w.T i, (ckW sc w i), vtm, ((tbW sc w i).Key.length : Int)⟩ : GAtomR), own 3 rInt vtm (tsW sc w i k).2, box v9 25 rConjW (⟨(Mz.length : Int), vc, va⟩ : GConjW), own 87 rValue vc (tsW sc w i k).1.C, own 38 rAtom va (atI sc w i).2, own 3 rInt vn (namesM L.length Mz), own 3 rInt vt w.T, box v4 25 rConj zConj]) ?_ ?_
   ·
    skip
    refine J_cond Sr (fun h164 => ?_) (fun h164 => ?_)
    ·
     try simp only [NF] at h164
     have hmg : mget (tsW sc w i k).1.M ((tpW sc w i k) : Int) = none := (nm_zero hmb).1 (by rw [← hnn]; exact h164)
     have hT : (tmW sc w i k) = ({ (tsW sc w i k).1 with M := mput (tsW sc w i k).1.M ((tpW sc w i k) : Int) (tsW sc w i k).1.M.length }, ((tsW sc w i k).1.M.length : Int))   := by show termS _ _ _ = _; unfold termS; rw [if_neg hfx, hmg]
     have hq0 : nth ((namesM L.length (tsW sc w i k).1.M).set (tpW sc w i k) (((tsW sc w i k).1.M.length : Int) + 1)) (tpW sc w i k) = ((tsW sc w i k).1.M.length : Int) + 1 := by rw [Lg.nth_set hnl1, if_pos rfl]
     have hq1 : nth ((namesM L.length (tsW sc w i k).1.M).set (tpW sc w i k) (((tsW sc w i k).1.M.length : Int) + 1)) (tpW sc w i k) - 1 = ((tsW sc w i k).1.M.length : Int) := by rw [hq0]; omega
     refine Jr (Js rfl (step_fieldAddr_own so25W Sr rfl) ?_)
     refine Js rfl (step_load_fld ty3 Sr rfl zS) ?_
     refine Js rfl (step_add Sr Sr (by show in64 (((tsW sc w i k).1.M.length : Int) + 1); unfold in64; omega)) ?_
     refine Js rfl (step_fieldAddr_own so25W Sr rfl) ?_
     refine Ju (step_store_fld (R := rInt) (y' := (⟨(((tsW sc w i k).1.M.length : Int) + 1), vc, va⟩ : GConjW)) ty3 Sr Sr zS (by exact ⟨fun _ _ q => q, rfl, by intro g hg; simp only [List.mem_cons, List.not_mem_nil, or_false] at hg; rcases hg with rfl | rfl <;> rfl⟩)) fun _ => ?_
     refine JL_nil (J_region (Jm rfl (Jm rfl (Js rfl (step_fieldAddr_own so25W Sr rfl) ?_))))
     refine Js rfl (step_load_fld ty3 Sr rfl zS) ?_
     refine Js rfl (step_indexAddr_own (i := (tpW sc w i k)) underlying36 ty3 Sr zS Sr (by rfl) (by rw [names_ln]; exact htl)) ?_
     refine Ju (step_store_own ty3 Sr Sr zS (by first | assumption | omega)) fun _ => ?_
     refine JL_nil ?_
     refine K_cut (E := fun _ => env0) ⟨(mput (tsW sc w i k).1.M ((tpW sc w i k) : Int) (tsW sc w i k).1.M.length, ((tsW sc w i k).1.M.length : Int)), hT, by unfold nmV; rw [mget_mput, if_pos rfl], by omega, by show ((tsW sc w i k).1.M.length : Int) ≤ _; omega⟩ (zU) (.r zS (.r zS (.c zS (SPs.of (A := box v9 25 rConjW (⟨(((tsW sc w i k).1.M.length : Int) + 1), vc, va⟩ : GConjW)) (by rw [mput_new hmg]; rfl)) (.r zS (.r zS (.c zS (SPs.of (A := own 3 rInt vn ((namesM L.length (tsW sc w i k).1.M).set (tpW sc w i k) (((tsW sc w i k).1.M.length : Int) + 1))) (by rw [names_put htl])) (zL)))))))
    try simp only [NF] at h164
    obtain ⟨y, hy⟩ : ∃ y, mget (tsW sc w i k).1.M ((tpW sc w i k) : Int) = some y := by
     cases hg : mget (tsW sc w i k).1.M ((tpW sc w i k) : Int) with
     | none => exact absurd (hnn.trans ((nm_zero hmb).2 hg)) h164
     | some y => exact ⟨y, rfl⟩
    have hT : (tmW sc w i k) = ((tsW sc w i k).1, y)   := by show termS _ _ _ = _; unfold termS; rw [if_neg hfx, hy]
    have hny := nm_some hy
    have hq2 : nth (namesM L.length (tsW sc w i k).1.M) (tpW sc w i k) - 1 = y := by rw [hnn, hny]; omega
    refine J_skip ?_
    refine K_cut (E := fun _ => env0) ⟨((tsW sc w i k).1.M, y), hT, hny, (hmb _ _ hy).1, by have := (hmb _ _ hy).2; show y ≤ _; omega⟩ (zU) (zL)
   rintro ⟨⟨Mz, yz⟩, hT, hnz, hz0, hz1⟩
   have hnn : nth (namesM L.length Mz) (tpW sc w i k) = yz + 1 := by rw [names_nth htl]; exact hnz
   have hq : nth (namesM L.length Mz) (tpW sc w i k) - 1 = yz := by rw [hnn]; omega
   have hnl1 : (tpW sc w i k) < (namesM L.length Mz).length := by rw [names_ln]; exact htl
   have hz0 : 0 ≤ yz := hz0
   have hz1 : yz ≤ 100000000 := hz1
   refine J_drawZ [box (vN b13) 38 rAtomR (⟨nth w.T i, (ckW sc w i), vtm, ((tbW sc w i).Key.length : Int)⟩ : GAtomR), own 3 rInt vn (namesM L.length Mz)] [⟨0, [13], 0⟩, ⟨1, [174], 1⟩, ⟨2, [8], 0⟩, ⟨3, [15], 0⟩, ⟨4, [176, 177], 1⟩, ⟨5, [178], 1⟩, ⟨6, [179], 0⟩, ⟨7, [180], 0⟩, ⟨9, [13], 0⟩] [⟨8, [175, 181], 182, own 3 rInt vtm (tsW sc w i k).2, fun v => rV.ty v, fun v => own 3 rInt v ((tsW sc w i k).2 ++ [nth (namesM L.length Mz) (tpW sc w i k) - 1])⟩] [⟨10, [182, 183], 2⟩] (L := [box v9 25 rConjW (⟨(Mz.length : Int), vc, va⟩ : GConjW), own 87 rValue vc (tsW sc w i k).1.C, own 38 rAtom va (atI sc w i).2, own 3 rInt vt w.T, box v4 25 rConj zConj]) (zL) rfl (by kernel_rfl) (Nat.le_of_ble_eq_true rfl) ?_
   refine JF_step rfl rfl rfl rfl (fun _ => step_fieldAddr_own so38R Sr rfl) ?_
   refine JF_look rfl rfl rfl rfl (fun _ => step_load_fld ty36V38 Sr rfl zS) ?_
   refine JF_step rfl rfl rfl rfl (fun _ => step_move Sr) ?_
   refine JF_step rfl rfl rfl rfl (fun _ => step_move Sr) ?_
   refine JF_look rfl rfl rfl rfl (fun _ => step_indexAddr_own (i := (tpW sc w i k)) underlying36 ty3 Sr zS Sr (by rfl) (by first | (rw [names_ln]; exact htl) | (rw [List.length_set, names_ln]; exact htl))) ?_
   refine JF_look rfl rfl rfl rfl (fun _ => step_load_own ty3 Sr zS (gb (by first | assumption | omega))) ?_
   refine JF_step rfl rfl rfl rfl (fun _ => step_sub Sr Sr (by show in64 (nth (namesM L.length Mz) (tpW sc w i k) - 1); rw [hnn]; unfold in64; omega)) ?_
   refine JF_step rfl rfl rfl rfl (fun _ => step_literal (ys := [_]) underlying36 el3 ⟨rfl, Sr, trivial⟩ rfl (by decide)) ?_
   refine JF_step rfl rfl rfl rfl (fun _ => step_fieldAddr_own so38R Sr rfl) ?_
   refine JF_nil ?_
   refine ⟨⟨_, rfl, rfl, rfl, rfl, fun _ => step_append underlying36 el3 Sr Sr zS (by simp; omega) (by simp; omega)⟩, fun v182 => ?_⟩
   refine upP_in ?_
   refine JX_stepU rfl rfl rfl (step_store_fld (R := rV) (y' := (⟨nth w.T i, (ckW sc w i), v182, ((tbW sc w i).Key.length : Int)⟩ : GAtomR)) ty36V38 Sr Sr zS (by exact ⟨rfl, ⟨rfl, ⟨fun _ _ q => q, rfl, by intro g hg; simp only [List.mem_cons, List.not_mem_nil, or_false] at hg; subst hg; rfl⟩⟩⟩)) fun _ => ?_
   refine JX_nil (J_region (Jm rfl (Js rfl (step_add Sr Sr z6) (Ja rfl (JL_nil ?_)))))
   refine K_againL (σ := Nat × Value × Value) (s := (k, vc, vtm)) (k + 1, vc, v182) zO (by show k + 1 ≤ _; omega) (zU) (.r zS (.c zS (SPs.of (A := own 3 rInt v182 ((tsW sc w i k).2 ++ [nth (namesM L.length Mz) (tpW sc w i k) - 1])) (by rw [hts2, hT, hq])) (.c zS (SPs.of (A := box v9 25 rConjW (⟨(Mz.length : Int), vc, va⟩ : GConjW)) (by rw [hts2, hT])) (.c zS (SPs.of (A := own 87 rValue vc (tsW sc w i k).1.C) (by rw [hts2, hT])) (.r zS (.c zS (SPs.of (A := own 3 rInt vn (namesM L.length Mz)) (by rw [hts2, hT])) (zL)))))))
  try simp only [NF] at h104
  obtain rfl : k = (ckW sc w i).length := by omega
  refine J_exit (Jr (Jm rfl (Js rfl (step_fieldAddr so76 Sr rfl) (Jl rfl ty44 Sr (Js rfl (step_len_sl underlying44 Sr) ?_)))))
  refine Js rfl (step_add Sr Sr (by show in64 ((sumA sc (w.T.take i) : Int) + ((tbW sc w i).Attrs.length : Int)); unfold in64; omega)) ?_
  refine Ja rfl (JL_nil ?_)
  refine K_lsub (L' := [box (vN b13) 38 rAtomR (⟨nth w.T i, (ckW sc w i), vtm, ((tbW sc w i).Key.length : Int)⟩ : GAtomR), own 3 rInt vtm (termsS w.P (nth w.S i).toNat (atI sc w i).1 (ckW sc w i)).2, box v9 25 rConjW (⟨((termsS w.P (nth w.S i).toNat (atI sc w i).1 (ckW sc w i)).1.M.length : Int), vc, va⟩ : GConjW), own 87 rValue vc (termsS w.P (nth w.S i).toNat (atI sc w i).1 (ckW sc w i)).1.C, own 38 rAtom va (atI sc w i).2, own 3 rInt vn (namesM L.length (termsS w.P (nth w.S i).toNat (atI sc w i).1 (ckW sc w i)).1.M), own 3 rInt vt w.T, box v4 25 rConj zConj]) (.r zS (.c zS (SPs.of (A := own 3 rInt vtm (tsW sc w i (ckW sc w i).length).2) (by rw [tsW_full])) (.c zS (SPs.of (A := box v9 25 rConjW (⟨((tsW sc w i (ckW sc w i).length).1.M.length : Int), vc, va⟩ : GConjW)) (by rw [tsW_full])) (.c zS (SPs.of (A := own 87 rValue vc (tsW sc w i (ckW sc w i).length).1.C) (by rw [tsW_full])) (.r zS (.c zS (SPs.of (A := own 3 rInt vn (namesM L.length (tsW sc w i (ckW sc w i).length).1.M)) (by rw [tsW_full])) (zL))))))) ?_
  refine K_freeze (t := 13) (A' := tPtr rAtom (atomS sc w.P (atI sc w i).1 (nth w.T i) (nth w.S i).toNat).2) (Sel.take (Sel.take (Sel.none _))) Frz.atomR ?_
  refine J_region (Js rfl (step_fieldAddr_own so25W Sr rfl) ?_)
  refine Js rfl (step_load_fld ty23V25 Sr rfl zS) ?_
  refine Jl rfl ty38 Sr ?_
  refine Js rfl (step_literal (ys := [_]) underlying23 el38 ⟨rfl, Sr, trivial⟩ rfl (by decide)) ?_
  refine Jx rfl (step_append underlying23 el38 Sr Sr zS (by simp; omega) (by simp; omega)) fun v193 => ?_
  refine Js rfl (step_fieldAddr_own so25W Sr rfl) ?_
  refine Ju (step_store_fld (R := rV) (y' := (⟨((termsS w.P (nth w.S i).toNat (atI sc w i).1 (ckW sc w i)).1.M.length : Int), vc, v193⟩ : GConjW)) ty23V25 Sr Sr zS (by exact ⟨rfl, ⟨rfl, ⟨fun _ _ q => q, rfl, by intro g hg; cases hg⟩⟩⟩)) fun _ => ?_
  refine JL_nil (J_region (Jm rfl (Js rfl (step_add Sr Sr z6) (Ja rfl (JL_nil ?_)))))
  refine K_againL (σ := Nat × Value × Value × Value) (s := (i, vc, va, vn)) (i + 1, vc, v193, vn) zO (by show i + 1 ≤ _; omega) (.u (SubE.upd (Sub.int (by show (sumA sc (w.T.take i) : Int) + ((tbW sc w i).Attrs.length : Int) = _; rw [hSn]; omega)) (zU))) (.c zS (SPs.of (A := box v9 25 rConjW (⟨((termsS w.P (nth w.S i).toNat (atI sc w i).1 (ckW sc w i)).1.M.length : Int), vc, v193⟩ : GConjW)) (by rw [hstep]; rfl)) (.c zS (SPs.of (A := own 87 rValue vc (termsS w.P (nth w.S i).toNat (atI sc w i).1 (ckW sc w i)).1.C) (by rw [hstep]; rfl)) (.c zS (SPs.of (A := own 38 rAtom v193 ((atI sc w i).2 ++ [(atomS sc w.P (atI sc w i).1 (nth w.T i) (nth w.S i).toNat).2])) (by rw [hstep])) (.c zS (SPs.of (A := own 3 rInt vn (namesM L.length (termsS w.P (nth w.S i).toNat (atI sc w i).1 (ckW sc w i)).1.M)) (by rw [hstep]; rfl)) (zL)))))
 try simp only [NF] at h73
 obtain rfl : i = w.T.length := by omega
 have hend := at_all sc w hts
 obtain ⟨hA1, hA2, hA3⟩ := at_len sc w (sch_keys hs) hI w.T.length (Nat.le_refl _)
 refine J_exit (J_seq ?_)
 refine K_lsub (L' := [box v9 25 rConjW (⟨((atI sc w w.T.length).1.M.length : Int), vc, va⟩ : GConjW), own 87 rValue vc (atI sc w w.T.length).1.C, own 38 rAtom va (atI sc w w.T.length).2, own 3 rInt vn (namesM L.length (atI sc w w.T.length).1.M), own 3 rInt vt w.T, box v4 25 rConj zConj]) (zL) ?_
 refine K_freeze (t := 9) (A' := tPtr rConj (conjM sc w)) (Sel.take (Sel.take (Sel.take (Sel.none _)))) (by unfold conjM; rw [← hend]; exact Frz.conj) ?_
 refine J_region (Jl rfl ty25 Sr ?_)
 refine Ju (step_store_box ty25 Sr Sr zS) fun _ => ?_
 refine Ja rfl (JL_nil (J_ret ?_))
 have hO : ofR sc n p = (conjM sc w, 0) := by rw [hofR, if_neg (by rw [hbf, haf]; simp)]
 refine K_ret2' (rv := .cell 4 25) (rv' := .tmp 5) rfl () (Sel.all _) (.cell ty25 Sr zS Sr) (.tmp Sr) (Frz.sub (Sub.eqT (by rw [hO] <;> rfl))) (Frz.sub (Sub.eqT (by rw [hO] <;> rfl))) Sr
open Go Go.Proofs Go.Proofs.Tryz
theorem atoms_cols (sc : GSchema) (P : List Gplace) : ∀ (l : List (Int × Int)) (s : Tst), ∀ x ∈ (atomsS sc P s l).2, ∃ y ∈ l, x.Cols = colsK (nth sc.Tables y.1.toNat) ∧ x.Terms.length = x.Cols.length
  | [], s, x, hx => by cases hx
  | (t, o) :: l, s, x, hx => by
    have hx : x = (atomS sc P s t o.toNat).2 ∨ x ∈ (atomsS sc P (atomS sc P s t o.toNat).1 l).2 := by simpa [atomsS] using hx
    rcases hx with rfl | hx
    · exact ⟨(t, o), List.mem_cons_self, rfl, (termsS_len P o.toNat (colsK (nth sc.Tables t.toNat)) s).2.2⟩
    · obtain ⟨y, hy, h⟩ := atoms_cols sc P l _ x hx
      exact ⟨y, List.mem_cons_of_mem _ hy, h⟩
structure CjSz (q : GConj) : Prop where
  c : q.Consts.length ≤ 1000000000
  a : q.Atoms.length ≤ 1000000000
  x : ∀ x ∈ q.Atoms, x.Cols.length ≤ 1000000000 ∧ x.Terms.length ≤ 1000000000
theorem zc_sz : CjSz zConj' := ⟨by decide, by decide, fun x hx => by cases hx⟩
theorem ofM_sz {sc : GSchema} {n : Nat} {p : GPlan} (hd : Dep n p) (hP : vldM sc p = true → 12 * nodes n p ≤ 1000000) : CjSz (ofM sc n p).1 := by
  unfold ofM
  by_cases hv : vldM sc p = false
  · rw [if_pos hv]; exact zc_sz
  · rw [if_neg hv]
    have hv : vldM sc p = true := by simpa using hv
    have hP := hP hv
    unfold vldM at hv
    obtain ⟨hs, hv⟩ := Bool.and_eq_true_iff.1 hv
    have hw := walk_ok hs (s := st0) hd hv (st0_inv sc)
    obtain ⟨hb1, hb2, hb3⟩ := of_bounds hw
    split
    · exact zc_sz
    · have hI := hw.inv
      have hts := hI.ts
      obtain ⟨h1, h2, h3⟩ := at_len sc _ (sch_keys hs) hI _ (Nat.le_refl _)
      have he := at_all sc _ hts
      rw [he] at h1 h2 h3
      refine ⟨by show (atomsS _ _ _ _).1.C.length ≤ _; omega, by show (atomsS _ _ _ _).2.length ≤ _; omega, fun x hx => ?_⟩
      obtain ⟨y, hy, e1, e2⟩ := atoms_cols sc _ _ _ x hx
      obtain ⟨i, hi, rfl⟩ := List.getElem_of_mem hy
      rw [List.length_zip] at hi
      have ht := hI.tin i (by omega)
      have hc := colsK_len (nth sc.Tables (nth (walkS sc n st0 p).1.T i).toNat)
      obtain ⟨k1, k2, _⟩ := sch_keys hs _ (nth_mem (l := sc.Tables) (i := (nth (walkS sc n st0 p).1.T i).toNat) (by omega))
      rw [List.getElem_zip] at e1
      simp only at e1
      rw [← nth_get (by omega)] at e1
      rw [e2, e1]; omega
theorem clos_cls {q : GConj} {w : Int} {vars : List Int} (hq : validQ q = true) (hv : (vars.any fun v => decide (v < 0) || decide (q.Vars ≤ v)) = false) : closL q w vars = ((List.range q.Vars.toNat).filter fun (v : Nat) => nth (closedM q w (varsM q.Vars vars) q.Atoms.length) v).map fun (v : Nat) => (v : Int) := by
  rw [closL, if_pos ⟨hq, hv⟩, cls_ref hq]
theorem clos_len (q : GConj) (w : Int) (vars : List Int) : (closL q w vars).length ≤ q.Vars.toNat := by
  unfold closL
  split
  · unfold clsL
    rw [List.length_map]
    exact Nat.le_trans (List.length_filter_le _ _) (by simp)
  · exact Nat.zero_le _
theorem filt_t {f : Nat → Bool} {v : Nat} (h : f v = true) : ((List.range (v + 1)).filter f).map (fun (x : Nat) => (x : Int)) = ((List.range v).filter f).map (fun (x : Nat) => (x : Int)) ++ [(v : Int)] := by rw [List.range_succ, List.filter_append]; simp [h]
theorem filt_f {f : Nat → Bool} {v : Nat} (h : f v = false) : ((List.range (v + 1)).filter f).map (fun (x : Nat) => (x : Int)) = ((List.range v).filter f).map (fun (x : Nat) => (x : Int)) := by rw [List.range_succ, List.filter_append]; simp [h]
theorem filt_len (f : Nat → Bool) (v : Nat) : (((List.range v).filter f).map (fun (x : Nat) => (x : Int))).length ≤ v := by rw [List.length_map]; exact Nat.le_trans (List.length_filter_le _ _) (by simp)
set_option maxHeartbeats 2000000 in
theorem rClosure_spec (q : GConj) (w : Int) (vars : List Int) (hl : vars.length ≤ 1000000000) : Fun1 prog 29 [rConj.ty q, tV (.int .i64 w), tSl rInt vars] (tSl rInt (closL q w vars)) := by
 refine Spec.enter func29 rfl rfl fun h0 w0 fr0 => ?_
 refine Jr (Js rfl (step_box (R := rConj) Sr) (Ja rfl (JL_nil (J_seq (Jr ?_)))))
 refine Jl rfl ty25 Sr (Js rfl (step_call0 (refValid_spec q) ⟨Sr, trivial⟩ call25) (Js rfl (step_not Sr) (JL_nil ?_)))
 refine J_cond Sr (fun h13 => ?_) (fun h13 => ?_)
 ·
  try simp only [NF] at h13
  refine Jr (Ja rfl (JL_nil (J_ret ?_)))
  refine K_ret1 (t := 6) rfl () ?_
  rw [show closL q w vars = [] by rw [closL, if_neg (by rw [h13]; simp)]]
  exact Sub.nilsl
 try simp only [NF] at h13
 have hq : validQ q = true := by simpa using h13
 obtain ⟨hb1, hb2, hb3⟩ := valid_bounds hq
 refine J_skip (Jr (Js rfl (step_fieldAddr so25 Sr rfl) (Jl rfl ty3 Sr ?_)))
 refine Jx rfl (step_make underlying35 el4 Sr Sr (n := q.Vars.toNat) (by show q.Vars = _; omega) zG zG) fun v16 => ?_
 refine Ja rfl (JL_nil (J_seq (Jr (Ja rfl (JL_nil ?_)))))
 refine J_block ?_
 refine J_loopL (σ := Nat) (fun i => i ≤ vars.length ∧ ∀ k, k < i → (decide (nth vars k < 0) || decide (q.Vars ≤ nth vars k)) = false) (fun i => upd (upd (upd (upd (upd env0 1 (tV (.int .i64 w))) 2 (tSl rInt vars)) 3 (tPtr rConj q)) 7 (rV.ty v16)) 8 (tV (.int .i64 i))) (fun i => [own 4 rBool v16 (varsM q.Vars (vars.take i))]) (fun i => vars.length - i) 0 ⟨by omega, fun k hk => by omega⟩ (zU) (.c zS (SPs.of (A := own 4 rBool v16 (List.replicate q.Vars.toNat false)) (by rw [List.take_zero, varsM_nil])) (LSub.nil)) ?_
 rintro i ⟨hi, hv⟩
 refine J_seq (Jr (Jm rfl (Jm rfl (Js rfl (step_len_sl underlying36 Sr) (Js rfl (step_lss Sr Sr) ?_)))))
 refine JL_nil ?_
 refine J_cond Sr (fun h20 => ?_) (fun h20 => ?_)
 ·
  try simp only [NF] at h20
  have hlt : i < vars.length := by omega
  refine J_skip (J_seq (J_block (J_seq (J_seq ?_))))
  refine J_draw [⟨0, [2], true⟩, ⟨1, [8], true⟩, ⟨2, [23, 24], true⟩, ⟨3, [25], true⟩, ⟨4, [26], true⟩, ⟨5, [27], true⟩, ⟨6, [2, 28], true⟩, ⟨7, [8, 28], true⟩, ⟨8, [28, 29, 30], true⟩, ⟨9, [28, 31], true⟩, ⟨10, [3, 28], true⟩, ⟨11, [28, 33], true⟩, ⟨12, [28, 32, 34], true⟩, ⟨13, [28, 35], true⟩] rfl (by kernel_rfl) ?_
  refine Mv rfl rfl (Mv rfl rfl ?_)
  refine Mf rfl rfl (step_indexAddr_sl (i := i) underlying36 ty3 Sr Sr (by rfl) (gb (by exact hlt))) ?_
  refine Mf rfl rfl (step_load_ptr ty3 Sr) (Mf rfl rfl (step_lss Sr Sr) (Mv rfl rfl ?_))
  refine Mk rfl rfl Sr rfl (step_move Sr) ?_
  refine Mk rfl rfl Sr rfl (step_move Sr) ?_
  refine Mg rfl rfl Sr rfl (fun hw => step_indexAddr_sl (i := i) underlying36 ty3 (Sub.w hw) (Sub.w hw) (by rfl) (gb (by have hwq := hw; (try simp only [beqB_t, beqB_f, NF] at hwq); exact hlt))) ?_
  refine Mg rfl rfl Sr rfl (fun hw => step_load_ptr ty3 (Sub.w hw)) ?_
  refine Mk rfl rfl Sr rfl (step_fieldAddr so25 Sr rfl) ?_
  refine Mg rfl rfl Sr rfl (fun hw => step_load_ptr ty3 (Sub.w hw)) (Mg rfl rfl Sr rfl (fun hw => step_geq (Sub.w hw) (Sub.w hw)) (Mf rfl rfl (step_pick_or Sr Sr) (JM_nil ?_)))
  refine J_cond Sr (fun h36 => ?_) (fun h36 => ?_)
  ·
   try simp only [NF] at h36
   refine Jr (Ja rfl (JL_nil (J_ret ?_)))
   have hno : (vars.any fun v => decide (v < 0) || decide (q.Vars ≤ v)) = true := any_t hlt (by simp; omega)
   refine K_drop (Sel.all _) ?_
   refine K_ret1 (t := 6) rfl () ?_
   rw [show closL q w vars = [] by rw [closL, if_neg (by rw [hno]; simp)]]
   exact Sub.nilsl
  try simp only [NF] at h36
  have hvi : 0 ≤ nth vars i ∧ nth vars i < q.Vars := by omega
  have hvs := varsM_set hlt hvi.1 hvi.2
  refine J_skip (J_region (Jm rfl (Jm rfl (Jm rfl ?_))))
  refine Js rfl (step_indexAddr_sl (i := i) underlying36 ty3 Sr Sr (by rfl) (gb (by exact hlt))) ?_
  refine Jl rfl ty3 Sr ?_
  refine Js rfl (step_indexAddr_own (i := (nth vars i).toNat) underlying35 ty4 Sr zS Sr (by show nth vars i = _; omega) (by rw [varsM_len]; omega)) ?_
  refine Ju (step_store_own ty4 Sr Sr zS (by rw [varsM_len]; omega)) fun _ => ?_
  refine JL_nil (J_region (Jm rfl (Js rfl (step_add Sr Sr z6) (Ja rfl (JL_nil ?_)))))
  refine K_againL (σ := Nat) (s := i) (i + 1) zO ?_ (zU) (.c zS (SPs.of (A := own 4 rBool v16 ((varsM q.Vars (vars.take i)).set (nth vars i).toNat true)) (by rw [hvs])) (LSub.nil))
  refine ⟨by omega, fun k hk => ?_⟩
  by_cases e : k = i
  ·
   rw [e]; simp; omega
  exact hv k zG
 try simp only [NF] at h20
 obtain rfl : i = vars.length := by omega
 have hin : (vars.any fun v => decide (v < 0) || decide (q.Vars ≤ v)) = false := any_f (fun k hk => hv k hk)
 refine J_exit (J_seq ?_)
 refine K_lsub (L' := [own 4 rBool v16 (varsM q.Vars vars)]) (.c zS (SPs.of (A := own 4 rBool v16 (varsM q.Vars (vars.take vars.length))) (by rw [List.take_length])) (LSub.nil)) ?_
 refine K_freeze (t := 7) (A' := tSl rBool (varsM q.Vars vars)) (Sel.take (Sel.none _)) Frz.own ?_
 have hcl : (closedM q w (varsM q.Vars vars) q.Atoms.length).length = q.Vars.toNat := by rw [closed_len, varsM_len]
 refine J_region (Jl rfl ty25 Sr (Jm rfl (Jm rfl (Js rfl (step_call0 (rClosed_spec q hq w _ (varsM_len _ _)) ⟨Sr, Sr, Sr, trivial⟩ call72) (Ja rfl ?_)))))
 refine JL_nil (Jr (Ja rfl (JL_nil (J_seq (Jr ?_)))))
 refine Ja rfl (JL_nil (J_block ?_))
 refine J_loopL (σ := Nat × Value) (fun ⟨v, vo⟩ => v ≤ q.Vars.toNat) (fun ⟨v, vo⟩ => upd (upd (upd env0 7 (tSl rBool (closedM q w (varsM q.Vars vars) q.Atoms.length))) 9 (rV.ty vo)) 10 (tV (.int .i64 v))) (fun ⟨v, vo⟩ => [own 3 rInt vo (((List.range v).filter fun (x : Nat) => nth (closedM q w (varsM q.Vars vars) q.Atoms.length) x).map fun (x : Nat) => (x : Int))]) (fun ⟨v, vo⟩ => q.Vars.toNat - v) (0, .slice none 0 0) (by exact Nat.zero_le _) (.u (SubE.upd (Sub.rV rfl) (zU))) (LSub.nilown) ?_
 rintro ⟨v, vo⟩ hil
 try dsimp only at hil
 refine J_seq (Jr (Jm rfl (Jm rfl (Js rfl (step_len_sl underlying35 Sr) (Js rfl (step_lss Sr Sr) ?_)))))
 refine JL_nil ?_
 refine J_cond Sr (fun h50 => ?_) (fun h50 => ?_)
 ·
  try simp only [NF] at h50
  have hlt : v < q.Vars.toNat := by omega
  have hvl : v < (closedM q w (varsM q.Vars vars) q.Atoms.length).length := by rw [hcl]; exact hlt
  have hfl := filt_len (fun x => nth (closedM q w (varsM q.Vars vars) q.Atoms.length) x) v
  refine J_skip (J_seq (J_block (Jr (Jm rfl (Jm rfl ?_)))))
  refine Js rfl (step_indexAddr_sl (i := v) underlying35 ty4 Sr Sr (by rfl) (gb (by exact hvl))) ?_
  refine Jl rfl ty4 Sr (JL_nil ?_)
  refine J_cond Sr (fun h56 => ?_) (fun h56 => ?_)
  ·
   try simp only [NF] at h56
   refine J_region (Jm rfl (Jm rfl ?_))
   refine Js rfl (step_literal (ys := [_]) underlying36 el3 ⟨rfl, Sr, trivial⟩ rfl (by decide)) ?_
   refine Jx rfl (step_append underlying36 el3 Sr Sr zS (by simp only [List.length_append, List.length_cons, List.length_nil]; omega) (by simp only [List.length_append, List.length_cons, List.length_nil]; omega)) fun v60 => ?_
   refine Ja rfl (JL_nil (J_region (Jm rfl (Js rfl (step_add Sr Sr z6) (Ja rfl ?_)))))
   refine JL_nil ?_
   refine K_againL (σ := Nat × Value) (s := (v, vo)) (v + 1, v60) zO (by show v + 1 ≤ _; omega) (zU) (.c zS (SPs.of (A := own 3 rInt v60 ((((List.range v).filter fun (x : Nat) => nth (closedM q w (varsM q.Vars vars) q.Atoms.length) x).map fun (x : Nat) => (x : Int)) ++ [(v : Int)])) (by rw [filt_t (f := fun x => nth (closedM q w (varsM q.Vars vars) q.Atoms.length) x) h56])) (LSub.nil))
  try simp only [NF] at h56
  refine J_skip (J_region (Jm rfl (Js rfl (step_add Sr Sr z6) (Ja rfl (JL_nil ?_)))))
  refine K_againL (σ := Nat × Value) (s := (v, vo)) (v + 1, vo) zO (by show v + 1 ≤ _; omega) (zU) (.c zS (SPs.of (A := own 3 rInt vo (((List.range v).filter fun (x : Nat) => nth (closedM q w (varsM q.Vars vars) q.Atoms.length) x).map fun (x : Nat) => (x : Int))) (by rw [filt_f (f := fun x => nth (closedM q w (varsM q.Vars vars) q.Atoms.length) x) h56])) (LSub.nil))
 try simp only [NF] at h50
 obtain rfl : v = q.Vars.toNat := by omega
 refine J_exit (Jr (Jm rfl (Ja rfl (JL_nil (J_ret ?_)))))
 refine K_ret1' (rv := .tmp 6) rfl () (Sel.take (Sel.none _)) (.tmp Sr) (Frz.own' (clos_cls hq hin).symm)
set_option maxHeartbeats 8000000 in
theorem lawMatches_spec (s : GSchema) (hn : ∀ t ∈ s.Tables, ∀ x ∈ namesL t.Attrs, x.size ≤ 9223372036854775807) (n : Nat) (p : GPlan) (hpl : PlLen n p) (hd : Dep n p) (q : GConj) (hql : q.Atoms.length ≤ 9223372036854775807) (w : Int) (vars : List Int) : Fun1 prog 5 [rSchema.ty s, (rPlan n).ty p, rConj.ty q, tV (.int .i64 w), tSl rInt vars] (tV (.bool true)) := by
 refine Spec.enter func5 rfl rfl fun h0 w0 fr0 => ?_
 refine Jr (Js rfl (step_box (R := rSchema) Sr) (Js rfl (step_box (R := (rPlan n)) Sr) (Js rfl (step_box (R := rConj) Sr) (Ja rfl (JL_nil ?_)))))
 refine Jr (Js rfl (step_call0 (head36_spec ) trivial call14) (Ja rfl (JL_nil (J_seq (Jr ?_)))))
 refine Jl rfl ty41 Sr (Jl rfl ty46 Sr ?_)
 refine Js rfl (step_call0 (rSmall_spec s n p hpl [] 0 (fun t ht => by cases ht)) ⟨Sr, Sr, Sub.nilsl, Sr, trivial⟩ call19) ?_
 refine Js rfl (step_not Sr) (Jm rfl ?_)
 refine Jk rfl Sr rfl (step_load_ptr ty25 Sr) ?_
 refine Jg rfl Sr rfl (fun hw => step_call0 (Few_spec q 8 hql) ⟨(Sub.w hw), Sr, trivial⟩ call15) (Jg rfl Sr rfl (fun hw => step_not (Sub.w hw)) (Js rfl (step_pick_or Sr Sr) (Jm rfl ?_)))
 refine Jk rfl Sr rfl (step_move Sr) ?_
 refine Jg rfl Sr rfl (fun hw => step_len_sl underlying36 (Sub.w hw)) (Jg rfl Sr rfl (fun hw => step_gtr (Sub.w hw) Sr) (Js rfl (step_pick_or Sr Sr) (JL_nil ?_)))
 refine J_cond Sr (fun h39 => ?_) (fun h39 => ?_)
 ·
  try simp only [NF] at h39
  refine Jr (Jm rfl (Ja rfl (JL_nil (J_ret ?_))))
  refine K_ret1 (t := 10) rfl () Sr
 try simp only [NF] at h39
 obtain ⟨⟨hsm, hfw⟩, hvl⟩ := h39
 have hvl : vars.length ≤ 60 := by omega
 obtain ⟨hf1, hf2, hf3, hf4⟩ := few_facts hfw
 have hu1 := uni_len (q := q) (vars := vars) (fun j hj => (hf1 j hj).2)
 have hsm2 := hsm
 unfold smallM at hsm2
 simp only [Bool.and_eq_true, decide_eq_true_eq] at hsm2
 obtain ⟨⟨⟨⟨hss, _⟩, hna⟩, _⟩, _⟩ := hsm2
 have hz : SchSz s := sm_sz hss hn
 have hp : PlSz n p := (nar_sz hd hna hpl).1
 have hcz : CjSz (ofM s n p).1 := ofM_sz hd (fun hv => (vld_bounds hd hv hna).1)
 have hRL : (if validQ q = true then attRL q else []) = (if validQ q = true then attL q else []) := by by_cases hq : validQ q = true; rw [if_pos hq, if_pos hq, attRL_eq hq]; rw [if_neg hq, if_neg hq]
 have hFR : (validQ q && allGone (attRL q)) = (validQ q && firstM q) := by cases hq : validQ q; rfl; rw [first_ref hq]
 have hLl : (if validQ q = true then attL q else []).length ≤ 8 := by by_cases hq : validQ q = true; rw [if_pos hq, attL_len]; omega; rw [if_neg hq]; exact Nat.zero_le _
 have hrow : ∀ i, (nth (if validQ q = true then attL q else []) i).length ≤ 1000000000000 := by
  intro i
  by_cases hq : validQ q = true
  ·
   rw [if_pos hq]
   by_cases hi : i < q.Atoms.length
   ·
    rw [attL_nth q hi, attB_len]; omega
   rw [nth_out (by rw [attL_len]; exact hi)]; exact Nat.zero_le _
  rw [if_neg hq]; exact Nat.zero_le _
 refine J_skip (Jr (Jl rfl ty41 Sr (Jl rfl ty46 Sr (Js rfl (step_call0 (Of_spec s hz n p hp hd (fun hv => (vld_bounds hd hv hna).1) (fun hv => (vld_bounds hd hv hna).2)) ⟨Sr, Sr, trivial⟩ call20) (Jm rfl ?_)))))
 refine Js rfl (step_extract Sr rfl) (Js rfl (step_extract Sr rfl) ?_)
 refine Jx rfl (step_alloc (fun w => zeroValue25 w) zr25) fun b12 => ?_
 refine Ju (step_store_box ty25 Sr Sr zS) fun _ => ?_
 refine JL_freeze (t := 12) (Sel.take (Sel.none _)) Frz.box ?_
 refine Ja rfl (JL_nil (Jr (Jl rfl ty41 Sr (Jl rfl ty46 Sr ?_))))
 refine Js rfl (step_eqTy (B := tTup [rConj.ty (ofM s n p).1, tV (.int .i64 (ofM s n p).2)]) (step_call0 (rOf_spec s hz n p hp hd (fun hv => (vld_bounds hd hv hna).1) (fun hv => (vld_bounds hd hv hna).2)) ⟨Sr, Sr, trivial⟩ call21) (by rw [ofR_eq hd])) ?_
 refine Jm rfl (Js rfl (step_extract Sr rfl) (Js rfl (step_extract Sr rfl) ?_))
 refine Jx rfl (step_alloc (fun w => zeroValue25 w) zr25) fun b14 => ?_
 refine Ju (step_store_box ty25 Sr Sr zS) fun _ => ?_
 refine JL_freeze (t := 14) (Sel.take (Sel.none _)) Frz.box ?_
 refine Ja rfl (JL_nil (Jr (Jl rfl ty25 Sr (Js rfl (step_call0 (Attacks_spec q) ⟨Sr, trivial⟩ call17) (Jm rfl ?_)))))
 refine Js rfl (step_extract Sr rfl) (Js rfl (step_extract Sr rfl) (Ja rfl (Ja rfl (JL_nil (Jr ?_)))))
 refine Jl rfl ty25 Sr ?_
 refine Js rfl (step_eqTy (B := tTup [tSl (rSl rBool) (if validQ q = true then attL q else []), tV (.int .i64 (errV q))]) (step_call0 (rAttacks_spec q) ⟨Sr, trivial⟩ call22) (by rw [hRL])) ?_
 refine Jm rfl (Js rfl (step_extract Sr rfl) (Js rfl (step_extract Sr rfl) (Ja rfl (Ja rfl (JL_nil ?_)))))
 refine Jr (Jl rfl ty25 Sr (Js rfl (step_call0 (FirstOrder_spec q) ⟨Sr, trivial⟩ call18) (Jm rfl (Js rfl (step_extract Sr rfl) (Js rfl (step_extract Sr rfl) ?_)))))
 refine Ja rfl (Ja rfl (JL_nil (Jr (Jl rfl ty25 Sr ?_))))
 refine Js rfl (step_eqTy (B := tTup [tV (.bool (validQ q && firstM q)), tV (.int .i64 (errV q))]) (step_call0 (rFirst_spec q) ⟨Sr, trivial⟩ call23) (by rw [hFR])) ?_
 refine Jm rfl (Js rfl (step_extract Sr rfl) (Js rfl (step_extract Sr rfl) (Ja rfl (Ja rfl (JL_nil ?_)))))
 refine J_seq (J_seq ?_)
 refine J_draw [⟨0, [13], true⟩, ⟨1, [15], true⟩, ⟨2, [73, 74], true⟩, ⟨3, [75], true⟩, ⟨4, [12, 76], true⟩, ⟨5, [14, 76], true⟩, ⟨6, [76, 77, 78], true⟩, ⟨7, [76, 79], true⟩, ⟨8, [76, 80], true⟩, ⟨9, [81], true⟩, ⟨10, [17, 82], true⟩, ⟨11, [19, 82], true⟩, ⟨12, [82, 83, 84], true⟩, ⟨13, [82, 85], true⟩, ⟨14, [86], true⟩, ⟨15, [16, 87], true⟩, ⟨16, [87, 88], true⟩, ⟨17, [18, 87], true⟩, ⟨18, [87, 90], true⟩, ⟨19, [87, 89, 91], true⟩, ⟨20, [87, 92], true⟩, ⟨21, [93], true⟩, ⟨22, [20, 94], true⟩, ⟨23, [22, 94], true⟩, ⟨24, [94, 95, 96], true⟩, ⟨25, [94, 97], true⟩, ⟨26, [98], true⟩, ⟨27, [21, 99], true⟩, ⟨28, [23, 99], true⟩, ⟨29, [99, 100, 101], true⟩, ⟨30, [99, 102], true⟩, ⟨31, [103], true⟩, ⟨32, [7, 104], true⟩, ⟨33, [104, 105], true⟩, ⟨34, [7, 104], true⟩, ⟨35, [104, 107], true⟩, ⟨36, [104, 106, 108], true⟩, ⟨37, [104, 109], true⟩] rfl (by kernel_rfl) ?_
 refine Mv rfl rfl (Mv rfl rfl (Mf rfl rfl (step_neq Sr Sr) (Mv rfl rfl ?_)))
 refine Mk rfl rfl Sr rfl (step_load_ptr ty25 Sr) ?_
 refine Mk rfl rfl Sr rfl (step_load_ptr ty25 Sr) ?_
 refine Mg rfl rfl Sr rfl (fun hw => step_call0 (Same_spec _ _ hcz.c hcz.a hcz.x) ⟨(Sub.w hw), (Sub.w hw), trivial⟩ call24) (Mg rfl rfl Sr rfl (fun hw => step_not (Sub.w hw)) (Mf rfl rfl (step_pick_or Sr Sr) (Mv rfl rfl ?_)))
 refine Mk rfl rfl Sr rfl (step_move Sr) ?_
 refine Mk rfl rfl Sr rfl (step_move Sr) ?_
 refine Mg rfl rfl Sr rfl (fun hw => step_neq (Sub.w hw) (Sub.w hw)) (Mf rfl rfl (step_pick_or Sr Sr) (Mv rfl rfl ?_))
 refine Mk rfl rfl Sr rfl (step_move Sr) ?_
 refine Mg rfl rfl Sr rfl (fun hw => step_len_sl underlying29 (Sub.w hw)) ?_
 refine Mk rfl rfl Sr rfl (step_move Sr) ?_
 refine Mg rfl rfl Sr rfl (fun hw => step_len_sl underlying29 (Sub.w hw)) (Mg rfl rfl Sr rfl (fun hw => step_neq (Sub.w hw) (Sub.w hw)) (Mf rfl rfl (step_pick_or Sr Sr) (Mv rfl rfl ?_)))
 refine Mk rfl rfl Sr rfl (step_move Sr) ?_
 refine Mk rfl rfl Sr rfl (step_move Sr) ?_
 refine Mg rfl rfl Sr rfl (fun hw => step_neq_bool underlying4 (Sub.w hw) (Sub.w hw)) (Mf rfl rfl (step_pick_or Sr Sr) (Mv rfl rfl ?_))
 refine Mk rfl rfl Sr rfl (step_move Sr) ?_
 refine Mk rfl rfl Sr rfl (step_move Sr) ?_
 refine Mg rfl rfl Sr rfl (fun hw => step_neq (Sub.w hw) (Sub.w hw)) (Mf rfl rfl (step_pick_or Sr Sr) (Mv rfl rfl ?_))
 refine Mk rfl rfl Sr rfl (step_load_ptr ty25 Sr) ?_
 refine Mg rfl rfl Sr rfl (fun hw => step_call0 (attackValid_spec q) ⟨(Sub.w hw), trivial⟩ call16) ?_
 refine Mk rfl rfl Sr rfl (step_load_ptr ty25 Sr) ?_
 refine Mg rfl rfl Sr rfl (fun hw => step_call0 (refValid_spec q) ⟨(Sub.w hw), trivial⟩ call25) (Mg rfl rfl Sr rfl (fun hw => step_neq_bool underlying4 (Sub.w hw) (Sub.w hw)) (Mf rfl rfl (step_pick_or Sr Sr) (JM_nil ?_)))
 refine J_cond Sr (fun h110 => ?_) (fun h110 => ?_)
 ·
  try simp only [NF] at h110
  exfalso; simp at h110
 try simp only [NF] at h110
 refine J_skip (J_seq (Jr (Ja rfl (JL_nil (J_block ?_)))))
 refine J_loopL (σ := Nat) (fun i => i ≤ (if validQ q = true then attL q else []).length) (fun i => upd (upd (upd (upd (upd (upd (upd env0 3 (tV (.int .i64 w))) 4 (tSl rInt vars)) 7 (tPtr rConj q)) 11 (tV (.bool true))) 16 (tSl (rSl rBool) (if validQ q = true then attL q else []))) 18 (tSl (rSl rBool) (if validQ q = true then attL q else []))) 24 (tV (.int .i64 i))) (fun i => []) (fun i => (if validQ q = true then attL q else []).length - i) 0 zG (zU) (LSub.rfl) ?_
 rintro i hil
 refine J_seq (Jr (Jm rfl (Jm rfl (Js rfl (step_len_sl underlying29 Sr) (Js rfl (step_lss Sr Sr) ?_)))))
 refine JL_nil ?_
 refine J_cond Sr (fun h114 => ?_) (fun h114 => ?_)
 ·
  try simp only [NF] at h114
  have hlt : i < (if validQ q = true then attL q else []).length := by omega
  refine J_skip (J_seq (J_block (J_seq ?_)))
  refine J_draw [⟨0, [16], true⟩, ⟨1, [24], true⟩, ⟨2, [117, 118], true⟩, ⟨3, [119], true⟩, ⟨4, [18], true⟩, ⟨5, [24], true⟩, ⟨6, [121, 122], true⟩, ⟨7, [123], true⟩, ⟨8, [120, 124], true⟩, ⟨9, [125], true⟩] rfl (by kernel_rfl) ?_
  refine Mv rfl rfl (Mv rfl rfl ?_)
  refine Mf rfl rfl (step_indexAddr_sl (i := i) underlying29 ty35 Sr Sr (by rfl) (gb (by exact hlt))) ?_
  refine Mf rfl rfl (step_load_ptr ty35 Sr) (Mv rfl rfl (Mv rfl rfl ?_))
  refine Mf rfl rfl (step_indexAddr_sl (i := i) underlying29 ty35 Sr Sr (by rfl) (gb (by exact hlt))) ?_
  refine Mf rfl rfl (step_load_ptr ty35 Sr) (Mf rfl rfl (step_call0 (sameB_spec _ _ (hrow _)) ⟨Sr, Sr, trivial⟩ call26) (Mf rfl rfl (step_not Sr) (JM_nil ?_)))
  refine J_cond Sr (fun h126 => ?_) (fun h126 => ?_)
  ·
   try simp only [NF] at h126
   exfalso; simp at h126
  try simp only [NF] at h126
  refine J_skip (J_region (Jm rfl (Js rfl (step_add Sr Sr z6) (Ja rfl (JL_nil ?_)))))
  refine K_againL (σ := Nat) (s := i) (i + 1) zO zG (zU) (LSub.rfl)
 try simp only [NF] at h114
 refine J_exit (J_seq ?_)
 refine J_draw [⟨0, [11], true⟩, ⟨1, [127], true⟩, ⟨2, [7, 128], true⟩, ⟨3, [3, 128], true⟩, ⟨4, [4, 128], true⟩, ⟨5, [128, 129, 130, 131], true⟩, ⟨6, [7, 128], true⟩, ⟨7, [3, 128], true⟩, ⟨8, [4, 128], true⟩, ⟨9, [128, 133, 134, 135], true⟩, ⟨10, [128, 132, 136], true⟩, ⟨11, [128, 137], true⟩, ⟨12, [138], true⟩] rfl (by kernel_rfl) ?_
 refine Mv rfl rfl (Mv rfl rfl ?_)
 refine Mk rfl rfl Sr rfl (step_load_ptr ty25 Sr) ?_
 refine Mk rfl rfl Sr rfl (step_move Sr) ?_
 refine Mk rfl rfl Sr rfl (step_move Sr) ?_
 refine Mg rfl rfl Sr rfl (fun hw => step_call0 (Closure_spec q w vars zG zG) ⟨(Sub.w hw), (Sub.w hw), (Sub.w hw), trivial⟩ call28) ?_
 refine Mk rfl rfl Sr rfl (step_load_ptr ty25 Sr) ?_
 refine Mk rfl rfl Sr rfl (step_move Sr) ?_
 refine Mk rfl rfl Sr rfl (step_move Sr) ?_
 refine Mg rfl rfl Sr rfl (fun hw => step_call0 (rClosure_spec q w vars zG) ⟨(Sub.w hw), (Sub.w hw), (Sub.w hw), trivial⟩ call29) ?_
 refine Mg rfl rfl Sr rfl (fun hw => step_call0 (Ints_spec _ _ (by have := clos_len q w vars; omega)) ⟨(Sub.w hw), (Sub.w hw), trivial⟩ call27) ?_
 refine Mf rfl rfl (step_pick_and Sr Sr) (Mf rfl rfl (step_assign Sr) (JM_nil (J_ret ?_)))
 refine K_ret1 (t := 10) rfl () (Sub.bool ?_)
 simp
end Lg
