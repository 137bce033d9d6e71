/- Walks of match, certain, sorted, Certain, Holds, sets and subsets. -/
import Derived.Test.YtjenebejjamnjaaGreatDoorD
import Derived.Test.YtjenebejjamnjaaGreatDoorProg
import Derived.Ground.SlsfProg
import Derived.Ground.NamesProg
import Derived.Shelf.SlSortCmp.NoneTotal
import Derived.Shelf.Sort.Plain
set_option linter.unusedVariables false
set_option linter.unusedSimpArgs false
set_option linter.unusedSectionVars false
namespace Lg
open Go Go.Proofs Go.Proofs.Tryz
theorem ptr_one {α : Type} {R : Rp α} {x : α} : ∀ h v, (tPtr R x).p h v → v.oneCell' = true := by rintro h v ⟨b, off, cs, rfl, _⟩; rfl
/-- A method bound to its receiver. -/
def tMth (f : Nat) (A : Ty) : Ty := ⟨fun h v => ∃ u, v = .func (.func f) #[u] #[] ∧ A.p h u, fun l ⟨u, e, a⟩ => ⟨u, e, A.mono l a⟩⟩
theorem mth_one {f : Nat} {A : Ty} : ∀ h v, (tMth f A).p h v → v.oneCell' = true := by rintro h v ⟨u, rfl, _⟩; rfl
section
variable {C : Cx} {E : Env} {L : List SP} {d : Option Nat} {ty : Nat} {pos : String} {af : Array Edge} {g : Option (Nat × Bool)}
theorem step_makeMth {f : Nat} {x : Operand} {A : Ty} (hx : Sub (opTy E x) A) : Step1 C ⟨d, .makeFunc (.func f) #[x] #[], ty, pos, af, g⟩ E L (tMth f A) :=
  Step.of_same (by intro c h; cases h) fun a w h hw fr => ⟨.func (.func f) #[a.eval x] #[], by simp [execOp, Instr.makeFunc], a.eval x, rfl, fr.get hx⟩
theorem step_callm {X : Type} {S R : List SP} {x : Operand} {f : Nat} {xs : Array Operand} {ts : Array Nat} {aT : List Ty} {A : Ty} {res : X → Ty} {L' : X → List SP}
    (hx : Sub (opTy E x) (tMth f A)) (sel : Sel L S R) (sp : Spec C.P f (A :: aT) S res L') (ha : ArgsE E xs.toList aT) (he : ∀ args w, (callFunc f args).run C.P w = .ok (.enter f args) w) :
    Step C ⟨d, .call { callee := .value x, args := xs, argTypes := ts }, ty, pos, af, g⟩ E L res (fun x => L' x ++ R) := fun a w h m n l se st fr next Q hk => by
  obtain ⟨m1, m2, d12, rfl, s1, s2⟩ := sel.stars.1 st
  obtain ⟨u, hv, hu⟩ := fr.get hx
  have hA : Args h (A :: aT) (u :: xs.toList.map a.eval) := ⟨hu, ha.args fr⟩
  have hd := PH.disj_join'.1 se.hm
  have hr := PH.disj_join.1 se.mr
  have hc := sp _ h m1 (m2.join C.r) w hA ⟨(by first | exact Sep.inv (by assumption) | exact Inv.mono (PH.le_join_left _ _) (Sep.inv (by assumption))), hd.1, PH.disj_join'.2 ⟨hd.2, se.hr⟩, PH.disj_join'.2 ⟨d12, hr.1⟩, se.hw, fun b o e => se.mw _ _ (PH.le_join_left _ _ _ _ e),
    PH.join_inw (fun b o e => se.mw _ _ (PH.le_join_right d12 _ _ e)) se.rw⟩ s1
  refine ⟨fun _ _ => trivial, ?_⟩
  rw [Fw_round, Oper.semAt_eq _ _ _ (by intro c h; cases h)]
  have hrun : (execOp a.eval ⟨d, .call { callee := .value x, args := xs, argTypes := ts }, ty, pos, af, g⟩).run C.P w = .ok (.enter f (u :: xs.toList.map a.eval).toArray) w := by
    simp only [execOp, resolve, hv, Deferred.ofValue]
    simp [invoke, he]
  rw [hrun]
  refine ⟨by simp, (callsIn_wide (n := 0 - 1)).2 (hc.mono ?_)⟩
  rintro e w' ⟨x, v, h', m', rfl, l', se', st', hv⟩
  have e1 := PH.disj_join'.1 se'.hr
  have e2 := PH.disj_join'.1 se'.mr
  exact hk x v w' h' (m'.join m2) l' ⟨(by first | exact Sep.inv (by assumption) | exact Inv.mono (PH.le_join_left _ _) (Sep.inv (by assumption))), PH.disj_join'.2 ⟨se'.hm, e1.1⟩, e1.2, PH.disj_join.2 ⟨e2.2, hr.2⟩, se'.hw, PH.join_inw se'.mw (fun b o e => se'.rw _ _ (PH.le_join_left _ _ _ _ e)), fun b o e => se'.rw _ _ (PH.le_join_right hr.2 _ _ e)⟩
    (stars_append.2 ⟨m', m2, e2.1, rfl, st', by
      have : (stars R).p h' m2 := (stars R).mono l'.1 s2
      exact this⟩) hv
theorem step_callm0 {X : Type} {x : Operand} {f : Nat} {xs : Array Operand} {ts : Array Nat} {aT : List Ty} {A : Ty} {res : X → Ty}
    (hx : Sub (opTy E x) (tMth f A)) (sp : Fun C.P f (A :: aT) res) (ha : ArgsE E xs.toList aT) (he : ∀ args w, (callFunc f args).run C.P w = .ok (.enter f args) w) :
    Step C ⟨d, .call { callee := .value x, args := xs, argTypes := ts }, ty, pos, af, g⟩ E L res (fun _ => L) := step_callm hx (Sel.none L) sp ha he
end
theorem ty64T {A : Ty} {ho : ∀ h v, A.p h v → v.oneCell' = true} : TyOf prog 64 (rTyp A ho) := ⟨fun w => isAgg64 w, fun w => sizeOf64 w⟩
theorem ty127T {A : Ty} {ho : ∀ h v, A.p h v → v.oneCell' = true} : TyOf prog 127 (rTyp A ho) := ⟨fun w => isAgg127 w, fun w => sizeOf127 w⟩
theorem ty71T {A : Ty} {ho : ∀ h v, A.p h v → v.oneCell' = true} : TyOf prog 71 (rTyp A ho) := ⟨fun w => isAgg71 w, fun w => sizeOf71 w⟩
theorem ty69M : TyOf prog 69 (rOM kvS (rSl rFact)) := ⟨fun w => isAgg69 w, fun w => sizeOf69 w⟩
theorem ty72M : TyOf prog 72 (rOM kvI rValue) := ⟨fun w => isAgg72 w, fun w => sizeOf72 w⟩
set_option maxHeartbeats 2000000 in
theorem match_spec (r : Grewriting) (a : GAtom) (f : GFact) (g : List (Bnd GValue)) (ok : AtomOk r.q a) (hc : r.q.Consts.length ≤ 240) (hf : FitF a f) : Fun1 prog 49 [tPtr rrewriting r, rAtom.ty a, rFact.ty f, tMapI kvI rValue g] (tTup [tOM kvI rValue (matchM r.q a f g), tV (.bool (matchM r.q a f g).isSome)]) := by
 refine Spec.enter func49 rfl rfl fun h0 w0 fr0 => ?_
 have hcl := ok.cl
 have htl := ok.tl
 refine Jr (Js rfl (step_box (R := rAtom) Sr) (Js rfl (step_box (R := rFact) Sr) (Ja rfl (Ja rfl (JL_nil ?_)))))
 refine Jr (Jm rfl ?_)
 refine Jx rfl (step_call (Sel.none _) (clone_spec Tryz.cloneW g) ⟨Sr, trivial⟩ call78) fun v17 => ?_
 refine Ja rfl (JL_nil (J_seq (Jr (Js rfl (step_fieldAddr so47 Sr rfl) (Jl rfl ty27 Sr ?_)))))
 refine Js rfl (step_len_sl underlying27 Sr) (Jm rfl (JL_nil (J_block ?_)))
 refine J_loopL (σ := Nat × List (Bnd GValue)) (fun ⟨i, m⟩ => MatI r.q a f g i m) (fun ⟨i, m⟩ => upd (upd (upd (upd (upd (upd (upd env0 0 (tPtr rrewriting r)) 5 (tPtr rAtom a)) 6 (tPtr rFact f)) 10 (tV v17)) 19 (tSl rInt a.Terms)) 20 (tV (.int .i64 a.Terms.length))) 21 (tV (.int .i64 i))) (fun ⟨i, m⟩ => [mapOwn kvI rValue v17 m]) (fun ⟨i, m⟩ => a.Terms.length - i) (0, g) (MatI.start r.q a f g) (.u (.u (.u (.u (.u (.u (SubE.upd Sr SubE.any))))))) (LSub.cons zS (SPs.rfl) (LSub.nil)) ?_
 rintro ⟨i, m⟩ hmi
 try dsimp only at hmi
 refine Jr (Js rfl (step_lss Sr Sr) (JL_nil (J_seq ?_)))
 refine J_cond Sr (fun h22 => ?_) (fun h22 => ?_)
 ·
  try simp only [NF] at h22
  have hlt : i < a.Terms.length := by omega
  have hfc := hf i zG
  have htm := ok.tm i zG
  refine J_skip (J_seq (J_block (Jr (Jm rfl ?_))))
  refine Js rfl (step_indexAddr_sl  underlying27 ty3 Sr Sr rfl (gb (by exact hlt))) ?_
  refine Jl rfl ty3 Sr (Ja rfl (Ja rfl (JL_nil (J_seq ?_))))
  refine J_draw [⟨0, [6], true⟩, ⟨1, [26], true⟩, ⟨2, [5], true⟩, ⟨3, [28], true⟩, ⟨4, [11], true⟩, ⟨5, [29, 30], true⟩, ⟨6, [31], true⟩, ⟨7, [27, 32], true⟩, ⟨8, [33], true⟩, ⟨9, [], false⟩, ⟨10, [13, 34], false⟩] rfl (by kernel_rfl) ?_
  refine Mf rfl rfl (step_fieldAddr so45 Sr rfl) (Mf rfl rfl (step_load_ptr ty22 Sr) (Mf rfl rfl (step_fieldAddr so47 Sr rfl) (Mf rfl rfl (step_load_ptr ty27 Sr) (Mv rfl rfl ?_))))
  refine Mf rfl rfl (step_indexAddr_sl (i := i) underlying27 ty3 Sr Sr (by rfl) (gb (by show i < a.Cols.length; omega))) ?_
  refine Mf rfl rfl (step_load_ptr ty3 Sr) ?_
  refine Mf rfl rfl (step_indexAddr_sl (i := (nth a.Cols i).toNat) underlying22 ty58 Sr Sr (by show nth a.Cols i = ((nth a.Cols i).toNat : Int); omega) (gb (by show (nth a.Cols i).toNat < f.Row.length; omega))) ?_
  refine Mf rfl rfl (step_load_ptr ty58 Sr) ?_
  refine JM_stepX rfl rfl rfl rfl (step_alloc (fun w => zeroValue58 w) zr58) fun v13 => ?_
  refine JM_stepU rfl rfl rfl (step_store_box ty58 Sr Sr zS) fun _ => ?_
  refine JM_nil (Jr (Jm rfl (Jm rfl ?_)))
  refine Js rfl (step_lookup_ok (kv := kvI) (R := rValue) (z := zValue) (KeyT.int underlying3) underlying72 (fun w => zeroValue58 w) zr58 Sr Sr zS) ?_
  refine Jm rfl (Js rfl (step_extract Sr rfl) (Js rfl (step_extract Sr rfl) ?_))
  refine Jx rfl (step_alloc (fun w => zeroValue58 w) zr58) fun v14 => ?_
  refine Ju (step_store_box ty58 Sr Sr zS) fun _ => ?_
  refine Ja rfl (JL_nil (J_seq (Jr (Jm rfl (Js rfl (step_lss Sr Sr) ?_)))))
  refine JL_nil ?_
  refine J_cond Sr (fun h42 => ?_) (fun h42 => ?_)
  ·
   try simp only [NF] at h42
   refine J_region (Jm rfl (Js rfl (step_nilCheckP Sr) (Js rfl (step_fieldAddr so68 Sr rfl) (Js rfl (step_fieldAddr so25 Sr rfl) (Jl rfl ty22 Sr ?_)))))
   refine Jm rfl (Js rfl (step_sub Sr Sr z6) ?_)
   refine Js rfl (step_indexAddr_sl (i := (-1 - (nth a.Terms i)).toNat) underlying22 ty58 Sr Sr zG (gb (by show (-1 - (nth a.Terms i)).toNat < r.q.Consts.length; omega))) ?_
   refine Jl rfl ty58 Sr ?_
   refine Ju (step_store_box ty58 Sr Sr zS) fun _ => ?_
   refine Ja rfl (JL_nil (J_seq (Jr (Jm rfl (Jm rfl ?_)))))
   refine Jg rfl Sr rfl (fun hw => step_load_box ty58 Sr zS) ?_
   refine Jg rfl Sr rfl (fun hw => step_load_box ty58 Sr zS) ?_
   refine Jg rfl Sr rfl (fun hw => step_call0 (Test_spec _ _ _ _) ⟨(Sub.w hw), Sr, (Sub.w hw), Sr, trivial⟩ call79) (Jg rfl Sr rfl (fun hw => step_not (Sub.w hw)) (Js rfl (step_pick_and Sr Sr) (JL_nil ?_)))
   refine J_cond Sr (fun h58 => ?_) (fun h58 => ?_)
   ·
    try simp only [NF] at h58
    refine Jr (Ja rfl (Ja rfl (JL_nil (J_ret ?_))))
    have hst : testV (nth f.Row (nth a.Cols i).toNat) 1 (nth r.q.Consts (-1 - (nth a.Terms i)).toNat) 0 = false := by simpa using h58
    have hm := hmi.miss hlt (by rw [stepB_neg h42, if_neg (by rw [hst]; decide)])
    refine K_ret2' (rv := .tmp 8) (rv' := .tmp 9) rfl () (Sel.all _) (.tmp Sr) (.tmp Sr) (Frz.sub ?_) (Frz.sub ?_) Sr
    ·
     rw [hm]; exact Sr
    rw [hm]; exact Sr
   try simp only [NF] at h58
   refine J_skip (Jr (Jm rfl (Js rfl (step_not Sr) (JL_nil ?_))))
   refine J_cond Sr (fun h60 => ?_) (fun h60 => ?_)
   ·
    try simp only [NF] at h60
    refine J_region (Jm rfl (Jm rfl ?_))
    refine Js rfl (step_load_box ty58 Sr zS) ?_
    refine Ju (step_mapUpdate (kv := kvI) (R := rValue) (KeyT.int underlying3) underlying72 Sr Sr Sr zS) fun _ => ?_
    refine JL_nil (J_region (Js rfl (step_add Sr Sr z6) (Jm rfl (JL_nil ?_))))
    exact absurd h60 (by simp)
   try simp only [NF] at h60
   refine J_skip (J_region (Js rfl (step_add Sr Sr z6) (Jm rfl (JL_nil ?_))))
   have hst : testV (nth f.Row (nth a.Cols i).toNat) 1 (nth r.q.Consts (-1 - (nth a.Terms i)).toNat) 0 = true := by simpa using h58
   refine K_boxdrop (b := v14) zS ?_
   refine K_boxdrop (b := v13) zS ?_
   refine K_againL (σ := Nat × List (Bnd GValue)) (s := (i, m)) (i + 1, m) zO (hmi.next hlt (by rw [stepB_neg h42, if_pos hst])) (.u (.u (.u (.u (.u (.u (SubE.upd Sr SubE.any))))))) (LSub.cons zS (SPs.rfl) (LSub.nil))
  try simp only [NF] at h42
  refine J_skip (J_seq (Jr (Jm rfl (Jm rfl ?_))))
  refine Jg rfl Sr rfl (fun hw => step_load_box ty58 Sr zS) ?_
  refine Jg rfl Sr rfl (fun hw => step_load_box ty58 Sr zS) ?_
  refine Jg rfl Sr rfl (fun hw => step_call0 (Test_spec _ _ _ _) ⟨(Sub.w hw), Sr, (Sub.w hw), Sr, trivial⟩ call79) (Jg rfl Sr rfl (fun hw => step_not (Sub.w hw)) (Js rfl (step_pick_and Sr Sr) (JL_nil ?_)))
  refine J_cond Sr (fun h58 => ?_) (fun h58 => ?_)
  ·
   try simp only [NF] at h58
   refine Jr (Ja rfl (Ja rfl (JL_nil (J_ret ?_))))
   obtain ⟨u, hu⟩ := Option.isSome_iff_exists.1 (show (mget m (nth a.Terms i)).isSome = true from h58.1)
   have hst : testV (nth f.Row (nth a.Cols i).toNat) 1 u 0 = false := by rw [hu] at h58; simpa using h58.2
   have hm := hmi.miss hlt (by rw [stepB_some zG hu, if_neg (by rw [hst]; decide)])
   refine K_ret2' (rv := .tmp 8) (rv' := .tmp 9) rfl () (Sel.all _) (.tmp Sr) (.tmp Sr) (Frz.sub ?_) (Frz.sub ?_) Sr
   ·
    rw [hm]; exact Sr
   rw [hm]; exact Sr
  try simp only [NF] at h58
  refine J_skip (Jr (Jm rfl (Js rfl (step_not Sr) (JL_nil ?_))))
  refine J_cond Sr (fun h60 => ?_) (fun h60 => ?_)
  ·
   try simp only [NF] at h60
   refine J_region (Jm rfl (Jm rfl ?_))
   refine Js rfl (step_load_box ty58 Sr zS) ?_
   refine Ju (step_mapUpdate (kv := kvI) (R := rValue) (KeyT.int underlying3) underlying72 Sr Sr Sr zS) fun _ => ?_
   refine JL_nil (J_region (Js rfl (step_add Sr Sr z6) (Jm rfl (JL_nil ?_))))
   refine K_boxdrop (b := v14) zS ?_
   refine K_boxdrop (b := v13) zS ?_
   refine K_againL (σ := Nat × List (Bnd GValue)) (s := (i, m)) (i + 1, mput m (nth a.Terms i) (nth f.Row (nth a.Cols i).toNat)) zO (hmi.next hlt (stepB_new zG (by simpa using h60))) (.u (.u (.u (.u (.u (.u (SubE.upd Sr SubE.any))))))) (LSub.cons zS (SPs.rfl) (LSub.nil))
  try simp only [NF] at h60
  refine J_skip (J_region (Js rfl (step_add Sr Sr z6) (Jm rfl (JL_nil ?_))))
  obtain ⟨u, hu⟩ := Option.isSome_iff_exists.1 (show (mget m (nth a.Terms i)).isSome = true by simpa using h60)
  have hst : testV (nth f.Row (nth a.Cols i).toNat) 1 u 0 = true := by rw [hu] at h58; simpa using h58
  refine K_boxdrop (b := v14) zS ?_
  refine K_boxdrop (b := v13) zS ?_
  refine K_againL (σ := Nat × List (Bnd GValue)) (s := (i, m)) (i + 1, m) zO (hmi.next hlt (by rw [stepB_some zG hu, if_pos hst])) (.u (.u (.u (.u (.u (.u (SubE.upd Sr SubE.any))))))) (LSub.cons zS (SPs.rfl) (LSub.nil))
 try simp only [NF] at h22
 refine J_exit (Jr (Jm rfl (Ja rfl (Ja rfl (JL_nil ?_)))))
 refine J_ret ?_
 have hm := (show MatI r.q a f g a.Terms.length m by have := hmi.le; rw [show a.Terms.length = i by omega]; exact hmi).fin
 refine K_ret2' (rv := .tmp 8) (rv' := .tmp 9) rfl () (Sel.all _) (.tmp Sr) (.tmp Sr) (Frz.to ?_ Frz.mapI) (Frz.sub ?_) Sr
 ·
  rw [hm]; exact Sr
 rw [hm]; exact Sr
/-- What the certainty of the atoms from some place on comes to. -/
def grpM (r : Grewriting) (i : Nat) : List (List (List (Bnd GValue))) := ((nth r.blocks i).getD []).map fun b => b.2.map (bnd (nth r.order i))
def certM (r : Grewriting) (k : Nat) (g : List (Bnd GValue)) : Bool := certL (eqT r.q) ((List.range' k (r.order.length - k)).map (grpM r)) g
structure RwOk (r : Grewriting) : Prop where
  at_ : ∀ i, i < r.order.length → AtomOk r.q (nth r.order i)
  bl : r.blocks.length = r.order.length
  some_ : ∀ i, i < r.order.length → ∃ m, nth r.blocks i = some m ∧ ∀ b ∈ m, b.2.length ≤ 1000000 ∧ ∀ f ∈ b.2, FitF (nth r.order i) f
  ln : r.order.length ≤ 20
theorem certM_end {r : Grewriting} {k : Nat} (h : k = r.order.length) (g : List (Bnd GValue)) : certM r k g = true := by
  subst h; unfold certM; rw [Nat.sub_self]; rfl
def stepM (r : Grewriting) (k : Nat) (g : List (Bnd GValue)) (f : GFact) : Bool := match matchM r.q (nth r.order k) f g with | none => false | some g' => certM r (k + 1) g'
theorem certM_step {r : Grewriting} {k : Nat} (h : k < r.order.length) (g : List (Bnd GValue)) : certM r k g = ((nth r.blocks k).getD []).any fun b => b.2.all (stepM r k g) := by
  unfold certM
  rw [show r.order.length - k = (r.order.length - (k + 1)) + 1 by omega, List.range'_succ, List.map_cons]
  simp only [certL, grpM, List.any_map]
  congr 1
  funext b
  simp only [Function.comp, List.all_map]
  congr 1
  funext f
  simp only [Function.comp, stepM, certM]
  generalize hz : runB (eqT r.q) g (bnd (nth r.order k) f) = z
  have hz2 : matchM r.q (nth r.order k) f g = z := hz
  rw [hz2]
  cases z <;> rfl
theorem tOM_get {κ β : Type} [DecidableEq κ] {kv : κ → Value} {R : Rp β} {o : Option (List (κ × β))} (h : o.isSome = true) : Sub (tOM kv R o) (tMapI kv R (o.getD [])) := by
  cases o with
  | none => cases h
  | some m => exact Sr
def alwM (r : Grewriting) (k : Nat) (g : List (Bnd GValue)) (b : List GFact) : Bool := b.all (stepM r k g)
def CertS (r : Grewriting) (k : Nat) : Prop := ∀ g, Fun1 prog 35 [tPtr rrewriting r, tV (.int .i64 k), tMapI kvI rValue g] (tV (.bool (certM r k g)))
abbrev tNext (r : Grewriting) : Ty := tMth 35 (tPtr rrewriting r)
abbrev alwA (r : Grewriting) (k : Nat) (g : List (Bnd GValue)) : List Ty := [tPtr (rTyp (tPtr rrewriting r) ptr_one) (), tPtr rInt (k : Int), tPtr (rOM kvI rValue) (some g), tPtr (rTyp (tNext r) mth_one) ()]
theorem any_of_get {α : Type} {p : α → Bool} {l : List α} {i : Nat} {x : α} (h : l[i]? = some x) (hp : p x = true) : l.any p = true := List.any_eq_true.2 ⟨x, List.mem_of_getElem? h, hp⟩
theorem alwF_spec (r : Grewriting) (ok : RwOk r) (k : Nat) (hk : k < r.order.length) (ih : CertS r (k + 1)) (g : List (Bnd GValue)) (f : GFact) (hf : FitF (nth r.order k) f) (hc : r.q.Consts.length ≤ 240) : Fun1 prog 96 [rFact.ty f, tPtr (rTyp (tPtr rrewriting r) ptr_one) (), tPtr rInt (k : Int), tPtr (rOM kvI rValue) (some g), tPtr (rTyp (tNext r) mth_one) ()] (tV (.bool (!stepM r k g f))) := by
 refine Spec.enter func96 rfl rfl fun h0 w0 fr0 => ?_
 have hln := ok.ln
 refine Jr (Js rfl (step_box (R := rFact) Sr) (Ja rfl (JL_nil (J_seq ?_))))
 refine J_draw [⟨0, [1], true⟩, ⟨1, [1], true⟩, ⟨2, [11], true⟩, ⟨3, [12], true⟩, ⟨4, [13], true⟩, ⟨5, [2], true⟩, ⟨6, [14, 15], true⟩, ⟨7, [16], true⟩, ⟨8, [5], true⟩, ⟨9, [3], true⟩, ⟨10, [10, 17, 18, 19], true⟩, ⟨11, [20], true⟩, ⟨12, [9], true⟩, ⟨13, [9], true⟩, ⟨14, [21], true⟩, ⟨15, [22], true⟩] rfl (by kernel_rfl) ?_
 refine Mf rfl rfl (step_load_ptr ty64T Sr) (Mf rfl rfl (step_load_ptr ty64T Sr) (Mf rfl rfl (step_nilCheckP Sr) (Mf rfl rfl (step_fieldAddr so68 Sr rfl) (Mf rfl rfl (step_load_ptr ty23 Sr) (Mf rfl rfl (step_load_ptr ty3 Sr) ?_)))))
 refine Mf rfl rfl (step_indexAddr_sl (i := k) underlying23 ty47 Sr Sr (by rfl) (gb (by exact hk))) ?_
 refine Mf rfl rfl (step_load_ptr ty47 Sr) (Mf rfl rfl (step_load_ptr ty45 Sr) (Mf rfl rfl (step_load_ptr ty72M Sr) (Mf rfl rfl (step_call0 (match_spec r (nth r.order k) f g (ok.at_ k hk) hc hf) ⟨Sr, Sr, Sr, Sr, trivial⟩ call49) (Mv rfl rfl (Mf rfl rfl (step_extract Sr rfl) ?_)))))
 refine Mf rfl rfl (step_extract Sr rfl) (Mf rfl rfl (step_assign Sr) (Mf rfl rfl (step_assign Sr) (JM_nil (Jr (Jm rfl ?_)))))
 refine Js rfl (step_not Sr) (Jm rfl (Jg rfl Sr rfl (fun hw => step_load_ptr ty127T Sr) (Jg rfl Sr rfl (fun hw => step_load_ptr ty3 Sr) ?_)))
 refine Jg rfl Sr rfl (fun hw => step_add (Sub.w hw) Sr (by have hwq := hw; (try simp only [beqB_t, beqB_f, NF] at hwq); unfold in64; omega)) ?_
 refine Jg rfl Sr rfl (fun hw => step_move Sr) ?_
 refine Jg rfl Sr rfl (fun hw => step_callm0 (aT := [_, _]) (Sub.w hw) (ih (((matchM r.q (nth r.order k) f g).getD []))) ⟨Sub.w hw, Sub.trans (Sub.w hw) (tOM_get (by simpa using hw)), trivial⟩ call35) ?_
 refine Jg rfl Sr rfl (fun hw => step_not (Sub.w hw)) (Js rfl (step_pick_or Sr Sr) (Ja rfl (JL_nil (J_ret ?_))))
 refine K_ret1 (t := 6) rfl () ?_
 refine Sub.bool ?_
 unfold stepM
 cases h : matchM r.q (nth r.order k) f g with
 | none => simp
 | some g2 => simp
theorem always_spec (r : Grewriting) (ok : RwOk r) (k : Nat) (hk : k < r.order.length) (ih : CertS r (k + 1)) (g : List (Bnd GValue)) (b : List GFact) (hf : ∀ f ∈ b, FitF (nth r.order k) f) (hc : r.q.Consts.length ≤ 240) (hl : b.length ≤ 1000000) : Fun1 prog 60 [tPtr rrewriting r, tSl rFact b, tV (.int .i64 k), tMapI kvI rValue g, tNext r] (tV (.bool (alwM r k g b))) := by
 refine Spec.enter func60 rfl rfl fun h0 w0 fr0 => ?_
 refine Jr (Js rfl (step_box (R := rTyp (tPtr rrewriting r) ptr_one) (y := ()) Sr) (Js rfl (step_box (R := rInt) Sr) (Js rfl (step_box (R := rOM kvI rValue) (y := some g) Sr) (Js rfl (step_box (R := rTyp (tNext r) mth_one) (y := ()) Sr) (Ja rfl ?_)))))
 refine JL_nil (Jr (Jm rfl (Js rfl (step_makeFunc (As := [_, _, _, _]) ⟨Sr, Sr, Sr, Sr, trivial⟩) (Js rfl (step_call0 (ContainsFuncF_spec b zG 96 (alwA r k g) (fun f => !stepM r k g f) (fun f hfm => alwF_spec r ok k hk ih g f (hf f hfm) hc) call96) ⟨Sr, Sr, trivial⟩ call95) (Js rfl (step_not Sr) ?_)))))
 refine Ja rfl (JL_nil (J_ret ?_))
 refine K_ret1 (t := 10) rfl () ?_
 refine Sub.bool ?_
 unfold alwM
 rw [List.all_eq_not_any_not]
set_option maxHeartbeats 1000000 in
theorem certainS_spec (r : Grewriting) (ok : RwOk r) (k : Nat) (hk : k ≤ r.order.length) (hc : r.q.Consts.length ≤ 240) (ih : k < r.order.length → CertS r (k + 1)) (g : List (Bnd GValue)) : Fun1 prog 35 [tPtr rrewriting r, tV (.int .i64 k), tMapI kvI rValue g] (tV (.bool (certM r k g))) := by
 refine Spec.enter func35 rfl rfl fun h0 w0 fr0 => ?_
 have hln := ok.ln
 have hbl := ok.bl
 refine Jr (Ja rfl (JL_nil (J_seq (Jr (Jm rfl ?_)))))
 refine Jm rfl (Js rfl (step_nilCheckP Sr) (Js rfl (step_fieldAddr so68 Sr rfl) (Jl rfl ty23 Sr (Js rfl (step_len_sl underlying23 Sr) (Js rfl (step_eql Sr Sr) ?_)))))
 refine JL_nil ?_
 refine J_cond Sr (fun h15 => ?_) (fun h15 => ?_)
 ·
  try simp only [NF] at h15
  have hke : k = r.order.length := by omega
  refine Jr (Ja rfl (JL_nil (J_ret ?_)))
  refine K_ret1 (t := 6) rfl () ?_
  refine Sub.bool ?_
  rw [certM_end hke]
 try simp only [NF] at h15
 have hkl : k < r.order.length := by omega
 obtain ⟨mb, hmb, hmf⟩ := ok.some_ k hkl
 have hcs := certM_step hkl g
 rw [hmb] at hcs
 have hcs : certM r k g = mb.any fun b => b.2.all (stepM r k g) := hcs
 refine J_skip (J_seq (Jr (Jm rfl (Js rfl (step_nilCheckP Sr) (Js rfl (step_fieldAddr so68 Sr rfl) ?_)))))
 refine Jl rfl ty66 Sr (Jm rfl ?_)
 refine Js rfl (step_indexAddr_sl (i := k) underlying66 ty69 Sr Sr (by rfl) (gb (by show k < r.blocks.length; omega))) ?_
 refine Jl rfl ty69M Sr ?_
 refine Jx rfl (step_rangeI (kv := kvS) (R := rSl rFact) underlying69 (by show Sub ((rOM kvS (rSl rFact)).ty (nth r.blocks k)) _; rw [hmb]; exact Sr)) fun v23 => ?_
 refine JL_nil (J_block ?_)
 refine J_loopL (σ := List Nat) (fun dn => dn.Nodup ∧ (∀ a ∈ dn, a < mb.length) ∧ ∀ i x, i ∈ dn → mb[i]? = some x → alwM r k g x.2 = false) (fun dn => upd (upd (upd (upd env0 0 (tPtr rrewriting r)) 1 (tV (.int .i64 k))) 2 (tMapI kvI rValue g)) 23 (tAt v23 0)) (fun dn => [itI kvS (rSl rFact) v23 mb dn]) (fun dn => mb.length - dn.length) [] ⟨by simp, by simp, by simp⟩ (.u (.u (.u (SubE.upd Sr SubE.any)))) (LSub.cons zS (SPs.rfl) (LSub.nil)) ?_
 rintro dn ⟨hnd, hdlt, hno⟩
 refine Jr ?_
 refine Jx rfl (step_nextI rfl Sr LSub.rfl) fun o => ?_
 refine Js rfl (step_extract_next Sr) (JL_nil (J_seq ?_))
 refine J_cond Sr (fun h25 => ?_) (fun h25 => ?_)
 ·
  try simp only [NF] at h25
  obtain ⟨o, ho⟩ := o
  obtain ⟨i, rfl⟩ := Option.isSome_iff_exists.1 h25
  dsimp only at ho
  obtain ⟨hil, hid⟩ := ho
  obtain ⟨⟨bk, bf⟩, hms⟩ : ∃ q, mb[i]? = some q := ⟨_, List.getElem?_eq_getElem hil⟩
  have hbm := hmf _ (List.mem_of_getElem? hms)
  have hnd2 : (dn ++ [i]).Nodup := List.nodup_append.2 ⟨hnd, by simp, by intro a ha b hb e; simp at hb; subst hb; subst e; exact hid ha⟩
  have hlt2 : ∀ a ∈ dn ++ [i], a < mb.length := by intro a ha; rcases List.mem_append.1 ha with h | h; exact hdlt a h; simp at h; subst h; exact hil
  have hdl := nodup_le hnd2 hlt2
  simp only [List.length_append, List.length_cons, List.length_nil] at hdl
  refine J_skip (J_block (Jr (Js rfl (step_entryI Sr LSub.rfl hms) (Js rfl (step_extract Sr rfl) (Ja rfl ?_)))))
  refine JL_nil (Jr (Jm rfl (Jm rfl (Jm rfl (Jm rfl ?_)))))
  refine Jm rfl (Js rfl (step_makeMth Sr) (Js rfl (step_call0 (always_spec r ok k hkl (ih hkl) g bf hbm.2 hc hbm.1) ⟨Sr, Sr, Sr, Sr, Sr, trivial⟩ call60) (JL_nil ?_)))
  refine J_cond Sr (fun h34 => ?_) (fun h34 => ?_)
  ·
   try simp only [NF] at h34
   refine Jr (Ja rfl (JL_nil (J_ret ?_)))
   refine K_ret1' (rv := .tmp 6) rfl () (Sel.all _) (.tmp Sr) (Frz.sub ?_)
   refine Sub.bool ?_
   rw [hcs]; exact (any_of_get (p := fun b : ByteArray × List GFact => b.2.all (stepM r k g)) hms h34).symm
  try simp only [NF] at h34
  refine J_skip ?_
  refine K_againL (σ := List Nat) (s := dn) (dn ++ [i]) (by simp; omega) ⟨hnd2, hlt2, fun j x hj hx => by
   rcases List.mem_append.1 hj with h | h
   ·
    exact hno j x h hx
   ·
    simp only [List.mem_singleton] at h; subst h; rw [hms] at hx; injection hx with hx; subst hx; simpa using h34⟩ (.u (.u (.u (SubE.upd Sr SubE.any)))) (LSub.cons zS (SPs.rfl) (LSub.nil))
 try simp only [NF] at h25
 obtain ⟨o, ho⟩ := o
 obtain rfl : o = none := by simpa using h25
 dsimp only at ho
 refine J_exit (Jr (Ja rfl (JL_nil (J_ret ?_))))
 refine K_ret1' (rv := .tmp 6) rfl () (Sel.all _) (.tmp Sr) (Frz.sub ?_)
 refine Sub.bool ?_
 rw [hcs]; rw [eq_comm, List.any_eq_false]; intro x hx; obtain ⟨j, hj⟩ := List.getElem?_of_mem hx; have := hno j x (ho j (List.getElem?_eq_some_iff.1 hj).1) hj; unfold alwM at this; simp [this]
theorem certain_spec (r : Grewriting) (ok : RwOk r) (hc : r.q.Consts.length ≤ 240) : ∀ (n k : Nat), k + n = r.order.length → CertS r k
  | 0, k, h => fun g => certainS_spec r ok k (by omega) hc (fun h2 => absurd h2 (by omega)) g
  | n + 1, k, h => fun g => certainS_spec r ok k (by omega) hc (fun _ => certain_spec r ok hc n (k + 1) (by omega)) g
open Go Go.Proofs Go.Proofs.Tryz
def attd (att : List (List Bool)) (n : Nat) (cur : List Nat) (j i : Nat) : Bool := (List.range j).any fun k => !decide (k ∈ cur) && nth (nth att k) i
def passO (att : List (List Bool)) (n : Nat) (ord : List Nat) : Nat → List Nat
  | 0 => ord
  | i + 1 => if i ∉ passO att n ord i ∧ attd att n (passO att n ord i) n i = false then passO att n ord i ++ [i] else passO att n ord i
def ordN (att : List (List Bool)) (n : Nat) : Nat → List Nat
  | 0 => []
  | k + 1 => passO att n (ordN att n k) n
structure OrdI (att : List (List Bool)) (n : Nat) (ord : List Nat) : Prop where
  nd : ord.Nodup
  lt : ∀ i ∈ ord, i < n
  top : ∀ pre i post, ord = pre ++ i :: post → ∀ k, k < n → k ∉ pre → nth (nth att k) i = false
theorem OrdI.len {att : List (List Bool)} {n : Nat} {ord : List Nat} (h : OrdI att n ord) : ord.length ≤ n := nodup_le h.nd h.lt
theorem OrdI.nil (att : List (List Bool)) (n : Nat) : OrdI att n [] := ⟨by simp, by simp, fun pre i post e => by simp at e⟩
theorem attd_false {att : List (List Bool)} {n : Nat} {cur : List Nat} {j i : Nat} (h : attd att n cur j i = false) : ∀ k, k < j → k ∉ cur → nth (nth att k) i = false := fun k hk hc => by
  unfold attd at h
  rw [List.any_eq_false] at h
  have := h k (List.mem_range.2 hk)
  simpa [hc] using this
theorem passO_inv {att : List (List Bool)} {n : Nat} {ord : List Nat} (h : OrdI att n ord) : ∀ i, i ≤ n → OrdI att n (passO att n ord i) ∧ ∃ ext, passO att n ord i = ord ++ ext
  | 0, _ => ⟨h, [], by simp [passO]⟩
  | i + 1, hi => by
    obtain ⟨o, ext, e⟩ := passO_inv h i (by omega)
    simp only [passO]
    split
    · rename_i hc
      refine ⟨⟨?_, fun j hj => ?_, fun pre j post e2 k hk hkp => ?_⟩, ext ++ [i], by rw [e, List.append_assoc]⟩
      · rw [List.nodup_append]
        exact ⟨o.nd, by simp, fun a ha b hb => by simp at hb; subst hb; exact fun q => hc.1 (q ▸ ha)⟩
      · rcases List.mem_append.1 hj with hj | hj
        · exact o.lt j hj
        · simp at hj; omega
      · rcases List.eq_nil_or_concat post with rfl | ⟨post', z, rfl⟩
        · have := List.append_inj' e2 rfl
          obtain ⟨h1, h2⟩ := this
          injection h2 with h2
          subst h1; subst h2
          exact attd_false hc.2 k hk hkp
        · have e3 : passO att n ord i ++ [i] = (pre ++ j :: post') ++ [z] := by rw [e2]; simp
          have := List.append_inj' e3 rfl
          exact o.top pre j post' this.1 k hk hkp
    · exact ⟨o, ext, e⟩
theorem passO_mono {att : List (List Bool)} {n : Nat} {ord : List Nat} {i j : Nat} (hij : i ≤ j) : ∀ x, x ∈ passO att n ord i → x ∈ passO att n ord j := by
  induction hij with
  | refl => exact fun x h => h
  | @step j hij ih =>
    intro x hx
    simp only [passO]
    split
    · exact List.mem_append_left _ (ih x hx)
    · exact ih x hx
theorem ordN_inv (att : List (List Bool)) (n : Nat) : ∀ k, OrdI att n (ordN att n k)
  | 0 => OrdI.nil att n
  | k + 1 => (passO_inv (ordN_inv att n k) n (Nat.le_refl _)).1
theorem idx_take {x : Nat} : ∀ {l : List Nat} {n : Nat}, x ∈ l.take n → l.idxOf x < n
  | [], n, h => by simp at h
  | a :: l, 0, h => by simp at h
  | a :: l, n + 1, h => by
    rw [List.idxOf_cons]
    by_cases e : a = x
    · simp [e]
    · simp only [List.take_succ_cons, List.mem_cons] at h
      have := idx_take (h.resolve_left (fun q => e q.symm))
      have e' : (a == x) = false := by simpa using e
      rw [e']; simp only [cond_false]; omega
theorem idx_split {x : Nat} : ∀ {l : List Nat}, x ∈ l → ∃ post, l = l.take (l.idxOf x) ++ x :: post
  | [], h => by simp at h
  | a :: l, h => by
    rw [List.idxOf_cons]
    by_cases e : a = x
    · subst e; exact ⟨l, by simp⟩
    · obtain ⟨post, hp⟩ := idx_split ((List.mem_cons.1 h).resolve_left (fun q => e q.symm))
      refine ⟨post, ?_⟩
      have : (a == x) = false := by simpa using e
      rw [this]
      simp only [cond_false, List.take_succ_cons, List.cons_append]
      rw [← hp]
theorem enum_mem {α : Type} [Inhabited α] {x : α} {g : Nat} : ∀ {l : List α} {i : Nat}, (g, x) ∈ enumL l i ↔ i ≤ g ∧ g < i + l.length ∧ nth l (g - i) = x
  | [], i => by simp [enumL]; omega
  | a :: l, i => by
    simp only [enumL, List.mem_cons, Prod.mk.injEq, List.length_cons]
    rw [enum_mem (l := l)]
    constructor
    · rintro (⟨rfl, rfl⟩ | ⟨h1, h2, h3⟩)
      · exact ⟨by omega, by omega, by rw [Nat.sub_self]; rfl⟩
      · refine ⟨by omega, by omega, ?_⟩
        rw [show g - i = (g - (i + 1)) + 1 by omega]; exact h3
    · rintro ⟨h1, h2, h3⟩
      by_cases e : g = i
      · subst e; rw [Nat.sub_self] at h3; exact .inl ⟨rfl, h3.symm⟩
      · right
        refine ⟨by omega, by omega, ?_⟩
        rw [show g - i = (g - (i + 1)) + 1 by omega] at h3; exact h3
theorem ed_iff {l : List (List Bool)} {f g : Nat} : ed l f g ↔ g < (nth l f).length ∧ nth (nth l f) g = true := by
  unfold ed
  rw [enum_mem]
  simp
/-- No cycle: an order. -/
theorem first_topo {q : GConj} (h : firstM q = true) : ∃ fin, Topo (attL q) fin ∧ ∀ f, f < q.Atoms.length → f ∈ fin := by
  unfold firstM at h
  have h : (cycAll (attL q) (q.Atoms.length + 1) (List.range q.Atoms.length) (List.replicate q.Atoms.length 0)).1 = false := by simpa using h
  have hn : ∀ v, nth (List.replicate q.Atoms.length (0 : Int)) v = 0 := by
    intro v
    by_cases hv : v < q.Atoms.length
    · rw [nth_get (by simpa using hv)]; simp
    · have : ∀ (n v : Nat), n ≤ v → nth (List.replicate n (0 : Int)) v = 0 := by
        intro n
        induction n with
        | zero => intro v _; cases v <;> rfl
        | succ n ih => intro v hv; obtain ⟨w, rfl⟩ : ∃ w, v = w + 1 := ⟨v - 1, by omega⟩; exact ih w (by omega)
      exact this _ _ (by omega)
  have F : Fits (attL q) (List.replicate q.Atoms.length (0 : Int)) [] := ⟨fun v => by rw [hn]; simp, fun pre v post e => by simp at e, fun v => .inl (hn v)⟩
  have hr : ∀ v g, ed (attL q) v g → g < (List.replicate q.Atoms.length (0 : Int)).length := by
    intro v g hv
    have := ed_iff.1 hv
    rw [List.length_replicate]
    by_cases hvn : v < q.Atoms.length
    · rw [attL_nth q hvn, attB_len] at this; exact this.1
    · exfalso
      have h0 : ∀ (l : List (List Bool)) (v : Nat), l.length ≤ v → nth l v = [] := by
        intro l
        induction l with
        | nil => intro v _; cases v <;> rfl
        | cons a l ih => intro v hv; obtain ⟨w, rfl⟩ : ∃ w, v = w + 1 := ⟨v - 1, by simp at hv; omega⟩; exact ih w (by simpa using hv)
      rw [h0 _ v (by rw [attL_len]; omega)] at this
      simp at this
  obtain ⟨ext, t, m⟩ := cycAll_false (attL q) _ _ _ [] F (fun f hf => by rw [List.length_replicate]; exact List.mem_range.1 hf) hr h
  exact ⟨ext, by simpa using t, fun f hf => by simpa using m f (List.mem_range.2 hf)⟩
theorem pass_grow {q : GConj} (hf : firstM q = true) {ord : List Nat} (o : OrdI (attL q) q.Atoms.length ord) (hl : ord.length < q.Atoms.length) : ord.length < (passO (attL q) q.Atoms.length ord q.Atoms.length).length := by
  obtain ⟨fin, T, hall⟩ := first_topo hf
  have hex : ∃ v, v < q.Atoms.length ∧ v ∉ ord := by
    apply Classical.byContradiction
    intro hn
    have : q.Atoms.length ≤ ord.length := by
      have := nodup_len (l := List.range q.Atoms.length) (U := ord) List.nodup_range (fun x hx => Classical.byContradiction fun q => hn ⟨x, List.mem_range.1 hx, q⟩)
      simpa using this
    omega
  obtain ⟨v, ⟨hv, hvo⟩, hmin⟩ := exists_min (fun v => fin.length - fin.idxOf v) (fun v => v < q.Atoms.length ∧ v ∉ ord) hex
  have hno : ∀ k, k < q.Atoms.length → k ∉ ord → nth (nth (attL q) k) v = false := by
    intro k hk hko
    cases hkv : nth (nth (attL q) k) v with
    | false => rfl
    | true =>
      exfalso
      have hed : ed (attL q) k v := ed_iff.2 ⟨by rw [attL_nth q hk, attB_len]; exact hv, hkv⟩
      obtain ⟨post, hp⟩ := idx_split (hall k hk)
      have hvp := T _ k post hp v hed
      have h1 := idx_take hvp
      have h2 := hmin k ⟨hk, hko⟩
      have h3 := List.idxOf_lt_length_of_mem (hall k hk)
      omega
  obtain ⟨o1, ext, e⟩ := passO_inv o q.Atoms.length (Nat.le_refl _)
  have hmem : v ∈ passO (attL q) q.Atoms.length ord q.Atoms.length := by
    refine passO_mono (i := v + 1) (by omega) v ?_
    simp only [passO]
    split
    · simp
    · rename_i hc
      obtain ⟨o2, ext2, e2⟩ := passO_inv o v (by omega)
      apply Classical.byContradiction
      intro hn
      apply hc
      refine ⟨hn, ?_⟩
      unfold attd
      rw [List.any_eq_false]
      intro k hk
      have hk := List.mem_range.1 hk
      by_cases hkc : k ∈ passO (attL q) q.Atoms.length ord v
      · simp [hkc]
      · rw [hno k hk (fun q => hkc (by rw [e2]; simp [q]))]; simp
  rw [e] at hmem ⊢
  rcases List.mem_append.1 hmem with h | h
  · exact absurd h hvo
  · have := List.length_pos_of_mem h
    rw [List.length_append]; omega
theorem passO_full {att : List (List Bool)} {n : Nat} {ord : List Nat} (o : OrdI att n ord) (hl : ord.length = n) : ∀ i, i ≤ n → passO att n ord i = ord
  | 0, _ => rfl
  | i + 1, hi => by
    have ih := passO_full o hl i (by omega)
    have hmem : i ∈ ord := nodup_sub_eq o.nd (List.nodup_range (n := n)) (fun x hx => List.mem_range.2 (o.lt x hx)) (by simp [hl]) i (List.mem_range.2 (by omega))
    simp only [passO, ih]
    rw [if_neg (fun h => h.1 hmem)]
theorem ordN_full {att : List (List Bool)} {n k : Nat} (hl : (ordN att n k).length = n) : ∀ m, ordN att n (k + m) = ordN att n k
  | 0 => rfl
  | m + 1 => by
    have ih := ordN_full hl m
    show passO att n (ordN att n (k + m)) n = _
    rw [ih]; exact passO_full (ordN_inv att n k) hl n (Nat.le_refl _)
noncomputable def sortedI (q : GConj) : List Nat := ordN (attL q) q.Atoms.length q.Atoms.length
noncomputable def sortedM (q : GConj) : List GAtom := (sortedI q).map (nth q.Atoms)
theorem sorted_done {q : GConj} {k : Nat} (hk : k ≤ (ordN (attL q) q.Atoms.length k).length) (hl : ¬ (ordN (attL q) q.Atoms.length k).length < q.Atoms.length) : ordN (attL q) q.Atoms.length k = sortedI q ∧ (sortedI q).length = q.Atoms.length := by
  have h1 := (ordN_inv (attL q) q.Atoms.length k).len
  have h2 : (ordN (attL q) q.Atoms.length k).length = q.Atoms.length := by omega
  have h3 := ordN_full h2 (q.Atoms.length - k)
  rw [show k + (q.Atoms.length - k) = q.Atoms.length by omega] at h3
  exact ⟨h3.symm, by unfold sortedI; rw [h3, h2]⟩
def goneL (n : Nat) (cur : List Nat) : List Bool := (List.range n).map fun i => decide (i ∈ cur)
theorem goneL_len (n : Nat) (cur : List Nat) : (goneL n cur).length = n := by simp [goneL]
theorem goneL_nth {n i : Nat} {cur : List Nat} (h : i < n) : nth (goneL n cur) i = decide (i ∈ cur) := by
  rw [nth_get (by rw [goneL_len]; exact h)]; simp [goneL]
theorem goneL_snoc {n i : Nat} {cur : List Nat} (h : i < n) : (goneL n cur).set i true = goneL n (cur ++ [i]) := by
  apply List.ext_getElem?
  intro j
  unfold goneL
  rw [List.getElem?_set, List.getElem?_map, List.getElem?_map]
  by_cases e : i = j
  · subst e; simp [h]
  · rw [if_neg e]
    by_cases hj : j < n
    · simp [hj, Ne.symm e, fun q : j = i => e q.symm]
    · simp [hj]
theorem goneL_nil (n : Nat) : goneL n [] = List.replicate n false := by
  apply List.ext_getElem?
  intro j
  unfold goneL
  by_cases hj : j < n <;> simp [hj]
theorem attd_succ {att : List (List Bool)} {n j i : Nat} {cur : List Nat} : attd att n cur (j + 1) i = (attd att n cur j i || (!decide (j ∈ cur) && nth (nth att j) i)) := by
  unfold attd
  rw [List.range_succ, List.any_append]; simp
/-- All atoms, in an order in which none is attacked by a later one. -/
theorem sorted_ok {q : GConj} (hf : firstM q = true) : (sortedI q).length = q.Atoms.length ∧ OrdI (attL q) q.Atoms.length (sortedI q) := by
  have h : ∀ k, k ≤ (ordN (attL q) q.Atoms.length k).length ∨ (ordN (attL q) q.Atoms.length k).length = q.Atoms.length := by
    intro k
    induction k with
    | zero => exact .inl (Nat.zero_le _)
    | succ k ih =>
      have o := ordN_inv (attL q) q.Atoms.length k
      by_cases hl : (ordN (attL q) q.Atoms.length k).length < q.Atoms.length
      · have hg := pass_grow hf o hl
        left
        show k + 1 ≤ (passO _ _ (ordN (attL q) q.Atoms.length k) _).length
        omega
      · right
        have h2 : (ordN (attL q) q.Atoms.length k).length = q.Atoms.length := by have := o.len; omega
        have := ordN_full h2 1
        rw [this]; exact h2
  have o := ordN_inv (attL q) q.Atoms.length q.Atoms.length
  refine ⟨?_, o⟩
  rcases h q.Atoms.length with h1 | h1
  · have := o.len; unfold sortedI; omega
  · exact h1
set_option maxHeartbeats 4000000 in
theorem sorted_spec (q : GConj) (hq : validQ q = true) (hfm : firstM q = true) : Fun1 prog 33 [rConj.ty q] (tSl rAtom (sortedM q)) := by
 refine Spec.enter func33 rfl rfl fun h0 w0 fr0 => ?_
 have hvb := valid_bounds hq
 refine Jr (Js rfl (step_box (R := rConj) Sr) (Ja rfl (JL_nil (Jr (Jl rfl ty25 Sr ?_)))))
 refine Js rfl (step_call0 (Attacks_spec q) ⟨Sr, trivial⟩ call58) (Jm rfl (Js rfl (step_extract Sr rfl) (Js rfl (step_extract Sr rfl) (Ja rfl (Ja rfl ?_)))))
 refine JL_nil (J_seq ?_)
 refine K_subT (t := 3) (A := tSl (rSl rBool) (attL q)) (by rw [if_pos hq]; exact Sr) ?_
 refine K_lsub (LSub.nilown (e := 47) (R := rAtom)) ?_
 refine J_region (Ja rfl (JL_nil (Jr (Js rfl (step_fieldAddr so25 Sr rfl) (Jl rfl ty23 Sr ?_)))))
 refine Js rfl (step_len_sl underlying23 Sr) ?_
 refine Jx rfl (step_make (n := q.Atoms.length) underlying95 el4 Sr Sr rfl zG zG) fun v19 => ?_
 refine Ja rfl (JL_nil (J_seq (J_block ?_)))
 refine J_loopL (σ := Nat × Value) (fun ⟨kk, vo⟩ => kk ≤ (ordN (attL q) q.Atoms.length kk).length) (fun ⟨kk, vo⟩ => upd (upd (upd (upd (upd env0 1 (tPtr rConj q)) 2 (tV (.slice none 0 0))) 3 (tSl (rSl rBool) (attL q))) 5 (rV.ty vo)) 6 (rV.ty v19)) (fun ⟨kk, vo⟩ => [own 4 rBool v19 (goneL q.Atoms.length (ordN (attL q) q.Atoms.length kk)), own 47 rAtom vo ((ordN (attL q) q.Atoms.length kk).map (nth q.Atoms))]) (fun ⟨kk, vo⟩ => q.Atoms.length - (ordN (attL q) q.Atoms.length kk).length) (0, .slice none 0 0) (Nat.zero_le _) (.u (SubE.upd (Sub.rV rfl) (.u (.u (SubE.upd Sr SubE.any))))) (LSub.cons zS (own_eq (goneL_nil _).symm) (LSub.cons zS (SPs.rfl) (LSub.nil))) ?_
 rintro ⟨kk, vo⟩ hi
 try dsimp only at hi
 refine J_seq (Jr (Jm rfl ?_))
 refine Js rfl (step_len_own underlying23 Sr zS) ?_
 refine Js rfl (step_fieldAddr so25 Sr rfl) (Jl rfl ty23 Sr (Js rfl (step_len_sl underlying23 Sr) (Js rfl (step_lss Sr Sr) (JL_nil ?_))))
 refine J_cond Sr (fun h25 => ?_) (fun h25 => ?_)
 ·
  try simp only [NF] at h25
  have hlt0 : (ordN (attL q) q.Atoms.length kk).length < q.Atoms.length := by simpa using h25
  refine J_skip (J_block (Jr (Js rfl (step_fieldAddr so25 Sr rfl) (Jl rfl ty23 Sr (Js rfl (step_len_sl underlying23 Sr) ?_)))))
  refine Jm rfl (JL_nil (J_block ?_))
  refine J_loopL (σ := Nat × Value) (fun ⟨i, vo2⟩ => i ≤ q.Atoms.length) (fun ⟨i, vo2⟩ => upd (upd (upd (upd (upd (upd (upd (upd (upd (upd env0 1 (tPtr rConj q)) 2 (tV (.slice none 0 0))) 3 (tSl (rSl rBool) (attL q))) 5 (rV.ty vo2)) 6 (rV.ty v19)) 20 (rV.ty vo)) 23 (tSl rAtom q.Atoms)) 27 (tSl rAtom q.Atoms)) 28 (tV (.int .i64 q.Atoms.length))) 29 (tV (.int .i64 i))) (fun ⟨i, vo2⟩ => [own 4 rBool v19 (goneL q.Atoms.length (passO (attL q) q.Atoms.length (ordN (attL q) q.Atoms.length kk) i)), own 47 rAtom vo2 ((passO (attL q) q.Atoms.length (ordN (attL q) q.Atoms.length kk) i).map (nth q.Atoms))]) (fun ⟨i, vo2⟩ => q.Atoms.length - i) (0, vo) (Nat.zero_le _) (.u (.u (.u (.u (.u (.u (.u (.u (.u (SubE.upd Sr SubE.any)))))))))) (LSub.cons zS (SPs.rfl) (LSub.cons zS (SPs.rfl) (LSub.nil))) ?_
  rintro ⟨i, vo2⟩ hi
  try dsimp only at hi
  refine Jr (Js rfl (step_lss Sr Sr) (JL_nil (J_seq ?_)))
  refine J_cond Sr (fun h30 => ?_) (fun h30 => ?_)
  ·
   try simp only [NF] at h30
   have hlt : i < q.Atoms.length := by omega
   obtain ⟨oc, ec, hec⟩ := passO_inv (ordN_inv (attL q) q.Atoms.length kk) i zG
   have hocl := oc.len
   refine J_skip (J_seq (J_block (Jr (Jm rfl ?_))))
   refine Js rfl (step_indexAddr_sl  underlying23 ty47 Sr Sr rfl (gb (by exact hlt))) ?_
   refine Jl rfl ty47 Sr ?_
   refine Jx rfl (step_alloc (fun w => zeroValue47 w) zr47) fun v8 => ?_
   refine Ja rfl ?_
   refine Ju (step_store_box ty47 Sr Sr zS) fun _ => ?_
   refine JL_freeze (t := 8) (Sel.take (Sel.none _)) Frz.box ?_
   refine JL_nil (Jr (Ja rfl (JL_nil (J_seq (Jr ?_)))))
   refine Js rfl (step_fieldAddr so25 Sr rfl) (Jl rfl ty23 Sr (Js rfl (step_len_sl underlying23 Sr) (Jm rfl (JL_nil (J_block ?_)))))
   refine J_loopL (σ := Nat) (fun j => j ≤ q.Atoms.length) (fun j => upd (upd (upd (upd (upd (upd (upd (upd (upd (upd (upd (upd (upd (upd (upd (upd (upd (upd env0 1 (tPtr rConj q)) 2 (tV (.slice none 0 0))) 3 (tSl (rSl rBool) (attL q))) 5 (rV.ty vo2)) 6 (rV.ty v19)) 7 (tV (.int .i64 i))) 8 (tPtr rAtom (nth q.Atoms i))) 9 (tV (.bool (attd (attL q) q.Atoms.length (passO (attL q) q.Atoms.length (ordN (attL q) q.Atoms.length kk) i) j i)))) 20 (rV.ty vo)) 23 (tSl rAtom q.Atoms)) 27 (tSl rAtom q.Atoms)) 28 (tV (.int .i64 q.Atoms.length))) 29 (tV (.int .i64 i))) 31 (tV (.int .i64 i))) 33 (rAtom.ty (nth q.Atoms i))) 35 (tSl rAtom q.Atoms)) 36 (tV (.int .i64 q.Atoms.length))) 37 (tV (.int .i64 j))) (fun j => [own 4 rBool v19 (goneL q.Atoms.length (passO (attL q) q.Atoms.length (ordN (attL q) q.Atoms.length kk) i)), own 47 rAtom vo2 ((passO (attL q) q.Atoms.length (ordN (attL q) q.Atoms.length kk) i).map (nth q.Atoms))]) (fun j => q.Atoms.length - j) 0 (Nat.zero_le _) (.u (.u (.u (.u (.u (.u (.u (.u (.u (.u (.u (.u (.u (.u (.u (.u (.u (SubE.upd Sr SubE.any)))))))))))))))))) (LSub.cons zS (SPs.rfl) (LSub.cons zS (SPs.rfl) (LSub.nil))) ?_
   rintro j hi
   refine Jr (Js rfl (step_lss Sr Sr) (JL_nil (J_seq ?_)))
   refine J_cond Sr (fun h38 => ?_) (fun h38 => ?_)
   ·
    try simp only [NF] at h38
    have hjt : j < q.Atoms.length := by omega
    refine J_skip (J_seq (J_block (Jr (Jm rfl (Ja rfl ?_)))))
    refine JL_nil (J_region (Jm rfl (Jm rfl (Jg rfl Sr rfl (fun hw => step_move Sr) (Jg rfl Sr rfl (fun hw => step_move Sr) ?_)))))
    refine Jg rfl Sr rfl (fun hw => step_indexAddr_own (i := j) underlying95 ty4 (Sub.w hw) zS (Sub.w hw) (by rfl) (by have hwq := hw; (try simp only [beqB_t, beqB_f, NF] at hwq); rw [goneL_len]; exact hjt)) ?_
    refine Jg rfl Sr rfl (fun hw => step_load_own ty4 (Sub.w hw) zS (gb (by have hwq := hw; (try simp only [beqB_t, beqB_f, NF] at hwq); rw [goneL_len]; exact hjt))) ?_
    refine Jg rfl Sr rfl (fun hw => step_not (Sub.w hw)) (Jg rfl Sr rfl (fun hw => step_move (Sub.w hw)) (Jh rfl Sr rfl (fun hw => step_move Sr) (Jh rfl Sr rfl (fun hw => step_move Sr) ?_)))
    refine Jh rfl Sr rfl (fun hw => step_indexAddr_sl (i := j) underlying92 ty95 (Sub.w hw) (Sub.w hw) (by rfl) (gb (by have hwq := hw; (try simp only [beqB_t, beqB_f, NF] at hwq); rw [attL_len]; exact hjt))) ?_
    refine Jh rfl Sr rfl (fun hw => step_load_ptr ty95 (Sub.w hw)) (Jh rfl Sr rfl (fun hw => step_move Sr) ?_)
    refine Jh rfl Sr rfl (fun hw => step_indexAddr_sl (i := i) underlying95 ty4 (Sub.w hw) (Sub.w hw) (by rfl) (gb (by have hwq := hw; (try simp only [beqB_t, beqB_f, NF] at hwq); rw [attL_nth q hjt, attB_len]; exact hlt))) ?_
    refine Jh rfl Sr rfl (fun hw => step_load_ptr ty4 (Sub.w hw)) (Jg rfl Sr rfl (fun hw => step_pick_and (Sub.w hw) (Sub.ww hw)) (Js rfl (step_pick_or Sr Sr) (Ja rfl (JL_nil (J_region ?_)))))
    refine Js rfl (step_add Sr Sr z6) (Jm rfl (JL_nil ?_))
    refine K_againL (σ := Nat) (s := j) (j + 1) zO hjt (.u (.u (.u (.u (.u (.u (.u (.u (.u (.u (SubE.upd (Sub.bool (by rw [attd_succ, goneL_nth hjt])) (.u (.u (.u (.u (.u (.u (SubE.upd Sr SubE.any)))))))))))))))))) (LSub.cons zS (SPs.rfl) (LSub.cons zS (SPs.rfl) (LSub.nil)))
   try simp only [NF] at h38
   have hje : j = q.Atoms.length := by omega
   refine J_exit (Jr (Jm rfl (Jm rfl ?_)))
   refine Js rfl (step_indexAddr_own (i := i) underlying95 ty4 Sr zS Sr (by rfl) (by rw [goneL_len]; exact hlt)) ?_
   refine Js rfl (step_load_own ty4 Sr zS (gb (by rw [goneL_len]; exact hlt))) ?_
   refine Js rfl (step_not Sr) (Jm rfl (Jg rfl Sr rfl (fun hw => step_move Sr) (Jg rfl Sr rfl (fun hw => step_not (Sub.w hw)) (Js rfl (step_pick_and Sr Sr) (JL_nil ?_)))))
   refine J_cond Sr (fun h66 => ?_) (fun h66 => ?_)
   ·
    try simp only [NF] at h66
    refine Jr (Jm rfl (Jm rfl ?_))
    refine Js rfl (step_indexAddr_own (i := i) underlying95 ty4 Sr zS Sr (by rfl) (by rw [goneL_len]; exact hlt)) ?_
    refine Ju (step_store_own ty4 Sr Sr zS (by rw [goneL_len]; exact hlt)) fun _ => ?_
    refine JL_nil (J_region (Jm rfl (Jl rfl ty47 Sr ?_)))
    refine Js rfl (step_literal (ys := [_]) underlying23 el47 ⟨rfl, Sr, trivial⟩ rfl (by decide)) ?_
    refine Jx rfl (step_append underlying23 el47 Sr Sr zS (by simp; omega) (by simp; omega)) fun v73 => ?_
    refine Ja rfl (JL_nil (J_region (Js rfl (step_add Sr Sr z6) (Jm rfl (JL_nil ?_)))))
    refine K_againL (σ := Nat × Value) (s := (i, vo2)) (i + 1, v73) zO hlt (.u (.u (.u (.u (.u (.u (.u (.u (.u (SubE.upd Sr SubE.any)))))))))) (LSub.cons zS (own_eq (by rw [goneL_snoc hlt]; simp only [passO]; rw [if_pos (by rw [goneL_nth hlt] at h66; simpa [hje] using h66)])) (LSub.cons zS (own_eq (by simp only [passO]; rw [if_pos (by rw [goneL_nth hlt] at h66; simpa [hje] using h66)]; simp)) (LSub.nil)))
   try simp only [NF] at h66
   refine J_skip (J_region (Js rfl (step_add Sr Sr z6) (Jm rfl (JL_nil ?_))))
   refine K_againL (σ := Nat × Value) (s := (i, vo2)) (i + 1, vo2) zO hlt (.u (.u (.u (.u (.u (.u (.u (.u (.u (SubE.upd Sr SubE.any)))))))))) (LSub.cons zS (own_eq (by simp only [passO]; rw [if_neg (by rw [goneL_nth hlt] at h66; intro hh; rw [← hje] at hh; rcases h66 with h | h <;> simp_all)])) (LSub.cons zS (own_eq (by simp only [passO]; rw [if_neg (by rw [goneL_nth hlt] at h66; intro hh; rw [← hje] at hh; rcases h66 with h | h <;> simp_all)])) (LSub.nil)))
  try simp only [NF] at h30
  refine J_exit ?_
  have hg := pass_grow hfm (ordN_inv (attL q) q.Atoms.length kk) hlt0
  have hie : i = q.Atoms.length := by omega
  subst hie
  refine K_againL (σ := Nat × Value) (s := (kk, vo)) (kk + 1, vo2) (by show q.Atoms.length - (passO (attL q) q.Atoms.length (ordN (attL q) q.Atoms.length kk) q.Atoms.length).length < q.Atoms.length - (ordN (attL q) q.Atoms.length kk).length; omega) (by show kk + 1 ≤ (passO _ _ _ _).length; omega) (.u (.u (.u (.u (SubE.upd Sr SubE.any))))) (LSub.cons zS (SPs.rfl) (LSub.cons zS (SPs.rfl) (LSub.nil)))
 try simp only [NF] at h25
 refine J_exit (Jr (Jm rfl (Ja rfl (JL_nil (J_ret ?_)))))
 obtain ⟨hso, hsl⟩ := sorted_done hi (by simpa using h25)
 refine K_lsub (L' := [own 47 rAtom vo ((ordN (attL q) q.Atoms.length kk).map (nth q.Atoms)), own 4 rBool v19 (goneL q.Atoms.length (ordN (attL q) q.Atoms.length kk))]) (LSub.cons zS (SPs.rfl) (LSub.cons zS (SPs.rfl) (LSub.nil))) ?_
 refine K_ret1' (rv := .tmp 2) rfl () (Sel.all _) (.tmp Sr) (Frz.own' (by rw [hso]; rfl))
open Go Go.Proofs Go.Proofs.Tryz
theorem mem_mputG {κ β : Type} [DecidableEq κ] {m : List (κ × β)} {t : κ} {b : β} {x : κ × β} (h : x ∈ mput m t b) : x = (t, b) ∨ x ∈ m := by
  induction m with
  | nil => simp [mput] at h; exact .inl h
  | cons a m ih =>
    obtain ⟨k, y⟩ := a
    simp only [mput] at h
    split at h
    · rcases List.mem_cons.1 h with h | h
      · exact .inl h
      · exact .inr (by simp [h])
    · rcases List.mem_cons.1 h with h | h
      · exact .inr (by simp [h])
      · exact (ih h).imp id (fun h => by simp [h])
abbrev GRw2 := GConj × List GAtom × Value
abbrev fsRw2 : List (SF GRw2) := [⟨GConj, 25, rConj, fun x => x.1⟩, ⟨List GAtom, 23, rSl rAtom, fun x => x.2.1⟩, ⟨Value, 66, rV, fun x => x.2.2⟩]
theorem ty68W : TyOf prog 68 (rStruct fsRw2) := ⟨fun w => isAgg68 w, fun w => sizeOf68 w⟩
theorem so68W : StructOf prog 68 fsRw2 := ⟨⟨_, underlying68, ⟨rfl, rfl, ty25, by decide, ⟨rfl, rfl, ty23, by decide, ⟨rfl, rfl, ty66V, by decide, trivial⟩⟩⟩⟩, ty68W⟩
theorem atomsM_isSome {l : List GAtom} : ∀ {m : List (Int × GAtom)} {a : GAtom}, a ∈ l ∨ (mget m a.Table).isSome = true → (mget (l.foldl (fun m a => mput m a.Table a) m) a.Table).isSome = true := by
  induction l with
  | nil => intro m a h; simpa using h
  | cons b l ih =>
    intro m a h
    rcases h with h | h
    · rcases List.mem_cons.1 h with rfl | h
      · exact ih (.inr (by rw [mget_mput, if_pos rfl]; rfl))
      · exact ih (.inl h)
    · refine ih (.inr ?_)
      rw [mget_mput]
      split
      · rfl
      · exact h
theorem valid_dist {q : GConj} (hq : validQ q = true) {i j : Nat} (hij : i < j) (hj : j < q.Atoms.length) : (nth q.Atoms i).Table ≠ (nth q.Atoms j).Table := by
  unfold validQ at hq
  rw [Bool.and_eq_true] at hq
  have h1 := rall_iff.1 hq.2 j hj
  unfold okA at h1
  simp only [Bool.and_eq_true, Bool.not_eq_true', List.any_eq_false, decide_eq_true_eq] at h1
  have h2 := h1.1.1.2 (nth q.Atoms i) (by
    rw [nth_get (by omega)]
    exact List.mem_of_getElem? (i := i) (by rw [List.getElem?_take, if_pos hij, List.getElem?_eq_getElem (by omega)]))
  exact h2
theorem valid_inj {q : GConj} (hq : validQ q = true) {i j : Nat} (hi : i < q.Atoms.length) (hj : j < q.Atoms.length) (e : (nth q.Atoms i).Table = (nth q.Atoms j).Table) : i = j := by
  rcases Nat.lt_trichotomy i j with h | h | h
  · exact absurd e (valid_dist hq h hj)
  · exact h
  · exact absurd e.symm (valid_dist hq h hi)
theorem atomAt_self {q : GConj} (hq : validQ q = true) {i : Nat} (hi : i < q.Atoms.length) : atomAt q (nth q.Atoms i).Table = nth q.Atoms i := by
  have h1 := atomsM_isSome (l := q.Atoms) (m := []) (.inl (nth_mem hi))
  obtain ⟨a, ha⟩ := Option.isSome_iff_exists.1 h1
  have h2 : atomAt q (nth q.Atoms i).Table = a := by unfold atomAt atomsM; rw [ha]; rfl
  rw [h2]
  rcases atomsM_get ha with ⟨h3, h4⟩ | h3
  · obtain ⟨j, hj, rfl⟩ := List.getElem_of_mem h3
    rw [← nth_get hj] at h4 ⊢
    rw [valid_inj hq hj hi h4]
  · simp [mget] at h3
theorem fit_valid {q : GConj} {facts : List GFact} (h : fitM q facts = true) : validQ q = true := by unfold fitM at h; rw [Bool.and_eq_true] at h; exact h.1
theorem fit_fact {q : GConj} {facts : List GFact} (h : fitM q facts = true) {f : GFact} (hf : f ∈ facts) {i : Nat} (hi : i < q.Atoms.length) (ht : f.Table = (nth q.Atoms i).Table) : FitF (nth q.Atoms i) f := by
  have hq := fit_valid h
  unfold fitM at h
  rw [Bool.and_eq_true] at h
  obtain ⟨j, hj, rfl⟩ := List.getElem_of_mem hf
  have h1 := rall_iff.1 h.2 j hj
  rw [← nth_get hj] at ht ⊢
  unfold fitF at h1
  rw [ht, atomAt_self hq hi] at h1
  intro k hk
  have h2 := rall_iff.1 h1 k hk
  simp only [Bool.and_eq_true, decide_eq_true_eq] at h2
  have h3 := (valid_cols hq (nth_mem hi)).2.2.2.2 k hk
  exact ⟨h3.1, h2.1, h2.2⟩
theorem atom_ok {q : GConj} (hq : validQ q = true) {i : Nat} (hi : i < q.Atoms.length) : AtomOk q (nth q.Atoms i) :=
  have h := valid_cols hq (nth_mem hi)
  ⟨h.1, h.2.1, fun k hk => (h.2.2.2.2 k hk).2.2⟩
theorem blk_mem (a : GAtom) (l : List GFact) : ∀ b ∈ blkM a l, ∀ f ∈ b.2, f ∈ l ∧ f.Table = a.Table := by
  have bm : ∀ {m : List (ByteArray × List GFact)} {k : ByteArray} {f : GFact} {b}, b ∈ bput m k f → ∀ g ∈ b.2, g = f ∨ ∃ b' ∈ m, g ∈ b'.2 := by
    intro m k f b hb g hg
    unfold bput at hb
    rcases mem_mputG hb with h | h
    · subst h
      rcases List.mem_append.1 hg with hg | hg
      · right
        cases hm : mget m k with
        | none => rw [hm] at hg; simp at hg
        | some xs =>
          rw [hm] at hg
          have : ∀ (m : List (ByteArray × List GFact)), mget m k = some xs → (k, xs) ∈ m := by
            intro m
            induction m with
            | nil => intro h; simp [mget] at h
            | cons t m ih =>
              intro h
              obtain ⟨a, ys⟩ := t
              simp only [mget] at h
              split at h
              · rename_i e; subst e; injection h with h; subst h; simp
              · simp [ih h]
          exact ⟨_, this m hm, hg⟩
      · left; simpa using hg
    · exact .inr ⟨b, h, hg⟩
  have key : ∀ (l : List GFact) (m : List (ByteArray × List GFact)), ∀ b ∈ l.foldl (fun m f => if f.Table = a.Table then bput m (keyB a f a.Key.toNat) f else m) m, ∀ g ∈ b.2, (g ∈ l ∧ g.Table = a.Table) ∨ ∃ b' ∈ m, g ∈ b'.2 := by
    intro l
    induction l with
    | nil => intro m b hb g hg; exact .inr ⟨b, hb, hg⟩
    | cons f l ih =>
      intro m b hb g hg
      rcases ih _ b hb g hg with h | ⟨b', hb', hg'⟩
      · exact .inl ⟨by simp [h.1], h.2⟩
      · have hb' : b' ∈ (if f.Table = a.Table then bput m (keyB a f a.Key.toNat) f else m) := hb'
        split at hb'
        · rename_i e
          rcases bm hb' g hg' with rfl | h
          · exact .inl ⟨by simp, e⟩
          · exact .inr h
        · exact .inr ⟨b', hb', hg'⟩
  intro b hb f hf
  rcases key l [] b hb f hf with h | ⟨b', hb', _⟩
  · exact h
  · cases hb'
theorem blk_len (a : GAtom) (l : List GFact) : ∀ b ∈ blkM a l, b.2.length ≤ l.length := by
  intro b hb
  have h := sumL_blk a l
  have : ∀ (m : List (ByteArray × List GFact)), b ∈ m → b.2.length ≤ sumL m := by
    intro m
    induction m with
    | nil => intro h; cases h
    | cons t m ih =>
      intro h
      unfold sumL
      simp only [List.map_cons, List.sum_cons]
      rcases List.mem_cons.1 h with rfl | h
      · omega
      · have := ih h; unfold sumL at this; omega
  have := this _ hb
  omega
noncomputable def rwM (q : GConj) (facts : List GFact) : Grewriting := ⟨q, sortedM q, (sortedM q).map fun a => some (blkM a facts)⟩
theorem sorted_nth {q : GConj} (hf : firstM q = true) {i : Nat} (hi : i < (sortedM q).length) : ∃ j, j < q.Atoms.length ∧ nth (sortedM q) i = nth q.Atoms j := by
  have hi' : i < (sortedI q).length := by simpa [sortedM] using hi
  refine ⟨nth (sortedI q) i, (sorted_ok hf).2.lt _ (nth_mem hi'), ?_⟩
  rw [nth_get hi, nth_get hi']; simp [sortedM]
theorem rwM_ok {q : GConj} {facts : List GFact} (h : fitM q facts = true) (hf : firstM q = true) (hl : facts.length ≤ 1000000) : RwOk (rwM q facts) where
  at_ := fun i hi => by
    obtain ⟨j, hj, e⟩ := sorted_nth hf hi
    show AtomOk q (nth (sortedM q) i)
    rw [e]; exact atom_ok (fit_valid h) hj
  bl := by simp [rwM]
  some_ := fun i hi => by
    obtain ⟨j, hj, e⟩ := sorted_nth hf hi
    refine ⟨blkM (nth (sortedM q) i) facts, ?_, fun b hb => ⟨Nat.le_trans (blk_len _ _ b hb) hl, fun f hfm => ?_⟩⟩
    · show nth ((sortedM q).map fun a => some (blkM a facts)) i = _
      have hi2 : i < (sortedM q).length := hi
      rw [nth_get (by rw [List.length_map]; exact hi2), List.getElem_map, nth_get hi2]
    · have := blk_mem _ _ b hb f hfm
      show FitF (nth (sortedM q) i) f
      rw [e] at this ⊢
      exact fit_fact h this.1 hj this.2
  ln := by
    have h1 := (sorted_ok hf).1
    have h2 := valid_bounds (fit_valid h)
    show (sortedM q).length ≤ 20
    unfold sortedM
    rw [List.length_map]; omega
theorem sorted_blk {q : GConj} {facts : List GFact} (h : fitM q facts = true) (hf : firstM q = true) : ∀ i, i < (sortedM q).length → (1 ≤ (nth (sortedM q) i).Key ∧ (nth (sortedM q) i).Key ≤ (nth (sortedM q) i).Cols.length) ∧ (nth (sortedM q) i).Cols.length ≤ 12 ∧ ∀ f ∈ facts, f.Table = (nth (sortedM q) i).Table → FitF (nth (sortedM q) i) f := by
  intro i hi
  obtain ⟨j, hj, e⟩ := sorted_nth hf hi
  rw [e]
  have hv := valid_cols (fit_valid h) (nth_mem hj)
  exact ⟨⟨hv.2.2.1, hv.2.2.2.1⟩, hv.1, fun f hfm ht => fit_fact h hfm hj ht⟩
noncomputable def certB (q : GConj) (facts : List GFact) : Bool := fitM q facts && firstM q && certM (rwM q facts) 0 []
noncomputable def certE (q : GConj) (facts : List GFact) : Int := if fitM q facts = true then (if firstM q = true then 0 else 11) else 1
/-! Holds -/
def candF (q : GConj) (facts : List GFact) (set : List Int) (i : Nat) : List GFact := set.filterMap fun (j : Int) => if 0 ≤ j ∧ j < facts.length ∧ (nth facts j.toNat).Table = (nth q.Atoms i).Table then some (nth facts j.toNat) else none
def holdB (q : GConj) (facts : List GFact) (set : List Int) (k : Nat) (g : List (Bnd GValue)) : Bool := holdL (eqT q) ((List.range' k (q.Atoms.length - k)).map fun i => (candF q facts set i).map (bnd (nth q.Atoms i))) g
def stepH (q : GConj) (facts : List GFact) (set : List Int) (k : Nat) (g : List (Bnd GValue)) (j : Int) : Bool :=
  if 0 ≤ j ∧ j < facts.length ∧ (nth facts j.toNat).Table = (nth q.Atoms k).Table then (match matchM q (nth q.Atoms k) (nth facts j.toNat) g with | none => false | some g' => holdB q facts set (k + 1) g') else false
theorem holdB_end {q : GConj} {facts : List GFact} {set : List Int} {k : Nat} (h : k = q.Atoms.length) (g : List (Bnd GValue)) : holdB q facts set k g = true := by
  subst h; unfold holdB; rw [Nat.sub_self]; rfl
theorem holdB_step {q : GConj} {facts : List GFact} {set : List Int} {k : Nat} (h : k < q.Atoms.length) (g : List (Bnd GValue)) : holdB q facts set k g = set.any (stepH q facts set k g) := by
  unfold holdB
  rw [show q.Atoms.length - k = (q.Atoms.length - (k + 1)) + 1 by omega, List.range'_succ, List.map_cons]
  simp only [holdL, List.any_map]
  have e0 : candF q facts set k = set.filterMap fun (j : Int) => if 0 ≤ j ∧ j < facts.length ∧ (nth facts j.toNat).Table = (nth q.Atoms k).Table then some (nth facts j.toNat) else none := rfl
  rw [e0]
  have key : ∀ (F : List (Bnd GValue) → Bool) (l : List Int), (∀ j : Int, 0 ≤ j ∧ j < facts.length ∧ (nth facts j.toNat).Table = (nth q.Atoms k).Table → F (bnd (nth q.Atoms k) (nth facts j.toNat)) = stepH q facts set k g j) → (l.filterMap fun (j : Int) => if 0 ≤ j ∧ j < facts.length ∧ (nth facts j.toNat).Table = (nth q.Atoms k).Table then some (nth facts j.toNat) else none).any (F ∘ bnd (nth q.Atoms k)) = l.any (stepH q facts set k g) := by
    intro F l hF
    induction l with
    | nil => rfl
    | cons j l ih =>
      rw [List.filterMap_cons, List.any_cons, ← ih]
      by_cases hc : 0 ≤ j ∧ j < facts.length ∧ (nth facts j.toNat).Table = (nth q.Atoms k).Table
      · rw [if_pos hc]
        simp only [List.any_cons, Function.comp]
        rw [hF j hc]
      · rw [if_neg hc]
        unfold stepH
        rw [if_neg hc]; simp
  refine key _ set (fun j hc => ?_)
  unfold stepH
  rw [if_pos hc]
  simp only [holdB]
  generalize hz : runB (eqT q) g (bnd (nth q.Atoms k) (nth facts j.toNat)) = z
  have hz2 : matchM q (nth q.Atoms k) (nth facts j.toNat) g = z := hz
  rw [hz2]
  cases z <;> rfl
abbrev PutA (b : Nat) (q : GConj) (facts : List GFact) (set : List Int) : List Ty := [tPtr rConj q, tPtr (rSl rInt) set, tPtr (rSl rFact) facts, tPtr (rTyp (tPtr rrewriting ⟨q, [], []⟩) ptr_one) (), tAt b 0]
abbrev putC (b : Nat) (q : GConj) (facts : List GFact) (set : List Int) : SP := box b 71 (rTyp (tClo 47 (PutA b q facts set)) clo_one) ()
def HoldS (b : Nat) (q : GConj) (facts : List GFact) (set : List Int) (k : Nat) : Prop := ∀ g, Spec (X := Unit) prog 47 ([tV (.int .i64 k), tMapI kvI rValue g] ++ PutA b q facts set) [putC b q facts set] (fun _ => tV (.bool (holdB q facts set k g))) (fun _ => [putC b q facts set])
set_option maxHeartbeats 4000000 in
theorem Certain_spec (q : GConj) (facts : List GFact) (hl : facts.length ≤ 1000000) : Fun1 prog 14 [rConj.ty q, tSl rFact facts] (tTup [tV (.bool (certB q facts)), tV (.int .i64 (certE q facts))]) := by
 refine Spec.enter func14 rfl rfl fun h0 w0 fr0 => ?_
 refine Jr (Js rfl (step_box (R := rConj) Sr) (Ja rfl (Ja rfl (JL_nil (J_seq ?_)))))
 refine Jr (Jl rfl ty25 Sr (Jm rfl (Js rfl (step_call0 (fit_spec q facts zG) ⟨Sr, Sr, trivial⟩ call31) (Js rfl (step_not Sr) (JL_nil ?_)))))
 refine J_cond Sr (fun h14 => ?_) (fun h14 => ?_)
 ·
  try simp only [NF] at h14
  have hv : fitM q facts = false := by simpa using h14
  refine Jr (Ja rfl (Ja rfl (JL_nil (J_ret ?_))))
  refine K_ret2' (rv := .tmp 4) (rv' := .tmp 5) rfl () (Sel.all _) (.tmp Sr) (.tmp Sr) (Frz.sub ?_) (Frz.sub ?_) Sr
  ·
   refine Sub.bool ?_
   simp [certB, hv]
  refine Sub.int ?_
  simp [certE, hv]
 try simp only [NF] at h14
 have hfit : fitM q facts = true := by simpa using h14
 have hq := fit_valid hfit
 have hvb := valid_bounds hq
 refine J_skip (J_seq (Jr (Jl rfl ty25 Sr (Js rfl (step_call0 (FirstOrder_spec q) ⟨Sr, trivial⟩ call32) (Jm rfl ?_)))))
 refine Js rfl (step_extract Sr rfl) (Js rfl (step_extract Sr rfl) (Ja rfl (Ja rfl (JL_nil (Jr ?_)))))
 refine Jm rfl (Js rfl (step_neq Sr Sr) (Jm rfl (Jg rfl Sr rfl (fun hw => step_move Sr) (Jg rfl Sr rfl (fun hw => step_not (Sub.w hw)) (Js rfl (step_pick_or Sr Sr) ?_)))))
 refine JL_nil ?_
 refine J_cond Sr (fun h25 => ?_) (fun h25 => ?_)
 ·
  try simp only [NF] at h25
  have hfm : firstM q = false := by rw [errV, if_pos hq] at h25; simpa [hq] using h25
  refine Jr (Ja rfl (Ja rfl (JL_nil (J_ret ?_))))
  refine K_ret2' (rv := .tmp 4) (rv' := .tmp 5) rfl () (Sel.all _) (.tmp Sr) (.tmp Sr) (Frz.sub ?_) (Frz.sub ?_) Sr
  ·
   refine Sub.bool ?_
   simp [certB, hfm]
  refine Sub.int ?_
  simp [certE, hfit, hfm]
 try simp only [NF] at h25
 have hfm : firstM q = true := by rw [errV, if_pos hq] at h25; simpa [hq] using h25
 have hsl : (sortedM q).length ≤ 20 := (rwM_ok hfit hfm hl).ln
 have hvk := sorted_blk hfit hfm
 refine J_skip (J_seq ?_)
 refine J_draw [⟨0, [2], true⟩, ⟨1, [2], true⟩, ⟨2, [27], true⟩, ⟨3, [26, 28], true⟩, ⟨4, [29], false⟩, ⟨5, [30], true⟩] rfl (by kernel_rfl) ?_
 refine Mf rfl rfl (step_load_ptr ty25 Sr) (Mf rfl rfl (step_load_ptr ty25 Sr) (Mf rfl rfl (step_call0 (sorted_spec q hq hfm) ⟨Sr, trivial⟩ call33) (Mf rfl rfl (step_build (x := ((q, sortedM q, .slice none 0 0) : GRw2)) (zs := [[Value.int .i64 0, Value.slice none 0 0, Value.slice none 0 0], [Value.slice none 0 0], [Value.slice none 0 0]]) so68W (fun w => zeroValue68 w) ⟨Sr, Sr, trivial⟩ ⟨⟨Sr, rfl⟩, ⟨Sr, rfl⟩, fun _ => ⟨rfl, rfl⟩, trivial⟩) ?_)))
 refine JM_stepX rfl rfl rfl rfl (step_box_own (R := rStruct fsRw2) Sr) fun b30 => ?_
 refine Mf rfl rfl (step_assign Sr) (JM_nil (J_seq (J_seq ?_)))
 refine K_lsub (LSub.nilown (e := 69) (R := rOM kvS (rSl rFact))) ?_
 refine J_region (Jm rfl (Js rfl (step_nilCheck Sr) (Js rfl (step_fieldAddr_own so68W Sr rfl) ?_)))
 refine Js rfl (step_load_fld ty23 Sr rfl zS) ?_
 refine Js rfl (step_len_sl underlying23 Sr) (Jm rfl (JL_nil (J_block ?_)))
 refine J_loopL (σ := Nat × Value) (fun ⟨i, vb⟩ => i ≤ (sortedM q).length) (fun ⟨i, vb⟩ => upd (upd (upd (upd (upd (upd (upd env0 1 (tSl rFact facts)) 4 (tV (.bool false))) 5 (tV (.int .i64 0))) 8 (tAt b30 0)) 34 (tSl rAtom (sortedM q))) 35 (tV (.int .i64 (sortedM q).length))) 36 (tV (.int .i64 i))) (fun ⟨i, vb⟩ => [box b30 68 (rStruct fsRw2) (q, sortedM q, vb), own 69 (rOM kvS (rSl rFact)) vb (((sortedM q).take i).map fun a => some (blkM a facts))]) (fun ⟨i, vb⟩ => (sortedM q).length - i) (0, .slice none 0 0) (Nat.zero_le _) (.u (.u (.u (.u (.u (.u (SubE.upd Sr SubE.any))))))) (LSub.cons zS (SPs.rfl) (LSub.cons zS (own_eq (by simp)) (LSub.nil))) ?_
 rintro ⟨i, vb⟩ hi
 try dsimp only at hi
 refine Jr (Js rfl (step_lss Sr Sr) (JL_nil (J_seq ?_)))
 refine J_cond Sr (fun h37 => ?_) (fun h37 => ?_)
 ·
  try simp only [NF] at h37
  have hlt : i < (sortedM q).length := by omega
  refine J_skip (J_seq (J_block (Jr ?_)))
  refine Js rfl (step_indexAddr_sl  underlying23 ty47 Sr Sr rfl (gb (by exact hlt))) ?_
  refine Jl rfl ty47 Sr ?_
  refine Jx rfl (step_alloc (fun w => zeroValue47 w) zr47) fun v10 => ?_
  refine Ju (step_store_box ty47 Sr Sr zS) fun _ => ?_
  refine JL_freeze (t := 10) (Sel.take (Sel.none _)) Frz.box ?_
  refine JL_nil ?_
  refine J_draw [⟨0, [8], true⟩, ⟨1, [8], true⟩, ⟨2, [41], true⟩, ⟨3, [42], true⟩, ⟨5, [10], true⟩, ⟨6, [1], true⟩, ⟨7, [45, 46], true⟩, ⟨8, [47], true⟩, ⟨4, [43], false⟩, ⟨9, [44, 48], false⟩, ⟨10, [40], true⟩, ⟨11, [50], true⟩, ⟨12, [49, 51], false⟩] rfl (by kernel_rfl) ?_
  refine Mv rfl rfl (Mv rfl rfl (Mf rfl rfl (step_nilCheck Sr) (Mf rfl rfl (step_fieldAddr_own so68W Sr rfl) (Mf rfl rfl (step_load_ptr ty47 Sr) (Mv rfl rfl ?_)))))
  refine Mf rfl rfl (step_call0 (blocks_spec (nth (sortedM q) i) facts (hvk i hlt).1 (hvk i hlt).2.1 hl (hvk i hlt).2.2) ⟨Sr, Sr, trivial⟩ call34) ?_
  refine Mf rfl rfl (step_literal (R := rOM kvS (rSl rFact)) (ys := [some (blkM (nth (sortedM q) i) facts)]) underlying66 el69 ⟨rfl, Sr, trivial⟩ rfl (by decide)) ?_
  refine JM_look rfl rfl rfl rfl (step_load_fld ty66V Sr rfl zS) ?_
  refine JM_stepX rfl rfl rfl rfl (step_append underlying66 el69 Sr Sr (Sel.skip (Sel.take (Sel.none _))) (by simp; omega) (by simp; omega)) fun v49 => ?_
  refine Mf rfl rfl (step_nilCheck Sr) (Mf rfl rfl (step_fieldAddr_own so68W Sr rfl) ?_)
  refine JM_stepU rfl rfl rfl (step_store_fld (R := rV) (y := ((q, sortedM q, vb) : GRw2)) (y' := ((q, sortedM q, v49) : GRw2)) ty66V Sr Sr zS ⟨rfl, rfl, fun h cs r => r, rfl, by intro g hg; simp at hg⟩) fun _ => ?_
  refine JM_nil (J_region (Js rfl (step_add Sr Sr z6) (Jm rfl (JL_nil ?_))))
  refine K_againL (σ := Nat × Value) (s := (i, vb)) (i + 1, v49) zO hlt (.u (.u (.u (.u (.u (.u (SubE.upd Sr SubE.any))))))) (LSub.cons zS (SPs.rfl) (LSub.cons zS (own_eq (by rw [takeB hlt]; simp)) (LSub.nil)))
 try simp only [NF] at h37
 refine J_exit (J_seq ?_)
 refine K_lsub (L' := [box b30 68 (rStruct fsRw2) (q, sortedM q, vb), own 69 (rOM kvS (rSl rFact)) vb (((sortedM q).take i).map fun a => some (blkM a facts))]) (LSub.cons zS (SPs.rfl) (LSub.cons zS (SPs.rfl) (LSub.nil))) ?_
 refine K_freeze (t := 8) (A' := tPtr rrewriting (rwM q facts)) (Sel.take (Sel.take (Sel.none _))) (Frz.up (fun h h' cs le hv r => by
  obtain ⟨c0, _, rfl, r0, c1, _, rfl, r1, c2, _, rfl, r2, rz⟩ := r
  have hv' : (tSl (rOM kvS (rSl rFact)) ((sortedM q).map fun a => some (blkM a facts))).p h' vb := by rw [List.take_of_length_le zG] at hv; exact hv
  exact ⟨c0, _, rfl, rConj.mono le r0, c1, _, rfl, (rSl rAtom).mono le r1, c2, _, rfl, ⟨_, r2.1, hv'⟩, rz⟩)) ?_
 refine J_region (Jm rfl ?_)
 refine Jx rfl (step_makeMapV (kv := kvI) (R := rValue)) fun v54 => ?_
 refine JL_freeze (t := 54) (Sel.take (Sel.none _)) Frz.mapV ?_
 refine Js rfl (step_call0 (certain_spec (rwM q facts) (rwM_ok hfit hfm hl) hvb.2.2.1 (sortedM q).length 0 (by show 0 + (sortedM q).length = (sortedM q).length; omega) []) ⟨Sr, Sr, Sr, trivial⟩ call35) ?_
 refine Ja rfl (Ja rfl (JL_nil (J_ret ?_)))
 refine K_ret2' (rv := .tmp 4) (rv' := .tmp 5) rfl () (Sel.all _) (.tmp Sr) (.tmp Sr) (Frz.sub ?_) (Frz.sub ?_) Sr
 ·
  refine Sub.bool ?_
  simp [certB, hfit, hfm]
 refine Sub.int ?_
 simp [certE, hfit, hfm]
set_option maxHeartbeats 2000000 in
theorem putF_spec (b : Nat) (q : GConj) (facts : List GFact) (set : List Int) (hfit : fitM q facts = true) (hfl : facts.length ≤ 1000000000000) (k : Nat) (hk : k < q.Atoms.length) (ih : HoldS b q facts set (k + 1)) (g : List (Bnd GValue)) (j : Int) : Spec (X := Unit) prog 48 [tV (.int .i64 j), tPtr (rSl rFact) facts, tPtr rConj q, tPtr rInt (k : Int), tPtr (rTyp (tPtr rrewriting ⟨q, [], []⟩) ptr_one) (), tPtr (rOM kvI rValue) (some g), tAt b 0] ([putC b q facts set]) (fun _ => tV (.bool (stepH q facts set k g j))) (fun _ => [putC b q facts set]) := by
 refine Spec.enter func48 rfl rfl fun h0 w0 fr0 => ?_
 have hq := fit_valid hfit
 have hvb := valid_bounds hq
 refine Jr (Ja rfl (JL_nil (J_seq (J_seq ?_))))
 refine J_draw [⟨0, [0], true⟩, ⟨1, [11], true⟩, ⟨2, [12], true⟩, ⟨3, [0, 13], true⟩, ⟨4, [1, 13], true⟩, ⟨5, [13, 15], true⟩, ⟨6, [13, 14, 16], true⟩, ⟨7, [13, 17], true⟩, ⟨8, [18], true⟩, ⟨9, [1, 19], true⟩, ⟨10, [0, 19], true⟩, ⟨11, [19, 20, 21], true⟩, ⟨12, [19, 22], true⟩, ⟨13, [19, 23], true⟩, ⟨14, [2, 19], true⟩, ⟨15, [19, 25], true⟩, ⟨16, [3, 19], true⟩, ⟨17, [19, 26, 27], true⟩, ⟨18, [19, 28], true⟩, ⟨19, [19, 29], true⟩, ⟨20, [19, 24, 30], true⟩, ⟨21, [19, 31], true⟩] rfl (by kernel_rfl) ?_
 refine Mv rfl rfl (Mf rfl rfl (step_lss Sr Sr) (Mv rfl rfl (Mg rfl rfl Sr rfl (fun hw => step_move Sr) (Mg rfl rfl Sr rfl (fun hw => step_load_ptr ty26 Sr) (Mg rfl rfl Sr rfl (fun hw => step_len_sl underlying26 (Sub.w hw)) ?_)))))
 refine Mg rfl rfl Sr rfl (fun hw => step_geq (Sub.w hw) (Sub.w hw)) (Mf rfl rfl (step_pick_or Sr Sr) (Mv rfl rfl (Mg rfl rfl Sr rfl (fun hw => step_load_ptr ty26 Sr) (Mg rfl rfl Sr rfl (fun hw => step_move Sr) ?_))))
 refine Mg rfl rfl Sr rfl (fun hw => step_indexAddr_sl (i := j.toNat) underlying26 ty45 (Sub.w hw) (Sub.w hw) (by have hwq := hw; (try simp only [beqB_t, beqB_f, NF] at hwq); omega) (gb (by have hwq := hw; (try simp only [beqB_t, beqB_f, NF] at hwq); show j.toNat < facts.length; omega))) ?_
 refine Mg rfl rfl Sr rfl (fun hw => step_fieldAddr so45 (Sub.w hw) rfl) (Mg rfl rfl Sr rfl (fun hw => step_load_ptr ty3 (Sub.w hw)) (Mg rfl rfl Sr rfl (fun hw => step_fieldAddr so25 Sr rfl) (Mg rfl rfl Sr rfl (fun hw => step_load_ptr ty23 (Sub.w hw)) (Mg rfl rfl Sr rfl (fun hw => step_load_ptr ty3 Sr) ?_))))
 refine Mg rfl rfl Sr rfl (fun hw => step_indexAddr_sl (i := k) underlying23 ty47 (Sub.w hw) (Sub.w hw) (by rfl) (gb (by have hwq := hw; (try simp only [beqB_t, beqB_f, NF] at hwq); exact hk))) ?_
 refine Mg rfl rfl Sr rfl (fun hw => step_fieldAddr so47 (Sub.w hw) rfl) (Mg rfl rfl Sr rfl (fun hw => step_load_ptr ty3 (Sub.w hw)) (Mg rfl rfl Sr rfl (fun hw => step_neq (Sub.w hw) (Sub.w hw)) (Mf rfl rfl (step_pick_or Sr Sr) (JM_nil ?_))))
 refine J_cond Sr (fun h32 => ?_) (fun h32 => ?_)
 ·
  try simp only [NF] at h32
  have hno : ¬ (0 ≤ j ∧ j < facts.length ∧ (nth facts j.toNat).Table = (nth q.Atoms k).Table) := by rintro ⟨h1, h2, h3⟩; rcases h32 with (h | h) | h <;> first | omega | exact absurd h3 (by simpa using h)
  refine Jr (Ja rfl (JL_nil (J_ret ?_)))
  refine K_retv (rv := .tmp 8) rfl () (.tmp Sr) (Sub.bool ?_)
  unfold stepH; rw [if_neg hno]
 try simp only [NF] at h32
 have hyes : 0 ≤ j ∧ j < facts.length ∧ (nth facts j.toNat).Table = (nth q.Atoms k).Table := ⟨by omega, by omega, by simpa using h32.2⟩
 refine J_skip (J_seq ?_)
 refine J_draw [⟨0, [4], true⟩, ⟨1, [2], true⟩, ⟨2, [35], true⟩, ⟨3, [3], true⟩, ⟨4, [36, 37], true⟩, ⟨5, [38], true⟩, ⟨6, [1], true⟩, ⟨7, [0], true⟩, ⟨8, [40, 41], true⟩, ⟨9, [42], true⟩, ⟨10, [5], true⟩, ⟨11, [34, 39, 43, 44], true⟩, ⟨12, [45], true⟩, ⟨13, [33], true⟩, ⟨14, [33], true⟩, ⟨15, [46], true⟩, ⟨16, [47], true⟩] rfl (by kernel_rfl) ?_
 refine Mf rfl rfl (step_load_ptr ty64T Sr) (Mf rfl rfl (step_fieldAddr so25 Sr rfl) (Mf rfl rfl (step_load_ptr ty23 Sr) (Mf rfl rfl (step_load_ptr ty3 Sr) ?_)))
 refine Mf rfl rfl (step_indexAddr_sl (i := k) underlying23 ty47 Sr Sr (by rfl) (gb (by exact hk))) ?_
 refine Mf rfl rfl (step_load_ptr ty47 Sr) (Mf rfl rfl (step_load_ptr ty26 Sr) (Mv rfl rfl ?_))
 refine Mf rfl rfl (step_indexAddr_sl (i := j.toNat) underlying26 ty45 Sr Sr zG (gb (by show j.toNat < facts.length; omega))) ?_
 refine Mf rfl rfl (step_load_ptr ty45 Sr) (Mf rfl rfl (step_load_ptr ty72M Sr) (Mf rfl rfl (step_call0 (match_spec ⟨q, [], []⟩ (nth q.Atoms k) (nth facts j.toNat) g (atom_ok hq hk) hvb.2.2.1 (fit_fact hfit (nth_mem zG) hk hyes.2.2)) ⟨Sr, Sr, Sr, Sr, trivial⟩ call49) (Mv rfl rfl (Mf rfl rfl (step_extract Sr rfl) (Mf rfl rfl (step_extract Sr rfl) ?_)))))
 refine Mf rfl rfl (step_assign Sr) (Mf rfl rfl (step_assign Sr) (JM_nil (Jr (Jm rfl (Jm rfl ?_)))))
 refine Jg rfl Sr rfl (fun hw => step_load_box (R := rTyp (tClo 47 (PutA b q facts set)) clo_one) ty71T Sr zS) ?_
 refine Jg rfl Sr rfl (fun hw => step_load_ptr ty3 Sr) ?_
 refine Jg rfl Sr rfl (fun hw => step_add (Sub.w hw) Sr (by have hwq := hw; (try simp only [beqB_t, beqB_f, NF] at hwq); unfold in64; omega)) ?_
 refine Jg rfl Sr rfl (fun hw => step_move Sr) ?_
 refine JL_stepGX (tV (.bool false)) rfl rfl rfl (Gd.plain Sr) rfl rfl (fun hw => step_callv (aT := [_, _]) (Sub.w hw) (Sel.all _) (ih ((matchM q (nth q.Atoms k) (nth facts j.toNat) g).getD [])) ⟨Sub.w hw, Sub.trans (Sub.w hw) (tOM_get (by simpa using hw)), trivial⟩ call47) (fun hw v54 => ?_) (fun hw => ?_)
 ·
  skip
  refine Js rfl (step_pick_and Sr Sr) (Ja rfl (JL_nil (J_ret ?_)))
  refine K_retv (rv := .tmp 8) rfl () (.tmp Sr) (Sub.bool ?_)
  unfold stepH; rw [if_pos hyes]
  have hw1 : (matchM q (nth q.Atoms k) (nth facts j.toNat) g).isSome = true := by simpa using hw
  obtain ⟨g2, hg2⟩ := Option.isSome_iff_exists.1 hw1
  rw [hg2]; simp
 skip
 refine Js rfl (step_pick_and Sr Sr) (Ja rfl (JL_nil (J_ret ?_)))
 refine K_retv (rv := .tmp 8) rfl () (.tmp Sr) (Sub.bool ?_)
 unfold stepH; rw [if_pos hyes]
 have hw1 : (matchM q (nth q.Atoms k) (nth facts j.toNat) g).isSome = false := by simpa using hw
 rw [Option.isSome_eq_false_iff, Option.isNone_iff_eq_none] at hw1
 rw [hw1]; simp
theorem putS_spec (b : Nat) (q : GConj) (facts : List GFact) (set : List Int) (hfit : fitM q facts = true) (hset : set.length ≤ 1000000) (hfl : facts.length ≤ 1000000000000) (k : Nat) (hk : k ≤ q.Atoms.length) (ih : k < q.Atoms.length → HoldS b q facts set (k + 1)) (g : List (Bnd GValue)) : Spec (X := Unit) prog 47 [tV (.int .i64 k), tMapI kvI rValue g, tPtr rConj q, tPtr (rSl rInt) set, tPtr (rSl rFact) facts, tPtr (rTyp (tPtr rrewriting ⟨q, [], []⟩) ptr_one) (), tAt b 0] ([putC b q facts set]) (fun _ => tV (.bool (holdB q facts set k g))) (fun _ => [putC b q facts set]) := by
 refine Spec.enter func47 rfl rfl fun h0 w0 fr0 => ?_
 refine Jr (Js rfl (step_box (R := rInt) Sr) (Js rfl (step_box (R := rOM kvI rValue) (y := some g) Sr) (Ja rfl (JL_nil (J_seq ?_)))))
 refine Jr (Jl rfl ty3 Sr (Js rfl (step_fieldAddr so25 Sr rfl) (Jl rfl ty23 Sr (Js rfl (step_len_sl underlying23 Sr) (Js rfl (step_eql Sr Sr) ?_)))))
 refine JL_nil ?_
 refine J_cond Sr (fun h14 => ?_) (fun h14 => ?_)
 ·
  try simp only [NF] at h14
  have hke : k = q.Atoms.length := by omega
  refine Jr (Ja rfl (JL_nil (J_ret ?_)))
  refine K_retv (rv := .tmp 9) rfl () (.tmp Sr) (Sub.bool ?_)
  rw [holdB_end hke]
 try simp only [NF] at h14
 have hkl : k < q.Atoms.length := by have : ¬ (k : Int) = q.Atoms.length := h14; omega
 refine J_skip (Jr (Jl rfl ty27 Sr (Js rfl (step_makeFunc (As := [_, _, _, _, _, _]) ⟨Sr, Sr, Sr, Sr, Sr, Sr, trivial⟩) ?_)))
 refine Jx rfl (step_call (Sel.all _) (ContainsFuncM_spec set zG 48 [tPtr (rSl rFact) facts, tPtr rConj q, tPtr rInt (k : Int), tPtr (rTyp (tPtr rrewriting ⟨q, [], []⟩) ptr_one) (), tPtr (rOM kvI rValue) (some g), tAt b 0] (putC b q facts set) (stepH q facts set k g) (fun j _ => putF_spec b q facts set hfit hfl k hkl (ih hkl) g j) call48) ⟨Sr, Sr, trivial⟩ call42) fun v17 => ?_
 refine Ja rfl (JL_nil (J_ret ?_))
 refine K_retv (rv := .tmp 9) rfl () (.tmp Sr) (Sub.bool ?_)
 rw [holdB_step hkl]
theorem put_spec (b : Nat) (q : GConj) (facts : List GFact) (set : List Int) (hfit : fitM q facts = true) (hset : set.length ≤ 1000000) (hfl : facts.length ≤ 1000000000000) : ∀ (n k : Nat), k + n = q.Atoms.length → HoldS b q facts set k
  | 0, k, h => fun g => putS_spec b q facts set hfit hset hfl k (by omega) (fun h2 => absurd h2 (by omega)) g
  | n + 1, k, h => fun g => putS_spec b q facts set hfit hset hfl k (by omega) (fun _ => put_spec b q facts set hfit hset hfl n (k + 1) (by omega)) g
set_option maxHeartbeats 1000000 in
theorem Holds_spec (q : GConj) (facts : List GFact) (set : List Int) (hfl : facts.length ≤ 1000000000000) (hset : set.length ≤ 1000000) : Fun1 prog 18 [rConj.ty q, tSl rFact facts, tSl rInt set] (tV (.bool (fitM q facts && holdB q facts set 0 []))) := by
 refine Spec.enter func18 rfl rfl fun h0 w0 fr0 => ?_
 refine Jr (Js rfl (step_box (R := rConj) Sr) (Js rfl (step_box (R := (rSl rFact)) Sr) (Js rfl (step_box (R := (rSl rInt)) Sr) (Ja rfl (JL_nil ?_)))))
 refine J_seq (Jr (Jl rfl ty25 Sr (Jl rfl ty26 Sr (Js rfl (step_call0 (fit_spec q facts hfl) ⟨Sr, Sr, trivial⟩ call31) (Js rfl (step_not Sr) ?_)))))
 refine JL_nil ?_
 refine J_cond Sr (fun h12 => ?_) (fun h12 => ?_)
 ·
  try simp only [NF] at h12
  have hv : fitM q facts = false := by simpa using h12
  refine Jr (Ja rfl (JL_nil (J_ret ?_)))
  refine K_ret1' (rv := .tmp 6) rfl () (Sel.all _) (.tmp Sr) (Frz.sub (Sub.bool ?_))
  rw [hv]; rfl
 try simp only [NF] at h12
 have hfit : fitM q facts = true := by simpa using h12
 refine J_skip (Jr (Jl rfl ty25 Sr (Js rfl (step_build (x := (⟨q, [], []⟩ : Grewriting)) (zs := [[Value.int .i64 0, Value.slice none 0 0, Value.slice none 0 0], [Value.slice none 0 0], [Value.slice none 0 0]]) so68 (fun w => zeroValue68 w) ⟨Sr, trivial⟩ ⟨⟨Sr, rfl⟩, fun _ => ⟨_, rfl, none, ⟨0, Nat.le_refl _⟩, rfl, fun q => absurd rfl q⟩, fun _ => ⟨_, rfl, none, ⟨0, Nat.le_refl _⟩, rfl, fun q => absurd rfl q⟩, trivial⟩) (Js rfl (step_box (R := rrewriting) (y := ⟨q, [], []⟩) Sr) ?_))))
 refine Jx rfl (step_alloc (R := rV) (fun w => zeroValue64 w) (fun _ => ⟨rfl, rfl⟩)) fun v7 => ?_
 refine Ju (step_store_boxR (R := rV) (R' := rTyp (tPtr rrewriting ⟨q, [], []⟩) ptr_one) (z := ()) ty64T rfl Sr Sr zS) fun _ => ?_
 refine JL_nil (J_seq ?_)
 refine K_freeze (t := 7) (Sel.take (Sel.none _)) Frz.box ?_
 refine J_region ?_
 refine Jx rfl (step_alloc (R := rV) (fun w => zeroValue71 w) (fun _ => ⟨rfl, rfl⟩)) fun b8 => ?_
 refine JL_nil (Jr (Js rfl (step_makeFunc (As := [_, _, _, _, _]) ⟨Sr, Sr, Sr, Sr, Sr, trivial⟩) ?_))
 refine Ju (step_store_boxR (R := rV) (R' := rTyp (tClo 47 (PutA b8 q facts set)) clo_one) (z := ()) ty71T rfl Sr Sr zS) fun _ => ?_
 refine JL_nil (Jr ?_)
 refine Js rfl (step_load_box (R := rTyp (tClo 47 (PutA b8 q facts set)) clo_one) ty71T Sr zS) ?_
 refine Jx rfl (step_makeMapV (kv := kvI) (R := rValue)) fun v18 => ?_
 refine JL_freeze (t := 18) (Sel.take (Sel.none _)) Frz.mapV ?_
 refine Jx rfl (step_callv (aT := [_, _]) Sr (Sel.all _) (put_spec b8 q facts set hfit hset hfl q.Atoms.length 0 zG []) ⟨Sr, Sr, trivial⟩ call47) fun v19 => ?_
 refine Ja rfl (JL_nil (J_ret ?_))
 refine K_ret1' (rv := .tmp 6) rfl () (Sel.all _) (.tmp Sr) (Frz.sub (Sub.bool ?_))
 rw [hfit]; rfl
end Lg
namespace Go.Proofs
open Go.Shelf
def Tryz.sortK_ren : Go.Shelf.Ren := ⟨fun | 6 => 106 | 15 => 134 | 14 => 133 | 28 => 163 | 29 => 164 | 20 => 150 | 21 => 156 | 22 => 157 | 23 => 158 | 24 => 159 | 25 => 160 | 26 => 161 | 27 => 162 | 46 => 185 | 47 => 186 | 48 => 187 | 49 => 188 | 50 => 189 | 57 => 204 | n => n, fun | 22 => 28 | 24 => 27 | 25 => 134 | 3 => 3 | 39 => 164 | 0 => 0 | 53 => 171 | 55 => 199 | 4 => 4 | 46 => 192 | 45 => 191 | 50 => 189 | 5 => 5 | 9 => 9 | 66 => 210 | 70 => 214 | 76 => 237 | 77 => 238 | n => n, fun | n => n⟩
theorem Tryz.sortK : Go.Proofs.SlLaysF.n6 Tryz.prog Tryz.sortK_ren := {
  mixed := by kernel_rfl
  f6 := ⟨Tryz.f106.name, by decide, Tryz.func106.trans (congrArg some (by kernel_rfl))⟩
  f14 := ⟨Tryz.f133.name, by decide, Tryz.func133.trans (congrArg some (by kernel_rfl))⟩
  f15 := Tryz.func134.trans (congrArg some (by kernel_rfl))
  f20 := ⟨Tryz.f150.name, by decide, Tryz.func150.trans (congrArg some (by kernel_rfl))⟩
  f21 := ⟨Tryz.f156.name, by decide, Tryz.func156.trans (congrArg some (by kernel_rfl))⟩
  f22 := ⟨Tryz.f157.name, by decide, Tryz.func157.trans (congrArg some (by kernel_rfl))⟩
  f23 := ⟨Tryz.f158.name, by decide, Tryz.func158.trans (congrArg some (by kernel_rfl))⟩
  f24 := ⟨Tryz.f159.name, by decide, Tryz.func159.trans (congrArg some (by kernel_rfl))⟩
  f25 := ⟨Tryz.f160.name, by decide, Tryz.func160.trans (congrArg some (by kernel_rfl))⟩
  f26 := ⟨Tryz.f161.name, by decide, Tryz.func161.trans (congrArg some (by kernel_rfl))⟩
  f27 := ⟨Tryz.f162.name, by decide, Tryz.func162.trans (congrArg some (by kernel_rfl))⟩
  f28 := Tryz.func163.trans (congrArg some (by kernel_rfl))
  f29 := Tryz.func164.trans (congrArg some (by kernel_rfl))
  f46 := ⟨Tryz.f185.name, by decide, Tryz.func185.trans (congrArg some (by kernel_rfl))⟩
  f47 := Tryz.func186.trans (congrArg some (by kernel_rfl))
  f48 := Tryz.func187.trans (congrArg some (by kernel_rfl))
  f49 := ⟨Tryz.f188.name, by decide, Tryz.func188.trans (congrArg some (by kernel_rfl))⟩
  f50 := ⟨Tryz.f189.name, by decide, Tryz.func189.trans (congrArg some (by kernel_rfl))⟩
  f57 := ⟨Tryz.f204.name, by decide, Tryz.func204.trans (congrArg some (by kernel_rfl))⟩
  t0 := Tryz.underlying0
  a0 := Tryz.isAgg0
  z0 := Tryz.sizeOf0
  v0 := Tryz.zeroValue0
  t3 := Tryz.underlying3
  a3 := Tryz.isAgg3
  z3 := Tryz.sizeOf3
  v3 := Tryz.zeroValue3
  t4 := Tryz.underlying4
  a4 := Tryz.isAgg4
  z4 := Tryz.sizeOf4
  v4 := Tryz.zeroValue4
  t5 := Tryz.underlying5
  a5 := Tryz.isAgg5
  z5 := Tryz.sizeOf5
  v5 := Tryz.zeroValue5
  t9 := Tryz.underlying9
  a9 := Tryz.isAgg9
  z9 := Tryz.sizeOf9
  v9 := Tryz.zeroValue9
  t22 := Tryz.underlying28
  a22 := Tryz.isAgg28
  z22 := Tryz.sizeOf28
  v22 := Tryz.zeroValue28
  a24 := Tryz.isAgg27
  z24 := Tryz.sizeOf27
  t25 := Tryz.underlying134
  a25 := Tryz.isAgg134
  z25 := Tryz.sizeOf134
  v25 := Tryz.zeroValue134
  t39 := Tryz.underlying164
  a39 := Tryz.isAgg164
  z39 := Tryz.sizeOf164
  v39 := Tryz.zeroValue164
  t45 := Tryz.underlying191
  a45 := Tryz.isAgg191
  z45 := Tryz.sizeOf191
  v45 := Tryz.zeroValue191
  t46 := Tryz.underlying192
  a46 := Tryz.isAgg192
  z46 := Tryz.sizeOf192
  v46 := Tryz.zeroValue192
  t50 := Tryz.underlying189
  a50 := Tryz.isAgg189
  z50 := Tryz.sizeOf189
  v50 := Tryz.zeroValue189
  t53 := Tryz.underlying171
  a53 := Tryz.isAgg171
  z53 := Tryz.sizeOf171
  v53 := Tryz.zeroValue171
  t55 := Tryz.underlying199
  a55 := Tryz.isAgg199
  z55 := Tryz.sizeOf199
  v55 := Tryz.zeroValue199
  t66 := Tryz.underlying210
  a66 := Tryz.isAgg210
  z66 := Tryz.sizeOf210
  v66 := Tryz.zeroValue210
  t70 := Tryz.underlying214
  a70 := Tryz.isAgg214
  z70 := Tryz.sizeOf214
  v70 := Tryz.zeroValue214
  t76 := Tryz.underlying237
  a76 := Tryz.isAgg237
  z76 := Tryz.sizeOf237
  v76 := Tryz.zeroValue237
  t77 := Tryz.underlying238
  a77 := Tryz.isAgg238
  z77 := Tryz.sizeOf238
  v77 := Tryz.zeroValue238 }
def Tryz.sortJ_ren : Go.Shelf.Ren := ⟨fun | 189 => 125 | 125 => 134 | 257 => 149 | 128 => 163 | 129 => 164 | 294 => 173 | 295 => 174 | 296 => 175 | 297 => 176 | 298 => 177 | 299 => 178 | 216 => 179 | 300 => 180 | 301 => 181 | 328 => 200 | 329 => 186 | 330 => 187 | 331 => 201 | 332 => 202 | 215 => 165 | 343 => 215 | n => n, fun | 28 => 27 | 3 => 3 | 46 => 164 | 0 => 0 | 51 => 171 | 53 => 199 | 4 => 4 | 183 => 192 | 182 => 191 | 131 => 189 | 5 => 5 | 9 => 9 | 218 => 210 | 222 => 214 | 228 => 237 | 229 => 238 | n => n, fun | n => n⟩
theorem Tryz.sortJ : Go.Proofs.Lays.n189 Tryz.prog Tryz.sortJ_ren := {
  mixed := by kernel_rfl
  f125 := Tryz.func134.trans (congrArg some (by kernel_rfl))
  f128 := Tryz.func163.trans (congrArg some (by kernel_rfl))
  f129 := Tryz.func164.trans (congrArg some (by kernel_rfl))
  f189 := Tryz.func125.trans (congrArg some (by kernel_rfl))
  f215 := Tryz.func165.trans (congrArg some (by kernel_rfl))
  f216 := Tryz.func179.trans (congrArg some (by kernel_rfl))
  f257 := Tryz.func149.trans (congrArg some (by kernel_rfl))
  f294 := Tryz.func173.trans (congrArg some (by kernel_rfl))
  f295 := Tryz.func174.trans (congrArg some (by kernel_rfl))
  f296 := Tryz.func175.trans (congrArg some (by kernel_rfl))
  f297 := Tryz.func176.trans (congrArg some (by kernel_rfl))
  f298 := Tryz.func177.trans (congrArg some (by kernel_rfl))
  f299 := Tryz.func178.trans (congrArg some (by kernel_rfl))
  f300 := Tryz.func180.trans (congrArg some (by kernel_rfl))
  f301 := Tryz.func181.trans (congrArg some (by kernel_rfl))
  f328 := Tryz.func200.trans (congrArg some (by kernel_rfl))
  f329 := Tryz.func186.trans (congrArg some (by kernel_rfl))
  f330 := Tryz.func187.trans (congrArg some (by kernel_rfl))
  f331 := Tryz.func201.trans (congrArg some (by kernel_rfl))
  f332 := Tryz.func202.trans (congrArg some (by kernel_rfl))
  f343 := Tryz.func215.trans (congrArg some (by kernel_rfl))
  t0 := Tryz.underlying0
  a0 := Tryz.isAgg0
  z0 := Tryz.sizeOf0
  v0 := Tryz.zeroValue0
  t3 := Tryz.underlying3
  a3 := Tryz.isAgg3
  z3 := Tryz.sizeOf3
  v3 := Tryz.zeroValue3
  t4 := Tryz.underlying4
  a4 := Tryz.isAgg4
  z4 := Tryz.sizeOf4
  v4 := Tryz.zeroValue4
  t5 := Tryz.underlying5
  a5 := Tryz.isAgg5
  z5 := Tryz.sizeOf5
  v5 := Tryz.zeroValue5
  t9 := Tryz.underlying9
  a9 := Tryz.isAgg9
  z9 := Tryz.sizeOf9
  v9 := Tryz.zeroValue9
  t28 := Tryz.underlying27
  a28 := Tryz.isAgg27
  z28 := Tryz.sizeOf27
  v28 := Tryz.zeroValue27
  t46 := Tryz.underlying164
  a46 := Tryz.isAgg164
  z46 := Tryz.sizeOf164
  v46 := Tryz.zeroValue164
  t51 := Tryz.underlying171
  a51 := Tryz.isAgg171
  z51 := Tryz.sizeOf171
  v51 := Tryz.zeroValue171
  t53 := Tryz.underlying199
  a53 := Tryz.isAgg199
  z53 := Tryz.sizeOf199
  v53 := Tryz.zeroValue199
  t131 := Tryz.underlying189
  a131 := Tryz.isAgg189
  z131 := Tryz.sizeOf189
  v131 := Tryz.zeroValue189
  t182 := Tryz.underlying191
  a182 := Tryz.isAgg191
  z182 := Tryz.sizeOf191
  v182 := Tryz.zeroValue191
  t183 := Tryz.underlying192
  a183 := Tryz.isAgg192
  z183 := Tryz.sizeOf192
  v183 := Tryz.zeroValue192
  t218 := Tryz.underlying210
  a218 := Tryz.isAgg210
  z218 := Tryz.sizeOf210
  v218 := Tryz.zeroValue210
  t222 := Tryz.underlying214
  a222 := Tryz.isAgg214
  z222 := Tryz.sizeOf214
  v222 := Tryz.zeroValue214
  t228 := Tryz.underlying237
  a228 := Tryz.isAgg237
  z228 := Tryz.sizeOf237
  v228 := Tryz.zeroValue237
  t229 := Tryz.underlying238
  a229 := Tryz.isAgg238
  z229 := Tryz.sizeOf238
  v229 := Tryz.zeroValue238 }
end Go.Proofs
namespace Lg
open Go Go.Proofs Go.Proofs.Tryz
def okPre {α : Type} (tot : List α) : List α → Prop := fun l => l <+: tot
def smallB (n : Nat) : ByteArray := if n < 10 then (⟨#[48, 49, 50, 51, 52, 53, 54, 55, 56, 57, 97, 98, 99, 100, 101, 102, 103, 104, 105, 106, 107, 108, 109, 110, 111, 112, 113, 114, 115, 116, 117, 118, 119, 120, 121, 122]⟩ : ByteArray).extract n (n + 1) else (⟨#[48, 48, 48, 49, 48, 50, 48, 51, 48, 52, 48, 53, 48, 54, 48, 55, 48, 56, 48, 57, 49, 48, 49, 49, 49, 50, 49, 51, 49, 52, 49, 53, 49, 54, 49, 55, 49, 56, 49, 57, 50, 48, 50, 49, 50, 50, 50, 51, 50, 52, 50, 53, 50, 54, 50, 55, 50, 56, 50, 57, 51, 48, 51, 49, 51, 50, 51, 51, 51, 52, 51, 53, 51, 54, 51, 55, 51, 56, 51, 57, 52, 48, 52, 49, 52, 50, 52, 51, 52, 52, 52, 53, 52, 54, 52, 55, 52, 56, 52, 57, 53, 48, 53, 49, 53, 50, 53, 51, 53, 52, 53, 53, 53, 54, 53, 55, 53, 56, 53, 57, 54, 48, 54, 49, 54, 50, 54, 51, 54, 52, 54, 53, 54, 54, 54, 55, 54, 56, 54, 57, 55, 48, 55, 49, 55, 50, 55, 51, 55, 52, 55, 53, 55, 54, 55, 55, 55, 56, 55, 57, 56, 48, 56, 49, 56, 50, 56, 51, 56, 52, 56, 53, 56, 54, 56, 55, 56, 56, 56, 57, 57, 48, 57, 49, 57, 50, 57, 51, 57, 52, 57, 53, 57, 54, 57, 55, 57, 56, 57, 57]⟩ : ByteArray).extract (n * 2) (n * 2 + 2)
set_option maxRecDepth 100000 in
theorem smallB_digits : ∀ n : Nat, n < 100 → bytesOf (smallB n) = if n < 10 then [48 + (n : Int)] else [48 + ((n / 10 : Nat) : Int), 48 + ((n % 10 : Nat) : Int)] := by decide
theorem smallB_pos {n : Nat} (h : n < 100) : 0 < (smallB n).size ∧ (smallB n).size ≤ 2 := by
  have := smallB_digits n h
  have hl := bytesOf_len (smallB n)
  rw [this] at hl
  split at hl <;> simp at hl <;> omega
/-- The bytes of a set's text. -/
def nameL (l : List Int) : List Int := l.flatMap fun x => bytesOf (smallB x.toNat) ++ [32]
def nameB (l : List Int) : ByteArray := ofBytes (nameL l)
theorem nameL_len {l : List Int} (h : ∀ x ∈ l, 0 ≤ x ∧ x < 100) : (nameL l).length ≤ 3 * l.length := by
  induction l with
  | nil => simp [nameL]
  | cons a l ih =>
    have h1 := ih fun x hx => h x (by simp [hx])
    have h2 := smallB_pos (n := a.toNat) (by have := h a (by simp); omega)
    have h3 := bytesOf_len (smallB a.toNat)
    simp only [nameL, List.flatMap_cons, List.length_append, List.length_cons, List.length_nil] at h1 ⊢
    omega
/-- Strictly increasing. -/
def Inc (l : List Int) : Prop := l.Pairwise (· < ·)
theorem sortI_inc {l : List Int} (h : Inc l) : sortI l = l := by
  unfold sortI
  apply List.mergeSort_of_pairwise
  exact h.imp (fun h => by simp; omega)
theorem inc_ne {l : List Int} (h : Inc l) {i : Nat} (hi : i + 1 < l.length) : nth l (i + 1) ≠ nth l i := by
  have := List.pairwise_iff_getElem.1 h i (i + 1) (by omega) hi (by omega)
  rw [nth_get hi, nth_get (by omega)]
  omega
/-! Subsets -/
def subB (l : List Int) (b i : Nat) : List Int := ((List.range i).filter fun j => decide ((b / 2 ^ j) % 2 = 1)).map (nth l)
def subs (l : List Int) : List (List Int) := (List.range (2 ^ l.length)).map fun b => subB l b l.length
abbrev tLi : List Int → List Ty := fun x => [tSl rInt x]
theorem subs_len (l : List Int) : (subs l).length = 2 ^ l.length := by simp [subs]
theorem subs_get {l : List Int} {b : Nat} (h : b < 2 ^ l.length) : nth (subs l) b = subB l b l.length := by
  rw [nth_get (by rw [subs_len]; exact h)]; simp [subs]
theorem subB_succ (l : List Int) (b i : Nat) : subB l b (i + 1) = if (b / 2 ^ i) % 2 = 1 then subB l b i ++ [nth l i] else subB l b i := by
  unfold subB
  rw [List.range_succ, List.filter_append, List.map_append]
  by_cases h : (b / 2 ^ i) % 2 = 1 <;> simp [h]
theorem subB_mem {l : List Int} {b i : Nat} (hi : i ≤ l.length) {x : Int} (h : x ∈ subB l b i) : x ∈ l := by
  unfold subB at h
  obtain ⟨j, hj, rfl⟩ := List.mem_map.1 h
  exact nth_mem (by have := List.mem_range.1 (List.mem_filter.1 hj).1; omega)
theorem subB_len (l : List Int) (b i : Nat) : (subB l b i).length ≤ i := by
  unfold subB
  rw [List.length_map]
  refine Nat.le_trans (List.length_filter_le _ _) ?_
  simp
theorem pow_le6 {n : Nat} (h : n ≤ 6) : 2 ^ n ≤ 64 ∧ 1 ≤ 2 ^ n := by
  have h1 : (2 : Nat) ^ n ≤ 2 ^ 6 := Nat.pow_le_pow_right (by decide) h
  have h2 : 0 < (2 : Nat) ^ n := Nat.pow_pos (by decide)
  exact ⟨by simpa using h1, h2⟩
def lenTab : ByteArray := ⟨#[0, 1, 2, 2, 3, 3, 3, 3, 4, 4, 4, 4, 4, 4, 4, 4, 5, 5, 5, 5, 5, 5, 5, 5, 5, 5, 5, 5, 5, 5, 5, 5, 6, 6, 6, 6, 6, 6, 6, 6, 6, 6, 6, 6, 6, 6, 6, 6, 6, 6, 6, 6, 6, 6, 6, 6, 6, 6, 6, 6, 6, 6, 6, 6, 7, 7, 7, 7, 7, 7, 7, 7, 7, 7, 7, 7, 7, 7, 7, 7, 7, 7, 7, 7, 7, 7, 7, 7, 7, 7, 7, 7, 7, 7, 7, 7, 7, 7, 7, 7, 7, 7, 7, 7, 7, 7, 7, 7, 7, 7, 7, 7, 7, 7, 7, 7, 7, 7, 7, 7, 7, 7, 7, 7, 7, 7, 7, 7, 8, 8, 8, 8, 8, 8, 8, 8, 8, 8, 8, 8, 8, 8, 8, 8, 8, 8, 8, 8, 8, 8, 8, 8, 8, 8, 8, 8, 8, 8, 8, 8, 8, 8, 8, 8, 8, 8, 8, 8, 8, 8, 8, 8, 8, 8, 8, 8, 8, 8, 8, 8, 8, 8, 8, 8, 8, 8, 8, 8, 8, 8, 8, 8, 8, 8, 8, 8, 8, 8, 8, 8, 8, 8, 8, 8, 8, 8, 8, 8, 8, 8, 8, 8, 8, 8, 8, 8, 8, 8, 8, 8, 8, 8, 8, 8, 8, 8, 8, 8, 8, 8, 8, 8, 8, 8, 8, 8, 8, 8, 8, 8, 8, 8, 8, 8, 8, 8, 8, 8, 8, 8, 8, 8, 8, 8, 8, 8]⟩
set_option maxRecDepth 100000 in
theorem lenTab_size : lenTab.size = 256 := by decide
set_option maxRecDepth 100000 in
theorem len_tab0 : nth (bytesOf lenTab) 0 = 0 := by decide
set_option maxRecDepth 100000 in
theorem len_tab1 : nth (bytesOf lenTab) 1 = 1 := by decide
theorem len_tab (n : Nat) (h : n ≤ 1) : nth (bytesOf lenTab) n = (n : Int) := by
  match n, h with
  | 0, _ => exact len_tab0
  | 1, _ => exact len_tab1
theorem small_spec (n : Nat) (hn : n < 100) : Fun1 prog 196 [tV (.int .i64 n)] (tV (.string (smallB n))) := by
 refine Spec.enter func196 rfl rfl fun h0 w0 fr0 => ?_
 refine Jr (Ja rfl (JL_nil (J_seq (Jr (Jm rfl ?_)))))
 refine Js rfl (step_lss Sr Sr) (JL_nil ?_)
 refine J_cond Sr (fun h4 => ?_) (fun h4 => ?_)
 ·
  try simp only [NF] at h4
  refine Jr (Jm rfl (Jm rfl (Js rfl (step_add Sr Sr z6) ?_)))
  refine Js rfl (step_slice_str (i := n) (j := n + 1) underlying9 Sr Sr Sr (by rfl) (by rfl) zG (by show n + 1 ≤ 36; omega)) ?_
  refine Ja rfl (JL_nil (J_ret ?_))
  refine K_ret1 (t := 2) rfl () ?_
  refine Sub.v ?_
  unfold smallB; rw [if_pos zG]
 try simp only [NF] at h4
 refine J_skip (Jr (Jm rfl (Js rfl (step_mul Sr Sr z6) (Jm rfl (Js rfl (step_mul Sr Sr z6) ?_)))))
 refine Js rfl (step_add Sr Sr z6) ?_
 refine Js rfl (step_slice_str (i := n * 2) (j := n * 2 + 2) underlying9 Sr Sr Sr zG zG zG (by show n * 2 + 2 ≤ 200; omega)) ?_
 refine Ja rfl (JL_nil (J_ret ?_))
 refine K_ret1 (t := 2) rfl () ?_
 refine Sub.v ?_
 unfold smallB; rw [if_neg zG]
 rfl
theorem AppendUint_spec (v : Value) (xs : List Int) (n : Nat) (hn : n < 100) (hx : xs.length ≤ 100000000000) : Spec (X := Value) prog 184 [rV.ty v, tV (.int .u64 n), tV (.int .i64 10)] ([own 5 rU8 v xs]) (fun z => rV.ty z) (fun z => [own 5 rU8 z (xs ++ bytesOf (smallB n))]) := by
 refine Spec.enter func184 rfl rfl fun h0 w0 fr0 => ?_
 refine Jr (Ja rfl (JL_nil (J_seq (Jr (Jm rfl ?_)))))
 refine Js rfl (step_eql Sr Sr) (JL_nil ?_)
 refine J_cond Sr (fun hc1 => ?_) (fun hc1 => ?_)
 ·
  try simp only [NF] at hc1
  refine J_seq (Jr (Jm rfl (Js rfl (step_lss Sr Sr) (JL_nil ?_))))
  refine J_cond Sr (fun hc2 => ?_) (fun hc2 => ?_)
  ·
   try simp only [NF] at hc2
   refine Jr (Jm rfl (Jm rfl ?_))
   refine Js rfl (step_convert_int (m := (n : Int)) underlying199 underlying3 Sr (by simp [IntKind.wrap, IntKind.bits, IntKind.signed]; omega)) ?_
   refine Js rfl (step_call0 (small_spec n hn) ⟨Sr, trivial⟩ call196) ?_
   refine Jx rfl (step_append_str underlying40 underlying9 el5 Sr Sr zS (by exact (smallB_pos hn).1) (by have := (smallB_pos hn).2; omega)) fun u => ?_
   refine Ja rfl (JL_nil (J_ret ?_))
   refine K_retv (rv := .tmp 6) rfl u (.tmp Sr) Sr
  try simp only [NF] at hc2
  exfalso; omega
 try simp only [NF] at hc1
 simp at hc1
theorem AppendInt_spec (v : Value) (xs : List Int) (n : Nat) (hn : n < 100) (hx : xs.length ≤ 100000000000) : Spec (X := Value) prog 155 [rV.ty v, tV (.int .i64 n), tV (.int .i64 10)] ([own 5 rU8 v xs]) (fun z => rV.ty z) (fun z => [own 5 rU8 z (xs ++ bytesOf (smallB n))]) := by
 refine Spec.enter func155 rfl rfl fun h0 w0 fr0 => ?_
 refine Jr (Ja rfl (JL_nil (Jr (Jm rfl ?_))))
 refine Js rfl (step_convert_int (m := (n : Int)) underlying2 underlying199 Sr (by simp [IntKind.wrap, IntKind.bits, IntKind.signed]; omega)) ?_
 refine Ja rfl (JL_nil (J_seq (Jr (Jm rfl (Js rfl (step_lss Sr Sr) ?_)))))
 refine JL_nil ?_
 refine J_cond Sr (fun hc1 => ?_) (fun hc1 => ?_)
 ·
  try simp only [NF] at hc1
  exfalso; omega
 try simp only [NF] at hc1
 refine J_skip (Jr (Jm rfl (Jm rfl (Jm rfl ?_))))
 refine Jx rfl (step_call zS (AppendUint_spec _ _ n hn hx) ⟨Sr, Sr, Sr, trivial⟩ call184) fun u => ?_
 refine Ja rfl (JL_nil (J_ret ?_))
 refine K_retv (rv := .tmp 6) rfl u (.tmp Sr) Sr
theorem AppendInt__spec (v : Value) (xs : List Int) (n : Nat) (hn : n < 100) (hx : xs.length ≤ 100000000000) : Spec (X := Value) prog 132 [rV.ty v, tV (.int .i64 n), tV (.int .i64 10)] ([own 5 rU8 v xs]) (fun z => rV.ty z) (fun z => [own 5 rU8 z (xs ++ bytesOf (smallB n))]) := by
 refine Spec.enter func132 rfl rfl fun h0 w0 fr0 => ?_
 refine Jr (Ja rfl (JL_nil (Jr (Jm rfl (Jm rfl ?_)))))
 refine Jm rfl ?_
 refine Jx rfl (step_call zS (AppendInt_spec _ _ n hn hx) ⟨Sr, Sr, Sr, trivial⟩ call155) fun u => ?_
 refine Ja rfl (JL_nil (J_ret ?_))
 refine K_retv (rv := .tmp 6) rfl u (.tmp Sr) Sr
theorem textS_spec (l : List Int) (hl : l.length ≤ 1000000) (hb : ∀ x ∈ l, 0 ≤ x ∧ x < 100) : Fun1 prog 105 [tSl rInt l] (tV (.string (nameB l))) := by
 refine Spec.enter func105 rfl rfl fun h0 w0 fr0 => ?_
 refine Jr (Ja rfl (JL_nil (Jr (Ja rfl (JL_nil ?_)))))
 refine J_seq (Jr (Jm rfl (Js rfl (step_len_sl underlying27 Sr) (Jm rfl (JL_nil ?_)))))
 refine J_block ?_
 refine J_loopL (σ := Nat × Value) (fun ⟨i, v⟩ => i ≤ l.length) (fun ⟨i, v⟩ => upd (upd (upd (upd env0 3 (rV.ty v)) 6 (tSl rInt l)) 7 (tV (.int .i64 l.length))) 8 (tV (.int .i64 i))) (fun ⟨i, v⟩ => [own 5 rU8 v (nameL (l.take i))]) (fun ⟨i, v⟩ => l.length - i) (0, .slice none 0 0) (by simp) (.u (.u (.u (SubE.upd (Sub.rV rfl) SubE.any)))) (LSub.nilown) ?_
 rintro ⟨i, v⟩ hi
 try dsimp only at hi
 refine Jr (Js rfl (step_lss Sr Sr) (JL_nil (J_seq ?_)))
 refine J_cond Sr (fun hc1 => ?_) (fun hc1 => ?_)
 ·
  try simp only [NF] at hc1
  have hlt : i < l.length := by omega
  obtain ⟨hb0, hb1⟩ := hb _ (nth_mem hlt)
  have hnl := nameL_len (l := l.take i) fun x hx => hb x (List.mem_of_mem_take hx)
  have hsp := smallB_pos (n := (nth l i).toNat) zG
  have hsl := bytesOf_len (smallB (nth l i).toNat)
  have htl : (l.take i).length ≤ i := List.length_take_le _ _
  have hni : nth l i = ((nth l i).toNat : Int) := by omega
  refine J_skip (J_seq (J_block (Jr ?_)))
  refine Js rfl (step_indexAddr_sl  underlying27 ty3 Sr Sr rfl (gb (by first | assumption | omega))) ?_
  refine Jl rfl ty3 Sr (Ja rfl (JL_nil (Jr (Jm rfl (Jm rfl ?_)))))
  refine Jx rfl (step_call zS (AppendInt__spec _ _ (nth l i).toNat zG zG) ⟨Sr, Sub.int hni, Sr, trivial⟩ call132) fun u14 => ?_
  refine Ja rfl (JL_nil (J_region (Jm rfl ?_)))
  refine Js rfl (step_literal (ys := [_]) underlying40 el5 ⟨rfl, Sr, trivial⟩ rfl (by decide)) ?_
  refine Jx rfl (step_append underlying40 el5 Sr Sr zS (by simp; omega) (by simp; omega)) fun u17 => ?_
  refine Ja rfl (JL_nil (J_region (Js rfl (step_add Sr Sr z6) (Jm rfl (JL_nil ?_)))))
  refine K_againL (σ := Nat × Value) (s := (i, v)) (i + 1, u17) zO (by simp; omega) (.u (.u (.u (SubE.upd Sr SubE.any)))) (LSub.cons zS (own_eq (by rw [takeB hlt]; simp [nameL])) LSub.nil)
 try simp only [NF] at hc1
 refine J_exit (Jr (Jm rfl ?_))
 refine Js rfl (step_convert_str underlying40 underlying5 underlying9 Sr zS) ?_
 refine Ja rfl (JL_nil (J_ret ?_))
 refine K_drop (Sel.all _) ?_
 refine K_ret1 (t := 2) rfl () ?_
 refine Sub.v ?_
 obtain rfl : i = l.length := by omega
 rw [List.take_length]; rfl
theorem CloneL_spec (l : List Int) (hl : l.length ≤ 1000000000) : Spec (X := Value) prog 124 [tSl rInt l] ([]) (fun v => rV.ty v) (fun v => [own 3 rInt v l]) := by
 refine Spec.enter func124 rfl rfl fun h0 w0 fr0 => ?_
 refine Jr (Ja rfl (JL_nil (J_seq (Jr (Jm rfl ?_)))))
 refine Jx rfl (step_eql_slnil underlying27 Sr) fun v4 => ?_
 refine JL_nil ?_
 refine J_cond Sr (fun h4 => ?_) (fun h4 => ?_)
 ·
  try simp only [NF] at h4
  refine Jr (Ja rfl (JL_nil (J_ret ?_)))
  have hl0 := v4.2 h4
  subst hl0
  refine K_lsub (LSub.nilown (e := 3) (R := rInt)) ?_
  refine K_ret1' (rv := .tmp 2) rfl (.slice none 0 0) (Sel.none _) (.tmp (Sub.rV rfl)) (Frz.sub Sr)
 try simp only [NF] at h4
 refine J_skip (Jr ?_)
 refine Jx rfl (step_literal_own (ys := []) underlying27 el3 trivial rfl (by decide)) fun v5 => ?_
 refine Jm rfl ?_
 refine Jx rfl (step_append underlying27 el3 Sr Sr zS (by simp; omega) (by simp; omega)) fun v7 => ?_
 refine Ja rfl (JL_nil (J_ret ?_))
 refine K_ret1' (rv := .tmp 2) rfl v7 (Sel.none _) (.tmp Sr) (Frz.sub Sr)
theorem CompactL_spec (v : Value) (l : List Int) (hi : Inc l) (hl : l.length ≤ 1000000000) : Spec (X := Unit) prog 126 [rV.ty v] ([own 3 rInt v l]) (fun _ => rV.ty v) (fun _ => [own 3 rInt v l]) := by
 refine Spec.enter func126 rfl rfl fun h0 w0 fr0 => ?_
 refine Jr (Ja rfl (JL_nil (J_seq (Jr (Jm rfl ?_)))))
 refine Js rfl (step_len_own underlying27 Sr zS) ?_
 refine Js rfl (step_lss Sr Sr) (JL_nil ?_)
 refine J_cond Sr (fun h8 => ?_) (fun h8 => ?_)
 ·
  try simp only [NF] at h8
  refine Jr (Jm rfl (Ja rfl (JL_nil (J_ret ?_))))
  refine K_retv (rv := .tmp 2) rfl () (.tmp Sr) Sr
 try simp only [NF] at h8
 refine J_skip (J_seq (Jr (Ja rfl (JL_nil (J_block ?_)))))
 refine J_loopL (σ := Nat) (fun k => 1 ≤ k ∧ k ≤ l.length) (fun k => upd (upd env0 0 (rV.ty v)) 3 (tV (.int .i64 k))) (fun k => [own 3 rInt v l]) (fun k => l.length - k) 1 ⟨by omega, by omega⟩ (SubE.upd (Sub.int rfl) (SubE.upd Sr SubE.any)) (LSub.cons zS (SPs.rfl) (LSub.nil)) ?_
 rintro k ⟨hk1, hk2⟩
 refine J_seq (Jr (Jm rfl (Jm rfl ?_)))
 refine Js rfl (step_len_own underlying27 Sr zS) ?_
 refine Js rfl (step_lss Sr Sr) (JL_nil ?_)
 refine J_cond Sr (fun h13 => ?_) (fun h13 => ?_)
 ·
  try simp only [NF] at h13
  have hlt : k < l.length := by omega
  have hne := inc_ne hi (i := k - 1) zG
  rw [show k - 1 + 1 = k by omega] at hne
  refine J_skip (J_seq (J_block (J_seq ?_)))
  refine J_drawN [⟨0, [0], true⟩, ⟨1, [3], true⟩, ⟨4, [0], true⟩, ⟨5, [3], true⟩, ⟨6, [21], true⟩, ⟨2, [16, 17], true⟩, ⟨3, [18], true⟩, ⟨7, [20, 22], true⟩, ⟨8, [23], true⟩, ⟨9, [19, 24], true⟩] rfl (by kernel_rfl) rfl ?_
  refine JN_step rfl rfl rfl rfl (step_move Sr) ?_
  refine JN_step rfl rfl rfl rfl (step_move Sr) ?_
  refine JN_step rfl rfl rfl rfl (step_move Sr) ?_
  refine JN_step rfl rfl rfl rfl (step_move Sr) ?_
  refine JN_step rfl rfl rfl rfl (step_sub Sr Sr z6) ?_
  refine JN_step rfl rfl rfl rfl (step_indexAddr_own (i := k) underlying27 ty3 Sr zS Sr (by rfl) (by exact hlt)) ?_
  refine JN_step rfl rfl rfl rfl (step_load_own ty3 Sr zS (gb (by exact hlt))) ?_
  refine JN_step rfl rfl rfl rfl (step_indexAddr_own (i := (k - 1)) underlying27 ty3 Sr zS Sr zG zG) ?_
  refine JN_step rfl rfl rfl rfl (step_load_own ty3 Sr zS (gb (by show k - 1 < l.length; omega))) ?_
  refine JN_step rfl rfl rfl rfl (step_eql Sr Sr) ?_
  refine JN_nil ?_
  refine J_cond Sr (fun h25 => ?_) (fun h25 => ?_)
  ·
   try simp only [NF] at h25
   exact absurd h25 hne
  try simp only [NF] at h25
  refine J_skip (J_region (Jm rfl (Js rfl (step_add Sr Sr z6) (Ja rfl (JL_nil ?_)))))
  refine K_againL (σ := Nat) (s := k) (k + 1) zO ⟨by omega, by omega⟩ (.u (SubE.upd Sr SubE.any)) (LSub.cons zS (SPs.rfl) (LSub.nil))
 try simp only [NF] at h13
 refine J_exit (Jr (Jm rfl (Ja rfl (JL_nil (J_ret ?_)))))
 refine K_retv (rv := .tmp 2) rfl () (.tmp Sr) Sr
theorem setL_spec (l : List Int) (hi : Inc l) (hl : l.length ≤ 1000000) : Fun1 prog 101 [tSl rInt l] (tSl rInt l) := by
 refine Spec.enter func101 rfl rfl fun h0 w0 fr0 => ?_
 refine Jr (Ja rfl (JL_nil (Jr (Jm rfl ?_))))
 refine Jx rfl (step_call (Sel.none _) (CloneL_spec l zG) ⟨Sr, trivial⟩ call124) fun v5 => ?_
 refine Ja rfl (JL_nil (Jr (Jm rfl ?_)))
 refine Jx rfl (step_call (Sel.all _) (sortInts_spec Tryz.sortJ v5 l zG) ⟨Sr, trivial⟩ call125) fun v7 => ?_
 refine JL_nil (J_seq ?_)
 refine K_lsub (L' := [own 3 rInt v5 l]) (LSub.cons zS (own_eq (sortI_inc hi)) (LSub.nil)) ?_
 refine J_region (Jm rfl ?_)
 refine Jx rfl (step_call (Sel.all _) (CompactL_spec v5 l hi zG) ⟨Sr, trivial⟩ call126) fun v9 => ?_
 refine Ja rfl (JL_nil (J_ret ?_))
 refine K_ret1' (rv := .tmp 2) rfl () (Sel.all _) (.tmp Sr) Frz.own
theorem insertOne_spec (v c : Value) (a b : Int) (h : b ≤ a + 1) (ha : 0 ≤ a ∧ a ≤ 1000) : Fun1 prog 150 [rV.ty v, tV (.int .i64 a), tV (.int .i64 b), tV c] (tTup []) := by
 refine Spec.enter func150 rfl rfl fun h0 w0 fr0 => ?_
 refine Jr (Jm rfl (Js rfl (step_add Sr Sr z6) (Ja rfl (JL_nil (J_block ?_)))))
 refine J_loopL (σ := Unit) (fun _u => True) (fun _u => upd (upd (upd (upd (upd env0 0 (rV.ty v)) 1 (tV (.int .i64 a))) 2 (tV (.int .i64 b))) 3 (tV c)) 8 (tV (.int .i64 (a + 1)))) (fun _u => []) (fun _u => 0) () trivial (.u (.u (.u (.u (SubE.upd Sr SubE.any))))) (LSub.rfl) ?_
 rintro _u hi
 refine J_seq (Jr (Jm rfl (Jm rfl (Js rfl (step_lss Sr Sr) (JL_nil ?_)))))
 refine J_cond Sr (fun hc1 => ?_) (fun hc1 => ?_)
 ·
  try simp only [NF] at hc1
  exfalso; omega
 try simp only [NF] at hc1
 refine J_exit ?_
 refine K_end0 rfl () Sr
theorem stableOne_spec (v c : Value) (n : Int) (h : 0 ≤ n ∧ n ≤ 1) : Fun1 prog 127 [rV.ty v, tV (.int .i64 n), tV c] (tTup []) := by
 refine Spec.enter func127 rfl rfl fun h0 w0 fr0 => ?_
 refine Jr (Ja rfl (JL_nil (Jr (Jm rfl (Ja rfl ?_)))))
 refine Ja rfl (JL_nil (J_seq (J_block ?_)))
 refine J_loopL (σ := Unit) (fun _u => True) (fun _u => upd (upd (upd (upd (upd (upd env0 0 (rV.ty v)) 1 (tV (.int .i64 n))) 2 (tV c)) 6 (tV (.int .i64 20))) 7 (tV (.int .i64 0))) 8 (tV (.int .i64 20))) (fun _u => []) (fun _u => 0) () trivial (.u (.u (.u (.u (.u (SubE.upd Sr SubE.any)))))) (LSub.rfl) ?_
 rintro _u hi
 refine J_seq (Jr (Jm rfl (Jm rfl (Js rfl (step_leq Sr Sr) (JL_nil ?_)))))
 refine J_cond Sr (fun h13 => ?_) (fun h13 => ?_)
 ·
  try simp only [NF] at h13
  exfalso; omega
 try simp only [NF] at h13
 refine J_exit (Jr (Jm rfl (Jm rfl (Jm rfl (Jm rfl ?_)))))
 refine Js rfl (step_call0 (insertOne_spec v c 0 n zG zG) ⟨Sr, Sr, Sr, Sr, trivial⟩ call150) (JL_nil (J_block ?_))
 refine J_loopL (σ := Unit) (fun _w => True) (fun _w => upd (upd (upd (upd env0 0 (rV.ty v)) 1 (tV (.int .i64 n))) 2 (tV c)) 6 (tV (.int .i64 20))) (fun _w => []) (fun _w => 0) () trivial (.u (.u (.u (SubE.upd Sr SubE.any)))) (LSub.rfl) ?_
 rintro _w hi
 refine J_seq (Jr (Jm rfl (Jm rfl (Js rfl (step_lss Sr Sr) (JL_nil ?_)))))
 refine J_cond Sr (fun h30 => ?_) (fun h30 => ?_)
 ·
  try simp only [NF] at h30
  exfalso; omega
 try simp only [NF] at h30
 refine J_exit ?_
 refine K_end0 rfl () Sr
theorem SortStableOne_spec (v c : Value) (xs : List (List Int)) (h : xs.length ≤ 1) : Spec (X := Unit) prog 102 [rV.ty v, tV c] ([own 27 (rSl rInt) v xs]) (fun _ => tTup []) (fun _ => [own 27 (rSl rInt) v xs]) := by
 refine Spec.enter func102 rfl rfl fun h0 w0 fr0 => ?_
 refine J_region (Jm rfl (Jm rfl ?_))
 refine Js rfl (step_len_own underlying28 Sr zS) ?_
 refine Jm rfl (Js rfl (step_call0 (stableOne_spec v c xs.length zG) ⟨Sr, Sr, Sr, trivial⟩ call127) (JL_nil ?_))
 refine K_end0 rfl () Sr
theorem Len64_spec (n : Nat) (h : n ≤ 1) : Fun1 prog 164 [tV (.int .u64 n)] (tV (.int .i64 n)) := by
 refine Spec.enter func164 rfl rfl fun h0 w0 fr0 => ?_
 refine Jr (Ja rfl (JL_nil (J_seq (Jr (Jm rfl ?_)))))
 refine Js rfl (step_geq Sr Sr) (JL_nil ?_)
 refine J_cond Sr (fun h4 => ?_) (fun h4 => ?_)
 ·
  try simp only [NF] at h4
  exfalso; omega
 try simp only [NF] at h4
 refine J_skip (J_seq (Jr (Jm rfl (Js rfl (step_geq Sr Sr) (JL_nil ?_)))))
 refine J_cond Sr (fun h8 => ?_) (fun h8 => ?_)
 ·
  try simp only [NF] at h8
  exfalso; omega
 try simp only [NF] at h8
 refine J_skip (J_seq (Jr (Jm rfl (Js rfl (step_geq Sr Sr) (JL_nil ?_)))))
 refine J_cond Sr (fun h14 => ?_) (fun h14 => ?_)
 ·
  try simp only [NF] at h14
  exfalso; omega
 try simp only [NF] at h14
 refine J_skip (Jr (Jm rfl (Jm rfl ?_)))
 refine Js rfl (step_convert_int (m := (n : Int)) underlying199 underlying5 Sr (by simp [IntKind.wrap, IntKind.bits, IntKind.signed]; omega)) ?_
 refine Js rfl (step_index_str (i := n) underlying9 Sr Sr (by rfl) (by show n < lenTab.size; rw [lenTab_size]; omega)) ?_
 refine Js rfl (step_convert_int (m := (n : Int)) underlying5 underlying3 Sr (by show IntKind.i64.wrap (nth (bytesOf lenTab) n) = _; rw [len_tab n h]; simp [IntKind.wrap, IntKind.bits, IntKind.signed]; omega)) ?_
 refine Js rfl (step_add Sr Sr z6) (Ja rfl (JL_nil (J_ret ?_)))
 refine K_ret1 (t := 2) rfl () (Sub.int zG)
theorem Len_spec (n : Nat) (h : n ≤ 1) : Fun1 prog 134 [tV (.int .u64 n)] (tV (.int .i64 n)) := by
 refine Spec.enter func134 rfl rfl fun h0 w0 fr0 => ?_
 refine Jr (Ja rfl (JL_nil (J_seq ?_)))
 refine J_cond Sr (fun hc1 => ?_) (fun hc1 => ?_)
 ·
  try simp only [NF] at hc1
  cases hc1
 try simp only [NF] at hc1
 refine J_skip (Jr (Jm rfl (Js rfl (step_call0 (Len64_spec n h) ⟨Sr, trivial⟩ call164) (Ja rfl (JL_nil ?_)))))
 refine J_ret ?_
 exact K_ret1 (t := 2) rfl () Sr
theorem pdqOne_spec (v c : Value) (b lim : Int) (h : 0 ≤ b ∧ b ≤ 1) : Fun1 prog 133 [rV.ty v, tV (.int .i64 0), tV (.int .i64 b), tV (.int .i64 lim), tV c] (tTup []) := by
 refine Spec.enter func133 rfl rfl fun h0 w0 fr0 => ?_
 refine Jr (Ja rfl (JL_nil (Jr (Ja rfl (JL_nil ?_)))))
 refine J_block ?_
 refine J_loopL (σ := Unit) (fun _u => True) (fun _u => upd (upd (upd (upd (upd env0 0 (rV.ty v)) 1 (tV (.int .i64 0))) 2 (tV (.int .i64 b))) 3 (tV (.int .i64 lim))) 4 (tV c)) (fun _u => []) (fun _u => 0) () trivial (.u (.u (.u (.u (SubE.upd Sr SubE.any))))) (LSub.rfl) ?_
 rintro _u hi
 refine J_block (Jr (Jm rfl (Jm rfl (Js rfl (step_sub Sr Sr z6) (Ja rfl ?_)))))
 refine JL_nil (J_seq (Jr (Jm rfl (Js rfl (step_leq Sr Sr) (JL_nil ?_)))))
 refine J_cond Sr (fun h25 => ?_) (fun h25 => ?_)
 ·
  try simp only [NF] at h25
  refine Jr (Jm rfl (Jm rfl (Jm rfl (Jm rfl (Js rfl (step_call0 (insertOne_spec v c 0 b zG zG) ⟨Sr, Sr, Sr, Sr, trivial⟩ call150) ?_)))))
  refine JL_nil (J_ret ?_)
  refine K_ret0 rfl () Sr
 try simp only [NF] at h25
 exfalso; omega
theorem SortOne_spec (v c : Value) (xs : List (List Int)) (h : xs.length ≤ 1) : Spec (X := Unit) prog 106 [rV.ty v, tV c] ([own 27 (rSl rInt) v xs]) (fun _ => tTup []) (fun _ => [own 27 (rSl rInt) v xs]) := by
 refine Spec.enter func106 rfl rfl fun h0 w0 fr0 => ?_
 refine Jr (Jm rfl ?_)
 refine Js rfl (step_len_own underlying28 Sr zS) ?_
 refine Ja rfl (JL_nil (J_region (Jm rfl (Jm rfl (Jm rfl ?_)))))
 refine Js rfl (step_convert_int (m := (xs.length : Int)) underlying3 underlying164 Sr (by simp [IntKind.wrap, IntKind.bits, IntKind.signed]; omega)) ?_
 refine Js rfl (step_call0 (Len_spec xs.length h) ⟨Sr, trivial⟩ call134) (Jm rfl (Js rfl (step_call0 (pdqOne_spec v c xs.length xs.length zG) ⟨Sr, Sr, Sr, Sr, Sr, trivial⟩ call133) (JL_nil ?_)))
 refine K_end0 rfl () Sr
set_option maxHeartbeats 1000000 in
theorem subs1_spec (l : List Int) (hl : l.length ≤ 6) : ItSpec prog 154 [tPtr (rSl rInt) l] [] (tLi) (okPre (subs l)) (fun p => p = (subs l)) := by
 intro M Mx
 refine Spec.enter func154 rfl rfl fun h0 w0 fr0 => ?_
 have hsl := subs_len l
 have hpw := pow_le6 hl
 refine Jr (Jl rfl ty27 Sr (Js rfl (step_len_sl underlying27 Sr) ?_))
 refine Js rfl (step_shl (n := l.length) (m := ((2 ^ l.length : Nat) : Int)) Sr Sr rfl zG (by rw [Int.one_mul, show (2 : Int) ^ l.length = ((2 ^ l.length : Nat) : Int) by simp]; exact wrap64_in z6)) ?_
 refine Jm rfl (JL_nil (J_block ?_))
 refine J_loopL (σ := Nat) (fun b => b ≤ 2 ^ l.length) (fun b => upd (upd (upd (upd env0 0 (tYield prog tLi (okPre (subs l)) M Mx)) 1 (tPtr (rSl rInt) l)) 9 (tV (.int .i64 ((2 ^ l.length : Nat) : Int)))) 10 (tV (.int .i64 b))) (fun b => [M ((subs l).take b)]) (fun b => 2 ^ l.length - b) 0 (Nat.zero_le _) (.u (.u (.u (SubE.upd Sr SubE.any)))) (LSub.of (by simp)) ?_
 rintro b hi
 refine Jr (Js rfl (step_lss Sr Sr) (JL_nil (J_seq ?_)))
 refine J_cond Sr (fun h11 => ?_) (fun h11 => ?_)
 ·
  try simp only [NF] at h11
  have hlb : b < 2 ^ l.length := by omega
  have hlb2 : b < (subs l).length := by omega
  refine J_skip (J_seq (J_block (Jr (Jm rfl (Ja rfl ?_)))))
  refine JL_nil (Jr (Ja rfl (JL_nil ?_)))
  refine K_lsub (LSub.nilown (e := 3) (R := rInt)) ?_
  refine J_seq (Jr (Jl rfl ty27 Sr (Js rfl (step_len_sl underlying27 Sr) (Jm rfl (JL_nil ?_)))))
  refine J_block ?_
  refine J_loopL (σ := Nat × Value) (fun ⟨i, vo⟩ => i ≤ l.length) (fun ⟨i, vo⟩ => upd (upd (upd (upd (upd (upd (upd (upd (upd (upd env0 0 (tYield prog tLi (okPre (subs l)) M Mx)) 1 (tPtr (rSl rInt) l)) 3 (tV (.int .i64 b))) 4 (rV.ty vo)) 9 (tV (.int .i64 ((2 ^ l.length : Nat) : Int)))) 10 (tV (.int .i64 b))) 12 (tV (.int .i64 b))) 13 (tSl rInt l)) 14 (tV (.int .i64 l.length))) 15 (tV (.int .i64 i))) (fun ⟨i, vo⟩ => [own 3 rInt vo (subB l b i), M ((subs l).take b)]) (fun ⟨i, vo⟩ => l.length - i) (0, .slice none 0 0) (Nat.zero_le _) (.u (.u (.u (.u (.u (.u (SubE.upd (Sub.rV rfl) (.u (.u (SubE.upd Sr SubE.any)))))))))) (LSub.cons zS (SPs.rfl) (LSub.cons zS (SPs.rfl) (LSub.nil))) ?_
  rintro ⟨i, vo⟩ hi
  try dsimp only at hi
  refine Jr (Js rfl (step_lss Sr Sr) (JL_nil (J_seq ?_)))
  refine J_cond Sr (fun h16 => ?_) (fun h16 => ?_)
  ·
   try simp only [NF] at h16
   have hlt : i < l.length := by omega
   refine J_skip (J_seq (J_block (Jr (Jm rfl ?_))))
   refine Js rfl (step_indexAddr_sl  underlying27 ty3 Sr Sr rfl (gb (by exact hlt))) ?_
   refine Jl rfl ty3 Sr (Ja rfl (Ja rfl (JL_nil (Jr (Jm rfl ?_)))))
   refine Jm rfl (Js rfl (step_shr (n := i) Sr Sr rfl zG) ?_)
   refine Js rfl (step_and1 (n := b / 2 ^ i) Sr Sr (by simp) rfl (by have := Nat.div_le_self b (2 ^ i); omega)) ?_
   refine Js rfl (step_eql Sr Sr) (JL_nil ?_)
   refine J_cond Sr (fun h24 => ?_) (fun h24 => ?_)
   ·
    try simp only [NF] at h24
    refine J_region (Jm rfl (Jm rfl ?_))
    refine Js rfl (step_literal (ys := [_]) underlying27 el3 ⟨rfl, Sr, trivial⟩ rfl (by decide)) ?_
    refine Jx rfl (step_append underlying27 el3 Sr Sr zS (by have := subB_len l b i; simp; omega) (by have := subB_len l b i; simp; omega)) fun v28 => ?_
    refine Ja rfl (JL_nil (J_region (Js rfl (step_add Sr Sr z6) (Jm rfl (JL_nil ?_)))))
    refine K_againL (σ := Nat × Value) (s := (i, vo)) (i + 1, v28) zO hlt (.u (.u (.u (.u (.u (.u (.u (.u (.u (SubE.upd Sr SubE.any)))))))))) (LSub.cons zS (own_eq (by rw [subB_succ, if_pos zG])) (LSub.cons zS (SPs.rfl) (LSub.nil)))
   try simp only [NF] at h24
   refine J_skip (J_region (Js rfl (step_add Sr Sr z6) (Jm rfl (JL_nil ?_))))
   refine K_againL (σ := Nat × Value) (s := (i, vo)) (i + 1, vo) zO hlt (.u (.u (.u (.u (.u (.u (.u (.u (.u (SubE.upd Sr SubE.any)))))))))) (LSub.cons zS (own_eq (by rw [subB_succ, if_neg zG])) (LSub.cons zS (SPs.rfl) (LSub.nil)))
  try simp only [NF] at h16
  have hie : i = l.length := by omega
  refine J_exit (Jr (Jm rfl (Jm rfl ?_)))
  refine JL_freeze (t := 31) (A' := tSl rInt (subB l b l.length)) (Sel.take (Sel.none _)) (Frz.own' (by rw [hie])) ?_
  refine Jx rfl (step_yield (T := tLi) (Ok := okPre (subs l)) (M := M) (Mx := Mx) (pre := ((subs l).take b)) (y := (subB l b l.length)) Sr (by show _ <+: _; rw [← subs_get hlb, ← takeB hlb2]; exact List.take_prefix _ _) (by exact ⟨Sr, trivial⟩) zS) fun v32 => ?_
  cases v32
  ·
   skip
   refine Js rfl (step_not Sr) (JL_nil ?_)
   refine J_cond Sr (fun hc4 => ?_) (fun hc4 => ?_)
   ·
    try simp only [NF] at hc4
    refine J_ret ?_
    refine K_itStop (Fin := fun p => p = (subs l)) (M := M) (Mx := Mx) (A := []) ?_ (((subs l).take b) ++ [(subB l b l.length)]) ?_
    ·
     rfl
    exact LSub.of rfl
   try simp only [NF] at hc4
   exfalso; simp_all
  skip
  refine Js rfl (step_not Sr) (JL_nil ?_)
  refine J_cond Sr (fun hc5 => ?_) (fun hc5 => ?_)
  ·
   try simp only [NF] at hc5
   exfalso; simp_all
  try simp only [NF] at hc5
  refine J_skip (J_region (Js rfl (step_add Sr Sr z6) (Jm rfl (JL_nil ?_))))
  refine K_againL (σ := Nat) (s := b) (b + 1) zO zG (.u (.u (.u (SubE.upd Sr SubE.any)))) (LSub.of (by rw [takeB hlb2, subs_get hlb]; rfl))
 try simp only [NF] at h11
 obtain rfl : b = 2 ^ l.length := by omega
 refine J_exit ?_
 refine K_endRet (K_itDone (Fin := fun p => p = (subs l)) (M := M) (Mx := Mx) (A := []) ?_ (subs l) rfl ?_)
 ·
  rfl
 exact LSub.of (by rw [List.take_of_length_le zG])
theorem subsets_spec (l : List Int) : Fun1 prog 131 [tSl rInt l] (tClo 154 [tPtr (rSl rInt) l]) := by
 refine Spec.enter func131 rfl rfl fun h0 w0 fr0 => ?_
 refine Jr (Js rfl (step_box (R := (rSl rInt)) Sr) (Ja rfl (JL_nil (Jr (Js rfl (step_makeFunc (As := [_]) ⟨Sr, trivial⟩) ?_)))))
 refine Ja rfl (JL_nil (J_ret ?_))
 exact K_ret1 (t := 2) rfl () Sr
open Go Go.Proofs Go.Proofs.Tryz
theorem ty135V : TyOf prog 135 rV := ⟨fun w => isAgg135 w, fun w => sizeOf135 w⟩
theorem okPre_mem {α : Type} {tot pre : List α} {y : α} (h : okPre tot (pre ++ [y])) : y ∈ tot := by
  obtain ⟨t, ht⟩ := h
  rw [← ht]; simp
theorem subs_ok {e : List Int} (hb : ∀ x ∈ e, 0 ≤ x ∧ x < 100) {y : List Int} (hy : y ∈ subs e) : y.length ≤ e.length ∧ ∀ x ∈ y, 0 ≤ x ∧ x < 100 := by
  unfold subs at hy
  obtain ⟨b, _, rfl⟩ := List.mem_map.1 hy
  exact ⟨subB_len e b e.length, fun x hx => hb x (subB_mem (Nat.le_refl _) hx)⟩
def oneE (es : List (List Int)) : Prop := es.length ≤ 1 ∧ ∀ e ∈ es, Inc e ∧ e ≠ [] ∧ e.length ≤ 6 ∧ ∀ x ∈ e, 0 ≤ x ∧ x < 100
theorem eqL_again {α : Type} [Inhabited α] {a b : List α} {i : Nat} (ha : i < a.length) (hb : i < b.length) (h : a.take i = b.take i) (he : nth a i = nth b i) : a.take (i + 1) = b.take (i + 1) := by
  rw [takeB ha, takeB hb, h, he]
theorem eqL_ne {α : Type} [Inhabited α] {a b : List α} {i : Nat} (he : nth a i ≠ nth b i) : a ≠ b := fun h => he (by rw [h])
def isSetM (l : List Int) (n : Int) : Bool := (List.range l.length).all fun i => decide (0 ≤ nth l i) && decide (nth l i < n) && (decide (i = 0) || decide (nth l (i - 1) < nth l i))
def costBad (c : Int) : Bool := decide (c < 0) || decide (1000000000 < c)
def weighedM (n : Int) (cost : List Int) : Bool := decide (0 ≤ n) && decide (n ≤ 4000) && decide ((cost.length : Int) = n) && !(cost.any costBad)
def validG1 (g : GGraph) : Bool := weighedM g.N g.Cost && (List.range g.Edges.length).all fun i => !decide ((nth g.Edges i).length = 0) && isSetM (nth g.Edges i) g.N
theorem EqualL_spec (a b : List Int) (ha : a.length ≤ 1000000000000) (hb : b.length ≤ 1000000000000) : Fun1 prog 68 [tSl rInt a, tSl rInt b] (tV (.bool (decide (a = b)))) := by
 refine Spec.enter func68 rfl rfl fun h0 w0 fr0 => ?_
 refine Jr (Ja rfl (JL_nil (J_seq (Jr (Jm rfl ?_)))))
 refine Js rfl (step_len_sl underlying27 Sr) (Jm rfl (Js rfl (step_len_sl underlying27 Sr) (Js rfl (step_neq Sr Sr) (JL_nil ?_))))
 refine J_cond Sr (fun h10 => ?_) (fun h10 => ?_)
 ·
  try simp only [NF] at h10
  refine Jr (Ja rfl (JL_nil (J_ret ?_)))
  refine K_ret1 (t := 4) rfl () ?_
  refine Sub.bool ?_
  rw [decide_eq_false (fun h => by subst h; exact absurd rfl h10)]
 try simp only [NF] at h10
 have hll : a.length = b.length := by omega
 refine J_skip (J_seq (Jr (Jm rfl (Js rfl (step_len_sl underlying27 Sr) (Jm rfl ?_)))))
 refine JL_nil (J_block ?_)
 refine J_loopL (σ := Nat) (fun i => i ≤ a.length ∧ a.take i = b.take i) (fun i => upd (upd (upd (upd env0 0 (tSl rInt a)) 1 (tSl rInt b)) 12 (tV (.int .i64 a.length))) 13 (tV (.int .i64 i))) (fun i => []) (fun i => a.length - i) 0 ⟨by omega, by simp⟩ (.u (.u (.u (SubE.upd Sr SubE.any)))) (LSub.rfl) ?_
 rintro i ⟨hi, hv⟩
 refine Jr (Js rfl (step_lss Sr Sr) (JL_nil (J_seq ?_)))
 refine J_cond Sr (fun h14 => ?_) (fun h14 => ?_)
 ·
  try simp only [NF] at h14
  have hlt : i < a.length := by omega
  have hlt2 : i < b.length := by omega
  refine J_skip (J_seq (J_block (Jr (Jm rfl (Ja rfl ?_)))))
  refine JL_nil (J_seq ?_)
  refine J_draw [⟨0, [0], true⟩, ⟨1, [5], true⟩, ⟨2, [16, 17], true⟩, ⟨3, [18], true⟩, ⟨4, [1], true⟩, ⟨5, [5], true⟩, ⟨6, [20, 21], true⟩, ⟨7, [22], true⟩, ⟨8, [19, 23], true⟩] rfl (by kernel_rfl) ?_
  refine Mv rfl rfl (Mv rfl rfl ?_)
  refine Mf rfl rfl (step_indexAddr_sl (i := i) underlying27 ty3 Sr Sr (by rfl) (gb (by exact hlt))) ?_
  refine Mf rfl rfl (step_load_ptr ty3 Sr) (Mv rfl rfl (Mv rfl rfl ?_))
  refine Mf rfl rfl (step_indexAddr_sl (i := i) underlying27 ty3 Sr Sr (by rfl) (gb (by exact hlt2))) ?_
  refine Mf rfl rfl (step_load_ptr ty3 Sr) (Mf rfl rfl (step_neq Sr Sr) (JM_nil ?_))
  refine J_cond Sr (fun h24 => ?_) (fun h24 => ?_)
  ·
   try simp only [NF] at h24
   refine Jr (Ja rfl (JL_nil (J_ret ?_)))
   refine K_ret1 (t := 4) rfl () ?_
   refine Sub.bool ?_
   rw [decide_eq_false (eqL_ne (i := i) (by first | exact h24 | simpa using h24))]
  try simp only [NF] at h24
  refine J_skip (J_region (Js rfl (step_add Sr Sr z6) (Jm rfl (JL_nil ?_))))
  refine K_againL (σ := Nat) (s := i) (i + 1) zO ⟨hlt, eqL_again hlt hlt2 hv (by first | exact h24 | simpa using h24)⟩ (.u (.u (.u (SubE.upd Sr SubE.any)))) (LSub.rfl)
 try simp only [NF] at h14
 refine J_exit (Jr (Ja rfl (JL_nil (J_ret ?_))))
 refine K_ret1 (t := 4) rfl () ?_
 refine Sub.bool ?_
 rw [decide_eq_true (by rw [List.take_of_length_le zG, List.take_of_length_le zG] at hv; exact hv)]
theorem EqualFuncL_spec (a b : List (List Int)) (ha : a.length ≤ 1000000000000) (hb : b.length ≤ 1000000000000) (hea : ∀ e ∈ a, e.length ≤ 1000000000000) (heb : ∀ e ∈ b, e.length ≤ 1000000000000) : Fun1 prog 66 [tSl (rSl rInt) a, tSl (rSl rInt) b, tV (.func (.func 68) #[] #[])] (tV (.bool (decide (a = b)))) := by
 refine Spec.enter func66 rfl rfl fun h0 w0 fr0 => ?_
 refine Jr (Ja rfl (JL_nil (J_seq (Jr (Jm rfl ?_)))))
 refine Js rfl (step_len_sl underlying28 Sr) (Jm rfl (Js rfl (step_len_sl underlying28 Sr) (Js rfl (step_neq Sr Sr) (JL_nil ?_))))
 refine J_cond Sr (fun h14 => ?_) (fun h14 => ?_)
 ·
  try simp only [NF] at h14
  refine Jr (Ja rfl (JL_nil (J_ret ?_)))
  refine K_ret1 (t := 6) rfl () ?_
  refine Sub.bool ?_
  rw [decide_eq_false (fun h => by subst h; exact absurd rfl h14)]
 try simp only [NF] at h14
 have hll : a.length = b.length := by omega
 refine J_skip (J_seq (Jr (Jm rfl (Js rfl (step_len_sl underlying28 Sr) (Jm rfl ?_)))))
 refine JL_nil (J_block ?_)
 refine J_loopL (σ := Nat) (fun i => i ≤ a.length ∧ a.take i = b.take i) (fun i => upd (upd (upd (upd (upd env0 1 (tSl (rSl rInt) b)) 2 (tV (.func (.func 68) #[] #[]))) 15 (tSl (rSl rInt) a)) 16 (tV (.int .i64 a.length))) 17 (tV (.int .i64 i))) (fun i => []) (fun i => a.length - i) 0 ⟨by omega, by simp⟩ (.u (.u (.u (.u (SubE.upd Sr SubE.any))))) (LSub.rfl) ?_
 rintro i ⟨hi, hv⟩
 refine Jr (Js rfl (step_lss Sr Sr) (JL_nil (J_seq ?_)))
 refine J_cond Sr (fun h18 => ?_) (fun h18 => ?_)
 ·
  try simp only [NF] at h18
  have hlt : i < a.length := by omega
  have hlt2 : i < b.length := by omega
  refine J_skip (J_seq (J_block (Jr (Jm rfl ?_))))
  refine Js rfl (step_indexAddr_sl  underlying28 ty27 Sr Sr rfl (gb (by exact hlt))) ?_
  refine Jl rfl ty27 Sr (Ja rfl (Ja rfl (JL_nil (Jr (Jm rfl ?_)))))
  refine Jm rfl ?_
  refine Js rfl (step_indexAddr_sl (i := i) underlying28 ty27 Sr Sr (by rfl) (gb (by exact hlt2))) ?_
  refine Jl rfl ty27 Sr (Ja rfl (JL_nil (Jr (Jm rfl (Jm rfl ?_)))))
  refine Jm rfl (Js rfl (step_callv0 (aT := [_, _]) (Sub.trans Sr Sub.clo0) (EqualL_spec _ _ (hea _ (nth_mem hlt)) (heb _ (nth_mem hlt2))) ⟨Sr, Sr, trivial⟩ call68) (Js rfl (step_not Sr) (JL_nil ?_)))
  refine J_cond Sr (fun h30 => ?_) (fun h30 => ?_)
  ·
   try simp only [NF] at h30
   refine Jr (Ja rfl (JL_nil (J_ret ?_)))
   refine K_ret1 (t := 6) rfl () ?_
   refine Sub.bool ?_
   rw [decide_eq_false (eqL_ne (i := i) (by first | exact h30 | simpa using h30))]
  try simp only [NF] at h30
  refine J_skip (J_region (Js rfl (step_add Sr Sr z6) (Jm rfl (JL_nil ?_))))
  refine K_againL (σ := Nat) (s := i) (i + 1) zO ⟨hlt, eqL_again hlt hlt2 hv (by first | exact h30 | simpa using h30)⟩ (.u (.u (.u (.u (SubE.upd Sr SubE.any))))) (LSub.rfl)
 try simp only [NF] at h18
 refine J_exit (Jr (Ja rfl (JL_nil (J_ret ?_))))
 refine K_ret1 (t := 6) rfl () ?_
 refine Sub.bool ?_
 rw [decide_eq_true (by rw [List.take_of_length_le zG, List.take_of_length_le zG] at hv; exact hv)]
theorem isSet_spec (l : List Int) (n : Int) (hl : l.length ≤ 1000000000000) : Fun1 prog 65 [tSl rInt l, tV (.int .i64 n)] (tV (.bool (isSetM l n))) := by
 refine Spec.enter func65 rfl rfl fun h0 w0 fr0 => ?_
 refine Jr (Ja rfl (JL_nil (J_seq (Jr (Jm rfl ?_)))))
 refine Js rfl (step_len_sl underlying27 Sr) (Jm rfl (JL_nil (J_block ?_)))
 refine J_loopL (σ := Nat) (fun i => i ≤ l.length ∧ ∀ k, k < i → (decide (0 ≤ nth l k) && decide (nth l k < n) && (decide (k = 0) || decide (nth l (k - 1) < nth l k))) = true) (fun i => upd (upd (upd (upd (upd env0 0 (tSl rInt l)) 1 (tV (.int .i64 n))) 7 (tSl rInt l)) 8 (tV (.int .i64 l.length))) 9 (tV (.int .i64 i))) (fun i => []) (fun i => l.length - i) 0 ⟨by omega, fun k hk => by omega⟩ (.u (.u (.u (.u (SubE.upd Sr SubE.any))))) (LSub.rfl) ?_
 rintro i ⟨hi, hv⟩
 refine Jr (Js rfl (step_lss Sr Sr) (JL_nil (J_seq ?_)))
 refine J_cond Sr (fun h10 => ?_) (fun h10 => ?_)
 ·
  try simp only [NF] at h10
  have hlt : i < l.length := by omega
  refine J_skip (J_seq (J_block (Jr (Jm rfl ?_))))
  refine Js rfl (step_indexAddr_sl  underlying27 ty3 Sr Sr rfl (gb (by exact hlt))) ?_
  refine Jl rfl ty3 Sr (Ja rfl (Ja rfl (JL_nil (Jr (Jm rfl ?_)))))
  refine Js rfl (step_lss Sr Sr) (Jm rfl (Jg rfl Sr rfl (fun hw => step_move Sr) (Jg rfl Sr rfl (fun hw => step_move Sr) (Jg rfl Sr rfl (fun hw => step_geq (Sub.w hw) (Sub.w hw)) (Js rfl (step_pick_or Sr Sr) ?_)))))
  refine Jm rfl (Jg rfl Sr rfl (fun hw => step_move Sr) (Jg rfl Sr rfl (fun hw => step_gtr (Sub.w hw) Sr) (Jg rfl Sr rfl (fun hw => step_move (Sub.w hw)) (Jh rfl Sr rfl (fun hw => step_move Sr) (Jh rfl Sr rfl (fun hw => step_move Sr) ?_)))))
  refine Jh rfl Sr rfl (fun hw => step_move Sr) ?_
  refine Jh rfl Sr rfl (fun hw => step_sub (Sub.w hw) Sr (by have hwq := hw; (try simp only [beqB_t, beqB_f, NF] at hwq); unfold in64; omega)) ?_
  refine Jh rfl Sr rfl (fun hw => step_indexAddr_sl (i := (i - 1)) underlying27 ty3 (Sub.w hw) (Sub.w hw) (by have hwq := hw; (try simp only [beqB_t, beqB_f, NF] at hwq); omega) (gb (by have hwq := hw; (try simp only [beqB_t, beqB_f, NF] at hwq); omega))) ?_
  refine Jh rfl Sr rfl (fun hw => step_load_ptr ty3 (Sub.w hw)) (Jh rfl Sr rfl (fun hw => step_leq (Sub.w hw) (Sub.w hw)) (Jg rfl Sr rfl (fun hw => step_pick_and (Sub.w hw) (Sub.ww hw)) (Js rfl (step_pick_or Sr Sr) (JL_nil ?_))))
  refine J_cond Sr (fun h33 => ?_) (fun h33 => ?_)
  ·
   try simp only [NF] at h33
   refine Jr (Ja rfl (JL_nil (J_ret ?_)))
   refine K_ret1 (t := 4) rfl () ?_
   refine Sub.bool ?_
   have : (decide (0 ≤ nth l i) && decide (nth l i < n) && (decide (i = 0) || decide (nth l (i - 1) < nth l i))) = false := by
    rcases h33 with (h | h) | h
    ·
     have : ¬ 0 ≤ nth l i := by omega
     simp [this]
    ·
     have : ¬ nth l i < n := by omega
     simp [this]
    have h1 : ¬ i = 0 := by omega
    have h2 : ¬ nth l (i - 1) < nth l i := by omega
    simp [h1, h2]
   have h2 : isSetM l n = false := rall_f (f := fun i => (decide (0 ≤ nth l i) && decide (nth l i < n) && (decide (i = 0) || decide (nth l (i - 1) < nth l i)))) hlt this
   rw [h2]
  try simp only [NF] at h33
  refine J_skip (J_region (Js rfl (step_add Sr Sr z6) (Jm rfl (JL_nil ?_))))
  refine K_againL (σ := Nat) (s := i) (i + 1) zO ?_ (.u (.u (.u (.u (SubE.upd Sr SubE.any))))) (LSub.rfl)
  refine ⟨by omega, fun k hk => ?_⟩
  by_cases e : k = i
  ·
   subst e
   obtain ⟨⟨a1, a2⟩, a3⟩ := h33
   simp only [Bool.and_eq_true, Bool.or_eq_true, decide_eq_true_eq]
   refine ⟨⟨by omega, by omega⟩, ?_⟩
   rcases a3 with a3 | a3
   ·
    left; omega
   right; omega
  exact hv k zG
 try simp only [NF] at h10
 refine J_exit (Jr (Ja rfl (JL_nil (J_ret ?_))))
 refine K_ret1 (t := 4) rfl () ?_
 refine Sub.bool ?_
 have h2 : isSetM l n = true := rall_t (fun k hk => hv k zG)
 rw [h2]
theorem costF_spec (c : Int) : Fun1 prog 100 [tV (.int .i64 c)] (tV (.bool (costBad c))) := by
 refine Spec.enter func100 rfl rfl fun h0 w0 fr0 => ?_
 refine Jr (Ja rfl (JL_nil (Jr (Jm rfl (Js rfl (step_lss Sr Sr) ?_)))))
 refine Jm rfl (Jg rfl Sr rfl (fun hw => step_move Sr) (Jg rfl Sr rfl (fun hw => step_gtr (Sub.w hw) Sr) (Js rfl (step_pick_or Sr Sr) (Ja rfl (JL_nil ?_)))))
 refine J_ret ?_
 refine K_ret1 (t := 2) rfl () ?_
 refine Sub.bool ?_
 simp [costBad]
theorem weighed_spec (n : Int) (cost : List Int) (hl : cost.length ≤ 1000000000000) : Fun1 prog 64 [tV (.int .i64 n), tSl rInt cost] (tV (.bool (weighedM n cost))) := by
 refine Spec.enter func64 rfl rfl fun h0 w0 fr0 => ?_
 refine Jr (Ja rfl (JL_nil (Jr (Jm rfl (Js rfl (step_geq Sr Sr) ?_)))))
 refine Jm rfl (Jg rfl Sr rfl (fun hw => step_move Sr) (Jg rfl Sr rfl (fun hw => step_leq (Sub.w hw) Sr) (Js rfl (step_pick_and Sr Sr) (Jm rfl (Jg rfl Sr rfl (fun hw => step_move Sr) ?_)))))
 refine Jg rfl Sr rfl (fun hw => step_len_sl underlying27 (Sub.w hw)) (Jg rfl Sr rfl (fun hw => step_move Sr) (Jg rfl Sr rfl (fun hw => step_eql (Sub.w hw) (Sub.w hw)) (Js rfl (step_pick_and Sr Sr) (Jm rfl (Jg rfl Sr rfl (fun hw => step_move Sr) ?_)))))
 refine Jg rfl Sr rfl (fun hw => step_call0 (ContainsFuncI_spec cost hl 100 [] costBad (fun x _ => costF_spec x) call100) ⟨Sub.w hw, Sub.clo0, trivial⟩ call42) (Jg rfl Sr rfl (fun hw => step_not (Sub.w hw)) (Js rfl (step_pick_and Sr Sr) (Ja rfl (JL_nil (J_ret ?_)))))
 refine K_ret1 (t := 4) rfl () ?_
 refine Sub.bool ?_
 simp [weighedM, Bool.and_assoc]
set_option maxHeartbeats 1000000 in
theorem above0_spec (e : List Int) (vo vk : Value) (hl : e.length ≤ 6) (hb : ∀ x ∈ e, 0 ≤ x ∧ x < 100) : Spec (X := Unit) prog 104 [tSl rInt e, rV.ty vo, rV.ty vk] ([mapOwn kvS rBool vk []]) (fun _ => tV (.bool false)) (fun _ => [mapOwn kvS rBool vk []]) := by
 refine Spec.enter func104 rfl rfl fun h0 w0 fr0 => ?_
 refine Jr (Js rfl (step_box (R := (rSl rInt)) Sr) ?_)
 refine Jx rfl (step_box_own (R := rV) Sr) fun v5 => ?_
 refine Jx rfl (step_alloc (fun w => zeroValue4 w) zr4) fun b6 => ?_
 refine JL_nil (J_seq (Jr (Jl rfl ty27 Sr (Js rfl (step_len_sl underlying27 Sr) (Js rfl (step_gtr Sr Sr) ?_)))))
 refine JL_nil ?_
 refine J_cond Sr (fun h10 => ?_) (fun h10 => ?_)
 ·
  try simp only [NF] at h10
  exfalso; omega
 try simp only [NF] at h10
 refine J_skip (J_seq (J_seq ?_))
 refine K_freeze (t := 5) zS Frz.box ?_
 refine J_region (Jl rfl ty27 Sr (Js rfl (step_call0 (subsets_spec e) ⟨Sr, trivial⟩ call131) (JL_nil (J_block ?_))))
 refine J_range (A := []) (T := tLi) (Ok := okPre (subs e)) (Fin := fun p => p = subs e) (R := [box b6 4 rBool false]) (fun _ => mapOwn kvS rBool vk []) (fun _ _ => SP.pure False) rfl (fun _ => rfl) rfl (subs1_spec e hl) Sr call154 (LSub.cons zS (SPs.rfl) (LSub.cons zS (SPs.rfl) (LSub.nil))) ?round1 ?done1 ?stop1
 case round1 =>
  intro l1 rec1 h2 w2 fr2 pre y hle1 hst1 hpd1 hdj1 hok
  refine J_region (Ja rfl (JL_nil ?_))
  refine K_begin hst1 hdj1 ?_
  have hys := okPre_mem hok
  obtain ⟨hyl, hyb⟩ := subs_ok hb hys
  refine J_block (J_seq ?_)
  refine J_draw [⟨0, [5], true⟩, ⟨1, [7], true⟩, ⟨2, [18], true⟩, ⟨3, [17, 19], false⟩] rfl (by kernel_rfl) ?_
  refine Mf rfl rfl (step_load_ptr ty135V Sr) (Mv rfl rfl ?_)
  refine Mf rfl rfl (step_call0 (textS_spec y (by have := hyl; omega) hyb) ⟨Sr, trivial⟩ call105) ?_
  refine JM_look rfl rfl rfl rfl (step_lookup (kv := kvS) (R := rBool) (z := false) (KeyT.str underlying9) underlying135 (fun w => zeroValue4 w) zr4 (Sub.trans Sr Sub.ofRV) Sr zS) ?_
  refine JM_nil ?_
  refine J_cond Sr (fun h20 => ?_) (fun h20 => ?_)
  ·
   try simp only [NF] at h20
   exfalso; simp [mget] at h20
  try simp only [NF] at h20
  refine J_skip ?_
  refine K_roundN hst1 hpd1 ?_
  exact LSub.rfl
 case done1 =>
  intro D1 xs hfin
  refine Jr ?_
  refine Ju (step_store_box ty4 Sr Sr zS) fun _ => ?_
  refine JL_nil (J_ret ?_)
  refine K_unmark (LSub.cons zS SPs.rfl LSub.rfl) ?_
  refine K_ret1' (rv := .cell 6 4) rfl () (Sel.take (Sel.none _)) (.cell ty4 Sr zS Sr) (Frz.sub Sr)
 case stop1 =>
  intro D1 c1 xs
  refine K_pure fun h => h.elim
end Lg
