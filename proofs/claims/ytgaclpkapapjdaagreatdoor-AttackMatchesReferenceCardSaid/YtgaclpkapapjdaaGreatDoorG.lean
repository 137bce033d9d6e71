/- Walks of the helpers of the laws and of head, of sets and closures; from a contract on representations to the rows. -/
import Derived.Test.YtgaclpkapapjdaaGreatDoorE
import Derived.Test.YtgaclpkapapjdaaGreatDoorCards
import Derived.Test.YtgaclpkapapjdaaGreatDoorTie
import Derived.Lib.LaidTab
import Derived.Stop.LaidErr
import Derived.ProofKit
import Derived.OpenShut
import Derived.Deep.DeepHandedRow
import Derived.Lay
set_option linter.unusedVariables false
set_option linter.unusedSimpArgs false
set_option linter.unusedSectionVars false
namespace Lg
open Go Go.Proofs Go.Proofs.Tryz
def fewM (q : GConj) (n : Int) : Bool := (List.range q.Atoms.length).all (fun i => decide ((nth q.Atoms i).Cols.length ≤ 14) && decide ((nth q.Atoms i).Terms.length ≤ 14)) && decide ((q.Atoms.length : Int) ≤ n) && decide (q.Consts.length ≤ 30) && decide (q.Vars ≤ 40)
theorem atom_ext {x y : GAtom} (h1 : x.Table = y.Table) (h2 : x.Key = y.Key) (h3 : x.Cols = y.Cols) (h4 : x.Terms = y.Terms) : x = y := by cases x; cases y; simp_all
theorem conj_ext {x y : GConj} (h1 : x.Vars = y.Vars) (h2 : x.Consts = y.Consts) (h3 : x.Atoms = y.Atoms) : x = y := by cases x; cases y; simp_all
instance : DecidableEq GAtom := fun a b => decidable_of_iff (a.Table = b.Table ∧ a.Key = b.Key ∧ a.Cols = b.Cols ∧ a.Terms = b.Terms) ⟨fun ⟨h1, h2, h3, h4⟩ => atom_ext h1 h2 h3 h4, fun h => by subst h; exact ⟨rfl, rfl, rfl, rfl⟩⟩
instance : DecidableEq GConj := fun a b => decidable_of_iff (a.Vars = b.Vars ∧ a.Consts = b.Consts ∧ a.Atoms = b.Atoms) ⟨fun ⟨h1, h2, h3⟩ => conj_ext h1 h2 h3, fun h => by subst h; exact ⟨rfl, rfl, rfl⟩⟩
/-- An atom whose columns are made. -/
structure GAtomC where
  Table : Int
  Cols : Value
  Terms : List Int
  Key : Int
def zAtomC : GAtomC := { Table := 0, Cols := Value.slice none 0 0, Terms := [], Key := 0 }
def fsAtomC : List (SF GAtomC) := [⟨Int, 3, rInt, GAtomC.Table⟩, ⟨Value, 36, rV, GAtomC.Cols⟩, ⟨List Int, 36, rSl rInt, GAtomC.Terms⟩, ⟨Int, 3, rInt, GAtomC.Key⟩]
abbrev rAtomC : Rp GAtomC := rStruct fsAtomC
theorem ty38C : TyOf prog 38 rAtomC := ⟨fun w => isAgg38 w, fun w => sizeOf38 w⟩
theorem so38C : StructOf prog 38 fsAtomC := ⟨⟨_, underlying38, ⟨rfl, rfl, ty3, by decide, ⟨rfl, rfl, ty36V38, by decide, ⟨rfl, rfl, ty36, by decide, ⟨rfl, rfl, ty3, by decide, trivial⟩⟩⟩⟩⟩, ty38C⟩
theorem zr38C : ∀ h, (rAtomC.ty zAtomC).p h (.agg #[Value.int .i64 0, Value.slice none 0 0, Value.slice none 0 0, Value.int .i64 0]) := fun _ => ⟨_, ⟨[Value.int .i64 0], _, rfl, rfl, ⟨[Value.slice none 0 0], _, rfl, ⟨rfl, rfl⟩, ⟨[Value.slice none 0 0], _, rfl, ⟨_, rfl, none, ⟨0, Nat.le_refl _⟩, rfl, fun q => absurd rfl q⟩, ⟨[Value.int .i64 0], _, rfl, rfl, rfl⟩⟩⟩⟩, rfl⟩
theorem Frz.atomC {b : Nat} {t k : Int} {vc : Value} {cols terms : List Int} {S : List SP} : Frz (Lg.box b 38 rAtomC ⟨t, vc, terms, k⟩ :: Lg.own 3 rInt vc cols :: S) (tAt b 0) (tPtr rAtom ⟨t, cols, terms, k⟩) :=
  Frz.upS fun h m cs d hs r => by
    obtain ⟨c0, _, rfl, r0, c1, _, rfl, r1, c2, _, rfl, r2, c3, _, rfl, r3, rz⟩ := r
    exact ⟨c0, _, rfl, rInt.mono (PH.le_join_left h m) r0, c1, _, rfl, ⟨_, r1.1, Frz.ownV h m vc d hs rfl⟩, c2, _, rfl, (rSl rInt).mono (PH.le_join_left h m) r2, c3, _, rfl, rInt.mono (PH.le_join_left h m) r3, rz⟩
def idL (n : Nat) : List Int := (List.range n).map fun (i : Nat) => (i : Int)
theorem idL_snoc (n : Nat) : idL (n + 1) = idL n ++ [(n : Int)] := by simp [idL, List.range_succ]
theorem idL_len (n : Nat) : (idL n).length = n := by simp [idL]
theorem step_eqTy {C : Cx} {o : Oper} {E : Env} {L : List SP} {A B : Ty} (h : Step1 C o E L A) (s : A = B) : Step1 C o E L B := s ▸ h
theorem Few_spec (q : GConj) (n : Int) (hl : q.Atoms.length ≤ 9223372036854775807) : Fun1 prog 15 [rConj.ty q, tV (.int .i64 n)] (tV (.bool (fewM q n))) := by
 refine Spec.enter func15 rfl rfl fun h0 w0 fr0 => ?_
 refine Jr (Js rfl (step_box (R := rConj) Sr) (Ja rfl (JL_nil (J_seq (Jr ?_)))))
 refine Ja rfl (JL_nil (J_block ?_))
 refine J_loopL (σ := Nat) (fun i => i ≤ q.Atoms.length ∧ ∀ i2, i2 < i → (decide ((nth q.Atoms i2).Cols.length ≤ 14) && decide ((nth q.Atoms i2).Terms.length ≤ 14)) = true) (fun i => upd (upd (upd env0 1 (tV (.int .i64 n))) 2 (tPtr rConj q)) 5 (tV (.int .i64 i))) (fun i => []) (fun i => q.Atoms.length - i) 0 ⟨Nat.zero_le _, fun k hk => by omega⟩ (zU) (LSub.rfl) ?_
 rintro i ⟨hi, hv⟩
 refine J_seq (Jr (Jm rfl (Js rfl (step_fieldAddr so25 Sr rfl) (Jl rfl ty23 Sr (Js rfl (step_len_sl underlying23 Sr) ?_)))))
 refine Js rfl (step_lss Sr Sr) (JL_nil ?_)
 refine J_cond Sr (fun h10 => ?_) (fun h10 => ?_)
 ·
  try simp only [NF] at h10
  have hlt : i < q.Atoms.length := by omega
  refine J_skip (J_seq (J_block (Jr (Js rfl (step_fieldAddr so25 Sr rfl) (Jl rfl ty23 Sr ?_)))))
  refine Jm rfl ?_
  refine Js rfl (step_indexAddr_sl (i := i) underlying23 ty38 Sr Sr (by rfl) (gb (by exact hlt))) ?_
  refine Js rfl (step_fieldAddr so38 Sr rfl) (Jl rfl ty36 Sr (Js rfl (step_len_sl underlying36 Sr) (Js rfl (step_gtr Sr Sr) (Jm rfl ?_))))
  refine Jk rfl Sr rfl (step_fieldAddr so25 Sr rfl) ?_
  refine Jg rfl Sr rfl (fun hw => step_load_ptr ty23 (Sub.w hw)) ?_
  refine Jk rfl Sr rfl (step_move Sr) ?_
  refine Jg rfl Sr rfl (fun hw => step_indexAddr_sl (i := i) underlying23 ty38 (Sub.w hw) (Sub.w hw) (by rfl) (gb (by have hwq := hw; (try simp only [beqB_t, beqB_f, NF] at hwq); exact hlt))) ?_
  refine Jg rfl Sr rfl (fun hw => step_fieldAddr so38 (Sub.w hw) rfl) (Jg rfl Sr rfl (fun hw => step_load_ptr ty36 (Sub.w hw)) (Jg rfl Sr rfl (fun hw => step_len_sl underlying36 (Sub.w hw)) (Jg rfl Sr rfl (fun hw => step_gtr (Sub.w hw) Sr) (Js rfl (step_pick_or Sr Sr) (JL_nil ?_)))))
  refine J_cond Sr (fun h30 => ?_) (fun h30 => ?_)
  ·
   try simp only [NF] at h30
   refine Jr (Ja rfl (JL_nil (J_ret ?_)))
   refine K_ret1 (t := 4) rfl () ?_
   refine Sub.bool ?_
   have h1 : (decide ((nth q.Atoms i).Cols.length ≤ 14) && decide ((nth q.Atoms i).Terms.length ≤ 14)) = false := by
    rcases h30 with h | h
    ·
     rw [decide_eq_false zG]; rfl
    rw [decide_eq_false (p := (nth q.Atoms i).Terms.length ≤ 14) zG, Bool.and_false]
   unfold fewM; rw [rall_f (f := fun i => (decide ((nth q.Atoms i).Cols.length ≤ 14) && decide ((nth q.Atoms i).Terms.length ≤ 14))) hlt h1]; simp
  try simp only [NF] at h30
  refine J_skip (J_region (Jm rfl (Js rfl (step_add Sr Sr z6) (Ja rfl (JL_nil ?_)))))
  refine K_againL (σ := Nat) (s := i) (i + 1) zO ?_ (zU) (LSub.rfl)
  refine ⟨by omega, fun k hk => ?_⟩
  by_cases e : k = i
  ·
   subst e
   rw [decide_eq_true zG, decide_eq_true zG]; rfl
  exact hv k zG
 try simp only [NF] at h10
 refine J_exit (Jr (Js rfl (step_fieldAddr so25 Sr rfl) (Jl rfl ty23 Sr (Js rfl (step_len_sl underlying23 Sr) (Jm rfl ?_)))))
 refine Js rfl (step_leq Sr Sr) (Jm rfl ?_)
 refine Jk rfl Sr rfl (step_fieldAddr so25 Sr rfl) ?_
 refine Jg rfl Sr rfl (fun hw => step_load_ptr ty22 (Sub.w hw)) (Jg rfl Sr rfl (fun hw => step_len_sl underlying22 (Sub.w hw)) (Jg rfl Sr rfl (fun hw => step_leq (Sub.w hw) Sr) (Js rfl (step_pick_and Sr Sr) (Jm rfl ?_))))
 refine Jk rfl Sr rfl (step_fieldAddr so25 Sr rfl) ?_
 refine Jg rfl Sr rfl (fun hw => step_load_ptr ty3 (Sub.w hw)) (Jg rfl Sr rfl (fun hw => step_leq (Sub.w hw) Sr) (Js rfl (step_pick_and Sr Sr) (Ja rfl (JL_nil (J_ret ?_)))))
 refine K_ret1 (t := 4) rfl () ?_
 refine Sub.bool ?_
 have h2 : (List.range q.Atoms.length).all (fun i => (decide ((nth q.Atoms i).Cols.length ≤ 14) && decide ((nth q.Atoms i).Terms.length ≤ 14))) = true := rall_t (fun k hk => hv k zG)
 unfold fewM; rw [h2]
 have e1 : decide ((q.Consts.length : Int) ≤ 30) = decide (q.Consts.length ≤ 30) := by simp; omega
 first | (rw [← e1]; simp [Bool.and_assoc]) | simp [Bool.and_assoc]
theorem Ints_spec (a b : List Int) (hb : b.length ≤ 1000000000000) : Fun1 prog 27 [tSl rInt a, tSl rInt b] (tV (.bool (decide (a = b)))) := by
 refine Spec.enter func27 rfl rfl fun h0 w0 fr0 => ?_
 refine Jr (Ja rfl (JL_nil (J_seq (Jr (Jm rfl ?_)))))
 refine Js rfl (step_len_sl underlying36 Sr) (Jm rfl (Js rfl (step_len_sl underlying36 Sr) (Js rfl (step_neq Sr Sr) (JL_nil ?_))))
 refine J_cond Sr (fun h10 => ?_) (fun h10 => ?_)
 ·
  try simp only [NF] at h10
  refine Jr (Ja rfl (JL_nil (J_ret ?_)))
  refine K_ret1 (t := 4) rfl () ?_
  refine Sub.bool ?_
  exact (decide_eq_false (fun e => h10 (by rw [e]))).symm
 try simp only [NF] at h10
 have hab : a.length = b.length := by omega
 refine J_skip (J_seq (Jr (Ja rfl (JL_nil (J_block ?_)))))
 refine J_loopL (σ := Nat) (fun i => i ≤ a.length ∧ a.take i = b.take i) (fun i => upd (upd (upd env0 0 (tSl rInt a)) 1 (tSl rInt b)) 5 (tV (.int .i64 i))) (fun i => []) (fun i => a.length - i) 0 ⟨Nat.zero_le _, by simp⟩ (zU) (LSub.rfl) ?_
 rintro i ⟨hi, hv⟩
 refine J_seq (Jr (Jm rfl (Jm rfl (Js rfl (step_len_sl underlying36 Sr) (Js rfl (step_lss Sr Sr) ?_)))))
 refine JL_nil ?_
 refine J_cond Sr (fun h14 => ?_) (fun h14 => ?_)
 ·
  try simp only [NF] at h14
  have hlt : i < a.length := by omega
  have hlb : i < b.length := by omega
  refine J_skip (J_seq (J_block (J_seq ?_)))
  refine J_draw [⟨0, [0], true⟩, ⟨1, [5], true⟩, ⟨2, [17, 18], true⟩, ⟨3, [19], true⟩, ⟨4, [1], true⟩, ⟨5, [5], true⟩, ⟨6, [21, 22], true⟩, ⟨7, [23], true⟩, ⟨8, [20, 24], true⟩] rfl (by kernel_rfl) ?_
  refine Mv rfl rfl (Mv rfl rfl ?_)
  refine Mf rfl rfl (step_indexAddr_sl (i := i) underlying36 ty3 Sr Sr (by rfl) (gb (by exact hlt))) ?_
  refine Mf rfl rfl (step_load_ptr ty3 Sr) (Mv rfl rfl (Mv rfl rfl ?_))
  refine Mf rfl rfl (step_indexAddr_sl (i := i) underlying36 ty3 Sr Sr (by rfl) (gb zG)) ?_
  refine Mf rfl rfl (step_load_ptr ty3 Sr) (Mf rfl rfl (step_neq Sr Sr) (JM_nil ?_))
  refine J_cond Sr (fun h25 => ?_) (fun h25 => ?_)
  ·
   try simp only [NF] at h25
   have hne : ¬ nth a i = nth b i := by first | exact h25 | simpa using h25
   refine Jr (Ja rfl (JL_nil (J_ret ?_)))
   refine K_ret1 (t := 4) rfl () ?_
   refine Sub.bool ?_
   exact (decide_eq_false (fun e => hne (by rw [e]))).symm
  try simp only [NF] at h25
  have heq : nth a i = nth b i := by first | exact h25 | simpa using h25
  refine J_skip (J_region (Jm rfl (Js rfl (step_add Sr Sr z6) (Ja rfl (JL_nil ?_)))))
  refine K_againL (σ := Nat) (s := i) (i + 1) zO ⟨by omega, by rw [takeB hlt, takeB hlb, hv, heq]⟩ (zU) (LSub.rfl)
 try simp only [NF] at h14
 obtain rfl : i = a.length := by omega
 refine J_exit (Jr (Ja rfl (JL_nil (J_ret ?_))))
 refine K_ret1 (t := 4) rfl () ?_
 refine Sub.bool ?_
 refine (decide_eq_true ?_).symm
 rw [List.take_length, hab, List.take_length] at hv; exact hv
theorem Rows_spec (a b : List GValue) (hb : b.length ≤ 1000000000000) : Fun1 prog 74 [tSl rValue a, tSl rValue b] (tV (.bool (decide (a = b)))) := by
 refine Spec.enter func74 rfl rfl fun h0 w0 fr0 => ?_
 refine Jr (Ja rfl (JL_nil (J_seq (Jr (Jm rfl ?_)))))
 refine Js rfl (step_len_sl underlying22 Sr) (Jm rfl (Js rfl (step_len_sl underlying22 Sr) (Js rfl (step_neq Sr Sr) (JL_nil ?_))))
 refine J_cond Sr (fun h10 => ?_) (fun h10 => ?_)
 ·
  try simp only [NF] at h10
  refine Jr (Ja rfl (JL_nil (J_ret ?_)))
  refine K_ret1 (t := 4) rfl () ?_
  refine Sub.bool ?_
  exact (decide_eq_false (fun e => h10 (by rw [e]))).symm
 try simp only [NF] at h10
 have hab : a.length = b.length := by omega
 refine J_skip (J_seq (Jr (Ja rfl (JL_nil (J_block ?_)))))
 refine J_loopL (σ := Nat) (fun i => i ≤ a.length ∧ a.take i = b.take i) (fun i => upd (upd (upd env0 0 (tSl rValue a)) 1 (tSl rValue b)) 5 (tV (.int .i64 i))) (fun i => []) (fun i => a.length - i) 0 ⟨Nat.zero_le _, by simp⟩ (zU) (LSub.rfl) ?_
 rintro i ⟨hi, hv⟩
 refine J_seq (Jr (Jm rfl (Jm rfl (Js rfl (step_len_sl underlying22 Sr) (Js rfl (step_lss Sr Sr) ?_)))))
 refine JL_nil ?_
 refine J_cond Sr (fun h14 => ?_) (fun h14 => ?_)
 ·
  try simp only [NF] at h14
  have hlt : i < a.length := by omega
  have hlb : i < b.length := by omega
  refine J_skip (J_seq (J_block (J_seq ?_)))
  refine J_draw [⟨0, [0], true⟩, ⟨1, [5], true⟩, ⟨2, [17, 18], true⟩, ⟨3, [19], true⟩, ⟨4, [1], true⟩, ⟨5, [5], true⟩, ⟨6, [21, 22], true⟩, ⟨7, [23], true⟩, ⟨8, [20, 24], true⟩] rfl (by kernel_rfl) ?_
  refine Mv rfl rfl (Mv rfl rfl ?_)
  refine Mf rfl rfl (step_indexAddr_sl (i := i) underlying22 ty87 Sr Sr (by rfl) (gb (by exact hlt))) ?_
  refine Mf rfl rfl (step_load_ptr ty87 Sr) (Mv rfl rfl (Mv rfl rfl ?_))
  refine Mf rfl rfl (step_indexAddr_sl (i := i) underlying22 ty87 Sr Sr (by rfl) (gb zG)) ?_
  refine Mf rfl rfl (step_load_ptr ty87 Sr) (Mf rfl rfl (step_neq_val Sr Sr) (JM_nil ?_))
  refine J_cond Sr (fun h25 => ?_) (fun h25 => ?_)
  ·
   try simp only [NF] at h25
   have hne : ¬ nth a i = nth b i := by first | exact h25 | simpa using h25
   refine Jr (Ja rfl (JL_nil (J_ret ?_)))
   refine K_ret1 (t := 4) rfl () ?_
   refine Sub.bool ?_
   exact (decide_eq_false (fun e => hne (by rw [e]))).symm
  try simp only [NF] at h25
  have heq : nth a i = nth b i := by first | exact h25 | simpa using h25
  refine J_skip (J_region (Jm rfl (Js rfl (step_add Sr Sr z6) (Ja rfl (JL_nil ?_)))))
  refine K_againL (σ := Nat) (s := i) (i + 1) zO ⟨by omega, by rw [takeB hlt, takeB hlb, hv, heq]⟩ (zU) (LSub.rfl)
 try simp only [NF] at h14
 obtain rfl : i = a.length := by omega
 refine J_exit (Jr (Ja rfl (JL_nil (J_ret ?_))))
 refine K_ret1 (t := 4) rfl () ?_
 refine Sub.bool ?_
 refine (decide_eq_true ?_).symm
 rw [List.take_length, hab, List.take_length] at hv; exact hv
set_option maxHeartbeats 4000000 in
theorem Same_spec (a b : GConj) (hc : b.Consts.length ≤ 1000000000) (ha : b.Atoms.length ≤ 1000000000) (hx : ∀ x ∈ b.Atoms, x.Cols.length ≤ 1000000000 ∧ x.Terms.length ≤ 1000000000) : Fun1 prog 24 [rConj.ty a, rConj.ty b] (tV (.bool (decide (a = b)))) := by
 refine Spec.enter func24 rfl rfl fun h0 w0 fr0 => ?_
 refine Jr (Js rfl (step_box (R := rConj) Sr) (Js rfl (step_box (R := rConj) Sr) (Ja rfl (JL_nil (J_seq ?_)))))
 refine Jr (Js rfl (step_fieldAddr so25 Sr rfl) (Jl rfl ty3 Sr (Js rfl (step_fieldAddr so25 Sr rfl) (Jl rfl ty3 Sr (Js rfl (step_neq Sr Sr) ?_)))))
 refine Jm rfl ?_
 refine Jk rfl Sr rfl (step_fieldAddr so25 Sr rfl) ?_
 refine Jg rfl Sr rfl (fun hw => step_load_ptr ty22 (Sub.w hw)) ?_
 refine Jk rfl Sr rfl (step_fieldAddr so25 Sr rfl) ?_
 refine Jg rfl Sr rfl (fun hw => step_load_ptr ty22 (Sub.w hw)) (Jg rfl Sr rfl (fun hw => step_call0 (Rows_spec a.Consts b.Consts zG) ⟨(Sub.w hw), (Sub.w hw), trivial⟩ call74) (Jg rfl Sr rfl (fun hw => step_not (Sub.w hw)) (Js rfl (step_pick_or Sr Sr) (Jm rfl ?_))))
 refine Jk rfl Sr rfl (step_fieldAddr so25 Sr rfl) ?_
 refine Jg rfl Sr rfl (fun hw => step_load_ptr ty23 (Sub.w hw)) (Jg rfl Sr rfl (fun hw => step_len_sl underlying23 (Sub.w hw)) ?_)
 refine Jk rfl Sr rfl (step_fieldAddr so25 Sr rfl) ?_
 refine Jg rfl Sr rfl (fun hw => step_load_ptr ty23 (Sub.w hw)) (Jg rfl Sr rfl (fun hw => step_len_sl underlying23 (Sub.w hw)) (Jg rfl Sr rfl (fun hw => step_neq (Sub.w hw) (Sub.w hw)) (Js rfl (step_pick_or Sr Sr) (JL_nil ?_))))
 refine J_cond Sr (fun h29 => ?_) (fun h29 => ?_)
 ·
  try simp only [NF] at h29
  refine Jr (Ja rfl (JL_nil (J_ret ?_)))
  refine K_ret1 (t := 4) rfl () ?_
  refine Sub.bool ?_
  refine (decide_eq_false (fun e => ?_)).symm
  subst e
  simp at h29
 try simp only [NF] at h29
 obtain ⟨⟨hv1, hv2⟩, hv3⟩ := h29
 have hab : a.Atoms.length = b.Atoms.length := by omega
 have hv2 : a.Consts = b.Consts := by simpa using hv2
 refine J_skip (J_seq (Jr (Ja rfl (JL_nil (J_block ?_)))))
 refine J_loopL (σ := Nat) (fun i => i ≤ a.Atoms.length ∧ a.Atoms.take i = b.Atoms.take i) (fun i => upd (upd (upd env0 2 (tPtr rConj a)) 3 (tPtr rConj b)) 5 (tV (.int .i64 i))) (fun i => []) (fun i => a.Atoms.length - i) 0 ⟨Nat.zero_le _, by simp⟩ (zU) (LSub.rfl) ?_
 rintro i ⟨hi, hv⟩
 refine J_seq (Jr (Jm rfl (Js rfl (step_fieldAddr so25 Sr rfl) (Jl rfl ty23 Sr (Js rfl (step_len_sl underlying23 Sr) ?_)))))
 refine Js rfl (step_lss Sr Sr) (JL_nil ?_)
 refine J_cond Sr (fun h34 => ?_) (fun h34 => ?_)
 ·
  try simp only [NF] at h34
  have hlt : i < a.Atoms.length := by omega
  have hlb : i < b.Atoms.length := by omega
  refine J_skip (J_seq (J_block (J_seq ?_)))
  refine J_drawZ [] [⟨0, [2], 0⟩, ⟨1, [37], 0⟩, ⟨2, [5], 0⟩, ⟨3, [38, 39], 0⟩, ⟨4, [40], 0⟩, ⟨5, [3], 0⟩, ⟨6, [42], 0⟩, ⟨7, [5], 0⟩, ⟨8, [43, 44], 0⟩, ⟨9, [45], 0⟩] [⟨10, [], 6, SP.emp, fun v => tAt (vN v) 0, fun v => box (vN v) 38 rAtom zAtom⟩, ⟨11, [], 7, SP.emp, fun v => tAt (vN v) 0, fun v => box (vN v) 38 rAtom zAtom⟩] [⟨12, [6, 41], 2⟩, ⟨13, [7, 46], 2⟩] (L := []) (LSub.trans LSub.emp LSub.emp) rfl (by kernel_rfl) (Nat.le_of_ble_eq_true rfl) ?_
  refine JF_step rfl rfl rfl rfl (fun _ => step_fieldAddr so25 Sr rfl) ?_
  refine JF_step rfl rfl rfl rfl (fun _ => step_load_ptr ty23 Sr) ?_
  refine JF_step rfl rfl rfl rfl (fun _ => step_move Sr) ?_
  refine JF_step rfl rfl rfl rfl (fun _ => step_indexAddr_sl (i := i) underlying23 ty38 Sr Sr (by rfl) (gb (by exact hlt))) ?_
  refine JF_step rfl rfl rfl rfl (fun _ => step_load_ptr ty38 Sr) ?_
  refine JF_step rfl rfl rfl rfl (fun _ => step_fieldAddr so25 Sr rfl) ?_
  refine JF_step rfl rfl rfl rfl (fun _ => step_load_ptr ty23 Sr) ?_
  refine JF_step rfl rfl rfl rfl (fun _ => step_move Sr) ?_
  refine JF_step rfl rfl rfl rfl (fun _ => step_indexAddr_sl (i := i) underlying23 ty38 Sr Sr (by rfl) (gb (by exact hlb))) ?_
  refine JF_step rfl rfl rfl rfl (fun _ => step_load_ptr ty38 Sr) ?_
  refine JF_nil ?_
  refine ⟨⟨_, rfl, rfl, rfl, rfl, fun _ => by refine Step.empty ?_; exact Step.emb ptrV (step_alloc (fun w => zeroValue38 w) zr38) (fun _ => rfl) (fun _ => rfl)⟩, fun v6 => ?_⟩
  refine ⟨⟨_, rfl, rfl, rfl, rfl, fun _ => by refine Step.empty ?_; exact Step.emb ptrV (step_alloc (fun w => zeroValue38 w) zr38) (fun _ => rfl) (fun _ => rfl)⟩, fun v7 => ?_⟩
  refine upP_in ?_
  refine JX_stepU rfl rfl rfl (step_store_box ty38 Sr Sr (Sel.skip (Sel.take (Sel.none _)))) fun _ => ?_
  refine JX_stepU rfl rfl rfl (step_store_box ty38 Sr Sr (Sel.skip (Sel.take (Sel.none _)))) fun _ => ?_
  refine JX_nil ?_
  refine K_freeze (t := 7) (A' := tPtr rAtom (nth b.Atoms i)) (Sel.take (Sel.none _)) Frz.box ?_
  refine K_freeze (t := 6) (A' := tPtr rAtom (nth a.Atoms i)) (Sel.take (Sel.none _)) Frz.box ?_
  refine Jr (Js rfl (step_fieldAddr so38 Sr rfl) (Jl rfl ty3 Sr (Js rfl (step_fieldAddr so38 Sr rfl) (Jl rfl ty3 Sr (Js rfl (step_neq Sr Sr) ?_)))))
  refine Jm rfl ?_
  refine Jk rfl Sr rfl (step_fieldAddr so38 Sr rfl) ?_
  refine Jg rfl Sr rfl (fun hw => step_load_ptr ty3 (Sub.w hw)) ?_
  refine Jk rfl Sr rfl (step_fieldAddr so38 Sr rfl) ?_
  refine Jg rfl Sr rfl (fun hw => step_load_ptr ty3 (Sub.w hw)) (Jg rfl Sr rfl (fun hw => step_neq (Sub.w hw) (Sub.w hw)) (Js rfl (step_pick_or Sr Sr) (Jm rfl ?_)))
  refine Jk rfl Sr rfl (step_fieldAddr so38 Sr rfl) ?_
  refine Jg rfl Sr rfl (fun hw => step_load_ptr ty36 (Sub.w hw)) ?_
  refine Jk rfl Sr rfl (step_fieldAddr so38 Sr rfl) ?_
  refine Jg rfl Sr rfl (fun hw => step_load_ptr ty36 (Sub.w hw)) ?_
  refine Jg rfl Sr rfl (fun hw => step_call0 (Ints_spec (nth a.Atoms i).Cols (nth b.Atoms i).Cols (by have := hx _ (nth_mem hlb); omega)) ⟨(Sub.w hw), (Sub.w hw), trivial⟩ call27) ?_
  refine Jg rfl Sr rfl (fun hw => step_not (Sub.w hw)) (Js rfl (step_pick_or Sr Sr) (Jm rfl ?_))
  refine Jk rfl Sr rfl (step_fieldAddr so38 Sr rfl) ?_
  refine Jg rfl Sr rfl (fun hw => step_load_ptr ty36 (Sub.w hw)) ?_
  refine Jk rfl Sr rfl (step_fieldAddr so38 Sr rfl) ?_
  refine Jg rfl Sr rfl (fun hw => step_load_ptr ty36 (Sub.w hw)) ?_
  refine Jg rfl Sr rfl (fun hw => step_call0 (Ints_spec (nth a.Atoms i).Terms (nth b.Atoms i).Terms (by have := hx _ (nth_mem hlb); omega)) ⟨(Sub.w hw), (Sub.w hw), trivial⟩ call27) ?_
  refine Jg rfl Sr rfl (fun hw => step_not (Sub.w hw)) (Js rfl (step_pick_or Sr Sr) (JL_nil ?_))
  refine J_cond Sr (fun h74 => ?_) (fun h74 => ?_)
  ·
   try simp only [NF] at h74
   refine Jr (Ja rfl (JL_nil (J_ret ?_)))
   refine K_ret1 (t := 4) rfl () ?_
   refine Sub.bool ?_
   refine (decide_eq_false (fun e => ?_)).symm
   subst e
   simp at h74
  try simp only [NF] at h74
  have heq : (nth a.Atoms i) = (nth b.Atoms i) := by obtain ⟨⟨⟨q1, q2⟩, q3⟩, q4⟩ := h74; exact atom_ext q1 q2 (by simpa using q3) (by simpa using q4)
  refine J_skip (J_region (Jm rfl (Js rfl (step_add Sr Sr z6) (Ja rfl (JL_nil ?_)))))
  refine K_againL (σ := Nat) (s := i) (i + 1) zO ⟨by omega, by rw [takeB hlt, takeB hlb, hv, heq]⟩ (zU) (LSub.rfl)
 try simp only [NF] at h34
 obtain rfl : i = a.Atoms.length := by omega
 refine J_exit (Jr (Ja rfl (JL_nil (J_ret ?_))))
 refine K_ret1 (t := 4) rfl () ?_
 refine Sub.bool ?_
 refine (decide_eq_true ?_).symm
 rw [List.take_length, hab, List.take_length] at hv; exact conj_ext hv1 hv2 hv
set_option maxHeartbeats 1000000 in
theorem atomE_spec (t k : Int) (ts : List Int) (hl : ts.length ≤ 1000000000) : Fun1 prog 49 [tV (.int .i64 t), tV (.int .i64 k), tSl rInt ts] (rAtom.ty (atE t k ts)) := by
 refine Spec.enter func49 rfl rfl fun h0 w0 fr0 => ?_
 refine Jr ?_
 refine Jx rfl (step_alloc (fun w => zeroValue38 w) zr38) fun v6 => ?_
 refine JL_nil (Jr (Jm rfl (Jm rfl (Jm rfl (Js rfl (step_build (x := (⟨t, (.slice none 0 0), ts, k⟩ : GAtomC)) (zs := [[Value.int .i64 0], [Value.slice none 0 0], [Value.slice none 0 0], [Value.int .i64 0]]) so38C (fun w => zeroValue38 w) ⟨Sr, Sr, Sr, trivial⟩ ⟨⟨Sr, rfl⟩, fun _ => ⟨rfl, rfl⟩, ⟨Sr, rfl⟩, ⟨Sr, rfl⟩, trivial⟩) ?_)))))
 refine Jx rfl (step_alloc (fun w => zeroValue38 w) zr38C) fun v7 => ?_
 refine Ju (step_store_box ty38C Sr Sr zS) fun _ => ?_
 refine JL_nil (J_seq (Jr (Ja rfl (JL_nil (J_block ?_)))))
 refine J_loopL (σ := Nat × Value) (fun ⟨i, vc⟩ => i ≤ ts.length) (fun ⟨i, vc⟩ => upd (upd (upd (upd env0 2 (tSl rInt ts)) 6 (tAt v6 0)) 7 (tAt v7 0)) 8 (tV (.int .i64 i))) (fun ⟨i, vc⟩ => [box v7 38 rAtomC (⟨t, vc, ts, k⟩ : GAtomC), own 3 rInt vc (idL i), box v6 38 rAtom zAtom]) (fun ⟨i, vc⟩ => ts.length - i) (0, (.slice none 0 0)) (by simp) (zU) (LSub.trans (LSub.nilown (e := 3) (R := rInt)) (zL)) ?_
 rintro ⟨i, vc⟩ hil
 try dsimp only at hil
 refine J_seq (Jr (Jm rfl (Jm rfl (Js rfl (step_len_sl underlying36 Sr) (Js rfl (step_lss Sr Sr) ?_)))))
 refine JL_nil ?_
 refine J_cond Sr (fun h16 => ?_) (fun h16 => ?_)
 ·
  try simp only [NF] at h16
  have hlt : i < ts.length := by omega
  refine J_skip (J_seq (J_block (J_region (Js rfl (step_fieldAddr_own so38C Sr rfl) ?_))))
  refine Js rfl (step_load_fld ty36V38 Sr rfl zS) ?_
  refine Jm rfl ?_
  refine Js rfl (step_literal (ys := [_]) underlying36 el3 ⟨rfl, Sr, trivial⟩ rfl (by decide)) ?_
  refine Jx rfl (step_append underlying36 el3 Sr Sr zS (by rw [idL_len]; simp; omega) (by rw [idL_len]; simp; omega)) fun v23 => ?_
  refine Js rfl (step_fieldAddr_own so38C Sr rfl) ?_
  refine Ju (step_store_fld (R := rV) (y' := (⟨t, v23, ts, k⟩ : GAtomC)) ty36V38 Sr Sr zS (by exact ⟨rfl, ⟨fun _ _ q => q, rfl, by intro g hg; simp only [List.mem_cons, List.not_mem_nil, or_false] at hg; rcases hg with rfl | rfl <;> rfl⟩⟩)) fun _ => ?_
  refine JL_nil (J_region (Jm rfl (Js rfl (step_add Sr Sr z6) (Ja rfl (JL_nil ?_)))))
  refine K_againL (σ := Nat × Value) (s := (i, vc)) (i + 1, v23) zO zG (zU) (.r zS (.c zS (SPs.of (A := own 3 rInt v23 (idL i ++ [(i : Int)])) (by rw [idL_snoc])) (zL)))
 try simp only [NF] at h16
 obtain rfl : i = ts.length := by omega
 refine J_exit (J_seq ?_)
 refine K_freeze (t := 7) (A' := tPtr rAtom (atE t k ts)) (Sel.take (Sel.take (Sel.none _))) Frz.atomC ?_
 refine J_region (Jl rfl ty38 Sr ?_)
 refine Ju (step_store_box ty38 Sr Sr zS) fun _ => ?_
 refine JL_nil (J_ret ?_)
 refine K_ret1' (rv := .cell 6 38) rfl () (Sel.all _) (.cell ty38 Sr zS Sr) (Frz.sub Sr)
theorem bothE_spec (a b : GAtom) : Fun1 prog 48 [rAtom.ty a, rAtom.ty b] (rConj.ty (boE a b)) := by
 refine Spec.enter func48 rfl rfl fun h0 w0 fr0 => ?_
 refine Jr (Js rfl (step_box (R := rAtom) Sr) (Js rfl (step_box (R := rAtom) Sr) ?_))
 refine Jx rfl (step_alloc (fun w => zeroValue25 w) zr25) fun v4 => ?_
 refine JL_nil (Jr (Jl rfl ty38 Sr (Jl rfl ty38 Sr ?_)))
 refine Js rfl (step_literal (ys := [_, _]) underlying23 el38 ⟨rfl, Sr, rfl, Sr, trivial⟩ rfl (by decide)) ?_
 refine Js rfl (step_build (x := (⟨3, [], [a, b]⟩ : GConj)) (zs := [[Value.int .i64 0], [Value.slice none 0 0], [Value.slice none 0 0]]) so25 (fun w => zeroValue25 w) ⟨Sr, Sr, trivial⟩ ⟨⟨Sr, rfl⟩, fun _ => ⟨_, rfl, none, ⟨0, Nat.le_refl _⟩, rfl, fun q => absurd rfl q⟩, ⟨Sr, rfl⟩, trivial⟩) ?_
 refine Ju (step_store_box ty25 Sr Sr zS) fun _ => ?_
 refine JL_nil (J_ret ?_)
 refine K_ret1' (rv := .cell 4 25) rfl () (Sel.all _) (.cell ty25 Sr zS Sr) (Frz.sub Sr)
set_option maxHeartbeats 4000000 in
theorem says_spec (q : GConj) (x y f : Bool) (hq : validQ q = true) (hl : attL q = [[false, x], [y, false]]) (hf : firstM q = f) : Fun1 prog 47 [rConj.ty q, tV (.bool x), tV (.bool y), tV (.bool f)] (tV (.bool true)) := by
 refine Spec.enter func47 rfl rfl fun h0 w0 fr0 => ?_
 refine Jr (Js rfl (step_box (R := rConj) Sr) (Ja rfl (JL_nil (Jr (Jl rfl ty25 Sr ?_)))))
 refine Js rfl (step_eqTy (B := tTup [tSl (rSl rBool) [[false, x], [y, false]], tV (.int .i64 0)]) (step_call0 (Attacks_spec q) (by exact ⟨Sr, trivial⟩) call17) (by rw [errV, if_pos hq, if_pos hq, hl])) ?_
 refine Jm rfl (Js rfl (step_extract Sr rfl) (Js rfl (step_extract Sr rfl) (Ja rfl (Ja rfl (JL_nil ?_)))))
 refine Jr (Jl rfl ty25 Sr ?_)
 refine Js rfl (step_eqTy (B := tTup [tV (.bool f), tV (.int .i64 0)]) (step_call0 (FirstOrder_spec q) (by exact ⟨Sr, trivial⟩) call18) (by rw [errV, if_pos hq, hq, hf, Bool.true_and])) ?_
 refine Jm rfl (Js rfl (step_extract Sr rfl) (Js rfl (step_extract Sr rfl) (Ja rfl (Ja rfl (JL_nil ?_)))))
 refine Jr (Jm rfl (Js rfl (step_eql Sr Sr) (Jm rfl ?_)))
 refine Jk rfl Sr rfl (step_move Sr) ?_
 refine Jg rfl Sr rfl (fun hw => step_eql (Sub.w hw) Sr) (Js rfl (step_pick_and Sr Sr) (Jm rfl ?_))
 refine Jk rfl Sr rfl (step_move Sr) ?_
 refine Jk rfl Sr rfl (step_move Sr) ?_
 refine Jg rfl Sr rfl (fun hw => step_eql_bool underlying4 (Sub.w hw) (Sub.w hw)) (Js rfl (step_pick_and Sr Sr) (Jm rfl ?_))
 refine Jk rfl Sr rfl (step_move Sr) ?_
 refine Jg rfl Sr rfl (fun hw => step_len_sl underlying29 (Sub.w hw)) (Jg rfl Sr rfl (fun hw => step_eql (Sub.w hw) Sr) (Js rfl (step_pick_and Sr Sr) (Jm rfl ?_)))
 refine Jk rfl Sr rfl (step_move Sr) ?_
 refine Jg rfl Sr rfl (fun hw => step_indexAddr_sl (i := 0) underlying29 ty35 (Sub.w hw) Sr (by rfl) (gb (by have hwq := hw; (try simp only [beqB_t, beqB_f, NF] at hwq); simp [nth]))) ?_
 refine Jg rfl Sr rfl (fun hw => step_load_ptr ty35 (Sub.w hw)) (Jg rfl Sr rfl (fun hw => step_len_sl underlying35 (Sub.w hw)) (Jg rfl Sr rfl (fun hw => step_eql (Sub.w hw) Sr) (Js rfl (step_pick_and Sr Sr) (Jm rfl ?_))))
 refine Jk rfl Sr rfl (step_move Sr) ?_
 refine Jg rfl Sr rfl (fun hw => step_indexAddr_sl (i := 1) underlying29 ty35 (Sub.w hw) Sr (by rfl) (gb (by have hwq := hw; (try simp only [beqB_t, beqB_f, NF] at hwq); simp [nth]))) ?_
 refine Jg rfl Sr rfl (fun hw => step_load_ptr ty35 (Sub.w hw)) (Jg rfl Sr rfl (fun hw => step_len_sl underlying35 (Sub.w hw)) (Jg rfl Sr rfl (fun hw => step_eql (Sub.w hw) Sr) (Js rfl (step_pick_and Sr Sr) (Jm rfl ?_))))
 refine Jk rfl Sr rfl (step_move Sr) ?_
 refine Jg rfl Sr rfl (fun hw => step_indexAddr_sl (i := 0) underlying29 ty35 (Sub.w hw) Sr (by rfl) (gb (by have hwq := hw; (try simp only [beqB_t, beqB_f, NF] at hwq); simp [nth]))) ?_
 refine Jg rfl Sr rfl (fun hw => step_load_ptr ty35 (Sub.w hw)) ?_
 refine Jg rfl Sr rfl (fun hw => step_indexAddr_sl (i := 1) underlying35 ty4 (Sub.w hw) Sr (by rfl) (gb (by have hwq := hw; (try simp only [beqB_t, beqB_f, NF] at hwq); simp [nth]))) ?_
 refine Jg rfl Sr rfl (fun hw => step_load_ptr ty4 (Sub.w hw)) ?_
 refine Jk rfl Sr rfl (step_move Sr) ?_
 refine Jg rfl Sr rfl (fun hw => step_eql_bool underlying4 (Sub.w hw) (Sub.w hw)) (Js rfl (step_pick_and Sr Sr) (Jm rfl ?_))
 refine Jk rfl Sr rfl (step_move Sr) ?_
 refine Jg rfl Sr rfl (fun hw => step_indexAddr_sl (i := 1) underlying29 ty35 (Sub.w hw) Sr (by rfl) (gb (by have hwq := hw; (try simp only [beqB_t, beqB_f, NF] at hwq); simp [nth]))) ?_
 refine Jg rfl Sr rfl (fun hw => step_load_ptr ty35 (Sub.w hw)) ?_
 refine Jg rfl Sr rfl (fun hw => step_indexAddr_sl (i := 0) underlying35 ty4 (Sub.w hw) Sr (by rfl) (gb (by have hwq := hw; (try simp only [beqB_t, beqB_f, NF] at hwq); simp [nth]))) ?_
 refine Jg rfl Sr rfl (fun hw => step_load_ptr ty4 (Sub.w hw)) ?_
 refine Jk rfl Sr rfl (step_move Sr) ?_
 refine Jg rfl Sr rfl (fun hw => step_eql_bool underlying4 (Sub.w hw) (Sub.w hw)) (Js rfl (step_pick_and Sr Sr) (Jm rfl ?_))
 refine Jk rfl Sr rfl (step_move Sr) ?_
 refine Jg rfl Sr rfl (fun hw => step_indexAddr_sl (i := 0) underlying29 ty35 (Sub.w hw) Sr (by rfl) (gb (by have hwq := hw; (try simp only [beqB_t, beqB_f, NF] at hwq); simp [nth]))) ?_
 refine Jg rfl Sr rfl (fun hw => step_load_ptr ty35 (Sub.w hw)) ?_
 refine Jg rfl Sr rfl (fun hw => step_indexAddr_sl (i := 0) underlying35 ty4 (Sub.w hw) Sr (by rfl) (gb (by have hwq := hw; (try simp only [beqB_t, beqB_f, NF] at hwq); simp [nth]))) ?_
 refine Jg rfl Sr rfl (fun hw => step_load_ptr ty4 (Sub.w hw)) (Jg rfl Sr rfl (fun hw => step_not (Sub.w hw)) (Js rfl (step_pick_and Sr Sr) (Jm rfl ?_)))
 refine Jk rfl Sr rfl (step_move Sr) ?_
 refine Jg rfl Sr rfl (fun hw => step_indexAddr_sl (i := 1) underlying29 ty35 (Sub.w hw) Sr (by rfl) (gb (by have hwq := hw; (try simp only [beqB_t, beqB_f, NF] at hwq); simp [nth]))) ?_
 refine Jg rfl Sr rfl (fun hw => step_load_ptr ty35 (Sub.w hw)) ?_
 refine Jg rfl Sr rfl (fun hw => step_indexAddr_sl (i := 1) underlying35 ty4 (Sub.w hw) Sr (by rfl) (gb (by have hwq := hw; (try simp only [beqB_t, beqB_f, NF] at hwq); simp [nth]))) ?_
 refine Jg rfl Sr rfl (fun hw => step_load_ptr ty4 (Sub.w hw)) (Jg rfl Sr rfl (fun hw => step_not (Sub.w hw)) (Js rfl (step_pick_and Sr Sr) (Ja rfl (JL_nil (J_ret ?_)))))
 refine K_ret1 (t := 8) rfl () ?_
 refine Sub.bool ?_
 simp [nth]
open Go Go.Proofs Go.Proofs.Tryz
abbrev sA : ByteArray := ⟨#[97]⟩
abbrev sB : ByteArray := ⟨#[98]⟩
abbrev sTt : ByteArray := ⟨#[116]⟩
abbrev sX : ByteArray := ⟨#[120]⟩
abbrev exA : List GAttr := [⟨sA, 1, [], zValue⟩, ⟨sB, 1, [], zValue⟩]
abbrev exS : GSchema := ⟨[⟨sTt, exA, [1]⟩]⟩
abbrev exX : GValue := ⟨1, 0, sX⟩
abbrev exT : GTest := ⟨zSide, 1, ⟨-1, 0, exX⟩, 0⟩
abbrev exT0 : GTest := ⟨zSide, 1, zSide, 0⟩
abbrev exP : GPlan := GPl.mk 1 0 [] [] [] 0 0 exA
abbrev exSel : GPlan := GPl.mk 2 0 [exP] [exT] [] 0 0 exA
abbrev exSelf : GPlan := GPl.mk 2 0 [exP] [exT0] [] 0 0 exA
abbrev exQ1 : GConj := ⟨2, [], [⟨0, [1, 0], [0, 1], 1⟩]⟩
abbrev exQ2 : GConj := ⟨1, [exX], [⟨0, [1, 0], [0, -1], 1⟩]⟩
theorem exSz : SchSz exS := ⟨by decide, fun t ht => by
  rw [List.mem_singleton.1 ht]
  exact ⟨by decide, by decide, by decide, by decide, by decide⟩⟩
theorem of_e1 : ofM exS 1 exP = (exQ1, 0) := by decide +kernel
theorem of_e2 : ofM exS 2 exSel = (exQ2, 0) := by decide +kernel
theorem of_e3 : ofM exS 2 exSelf = (zConj', 11) := by decide +kernel
theorem sz_e1 : PlSz 1 exP := ⟨by decide, by decide, by decide, by decide, fun q hq => by cases hq⟩
theorem sz_e2 : PlSz 2 exSel := ⟨by decide, by decide, by decide, by decide, fun q hq => by rw [List.mem_singleton.1 hq]; exact ⟨sz_e1, by decide⟩⟩
theorem sz_e3 : PlSz 2 exSelf := ⟨by decide, by decide, by decide, by decide, fun q hq => by rw [List.mem_singleton.1 hq]; exact ⟨sz_e1, by decide⟩⟩
theorem dep_e1 : Dep 1 exP := by intro q hq; cases hq
theorem dep_e2 : Dep 2 exSel := by intro q hq; rw [List.mem_singleton.1 hq]; exact dep_e1
theorem dep_e3 : Dep 2 exSelf := by intro q hq; rw [List.mem_singleton.1 hq]; exact dep_e1
set_option maxHeartbeats 8000000 in
theorem head36_spec  : Fun1 prog 14 [] (tV (.bool true)) := by
 refine Spec.enter func14 rfl rfl fun h0 w0 fr0 => ?_
 refine Jr (Ja rfl (JL_nil (Jr ?_)))
 refine Js rfl (step_literal (ys := [0, 1]) underlying36 el3 ⟨rfl, Sr, rfl, Sr, trivial⟩ rfl (by decide)) ?_
 refine Js rfl (step_call0 (atomE_spec 0 1 [0, 1] (by decide)) ⟨Sr, Sr, Sr, trivial⟩ call49) ?_
 refine Js rfl (step_literal (ys := [1, 2]) underlying36 el3 ⟨rfl, Sr, rfl, Sr, trivial⟩ rfl (by decide)) ?_
 refine Js rfl (step_call0 (atomE_spec 1 1 [1, 2] (by decide)) ⟨Sr, Sr, Sr, trivial⟩ call49) ?_
 refine Js rfl (step_call0 (bothE_spec (atE 0 1 [0, 1]) (atE 1 1 [1, 2])) ⟨Sr, Sr, trivial⟩ call48) (Js rfl (step_call0 (says_spec aq1 true false true aq1_ok.1 aq1_ok.2.1 aq1_ok.2.2) ⟨Sr, Sr, Sr, Sr, trivial⟩ call47) (Jm rfl ?_))
 refine Jk rfl Sr rfl (step_literal (ys := [0, 1]) underlying36 el3 ⟨rfl, Sr, rfl, Sr, trivial⟩ rfl (by decide)) ?_
 refine Jg rfl Sr rfl (fun hw => step_call0 (atomE_spec 0 1 [0, 1] (by decide)) ⟨Sr, Sr, (Sub.w hw), trivial⟩ call49) ?_
 refine Jk rfl Sr rfl (step_literal (ys := [1, 0]) underlying36 el3 ⟨rfl, Sr, rfl, Sr, trivial⟩ rfl (by decide)) ?_
 refine Jg rfl Sr rfl (fun hw => step_call0 (atomE_spec 1 1 [1, 0] (by decide)) ⟨Sr, Sr, (Sub.w hw), trivial⟩ call49) ?_
 refine Jg rfl Sr rfl (fun hw => step_call0 (bothE_spec (atE 0 1 [0, 1]) (atE 1 1 [1, 0])) ⟨(Sub.w hw), (Sub.w hw), trivial⟩ call48) (Jg rfl Sr rfl (fun hw => step_call0 (says_spec aq2 true true false aq2_ok.1 aq2_ok.2.1 aq2_ok.2.2) ⟨(Sub.w hw), Sr, Sr, Sr, trivial⟩ call47) (Js rfl (step_pick_and Sr Sr) (Ja rfl (JL_nil (Jr ?_)))))
 refine Js rfl (step_literal (ys := [0, 1]) underlying36 el3 ⟨rfl, Sr, rfl, Sr, trivial⟩ rfl (by decide)) ?_
 refine Js rfl (step_call0 (atomE_spec 0 1 [0, 1] (by decide)) ⟨Sr, Sr, Sr, trivial⟩ call49) ?_
 refine Js rfl (step_literal (ys := [2, 1]) underlying36 el3 ⟨rfl, Sr, rfl, Sr, trivial⟩ rfl (by decide)) ?_
 refine Js rfl (step_call0 (atomE_spec 1 1 [2, 1] (by decide)) ⟨Sr, Sr, Sr, trivial⟩ call49) ?_
 refine Js rfl (step_call0 (bothE_spec (atE 0 1 [0, 1]) (atE 1 1 [2, 1])) ⟨Sr, Sr, trivial⟩ call48) (Js rfl (step_call0 (says_spec aq3 true true false aq3_ok.1 aq3_ok.2.1 aq3_ok.2.2) ⟨Sr, Sr, Sr, Sr, trivial⟩ call47) (Jm rfl ?_))
 refine Jk rfl Sr rfl (step_literal (ys := [0, 1]) underlying36 el3 ⟨rfl, Sr, rfl, Sr, trivial⟩ rfl (by decide)) ?_
 refine Jg rfl Sr rfl (fun hw => step_call0 (atomE_spec 0 2 [0, 1] (by decide)) ⟨Sr, Sr, (Sub.w hw), trivial⟩ call49) ?_
 refine Jk rfl Sr rfl (step_literal (ys := [0, 1]) underlying36 el3 ⟨rfl, Sr, rfl, Sr, trivial⟩ rfl (by decide)) ?_
 refine Jg rfl Sr rfl (fun hw => step_call0 (atomE_spec 1 1 [0, 1] (by decide)) ⟨Sr, Sr, (Sub.w hw), trivial⟩ call49) ?_
 refine Jg rfl Sr rfl (fun hw => step_call0 (bothE_spec (atE 0 2 [0, 1]) (atE 1 1 [0, 1])) ⟨(Sub.w hw), (Sub.w hw), trivial⟩ call48) (Jg rfl Sr rfl (fun hw => step_call0 (says_spec aq4 false true true aq4_ok.1 aq4_ok.2.1 aq4_ok.2.2) ⟨(Sub.w hw), Sr, Sr, Sr, trivial⟩ call47) (Js rfl (step_pick_and Sr Sr) (Ja rfl (JL_nil (Jr ?_)))))
 refine Js rfl (step_build (x := (⟨sA, 1, [], zValue⟩ : GAttr)) (zs := [[Value.string ⟨#[]⟩], [Value.int .i64 0], [Value.slice none 0 0], [Value.int .i64 0, Value.int .i64 0, Value.string ⟨#[]⟩]]) so89 (fun w => zeroValue89 w) ⟨Sr, Sr, trivial⟩ ⟨⟨Sr, rfl⟩, ⟨Sr, rfl⟩, fun _ => ⟨_, rfl, none, ⟨0, Nat.le_refl _⟩, rfl, fun q => absurd rfl q⟩, fun _ => ⟨[Value.int .i64 0], _, rfl, rfl, ⟨[Value.int .i64 0], _, rfl, rfl, ⟨[Value.string ⟨#[]⟩], _, rfl, rfl, rfl⟩⟩⟩, trivial⟩) (Js rfl (step_build (x := (⟨sB, 1, [], zValue⟩ : GAttr)) (zs := [[Value.string ⟨#[]⟩], [Value.int .i64 0], [Value.slice none 0 0], [Value.int .i64 0, Value.int .i64 0, Value.string ⟨#[]⟩]]) so89 (fun w => zeroValue89 w) ⟨Sr, Sr, trivial⟩ ⟨⟨Sr, rfl⟩, ⟨Sr, rfl⟩, fun _ => ⟨_, rfl, none, ⟨0, Nat.le_refl _⟩, rfl, fun q => absurd rfl q⟩, fun _ => ⟨[Value.int .i64 0], _, rfl, rfl, ⟨[Value.int .i64 0], _, rfl, rfl, ⟨[Value.string ⟨#[]⟩], _, rfl, rfl, rfl⟩⟩⟩, trivial⟩) ?_)
 refine Js rfl (step_literal (ys := exA) underlying44 el89 ⟨rfl, Sr, rfl, Sr, trivial⟩ rfl (by decide)) ?_
 refine Js rfl (step_literal (ys := [1]) underlying36 el3 ⟨rfl, Sr, trivial⟩ rfl (by decide)) ?_
 refine Js rfl (step_build (x := (⟨sTt, exA, [1]⟩ : GTable)) (zs := [[Value.string ⟨#[]⟩], [Value.slice none 0 0], [Value.slice none 0 0]]) so76 (fun w => zeroValue76 w) ⟨Sr, Sr, Sr, trivial⟩ ⟨⟨Sr, rfl⟩, ⟨Sr, rfl⟩, ⟨Sr, rfl⟩, trivial⟩) ?_
 refine Js rfl (step_literal (ys := [⟨sTt, exA, [1]⟩]) underlying39 el76 ⟨rfl, Sr, trivial⟩ rfl (by decide)) ?_
 refine Js rfl (step_build (x := (exS : GSchema)) (zs := [[Value.slice none 0 0]]) so41 (fun w => zeroValue41 w) ⟨Sr, trivial⟩ ⟨⟨Sr, rfl⟩, trivial⟩) ?_
 refine Jx rfl (step_alloc (fun w => zeroValue41 w) zr41) fun v3 => ?_
 refine Ju (step_store_box ty41 Sr Sr zS) fun _ => ?_
 refine JL_freeze (t := 3) (Sel.take (Sel.none _)) Frz.box ?_
 refine JL_nil (Jr (Js rfl (step_fieldAddr so41 Sr rfl) (Jl rfl ty39 Sr ?_)))
 refine Js rfl (step_indexAddr_sl (i := 0) underlying39 ty76 Sr Sr (by rfl) (gb (by decide))) ?_
 refine Js rfl (step_fieldAddr so76 Sr rfl) (Jl rfl ty44 Sr (Js rfl (step_build (x := (GPl.mk 1 0 [] [] [] 0 0 exA : GPlan)) (zs := [[Value.int .i64 0], [Value.int .i64 0], [Value.slice none 0 0], [Value.slice none 0 0], [Value.slice none 0 0], [Value.int .i64 0], [Value.int .i64 0], [Value.slice none 0 0]]) (so46 (n := 0)) (fun w => zeroValue46 w) ⟨Sr, Sr, trivial⟩ ⟨⟨Sr, rfl⟩, fun _ => rfl, fun _ => ⟨_, rfl, none, ⟨0, Nat.le_refl _⟩, rfl, fun q => absurd rfl q⟩, fun _ => ⟨_, rfl, none, ⟨0, Nat.le_refl _⟩, rfl, fun q => absurd rfl q⟩, fun _ => ⟨_, rfl, none, ⟨0, Nat.le_refl _⟩, rfl, fun q => absurd rfl q⟩, fun _ => rfl, fun _ => rfl, ⟨Sr, rfl⟩, trivial⟩) ?_))
 refine Jx rfl (step_alloc (fun w => zeroValue46 w) (zr46 (n := 0))) fun v4 => ?_
 refine Ju (step_store_box ty46 Sr Sr zS) fun _ => ?_
 refine JL_freeze (t := 4) (Sel.take (Sel.none _)) Frz.box ?_
 refine JL_nil (Jr (Js rfl (step_build (x := (exX : GValue)) (zs := [[Value.int .i64 0], [Value.int .i64 0], [Value.string ⟨#[]⟩]]) so87 (fun w => zeroValue87 w) ⟨Sr, Sr, trivial⟩ ⟨⟨Sr, rfl⟩, fun _ => rfl, ⟨Sr, rfl⟩, trivial⟩) ?_))
 refine Jx rfl (step_alloc (fun w => zeroValue87 w) zr87) fun v5 => ?_
 refine Ju (step_store_box ty87 Sr Sr zS) fun _ => ?_
 refine JL_freeze (t := 5) (Sel.take (Sel.none _)) Frz.box ?_
 refine JL_nil (Jr (Jl rfl ty46 Sr ?_))
 refine Js rfl (step_literal (ys := [exP]) underlying42 el46 ⟨rfl, Sr, trivial⟩ rfl (by decide)) ?_
 refine Js rfl (step_fieldAddr so46 Sr rfl) (Jl rfl ty44 Sr (Jl rfl ty87 Sr (Js rfl (step_build (x := (⟨-1, 0, exX⟩ : GSide)) (zs := [[Value.int .i64 0], [Value.int .i64 0], [Value.int .i64 0, Value.int .i64 0, Value.string ⟨#[]⟩]]) so91 (fun w => zeroValue91 w) ⟨Sr, Sr, trivial⟩ ⟨⟨Sr, rfl⟩, fun _ => rfl, ⟨Sr, rfl⟩, trivial⟩) (Js rfl (step_build (x := (exT : GTest)) (zs := [[Value.int .i64 0, Value.int .i64 0, Value.int .i64 0, Value.int .i64 0, Value.string ⟨#[]⟩], [Value.int .i64 0], [Value.int .i64 0, Value.int .i64 0, Value.int .i64 0, Value.int .i64 0, Value.string ⟨#[]⟩], [Value.int .i64 0]]) so93 (fun w => zeroValue93 w) ⟨Sr, Sr, trivial⟩ ⟨fun _ => ⟨[Value.int .i64 0], _, rfl, rfl, ⟨[Value.int .i64 0], _, rfl, rfl, ⟨[Value.int .i64 0, Value.int .i64 0, Value.string ⟨#[]⟩], _, rfl, ⟨[Value.int .i64 0], _, rfl, rfl, ⟨[Value.int .i64 0], _, rfl, rfl, ⟨[Value.string ⟨#[]⟩], _, rfl, rfl, rfl⟩⟩⟩, rfl⟩⟩⟩, ⟨Sr, rfl⟩, ⟨Sr, rfl⟩, fun _ => rfl, trivial⟩) ?_))))
 refine Js rfl (step_literal (ys := [exT]) underlying43 el93 ⟨rfl, Sr, trivial⟩ rfl (by decide)) ?_
 refine Js rfl (step_build (x := (GPl.mk 2 0 [exP] [exT] [] 0 0 exA : GPlan)) (zs := [[Value.int .i64 0], [Value.int .i64 0], [Value.slice none 0 0], [Value.slice none 0 0], [Value.slice none 0 0], [Value.int .i64 0], [Value.int .i64 0], [Value.slice none 0 0]]) (so46 (n := 1)) (fun w => zeroValue46 w) ⟨Sr, Sr, Sr, Sr, trivial⟩ ⟨⟨Sr, rfl⟩, fun _ => rfl, ⟨Sr, rfl⟩, ⟨Sr, rfl⟩, fun _ => ⟨_, rfl, none, ⟨0, Nat.le_refl _⟩, rfl, fun q => absurd rfl q⟩, fun _ => rfl, fun _ => rfl, ⟨Sr, rfl⟩, trivial⟩) ?_
 refine Jx rfl (step_alloc (fun w => zeroValue46 w) (zr46 (n := 1))) fun v6 => ?_
 refine Ju (step_store_box ty46 Sr Sr zS) fun _ => ?_
 refine JL_freeze (t := 6) (Sel.take (Sel.none _)) Frz.box ?_
 refine JL_nil (Jr (Jl rfl ty46 Sr ?_))
 refine Jx rfl (step_alloc (fun w => zeroValue46 w) (zr46 (n := 1))) fun v7 => ?_
 refine Ju (step_store_box ty46 Sr Sr zS) fun _ => ?_
 refine JL_nil (Jr (Js rfl (step_build (x := (exT0 : GTest)) (zs := [[Value.int .i64 0, Value.int .i64 0, Value.int .i64 0, Value.int .i64 0, Value.string ⟨#[]⟩], [Value.int .i64 0], [Value.int .i64 0, Value.int .i64 0, Value.int .i64 0, Value.int .i64 0, Value.string ⟨#[]⟩], [Value.int .i64 0]]) so93 (fun w => zeroValue93 w) ⟨Sr, trivial⟩ ⟨fun _ => ⟨[Value.int .i64 0], _, rfl, rfl, ⟨[Value.int .i64 0], _, rfl, rfl, ⟨[Value.int .i64 0, Value.int .i64 0, Value.string ⟨#[]⟩], _, rfl, ⟨[Value.int .i64 0], _, rfl, rfl, ⟨[Value.int .i64 0], _, rfl, rfl, ⟨[Value.string ⟨#[]⟩], _, rfl, rfl, rfl⟩⟩⟩, rfl⟩⟩⟩, ⟨Sr, rfl⟩, fun _ => ⟨[Value.int .i64 0], _, rfl, rfl, ⟨[Value.int .i64 0], _, rfl, rfl, ⟨[Value.int .i64 0, Value.int .i64 0, Value.string ⟨#[]⟩], _, rfl, ⟨[Value.int .i64 0], _, rfl, rfl, ⟨[Value.int .i64 0], _, rfl, rfl, ⟨[Value.string ⟨#[]⟩], _, rfl, rfl, rfl⟩⟩⟩, rfl⟩⟩⟩, fun _ => rfl, trivial⟩) ?_))
 refine Js rfl (step_literal (ys := [exT0]) underlying43 el93 ⟨rfl, Sr, trivial⟩ rfl (by decide)) ?_
 refine Js rfl (step_fieldAddr_own (so46 (n := 1)) Sr rfl) ?_
 refine Ju (step_store_fld (R := (rSl rTest)) (y' := exSelf) ty43 Sr Sr zS (by exact ⟨rfl, ⟨rfl, ⟨rfl, ⟨fun _ _ q => q, rfl, by intro g hg; simp only [List.mem_cons, List.not_mem_nil, or_false] at hg; rcases hg with rfl | rfl | rfl | rfl <;> rfl⟩⟩⟩⟩)) fun _ => ?_
 refine JL_nil ?_
 refine K_freeze (t := 7) (A' := tPtr (rPlan 2) exSelf) (Sel.take (Sel.none _)) Frz.box ?_
 refine Jr (Jl rfl ty41 Sr (Jl rfl ty46 Sr ?_))
 refine Js rfl (step_eqTy (B := tTup [rConj.ty exQ1, tV (.int .i64 0)]) (step_call0 (Of_spec exS exSz 1 exP sz_e1 dep_e1 (fun _ => by decide) (fun _ => by decide)) (by exact ⟨Sr, Sr, trivial⟩) call20) (by rw [of_e1])) ?_
 refine Jm rfl (Js rfl (step_extract Sr rfl) (Js rfl (step_extract Sr rfl) ?_))
 refine Jx rfl (step_alloc (fun w => zeroValue25 w) zr25) fun v8 => ?_
 refine Ju (step_store_box ty25 Sr Sr zS) fun _ => ?_
 refine JL_freeze (t := 8) (Sel.take (Sel.none _)) Frz.box ?_
 refine Ja rfl (JL_nil (Jr (Jl rfl ty41 Sr (Jl rfl ty46 Sr ?_))))
 refine Js rfl (step_eqTy (B := tTup [rConj.ty exQ2, tV (.int .i64 0)]) (step_call0 (Of_spec exS exSz 2 exSel sz_e2 dep_e2 (fun _ => by decide) (fun _ => by decide)) (by exact ⟨Sr, Sr, trivial⟩) call20) (by rw [of_e2])) ?_
 refine Jm rfl (Js rfl (step_extract Sr rfl) (Js rfl (step_extract Sr rfl) ?_))
 refine Jx rfl (step_alloc (fun w => zeroValue25 w) zr25) fun v10 => ?_
 refine Ju (step_store_box ty25 Sr Sr zS) fun _ => ?_
 refine JL_freeze (t := 10) (Sel.take (Sel.none _)) Frz.box ?_
 refine Ja rfl (JL_nil (Jr (Jl rfl ty41 Sr (Jl rfl ty46 Sr ?_))))
 refine Js rfl (step_eqTy (B := tTup [rConj.ty zConj', tV (.int .i64 11)]) (step_call0 (Of_spec exS exSz 2 exSelf sz_e3 dep_e3 (fun _ => by decide) (fun _ => by decide)) (by exact ⟨Sr, Sr, trivial⟩) call20) (by rw [of_e3])) ?_
 refine Jm rfl (Js rfl (step_extract Sr rfl) (Js rfl (step_extract Sr rfl) ?_))
 refine Jx rfl (step_alloc (fun w => zeroValue25 w) zr25) fun v12 => ?_
 refine Ju (step_store_box ty25 Sr Sr zS) fun _ => ?_
 refine JL_freeze (t := 12) (Sel.take (Sel.none _)) Frz.box ?_
 refine Ja rfl (JL_nil (Jr ?_))
 refine Js rfl (step_literal (ys := [1, 0]) underlying36 el3 ⟨rfl, Sr, rfl, Sr, trivial⟩ rfl (by decide)) ?_
 refine Js rfl (step_literal (ys := [0, 1]) underlying36 el3 ⟨rfl, Sr, rfl, Sr, trivial⟩ rfl (by decide)) ?_
 refine Js rfl (step_build (x := (⟨0, [1, 0], [0, 1], 1⟩ : GAtom)) (zs := [[Value.int .i64 0], [Value.slice none 0 0], [Value.slice none 0 0], [Value.int .i64 0]]) so38 (fun w => zeroValue38 w) ⟨Sr, Sr, Sr, trivial⟩ ⟨fun _ => rfl, ⟨Sr, rfl⟩, ⟨Sr, rfl⟩, ⟨Sr, rfl⟩, trivial⟩) ?_
 refine Js rfl (step_literal (ys := [⟨0, [1, 0], [0, 1], 1⟩]) underlying23 el38 ⟨rfl, Sr, trivial⟩ rfl (by decide)) ?_
 refine Js rfl (step_build (x := (exQ1 : GConj)) (zs := [[Value.int .i64 0], [Value.slice none 0 0], [Value.slice none 0 0]]) so25 (fun w => zeroValue25 w) ⟨Sr, Sr, trivial⟩ ⟨⟨Sr, rfl⟩, fun _ => ⟨_, rfl, none, ⟨0, Nat.le_refl _⟩, rfl, fun q => absurd rfl q⟩, ⟨Sr, rfl⟩, trivial⟩) ?_
 refine Jx rfl (step_alloc (fun w => zeroValue25 w) zr25) fun v14 => ?_
 refine Ju (step_store_box ty25 Sr Sr zS) fun _ => ?_
 refine JL_freeze (t := 14) (Sel.take (Sel.none _)) Frz.box ?_
 refine JL_nil (Jr (Jl rfl ty87 Sr ?_))
 refine Js rfl (step_literal (ys := [exX]) underlying22 el87 ⟨rfl, Sr, trivial⟩ rfl (by decide)) ?_
 refine Js rfl (step_literal (ys := [1, 0]) underlying36 el3 ⟨rfl, Sr, rfl, Sr, trivial⟩ rfl (by decide)) ?_
 refine Js rfl (step_literal (ys := [0, -1]) underlying36 el3 ⟨rfl, Sr, rfl, Sr, trivial⟩ rfl (by decide)) ?_
 refine Js rfl (step_build (x := (⟨0, [1, 0], [0, -1], 1⟩ : GAtom)) (zs := [[Value.int .i64 0], [Value.slice none 0 0], [Value.slice none 0 0], [Value.int .i64 0]]) so38 (fun w => zeroValue38 w) ⟨Sr, Sr, Sr, trivial⟩ ⟨fun _ => rfl, ⟨Sr, rfl⟩, ⟨Sr, rfl⟩, ⟨Sr, rfl⟩, trivial⟩) ?_
 refine Js rfl (step_literal (ys := [⟨0, [1, 0], [0, -1], 1⟩]) underlying23 el38 ⟨rfl, Sr, trivial⟩ rfl (by decide)) ?_
 refine Js rfl (step_build (x := (exQ2 : GConj)) (zs := [[Value.int .i64 0], [Value.slice none 0 0], [Value.slice none 0 0]]) so25 (fun w => zeroValue25 w) ⟨Sr, Sr, Sr, trivial⟩ ⟨⟨Sr, rfl⟩, ⟨Sr, rfl⟩, ⟨Sr, rfl⟩, trivial⟩) ?_
 refine Jx rfl (step_alloc (fun w => zeroValue25 w) zr25) fun v15 => ?_
 refine Ju (step_store_box ty25 Sr Sr zS) fun _ => ?_
 refine JL_freeze (t := 15) (Sel.take (Sel.none _)) Frz.box ?_
 refine JL_nil (Jr (Jm rfl (Jm rfl ?_)))
 refine Jk rfl Sr rfl (step_move Sr) ?_
 refine Js rfl (step_pick_and Sr Sr) (Jm rfl ?_)
 refine Jk rfl Sr rfl (step_move Sr) ?_
 refine Jg rfl Sr rfl (fun hw => step_eql (Sub.w hw) Sr) (Js rfl (step_pick_and Sr Sr) (Jm rfl ?_))
 refine Jk rfl Sr rfl (step_load_ptr ty25 Sr) ?_
 refine Jk rfl Sr rfl (step_load_ptr ty25 Sr) ?_
 refine Jg rfl Sr rfl (fun hw => step_call0 (Same_spec exQ1 exQ1 (by decide) (by decide) (by decide)) ⟨(Sub.w hw), (Sub.w hw), trivial⟩ call24) ?_
 refine Js rfl (step_pick_and Sr Sr) (Jm rfl ?_)
 refine Jk rfl Sr rfl (step_move Sr) ?_
 refine Jg rfl Sr rfl (fun hw => step_eql (Sub.w hw) Sr) (Js rfl (step_pick_and Sr Sr) (Jm rfl ?_))
 refine Jk rfl Sr rfl (step_load_ptr ty25 Sr) ?_
 refine Jk rfl Sr rfl (step_load_ptr ty25 Sr) ?_
 refine Jg rfl Sr rfl (fun hw => step_call0 (Same_spec exQ2 exQ2 (by decide) (by decide) (by decide)) ⟨(Sub.w hw), (Sub.w hw), trivial⟩ call24) ?_
 refine Js rfl (step_pick_and Sr Sr) (Jm rfl ?_)
 refine Jk rfl Sr rfl (step_move Sr) ?_
 refine Jg rfl Sr rfl (fun hw => step_eql (Sub.w hw) Sr) (Js rfl (step_pick_and Sr Sr) (Jm rfl ?_))
 refine Jk rfl Sr rfl (step_build (x := (⟨-1, [], []⟩ : GConj)) (zs := [[Value.int .i64 0], [Value.slice none 0 0], [Value.slice none 0 0]]) so25 (fun w => zeroValue25 w) ⟨Sr, trivial⟩ ⟨⟨Sr, rfl⟩, fun _ => ⟨_, rfl, none, ⟨0, Nat.le_refl _⟩, rfl, fun q => absurd rfl q⟩, fun _ => ⟨_, rfl, none, ⟨0, Nat.le_refl _⟩, rfl, fun q => absurd rfl q⟩, trivial⟩) ?_
 refine Jg rfl Sr rfl (fun hw => step_call0 (attackValid_spec ⟨-1, [], []⟩) ⟨(Sub.w hw), trivial⟩ call16) (Jg rfl Sr rfl (fun hw => step_not (Sub.w hw)) (Js rfl (step_pick_and Sr Sr) (Ja rfl (JL_nil (J_ret ?_)))))
 refine K_ret1 (t := 0) rfl () ?_
 refine Sub.bool ?_
 decide +kernel
open Go Go.Proofs Go.Proofs.Tryz
theorem InL_spec (l : List Int) (n : Int) (hl : l.length ≤ 1000000000000) : Fun1 prog 33 [tSl rInt l, tV (.int .i64 n)] (tV (.bool (l.any fun x => decide (x = n)))) := by
 refine Spec.enter func33 rfl rfl fun h0 w0 fr0 => ?_
 refine Jr (Ja rfl (JL_nil (J_seq (Jr (Ja rfl ?_)))))
 refine JL_nil (J_block ?_)
 refine J_loopL (σ := Nat) (fun i => i ≤ l.length ∧ (l.take i).any (fun x => decide (x = n)) = false) (fun i => upd (upd (upd env0 0 (tSl rInt l)) 1 (tV (.int .i64 n))) 5 (tV (.int .i64 i))) (fun i => []) (fun i => l.length - i) 0 ⟨Nat.zero_le _, by simp⟩ (zU) (LSub.rfl) ?_
 rintro i ⟨hi, hv⟩
 refine J_seq (Jr (Jm rfl (Jm rfl (Js rfl (step_len_sl underlying36 Sr) (Js rfl (step_lss Sr Sr) ?_)))))
 refine JL_nil ?_
 refine J_cond Sr (fun h9 => ?_) (fun h9 => ?_)
 ·
  try simp only [NF] at h9
  have hlt : i < l.length := by omega
  refine J_skip (J_seq (J_block (Jr (Jm rfl (Jm rfl ?_)))))
  refine Js rfl (step_indexAddr_sl (i := i) underlying36 ty3 Sr Sr (by rfl) (gb (by exact hlt))) ?_
  refine Jl rfl ty3 Sr (Jm rfl (Js rfl (step_eql Sr Sr) (JL_nil ?_)))
  refine J_cond Sr (fun h17 => ?_) (fun h17 => ?_)
  ·
   try simp only [NF] at h17
   refine Jr (Ja rfl (JL_nil (J_ret ?_)))
   refine K_ret1 (t := 4) rfl () ?_
   refine Sub.bool ?_
   symm; rw [List.any_eq_true]; exact ⟨_, nth_mem hlt, by simpa using h17⟩
  try simp only [NF] at h17
  refine J_skip (J_region (Jm rfl (Js rfl (step_add Sr Sr z6) (Ja rfl (JL_nil ?_)))))
  refine K_againL (σ := Nat) (s := i) (i + 1) zO ⟨by omega, by rw [takeB hlt, List.any_append, hv]; simp; omega⟩ (zU) (LSub.rfl)
 try simp only [NF] at h9
 obtain rfl : i = l.length := by omega
 refine J_exit (Jr (Ja rfl (JL_nil (J_ret ?_))))
 refine K_ret1 (t := 4) rfl () ?_
 refine Sub.bool ?_
 rw [List.take_length] at hv; exact hv.symm
theorem sameB_spec (a b : List Bool) (hb : b.length ≤ 1000000000000) : Fun1 prog 26 [tSl rBool a, tSl rBool b] (tV (.bool (decide (a = b)))) := by
 refine Spec.enter func26 rfl rfl fun h0 w0 fr0 => ?_
 refine Jr (Ja rfl (JL_nil (J_seq (Jr (Jm rfl ?_)))))
 refine Js rfl (step_len_sl underlying35 Sr) (Jm rfl (Js rfl (step_len_sl underlying35 Sr) (Js rfl (step_neq Sr Sr) (JL_nil ?_))))
 refine J_cond Sr (fun h10 => ?_) (fun h10 => ?_)
 ·
  try simp only [NF] at h10
  refine Jr (Ja rfl (JL_nil (J_ret ?_)))
  refine K_ret1 (t := 4) rfl () ?_
  refine Sub.bool ?_
  exact (decide_eq_false (fun e => h10 (by rw [e]))).symm
 try simp only [NF] at h10
 have hab : a.length = b.length := by omega
 refine J_skip (J_seq (Jr (Ja rfl (JL_nil (J_block ?_)))))
 refine J_loopL (σ := Nat) (fun i => i ≤ a.length ∧ a.take i = b.take i) (fun i => upd (upd (upd env0 0 (tSl rBool a)) 1 (tSl rBool b)) 5 (tV (.int .i64 i))) (fun i => []) (fun i => a.length - i) 0 ⟨Nat.zero_le _, by simp⟩ (zU) (LSub.rfl) ?_
 rintro i ⟨hi, hv⟩
 refine J_seq (Jr (Jm rfl (Jm rfl (Js rfl (step_len_sl underlying35 Sr) (Js rfl (step_lss Sr Sr) ?_)))))
 refine JL_nil ?_
 refine J_cond Sr (fun h14 => ?_) (fun h14 => ?_)
 ·
  try simp only [NF] at h14
  have hlt : i < a.length := by omega
  have hlb : i < b.length := by omega
  refine J_skip (J_seq (J_block (J_seq ?_)))
  refine J_draw [⟨0, [0], true⟩, ⟨1, [5], true⟩, ⟨2, [17, 18], true⟩, ⟨3, [19], true⟩, ⟨4, [1], true⟩, ⟨5, [5], true⟩, ⟨6, [21, 22], true⟩, ⟨7, [23], true⟩, ⟨8, [20, 24], true⟩] rfl (by kernel_rfl) ?_
  refine Mv rfl rfl (Mv rfl rfl ?_)
  refine Mf rfl rfl (step_indexAddr_sl (i := i) underlying35 ty4 Sr Sr (by rfl) (gb (by exact hlt))) ?_
  refine Mf rfl rfl (step_load_ptr ty4 Sr) (Mv rfl rfl (Mv rfl rfl ?_))
  refine Mf rfl rfl (step_indexAddr_sl (i := i) underlying35 ty4 Sr Sr (by rfl) (gb zG)) ?_
  refine Mf rfl rfl (step_load_ptr ty4 Sr) (Mf rfl rfl (step_neq_bool underlying4 Sr Sr) (JM_nil ?_))
  refine J_cond Sr (fun h25 => ?_) (fun h25 => ?_)
  ·
   try simp only [NF] at h25
   have hne : ¬ nth a i = nth b i := by first | exact h25 | simpa using h25
   refine Jr (Ja rfl (JL_nil (J_ret ?_)))
   refine K_ret1 (t := 4) rfl () ?_
   refine Sub.bool ?_
   exact (decide_eq_false (fun e => hne (by rw [e]))).symm
  try simp only [NF] at h25
  have heq : nth a i = nth b i := by first | exact h25 | simpa using h25
  refine J_skip (J_region (Jm rfl (Js rfl (step_add Sr Sr z6) (Ja rfl (JL_nil ?_)))))
  refine K_againL (σ := Nat) (s := i) (i + 1) zO ⟨by omega, by rw [takeB hlt, takeB hlb, hv, heq]⟩ (zU) (LSub.rfl)
 try simp only [NF] at h14
 obtain rfl : i = a.length := by omega
 refine J_exit (Jr (Ja rfl (JL_nil (J_ret ?_))))
 refine K_ret1 (t := 4) rfl () ?_
 refine Sub.bool ?_
 refine (decide_eq_true ?_).symm
 rw [List.take_length, hab, List.take_length] at hv; exact hv
open Go Go.Proofs Go.Proofs.Tryz
theorem nodup_map_nth {mm : List (Int × Bool)} (h : (mm.map (·.1)).Nodup) {dn : List Nat} (hnd : dn.Nodup) (hdl : ∀ a ∈ dn, a < mm.length) : (dn.map fun j => (nth mm j).1).Nodup := by
  induction dn with
  | nil => simp
  | cons a dn ih =>
    rw [List.nodup_cons] at hnd
    rw [List.map_cons, List.nodup_cons]
    refine ⟨fun hm => ?_, ih hnd.2 fun x hx => hdl x (List.mem_cons_of_mem _ hx)⟩
    obtain ⟨b, hb, e⟩ := List.mem_map.1 hm
    have ha := hdl a List.mem_cons_self
    have hb' := hdl b (List.mem_cons_of_mem _ hb)
    rw [nth_get ha, nth_get hb'] at e
    have : b = a := by
      refine (List.getElem_inj (h₀ := by rw [List.length_map]; exact hb') (h₁ := by rw [List.length_map]; exact ha) h).1 ?_
      rw [List.getElem_map, List.getElem_map]; exact e
    exact hnd.1 (this ▸ hb)
theorem sort_cls {q : GConj} (hq : validQ q = true) {w : Int} {vars : List Int} {mm : MapB} (h : ClRes q w vars mm) (hv : ∀ v ∈ vars, v < q.Vars) {dn : List Nat} (hnd : dn.Nodup) (hdl : ∀ a ∈ dn, a < mm.length) (hall : ∀ i, i < mm.length → i ∈ dn) :
    sortI (dn.map fun j => (nth mm j).1) = clsL q w vars := by
  have hg := h.good
  have hk : ∀ x, x ∈ (dn.map fun j => (nth mm j).1) ↔ x ∈ mm.map (·.1) := fun x => by
    constructor
    · intro hx
      obtain ⟨j, hj, rfl⟩ := List.mem_map.1 hx
      rw [nth_get (hdl j hj)]
      exact List.mem_map_of_mem (List.getElem_mem _)
    · intro hx
      obtain ⟨y, hy, rfl⟩ := List.mem_map.1 hx
      obtain ⟨i, hi, rfl⟩ := List.getElem_of_mem hy
      exact List.mem_map.2 ⟨i, hall i hi, by rw [nth_get hi]⟩
  have hmem : ∀ x, x ∈ (dn.map fun j => (nth mm j).1) ↔ x ∈ clsL q w vars := fun x => by
    rw [hk, cls_mem]
    constructor
    · intro hx
      obtain ⟨y, hy, rfl⟩ := List.mem_map.1 hx
      obtain ⟨_, h0, hc, hu⟩ := hg.ok y hy
      refine ⟨h0, ?_, hc⟩
      unfold uniV at hu
      rcases List.mem_append.1 hu with hu | hu
      · exact hv _ hu
      · obtain ⟨a, ha, ht⟩ := List.mem_flatMap.1 hu
        exact terms_lt hq ha _ ht
    · rintro ⟨h0, _, hc⟩
      exact (hg.val x).1 ((h.all x h0).2 hc)
  have hn1 := nodup_map_nth hg.nd hnd hdl
  have hpw : (clsL q w vars).Pairwise (· < ·) := by
    unfold clsL
    refine List.Pairwise.map _ (fun a b (hab : a < b) => by show (a : Int) < (b : Int); omega) ?_
    exact List.Pairwise.filter _ List.pairwise_lt_range
  have hn2 : (clsL q w vars).Nodup := hpw.imp fun hab e => by omega
  have hp : (dn.map fun j => (nth mm j).1).Perm (clsL q w vars) := (List.perm_ext_iff_of_nodup hn1 hn2).2 hmem
  have hs : (sortI (dn.map fun j => (nth mm j).1)).Pairwise (fun a b => a ≤ b) := by
    have := List.pairwise_mergeSort (le := fun x y : Int => decide (x ≤ y)) (fun a b c h1 h2 => by simp at *; omega) (fun a b => by simp; omega) (dn.map fun j => (nth mm j).1)
    exact this.imp fun hab => by simpa using hab
  exact List.Perm.eq_of_pairwise (le := fun a b : Int => a ≤ b) (fun a b _ _ h1 h2 => by omega) hs (hpw.imp fun hab => by omega) ((List.mergeSort_perm _ _).trans hp)
open Go Go.Proofs Go.Proofs.Tryz
open Classical in
noncomputable def closL (q : GConj) (w : Int) (vars : List Int) : List Int := if validQ q = true ∧ (vars.any fun v => decide (v < 0) || decide (q.Vars ≤ v)) = false then clsL q w vars else []
theorem ClosF_spec (q : GConj) (v : Int) : Fun1 prog 76 [tV (.int .i64 v), tPtr rConj q] (tV (.bool (decide (v < 0) || decide (q.Vars ≤ v)))) := by
 refine Spec.enter func76 rfl rfl fun h0 w0 fr0 => ?_
 refine Jr (Ja rfl (JL_nil (Jr (Jm rfl (Js rfl (step_lss Sr Sr) ?_)))))
 refine Jm rfl ?_
 refine Jk rfl Sr rfl (step_move Sr) ?_
 refine Jk rfl Sr rfl (step_fieldAddr so25 Sr rfl) ?_
 refine Jg rfl Sr rfl (fun hw => step_load_ptr ty3 (Sub.w hw)) (Jg rfl Sr rfl (fun hw => step_geq (Sub.w hw) (Sub.w hw)) (Js rfl (step_pick_or Sr Sr) (Ja rfl (JL_nil (J_ret ?_)))))
 exact K_ret1 (t := 3) rfl () Sr
set_option maxHeartbeats 2000000 in
theorem Closure_spec (q : GConj) (w : Int) (vars : List Int) (hl : vars.length ≤ 1000000000) (hu : (uniV q vars).length ≤ 1000000000) : Fun1 prog 28 [rConj.ty q, tV (.int .i64 w), tSl rInt vars] (tSl rInt (closL q w vars)) := by
 refine Spec.enter func28 rfl rfl fun h0 w0 fr0 => ?_
 refine Jr (Js rfl (step_box (R := rConj) Sr) (Ja rfl (JL_nil (J_seq (Jr ?_)))))
 refine Jl rfl ty25 Sr (Js rfl (step_call0 (attackValid_spec q) ⟨Sr, trivial⟩ call16) (Js rfl (step_not Sr) (Jm rfl ?_)))
 refine Jk rfl Sr rfl (step_move Sr) ?_
 refine Jk rfl Sr rfl (step_makeFunc (As := [_]) ⟨Sr, trivial⟩) ?_
 refine Jg rfl Sr rfl (fun hw => step_call0 (ContainsFuncI_spec vars zG 76 [tPtr rConj q] (fun v => decide (v < 0) || decide (q.Vars ≤ v)) (fun x _ => ClosF_spec q x) call76) ⟨Sub.w hw, Sub.w hw, trivial⟩ call63) (Js rfl (step_pick_or Sr Sr) (JL_nil ?_))
 refine J_cond Sr (fun h16 => ?_) (fun h16 => ?_)
 ·
  try simp only [NF] at h16
  refine Jr (Ja rfl (JL_nil (J_ret ?_)))
  refine K_ret1 (t := 6) rfl () ?_
  rw [closL, if_neg (by rcases h16 with h | h <;> simp [h])]
  exact Sub.nilsl
 try simp only [NF] at h16
 obtain ⟨hq, hin⟩ := h16
 have hin : (vars.any fun v => decide (v < 0) || decide (q.Vars ≤ v)) = false := by simpa using hin
 have hrng : ∀ v ∈ vars, v < q.Vars := fun v hv => by have := (List.any_eq_false.1 hin) v hv; simp at this; omega
 refine J_skip (Jr (Ja rfl (JL_nil (J_seq (Jr ?_)))))
 refine Jl rfl ty25 Sr (Jm rfl (Jm rfl ?_))
 refine Jx rfl (step_call (Sel.none _) (closure_spec q hq w vars hl) ⟨Sr, Sr, Sr, trivial⟩ call77) fun mm => ?_
 obtain ⟨mm, hmr⟩ := mm
 dsimp only
 have hmu := hmr.good.len
 refine Jx rfl (step_rangeI (kv := kvI) (R := rBool) underlying127 Sr) fun v21 => ?_
 refine JL_nil (J_block ?_)
 refine J_loopL (σ := List Nat × Value) (fun ⟨dn, v⟩ => dn.Nodup ∧ ∀ a ∈ dn, a < mm.length) (fun ⟨dn, v⟩ => upd (upd (upd env0 6 (tV (.slice none 0 0))) 7 (rV.ty v)) 21 (tAt v21 0)) (fun ⟨dn, v⟩ => [itI kvI rBool v21 mm dn, own 3 rInt v (dn.map fun j => (nth mm j).1)]) (fun ⟨dn, v⟩ => mm.length - dn.length) ([], .slice none 0 0) ⟨by simp, by simp⟩ (.u (SubE.upd (Sub.rV rfl) (zU))) (LSub.trans (LSub.nilown (e := 3) (R := rInt)) (zL)) ?_
 rintro ⟨dn, v⟩ ⟨hnd, hdlt⟩
 refine Jr ?_
 refine Jx rfl (step_nextI rfl Sr LSub.rfl) fun o => ?_
 refine Js rfl (step_extract_next Sr) (JL_nil (J_seq ?_))
 refine J_cond Sr (fun h23 => ?_) (fun h23 => ?_)
 ·
  try simp only [NF] at h23
  obtain ⟨o, ho⟩ := o
  obtain ⟨i, rfl⟩ := Option.isSome_iff_exists.1 h23
  dsimp only at ho
  obtain ⟨hil, hid⟩ := ho
  obtain ⟨⟨ky, kb⟩, hms⟩ : ∃ z, mm[i]? = some z := ⟨_, List.getElem?_eq_getElem hil⟩
  have hky : ky = (nth mm i).1 := by rw [nth_get hil]; rw [List.getElem?_eq_getElem hil] at hms; rw [Option.some.inj hms]
  have hnd2 : (dn ++ [i]).Nodup := List.nodup_append.2 ⟨hnd, by simp, by intro a ha b hb e; simp at hb; subst hb; subst e; exact hid ha⟩
  have hlt2 : ∀ a ∈ dn ++ [i], a < mm.length := by intro a ha; rcases List.mem_append.1 ha with h | h; exact hdlt a h; simp at h; subst h; exact hil
  have hdl := nodup_le hnd2 hlt2
  simp only [List.length_append, List.length_cons, List.length_nil] at hdl
  refine J_skip (J_block (Jr (Js rfl (step_entryI Sr LSub.rfl hms) (Js rfl (step_extract Sr rfl) (Ja rfl ?_)))))
  refine JL_nil (J_region (Jm rfl (Jm rfl ?_)))
  refine Js rfl (step_literal (ys := [_]) underlying36 el3 ⟨rfl, Sr, trivial⟩ rfl (by decide)) ?_
  refine Jx rfl (step_append underlying36 el3 Sr Sr zS (by rw [List.length_map]; simp; omega) (by rw [List.length_map]; simp; omega)) fun v29 => ?_
  refine Ja rfl (JL_nil ?_)
  refine K_againL (σ := List Nat × Value) (s := (dn, v)) (dn ++ [i], v29) (by simp; omega) ⟨hnd2, hlt2⟩ (zU) (.r zS (.c zS (SPs.of (A := own 3 rInt v29 ((dn.map fun j => (nth mm j).1) ++ [ky])) (by rw [List.map_append, hky]; rfl)) (LSub.nil)))
 try simp only [NF] at h23
 obtain ⟨o, ho⟩ := o
 obtain rfl : o = none := by simpa using h23
 dsimp only at ho
 have hdl := nodup_le hnd hdlt
 refine J_exit (Jr (Jm rfl ?_))
 refine Jx rfl (step_call zS (sortInts_spec Tryz.sortJ v (dn.map fun j => (nth mm j).1) (by rw [List.length_map]; omega)) ⟨Sr, trivial⟩ call78) fun v31 => ?_
 refine JL_nil (Jr (Jm rfl (Ja rfl (JL_nil (J_ret ?_)))))
 refine K_lsub (L' := [own 3 rInt v (sortI (dn.map fun j => (nth mm j).1)), itI kvI rBool v21 mm dn]) (.r zS (.c zS (SPs.of (A := itI kvI rBool v21 mm (dn ++ (none : Option Nat).toList)) (by rw [Option.toList_none, List.append_nil])) (LSub.nil))) ?_
 refine K_ret1' (rv := .tmp 6) rfl () (Sel.all _) (.tmp Sr) (Frz.own' (by rw [closL, if_pos ⟨hq, hin⟩]; exact sort_cls hq hmr hrng hnd hdlt ho))
open Go Go.Proofs Go.Proofs.Tryz
end Lg
namespace Lg
open Go Go.Proofs Go.Proofs.Tryz
variable {H : Type} {enc : TypeId × Value → H} {W : World}
theorem rd3 : Rd enc Tryz.prog W 3 rInt := Rd.int ty3 Tryz.underlying3
theorem rd9 : Rd enc Tryz.prog W 9 rStr := Rd.str ty9 Tryz.underlying9
theorem rd36 : Rd enc Tryz.prog W 36 (rSl rInt) := Rd.sl ty36 Tryz.underlying36 rd3 (by decide)
theorem rd87 : Rd enc Tryz.prog W 87 rValue where
  k := ty87.cells W
  rd := fun fuel cs x h => by
    obtain ⟨hl, hf⟩ := readStruct so87 h
    obtain ⟨y0, h0⟩ := Rd.at (t := 87) (i := 0) hf rd3 rfl
    obtain ⟨y1, h1⟩ := Rd.at (t := 87) (i := 1) hf rd3 rfl
    obtain ⟨y2, h2⟩ := Rd.at (t := 87) (i := 2) hf rd9 rfl
    refine ⟨⟨y0, y1, y2⟩, SF.rel_of hl fun i f hi => ?_⟩
    match i, hi with
    | 0, hi => cases hi; exact h0
    | 1, hi => cases hi; exact h1
    | 2, hi => cases hi; exact h2
    | n + 3, hi => simp [fsValue] at hi
theorem rd22 : Rd enc Tryz.prog W 22 (rSl rValue) := Rd.sl ty22 Tryz.underlying22 rd87 (by decide)
theorem rd38 : Rd enc Tryz.prog W 38 rAtom where
  k := ty38.cells W
  rd := fun fuel cs x h => by
    obtain ⟨hl, hf⟩ := readStruct so38 h
    obtain ⟨y0, h0⟩ := Rd.at (t := 38) (i := 0) hf rd3 rfl
    obtain ⟨y1, h1⟩ := Rd.at (t := 38) (i := 1) hf rd36 rfl
    obtain ⟨y2, h2⟩ := Rd.at (t := 38) (i := 2) hf rd36 rfl
    obtain ⟨y3, h3⟩ := Rd.at (t := 38) (i := 3) hf rd3 rfl
    refine ⟨⟨y0, y1, y2, y3⟩, SF.rel_of hl fun i f hi => ?_⟩
    match i, hi with
    | 0, hi => cases hi; exact h0
    | 1, hi => cases hi; exact h1
    | 2, hi => cases hi; exact h2
    | 3, hi => cases hi; exact h3
    | n + 4, hi => simp [fsAtom] at hi
theorem rd23 : Rd enc Tryz.prog W 23 (rSl rAtom) := Rd.sl ty23 Tryz.underlying23 rd38 (by decide)
open Go Go.Proofs Go.Proofs.Tryz
theorem run_true {P : Program} {f : Nat} {As : List Ty} {vs : List Value} {W : World} (sp : Fun1 P f As (tV (.bool true))) (hi : Inv (wholeH W)) (ha : Args (wholeH W) As vs) :
    Calls P f vs.toArray W fun e W' => e = .returned (.bool true) ∧ Go.RowKit.Below W.heap.size W W' := by
  have hc := sp vs (wholeH W) PH.emp PH.emp W ha ⟨hi, PH.disj_emp _, PH.disj_emp _, PH.disj_emp _, wholeH_inw W, (fun b o e => by cases e), fun b o e => by cases e⟩ rfl
  refine hc.mono ?_
  rintro e W' ⟨x, v, h', m', rfl, l, s, _, hv⟩
  have hv : v = .bool true := hv
  subst hv
  exact ⟨rfl, below_of l.1 s.hw l.2⟩
section
variable {H : Type} {enc : TypeId × Value → H} {P : Program} {W : World} {base : Nat}
theorem arg_sl {α : Type} {t e : Nat} {R : Rp α} {v : Value} {d : DataW H} {p : List MemPlace} (hu : P.underlying t = some (.slice e)) (hR : Rd enc P W t (rSl R)) (hok : Value.okWide P W .any base t v) (h : DataW.Trod enc P W 0 (fun _ => true) true t v d p) :
    ∃ xs, (tSl R xs).p (wholeH W) v := by
  obtain ⟨a, len, cap, rfl⟩ := Go.WideShapes.okWide_slice hu hok
  obtain ⟨fuel, h⟩ := h
  obtain ⟨xs, u, e1, e2⟩ := hR.rd _ _ _ h
  have : Value.slice a len cap = u := by
    have := (List.cons.inj e1).1
    exact this
  exact ⟨xs, this ▸ e2⟩
theorem sl_len {α : Type} {t e : Nat} {R : Rp α} (hu : P.underlying t = some (.slice e)) {fuel : Nat} {cs : List Value} {x : DataW H × List MemPlace} (h : DataW.trod enc P W 0 (fun _ => true) true fuel t cs = some x) {xs : List α} (r : (rSl R).rel (wholeH W) xs cs) :
    xs.length ≤ 9223372036854775807 ∧ (x.1 = .nil ∧ xs = [] ∨ ∃ el rest, x.1 = .slice el rest ∧ el.length = xs.length) := by
  obtain ⟨u, e1, ao, cap, e2, _⟩ := r
  subst e1; subst e2
  rcases DataW.trod_slice hu h with ⟨h1, h2⟩ | ⟨a, len, cap', elems, rest, n, _, h1, h2, _, hlc, hm, hlen, _⟩
  · have h3 := (Value.slice.inj (List.cons.inj h1).1).2.1
    have h4 : xs = [] := List.eq_nil_of_length_eq_zero h3
    subst h4
    exact ⟨by simp, .inl ⟨by rw [h2], rfl⟩⟩
  · have h3 := (Value.slice.inj (List.cons.inj h1).1).2.1
    refine ⟨?_, .inr ⟨elems.map (·.1), rest.map (·.1), by rw [h2], by rw [List.length_map]; omega⟩⟩
    have : maxLen = 9223372036854775807 := by decide
    omega
/-- A slice that is handed in, and how long what was read is. -/
theorem arg_slL {α : Type} {t e : Nat} {R : Rp α} {v : Value} {d : DataW H} {p : List MemPlace} (hu : P.underlying t = some (.slice e)) (hR : Rd enc P W t (rSl R)) (hok : Value.okWide P W .any base t v) (h : DataW.Trod enc P W 0 (fun _ => true) true t v d p) :
    ∃ xs, (tSl R xs).p (wholeH W) v ∧ (d = .nil ∧ xs = [] ∨ ∃ el rest, d = .slice el rest ∧ el.length = xs.length) := by
  obtain ⟨a, len, cap, rfl⟩ := Go.WideShapes.okWide_slice hu hok
  obtain ⟨fuel, h⟩ := h
  obtain ⟨xs, hr⟩ := hR.rd _ _ _ h
  have hl := (sl_len hu h hr).2
  obtain ⟨u, e1, e2⟩ := hr
  have : Value.slice a len cap = u := (List.cons.inj e1).1
  exact ⟨xs, this ▸ e2, hl⟩
/-- A struct that is handed in. -/
theorem arg_st {α : Type} {t : Nat} {R : Rp α} {v : Value} {d : DataW H} {p : List MemPlace} (hR : Rd enc P W t R) (hg : R.agg = true) (hk : R.k ≠ 1) (h : DataW.Trod enc P W 0 (fun _ => true) true t v d p) :
    ∃ x, (R.ty x).p (wholeH W) v := by
  obtain ⟨fuel, h⟩ := h
  obtain ⟨x, r⟩ := hR.rd _ _ _ h
  refine ⟨x, R.iff.2 ⟨_, r, ?_⟩⟩
  have hl := R.len r
  unfold packV
  rw [hg]
  cases v with
  | agg cs => simp [Value.cells]
  | _ => simp [Value.cells] at hl; exact absurd hl.symm hk
theorem arg_str {t : Nat} {v : Value} {d : DataW H} {p : List MemPlace} (hu : P.underlying t = some .string) (hok : Value.okWide P W .any base t v) (h : DataW.Trod enc P W 0 (fun _ => true) true t v d p) :
    ∃ x : ByteArray, (tV (.string x)).p (wholeH W) v := by
  obtain ⟨x, rfl⟩ := Go.WideShapes.okWide_string hu hok
  exact ⟨x, rfl⟩
end
/-- A conjunction that is handed in. -/
theorem arg_cj {H : Type} {enc : TypeId × Value → H} {W : World} {v : Value} {d : DataW H} {p : List MemPlace} (h : DataW.Trod enc Tryz.prog W 0 (fun _ => true) true 25 v d p) :
    ∃ q : GConj, (rConj.ty q).p (wholeH W) v ∧ q.Atoms.length ≤ 9223372036854775807 := by
  obtain ⟨fuel, h⟩ := h
  obtain ⟨hl, hf⟩ := readStruct so25 h
  obtain ⟨y0, h0⟩ := Rd.at (t := 25) (i := 0) hf rd3 rfl
  obtain ⟨y1, h1⟩ := Rd.at (t := 25) (i := 1) hf rd22 rfl
  obtain ⟨n, z, hz⟩ := hf 2 _ rfl
  obtain ⟨y2, h2⟩ := rd23.rd _ _ _ hz
  have hb := (sl_len Tryz.underlying23 hz h2).1
  have hr : rConj.rel (wholeH W) (⟨y0, y1, y2⟩ : GConj) (Value.cells v).toList := SF.rel_of hl fun i f hi => by
    match i, hi with
    | 0, hi => cases hi; exact h0
    | 1, hi => cases hi; exact h1
    | 2, hi => cases hi; exact h2
    | n + 3, hi => simp [fsConj] at hi
  refine ⟨⟨y0, y1, y2⟩, rConj.iff.2 ⟨_, hr, ?_⟩, hb⟩
  have hl2 := rConj.len hr
  unfold packV
  rw [show rConj.agg = true from rfl]
  cases v with
  | agg cs => simp [Value.cells]
  | _ => simp [Value.cells] at hl2; exact absurd hl2.symm (by decide)
theorem inv_of {W : World} (h : Lib.TabIs Tryz.prog W "internal/strconv.uint64pow10" .u64 Lib.pow10Tab) : Inv (wholeH W) := by
  have hg : Tryz.prog.globalNamed "internal/strconv.uint64pow10" = some tabG := by kernel_rfl
  unfold Lib.TabIs World.var? at h
  rw [hg] at h
  simp only [Option.bind_some] at h
  unfold Inv wholeH
  cases hb : W.heap[tabG]? with
  | none => rw [hb] at h; cases h
  | some o =>
    rw [hb] at h
    cases o with
    | cells cs e fz => exact ⟨e, fz, by injection h with h; rw [h]; rfl⟩
    | _ => cases h
end Lg
namespace Go.Proofs.YtgaclpkapapjdaaGreatDoor
open Go.ChangeShapes Go.WideShapes Go.ChangeAt Go.RowKit
theorem own : ownKnob Tryz.prog.godebug = none := by kernel_rfl
theorem laidOut : laidOutB Tryz.prog = true := by kernel_rfl
theorem size25 : (25 : Nat) < Tryz.prog.types.size := of_decide_eq_true (by kernel_rfl)
theorem rec25 : Tryz.prog.readableRec 25 = true := by kernel_rfl
theorem want25 : Tryz.prog.wantsStandIn 25 = false := by kernel_rfl
/-- What the rows list. -/
abbrev laidL : List (String × DataW Unit) := [("math/bits.deBruijn32tab", Rows.laid_math_bits_deBruijn32tab), ("math/bits.deBruijn64tab", Rows.laid_math_bits_deBruijn64tab), ("internal/strconv.uint64pow10", Rows.laid_internal_strconv_uint64pow10)]
noncomputable def laidWorld (os : Os) : World := World.laidAll Tryz.prog os laidL
theorem tab_of {W : World} (h : laidMet Tryz.prog laidL W) : Lib.TabIs Tryz.prog W "internal/strconv.uint64pow10" .u64 Lib.pow10Tab :=
  Lib.tabIs_of_head (g := Lg.tabG) (t := 388) (e := 232) (n := 20) (rest := []) (by kernel_rfl) (by kernel_rfl) Tryz.underlying388 Tryz.underlying232 (by kernel_rfl) (by kernel_rfl) h.tail.tail
theorem noLooks : true = Tryz.pinned.checked.prog.looks [] := by kernel_rfl
end Go.Proofs.YtgaclpkapapjdaaGreatDoor
namespace Lg
open Go Go.Proofs Go.Proofs.Tryz
theorem arg_int {H : Type} {enc : TypeId × Value → H} {P : Program} {W : World} {base : Nat} {t : Nat} {v : Value} {d : DataW H} {p : List MemPlace} (hu : P.underlying t = some (.int .i64)) (hok : Value.okWide P W .any base t v) (h : DataW.Trod enc P W 0 (fun _ => true) true t v d p) :
    ∃ n : Int, (tV (.int .i64 n)).p (wholeH W) v := by
  obtain ⟨n, rfl⟩ := Go.WideShapes.okWide_int hu hok
  exact ⟨n, rfl⟩
end Lg
namespace Go.Proofs.YtgaclpkapapjdaaGreatDoor
open Go.ChangeShapes Go.WideShapes Go.ChangeAt Go.RowKit
theorem size3 : (3 : Nat) < Tryz.prog.types.size := of_decide_eq_true (by kernel_rfl)
theorem rec3 : Tryz.prog.readableRec 3 = true := by kernel_rfl
theorem want3 : Tryz.prog.wantsStandIn 3 = false := by kernel_rfl
theorem size36 : (36 : Nat) < Tryz.prog.types.size := of_decide_eq_true (by kernel_rfl)
theorem rec36 : Tryz.prog.readableRec 36 = true := by kernel_rfl
theorem want36 : Tryz.prog.wantsStandIn 36 = false := by kernel_rfl
end Go.Proofs.YtgaclpkapapjdaaGreatDoor
