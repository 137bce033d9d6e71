/- Walks of Valid, closures, attacks, the order of atoms, keys and blocks. -/
import Derived.Test.YtjenebejjamnjaaGreatDoorC
import Derived.Lib.UnsafeStr
import Derived.Lib.Builder
import Derived.Laws.Externs
import Derived.Test.YtjenebejjamnjaaGreatDoorProg
import Derived.Ground.SlmcProg
import Derived.Shelf.SlMaps.Clone
set_option linter.unusedVariables false
set_option linter.unusedSimpArgs false
set_option linter.unusedSectionVars false
namespace Lg
open Go Go.Proofs Go.Proofs.Tryz
section
variable {C : Cx} {E : Env} {L : List SP} {d : Option Nat} {ty : Nat} {pos : String} {af : Array Edge} {g : Option (Nat × Bool)}
theorem step_neg {T : Nat} {x : Operand} {a : Int} (hx : Sub (opTy E x) (tV (.int .i64 a))) (hr : in64 (-a)) : Step1 C ⟨d, .unOp .neg T x, ty, pos, af, g⟩ E L (tV (.int .i64 (-a))) :=
  Step.of_same (by intro c h; cases h) fun ac w h hw f => ⟨.int .i64 (-a), by
    have h1 : ac.eval x = .int .i64 a := f.get hx
    have e : (0 : Int) - a = -a := by omega
    have hr2 : in64 (0 - a) := by rw [e]; exact hr
    simp [execOp, h1, Op.unary, Sem.run_bind, Op.intArith, wrap64_in hr, e], rfl⟩
end
theorem rall_t {n : Nat} {f : Nat → Bool} (h : ∀ k, k < n → f k = true) : (List.range n).all f = true := by
  rw [List.all_eq_true]; intro x hx; exact h x (List.mem_range.1 hx)
theorem rall_f {n i : Nat} {f : Nat → Bool} (hi : i < n) (h : f i = false) : (List.range n).all f = false := by
  rw [List.all_eq_false]; exact ⟨i, List.mem_range.2 hi, by simp [h]⟩
theorem rall_iff {n : Nat} {f : Nat → Bool} : (List.range n).all f = true ↔ ∀ k, k < n → f k = true := by
  rw [List.all_eq_true]; exact ⟨fun h k hk => h k (List.mem_range.2 hk), fun h x hx => h x (List.mem_range.1 hx)⟩
def okC (q : GConj) (i : Nat) : Bool := validV (nth q.Consts i) && !decide ((nth q.Consts i).Kind = 0) && !(q.Consts.take i).any fun x => decide (nth q.Consts i = x)
def okK (q : GConj) (a : GAtom) (k : Nat) : Bool := decide (0 ≤ nth a.Cols k) && !((a.Cols.take k).any fun x => decide (nth a.Cols k = x)) && decide (nth a.Terms k < q.Vars) && decide (-(q.Consts.length : Int) ≤ nth a.Terms k)
def okA (q : GConj) (i : Nat) : Bool := decide (0 ≤ (nth q.Atoms i).Table) && !((q.Atoms.take i).any fun x => decide (x.Table = (nth q.Atoms i).Table)) &&
  decide (1 ≤ (nth q.Atoms i).Cols.length ∧ (nth q.Atoms i).Cols.length ≤ 12 ∧ (nth q.Atoms i).Terms.length = (nth q.Atoms i).Cols.length ∧ 1 ≤ (nth q.Atoms i).Key ∧ (nth q.Atoms i).Key ≤ (nth q.Atoms i).Cols.length) &&
  (List.range (nth q.Atoms i).Cols.length).all (okK q (nth q.Atoms i))
def validQ (q : GConj) : Bool := decide (0 ≤ q.Vars ∧ q.Vars ≤ 240 ∧ q.Consts.length ≤ 240 ∧ q.Atoms.length ≤ 20) && (List.range q.Consts.length).all (okC q) && (List.range q.Atoms.length).all (okA q)
theorem atomTab_spec (x y : GAtom) : Fun1 prog 55 [rAtom.ty x, tPtr rAtom y] (tV (.bool (decide (x.Table = y.Table)))) := by
 refine Spec.enter func55 rfl rfl fun h0 w0 fr0 => ?_
 refine Jr (Js rfl (step_box (R := rAtom) Sr) (Ja rfl (JL_nil (Jr (Js rfl (step_fieldAddr so47 Sr rfl) ?_)))))
 refine Jl rfl ty3 Sr (Js rfl (step_fieldAddr so47 Sr rfl) (Jl rfl ty3 Sr (Js rfl (step_eql Sr Sr) (Ja rfl (JL_nil ?_)))))
 refine J_ret ?_
 exact K_ret1 (t := 3) rfl () Sr
set_option maxHeartbeats 2000000 in
theorem attackValid_spec (q : GConj) : Fun1 prog 21 [rConj.ty q] (tV (.bool (validQ q))) := by
 refine Spec.enter func21 rfl rfl fun h0 w0 fr0 => ?_
 refine Jr (Js rfl (step_box (R := rConj) Sr) (Ja rfl (JL_nil (J_seq (Jr ?_)))))
 refine Js rfl (step_fieldAddr so25 Sr rfl) (Jl rfl ty3 Sr (Js rfl (step_lss Sr Sr) (Jm rfl (Jg rfl Sr rfl (fun hw => step_fieldAddr so25 Sr rfl) (Jg rfl Sr rfl (fun hw => step_load_ptr ty3 (Sub.w hw)) ?_)))))
 refine Jg rfl Sr rfl (fun hw => step_gtr (Sub.w hw) Sr) (Js rfl (step_pick_or Sr Sr) (Jm rfl (Jg rfl Sr rfl (fun hw => step_fieldAddr so25 Sr rfl) (Jg rfl Sr rfl (fun hw => step_load_ptr ty22 (Sub.w hw)) (Jg rfl Sr rfl (fun hw => step_len_sl underlying22 (Sub.w hw)) ?_)))))
 refine Jg rfl Sr rfl (fun hw => step_gtr (Sub.w hw) Sr) (Js rfl (step_pick_or Sr Sr) (Jm rfl (Jg rfl Sr rfl (fun hw => step_fieldAddr so25 Sr rfl) (Jg rfl Sr rfl (fun hw => step_load_ptr ty23 (Sub.w hw)) (Jg rfl Sr rfl (fun hw => step_len_sl underlying23 (Sub.w hw)) ?_)))))
 refine Jg rfl Sr rfl (fun hw => step_gtr (Sub.w hw) Sr) (Js rfl (step_pick_or Sr Sr) (JL_nil ?_))
 refine J_cond Sr (fun h28 => ?_) (fun h28 => ?_)
 ·
  try simp only [NF] at h28
  refine Jr (Ja rfl (JL_nil (J_ret ?_)))
  refine K_ret1 (t := 2) rfl () ?_
  refine Sub.bool ?_
  have : ¬ (0 ≤ q.Vars ∧ q.Vars ≤ 240 ∧ q.Consts.length ≤ 240 ∧ q.Atoms.length ≤ 20) := by omega
  simp [validQ, this]
 try simp only [NF] at h28
 have hb : 0 ≤ q.Vars ∧ q.Vars ≤ 240 ∧ q.Consts.length ≤ 240 ∧ q.Atoms.length ≤ 20 := by omega
 refine J_skip (J_seq (Jr (Js rfl (step_fieldAddr so25 Sr rfl) (Jl rfl ty22 Sr (Js rfl (step_len_sl underlying22 Sr) ?_)))))
 refine Jm rfl (JL_nil (J_block ?_))
 refine J_loopL (σ := Nat) (fun i => i ≤ q.Consts.length ∧ ∀ k, k < i → okC q k = true) (fun i => upd (upd (upd (upd env0 1 (tPtr rConj q)) 30 (tSl rValue q.Consts)) 31 (tV (.int .i64 q.Consts.length))) 32 (tV (.int .i64 i))) (fun i => []) (fun i => q.Consts.length - i) 0 ⟨by omega, fun k hk => by omega⟩ (.u (.u (.u (SubE.upd Sr SubE.any)))) (LSub.rfl) ?_
 rintro i ⟨hi, hv⟩
 refine Jr (Js rfl (step_lss Sr Sr) (JL_nil (J_seq ?_)))
 refine J_cond Sr (fun h33 => ?_) (fun h33 => ?_)
 ·
  try simp only [NF] at h33
  have hlt : i < q.Consts.length := by omega
  refine J_skip (J_seq (J_block (Jr (Jm rfl ?_))))
  refine Js rfl (step_indexAddr_sl  underlying22 ty58 Sr Sr rfl (gb (by exact hlt))) ?_
  refine Jl rfl ty58 Sr ?_
  refine Jx rfl (step_alloc (fun w => zeroValue58 w) zr58) fun v4 => ?_
  refine Ja rfl ?_
  refine Ju (step_store_box ty58 Sr Sr zS) fun _ => ?_
  refine JL_freeze (t := 4) (Sel.take (Sel.none _)) Frz.box ?_
  refine JL_nil (J_seq ?_)
  refine J_draw [⟨0, [4], true⟩, ⟨1, [37], true⟩, ⟨2, [38], true⟩, ⟨3, [39], true⟩, ⟨4, [4, 40], true⟩, ⟨5, [40, 41], true⟩, ⟨6, [40, 42], true⟩, ⟨7, [40, 43], true⟩, ⟨8, [44], true⟩, ⟨9, [1, 45], true⟩, ⟨10, [45, 46], true⟩, ⟨11, [3, 45], true⟩, ⟨12, [45, 47, 48], true⟩, ⟨13, [4, 45], true⟩, ⟨14, [45, 49, 50], true⟩, ⟨15, [45, 51], true⟩] rfl (by kernel_rfl) ?_
  refine Mf rfl rfl (step_load_ptr ty58 Sr) (Mf rfl rfl (step_call0 (Valid_spec _) ⟨Sr, trivial⟩ call52) (Mf rfl rfl (step_not Sr) (Mv rfl rfl (Mg rfl rfl Sr rfl (fun hw => step_fieldAddr so58 Sr rfl) (Mg rfl rfl Sr rfl (fun hw => step_load_ptr ty3 (Sub.w hw)) ?_)))))
  refine Mg rfl rfl Sr rfl (fun hw => step_eql (Sub.w hw) Sr) (Mf rfl rfl (step_pick_or Sr Sr) (Mv rfl rfl (Mg rfl rfl Sr rfl (fun hw => step_fieldAddr so25 Sr rfl) (Mg rfl rfl Sr rfl (fun hw => step_load_ptr ty22 (Sub.w hw)) (Mg rfl rfl Sr rfl (fun hw => step_move Sr) ?_)))))
  refine Mg rfl rfl Sr rfl (fun hw => step_slice_toI (n := i) underlying22 ty58 (Sub.w hw) (Sub.w hw) (by have hwq := hw; (try simp only [beqB_t, beqB_f, NF] at hwq); omega) (by have hwq := hw; (try simp only [beqB_t, beqB_f, NF] at hwq); first | assumption | omega)) ?_
  refine Mg rfl rfl Sr rfl (fun hw => step_load_ptr ty58 Sr) ?_
  refine Mg rfl rfl Sr rfl (fun hw => step_call0 (ContainsV_spec _ _ (by rw [List.length_take]; omega)) ⟨(Sub.w hw), (Sub.w hw), trivial⟩ call53) ?_
  refine Mf rfl rfl (step_pick_or Sr Sr) (JM_nil ?_)
  refine J_cond Sr (fun h52 => ?_) (fun h52 => ?_)
  ·
   try simp only [NF] at h52
   refine Jr (Ja rfl (JL_nil (J_ret ?_)))
   refine K_ret1 (t := 2) rfl () ?_
   refine Sub.bool ?_
   have : okC q i = false := by rcases h52 with (h | h) | h <;> simp only [okC, h] <;> simp
   simp only [validQ, rall_f hlt this]; simp
  try simp only [NF] at h52
  refine J_skip (J_region (Js rfl (step_add Sr Sr z6) (Jm rfl (JL_nil ?_))))
  refine K_againL (σ := Nat) (s := i) (i + 1) zO ?_ (.u (.u (.u (SubE.upd Sr SubE.any)))) (LSub.rfl)
  refine ⟨by omega, fun k hk => ?_⟩
  by_cases e : k = i
  ·
   subst e; simp_all [okC]
  exact hv k zG
 try simp only [NF] at h33
 have hcs : (List.range q.Consts.length).all (okC q) = true := rall_t (fun k hk => hv k zG)
 refine J_exit (J_seq (Jr (Js rfl (step_fieldAddr so25 Sr rfl) (Jl rfl ty23 Sr (Js rfl (step_len_sl underlying23 Sr) ?_)))))
 refine Jm rfl (JL_nil (J_block ?_))
 refine J_loopL (σ := Nat) (fun i => i ≤ q.Atoms.length ∧ ∀ k, k < i → okA q k = true) (fun i => upd (upd (upd (upd env0 1 (tPtr rConj q)) 55 (tSl rAtom q.Atoms)) 56 (tV (.int .i64 q.Atoms.length))) 57 (tV (.int .i64 i))) (fun i => []) (fun i => q.Atoms.length - i) 0 ⟨by omega, fun k hk => by omega⟩ (.u (.u (.u (SubE.upd Sr SubE.any)))) (LSub.rfl) ?_
 rintro i ⟨hi, hv⟩
 refine Jr (Js rfl (step_lss Sr Sr) (JL_nil (J_seq ?_)))
 refine J_cond Sr (fun h58 => ?_) (fun h58 => ?_)
 ·
  try simp only [NF] at h58
  have hlt : i < q.Atoms.length := by omega
  refine J_skip (J_seq (J_block (Jr (Jm rfl ?_))))
  refine Js rfl (step_indexAddr_sl  underlying23 ty47 Sr Sr rfl (gb (by exact hlt))) ?_
  refine Jl rfl ty47 Sr ?_
  refine Jx rfl (step_alloc (fun w => zeroValue47 w) zr47) fun v6 => ?_
  refine Ja rfl ?_
  refine Ju (step_store_box ty47 Sr Sr zS) fun _ => ?_
  refine JL_freeze (t := 6) (Sel.take (Sel.none _)) Frz.box ?_
  refine JL_nil (J_seq (Jr (Js rfl (step_fieldAddr so47 Sr rfl) (Jl rfl ty3 Sr (Js rfl (step_lss Sr Sr) ?_)))))
  refine Jm rfl (Jg rfl Sr rfl (fun hw => step_fieldAddr so25 Sr rfl) (Jg rfl Sr rfl (fun hw => step_load_ptr ty23 (Sub.w hw)) (Jg rfl Sr rfl (fun hw => step_move Sr) ?_)))
  refine Jg rfl Sr rfl (fun hw => step_slice_toI (n := i) underlying23 ty47 (Sub.w hw) (Sub.w hw) (by have hwq := hw; (try simp only [beqB_t, beqB_f, NF] at hwq); omega) (by have hwq := hw; (try simp only [beqB_t, beqB_f, NF] at hwq); first | assumption | omega)) ?_
  refine Jg rfl Sr rfl (fun hw => step_makeFunc (As := [_]) ⟨Sr, trivial⟩) ?_
  refine Jg rfl Sr rfl (fun hw => step_call0 (ContainsFuncA_spec (q.Atoms.take i) (by rw [List.length_take]; omega) 55 [tPtr rAtom (nth q.Atoms i)] (fun x => decide (x.Table = (nth q.Atoms i).Table)) (fun x _ => atomTab_spec x _) call55) ⟨(Sub.w hw), (Sub.w hw), trivial⟩ call54) ?_
  refine Js rfl (step_pick_or Sr Sr) (JL_nil ?_)
  refine J_cond Sr (fun h72 => ?_) (fun h72 => ?_)
  ·
   try simp only [NF] at h72
   refine Jr (Ja rfl (JL_nil (J_ret ?_)))
   refine K_ret1 (t := 2) rfl () ?_
   refine Sub.bool ?_
   have : okA q i = false := by
    rcases h72 with h | h
    ·
     have : ¬ 0 ≤ (nth q.Atoms i).Table := by omega
     simp only [okA, this]; simp
    simp only [okA, h]; simp
   simp only [validQ, rall_f hlt this]; simp
  try simp only [NF] at h72
  refine J_skip (J_seq (Jr (Js rfl (step_fieldAddr so47 Sr rfl) (Jl rfl ty27 Sr (Js rfl (step_len_sl underlying27 Sr) ?_)))))
  refine Js rfl (step_eql Sr Sr) (Jm rfl (Jg rfl Sr rfl (fun hw => step_fieldAddr so47 Sr rfl) (Jg rfl Sr rfl (fun hw => step_load_ptr ty27 (Sub.w hw)) (Jg rfl Sr rfl (fun hw => step_len_sl underlying27 (Sub.w hw)) (Jg rfl Sr rfl (fun hw => step_gtr (Sub.w hw) Sr) ?_)))))
  refine Js rfl (step_pick_or Sr Sr) (Jm rfl (Jg rfl Sr rfl (fun hw => step_fieldAddr so47 Sr rfl) (Jg rfl Sr rfl (fun hw => step_load_ptr ty27 (Sub.w hw)) (Jg rfl Sr rfl (fun hw => step_len_sl underlying27 (Sub.w hw)) (Jg rfl Sr rfl (fun hw => step_fieldAddr so47 Sr rfl) ?_)))))
  refine Jg rfl Sr rfl (fun hw => step_load_ptr ty27 (Sub.w hw)) (Jg rfl Sr rfl (fun hw => step_len_sl underlying27 (Sub.w hw)) (Jg rfl Sr rfl (fun hw => step_neq (Sub.w hw) (Sub.w hw)) (Js rfl (step_pick_or Sr Sr) (Jm rfl (Jg rfl Sr rfl (fun hw => step_fieldAddr so47 Sr rfl) ?_)))))
  refine Jg rfl Sr rfl (fun hw => step_load_ptr ty3 (Sub.w hw)) (Jg rfl Sr rfl (fun hw => step_lss (Sub.w hw) Sr) (Js rfl (step_pick_or Sr Sr) (Jm rfl (Jg rfl Sr rfl (fun hw => step_fieldAddr so47 Sr rfl) (Jg rfl Sr rfl (fun hw => step_load_ptr ty3 (Sub.w hw)) ?_)))))
  refine Jg rfl Sr rfl (fun hw => step_fieldAddr so47 Sr rfl) (Jg rfl Sr rfl (fun hw => step_load_ptr ty27 (Sub.w hw)) (Jg rfl Sr rfl (fun hw => step_len_sl underlying27 (Sub.w hw)) (Jg rfl Sr rfl (fun hw => step_gtr (Sub.w hw) (Sub.w hw)) (Js rfl (step_pick_or Sr Sr) (JL_nil ?_)))))
  refine J_cond Sr (fun h104 => ?_) (fun h104 => ?_)
  ·
   try simp only [NF] at h104
   refine Jr (Ja rfl (JL_nil (J_ret ?_)))
   refine K_ret1 (t := 2) rfl () ?_
   refine Sub.bool ?_
   have : ¬ (1 ≤ (nth q.Atoms i).Cols.length ∧ (nth q.Atoms i).Cols.length ≤ 12 ∧ (nth q.Atoms i).Terms.length = (nth q.Atoms i).Cols.length ∧ 1 ≤ (nth q.Atoms i).Key ∧ (nth q.Atoms i).Key ≤ (nth q.Atoms i).Cols.length) := by omega
   have : okA q i = false := by simp only [okA, this]; simp
   simp only [validQ, rall_f hlt this]; simp
  try simp only [NF] at h104
  have hA : 1 ≤ (nth q.Atoms i).Cols.length ∧ (nth q.Atoms i).Cols.length ≤ 12 ∧ (nth q.Atoms i).Terms.length = (nth q.Atoms i).Cols.length ∧ 1 ≤ (nth q.Atoms i).Key ∧ (nth q.Atoms i).Key ≤ (nth q.Atoms i).Cols.length := by omega
  refine J_skip (Jr (Js rfl (step_fieldAddr so47 Sr rfl) (Jl rfl ty27 Sr (Js rfl (step_len_sl underlying27 Sr) (Jm rfl ?_)))))
  refine JL_nil (J_block ?_)
  refine J_loopL (σ := Nat) (fun k => k ≤ (nth q.Atoms i).Cols.length ∧ ∀ j, j < k → okK q (nth q.Atoms i) j = true) (fun k => upd (upd (upd (upd (upd (upd (upd (upd (upd (upd (upd env0 1 (tPtr rConj q)) 5 (tV (.int .i64 i))) 6 (tPtr rAtom (nth q.Atoms i))) 55 (tSl rAtom q.Atoms)) 56 (tV (.int .i64 q.Atoms.length))) 57 (tV (.int .i64 i))) 59 (tV (.int .i64 i))) 61 (rAtom.ty (nth q.Atoms i))) 106 (tSl rInt (nth q.Atoms i).Cols)) 107 (tV (.int .i64 (nth q.Atoms i).Cols.length))) 108 (tV (.int .i64 k))) (fun k => []) (fun k => (nth q.Atoms i).Cols.length - k) 0 ⟨by omega, fun k hk => by omega⟩ (.u (.u (.u (.u (.u (.u (.u (.u (.u (.u (SubE.upd Sr SubE.any))))))))))) (LSub.rfl) ?_
  rintro k ⟨hk, hw⟩
  refine Jr (Js rfl (step_lss Sr Sr) (JL_nil (J_seq ?_)))
  refine J_cond Sr (fun h109 => ?_) (fun h109 => ?_)
  ·
   try simp only [NF] at h109
   have hkt : k < (nth q.Atoms i).Cols.length := by omega
   refine J_skip (J_seq (J_block (Jr (Jm rfl ?_))))
   refine Js rfl (step_indexAddr_sl  underlying27 ty3 Sr Sr rfl (gb (by exact hkt))) ?_
   refine Jl rfl ty3 Sr (Ja rfl (Ja rfl (JL_nil (J_seq ?_))))
   refine J_draw [⟨0, [8], true⟩, ⟨1, [113], true⟩, ⟨2, [114], true⟩, ⟨3, [6, 115], true⟩, ⟨4, [115, 116], true⟩, ⟨5, [7, 115], true⟩, ⟨6, [115, 117, 118], true⟩, ⟨7, [8, 115], true⟩, ⟨8, [115, 119, 120], true⟩, ⟨9, [115, 121], true⟩, ⟨10, [122], true⟩, ⟨11, [6, 123], true⟩, ⟨12, [123, 124], true⟩, ⟨13, [7, 123], true⟩, ⟨14, [123, 125, 126], true⟩, ⟨15, [123, 127], true⟩, ⟨16, [1, 123], true⟩, ⟨17, [123, 129], true⟩, ⟨18, [123, 128, 130], true⟩, ⟨19, [123, 131], true⟩, ⟨20, [132], true⟩, ⟨21, [6, 133], true⟩, ⟨22, [133, 134], true⟩, ⟨23, [7, 133], true⟩, ⟨24, [133, 135, 136], true⟩, ⟨25, [133, 137], true⟩, ⟨26, [1, 133], true⟩, ⟨27, [133, 139], true⟩, ⟨28, [133, 140], true⟩, ⟨29, [133, 141], true⟩, ⟨30, [133, 138, 142], true⟩, ⟨31, [133, 143], true⟩] rfl (by kernel_rfl) ?_
   refine Mv rfl rfl (Mf rfl rfl (step_lss Sr Sr) (Mv rfl rfl (Mg rfl rfl Sr rfl (fun hw => step_fieldAddr so47 Sr rfl) (Mg rfl rfl Sr rfl (fun hw => step_load_ptr ty27 (Sub.w hw)) (Mg rfl rfl Sr rfl (fun hw => step_move Sr) ?_)))))
   refine Mg rfl rfl Sr rfl (fun hw => step_slice_toI (n := k) underlying27 ty3 (Sub.w hw) (Sub.w hw) (by have hwq := hw; (try simp only [beqB_t, beqB_f, NF] at hwq); omega) (by have hwq := hw; (try simp only [beqB_t, beqB_f, NF] at hwq); first | assumption | omega)) ?_
   refine Mg rfl rfl Sr rfl (fun hw => step_move Sr) ?_
   refine Mg rfl rfl Sr rfl (fun hw => step_call0 (ContainsI_spec _ _ (by rw [List.length_take]; omega)) ⟨(Sub.w hw), (Sub.w hw), trivial⟩ call56) ?_
   refine Mf rfl rfl (step_pick_or Sr Sr) (Mv rfl rfl (Mg rfl rfl Sr rfl (fun hw => step_fieldAddr so47 Sr rfl) (Mg rfl rfl Sr rfl (fun hw => step_load_ptr ty27 (Sub.w hw)) (Mg rfl rfl Sr rfl (fun hw => step_move Sr) ?_))))
   refine Mg rfl rfl Sr rfl (fun hw => step_indexAddr_sl (i := k) underlying27 ty3 (Sub.w hw) (Sub.w hw) (by rfl) (gb (by have hwq := hw; (try simp only [beqB_t, beqB_f, NF] at hwq); show k < (nth q.Atoms i).Terms.length; omega))) ?_
   refine Mg rfl rfl Sr rfl (fun hw => step_load_ptr ty3 (Sub.w hw)) (Mg rfl rfl Sr rfl (fun hw => step_fieldAddr so25 Sr rfl) (Mg rfl rfl Sr rfl (fun hw => step_load_ptr ty3 (Sub.w hw)) (Mg rfl rfl Sr rfl (fun hw => step_geq (Sub.w hw) (Sub.w hw)) (Mf rfl rfl (step_pick_or Sr Sr) (Mv rfl rfl ?_)))))
   refine Mg rfl rfl Sr rfl (fun hw => step_fieldAddr so47 Sr rfl) (Mg rfl rfl Sr rfl (fun hw => step_load_ptr ty27 (Sub.w hw)) (Mg rfl rfl Sr rfl (fun hw => step_move Sr) ?_))
   refine Mg rfl rfl Sr rfl (fun hw => step_indexAddr_sl (i := k) underlying27 ty3 (Sub.w hw) (Sub.w hw) (by rfl) (gb (by have hwq := hw; (try simp only [beqB_t, beqB_f, NF] at hwq); show k < (nth q.Atoms i).Terms.length; omega))) ?_
   refine Mg rfl rfl Sr rfl (fun hw => step_load_ptr ty3 (Sub.w hw)) (Mg rfl rfl Sr rfl (fun hw => step_fieldAddr so25 Sr rfl) (Mg rfl rfl Sr rfl (fun hw => step_load_ptr ty22 (Sub.w hw)) (Mg rfl rfl Sr rfl (fun hw => step_len_sl underlying22 (Sub.w hw)) ?_)))
   refine Mg rfl rfl Sr rfl (fun hw => step_neg (Sub.w hw) (by have hwq := hw; (try simp only [beqB_t, beqB_f, NF] at hwq); show in64 (-(q.Consts.length : Int)); unfold in64; omega)) ?_
   refine Mg rfl rfl Sr rfl (fun hw => step_lss (Sub.w hw) (Sub.w hw)) (Mf rfl rfl (step_pick_or Sr Sr) (JM_nil ?_))
   refine J_cond Sr (fun h144 => ?_) (fun h144 => ?_)
   ·
    try simp only [NF] at h144
    refine Jr (Ja rfl (JL_nil (J_ret ?_)))
    refine K_ret1 (t := 2) rfl () ?_
    refine Sub.bool ?_
    have : okK q (nth q.Atoms i) k = false := by
     rcases h144 with ((h | h) | h) | h
     ·
      have : ¬ 0 ≤ nth (nth q.Atoms i).Cols k := by omega
      simp only [okK, this]; simp
     ·
      simp only [okK, h]; simp
     ·
      have : ¬ nth (nth q.Atoms i).Terms k < q.Vars := by omega
      simp only [okK, this]; simp
     have : ¬ -(q.Consts.length : Int) ≤ nth (nth q.Atoms i).Terms k := by omega
     simp only [okK, this]; simp
    have : okA q i = false := by simp only [okA, rall_f hkt this]; simp
    simp only [validQ, rall_f hlt this]; simp
   try simp only [NF] at h144
   refine J_skip (J_region (Js rfl (step_add Sr Sr z6) (Jm rfl (JL_nil ?_))))
   refine K_againL (σ := Nat) (s := k) (k + 1) zO ?_ (.u (.u (.u (.u (.u (.u (.u (.u (.u (.u (SubE.upd Sr SubE.any))))))))))) (LSub.rfl)
   refine ⟨by omega, fun j hj => ?_⟩
   by_cases e : j = k
   ·
    subst e; simp_all [okK]
   exact hw j zG
  try simp only [NF] at h109
  have hks : (List.range (nth q.Atoms i).Cols.length).all (okK q (nth q.Atoms i)) = true := rall_t (fun j hj => hw j zG)
  refine J_exit (J_region (Js rfl (step_add Sr Sr z6) (Jm rfl (JL_nil ?_))))
  refine K_againL (σ := Nat) (s := i) (i + 1) zO ?_ (.u (.u (.u (SubE.upd Sr SubE.any)))) (LSub.rfl)
  refine ⟨by omega, fun k hk => ?_⟩
  by_cases e : k = i
  ·
   subst e; simp only [okA, hA, hks]; simp_all
  exact hv k zG
 try simp only [NF] at h58
 have has : (List.range q.Atoms.length).all (okA q) = true := rall_t (fun k hk => hv k zG)
 refine J_exit (Jr (Ja rfl (JL_nil (J_ret ?_))))
 refine K_ret1 (t := 2) rfl () ?_
 refine Sub.bool ?_
 simp only [validQ, hcs, has, hb]; simp
open Go Go.Proofs Go.Proofs.Tryz
theorem Frz.mapV {κ β : Type} [DecidableEq κ] {kv : κ → Value} {R : Rp β} {v : Value} {m : List (κ × β)} {S : List SP} : Frz (mapOwn kv R v m :: S) (rV.ty v) (tMapI kv R m) := fun h mm u d hs hu => Frz.mapI h mm u d hs hu.1
theorem ty153V : TyOf prog 153 rV := ⟨fun w => isAgg153 w, fun w => sizeOf153 w⟩
abbrev MapB := List (Int × Bool)
def addM (m : MapB) (ts : List Int) : MapB := ts.foldl (fun m t => if 0 ≤ t then mput m t true else m) m
def covM (m : MapB) (ts : List Int) : Bool := !(ts.any fun t => decide (0 ≤ t) && !((mget m t).getD false))
abbrev keyT (q : GConj) (i : Nat) : List Int := (nth q.Atoms i).Terms.take (nth q.Atoms i).Key.toNat
/-- One pass over the first i atoms. -/
def passI (q : GConj) (w : Int) (m : MapB) : Nat → MapB
  | 0 => m
  | i + 1 => if (i : Int) ≠ w ∧ covM (passI q w m i) (keyT q i) = true then addM (passI q w m i) (nth q.Atoms i).Terms else passI q w m i
/-- The closure of variables by the keys of all atoms but one. -/
inductive ClV (q : GConj) (w : Int) (vars : List Int) : Int → Prop
  | base {t : Int} : t ∈ vars → ClV q w vars t
  | step {H : Nat} {t : Int} : H < q.Atoms.length → (H : Int) ≠ w → (∀ t' ∈ keyT q H, 0 ≤ t' → ClV q w vars t') → t ∈ (nth q.Atoms H).Terms → ClV q w vars t
def uniV (q : GConj) (vars : List Int) : List Int := vars ++ q.Atoms.flatMap (·.Terms)
structure GoodM (q : GConj) (w : Int) (vars : List Int) (m : MapB) : Prop where
  nd : (m.map (·.1)).Nodup
  ok : ∀ x ∈ m, x.2 = true ∧ 0 ≤ x.1 ∧ ClV q w vars x.1 ∧ x.1 ∈ uniV q vars
  base : ∀ t ∈ vars, 0 ≤ t → t ∈ m.map (·.1)
theorem mem_keys_mput {m : MapB} {t s : Int} {b : Bool} : s ∈ (mput m t b).map (·.1) ↔ s = t ∨ s ∈ m.map (·.1) := by
  rw [mput_keys]
  split
  · rename_i h
    exact ⟨.inr, fun q => q.elim (fun e => e ▸ h) id⟩
  · simp [or_comm]
theorem mem_mput {m : MapB} {t : Int} {b : Bool} {x : Int × Bool} (h : x ∈ mput m t b) : x = (t, b) ∨ x ∈ m := by
  induction m with
  | nil => simp [mput] at h; exact .inl h
  | cons a m ih =>
    obtain ⟨k, y⟩ := a
    simp only [mput] at h
    split at h
    · rcases List.mem_cons.1 h with h | h
      · exact .inl h
      · exact .inr (by simp [h])
    · rcases List.mem_cons.1 h with h | h
      · exact .inr (by simp [h])
      · exact (ih h).imp id (fun h => by simp [h])
theorem addM_keys : ∀ (ts : List Int) (m : MapB) (s : Int), s ∈ (addM m ts).map (·.1) ↔ s ∈ m.map (·.1) ∨ (s ∈ ts ∧ 0 ≤ s)
  | [], m, s => by simp [addM]
  | t :: ts, m, s => by
    have ih := addM_keys ts (if 0 ≤ t then mput m t true else m) s
    have e : addM m (t :: ts) = addM (if 0 ≤ t then mput m t true else m) ts := rfl
    rw [e, ih]
    split
    · rename_i h0
      rw [mem_keys_mput]
      constructor
      · rintro ((h | h) | h)
        · exact .inr ⟨by simp [h], h ▸ h0⟩
        · exact .inl h
        · exact .inr ⟨by simp [h.1], h.2⟩
      · rintro (h | ⟨h, h1⟩)
        · exact .inl (.inr h)
        · rcases List.mem_cons.1 h with h | h
          · exact .inl (.inl h)
          · exact .inr ⟨h, h1⟩
    · rename_i h0
      constructor
      · rintro (h | h)
        · exact .inl h
        · exact .inr ⟨by simp [h.1], h.2⟩
      · rintro (h | ⟨h, h1⟩)
        · exact .inl h
        · rcases List.mem_cons.1 h with h | h
          · exact absurd (h ▸ h1) h0
          · exact .inr ⟨h, h1⟩
theorem addM_nd : ∀ (ts : List Int) {m : MapB}, (m.map (·.1)).Nodup → ((addM m ts).map (·.1)).Nodup
  | [], m, h => h
  | t :: ts, m, h => by
    show ((addM (if 0 ≤ t then mput m t true else m) ts).map (·.1)).Nodup
    apply addM_nd
    split
    · exact mput_nodup h _ _
    · exact h
theorem addM_all : ∀ (ts : List Int) {m : MapB} {x : Int × Bool}, x ∈ addM m ts → x ∈ m ∨ (x.2 = true ∧ 0 ≤ x.1 ∧ x.1 ∈ ts)
  | [], m, x, h => .inl h
  | t :: ts, m, x, h => by
    have h : x ∈ addM (if 0 ≤ t then mput m t true else m) ts := h
    rcases addM_all ts h with h | ⟨h1, h2, h3⟩
    · split at h
      · rename_i h0
        rcases mem_mput h with rfl | h
        · exact .inr ⟨rfl, h0, by simp⟩
        · exact .inl h
      · exact .inl h
    · exact .inr ⟨h1, h2, by simp [h3]⟩
theorem GoodM.val {q : GConj} {w : Int} {vars : List Int} {m : MapB} (g : GoodM q w vars m) (t : Int) : (mget m t).getD false = true ↔ t ∈ m.map (·.1) := by
  constructor
  · intro h
    cases e : mget m t with
    | none => rw [e] at h; cases h
    | some b => exact List.mem_map.2 ⟨(t, b), (mget_mem g.nd).1 e, rfl⟩
  · intro h
    obtain ⟨⟨s, b⟩, hx, e⟩ := List.mem_map.1 h
    have e : s = t := e
    subst e
    have hb := (g.ok _ hx).1
    have hb : b = true := hb
    rw [(mget_mem g.nd).2 hx, hb]; rfl
theorem GoodM.cov {q : GConj} {w : Int} {vars : List Int} {m : MapB} (g : GoodM q w vars m) (ts : List Int) : covM m ts = true ↔ ∀ t ∈ ts, 0 ≤ t → t ∈ m.map (·.1) := by
  unfold covM
  rw [Bool.not_eq_true', List.any_eq_false]
  refine forall_congr' fun t => forall_congr' fun ht => ?_
  rw [Bool.and_eq_true, Bool.not_eq_true', decide_eq_true_eq, ← g.val t]
  constructor
  · intro h h0
    cases e : (mget m t).getD false with
    | true => rfl
    | false => exact absurd ⟨h0, e⟩ h
  · rintro h ⟨h0, h1⟩
    rw [h h0] at h1; cases h1
theorem uni_terms {q : GConj} {vars : List Int} {H : Nat} {t : Int} (hH : H < q.Atoms.length) (ht : t ∈ (nth q.Atoms H).Terms) : t ∈ uniV q vars :=
  List.mem_append_right _ (List.mem_flatMap.2 ⟨_, nth_mem hH, ht⟩)
theorem passI_good {q : GConj} {w : Int} {vars : List Int} {m : MapB} (g : GoodM q w vars m) : ∀ i, i ≤ q.Atoms.length → GoodM q w vars (passI q w m i) ∧ ∀ s, s ∈ m.map (·.1) → s ∈ (passI q w m i).map (·.1)
  | 0, _ => ⟨g, fun _ h => h⟩
  | i + 1, hi => by
    obtain ⟨g1, s1⟩ := passI_good g i (by omega)
    simp only [passI]
    split
    · rename_i h
      have hc := (g1.cov _).1 h.2
      refine ⟨⟨addM_nd _ g1.nd, fun x hx => ?_, fun t ht h0 => (addM_keys _ _ _).2 (.inl (g1.base t ht h0))⟩, fun s hs => (addM_keys _ _ _).2 (.inl (s1 s hs))⟩
      rcases addM_all _ hx with hx | ⟨h1, h2, h3⟩
      · exact g1.ok x hx
      · refine ⟨h1, h2, ClV.step (by omega) h.1 (fun t' ht' h0 => ?_) h3, uni_terms (by omega) h3⟩
        obtain ⟨y, hy, e⟩ := List.mem_map.1 (hc t' ht' h0)
        have := (g1.ok y hy).2.2.1
        rw [e] at this; exact this
    · exact ⟨g1, s1⟩
theorem GoodM.len {q : GConj} {w : Int} {vars : List Int} {m : MapB} (g : GoodM q w vars m) : m.length ≤ (uniV q vars).length := by
  have := nodup_len (U := uniV q vars) g.nd (fun x hx => by
    obtain ⟨y, hy, e⟩ := List.mem_map.1 hx
    have := (g.ok y hy).2.2.2
    rw [e] at this; exact this)
  simpa using this
theorem nodup_sub_eq {α : Type} [DecidableEq α] {a b : List α} (ha : a.Nodup) (hb : b.Nodup) (h : ∀ x ∈ a, x ∈ b) (hl : b.length ≤ a.length) : ∀ x ∈ b, x ∈ a := by
  intro x hx
  apply Classical.byContradiction
  intro hn
  have := nodup_len (l := x :: a) (U := b) (List.nodup_cons.2 ⟨hn, ha⟩) (fun y hy => by
    rcases List.mem_cons.1 hy with rfl | hy
    · exact hx
    · exact h y hy)
  simp at this; omega
/-- A pass that adds nothing: all is there. -/
theorem fix_closed {q : GConj} {w : Int} {vars : List Int} {m : MapB} (g : GoodM q w vars m) (hl : (passI q w m q.Atoms.length).length ≤ m.length) {t : Int} (h : ClV q w vars t) (h0 : 0 ≤ t) : t ∈ (passI q w m q.Atoms.length).map (·.1) := by
  obtain ⟨gn, sn⟩ := passI_good g q.Atoms.length (Nat.le_refl _)
  have back := nodup_sub_eq g.nd gn.nd sn (by simpa using hl)
  have mono : ∀ i j, i ≤ j → j ≤ q.Atoms.length → ∀ s, s ∈ (passI q w m i).map (·.1) → s ∈ (passI q w m j).map (·.1) := by
    intro i j hij
    induction hij with
    | refl => intro _ s h; exact h
    | @step j hij ih =>
      intro hj s hs
      have := ih (by omega) s hs
      simp only [passI]
      split
      · exact (addM_keys _ _ _).2 (.inl this)
      · exact this
  induction h with
  | base h => exact gn.base _ h h0
  | @step H t hH hw _ ht ih =>
    obtain ⟨gH, sH⟩ := passI_good g H (by omega)
    have hc : covM (passI q w m H) (keyT q H) = true := (gH.cov _).2 (fun t' ht' h0' => sH _ (back _ (ih t' ht' h0' h0')))
    refine mono (H + 1) _ (by omega) (Nat.le_refl _) t ?_
    simp only [passI]
    rw [if_pos ⟨hw, hc⟩]
    exact (addM_keys _ _ _).2 (.inr ⟨ht, h0⟩)
structure ClRes (q : GConj) (w : Int) (vars : List Int) (m : MapB) : Prop where
  good : GoodM q w vars m
  all : ∀ t, 0 ≤ t → ((mget m t).getD false = true ↔ ClV q w vars t)
theorem cl_res {q : GConj} {w : Int} {vars : List Int} {m : MapB} (g : GoodM q w vars m) (hl : (passI q w m q.Atoms.length).length ≤ m.length) : ClRes q w vars (passI q w m q.Atoms.length) := by
  obtain ⟨gn, sn⟩ := passI_good g q.Atoms.length (Nat.le_refl _)
  refine ⟨gn, fun t h0 => ⟨fun h => ?_, fun h => (gn.val t).2 (fix_closed g hl h h0)⟩⟩
  obtain ⟨y, hy, e⟩ := List.mem_map.1 ((gn.val t).1 h)
  have := (gn.ok y hy).2.2.1
  rw [e] at this; exact this
theorem good_start (q : GConj) (w : Int) (vars : List Int) : GoodM q w vars (addM [] vars) where
  nd := addM_nd _ (by simp)
  ok := fun x hx => by
    rcases addM_all _ hx with hx | ⟨h1, h2, h3⟩
    · cases hx
    · exact ⟨h1, h2, .base h3, List.mem_append_left _ h3⟩
  base := fun t ht h0 => (addM_keys _ _ _).2 (.inr ⟨ht, h0⟩)
/-- What holds at the head of the loop. -/
def CInv (q : GConj) (w : Int) (vars : List Int) (m : MapB) (size : Int) : Prop := GoodM q w vars m ∧ -1 ≤ size ∧ (size = -1 ∨ ∃ m0, GoodM q w vars m0 ∧ size = m0.length ∧ m = passI q w m0 q.Atoms.length)
theorem CInv.res {q : GConj} {w : Int} {vars : List Int} {m : MapB} {size : Int} (h : CInv q w vars m size) (hx : ¬ size < m.length) : ClRes q w vars m := by
  obtain ⟨g, _, h | ⟨m0, g0, e1, rfl⟩⟩ := h
  · omega
  · exact cl_res g0 (by omega)
theorem addM_snoc {m : MapB} {ts : List Int} {i : Nat} (h : i < ts.length) : addM m (ts.take (i + 1)) = if 0 ≤ nth ts i then mput (addM m (ts.take i)) (nth ts i) true else addM m (ts.take i) := by
  rw [takeB h]; simp [addM]
theorem valid_atom {q : GConj} (hq : validQ q = true) {i : Nat} (hi : i < q.Atoms.length) : 1 ≤ (nth q.Atoms i).Cols.length ∧ (nth q.Atoms i).Cols.length ≤ 12 ∧ (nth q.Atoms i).Terms.length = (nth q.Atoms i).Cols.length ∧ 1 ≤ (nth q.Atoms i).Key ∧ (nth q.Atoms i).Key ≤ (nth q.Atoms i).Cols.length := by
  unfold validQ at hq
  rw [Bool.and_eq_true] at hq
  have h1 := rall_iff.1 hq.2 i hi
  unfold okA at h1
  simp only [Bool.and_eq_true, decide_eq_true_eq] at h1
  exact h1.1.2
theorem valid_bounds {q : GConj} (hq : validQ q = true) : 0 ≤ q.Vars ∧ q.Vars ≤ 240 ∧ q.Consts.length ≤ 240 ∧ q.Atoms.length ≤ 20 := by
  unfold validQ at hq
  simp only [Bool.and_eq_true, decide_eq_true_eq] at hq
  exact hq.1.1
theorem setAdd_spec (v : Value) (m : MapB) (ts : List Int) (hl : ts.length ≤ 1000000000000) : Spec (X := Unit) prog 147 [rV.ty v, tSl rInt ts] ([mapOwn kvI rBool v m]) (fun _ => tTup []) (fun _ => [mapOwn kvI rBool v (addM m ts)]) := by
 refine Spec.enter func147 rfl rfl fun h0 w0 fr0 => ?_
 refine Jr (Jm rfl (Js rfl (step_len_sl underlying27 Sr) (Jm rfl (JL_nil (J_block ?_)))))
 refine J_loopL (σ := Nat) (fun i => i ≤ ts.length) (fun i => upd (upd (upd (upd env0 0 (rV.ty v)) 6 (tSl rInt ts)) 7 (tV (.int .i64 ts.length))) 8 (tV (.int .i64 i))) (fun i => [mapOwn kvI rBool v (addM m (ts.take i))]) (fun i => ts.length - i) 0 zG (.u (.u (.u (SubE.upd Sr SubE.any)))) (LSub.cons zS (SPs.of (by simp [addM])) (LSub.nil)) ?_
 rintro i hi
 refine Jr (Js rfl (step_lss Sr Sr) (JL_nil (J_seq ?_)))
 refine J_cond Sr (fun h9 => ?_) (fun h9 => ?_)
 ·
  try simp only [NF] at h9
  have hlt : i < ts.length := by omega
  refine J_skip (J_seq (J_block (Jr ?_)))
  refine Js rfl (step_indexAddr_sl  underlying27 ty3 Sr Sr rfl (gb (by exact hlt))) ?_
  refine Jl rfl ty3 Sr (Ja rfl (JL_nil (Jr (Jm rfl (Js rfl (step_geq Sr Sr) ?_)))))
  refine JL_nil ?_
  refine J_cond Sr (fun h13 => ?_) (fun h13 => ?_)
  ·
   try simp only [NF] at h13
   refine J_region (Jm rfl (Jm rfl ?_))
   refine Ju (step_mapUpdate (kv := kvI) (R := rBool) (KeyT.int underlying3) underlying153 Sub.ofRV Sr Sr zS) fun _ => ?_
   refine JL_nil (J_region (Js rfl (step_add Sr Sr z6) (Jm rfl (JL_nil ?_))))
   refine K_againL (σ := Nat) (s := i) (i + 1) zO zG (.u (.u (.u (SubE.upd Sr SubE.any)))) (LSub.cons zS (SPs.of (by rw [addM_snoc hlt, if_pos h13])) (LSub.nil))
  try simp only [NF] at h13
  refine J_skip (J_region (Js rfl (step_add Sr Sr z6) (Jm rfl (JL_nil ?_))))
  refine K_againL (σ := Nat) (s := i) (i + 1) zO zG (.u (.u (.u (SubE.upd Sr SubE.any)))) (LSub.cons zS (SPs.of (by rw [addM_snoc hlt, if_neg zG])) (LSub.nil))
 try simp only [NF] at h9
 refine J_exit ?_
 refine K_lsub (LSub.cons zS (SPs.of (by rw [List.take_of_length_le zG])) (LSub.nil)) ?_
 refine K_end0 rfl () Sr
theorem coversF_spec (v : Value) (m : MapB) (t : Int) : Spec (X := Unit) prog 172 [tV (.int .i64 t), tPtr rV v] ([mapOwn kvI rBool v m]) (fun _ => tV (.bool (decide (0 ≤ t) && !((mget m t).getD false)))) (fun _ => [mapOwn kvI rBool v m]) := by
 refine Spec.enter func172 rfl rfl fun h0 w0 fr0 => ?_
 refine Jr (Ja rfl (JL_nil (Jr (Jm rfl (Js rfl (step_geq Sr Sr) ?_)))))
 refine Jm rfl (Jg rfl Sr rfl (fun hw => step_load_ptr ty153V Sr) (Jg rfl Sr rfl (fun hw => step_move Sr) ?_))
 refine Jg rfl Sr rfl (fun hw => step_lookup (kv := kvI) (R := rBool) (z := false) (KeyT.int underlying3) underlying153 (fun w => zeroValue4 w) zr4 (Sub.trans (Sub.w hw) Sub.ofRV) (Sub.w hw) zS) ?_
 refine Jg rfl Sr rfl (fun hw => step_not (Sub.w hw)) (Js rfl (step_pick_and Sr Sr) (Ja rfl (JL_nil (J_ret ?_))))
 refine K_retv (rv := .tmp 3) rfl () (.tmp Sr) (Sub.bool ?_)
 simp
theorem covers_spec (v : Value) (m : MapB) (ts : List Int) (hl : ts.length ≤ 1000000000000) : Spec (X := Unit) prog 148 [rV.ty v, tSl rInt ts] ([mapOwn kvI rBool v m]) (fun _ => tV (.bool (covM m ts))) (fun _ => [mapOwn kvI rBool v m]) := by
 refine Spec.enter func148 rfl rfl fun h0 w0 fr0 => ?_
 refine Jr ?_
 refine Jx rfl (step_box_own (R := rV) Sr) fun v2 => ?_
 refine Ja rfl (JL_nil (Jr ?_))
 refine JL_freeze (t := 2) (Sel.take (Sel.none _)) Frz.box ?_
 refine Jm rfl (Js rfl (step_makeFunc (As := [_]) ⟨Sr, trivial⟩) ?_)
 refine Jx rfl (step_call (Sel.all _) (ContainsFuncM_spec ts hl 172 [tPtr rV v] (mapOwn kvI rBool v m) (fun t => decide (0 ≤ t) && !((mget m t).getD false)) (fun x _ => coversF_spec v m x) call172) ⟨Sr, Sr, trivial⟩ call42) fun v7 => ?_
 refine Js rfl (step_not Sr) (Ja rfl (JL_nil (J_ret ?_)))
 refine K_retv (rv := .tmp 4) rfl () (.tmp Sr) Sr
theorem closure_spec (q : GConj) (hq : validQ q = true) (w : Int) (vars : List Int) (hl : vars.length ≤ 1000000000) : Spec (X := { m : MapB // ClRes q w vars m }) prog 120 [rConj.ty q, tV (.int .i64 w), tSl rInt vars] ([]) (fun m => tMapI kvI rBool m.1) (fun m => []) := by
 refine Spec.enter func120 rfl rfl fun h0 w0 fr0 => ?_
 have hvb := valid_bounds hq
 refine Jr (Js rfl (step_box (R := rConj) Sr) (Ja rfl (JL_nil (Jr ?_))))
 refine Jx rfl (step_makeMapV (kv := kvI) (R := rBool)) fun v11 => ?_
 refine Ja rfl (JL_nil (Jr (Jm rfl (Jm rfl ?_))))
 refine Jx rfl (step_call zS (setAdd_spec v11 [] vars zG) ⟨Sr, Sr, trivial⟩ call147) fun v14 => ?_
 refine JL_nil (J_seq (Jr (Ja rfl (JL_nil (J_block ?_)))))
 refine J_loopL (σ := MapB × Int) (fun ⟨m, size⟩ => CInv q w vars m size) (fun ⟨m, size⟩ => upd (upd (upd (upd env0 1 (tV (.int .i64 w))) 3 (tPtr rConj q)) 7 (rV.ty v11)) 8 (tV (.int .i64 size))) (fun ⟨m, size⟩ => [mapOwn kvI rBool v11 m]) (fun ⟨m, size⟩ => ((uniV q vars).length + 1 - size).toNat) (addM [] vars, -1) ⟨good_start q w vars, by omega, .inl rfl⟩ (.u (.u (.u (SubE.upd Sr SubE.any)))) (LSub.cons zS (SPs.rfl) (LSub.nil)) ?_
 rintro ⟨m, size⟩ hci
 try dsimp only at hci
 refine J_seq (Jr (Jm rfl (Jm rfl ?_)))
 refine Js rfl (step_len_map underlying153 Sr zS) ?_
 refine Js rfl (step_lss Sr Sr) (JL_nil ?_)
 refine J_cond Sr (fun h18 => ?_) (fun h18 => ?_)
 ·
  try simp only [NF] at h18
  refine J_skip (J_block (Jr (Jm rfl ?_)))
  refine Js rfl (step_len_map underlying153 Sr zS) ?_
  refine Ja rfl (JL_nil (Jr (Js rfl (step_fieldAddr so25 Sr rfl) (Jl rfl ty23 Sr (Js rfl (step_len_sl underlying23 Sr) ?_)))))
  refine Jm rfl (JL_nil (J_block ?_))
  refine J_loopL (σ := Nat) (fun i => i ≤ q.Atoms.length) (fun i => upd (upd (upd (upd (upd (upd (upd (upd (upd (upd (upd env0 1 (tV (.int .i64 w))) 3 (tPtr rConj q)) 7 (rV.ty v11)) 8 (tV (.int .i64 m.length))) 15 (tV (.int .i64 size))) 16 (rV.ty v11)) 19 (rV.ty v11)) 20 (tV (.int .i64 m.length))) 22 (tSl rAtom q.Atoms)) 23 (tV (.int .i64 q.Atoms.length))) 24 (tV (.int .i64 i))) (fun i => [mapOwn kvI rBool v11 (passI q w m i)]) (fun i => q.Atoms.length - i) 0 zG (.u (.u (.u (.u (.u (.u (.u (.u (.u (.u (SubE.upd Sr SubE.any))))))))))) (LSub.cons zS (SPs.of rfl) (LSub.nil)) ?_
  rintro i hi
  refine Jr (Js rfl (step_lss Sr Sr) (JL_nil (J_seq ?_)))
  refine J_cond Sr (fun h25 => ?_) (fun h25 => ?_)
  ·
   try simp only [NF] at h25
   have hlt : i < q.Atoms.length := by omega
   refine J_skip (J_seq (J_block (Jr (Jm rfl ?_))))
   refine Js rfl (step_indexAddr_sl  underlying23 ty47 Sr Sr rfl (gb (by exact hlt))) ?_
   refine Jl rfl ty47 Sr ?_
   refine Jx rfl (step_alloc (fun w => zeroValue47 w) zr47) fun v10 => ?_
   refine Ja rfl ?_
   refine Ju (step_store_box ty47 Sr Sr zS) fun _ => ?_
   refine JL_freeze (t := 10) (Sel.take (Sel.none _)) Frz.box ?_
   refine JL_nil (Jr (Jm rfl (Jm rfl (Js rfl (step_neq Sr Sr) (Jm rfl ?_)))))
   refine Jg rfl Sr rfl (fun hw => step_move Sr) (Jg rfl Sr rfl (fun hw => step_fieldAddr so47 Sr rfl) (Jg rfl Sr rfl (fun hw => step_load_ptr ty27 (Sub.w hw)) (Jg rfl Sr rfl (fun hw => step_fieldAddr so47 Sr rfl) (Jg rfl Sr rfl (fun hw => step_load_ptr ty3 (Sub.w hw)) ?_))))
   refine Jg rfl Sr rfl (fun hw => step_slice_toI (n := (nth q.Atoms i).Key.toNat) underlying27 ty3 (Sub.w hw) (Sub.w hw) (by have hwq := hw; (try simp only [beqB_t, beqB_f, NF] at hwq); have := valid_atom hq hlt; show (nth q.Atoms i).Key = (((nth q.Atoms i).Key.toNat : Nat) : Int); omega) (by have hwq := hw; (try simp only [beqB_t, beqB_f, NF] at hwq); have := valid_atom hq hlt; show (nth q.Atoms i).Key.toNat ≤ (nth q.Atoms i).Terms.length; omega)) ?_
   refine JL_stepGX (tV (.bool false)) rfl rfl rfl (Gd.plain Sr) rfl rfl (fun hw => step_call zS (covers_spec v11 (passI q w m i) (keyT q i) (by have := valid_atom hq hlt; rw [List.length_take]; omega)) ⟨(Sub.w hw), (Sub.w hw), trivial⟩ call148) (fun hw v39 => ?_) (fun hw => ?_)
   ·
    skip
    refine Js rfl (step_pick_and Sr Sr) (JL_nil ?_)
    refine J_cond Sr (fun h40 => ?_) (fun h40 => ?_)
    ·
     try simp only [NF] at h40
     refine J_region (Jm rfl (Js rfl (step_fieldAddr so47 Sr rfl) (Jl rfl ty27 Sr ?_)))
     refine Jx rfl (step_call zS (setAdd_spec v11 (passI q w m i) (nth q.Atoms i).Terms (by have := valid_atom hq hlt; omega)) ⟨Sr, Sr, trivial⟩ call147) fun v44 => ?_
     refine JL_nil (J_region (Js rfl (step_add Sr Sr z6) (Jm rfl (JL_nil ?_))))
     refine K_againL (σ := Nat) (s := i) (i + 1) zO zG (.u (.u (.u (.u (.u (.u (.u (.u (.u (.u (SubE.upd Sr SubE.any))))))))))) (LSub.cons zS (SPs.of (by simp only [passI]; rw [if_pos (by simp_all)])) (LSub.nil))
    try simp only [NF] at h40
    refine J_skip (J_region (Js rfl (step_add Sr Sr z6) (Jm rfl (JL_nil ?_))))
    refine K_againL (σ := Nat) (s := i) (i + 1) zO zG (.u (.u (.u (.u (.u (.u (.u (.u (.u (.u (SubE.upd Sr SubE.any))))))))))) (LSub.cons zS (SPs.of (by simp only [passI]; rw [if_neg (by simp_all)])) (LSub.nil))
   skip
   refine Js rfl (step_pick_and Sr Sr) (JL_nil ?_)
   refine J_cond Sr (fun h40 => ?_) (fun h40 => ?_)
   ·
    try simp only [NF] at h40
    first | contradiction | omega | (simp_all; done)
   try simp only [NF] at h40
   refine J_skip (J_region (Js rfl (step_add Sr Sr z6) (Jm rfl (JL_nil ?_))))
   refine K_againL (σ := Nat) (s := i) (i + 1) zO zG (.u (.u (.u (.u (.u (.u (.u (.u (.u (.u (SubE.upd Sr SubE.any))))))))))) (LSub.cons zS (SPs.of (by simp only [passI]; rw [if_neg (by simp_all)])) (LSub.nil))
  try simp only [NF] at h25
  refine J_exit ?_
  have hg := (passI_good hci.1 q.Atoms.length (Nat.le_refl _)).1
  have hlm := hci.1.len
  have hsz := hci.2.1
  refine K_againL (σ := MapB × Int) (s := (m, size)) (passI q w m q.Atoms.length, m.length) (by show (((uniV q vars).length : Int) + 1 - (m.length : Int)).toNat < (((uniV q vars).length : Int) + 1 - size).toNat; omega) ⟨hg, by omega, .inr ⟨m, hci.1, rfl, rfl⟩⟩ (.u (.u (.u (SubE.upd Sr SubE.any)))) (LSub.cons zS (SPs.of (by rw [show i = q.Atoms.length by omega])) (LSub.nil))
 try simp only [NF] at h18
 refine J_exit (Jr (Jm rfl (Ja rfl (JL_nil (J_ret ?_)))))
 refine K_ret1' (rv := .tmp 6) rfl ⟨m, hci.res zG⟩ (Sel.all _) (.tmp Sr) Frz.mapV
open Go Go.Proofs Go.Proofs.Tryz
/-- Some type of a family. -/
def tEx {X : Type} (T : X → Ty) : Ty := ⟨fun h v => ∃ x, (T x).p h v, fun l ⟨x, a⟩ => ⟨x, (T x).mono l a⟩⟩
theorem Spec.ex {X : Type} {P : Program} {f : Nat} {aT : List Ty} {T : X → Ty} (h : Spec (X := X) P f aT [] T (fun _ => [])) : Fun1 P f aT (tEx T) := fun vs h0 m r w ha sp st =>
  (h vs h0 m r w ha sp st).mono fun e w' ⟨x, u, h', m', e1, l, s, st', hu⟩ => ⟨(), u, h', m', e1, l, s, st', ⟨x, hu⟩⟩
theorem K_exT {X : Type} {C : Cx} {k : Act → World → Prop} {E : Env} {L : List SP} {t : Nat} {A : X → Ty} (hE : ∀ h v, (E t).p h v → ∃ x, (A x).p h v) (hk : ∀ x, K C k (upd E t (A x)) L) : K C k E L :=
  fun a w ⟨n, ds, h, m, l, sp, st, fr⟩ => by
  obtain ⟨x, hx⟩ := hE h _ (fr t)
  refine hk x a w ⟨n, ds, h, m, l, sp, st, fun u => ?_⟩
  by_cases e : u = t
  · subst e; rw [upd_same]; exact hx
  · rw [upd_other _ _ e]; exact fr u
theorem tEx_one {κ β X : Type} [DecidableEq κ] {kv : κ → Value} {R : Rp β} {m : X → List (κ × β)} : ∀ h v, (tEx fun x => tMapI kv R (m x)).p h v → v.oneCell' = true := by
  rintro h v ⟨x, hx⟩
  obtain ⟨r, es, rfl, _⟩ := tMapI_iff hx; rfl
theorem ptr_ex {κ β X : Type} [DecidableEq κ] {kv : κ → Value} {R : Rp β} {m : X → List (κ × β)} : ∀ h v, (tPtr (rTyp (tEx fun x => tMapI kv R (m x)) tEx_one) ()).p h v → ∃ x, (tPtr (rOM kv R) (some (m x))).p h v := by
  rintro h v ⟨b, off, cs, rfl, H, u, rfl, x, hx⟩
  exact ⟨x, b, off, [u], rfl, H, u, rfl, hx⟩
theorem LSub.unstars {A L : List SP} : LSub (Lg.stars A :: L) (A ++ L) := fun h m p => stars_append.2 p
theorem ty153M : TyOf prog 153 (rOM kvI rBool) := ⟨fun w => isAgg153 w, fun w => sizeOf153 w⟩
/-- Atoms that an atom reaches by variables outside of the closure of its key. -/
inductive RcQ (q : GConj) (f : Nat) : Nat → Prop
  | refl : RcQ q f f
  | step {H K : Nat} {t : Int} : RcQ q f H → H < q.Atoms.length → K < q.Atoms.length → t ∈ (nth q.Atoms H).Terms → t ∈ (nth q.Atoms K).Terms → 0 ≤ t → ¬ ClV q f (keyT q f) t → RcQ q f K
open Classical in
/-- Which atoms an atom attacks. -/
noncomputable def attB (q : GConj) (f : Nat) : List Bool := (List.range q.Atoms.length).map fun h => decide (RcQ q f h ∧ h ≠ f)
abbrev lnkT (q : GConj) (m : MapB) (x : Nat) (t : Int) : Bool := (decide (0 ≤ t) && !((mget m t).getD false)) && ((nth q.Atoms x).Terms.any fun s => decide (t = s))
def lnk (q : GConj) (m : MapB) (x k : Nat) : Bool := (nth q.Atoms k).Terms.any (lnkT q m x)
theorem lnk_iff {q : GConj} {f : Nat} {m : MapB} (hm : ClRes q f (keyT q f) m) {x k : Nat} : lnk q m x k = true ↔ ∃ t, t ∈ (nth q.Atoms x).Terms ∧ t ∈ (nth q.Atoms k).Terms ∧ 0 ≤ t ∧ ¬ ClV q f (keyT q f) t := by
  unfold lnk
  rw [List.any_eq_true]
  constructor
  · rintro ⟨t, ht, h⟩
    simp only [lnkT, Bool.and_eq_true, Bool.not_eq_true', decide_eq_true_eq, List.any_eq_true] at h
    obtain ⟨⟨h0, h1⟩, s, hs, e⟩ := h
    subst e
    exact ⟨t, hs, ht, h0, fun q => by rw [(hm.all t h0).2 q] at h1; cases h1⟩
  · rintro ⟨t, h1, h2, h0, h3⟩
    refine ⟨t, h2, ?_⟩
    simp only [lnkT, Bool.and_eq_true, Bool.not_eq_true', decide_eq_true_eq, List.any_eq_true]
    refine ⟨⟨h0, ?_⟩, t, h1, rfl⟩
    cases e : (mget m t).getD false with
    | false => rfl
    | true => exact absurd ((hm.all t h0).1 e) h3
structure BInv (q : GConj) (f : Nat) (m : MapB) (out : List Bool) (w : List Int) (x : Option Nat) : Prop where
  len : out.length = q.Atoms.length
  self : nth out f = true
  rc : ∀ h, h < q.Atoms.length → nth out h = true → RcQ q f h
  wok : ∀ y ∈ w, ∃ h : Nat, y = h ∧ h < q.Atoms.length ∧ nth out h = true
  cl : ∀ h, h < q.Atoms.length → nth out h = true → (h : Int) ∉ w → some h ≠ x → ∀ k, k < q.Atoms.length → lnk q m h k = true → nth out k = true
theorem cnt_set : ∀ {out : List Bool} {k : Nat}, k < out.length → nth out k = false → (out.set k true).count false + 1 = out.count false
  | [], k, h, _ => by simp at h
  | a :: out, 0, _, h => by
    have h : a = false := h
    subst h; simp
  | a :: out, k + 1, h, h0 => by
    have := cnt_set (out := out) (k := k) (by simpa using h) h0
    simp only [List.set_cons_succ, List.count_cons] at this ⊢
    omega
theorem nth_setB {out : List Bool} {k j : Nat} (h : j < out.length) : nth (out.set k true) j = if k = j then true else nth out j := Lg.nth_set h
theorem BInv.add {q : GConj} {f : Nat} {m : MapB} {out : List Bool} {w : List Int} {x k : Nat} (b : BInv q f m out w (some x)) (hm : ClRes q f (keyT q f) m) (hf : f < q.Atoms.length) (hx : x < q.Atoms.length) (hxo : nth out x = true) (hk : k < q.Atoms.length) (hl : lnk q m x k = true) (h0 : nth out k = false) :
    BInv q f m (out.set k true) (w ++ [(k : Int)]) (some x) where
  len := by rw [List.length_set]; exact b.len
  self := by
    have := b.self
    rw [nth_setB (by rw [b.len]; exact hf)]; split <;> simp [this]
  rc := fun h hh e => by
    rw [nth_setB (by rw [b.len]; exact hh)] at e
    split at e
    · rename_i q; subst q
      obtain ⟨t, h1, h2, h3, h4⟩ := (lnk_iff hm).1 hl
      exact .step (b.rc x hx hxo) hx hk h1 h2 h3 h4
    · exact b.rc h hh e
  wok := fun y hy => by
    rcases List.mem_append.1 hy with hy | hy
    · obtain ⟨h, e, h1, h2⟩ := b.wok y hy
      refine ⟨h, e, h1, ?_⟩
      rw [nth_setB (by rw [b.len]; exact h1)]; split <;> simp [h2]
    · simp only [List.mem_singleton] at hy
      refine ⟨k, hy, hk, ?_⟩
      rw [nth_setB (by rw [b.len]; exact hk), if_pos rfl]
  cl := fun h hh e hw hne j hj hlj => by
    rw [nth_setB (by rw [b.len]; exact hh)] at e
    have hw : (h : Int) ∉ w ∧ ¬ (h : Int) = (k : Int) := by simpa [not_or] using hw
    rw [if_neg (by omega)] at e
    rw [nth_setB (by rw [b.len]; exact hj)]
    split
    · rfl
    · exact b.cl h hh e hw.1 hne j hj hlj
theorem BInv.next {q : GConj} {f : Nat} {m : MapB} {out : List Bool} {r : List Int} {x : Nat} (b : BInv q f m out ((x : Int) :: r) (some x)) (hx : ∀ k, k < q.Atoms.length → lnk q m x k = true → nth out k = true) : BInv q f m out r none where
  len := b.len
  self := b.self
  rc := b.rc
  wok := fun y hy => b.wok y (by simp [hy])
  cl := fun h hh e hw _ k hk hl => by
    by_cases q : h = x
    · subst q; exact hx k hk hl
    · exact b.cl h hh e (by simp only [List.mem_cons, not_or]; exact ⟨by omega, hw⟩) (fun e => by injection e with e; exact q e) k hk hl
theorem BInv.open {q : GConj} {f : Nat} {m : MapB} {out : List Bool} {w : List Int} (b : BInv q f m out w none) (x : Nat) : BInv q f m out w (some x) where
  len := b.len
  self := b.self
  rc := b.rc
  wok := b.wok
  cl := fun h hh e hw _ k hk hl => b.cl h hh e hw (by simp) k hk hl
theorem BInv.start {q : GConj} {f : Nat} {m : MapB} (hf : f < q.Atoms.length) : BInv q f m ((List.replicate q.Atoms.length false).set f true) [(f : Int)] none := by
  have hn : ∀ h, h < q.Atoms.length → nth (List.replicate q.Atoms.length false) h = false := fun h hh => by rw [nth_get (by simpa using hh)]; simp
  refine ⟨by simp, by rw [nth_setB (by simpa using hf), if_pos rfl], fun h hh e => ?_, fun y hy => ⟨f, by simpa using hy, hf, by rw [nth_setB (by simpa using hf), if_pos rfl]⟩, fun h hh e hw _ k hk hl => ?_⟩
  · rw [nth_setB (by simpa using hh), hn h hh] at e
    split at e
    · rename_i q; subst q; exact .refl
    · cases e
  · rw [nth_setB (by simpa using hh), hn h hh] at e
    split at e
    · rename_i q; subst q; simp at hw
    · cases e
theorem BInv.res {q : GConj} {f : Nat} {m : MapB} {out : List Bool} (hm : ClRes q f (keyT q f) m) (hf : f < q.Atoms.length) (b : BInv q f m out [] none) : out.set f false = attB q f := by
  have hall : ∀ h, RcQ q f h → h < q.Atoms.length → nth out h = true := by
    intro h r
    induction r with
    | refl => intro _; exact b.self
    | step r hH hK h1 h2 h3 h4 ih => intro _; exact b.cl _ hH (ih hH) (by simp) (by simp) _ hK ((lnk_iff hm).2 ⟨_, h1, h2, h3, h4⟩)
  apply List.ext_getElem?
  intro i
  unfold attB
  by_cases hi : i < q.Atoms.length
  · rw [List.getElem?_set, List.getElem?_map, List.getElem?_range hi]
    by_cases e : f = i
    · subst e; simp [b.len, hi]
    · rw [if_neg e, List.getElem?_eq_getElem (by rw [b.len]; exact hi)]
      simp only [Option.map_some, Option.some.injEq]
      rw [← nth_get]
      by_cases r : RcQ q f i
      · rw [hall i r hi]; simp [r, Ne.symm e]
      · cases e2 : nth out i with
        | false => simp [r]
        | true => exact absurd (b.rc i hi e2) r
  · rw [List.getElem?_eq_none (by simp [b.len]; omega), List.getElem?_eq_none (by simp; omega)]
theorem inner_add {q : GConj} {f x i n0 : Nat} {m : MapB} {out2 : List Bool} {r : List Int} (hm : ClRes q f (keyT q f) m) (hf : f < q.Atoms.length) (hx : x < q.Atoms.length) (hlt : i < q.Atoms.length) (hbi : BInv q f m out2 ((x : Int) :: r) (some x)) (hxo : nth out2 x = true) (hlk : ∀ k, k < i → lnk q m x k = true → nth out2 k = true) (hms : 2 * out2.count false + r.length ≤ n0) (hl : lnk q m x i = true) (h0 : nth out2 i = false) :
    i + 1 ≤ q.Atoms.length ∧ BInv q f m (out2.set i true) ((x : Int) :: (r ++ [(i : Int)])) (some x) ∧ nth (out2.set i true) x = true ∧ (∀ k, k < i + 1 → lnk q m x k = true → nth (out2.set i true) k = true) ∧ 2 * (out2.set i true).count false + (r ++ [(i : Int)]).length ≤ n0 := by
  have hil : i < out2.length := by rw [hbi.len]; exact hlt
  have hc := cnt_set hil h0
  refine ⟨hlt, hbi.add hm hf hx hxo hlt hl h0, ?_, fun k hk hlk' => ?_, ?_⟩
  · rw [nth_setB (by rw [hbi.len]; exact hx)]; split <;> simp [hxo]
  · rw [nth_setB (by rw [hbi.len]; omega)]
    split
    · rfl
    · exact hlk k (by omega) hlk'
  · rw [List.length_append]; simp only [List.length_cons, List.length_nil]; omega
theorem inner_skip {q : GConj} {f x i n0 : Nat} {m : MapB} {out2 : List Bool} {r : List Int} (hlt : i < q.Atoms.length) (hbi : BInv q f m out2 ((x : Int) :: r) (some x)) (hxo : nth out2 x = true) (hlk : ∀ k, k < i → lnk q m x k = true → nth out2 k = true) (hms : 2 * out2.count false + r.length ≤ n0) (h : lnk q m x i = false ∨ nth out2 i = true) :
    i + 1 ≤ q.Atoms.length ∧ BInv q f m out2 ((x : Int) :: r) (some x) ∧ nth out2 x = true ∧ (∀ k, k < i + 1 → lnk q m x k = true → nth out2 k = true) ∧ 2 * out2.count false + r.length ≤ n0 := by
  refine ⟨hlt, hbi, hxo, fun k hk hl => ?_, hms⟩
  by_cases e : k = i
  · subst e
    rcases h with h | h
    · rw [h] at hl; cases hl
    · exact h
  · exact hlk k (by omega) hl
theorem attB_len (q : GConj) (f : Nat) : (attB q f).length = q.Atoms.length := by simp [attB]
theorem closureE_spec (q : GConj) (hq : validQ q = true) (w : Int) (vars : List Int) (hl : vars.length ≤ 1000000000) : Fun1 prog 120 [rConj.ty q, tV (.int .i64 w), tSl rInt vars] (tEx fun m : { m : MapB // ClRes q w vars m } => tMapI kvI rBool m.1) := Spec.ex (closure_spec q hq w vars hl)
theorem ty153X {A : Ty} {ho : ∀ h v, A.p h v → v.oneCell' = true} : TyOf prog 153 (rTyp A ho) := ⟨fun w => isAgg153 w, fun w => sizeOf153 w⟩
noncomputable def attL (q : GConj) : List (List Bool) := (List.range q.Atoms.length).map (attB q)
theorem attF_spec (q : GConj) (m : MapB) (b : Nat) (v : Value) (x : Nat) (hx : x < q.Atoms.length) (r : List Int) (hlx : (nth q.Atoms x).Terms.length ≤ 1000000000000) (t : Int) : Spec (X := Unit) prog 121 [tV (.int .i64 t), tPtr (rOM kvI rBool) (some m), tPtr rConj q, tAt b 0] ([stars [box b 27 rV v, que v ((x : Int) :: r)]]) (fun _ => tV (.bool (lnkT q m x t))) (fun _ => [stars [box b 27 rV v, que v ((x : Int) :: r)]]) := by
 refine Spec.enter func121 rfl rfl fun h0 w0 fr0 => ?_
 refine J_seq ?_
 refine K_lsub LSub.unstars ?_
 refine J_region (Ja rfl (JL_nil (J_seq ?_)))
 refine J_drawN [⟨0, [0], true⟩, ⟨1, [6], true⟩, ⟨2, [7], true⟩, ⟨3, [1, 8], true⟩, ⟨4, [0, 8], true⟩, ⟨5, [8, 9, 10], true⟩, ⟨6, [8, 11], true⟩, ⟨7, [8, 12], true⟩, ⟨8, [13], true⟩, ⟨9, [2, 14], true⟩, ⟨10, [14, 15], true⟩, ⟨17, [0, 14], true⟩, ⟨11, [3, 14], true⟩, ⟨12, [14, 17], true⟩, ⟨13, [14, 18], true⟩, ⟨14, [14, 16, 19], true⟩, ⟨15, [14, 20], true⟩, ⟨16, [14, 21], true⟩, ⟨18, [14, 22, 23], true⟩, ⟨19, [14, 24], true⟩, ⟨20, [25], true⟩] rfl (by kernel_rfl) rfl ?_
 refine JN_step rfl rfl rfl rfl (step_move Sr) ?_
 refine JN_step rfl rfl rfl rfl (step_geq Sr Sr) ?_
 refine JN_step rfl rfl rfl rfl (step_move Sr) ?_
 refine JN_stepG rfl rfl rfl rfl (Gd.plain Sr) rfl rfl (fun hw => step_load_ptr ty153M Sr) ?_
 refine JN_stepG rfl rfl rfl rfl (Gd.plain Sr) rfl rfl (fun hw => step_move Sr) ?_
 refine JN_stepG rfl rfl rfl rfl (Gd.plain Sr) rfl rfl (fun hw => step_lookupI (kv := kvI) (R := rBool) (z := false) (KeyT.int underlying3) underlying153 (fun w => zeroValue4 w) zr4 (Sub.w hw) (Sub.w hw)) ?_
 refine JN_stepG rfl rfl rfl rfl (Gd.plain Sr) rfl rfl (fun hw => step_not (Sub.w hw)) ?_
 refine JN_step rfl rfl rfl rfl (step_pick_and Sr Sr) ?_
 refine JN_step rfl rfl rfl rfl (step_move Sr) ?_
 refine JN_stepG rfl rfl rfl rfl (Gd.plain Sr) rfl rfl (fun hw => step_fieldAddr so25 Sr rfl) ?_
 refine JN_stepG rfl rfl rfl rfl (Gd.plain Sr) rfl rfl (fun hw => step_load_ptr ty23 (Sub.w hw)) ?_
 refine JN_stepG rfl rfl rfl rfl (Gd.plain Sr) rfl rfl (fun hw => step_move Sr) ?_
 refine JN_stepG rfl rfl rfl rfl (Gd.plain Sr) rfl rfl (fun hw => step_load_box ty27V Sr zS) ?_
 refine JN_stepG rfl rfl rfl rfl (Gd.plain Sr) rfl rfl (fun hw => step_index_que underlying27 ty3 (Sub.w hw) Sr zS) ?_
 refine JN_stepG rfl rfl rfl rfl (Gd.plain Sr) rfl rfl (fun hw => step_load_que ty3 (Sub.w hw) zS) ?_
 refine JN_stepG rfl rfl rfl rfl (Gd.plain Sr) rfl rfl (fun hw => step_indexAddr_sl (i := x) underlying23 ty47 (Sub.w hw) (Sub.w hw) (by rfl) (gb (by have hwq := hw; (try simp only [beqB_t, beqB_f, NF] at hwq); exact hx))) ?_
 refine JN_stepG rfl rfl rfl rfl (Gd.plain Sr) rfl rfl (fun hw => step_fieldAddr so47 (Sub.w hw) rfl) ?_
 refine JN_stepG rfl rfl rfl rfl (Gd.plain Sr) rfl rfl (fun hw => step_load_ptr ty27 (Sub.w hw)) ?_
 refine JN_stepG rfl rfl rfl rfl (Gd.plain Sr) rfl rfl (fun hw => step_call0 (ContainsI_spec _ _ hlx) ⟨(Sub.w hw), (Sub.w hw), trivial⟩ call56) ?_
 refine JN_step rfl rfl rfl rfl (step_pick_and Sr Sr) ?_
 refine JN_step rfl rfl rfl rfl (step_assign Sr) ?_
 refine JN_nil (J_ret ?_)
 refine K_lsub (LSub.stars LSub.rfl) ?_
 refine K_retv (rv := .tmp 5) rfl () (.tmp Sr) (Sub.bool ?_)
 simp [lnkT]
set_option maxHeartbeats 4000000 in
theorem attacks_spec (q : GConj) (hq : validQ q = true) (f : Nat) (hf : f < q.Atoms.length) : Fun1 prog 94 [rConj.ty q, tV (.int .i64 f)] (tSl rBool (attB q f)) := by
 refine Spec.enter func94 rfl rfl fun h0 w0 fr0 => ?_
 have hvb := valid_bounds hq
 have hvf := valid_atom hq hf
 refine Jr (Js rfl (step_box (R := rConj) Sr) (Ja rfl (JL_nil (Jr (Js rfl (step_fieldAddr so25 Sr rfl) ?_)))))
 refine Jl rfl ty23 Sr (Jm rfl ?_)
 refine Js rfl (step_indexAddr_sl (i := f) underlying23 ty47 Sr Sr (by rfl) (gb (by exact hf))) ?_
 refine Jl rfl ty47 Sr ?_
 refine Jx rfl (step_alloc (fun w => zeroValue47 w) zr47) fun v5 => ?_
 refine Ju (step_store_box ty47 Sr Sr zS) fun _ => ?_
 refine JL_freeze (t := 5) (Sel.take (Sel.none _)) Frz.box ?_
 refine JL_nil (J_seq ?_)
 refine J_draw [⟨0, [2], true⟩, ⟨1, [1], true⟩, ⟨2, [5], true⟩, ⟨3, [19], true⟩, ⟨4, [5], true⟩, ⟨5, [21], true⟩, ⟨6, [20, 22], true⟩, ⟨7, [17, 18, 23], true⟩, ⟨8, [], false⟩, ⟨9, [6, 24], false⟩] rfl (by kernel_rfl) ?_
 refine Mf rfl rfl (step_load_ptr ty25 Sr) (Mv rfl rfl (Mf rfl rfl (step_fieldAddr so47 Sr rfl) (Mf rfl rfl (step_load_ptr ty27 Sr) (Mf rfl rfl (step_fieldAddr so47 Sr rfl) (Mf rfl rfl (step_load_ptr ty3 Sr) ?_)))))
 refine Mf rfl rfl (step_slice_toI (n := (nth q.Atoms f).Key.toNat) underlying27 ty3 Sr Sr (by show (nth q.Atoms f).Key = (((nth q.Atoms f).Key.toNat : Nat) : Int); omega) (by show (nth q.Atoms f).Key.toNat ≤ (nth q.Atoms f).Terms.length; omega)) ?_
 refine Mf rfl rfl (step_call0 (closureE_spec q hq f (keyT q f) (by rw [List.length_take]; omega)) ⟨Sr, Sr, Sr, trivial⟩ call120) ?_
 refine JM_stepX rfl rfl rfl rfl (step_alloc (R := rV) (z := Value.map none) (fun w => zeroValue153 w) (fun _ => ⟨rfl, rfl⟩)) fun v6 => ?_
 refine JM_stepU rfl rfl rfl (step_store_boxR (R := rV) (R' := rTyp (tEx fun m : { m : MapB // ClRes q f (keyT q f) m } => tMapI kvI rBool m.1) tEx_one) (z := ()) ty153X rfl Sr Sr zS) fun _ => ?_
 refine JM_nil (J_seq ?_)
 refine K_freeze (t := 6) (Sel.take (Sel.none _)) Frz.box ?_
 refine K_exT (t := 6) (A := fun m : { m : MapB // ClRes q f (keyT q f) m } => tPtr (rOM kvI rBool) (some m.1)) ptr_ex fun mm => ?_
 refine J_region (Js rfl (step_fieldAddr so25 Sr rfl) (Jl rfl ty23 Sr (Js rfl (step_len_sl underlying23 Sr) ?_)))
 refine Jx rfl (step_make (n := q.Atoms.length) underlying95 el4 Sr Sr rfl zG zG) fun v28 => ?_
 refine Ja rfl (JL_nil (Jr (Jm rfl (Jm rfl ?_))))
 refine Js rfl (step_indexAddr_own (i := f) underlying95 ty4 Sr zS Sr (by rfl) (by rw [List.length_replicate]; exact hf)) ?_
 refine Ju (step_store_own ty4 Sr Sr zS (by rw [List.length_replicate]; exact hf)) fun _ => ?_
 refine JL_nil (J_seq (Jr (Jm rfl ?_)))
 refine Jx rfl (step_literal_own (ys := [_]) underlying27 el3 ⟨rfl, Sr, trivial⟩ rfl (by decide)) fun v33 => ?_
 refine Jx rfl (step_alloc (R := rV) (z := Value.slice none 0 0) (fun w => zeroValue27 w) (fun _ => ⟨rfl, rfl⟩)) fun b9 => ?_
 refine Ju (step_store_box (R := rV) ty27V Sr Sr zS) fun _ => ?_
 refine JL_nil (J_block ?_)
 refine J_loopL (σ := Nat × Value × List Bool × List Int) (fun ⟨b8, vo, out, w⟩ => BInv q f mm.1 out w none ∧ 2 * out.count false + w.length ≤ 1000) (fun ⟨b8, vo, out, w⟩ => upd (upd (upd (upd (upd (upd env0 1 (tV (.int .i64 f))) 2 (tPtr rConj q)) 4 (tV (.slice none 0 0))) 6 (tPtr (rOM kvI rBool) (some mm.1))) 7 (rV.ty v28)) 8 (tAt b8 0)) (fun ⟨b8, vo, out, w⟩ => [box b8 27 rV vo, que vo w, own 4 rBool v28 out]) (fun ⟨b8, vo, out, w⟩ => 2 * out.count false + w.length) (b9, v33, (List.replicate q.Atoms.length false).set f true, [(f : Int)]) ⟨BInv.start hf, by have := List.count_le_length (a := false) (l := (List.replicate q.Atoms.length false).set f true); simp only [List.length_set, List.length_replicate] at this; simp only [List.length_cons, List.length_nil]; omega⟩ (.u (.u (.u (.u (.u (SubE.upd Sr SubE.any)))))) (LSub.cons zS (SPs.rfl) (LSub.cons zS (own_que (by simp)) (LSub.cons zS (SPs.rfl) (LSub.nil)))) ?_
 rintro ⟨b8, vo, out, w⟩ ⟨hbi, hbd⟩
 refine J_seq (Jr ?_)
 refine Js rfl (step_load_box ty27V Sr zS) ?_
 refine Js rfl (step_len_que underlying27 Sr zS) ?_
 refine Js rfl (step_gtr Sr Sr) (JL_nil ?_)
 refine J_cond Sr (fun h36 => ?_) (fun h36 => ?_)
 ·
  try simp only [NF] at h36
  obtain ⟨y, r0, rfl⟩ : ∃ y r0, w = y :: r0 := by cases w with | nil => simp at h36 | cons a b => exact ⟨a, b, rfl⟩
  obtain ⟨x, rfl, hx, hxo0⟩ := hbi.wok y (by simp)
  refine J_skip (J_seq (J_block (Jr (Js rfl (step_fieldAddr so25 Sr rfl) (Jl rfl ty23 Sr ?_)))))
  refine Js rfl (step_len_sl underlying23 Sr) (Jm rfl (JL_nil (J_block ?_)))
  refine J_loopL (σ := Nat × Value × List Bool × List Int) (fun ⟨i, vw, out2, r⟩ => i ≤ q.Atoms.length ∧ BInv q f mm.1 out2 ((x : Int) :: r) (some x) ∧ nth out2 x = true ∧ (∀ k, k < i → lnk q mm.1 x k = true → nth out2 k = true) ∧ 2 * out2.count false + r.length ≤ 2 * out.count false + r0.length) (fun ⟨i, vw, out2, r⟩ => upd (upd (upd (upd (upd (upd (upd (upd (upd env0 1 (tV (.int .i64 f))) 2 (tPtr rConj q)) 4 (tV (.slice none 0 0))) 6 (tPtr (rOM kvI rBool) (some mm.1))) 7 (rV.ty v28)) 8 (tAt b8 0)) 40 (tSl rAtom q.Atoms)) 41 (tV (.int .i64 q.Atoms.length))) 42 (tV (.int .i64 i))) (fun ⟨i, vw, out2, r⟩ => [box b8 27 rV vw, que vw ((x : Int) :: r), own 4 rBool v28 out2]) (fun ⟨i, vw, out2, r⟩ => q.Atoms.length - i) (0, vo, out, r0) ⟨by omega, hbi.open x, hxo0, fun k hk => by omega, Nat.le_refl _⟩ (.u (.u (.u (.u (.u (.u (.u (.u (SubE.upd Sr SubE.any))))))))) (LSub.cons zS (SPs.rfl) (LSub.cons zS (SPs.rfl) (LSub.cons zS (SPs.rfl) (LSub.nil)))) ?_
  rintro ⟨i, vw, out2, r⟩ ⟨hi, hbi, hxo, hlk, hms⟩
  refine Jr (Js rfl (step_lss Sr Sr) (JL_nil (J_seq ?_)))
  refine J_cond Sr (fun h43 => ?_) (fun h43 => ?_)
  ·
   try simp only [NF] at h43
   have hlt : i < q.Atoms.length := by omega
   refine J_skip (J_seq (J_block (Jr (Jm rfl ?_))))
   refine Js rfl (step_indexAddr_sl  underlying23 ty47 Sr Sr rfl (gb (by exact hlt))) ?_
   refine Jl rfl ty47 Sr ?_
   refine Jx rfl (step_alloc (fun w => zeroValue47 w) zr47) fun v10 => ?_
   refine Ja rfl ?_
   refine Ju (step_store_box ty47 Sr Sr zS) fun _ => ?_
   refine JL_freeze (t := 10) (Sel.take (Sel.none _)) Frz.box ?_
   refine JL_nil (Jr (Js rfl (step_fieldAddr so47 Sr rfl) (Jl rfl ty27 Sr (Js rfl (step_makeFunc (As := [_, _, _]) ⟨Sr, Sr, Sr, trivial⟩) ?_))))
   refine JL_lsub (LSub.trans (B := [box b8 27 rV vw, que vw ((x : Int) :: r), own 4 rBool v28 out2]) (LSub.cons zS (SPs.rfl) (LSub.cons zS (SPs.rfl) (LSub.cons zS (SPs.rfl) (LSub.nil)))) (LSub.stars (A := [box b8 27 rV vw, que vw ((x : Int) :: r)]) (L' := [own 4 rBool v28 out2]) LSub.rfl)) ?_
   refine Jx rfl (step_call (Sel.take (Sel.none _)) (ContainsFuncM_spec (nth q.Atoms i).Terms (by have := valid_atom hq hlt; omega) 121 [tPtr (rOM kvI rBool) (some mm.1), tPtr rConj q, tAt b8 0] (stars [box b8 27 rV vw, que vw ((x : Int) :: r)]) (fun t => lnkT q mm.1 x t) (fun t _ => attF_spec q mm.1 b8 vw x hx r (by have := valid_atom hq hx; omega) t) call121) ⟨Sr, Sr, trivial⟩ call42) fun v50 => ?_
   refine Ja rfl (JL_nil (J_seq ?_))
   refine K_lsub LSub.unstars ?_
   refine J_region (Jm rfl (Jm rfl (Jg rfl Sr rfl (fun hw => step_move Sr) (Jg rfl Sr rfl (fun hw => step_move Sr) ?_))))
   refine Jg rfl Sr rfl (fun hw => step_indexAddr_own (i := i) underlying95 ty4 (Sub.w hw) zS (Sub.w hw) (by rfl) (by have hwq := hw; (try simp only [beqB_t, beqB_f, NF] at hwq); rw [hbi.len]; exact hlt)) ?_
   refine Jg rfl Sr rfl (fun hw => step_load_own ty4 (Sub.w hw) zS (gb (by have hwq := hw; (try simp only [beqB_t, beqB_f, NF] at hwq); rw [hbi.len]; exact hlt))) ?_
   refine Jg rfl Sr rfl (fun hw => step_not (Sub.w hw)) (Js rfl (step_pick_and Sr Sr) (JL_nil ?_))
   refine J_cond Sr (fun h58 => ?_) (fun h58 => ?_)
   ·
    try simp only [NF] at h58
    refine Jr (Jm rfl (Jm rfl ?_))
    refine Js rfl (step_indexAddr_own (i := i) underlying95 ty4 Sr zS Sr (by rfl) (by rw [hbi.len]; exact hlt)) ?_
    refine Ju (step_store_own ty4 Sr Sr zS (by rw [hbi.len]; exact hlt)) fun _ => ?_
    refine JL_nil (J_region ?_)
    refine Js rfl (step_load_box ty27V Sr zS) ?_
    refine Jm rfl ?_
    refine Js rfl (step_literal (ys := [_]) underlying27 el3 ⟨rfl, Sr, trivial⟩ rfl (by decide)) ?_
    refine Jx rfl (step_append_que underlying27 rfl el3 Sr Sr (by simp) zS (by simp only [List.length_cons, List.length_nil] at hbd ⊢; omega)) fun v65 => ?_
    refine Ju (step_store_box (R := rV) ty27V Sr Sr zS) fun _ => ?_
    refine JL_nil (J_region (Js rfl (step_add Sr Sr z6) (Jm rfl (JL_nil ?_))))
    refine K_againL (σ := Nat × Value × List Bool × List Int) (s := (i, vw, out2, r)) (i + 1, v65, out2.set i true, r ++ [(i : Int)]) zO (inner_add mm.2 hf hx hlt hbi hxo hlk hms h58.1 h58.2) (.u (.u (.u (.u (.u (.u (.u (.u (SubE.upd Sr SubE.any))))))))) (LSub.rfl)
   try simp only [NF] at h58
   refine J_skip (J_region (Js rfl (step_add Sr Sr z6) (Jm rfl (JL_nil ?_))))
   refine K_againL (σ := Nat × Value × List Bool × List Int) (s := (i, vw, out2, r)) (i + 1, vw, out2, r) zO (inner_skip hlt hbi hxo hlk hms h58) (.u (.u (.u (.u (.u (.u (.u (.u (SubE.upd Sr SubE.any))))))))) (LSub.rfl)
  try simp only [NF] at h43
  refine J_exit (J_seq (Jr ?_))
  refine Js rfl (step_load_box ty27V Sr zS) ?_
  refine JL_nil (J_region ?_)
  refine Jx rfl (step_alloc (R := rV) (z := Value.slice none 0 0) (fun w => zeroValue27 w) (fun _ => ⟨rfl, rfl⟩)) fun b9 => ?_
  refine Ju (step_store_box (R := rV) ty27V Sr Sr zS) fun _ => ?_
  refine JL_nil (J_region ?_)
  refine Js rfl (step_load_box ty27V Sr zS) ?_
  refine Jx rfl (step_slice_que underlying27 ty3 Sr Sr zS) fun v38 => ?_
  refine Ju (step_store_box (R := rV) ty27V Sr Sr zS) fun _ => ?_
  refine JL_nil ?_
  refine K_lsub (L' := [box b8 27 rV vw, box b9 27 rV v38, que v38 r, own 4 rBool v28 out2]) (LSub.cons zS (SPs.rfl) (LSub.cons zS (SPs.rfl) (LSub.cons zS (SPs.rfl) (LSub.cons zS (SPs.rfl) (LSub.nil))))) ?_
  refine K_drop (Sel.take (Sel.none _)) ?_
  refine K_againL (σ := Nat × Value × List Bool × List Int) (s := (b8, vo, out, ((x : Int) :: r0))) (b9, v38, out2, r) (by show 2 * out2.count false + r.length < _; simp only [List.length_cons] at hms ⊢; omega) ⟨hbi.next (fun k hk => hlk k zG), by simp only [List.length_cons] at hbd; omega⟩ (.u (.u (.u (.u (.u (SubE.upd Sr SubE.any)))))) (LSub.cons zS (SPs.rfl) (LSub.cons zS (SPs.rfl) (LSub.cons zS (SPs.rfl) (LSub.nil))))
 try simp only [NF] at h36
 obtain rfl : w = [] := by cases w with | nil => rfl | cons a b => (exfalso; simp at h36; omega)
 refine J_exit (Jr (Jm rfl (Jm rfl ?_)))
 refine Js rfl (step_indexAddr_own (i := f) underlying95 ty4 Sr zS Sr (by rfl) (by rw [hbi.len]; exact hf)) ?_
 refine Ju (step_store_own ty4 Sr Sr zS (by rw [hbi.len]; exact hf)) fun _ => ?_
 refine JL_nil (Jr (Jm rfl (Ja rfl (JL_nil (J_ret ?_)))))
 refine K_lsub (L' := [own 4 rBool v28 (out.set f false), box b8 27 rV vo, que vo []]) (LSub.cons zS (SPs.rfl) (LSub.cons zS (SPs.rfl) (LSub.cons zS (SPs.rfl) (LSub.nil)))) ?_
 refine K_ret1' (rv := .tmp 4) rfl () (Sel.all _) (.tmp Sr) (Frz.own' (hbi.res mm.2 hf))
open Go Go.Proofs Go.Proofs.Tryz
theorem K_subT {C : Cx} {k : Act → World → Prop} {E : Env} {L : List SP} {t : Nat} {A : Ty} (hE : Sub (E t) A) (hk : K C k (upd E t A) L) : K C k E L :=
  fun a w ⟨n, ds, h, m, l, sp, st, fr⟩ => by
  refine hk a w ⟨n, ds, h, m, l, sp, st, fun u => ?_⟩
  by_cases e : u = t
  · subst e; rw [upd_same]; exact hE _ _ (fr u)
  · rw [upd_other _ _ e]; exact fr u
theorem ty78T {A : Ty} {ho : ∀ h v, A.p h v → v.oneCell' = true} : TyOf prog 78 (rTyp A ho) := ⟨fun w => isAgg78 w, fun w => sizeOf78 w⟩
theorem clo_one {f : Nat} {As : List Ty} : ∀ h v, (tClo f As).p h v → v.oneCell' = true := by rintro h v ⟨c, rfl, _⟩; rfl
abbrev errV (q : GConj) : Int := if validQ q = true then 0 else 1
abbrev cycA (v : Value) (l : List (List Bool)) (b : Nat) : List Ty := [tPtr rV v, tPtr (rSl (rSl rBool)) l, tAt b 0]
abbrev cycC (b : Nat) (v : Value) (l : List (List Bool)) : SP := box b 78 (rTyp (tClo 59 (cycA v l b)) clo_one) ()
def CycS (l : List (List Bool)) (b : Nat) (v : Value) (n f : Nat) (st : List Int) : Prop := Spec (X := Unit) prog 59 ([tV (.int .i64 f)] ++ cycA v l b) [cycC b v l, own 3 rInt v st] (fun _ => tV (.bool (cyc l n f st).1)) (fun _ => [cycC b v l, own 3 rInt v (cyc l n f st).2])
theorem enum_drop {α : Type} [Inhabited α] {l : List α} {i : Nat} (h : i < l.length) : enumL (l.drop i) i = (i, nth l i) :: enumL (l.drop (i + 1)) (i + 1) := by
  rw [dropB h]; rfl
/-- What is left of a row. -/
structure RowI (l : List (List Bool)) (n f i : Nat) (st st2 : List Int) : Prop where
  le : i ≤ (nth l f).length
  eq : cycRow (cyc l n) (enumL (nth l f) 0) (st.set f 1) = cycRow (cyc l n) (enumL ((nth l f).drop i) i) st2
  z : zeros st2 < n
  len : st2.length = st.length
theorem RowI.start {l : List (List Bool)} {n f : Nat} {st : List Int} (hf : f < st.length) (hz : zeros st < n + 1) (h0 : nth st f = 0) : RowI l n f 0 st (st.set f 1) :=
  ⟨Nat.zero_le _, by rw [List.drop_zero], by have := zeros_set (x := 1) hf h0 (by decide); omega, List.length_set⟩
theorem RowI.skip {l : List (List Bool)} {n f i : Nat} {st st2 : List Int} (r : RowI l n f i st st2) (hi : i < (nth l f).length) (h : nth (nth l f) i = false) : RowI l n f (i + 1) st st2 :=
  ⟨hi, by rw [r.eq, enum_drop hi, h]; simp only [cycRow]; rw [if_neg (by decide)], r.z, r.len⟩
theorem RowI.go {l : List (List Bool)} {n f i : Nat} {st st2 : List Int} (r : RowI l n f i st st2) (hi : i < (nth l f).length) (h : nth (nth l f) i = true) (hc : (cyc l n i st2).1 = false) : RowI l n f (i + 1) st (cyc l n i st2).2 :=
  ⟨hi, by rw [r.eq, enum_drop hi, h]; simp only [cycRow, if_true]; rw [if_neg (by rw [hc]; decide)], Nat.lt_of_le_of_lt (cyc_zeros l n i st2).1 r.z, ((cyc_zeros l n i st2).2).trans r.len⟩
theorem RowI.hit {l : List (List Bool)} {n f i : Nat} {st st2 : List Int} (r : RowI l n f i st st2) (hi : i < (nth l f).length) (h0 : nth st f = 0) (h : nth (nth l f) i = true) (hc : (cyc l n i st2).1 = true) : cyc l (n + 1) f st = (true, (cyc l n i st2).2) := by
  have : cycRow (cyc l n) (enumL (nth l f) 0) (st.set f 1) = (true, (cyc l n i st2).2) := by rw [r.eq, enum_drop hi, h]; simp only [cycRow, if_true]; rw [if_pos hc]
  simp only [cyc]
  rw [if_neg (by simpa using h0), this]; simp
theorem RowI.fin {l : List (List Bool)} {n f : Nat} {st st2 : List Int} (r : RowI l n f (nth l f).length st st2) (h0 : nth st f = 0) : cyc l (n + 1) f st = (false, st2.set f 2) := by
  have : cycRow (cyc l n) (enumL (nth l f) 0) (st.set f 1) = (false, st2) := by rw [r.eq, List.drop_of_length_le (Nat.le_refl _)]; rfl
  simp only [cyc]
  rw [if_neg (by simpa using h0), this]; simp
theorem cyc_ne {l : List (List Bool)} {n f : Nat} {st : List Int} (h : nth st f ≠ 0) : cyc l (n + 1) f st = (decide (nth st f = 1), st) := by
  simp only [cyc]; rw [if_pos h]
theorem Attacks_spec (q : GConj) : Fun1 prog 58 [rConj.ty q] (tTup [tSl (rSl rBool) (if validQ q = true then attL q else []), tV (.int .i64 (errV q))]) := by
 refine Spec.enter func58 rfl rfl fun h0 w0 fr0 => ?_
 refine Jr (Js rfl (step_box (R := rConj) Sr) (Ja rfl (Ja rfl (JL_nil (J_seq ?_)))))
 refine Jr (Jl rfl ty25 Sr (Js rfl (step_call0 (attackValid_spec q) ⟨Sr, trivial⟩ call21) (Js rfl (step_not Sr) (JL_nil ?_))))
 refine J_cond Sr (fun h8 => ?_) (fun h8 => ?_)
 ·
  try simp only [NF] at h8
  have hv : ¬ validQ q = true := by simp [h8]
  refine Jr (Ja rfl (Ja rfl (JL_nil (J_ret ?_))))
  refine K_ret2' (rv := .tmp 2) (rv' := .tmp 3) rfl () (Sel.all _) (.tmp Sr) (.tmp Sr) (Frz.sub ?_) (Frz.sub ?_) Sr
  ·
   rw [if_neg hv]; exact Sub.nilsl
  rw [errV, if_neg hv]; exact Sr
 try simp only [NF] at h8
 have hq : validQ q = true := by simpa using h8
 have hvb := valid_bounds hq
 refine J_skip (Jr (Ja rfl (JL_nil ?_)))
 refine K_lsub (LSub.nilown (e := 95) (R := rSl rBool)) ?_
 refine J_seq (Jr (Js rfl (step_fieldAddr so25 Sr rfl) (Jl rfl ty23 Sr (Js rfl (step_len_sl underlying23 Sr) (Jm rfl ?_)))))
 refine JL_nil (J_block ?_)
 refine J_loopL (σ := Nat × Value) (fun ⟨i, vo⟩ => i ≤ q.Atoms.length) (fun ⟨i, vo⟩ => upd (upd (upd (upd (upd (upd env0 1 (tPtr rConj q)) 2 (tV (.slice none 0 0))) 3 (tV (.int .i64 0))) 4 (rV.ty vo)) 11 (tV (.int .i64 q.Atoms.length))) 12 (tV (.int .i64 i))) (fun ⟨i, vo⟩ => [own 95 (rSl rBool) vo ((List.range i).map (attB q))]) (fun ⟨i, vo⟩ => q.Atoms.length - i) (0, .slice none 0 0) (by simp) (.u (.u (SubE.upd (Sub.rV rfl) (.u (.u (SubE.upd Sr SubE.any)))))) (LSub.cons zS (own_eq (by simp)) (LSub.nil)) ?_
 rintro ⟨i, vo⟩ hi
 try dsimp only at hi
 refine Jr (Js rfl (step_lss Sr Sr) (JL_nil (J_seq ?_)))
 refine J_cond Sr (fun h13 => ?_) (fun h13 => ?_)
 ·
  try simp only [NF] at h13
  have hlt : i < q.Atoms.length := by omega
  refine J_skip (J_seq (J_block (Jr (Jm rfl (Ja rfl ?_)))))
  refine JL_nil (J_region (Jm rfl (Jl rfl ty25 Sr (Jm rfl (Js rfl (step_call0 (attacks_spec q hq i hlt) ⟨Sr, Sr, trivial⟩ call94) ?_)))))
  refine Js rfl (step_literal (ys := [_]) underlying92 el95 ⟨rfl, Sr, trivial⟩ rfl (by decide)) ?_
  refine Jx rfl (step_append underlying92 el95 Sr Sr zS (by simp; omega) (by simp; omega)) fun v20 => ?_
  refine Ja rfl (JL_nil (J_region (Js rfl (step_add Sr Sr z6) (Jm rfl (JL_nil ?_)))))
  refine K_againL (σ := Nat × Value) (s := (i, vo)) (i + 1, v20) zO hlt (.u (.u (.u (.u (.u (SubE.upd Sr SubE.any)))))) (LSub.cons zS (own_eq (by rw [List.range_succ]; simp)) (LSub.nil))
 try simp only [NF] at h13
 refine J_exit (Jr (Jm rfl (Ja rfl (Ja rfl (JL_nil ?_)))))
 refine J_ret ?_
 refine K_ret2' (rv := .tmp 2) (rv' := .tmp 3) rfl () (Sel.all _) (.tmp Sr) (.tmp Sr) (Frz.own' (by rw [if_pos hq, show i = q.Atoms.length by omega]; rfl)) (Frz.sub ?_) Sr
 rw [errV, if_pos hq]; exact Sr
set_option maxHeartbeats 2000000 in
theorem cycleS_spec (l : List (List Bool)) (b : Nat) (v : Value) (n : Nat) (IH : ∀ (g : Nat) (st : List Int), g < l.length → st.length = l.length → zeros st < n → CycS l b v n g st) (f : Nat) (st : List Int) (hf : f < l.length) (hs : st.length = l.length) (hz : zeros st < n + 1) (hrl : (nth l f).length ≤ l.length) (hl1 : l.length ≤ 1000) : CycS l b v (n + 1) f st := by
 refine Spec.enter func59 rfl rfl fun h0 w0 fr0 => ?_
 refine Jr (Ja rfl (JL_nil (J_seq (Jr (Jl rfl ty27V Sr ?_)))))
 refine Jm rfl ?_
 refine Js rfl (step_indexAddr_own (i := f) underlying27 ty3 Sr zS Sr (by rfl) (by rw [hs]; exact hf)) ?_
 refine Js rfl (step_load_own ty3 Sr zS (gb (by rw [hs]; exact hf))) ?_
 refine Js rfl (step_neq Sr Sr) (JL_nil ?_)
 refine J_cond Sr (fun h12 => ?_) (fun h12 => ?_)
 ·
  try simp only [NF] at h12
  have hne : nth st f ≠ 0 := by simpa using h12
  refine Jr (Jl rfl ty27V Sr (Jm rfl ?_))
  refine Js rfl (step_indexAddr_own (i := f) underlying27 ty3 Sr zS Sr (by rfl) (by rw [hs]; exact hf)) ?_
  refine Js rfl (step_load_own ty3 Sr zS (gb (by rw [hs]; exact hf))) ?_
  refine Js rfl (step_eql Sr Sr) (Ja rfl (JL_nil (J_ret ?_)))
  have hcy := cyc_ne (l := l) (n := n) hne
  refine K_lsub (L' := [cycC b v l, own 3 rInt v (cyc l (n + 1) f st).2]) (LSub.cons zS (SPs.rfl) (LSub.cons zS (own_eq (by rw [hcy])) (LSub.nil))) ?_
  refine K_retv (rv := .tmp 5) rfl () (.tmp Sr) (Sub.bool ?_)
  rw [hcy]
 try simp only [NF] at h12
 have h00 : nth st f = 0 := by simpa using h12
 refine J_skip (Jr (Jl rfl ty27V Sr (Jm rfl ?_)))
 refine Js rfl (step_indexAddr_own (i := f) underlying27 ty3 Sr zS Sr (by rfl) (by rw [hs]; exact hf)) ?_
 refine Ju (step_store_own ty3 Sr Sr zS (by rw [hs]; exact hf)) fun _ => ?_
 refine JL_nil (J_seq (Jr (Jl rfl ty92 Sr (Jm rfl ?_))))
 refine Js rfl (step_indexAddr_sl (i := f) underlying92 ty95 Sr Sr (by rfl) (gb (by exact hf))) ?_
 refine Jl rfl ty95 Sr (Js rfl (step_len_sl underlying95 Sr) (Jm rfl (JL_nil (J_block ?_))))
 refine J_loopL (σ := Nat × List Int) (fun ⟨i, st2⟩ => RowI l n f i st st2) (fun ⟨i, st2⟩ => upd (upd (upd (upd (upd (upd env0 0 (tV (.int .i64 f))) 1 (tPtr rV v)) 3 (tAt b 0)) 24 (tSl rBool (nth l f))) 25 (tV (.int .i64 (nth l f).length))) 26 (tV (.int .i64 i))) (fun ⟨i, st2⟩ => [cycC b v l, own 3 rInt v st2]) (fun ⟨i, st2⟩ => (nth l f).length - i) (0, st.set f 1) (RowI.start (by rw [hs]; exact hf) hz h00) (.u (.u (.u (.u (.u (SubE.upd Sr SubE.any)))))) (LSub.cons zS (SPs.rfl) (LSub.cons zS (SPs.rfl) (LSub.nil))) ?_
 rintro ⟨i, st2⟩ hr
 try dsimp only at hr
 refine Jr (Js rfl (step_lss Sr Sr) (JL_nil (J_seq ?_)))
 refine J_cond Sr (fun h27 => ?_) (fun h27 => ?_)
 ·
  try simp only [NF] at h27
  have hlt : i < (nth l f).length := by omega
  refine J_skip (J_seq (J_block (Jr (Jm rfl ?_))))
  refine Js rfl (step_indexAddr_sl  underlying95 ty4 Sr Sr rfl (gb (by exact hlt))) ?_
  refine Jl rfl ty4 Sr (Ja rfl (Ja rfl (JL_nil (Jr (Jm rfl ?_)))))
  refine Jm rfl ?_
  refine Jg rfl Sr rfl (fun hw => step_load_box (R := rTyp (tClo 59 (cycA v l b)) clo_one) ty78T Sr zS) ?_
  refine Jg rfl Sr rfl (fun hw => step_move Sr) ?_
  refine JL_stepGX (tV (.bool false)) rfl rfl rfl (Gd.plain Sr) rfl rfl (fun hw => step_callv (aT := [_]) (Sub.w hw) (Sel.all _) (IH i st2 zG (by rw [hr.len]; exact hs) hr.z) ⟨Sub.w hw, trivial⟩ call59) (fun hw v35 => ?_) (fun hw => ?_)
  ·
   skip
   refine Js rfl (step_pick_and Sr Sr) (JL_nil ?_)
   refine J_cond Sr (fun h36 => ?_) (fun h36 => ?_)
   ·
    try simp only [NF] at h36
    refine Jr (Ja rfl (JL_nil (J_ret ?_)))
    have hcy := hr.hit hlt h00 (by simpa using hw) h36.2
    refine K_lsub (L' := [cycC b v l, own 3 rInt v (cyc l (n + 1) f st).2]) (LSub.cons zS (SPs.rfl) (LSub.cons zS (own_eq (by rw [hcy])) (LSub.nil))) ?_
    refine K_retv (rv := .tmp 5) rfl () (.tmp Sr) (Sub.bool ?_)
    rw [hcy]
   try simp only [NF] at h36
   refine J_skip (J_region (Js rfl (step_add Sr Sr z6) (Jm rfl (JL_nil ?_))))
   refine K_againL (σ := Nat × List Int) (s := (i, st2)) (i + 1, (cyc l n i st2).2) zO (hr.go hlt (by simpa using hw) (h36.resolve_left (by rw [show nth (nth l f) i = true by simpa using hw]; decide))) (.u (.u (.u (.u (.u (SubE.upd Sr SubE.any)))))) (LSub.cons zS (SPs.rfl) (LSub.cons zS (SPs.rfl) (LSub.nil)))
  skip
  refine Js rfl (step_pick_and Sr Sr) (JL_nil ?_)
  refine J_cond Sr (fun h36 => ?_) (fun h36 => ?_)
  ·
   try simp only [NF] at h36
   first | contradiction | omega | (simp_all; done)
  try simp only [NF] at h36
  refine J_skip (J_region (Js rfl (step_add Sr Sr z6) (Jm rfl (JL_nil ?_))))
  refine K_againL (σ := Nat × List Int) (s := (i, st2)) (i + 1, st2) zO (hr.skip hlt (by simpa using hw)) (.u (.u (.u (.u (.u (SubE.upd Sr SubE.any)))))) (LSub.cons zS (SPs.rfl) (LSub.cons zS (SPs.rfl) (LSub.nil)))
 try simp only [NF] at h27
 refine J_exit (Jr (Jl rfl ty27V Sr (Jm rfl ?_)))
 refine Js rfl (step_indexAddr_own (i := f) underlying27 ty3 Sr zS Sr (by rfl) (by rw [hr.len, hs]; exact hf)) ?_
 refine Ju (step_store_own ty3 Sr Sr zS (by rw [hr.len, hs]; exact hf)) fun _ => ?_
 refine JL_nil (Jr (Ja rfl (JL_nil (J_ret ?_))))
 have hcy := RowI.fin (show RowI l n f (nth l f).length st st2 by have := hr.le; rw [show (nth l f).length = i by omega]; exact hr) h00
 refine K_lsub (L' := [cycC b v l, own 3 rInt v (cyc l (n + 1) f st).2]) (LSub.cons zS (SPs.rfl) (LSub.cons zS (own_eq (by rw [hcy])) (LSub.nil))) ?_
 refine K_retv (rv := .tmp 5) rfl () (.tmp Sr) (Sub.bool ?_)
 rw [hcy]
theorem cycle_spec (l : List (List Bool)) (hll : ∀ f, f < l.length → (nth l f).length ≤ l.length) (hl1 : l.length ≤ 1000) (b : Nat) (v : Value) : ∀ (n f : Nat) (st : List Int), f < l.length → st.length = l.length → zeros st < n → CycS l b v n f st
  | 0, _, _, _, _, h => absurd h (Nat.not_lt_zero _)
  | n + 1, f, st, hf, hs, hz => cycleS_spec l b v n (fun g st hg hs hz => cycle_spec l hll hl1 b v n g st hg hs hz) f st hf hs hz (hll f hf) hl1
noncomputable def firstM (q : GConj) : Bool := !(cycAll (attL q) (q.Atoms.length + 1) (List.range q.Atoms.length) (List.replicate q.Atoms.length 0)).1
theorem attL_len (q : GConj) : (attL q).length = q.Atoms.length := by simp [attL]
theorem attL_nth (q : GConj) {f : Nat} (h : f < q.Atoms.length) : nth (attL q) f = attB q f := by
  rw [nth_get (by rw [attL_len]; exact h)]; simp [attL]
structure AllI (q : GConj) (i : Nat) (st : List Int) : Prop where
  le : i ≤ q.Atoms.length
  eq : cycAll (attL q) (q.Atoms.length + 1) (List.range q.Atoms.length) (List.replicate q.Atoms.length 0) = cycAll (attL q) (q.Atoms.length + 1) (List.range' i (q.Atoms.length - i)) st
  z : zeros st < q.Atoms.length + 1
  len : st.length = q.Atoms.length
theorem AllI.start (q : GConj) : AllI q 0 (List.replicate q.Atoms.length 0) :=
  ⟨Nat.zero_le _, by rw [List.range_eq_range', Nat.sub_zero], by have := List.count_le_length (a := (0 : Int)) (l := List.replicate q.Atoms.length 0); simp only [List.length_replicate] at this; show List.count 0 _ < _; omega, by simp⟩
theorem AllI.go {q : GConj} {i : Nat} {st : List Int} (a : AllI q i st) (hi : i < q.Atoms.length) (hc : (cyc (attL q) (q.Atoms.length + 1) i st).1 = false) : AllI q (i + 1) (cyc (attL q) (q.Atoms.length + 1) i st).2 := by
  refine ⟨hi, ?_, Nat.lt_of_le_of_lt (cyc_zeros _ _ i st).1 a.z, (cyc_zeros _ _ i st).2.trans a.len⟩
  rw [a.eq, show q.Atoms.length - i = (q.Atoms.length - (i + 1)) + 1 by omega, List.range'_succ]
  simp only [cycAll]
  rw [if_neg (by rw [hc]; decide)]
theorem AllI.hit {q : GConj} {i : Nat} {st : List Int} (a : AllI q i st) (hi : i < q.Atoms.length) (hc : (cyc (attL q) (q.Atoms.length + 1) i st).1 = true) : firstM q = false := by
  unfold firstM
  rw [a.eq, show q.Atoms.length - i = (q.Atoms.length - (i + 1)) + 1 by omega, List.range'_succ]
  simp only [cycAll]
  rw [if_pos hc]; rfl
theorem AllI.fin {q : GConj} {st : List Int} (a : AllI q q.Atoms.length st) : firstM q = true := by
  unfold firstM
  rw [a.eq, Nat.sub_self]; rfl
set_option maxHeartbeats 2000000 in
theorem FirstOrder_spec (q : GConj) : Fun1 prog 32 [rConj.ty q] (tTup [tV (.bool (validQ q && firstM q)), tV (.int .i64 (errV q))]) := by
 refine Spec.enter func32 rfl rfl fun h0 w0 fr0 => ?_
 refine Jr (Js rfl (step_box (R := rConj) Sr) (Ja rfl (Ja rfl (JL_nil (Jr ?_)))))
 refine Jl rfl ty25 Sr (Js rfl (step_call0 (Attacks_spec q) ⟨Sr, trivial⟩ call58) (Jm rfl (Js rfl (step_extract Sr rfl) (Js rfl (step_extract Sr rfl) ?_))))
 refine Jx rfl (step_alloc (fun w => zeroValue92 w) zr92) fun v4 => ?_
 refine Ju (step_store_box ty92 Sr Sr zS) fun _ => ?_
 refine JL_freeze (t := 4) (Sel.take (Sel.none _)) Frz.box ?_
 refine Ja rfl (JL_nil (J_seq (Jr (Jm rfl (Js rfl (step_neq Sr Sr) ?_)))))
 refine JL_nil ?_
 refine J_cond Sr (fun h15 => ?_) (fun h15 => ?_)
 ·
  try simp only [NF] at h15
  have hv : ¬ validQ q = true := by intro h; rw [errV, if_pos h] at h15; exact h15 rfl
  refine Jr (Jm rfl (Ja rfl (Ja rfl (JL_nil (J_ret ?_)))))
  refine K_ret2' (rv := .tmp 2) (rv' := .tmp 3) rfl () (Sel.all _) (.tmp Sr) (.tmp Sr) (Frz.sub ?_) (Frz.sub ?_) Sr
  ·
   refine Sub.bool ?_
   simp [hv]
  exact Sr
 try simp only [NF] at h15
 have hq : validQ q = true := by cases h : validQ q with | true => rfl | false => (exfalso; simp [errV, h] at h15)
 have hvb := valid_bounds hq
 have hal := attL_len q
 refine J_skip (J_seq ?_)
 refine K_subT (t := 4) (A := tPtr (rSl (rSl rBool)) (attL q)) (by rw [if_pos hq]; exact Sr) ?_
 refine J_region (Jl rfl ty92 Sr (Js rfl (step_len_sl underlying92 Sr) ?_))
 refine Jx rfl (step_make (n := q.Atoms.length) underlying27 el3 Sr Sr (by show ((attL q).length : Int) = _; omega) zG zG) fun v19 => ?_
 refine Jx rfl (step_alloc (R := rV) (z := Value.slice none 0 0) (fun w => zeroValue27 w) (fun _ => ⟨rfl, rfl⟩)) fun b6 => ?_
 refine Ju (step_store_box (R := rV) ty27V Sr Sr zS) fun _ => ?_
 refine JL_nil (J_seq ?_)
 refine K_freeze (t := 6) (Sel.take (Sel.none _)) Frz.box ?_
 refine J_region ?_
 refine Jx rfl (step_alloc (R := rV) (fun w => zeroValue78 w) (fun _ => ⟨rfl, rfl⟩)) fun b7 => ?_
 refine JL_nil (Jr (Js rfl (step_makeFunc (As := [_, _, _]) ⟨Sr, Sr, Sr, trivial⟩) ?_))
 refine Ju (step_store_boxR (R := rV) (R' := rTyp (tClo 59 (cycA v19 (attL q) b7)) clo_one) (z := ()) ty78T rfl Sr Sr zS) fun _ => ?_
 refine JL_nil (J_seq (Jr (Jl rfl ty92 Sr (Js rfl (step_len_sl underlying92 Sr) (Jm rfl ?_)))))
 refine JL_nil (J_block ?_)
 refine J_loopL (σ := Nat × List Int) (fun ⟨i, st⟩ => AllI q i st) (fun ⟨i, st⟩ => upd (upd (upd env0 7 (tAt b7 0)) 22 (tV (.int .i64 (attL q).length))) 23 (tV (.int .i64 i))) (fun ⟨i, st⟩ => [cycC b7 v19 (attL q), own 3 rInt v19 st]) (fun ⟨i, st⟩ => q.Atoms.length - i) (0, List.replicate q.Atoms.length 0) (AllI.start q) (.u (.u (SubE.upd Sr SubE.any))) (LSub.cons zS (SPs.rfl) (LSub.cons zS (SPs.rfl) (LSub.nil))) ?_
 rintro ⟨i, st⟩ ha
 try dsimp only at ha
 refine Jr (Js rfl (step_lss Sr Sr) (JL_nil (J_seq ?_)))
 refine J_cond Sr (fun h24 => ?_) (fun h24 => ?_)
 ·
  try simp only [NF] at h24
  have hlt : i < q.Atoms.length := by omega
  refine J_skip (J_seq (J_block (Jr (Jm rfl (Ja rfl ?_)))))
  refine JL_nil (Jr ?_)
  refine Js rfl (step_load_box (R := rTyp (tClo 59 (cycA v19 (attL q) b7)) clo_one) ty78T Sr zS) ?_
  refine Jm rfl ?_
  refine Jx rfl (step_callv (aT := [_]) Sr (Sel.all _) (cycle_spec (attL q) (fun f hf => by rw [hal] at hf; rw [attL_nth q hf, attB_len]; omega) zG b7 v19 (q.Atoms.length + 1) i st zG (by rw [ha.len]; omega) ha.z) ⟨Sr, trivial⟩ call59) fun v28 => ?_
  refine JL_nil ?_
  refine J_cond Sr (fun h28 => ?_) (fun h28 => ?_)
  ·
   try simp only [NF] at h28
   refine Jr (Ja rfl (Ja rfl (JL_nil (J_ret ?_))))
   refine K_ret2' (rv := .tmp 2) (rv' := .tmp 3) rfl () (Sel.all _) (.tmp Sr) (.tmp Sr) (Frz.sub ?_) (Frz.sub ?_) Sr
   ·
    refine Sub.bool ?_
    rw [ha.hit hlt (by simpa using h28)]; simp
   rw [errV, if_pos hq]; exact Sr
  try simp only [NF] at h28
  refine J_skip (J_region (Js rfl (step_add Sr Sr z6) (Jm rfl (JL_nil ?_))))
  refine K_againL (σ := Nat × List Int) (s := (i, st)) (i + 1, (cyc (attL q) (q.Atoms.length + 1) i st).2) zO (ha.go hlt (by simpa using h28)) (.u (.u (SubE.upd Sr SubE.any))) (LSub.cons zS (SPs.rfl) (LSub.cons zS (SPs.rfl) (LSub.nil)))
 try simp only [NF] at h24
 refine J_exit (Jr (Ja rfl (Ja rfl (JL_nil (J_ret ?_)))))
 refine K_ret2' (rv := .tmp 2) (rv' := .tmp 3) rfl () (Sel.all _) (.tmp Sr) (.tmp Sr) (Frz.sub ?_) (Frz.sub ?_) Sr
 ·
  refine Sub.bool ?_
  have := AllI.fin (show AllI q q.Atoms.length st by have := ha.le; rw [show q.Atoms.length = i by omega]; exact ha)
  rw [this, hq]; rfl
 rw [errV, if_pos hq]; exact Sr
open Go Go.Proofs Go.Proofs.Tryz
theorem ty102V : TyOf Tryz.prog 102 rV := ⟨fun w => Tryz.isAgg102 w, fun w => Tryz.sizeOf102 w⟩
abbrev fsBld : List (SF (Value × Value)) := [⟨Value, 102, rV, Prod.fst⟩, ⟨Value, 40, rV, Prod.snd⟩]
theorem ty104 : TyOf Tryz.prog 104 (rStruct fsBld) := ⟨fun w => Tryz.isAgg104 w, fun w => Tryz.sizeOf104 w⟩
theorem so104 : StructOf Tryz.prog 104 fsBld := ⟨⟨_, Tryz.underlying104, ⟨rfl, rfl, ty102V, by decide, ⟨rfl, rfl, ty40V, by decide, trivial⟩⟩⟩, ty104⟩
theorem zr104 : ∀ h, ((rStruct fsBld).ty (.pointer none, .slice none 0 0)).p h (.agg #[.pointer none, .slice none 0 0]) := fun h =>
  ⟨[.pointer none, .slice none 0 0], ⟨[.pointer none], [.slice none 0 0], rfl, ⟨rfl, rfl⟩, ⟨[.slice none 0 0], [], rfl, ⟨rfl, rfl⟩, rfl⟩⟩, rfl⟩
set_option maxRecDepth 100000 in
set_option maxHeartbeats 1600000 in
theorem cc_used (b : Nat) (w : World) (h0 : w.cell? ⟨b, 0, none⟩ = some (.pointer (some ⟨b, 0, none⟩))) :
    Calls Tryz.prog 108 #[.pointer (some ⟨b, 0, none⟩)] w fun e w' => e = .returned (.tuple #[]) ∧ w' = w := by
  have hne : ∀ (a : Addr) (w : World), (binOp .neq 102 (.pointer (some a)) (.pointer (some a))).run Tryz.prog w = .ok (.bool false) w := fun a w => by
    obtain ⟨j, hj, _⟩ : ∃ j, Tryz.prog.info? 104 = some j ∧ j.size = 2 := by
      have : (Tryz.prog.info? 104).map (·.size) = some 2 := by kernel_rfl
      exact Option.map_eq_some_iff.1 this
    exact Lib.run_neq_ptr_same w a Tryz.underlying102 hj
  go_enter Tryz.func108, Tryz.ntmps108
  go_wp2
  go_end0
  exact ⟨rfl, rfl⟩
set_option maxRecDepth 100000 in
set_option maxHeartbeats 1600000 in
theorem cc_fresh (b : Nat) (w : World) (h0 : w.cell? ⟨b, 0, none⟩ = some (.pointer none)) (hsh : w.shape? b = some (104, 2)) (hfz : w.frozen? ⟨b, 0, none⟩ = false) :
    Calls Tryz.prog 108 #[.pointer (some ⟨b, 0, none⟩)] w fun e w' => e = .returned (.tuple #[]) ∧ w' = w.setCell ⟨b, 0, none⟩ (.pointer (some ⟨b, 0, none⟩)) := by
  obtain ⟨j, hj, hjs⟩ : ∃ j, Tryz.prog.info? 104 = some j ∧ j.size = 2 := by
    have : (Tryz.prog.info? 104).map (·.size) = some 2 := by kernel_rfl
    exact Option.map_eq_some_iff.1 this
  have hlies : liesAt Tryz.prog Tryz.prog.depth 104 (2 / Tryz.prog.cellsOf 104) 0 104 1 = true := by kernel_rfl
  go_enter Tryz.func108, Tryz.ntmps108
  go_wp2
  rw [Lib.run_to_unsafe w ⟨b, 0, none⟩ Tryz.underlying102 Tryz.underlying165 hj (by rw [hjs]; decide) hsh (Nat.zero_lt_succ 1)]
  simp only [Result.andThen]
  rw [Oper.upon_value]
  go_wp2
  rw [run_callFunc_extern Tryz.func136 (by kernel_rfl) (by kernel_rfl) (by kernel_rfl) (e := Extern.AbiNoEscape.same) (by kernel_rfl)]
  rw [Lib.run_noEscape]
  simp only [Result.andThen]
  rw [Oper.upon_value]
  go_wp2
  rw [Lib.run_from_unsafe w ⟨b, 0, none⟩ Tryz.underlying165 Tryz.underlying102 hj hsh hlies]
  simp only [Result.andThen]
  rw [Oper.upon_value]
  go_wp2
  go_end0
  exact ⟨rfl, rfl⟩
abbrev bld (b : Nat) (a v : Value) : SP := box b 104 (rStruct fsBld) (a, v)
def FreshB (b : Nat) (a : Value) : Prop := a = .pointer none ∨ a = .pointer (some ⟨b, 0, none⟩)
theorem bld_cells {b : Nat} {a v : Value} {h m : PH} (p : (bld b a v).p h m) : m = PH.one b (.cells #[a, v] 104 (0, 0)) ∧ v.oneCell' = true := by
  obtain ⟨cs, r, rfl⟩ := p
  obtain ⟨c0, _, rfl, r0, c1, _, rfl, r1, rz⟩ := r
  have r0 : c0 = [a] ∧ a.oneCell' = true := r0
  have r1 : c1 = [v] ∧ v.oneCell' = true := r1
  have rz : _ = [] := rz
  obtain ⟨rfl, _⟩ := r0
  obtain ⟨rfl, hv⟩ := r1
  subst rz
  exact ⟨rfl, hv⟩
theorem cells_bld {b : Nat} {a v : Value} {h : PH} (ha : a.oneCell' = true) (hv : v.oneCell' = true) : (bld b a v).p h (PH.one b (.cells #[a, v] 104 (0, 0))) :=
  ⟨[a, v], ⟨[a], [v], rfl, ⟨rfl, ha⟩, ⟨[v], [], rfl, ⟨rfl, hv⟩, rfl⟩⟩, rfl⟩
theorem copyCheck_spec (b : Nat) (a v : Value) (hb : FreshB b a) : Spec (X := Unit) Tryz.prog 108 [tAt b 0] [bld b a v] (fun _ => tTup []) (fun _ => [bld b (.pointer (some ⟨b, 0, none⟩)) v]) := by
  intro vs h mm r w ha sp st
  match vs, ha with
  | [u1], ⟨a1, _⟩ =>
  have a1 : u1 = .pointer (some ⟨b, 0, none⟩) := a1
  subst a1
  obtain ⟨m1, m2, d12, rfl, hbb, e2⟩ := st
  have e2 : m2 = PH.emp := e2
  subst e2
  obtain ⟨rfl, hv⟩ := bld_cells hbb
  have hw := sp.heap_own
  have hone : ∀ w', (PH.one b (.cells #[.pointer (some ⟨b, 0, none⟩), v] 104 (0, 0))).join PH.emp = PH.one b (.cells #[.pointer (some ⟨b, 0, none⟩), v] 104 (0, 0)) ∧ (w' : World) = w' := fun w' => ⟨PH.join_emp _, rfl⟩
  rcases hb with rfl | rfl
  · refine (cc_fresh b w (by simp [World.cell?, hw]) (by simp [World.shape?, hw]) (by simp [World.frozen?, hw])).mono ?_
    rintro e w' ⟨rfl, rfl⟩
    refine ⟨(), _, h, (PH.one b (.cells #[.pointer (some ⟨b, 0, none⟩), v] 104 (0, 0))).join PH.emp, rfl, HL.same (by exact ⟨rfl, rfl, rfl⟩), Sep.write d12 sp (fun b' hne _ => ?_) ?_, ⟨_, _, PH.one_disj_iff.2 (PH.one_disj_iff.1 d12), rfl, cells_bld rfl hv, rfl⟩, ⟨[], rfl, trivial⟩⟩
    · exact RowKit.Below.heap_setCell _ _ _ _ hne
    · simp only [World.setCell]
      rw [Array.getElem?_modify, if_pos rfl, hw]
      rfl
  · refine (cc_used b w (by simp [World.cell?, hw])).mono ?_
    rintro e w' ⟨rfl, rfl⟩
    exact ⟨(), _, h, _, rfl, HL.refl, sp, ⟨_, _, d12, rfl, hbb, rfl⟩, ⟨[], rfl, trivial⟩⟩
open Go Go.Proofs Go.Proofs.Tryz
theorem bytesOf_append (a b : ByteArray) : bytesOf (a ++ b) = bytesOf a ++ bytesOf b := by
  unfold bytesOf
  rw [ByteArray.data_append]
  simp
section
variable {C : Cx} {E : Env} {L : List SP} {d : Option Nat} {ty : Nat} {pos : String} {af : Array Edge} {g : Option (Nat × Bool)}
theorem step_unsafeString {T U e : Nat} {x y : Operand} {v : Value} {s : ByteArray} {S : List SP} (hu : C.P.underlying T = some (.pointer e)) (he : C.P.cellsOf e = 1) (he5 : e = 5)
    (hx : Sub (opTy E x) (tV (qAt v))) (hy : Sub (opTy E y) (tV (.int .i64 (bytesOf s).length))) (sel : Sel L [own 5 rU8 v (bytesOf s)] S) (hne : s.size ≠ 0) (hsz : s.size ≤ 9223372036854775807) :
    Step C ⟨d, .call { callee := .builtin .unsafeString, args := #[x, y], argTypes := #[T, U] }, ty, pos, af, g⟩ E L (fun _ : Unit => tV (.string s)) (fun _ => S) :=
  Step.of_run (by intro c h; cases h) fun a w h m l sp st fr => by
    have hv : a.eval x = qAt v := fr.get hx
    have hv2 : a.eval y = .int .i64 (bytesOf s).length := fr.get hy
    obtain ⟨m1, m2, d12, rfl, ho, s2⟩ := sel.one.1 st
    have hbl := bytesOf_len s
    rcases ho with ⟨_, q, _⟩ | ⟨b, cap, cur, rfl, rfl, hl, hm, hs, r⟩
    · rw [q] at hbl; simp at hbl; omega
    · have hk : rU8.k = 1 := rfl
      rw [hk, Nat.mul_one] at hs r
      have hb := sp.heap_own
      have hc := relAll_u8.1 r
      have hll : s.data.toList.length = s.size := by simp
      have hcell : ∀ j x, s.data.toList[j]? = some x → w.cell? ((⟨b, 0, none⟩ : Addr).add j) = some (.int .u8 x.toNat) := fun j x hj => by
        rw [addr_add, Nat.zero_add, inw_cells (h := h) hb]
        have hjl : j < (bytesOf s).length := by have := (List.getElem?_eq_some_iff.1 hj).1; omega
        have h1 := congrArg (fun l => l[j]?) hc
        simp only [List.getElem?_take, if_pos hjl, bytesOf, List.map_map, List.getElem?_map, hj, Option.map_some, Function.comp] at h1
        simp at h1
        exact h1.2
      have hr := Lib.run_unsafeString_row (P := C.P) (w := w) T U ty e hu he b cur.size (by simp [World.shape?, hb, he5]) s.data.toList (by intro q; rw [q] at hll; simp at hll; omega) (by omega) (by omega) hcell
      have hst : (⟨s.data.toList.toArray⟩ : ByteArray) = s := by cases s; simp
      rw [hst, hll] at hr
      refine ⟨(), .string s, w.freeze ⟨b, 0, none⟩ s.size, h, m2, ?_, HL.same ?_, ?_, s2, rfl⟩
      · have h2 : a.eval y = .int .i64 (s.size : Int) := by rw [hv2, hbl]
        simp [execOp, resolve, invoke, builtin, hv, h2, hr, qAt]
      · unfold World.freeze
        rw [if_neg hne]
        exact ⟨rfl, rfl, rfl⟩
      · have hoth : ∀ b' : Nat, b' ≠ b → (w.freeze ⟨b, 0, none⟩ s.size).heap[b']? = w.heap[b']? := fun b' hb' => by
          unfold World.freeze
          rw [if_neg hne]
          show (w.heap.modify b _)[b']? = _
          rw [Array.getElem?_modify, if_neg (fun q => hb' q.symm)]
        have hd := PH.disj_join'.1 sp.hm
        have hr2 := PH.disj_join.1 sp.mr
        have ne_of : ∀ {p : PH} {b' : Nat} {o : Obj}, (PH.one b (.cells cur 5 (0, 0))).disj p → p b' = some o → b' ≠ b := fun {p b' o} hdj hp e => by
          subst e
          have := PH.one_disj_iff.1 hdj
          rw [this] at hp; cases hp
        exact ⟨(by first | exact Sep.inv (by assumption) | exact Inv.mono (PH.le_join_left _ _) (Sep.inv (by assumption))), hd.2, sp.hr, hr2.2, fun b' o ho => by rw [hoth b' (ne_of (PH.disj_symm hd.1) ho)]; exact sp.hw b' o ho,
          fun b' o ho => by rw [hoth b' (ne_of d12 ho)]; exact sp.mw b' o (PH.le_join_right d12 _ _ ho), fun b' o ho => by rw [hoth b' (ne_of hr2.1 ho)]; exact sp.rw b' o ho⟩
end
open Go Go.Proofs Go.Proofs.Tryz
section
variable {C : Cx} {E : Env} {L : List SP} {d : Option Nat} {ty : Nat} {pos : String} {af : Array Edge} {g : Option (Nat × Bool)}
theorem K_ownE {α : Type} {k : Act → World → Prop} {e : Nat} {R : Rp α} {v : Value} {xs : List α} {S : List SP} (sel : Sel L [own e R v xs] S) (hne : xs ≠ []) (hk : ∀ g cap, v = .slice (some ⟨g, 0, none⟩) xs.length cap → cap ≠ 0 → K C k E L) : K C k E L :=
  fun a w ⟨n, ds, h, m, l, sp, st, fr⟩ => by
  obtain ⟨m1, m2, d12, em, ho, s2⟩ := sel.one.1 st
  rcases ho with ⟨_, q, _⟩ | ⟨b, cap, cur, e1, _, hl, _⟩
  · exact absurd q hne
  · have hc : cap ≠ 0 := by
      have := List.length_pos_iff.2 hne
      omega
    exact hk b cap e1 hc a w ⟨n, ds, h, m, l, sp, st, fr⟩
theorem step_sliceDataC {T : Nat} {x : Operand} {a : Addr} {n cap : Nat} (hx : Sub (opTy E x) (rV.ty (.slice (some a) n cap))) (hc : cap ≠ 0) :
    Step1 C ⟨d, .call { callee := .builtin .unsafeSliceData, args := #[x], argTypes := #[T] }, ty, pos, af, g⟩ E L (tV (.pointer (some a))) :=
  Step.of_same (by intro c h; cases h) fun ac w h hw f => by
    have hv : ac.eval x = .slice (some a) n cap := (f.get hx).1
    have hr := Lib.run_unsafeSliceData_row (P := C.P) (w := w) #[T] ty a n cap hc
    exact ⟨.pointer (some a), by simp [execOp, resolve, invoke, builtin, hv, hr], rfl⟩
theorem step_lenC {T e : Nat} {x : Operand} {a : Option Addr} {n cap : Nat} (hu : C.P.underlying T = some (.slice e)) (hx : Sub (opTy E x) (rV.ty (.slice a n cap))) :
    Step1 C ⟨d, .call { callee := .builtin .len, args := #[x], argTypes := #[T] }, ty, pos, af, g⟩ E L (tV (.int .i64 n)) :=
  Step.of_same (by intro c h; cases h) fun ac w h hw f => by
    have hv : ac.eval x = .slice a n cap := (f.get hx).1
    exact ⟨.int .i64 n, by simp [execOp, resolve, invoke, builtin, Builtin.len_, hv, run_underlying hu, goInt], rfl⟩
end
theorem nth_take {α : Type} [Inhabited α] {l : List α} {n i : Nat} (h : i < n) : nth (l.take n) i = nth l i := by
  induction l generalizing n i with
  | nil => simp [nth]
  | cons a l ih =>
    obtain ⟨n, rfl⟩ : ∃ m, n = m + 1 := ⟨n - 1, by omega⟩
    match i with
    | 0 => rfl
    | i + 1 => exact ih (by omega)
theorem itoaB_pos (n : Int) : 0 < (itoaB n).size := by
  have h2 : (itoaB n).size = (Lib.itoa n).length := by show (List.toArray _).size = _; simp
  rw [h2]
  have hd : ∀ u, 0 < Lib.nDigits u := by
    intro u
    by_cases h10 : u < 10
    · rw [Lib.nDigits_small h10]; omega
    · rw [Lib.nDigits_big (by omega)]; omega
  unfold Lib.itoa
  split
  · simp
  · rw [Lib.decDigits_length]; exact hd _
theorem textV_pos {v : GValue} (h : validV v = true) : 0 < (textV v).size := by
  unfold textV
  rw [if_neg (by rw [h]; decide)]
  have h34 : (⟨#[34]⟩ : ByteArray).size = 1 := rfl
  have h64 : atB.size = 1 := rfl
  split
  · unfold quoteB; rw [ByteArray.size_append, ByteArray.size_append]; omega
  · split
    · exact itoaB_pos _
    · split
      · rw [ByteArray.size_append]; omega
      · split
        · unfold boolB; split <;> decide
        · decide
def keyB (a : GAtom) (f : GFact) : Nat → ByteArray
  | 0 => ⟨#[]⟩
  | k + 1 => (keyB a f k ++ textV (nth f.Row (nth a.Cols k).toNat)) ++ ⟨#[32]⟩
theorem keyB_size (a : GAtom) (f : GFact) : ∀ k, (keyB a f k).size ≤ 1001 * k ∧ k ≤ (keyB a f k).size
  | 0 => ⟨Nat.le_refl _, Nat.zero_le _⟩
  | k + 1 => by
    have h1 := keyB_size a f k
    have h2 := textV_size (nth f.Row (nth a.Cols k).toNat)
    have h3 : (⟨#[32]⟩ : ByteArray).size = 1 := rfl
    simp only [keyB, ByteArray.size_append]
    omega
/-- A fact fits an atom. -/
def FitF (a : GAtom) (f : GFact) : Prop := ∀ k, k < a.Cols.length → 0 ≤ nth a.Cols k ∧ nth a.Cols k < f.Row.length ∧ validV (nth f.Row (nth a.Cols k).toNat) = true
theorem WriteString_spec (b : Nat) (a v : Value) (hb : FreshB b a) (s t : ByteArray) (hs : s.size + t.size ≤ 100000000) (ht : 0 < t.size) : Spec (X := Value) prog 70 [tAt b 0, tV (.string t)] ([bld b a v, own 5 rU8 v (bytesOf s)]) (fun v2 => tTup [tV (.int .i64 t.size), tV .nilIface]) (fun v2 => [bld b (.pointer (some ⟨b, 0, none⟩)) v2, own 5 rU8 v2 (bytesOf (s ++ t))]) := by
 refine Spec.enter func70 rfl rfl fun h0 w0 fr0 => ?_
 refine Jr (Ja rfl (Ja rfl (JL_nil (Jr (Jm rfl ?_)))))
 refine Jx rfl (step_call (Sel.take (Sel.none _)) (copyCheck_spec b a v hb) ⟨Sr, trivial⟩ call108) fun v7 => ?_
 refine JL_nil (Jr (Jm rfl (Jm rfl (Js rfl (step_nilCheck Sr) (Js rfl (step_fieldAddr_own so104 Sr rfl) ?_)))))
 refine Js rfl (step_load_fld ty40V Sr rfl zS) ?_
 refine Jm rfl ?_
 refine Jx rfl (step_append_str underlying40 underlying9 el5 Sr Sr (Sel.skip (Sel.take (Sel.none _))) ht (by rw [bytesOf_len]; omega)) fun v14 => ?_
 refine Js rfl (step_nilCheck Sr) (Js rfl (step_fieldAddr_own so104 Sr rfl) ?_)
 refine Ju (step_store_fld (R := rV) (y := ((.pointer (some ⟨b, 0, none⟩), v) : Value × Value)) (y' := ((.pointer (some ⟨b, 0, none⟩), v14) : Value × Value)) ty40V Sr Sr zS ⟨rfl, fun h cs r => r, rfl, by intro g hg; cases hg⟩) fun _ => ?_
 refine JL_nil (Jr (Jm rfl (Js rfl (step_len_str underlying9 Sr) (Ja rfl (Ja rfl ?_)))))
 refine JL_nil (J_ret ?_)
 refine K_lsub (L' := [bld b (.pointer (some ⟨b, 0, none⟩)) v14, own 5 rU8 v14 (bytesOf (s ++ t))]) (LSub.cons zS (SPs.rfl) (LSub.cons zS (own_eq (bytesOf_append s t).symm) (LSub.nil))) ?_
 refine K_ret2' (rv := .tmp 4) (rv' := .tmp 5) rfl v14 (Sel.none _) (.tmp Sr) (.tmp Sr) (Frz.sub Sr) (Frz.sub Sr) Sr
theorem WriteByte_spec (b : Nat) (a v : Value) (hb : FreshB b a) (s : ByteArray) (hs : s.size ≤ 100000000) : Spec (X := Value) prog 72 [tAt b 0, tV (.int .u8 32)] ([bld b a v, own 5 rU8 v (bytesOf s)]) (fun v2 => tV .nilIface) (fun v2 => [bld b (.pointer (some ⟨b, 0, none⟩)) v2, own 5 rU8 v2 (bytesOf (s ++ ⟨#[32]⟩))]) := by
 refine Spec.enter func72 rfl rfl fun h0 w0 fr0 => ?_
 refine Jr (Ja rfl (JL_nil (Jr (Jm rfl ?_))))
 refine Jx rfl (step_call (Sel.take (Sel.none _)) (copyCheck_spec b a v hb) ⟨Sr, trivial⟩ call108) fun v6 => ?_
 refine JL_nil (Jr (Jm rfl (Jm rfl (Js rfl (step_nilCheck Sr) (Js rfl (step_fieldAddr_own so104 Sr rfl) ?_)))))
 refine Js rfl (step_load_fld ty40V Sr rfl zS) ?_
 refine Jm rfl ?_
 refine Js rfl (step_literal (ys := [_]) underlying40 el5 ⟨rfl, Sr, trivial⟩ rfl (by decide)) ?_
 refine Jx rfl (step_append underlying40 el5 Sr Sr (Sel.skip (Sel.take (Sel.none _))) (by rw [bytesOf_len]; simp; omega) (by rw [bytesOf_len]; simp; omega)) fun v14 => ?_
 refine Js rfl (step_nilCheck Sr) (Js rfl (step_fieldAddr_own so104 Sr rfl) ?_)
 refine Ju (step_store_fld (R := rV) (y := ((.pointer (some ⟨b, 0, none⟩), v) : Value × Value)) (y' := ((.pointer (some ⟨b, 0, none⟩), v14) : Value × Value)) ty40V Sr Sr zS ⟨rfl, fun h cs r => r, rfl, by intro g hg; cases hg⟩) fun _ => ?_
 refine JL_nil (Jr (Ja rfl (JL_nil (J_ret ?_))))
 refine K_lsub (L' := [bld b (.pointer (some ⟨b, 0, none⟩)) v14, own 5 rU8 v14 (bytesOf (s ++ ⟨#[32]⟩))]) (LSub.cons zS (SPs.rfl) (LSub.cons zS (own_eq (by rw [bytesOf_append]; rfl)) (LSub.nil))) ?_
 refine K_ret1' (rv := .tmp 4) rfl v14 (Sel.none _) (.tmp Sr) (Frz.sub Sr)
theorem BString_spec (b : Nat) (a v : Value) (s : ByteArray) (hs : s.size ≠ 0 ∧ s.size ≤ 100000000) : Spec (X := Unit) prog 73 [tAt b 0] ([bld b a v, own 5 rU8 v (bytesOf s)]) (fun _ => tV (.string s)) (fun _ => []) := by
 refine Spec.enter func73 rfl rfl fun h0 w0 fr0 => ?_
 have hbl := bytesOf_len s
 refine Jr (Ja rfl (JL_nil (J_seq ?_)))
 refine K_ownE (Sel.skip (Sel.take (Sel.none _))) (by intro q; rw [q] at hbl; simp at hbl; omega) fun g0 cap hv hc => ?_
 subst hv
 refine K_freeze (t := 0) (Sel.take (Sel.none _)) Frz.box ?_
 refine J_draw [⟨0, [0], true⟩, ⟨1, [3], true⟩, ⟨2, [4], true⟩, ⟨3, [5], true⟩, ⟨4, [6], true⟩, ⟨5, [0], true⟩, ⟨6, [8], true⟩, ⟨7, [9], true⟩, ⟨8, [10], true⟩, ⟨9, [11], true⟩, ⟨10, [7, 12], false⟩, ⟨11, [13], true⟩] rfl (by kernel_rfl) ?_
 refine Mv rfl rfl (Mf rfl rfl (step_nilCheckP Sr) (Mf rfl rfl (step_fieldAddr so104 Sr rfl) (Mf rfl rfl (step_load_ptr ty40V Sr) (Mf rfl rfl (step_sliceDataC Sr hc) (Mv rfl rfl ?_)))))
 refine Mf rfl rfl (step_nilCheckP Sr) (Mf rfl rfl (step_fieldAddr so104 Sr rfl) (Mf rfl rfl (step_load_ptr ty40V Sr) (Mf rfl rfl (step_lenC underlying40 Sr) ?_)))
 refine JM_stepX rfl rfl rfl rfl (step_unsafeString underlying143 (by kernel_rfl) rfl Sr Sr (Sel.take (Sel.none _)) hs.1 zG) fun v13 => ?_
 refine Mf rfl rfl (step_assign Sr) (JM_nil (J_ret ?_))
 refine K_ret1' (rv := .tmp 2) rfl () (Sel.all _) (.tmp Sr) (Frz.sub Sr)
theorem key_spec (a : GAtom) (f : GFact) (hk : 1 ≤ a.Key ∧ a.Key ≤ a.Cols.length) (hl : a.Cols.length ≤ 12) (hf : FitF a f) : Fun1 prog 43 [rAtom.ty a, rFact.ty f] (tV (.string (keyB a f a.Key.toNat))) := by
 refine Spec.enter func43 rfl rfl fun h0 w0 fr0 => ?_
 refine Jr (Js rfl (step_box (R := rAtom) Sr) (Js rfl (step_box (R := rFact) Sr) (Ja rfl (JL_nil (Jr ?_)))))
 refine Jx rfl (step_alloc (R := rStruct fsBld) (z := (.pointer none, .slice none 0 0)) (fun w => zeroValue104 w) zr104) fun b5 => ?_
 refine JL_nil (J_seq (Jr (Js rfl (step_fieldAddr so47 Sr rfl) (Jl rfl ty27 Sr (Js rfl (step_fieldAddr so47 Sr rfl) ?_)))))
 refine Jl rfl ty3 Sr ?_
 refine Js rfl (step_slice_toI (n := a.Key.toNat) underlying27 ty3 Sr Sr (by show a.Key = ((a.Key.toNat : Nat) : Int); omega) (by show a.Key.toNat ≤ a.Cols.length; omega)) ?_
 refine Js rfl (step_len_sl underlying27 Sr) (Jm rfl (JL_nil (J_block ?_)))
 refine J_loopL (σ := Nat × Value × Value) (fun ⟨i, ap, vb⟩ => i ≤ a.Key.toNat ∧ FreshB b5 ap) (fun ⟨i, ap, vb⟩ => upd (upd (upd (upd (upd env0 3 (tPtr rFact f)) 5 (tAt b5 0)) 12 (tSl rInt (a.Cols.take a.Key.toNat))) 13 (tV (.int .i64 (a.Cols.take a.Key.toNat).length))) 14 (tV (.int .i64 i))) (fun ⟨i, ap, vb⟩ => [bld b5 ap vb, own 5 rU8 vb (bytesOf (keyB a f i))]) (fun ⟨i, ap, vb⟩ => a.Key.toNat - i) (0, .pointer none, .slice none 0 0) ⟨by omega, .inl rfl⟩ (.u (.u (.u (.u (SubE.upd Sr SubE.any))))) (LSub.trans (LSub.nilown (e := 5) (R := rU8)) (LSub.cons zS (SPs.rfl) (LSub.cons zS (SPs.rfl) (LSub.nil)))) ?_
 rintro ⟨i, ap, vb⟩ ⟨hi, hfb⟩
 refine Jr (Js rfl (step_lss Sr Sr) (JL_nil (J_seq ?_)))
 refine J_cond Sr (fun h15 => ?_) (fun h15 => ?_)
 ·
  try simp only [NF] at h15
  have hlt : i < a.Key.toNat := by rw [List.length_take] at h15; omega
  have hcl := hf i zG
  have hks := keyB_size a f i
  refine J_skip (J_seq (J_block (Jr ?_)))
  refine Js rfl (step_indexAddr_sl  underlying27 ty3 Sr Sr rfl (gb (by rw [List.length_take]; omega))) ?_
  refine Jl rfl ty3 Sr (Ja rfl (JL_nil (Jr (Js rfl (step_fieldAddr so45 Sr rfl) (Jl rfl ty22 Sr ?_)))))
  refine Jm rfl ?_
  refine Js rfl (step_indexAddr_sl (i := (nth a.Cols i).toNat) underlying22 ty58 Sr Sr (by rw [nth_take hlt]; omega) (gb (by show (nth a.Cols i).toNat < f.Row.length; omega))) ?_
  refine Jl rfl ty58 Sr (Js rfl (step_call0 (Text_spec _) ⟨Sr, trivial⟩ call71) ?_)
  refine Jx rfl (step_call (Sel.all _) (WriteString_spec b5 ap vb hfb (keyB a f i) (textV (nth f.Row (nth a.Cols i).toNat)) (by have := textV_size (nth f.Row (nth a.Cols i).toNat); omega) (textV_pos hcl.2.2)) ⟨Sr, Sr, trivial⟩ call70) fun v24 => ?_
  refine JL_nil (J_region ?_)
  refine Jx rfl (step_call (Sel.all _) (WriteByte_spec b5 (.pointer (some ⟨b5, 0, none⟩)) v24 (.inr rfl) (keyB a f i ++ textV (nth f.Row (nth a.Cols i).toNat)) (by have := textV_size (nth f.Row (nth a.Cols i).toNat); rw [ByteArray.size_append]; omega)) ⟨Sr, Sr, trivial⟩ call72) fun v25 => ?_
  refine JL_nil (J_region (Js rfl (step_add Sr Sr z6) (Jm rfl (JL_nil ?_))))
  refine K_againL (σ := Nat × Value × Value) (s := (i, ap, vb)) (i + 1, .pointer (some ⟨b5, 0, none⟩), v25) zO ⟨hlt, .inr rfl⟩ (.u (.u (.u (.u (SubE.upd Sr SubE.any))))) (LSub.cons zS (SPs.rfl) (LSub.cons zS (SPs.rfl) (LSub.nil)))
 try simp only [NF] at h15
 have hge : i = a.Key.toNat := by rw [List.length_take] at h15; omega
 have hks := keyB_size a f i
 refine J_exit (Jr ?_)
 refine Jx rfl (step_call (Sel.all _) (BString_spec b5 ap vb (keyB a f i) zG) ⟨Sr, trivial⟩ call73) fun v27 => ?_
 refine Ja rfl (JL_nil (J_ret ?_))
 refine K_retv (rv := .tmp 4) rfl () (.tmp Sr) (Sub.v (by rw [hge]))
end Lg
namespace Go.Proofs
open Go.Shelf
def Tryz.cloneW_ren : Go.Shelf.Ren := ⟨fun | 5 => 78 | 7 => 114 | n => n, fun | 23 => 72 | 25 => 3 | 3 => 58 | 4 => 4 | 20 => 20 | n => n, fun | n => n⟩
theorem Tryz.cloneW : Go.Proofs.SlLaysW.n5 Tryz.prog Tryz.cloneW_ren := {
  mixed := by kernel_rfl
  f5 := ⟨Tryz.f78.name, by decide, Tryz.func78.trans (congrArg some (by kernel_rfl))⟩
  f7 := Tryz.func114.trans (congrArg some (by kernel_rfl))
  t4 := Tryz.underlying4
  a4 := Tryz.isAgg4
  z4 := Tryz.sizeOf4
  v4 := Tryz.zeroValue4
  t20 := Tryz.underlying20
  a20 := Tryz.isAgg20
  z20 := Tryz.sizeOf20
  v20 := Tryz.zeroValue20
  t23 := Tryz.underlying72
  a23 := Tryz.isAgg72
  z23 := Tryz.sizeOf72
  v23 := Tryz.zeroValue72 }
end Go.Proofs
namespace Lg
open Go Go.Proofs Go.Proofs.Tryz
section
variable {C : Cx} {E : Env} {L : List SP} {d : Option Nat} {ty : Nat} {pos : String} {af : Array Edge} {g : Option (Nat × Bool)}
theorem K_boxdrop {C : Cx} {k : Act → World → Prop} {E : Env} {L R : List SP} {α : Type} {b T : Nat} {Rr : Rp α} {x : α} (sel : Sel L [box b T Rr x] R) (hk : K C k E R) : K C k E L := K_drop sel hk
end
/-- The atoms by their tables. -/
def atomsM (q : GConj) : List (Int × GAtom) := q.Atoms.foldl (fun m a => mput m a.Table a) []
theorem atomsM_snoc {l : List GAtom} {i : Nat} (h : i < l.length) : (l.take (i + 1)).foldl (fun (m : List (Int × GAtom)) a => mput m a.Table a) [] = mput ((l.take i).foldl (fun m a => mput m a.Table a) []) (nth l i).Table (nth l i) := by
  rw [takeB h, List.foldl_append]; rfl
def atomAt (q : GConj) (t : Int) : GAtom := (mget (atomsM q) t).getD zAtom
def fitF (q : GConj) (f : GFact) : Bool := (List.range (atomAt q f.Table).Cols.length).all fun k => decide (nth (atomAt q f.Table).Cols k < f.Row.length) && validV (nth f.Row (nth (atomAt q f.Table).Cols k).toNat)
def fitM (q : GConj) (facts : List GFact) : Bool := validQ q && (List.range facts.length).all fun i => fitF q (nth facts i)
theorem atomsM_get {l : List GAtom} : ∀ {m : List (Int × GAtom)} {t : Int} {a : GAtom}, mget (l.foldl (fun m a => mput m a.Table a) m) t = some a → a ∈ l ∧ a.Table = t ∨ mget m t = some a := by
  induction l with
  | nil => intro m t a h; exact .inr h
  | cons b l ih =>
    intro m t a h
    rcases ih (m := mput m b.Table b) h with ⟨h1, h2⟩ | h1
    · exact .inl ⟨by simp [h1], h2⟩
    · rw [mget_mput] at h1
      split at h1
      · rename_i e
        injection h1 with h1
        subst h1; exact .inl ⟨by simp, e.symm⟩
      · exact .inr h1
theorem atomAt_mem (q : GConj) (t : Int) : atomAt q t = zAtom ∨ (atomAt q t ∈ q.Atoms ∧ (atomAt q t).Table = t) := by
  unfold atomAt
  cases h : mget (atomsM q) t with
  | none => exact .inl rfl
  | some a =>
    rcases atomsM_get h with h1 | h1
    · exact .inr h1
    · simp [mget] at h1
theorem valid_cols {q : GConj} (hq : validQ q = true) {a : GAtom} (ha : a ∈ q.Atoms) : a.Cols.length ≤ 12 ∧ a.Terms.length = a.Cols.length ∧ 1 ≤ a.Key ∧ a.Key ≤ a.Cols.length ∧ ∀ k, k < a.Cols.length → 0 ≤ nth a.Cols k ∧ nth a.Terms k < q.Vars ∧ -(q.Consts.length : Int) ≤ nth a.Terms k := by
  obtain ⟨i, hi, rfl⟩ := List.getElem_of_mem ha
  have e : q.Atoms[i] = nth q.Atoms i := by rw [nth_get hi]
  rw [e]
  have h1 := valid_atom hq hi
  refine ⟨h1.2.1, h1.2.2.1, h1.2.2.2.1, h1.2.2.2.2, fun k hk => ?_⟩
  unfold validQ at hq
  rw [Bool.and_eq_true] at hq
  have h2 := rall_iff.1 hq.2 i hi
  unfold okA at h2
  rw [Bool.and_eq_true] at h2
  have h3 := rall_iff.1 h2.2 k hk
  unfold okK at h3
  simp only [Bool.and_eq_true, decide_eq_true_eq] at h3
  exact ⟨h3.1.1.1, h3.1.2, h3.2⟩
theorem atomAt_cols {q : GConj} (hq : validQ q = true) (t : Int) : (atomAt q t).Cols.length ≤ 12 ∧ ∀ k, k < (atomAt q t).Cols.length → 0 ≤ nth (atomAt q t).Cols k := by
  rcases atomAt_mem q t with h | ⟨h, _⟩
  · rw [h]; exact ⟨Nat.zero_le _, fun k hk => by simp [zAtom] at hk⟩
  · have := valid_cols hq h
    exact ⟨this.1, fun k hk => (this.2.2.2.2 k hk).1⟩
/-- Facts put under their keys. -/
def bput (m : List (ByteArray × List GFact)) (k : ByteArray) (f : GFact) : List (ByteArray × List GFact) := mput m k ((mget m k).getD [] ++ [f])
def blkM (a : GAtom) (facts : List GFact) : List (ByteArray × List GFact) := facts.foldl (fun m f => if f.Table = a.Table then bput m (keyB a f a.Key.toNat) f else m) []
theorem blkM_snoc {a : GAtom} {l : List GFact} {i : Nat} (h : i < l.length) : blkM a (l.take (i + 1)) = if (nth l i).Table = a.Table then bput (blkM a (l.take i)) (keyB a (nth l i) a.Key.toNat) (nth l i) else blkM a (l.take i) := by
  unfold blkM
  rw [takeB h, List.foldl_append]; rfl
theorem lists_rval {κ α : Type} [DecidableEq κ] (k : κ) : ∀ q : RowsL κ α, (rval q k).2 = (mget (lists q) k).getD []
  | [] => rfl
  | (a, v, xs) :: q => by
    by_cases h : k = a
    · simp [mget, rval, h]
    · simp only [List.map_cons, mget, rval, if_neg h]; exact lists_rval k q
theorem lists_rput {κ α : Type} [DecidableEq κ] (k : κ) (v : Value) (ys : List α) : ∀ q : RowsL κ α, lists (rput q k v ys) = mput (lists q) k ys
  | [] => rfl
  | (a, v0, x0) :: q => by
    by_cases h : k = a
    · simp [mput, rput, h]
    · have := lists_rput k v ys q
      simp only [lists] at this
      simp only [List.map_cons, mput, rput, if_neg h]; rw [this]
theorem rval_len (q : RowsL ByteArray GFact) (k : ByteArray) : (rval q k).2.length ≤ (q.map fun t => t.2.2.length).sum := by
  induction q with
  | nil => simp [rval]
  | cons t q ih =>
    obtain ⟨a, v, xs⟩ := t
    simp only [rval, List.map_cons, List.sum_cons]
    split
    · simp
    · omega
def sumL (m : List (ByteArray × List GFact)) : Nat := (m.map fun t => t.2.length).sum
theorem sumL_lists (qq : RowsL ByteArray GFact) : sumL (lists qq) = (qq.map fun t => t.2.2.length).sum := by simp only [sumL, lists, List.map_map]; rfl
theorem sumL_mput (m : List (ByteArray × List GFact)) (k : ByteArray) (f : GFact) : sumL (bput m k f) = sumL m + 1 := by
  unfold bput sumL
  induction m with
  | nil => simp [mget, mput]
  | cons t m ih =>
    obtain ⟨a, xs⟩ := t
    simp only [mget, mput]
    split
    · simp only [Option.getD_some, List.map_cons, List.sum_cons, List.length_append, List.length_cons, List.length_nil]; omega
    · simp only [List.map_cons, List.sum_cons, ih]; omega
theorem sumL_blk (a : GAtom) (l : List GFact) : sumL (blkM a l) ≤ l.length := by
  have : ∀ (l : List GFact) (m : List (ByteArray × List GFact)), sumL (l.foldl (fun m f => if f.Table = a.Table then bput m (keyB a f a.Key.toNat) f else m) m) ≤ sumL m + l.length := by
    intro l
    induction l with
    | nil => intro m; exact Nat.le_refl _
    | cons f l ih =>
      intro m
      have h := ih (if f.Table = a.Table then bput m (keyB a f a.Key.toNat) f else m)
      simp only [List.foldl_cons, List.length_cons]
      split at h
      · rename_i e; rw [if_pos e]; rw [sumL_mput] at h; omega
      · rename_i e; rw [if_neg e]; omega
  have := this l []
  simpa [blkM, sumL] using this
/-! What an atom takes from a fact -/
def bnd (a : GAtom) (f : GFact) : List (Bnd GValue) := (List.range a.Terms.length).map fun i => (nth a.Terms i, nth f.Row (nth a.Cols i).toNat)
theorem opHolds_eq {c : Int} : opHolds 1 c = decide (c = 0) := by simp [opHolds]
theorem ordI_zero {a b : Int} : ordI a b = 0 ↔ a = b := by
  unfold ordI
  split
  · omega
  · split <;> omega
theorem ordS_zero {a b : ByteArray} : ordS a b = 0 ↔ a = b := by
  unfold ordS
  have h1 : ∀ l : List UInt8, Op.bytesLess l l = false := by
    intro l
    induction l with
    | nil => rfl
    | cons x l ih => simp [Op.bytesLess, ih]
  constructor
  · intro h
    split at h
    · omega
    · rename_i h2
      split at h
      · rename_i h3
        simp only [h2, Bool.or_eq_true, Bool.false_eq_true, false_or] at h3
        rw [toL_eq] at h3
        simpa using h3
      · omega
  · intro h
    subst h
    rw [if_neg (by rw [h1]; decide), if_pos (by rw [toL_eq]; simp)]
theorem valid_text {v : GValue} (h : validV v = true) (hk : v.Kind ≠ 1) : v.Text = ⟨#[]⟩ := by
  unfold validV at h
  by_cases e : v.Text = ⟨#[]⟩
  · exact e
  · rw [if_pos ⟨hk, e⟩] at h; cases h
theorem testV_iff {a b : GValue} : testV a 1 b 0 = true ↔ a = b ∧ validV a = true ∧ a.Kind ≠ 0 := by
  unfold testV
  constructor
  · intro h
    split at h
    · cases h
    · rename_i h0
      have hva : validV a = true := by simp_all
      have hvb : validV b = true := by simp_all
      have hk : a.Kind = b.Kind := by simp_all
      split at h
      · rename_i h1
        rw [opHolds_eq, decide_eq_true_eq, ordI_zero] at h
        have ha := valid_text hva (by omega)
        have hb := valid_text hvb (by omega)
        refine ⟨?_, hva, by omega⟩
        cases a; cases b
        simp only at ha hb hk h
        subst ha hb hk
        have : (_ : Int) = _ := Int.sub_eq_zero.1 h
        subst this; rfl
      · split at h
        · rename_i h2
          rw [if_neg (by simp), opHolds_eq, decide_eq_true_eq] at h
          unfold cmpV at h
          have e1 : ordI a.Kind b.Kind = 0 := ordI_zero.2 hk
          rw [if_neg (by rw [e1]; simp)] at h
          split at h
          · rename_i h3; exact absurd h h3
          · rename_i h3
            have h3 : ordI a.N b.N = 0 := by simpa using h3
            have hn := ordI_zero.1 h3
            have ht := ordS_zero.1 h
            refine ⟨?_, hva, by omega⟩
            cases a; cases b
            simp only at hk hn ht
            subst hk hn ht; rfl
        · cases h
  · rintro ⟨rfl, hv, hk⟩
    rw [if_neg (by simp [hv])]
    split
    · rw [opHolds_eq, decide_eq_true_eq, ordI_zero]; omega
    · rename_i h1
      rw [if_pos (by
        unfold validV at hv
        rcases Classical.em (a.Kind = 1) with h | h
        · exact .inl h
        · rcases Classical.em (a.Kind = 4) with h4 | h4
          · exact .inr h4
          · exfalso
            split at hv
            · cases hv
            · have e2 : ¬ a.Kind = 2 := fun e => h1 (.inl e)
              have e3 : ¬ a.Kind = 3 := fun e => h1 (.inr e)
              simp [hk, h, h4, e2, e3] at hv), if_neg (by simp), opHolds_eq, decide_eq_true_eq]
      unfold cmpV
      rw [if_neg (by rw [ordI_zero.2 rfl]; simp), if_neg (by rw [ordI_zero.2 rfl]; simp), ordS_zero.2 rfl]
/-- Agreement of values, and the constants. -/
def eqT (q : GConj) : EqT GValue where
  e := fun a b => testV a 1 b 0
  c := fun t => nth q.Consts (-1 - t).toNat
  sym := fun a b h => by
    obtain ⟨rfl, h1, h2⟩ := testV_iff.1 h
    exact h
  tr := fun a b c h h' => by
    obtain ⟨rfl, h1, h2⟩ := testV_iff.1 h
    exact h'
theorem eqT_eq (q : GConj) : ∀ a b, (eqT q).e a b = true → a = b := fun a b h => (testV_iff.1 h).1
theorem runB_snoc {V : Type} (T : EqT V) : ∀ (l : List (Bnd V)) (g : List (Bnd V)) (x : Bnd V), runB T g (l ++ [x]) = (runB T g l).bind fun m => stepB T m x
  | [], g, x => by
    simp only [List.nil_append, runB, Option.bind_some]
    cases stepB T g x <;> rfl
  | y :: l, g, x => by
    simp only [List.cons_append, runB]
    cases h : stepB T g y with
    | none => rfl
    | some g' => exact runB_snoc T l g' x
theorem runB_none {V : Type} (T : EqT V) : ∀ (l l' : List (Bnd V)) (g : List (Bnd V)), runB T g l = none → runB T g (l ++ l') = none
  | [], l', g, h => by simp [runB] at h
  | y :: l, l', g, h => by
    simp only [List.cons_append, runB] at h ⊢
    cases hs : stepB T g y with
    | none => rfl
    | some g' => rw [hs] at h; exact runB_none T l l' g' h
abbrev matchM (q : GConj) (a : GAtom) (f : GFact) (g : List (Bnd GValue)) : Option (List (Bnd GValue)) := runB (eqT q) g (bnd a f)
theorem bnd_len (a : GAtom) (f : GFact) : (bnd a f).length = a.Terms.length := by simp [bnd]
theorem bnd_get {a : GAtom} {f : GFact} {i : Nat} (h : i < a.Terms.length) : (bnd a f).take (i + 1) = (bnd a f).take i ++ [(nth a.Terms i, nth f.Row (nth a.Cols i).toNat)] := by
  rw [List.take_succ_eq_append_getElem (by rw [bnd_len]; exact h)]
  simp [bnd]
structure AtomOk (q : GConj) (a : GAtom) : Prop where
  cl : a.Cols.length ≤ 12
  tl : a.Terms.length = a.Cols.length
  tm : ∀ k, k < a.Cols.length → -(q.Consts.length : Int) ≤ nth a.Terms k
structure MatI (q : GConj) (a : GAtom) (f : GFact) (g : List (Bnd GValue)) (i : Nat) (m : List (Bnd GValue)) : Prop where
  le : i ≤ a.Terms.length
  run : runB (eqT q) g ((bnd a f).take i) = some m
theorem MatI.start (q : GConj) (a : GAtom) (f : GFact) (g : List (Bnd GValue)) : MatI q a f g 0 g := ⟨Nat.zero_le _, rfl⟩
theorem MatI.miss {q : GConj} {a : GAtom} {f : GFact} {g m : List (Bnd GValue)} {i : Nat} (h : MatI q a f g i m) (hi : i < a.Terms.length) (hs : stepB (eqT q) m (nth a.Terms i, nth f.Row (nth a.Cols i).toNat) = none) : matchM q a f g = none := by
  have e : bnd a f = (bnd a f).take (i + 1) ++ (bnd a f).drop (i + 1) := (List.take_append_drop _ _).symm
  unfold matchM
  rw [e]
  exact runB_none _ _ _ _ (by rw [bnd_get hi, runB_snoc, h.run]; exact hs)
theorem MatI.next {q : GConj} {a : GAtom} {f : GFact} {g m m' : List (Bnd GValue)} {i : Nat} (h : MatI q a f g i m) (hi : i < a.Terms.length) (hs : stepB (eqT q) m (nth a.Terms i, nth f.Row (nth a.Cols i).toNat) = some m') : MatI q a f g (i + 1) m' :=
  ⟨hi, by rw [bnd_get hi, runB_snoc, h.run]; exact hs⟩
theorem MatI.fin {q : GConj} {a : GAtom} {f : GFact} {g m : List (Bnd GValue)} (h : MatI q a f g a.Terms.length m) : matchM q a f g = some m := by
  have := h.run
  rw [List.take_of_length_le (by rw [bnd_len]; exact Nat.le_refl _)] at this
  exact this
theorem stepB_neg {q : GConj} {m : List (Bnd GValue)} {t : Int} {v : GValue} (h : t < 0) : stepB (eqT q) m (t, v) = if testV v 1 (nth q.Consts (-1 - t).toNat) 0 = true then some m else none := by
  simp only [stepB]; rw [if_pos h]; rfl
theorem stepB_some {q : GConj} {m : List (Bnd GValue)} {t : Int} {v u : GValue} (h : ¬ t < 0) (hm : mget m t = some u) : stepB (eqT q) m (t, v) = if testV v 1 u 0 = true then some m else none := by
  simp only [stepB]; rw [if_neg h, hm]; rfl
theorem stepB_new {q : GConj} {m : List (Bnd GValue)} {t : Int} {v : GValue} (h : ¬ t < 0) (hm : mget m t = none) : stepB (eqT q) m (t, v) = some (mput m t v) := by
  simp only [stepB]; rw [if_neg h, hm]
section
variable {C : Cx} {E : Env} {L : List SP} {d : Option Nat} {ty : Nat} {pos : String} {af : Array Edge} {g : Option (Nat × Bool)}
theorem step_field {α : Type} {T n : Nat} {fs : List (SF α)} {x : Operand} {y : α} {f : SF α} (So : StructOf C.P T fs) (hx : Sub (opTy E x) ((rStruct fs).ty y)) (hf : fs[n]? = some f) : Step1 C ⟨d, .field T x n, ty, pos, af, g⟩ E L (f.R.ty (f.get y)) :=
  Step.of_same (by intro c h; cases h) fun a w h hw fr => by
    obtain ⟨cs, r, hv⟩ := fr.get hx
    obtain ⟨c', r', hc'⟩ := SF.rel_field r hf
    obtain ⟨fls, hu, hl⟩ := So.lays
    obtain ⟨fl, h1, h2, h3, h4, h5⟩ := hl.get hf
    have h1' : fls[n]? = some fl := by simpa using h1
    have hlen := f.R.len r'
    have hv : a.eval x = .agg cs.toArray := hv
    have hext : (cs.toArray.extract (SF.off fs n) (SF.off fs n + f.R.k)).toList = c' := by
      apply List.ext_getElem?
      intro i
      rw [Array.toList_extract, List.extract_eq_take_drop, List.getElem?_take]
      by_cases hi : i < f.R.k
      · rw [if_pos (by omega), List.getElem?_drop]
        rw [hc' i _ (List.getElem?_eq_getElem (by omega)), List.getElem?_eq_getElem (by omega)]
      · rw [if_neg (by omega), List.getElem?_eq_none (by omega)]
    refine ⟨packV f.R.agg c', ?_, f.R.pack r'⟩
    have hr : (Instr.field T (.agg cs.toArray) n).run C.P w = .ok (packV f.R.agg c') w := by
      cases hag : f.R.agg with
      | true =>
        have e1 : cs.toArray.extract (SF.off fs n) (SF.off fs n + f.R.k) = c'.toArray := by rw [← hext]
        have e2 : (Instr.field T (.agg cs.toArray) n).run C.P w = .ok (.agg (cs.toArray.extract (SF.off fs n) (SF.off fs n + f.R.k))) w := by
          simp [Instr.field, run_underlying hu, h1', h2, h3, part, h4.agg, hag, h4.size, asAgg]
        rw [e2, e1]; rfl
      | false =>
        have hk := f.R.scalar hag
        obtain ⟨u, rfl⟩ : ∃ u, c' = [u] := by
          match c', hlen with
          | [u], _ => exact ⟨u, rfl⟩
          | [], h => rw [hk] at h; simp at h
          | _ :: _ :: _, h => rw [hk] at h; simp at h
        have hu0 := hc' 0 u rfl
        rw [Nat.add_zero] at hu0
        have hu1 : cs.toArray[SF.off fs n]? = some u := by simpa using hu0
        simp [Instr.field, run_underlying hu, h1', h2, h3, part, h4.agg, hag, asAgg, packV, hu0]
    simp [execOp, hv, hr]
end
theorem atoms_spec (q : GConj) (hl : q.Atoms.length ≤ 1000000000000) : Fun1 prog 40 [rConj.ty q] (tMapI kvI rAtom (atomsM q)) := by
 refine Spec.enter func40 rfl rfl fun h0 w0 fr0 => ?_
 refine Jr (Js rfl (step_box (R := rConj) Sr) (Ja rfl (JL_nil (Jr ?_))))
 refine Jx rfl (step_makeMapV (kv := kvI) (R := rAtom)) fun v6 => ?_
 refine Ja rfl (JL_nil (J_seq (Jr (Js rfl (step_fieldAddr so25 Sr rfl) (Jl rfl ty23 Sr ?_)))))
 refine Js rfl (step_len_sl underlying23 Sr) (Jm rfl (JL_nil (J_block ?_)))
 refine J_loopL (σ := Nat) (fun i => i ≤ q.Atoms.length) (fun i => upd (upd (upd (upd env0 3 (rV.ty v6)) 8 (tSl rAtom q.Atoms)) 9 (tV (.int .i64 q.Atoms.length))) 10 (tV (.int .i64 i))) (fun i => [mapOwn kvI rAtom v6 ((q.Atoms.take i).foldl (fun m a => mput m a.Table a) [])]) (fun i => q.Atoms.length - i) 0 zG (.u (.u (.u (SubE.upd Sr SubE.any)))) (LSub.cons zS (SPs.of (by simp)) (LSub.nil)) ?_
 rintro i hi
 refine Jr (Js rfl (step_lss Sr Sr) (JL_nil (J_seq ?_)))
 refine J_cond Sr (fun hc1 => ?_) (fun hc1 => ?_)
 ·
  try simp only [NF] at hc1
  have hlt : i < q.Atoms.length := by omega
  refine J_skip (J_seq (J_block (Jr ?_)))
  refine Js rfl (step_indexAddr_sl  underlying23 ty47 Sr Sr rfl (gb (by exact hlt))) ?_
  refine Jl rfl ty47 Sr ?_
  refine Jx rfl (step_alloc (fun w => zeroValue47 w) zr47) fun v5 => ?_
  refine Ju (step_store_box ty47 Sr Sr zS) fun _ => ?_
  refine JL_freeze (t := 5) (Sel.take (Sel.none _)) Frz.box ?_
  refine JL_nil (J_region (Jm rfl (Js rfl (step_fieldAddr so47 Sr rfl) (Jl rfl ty3 Sr (Jl rfl ty47 Sr ?_)))))
  refine Ju (step_mapUpdate (kv := kvI) (R := rAtom) (KeyT.int underlying3) underlying75 Sub.ofRV Sr Sr zS) fun _ => ?_
  refine JL_nil (J_region (Js rfl (step_add Sr Sr z6) (Jm rfl (JL_nil ?_))))
  refine K_againL (σ := Nat) (s := i) (i + 1) zO hlt (.u (.u (.u (SubE.upd Sr SubE.any)))) (LSub.cons zS (SPs.of (by rw [atomsM_snoc hlt])) (LSub.nil))
 try simp only [NF] at hc1
 refine J_exit (Jr (Jm rfl (Ja rfl (JL_nil (J_ret ?_)))))
 refine K_ret1' (rv := .tmp 2) rfl () (Sel.all _) (.tmp Sr) (Frz.to (by rw [List.take_of_length_le zG]; exact Sr) Frz.mapV)
set_option maxHeartbeats 1000000 in
theorem fit_spec (q : GConj) (facts : List GFact) (hl : facts.length ≤ 1000000000000) : Fun1 prog 31 [rConj.ty q, tSl rFact facts] (tV (.bool (fitM q facts))) := by
 refine Spec.enter func31 rfl rfl fun h0 w0 fr0 => ?_
 refine Jr (Js rfl (step_box (R := rConj) Sr) (Ja rfl (JL_nil (J_seq (Jr ?_)))))
 refine Jl rfl ty25 Sr (Js rfl (step_call0 (attackValid_spec _) ⟨Sr, trivial⟩ call21) (Js rfl (step_not Sr) (JL_nil ?_)))
 refine J_cond Sr (fun h12 => ?_) (fun h12 => ?_)
 ·
  try simp only [NF] at h12
  have hv : validQ q = false := by simpa using h12
  refine Jr (Ja rfl (JL_nil (J_ret ?_)))
  refine K_ret1 (t := 4) rfl () ?_
  refine Sub.bool ?_
  simp only [fitM, hv]; simp
 try simp only [NF] at h12
 have hq : validQ q = true := by simpa using h12
 refine J_skip (Jr (Jl rfl ty25 Sr ?_))
 refine Js rfl (step_call0 (atoms_spec q (by have := valid_bounds hq; omega)) ⟨Sr, trivial⟩ call40) ?_
 refine Ja rfl (JL_nil (J_seq (Jr (Jm rfl (Js rfl (step_len_sl underlying26 Sr) ?_)))))
 refine Jm rfl (JL_nil (J_block ?_))
 refine J_loopL (σ := Nat) (fun i => i ≤ facts.length ∧ ∀ k, k < i → fitF q (nth facts k) = true) (fun i => upd (upd (upd (upd env0 5 (tMapI kvI rAtom (atomsM q))) 15 (tSl rFact facts)) 16 (tV (.int .i64 facts.length))) 17 (tV (.int .i64 i))) (fun i => []) (fun i => facts.length - i) 0 ⟨by omega, fun k hk => by omega⟩ (.u (.u (.u (SubE.upd Sr SubE.any)))) (LSub.rfl) ?_
 rintro i ⟨hi, hv⟩
 refine Jr (Js rfl (step_lss Sr Sr) (JL_nil (J_seq ?_)))
 refine J_cond Sr (fun h18 => ?_) (fun h18 => ?_)
 ·
  try simp only [NF] at h18
  have hlt : i < facts.length := by omega
  have hac := atomAt_cols hq (nth facts i).Table
  refine J_skip (J_seq (J_block (Jr ?_)))
  refine Js rfl (step_indexAddr_sl  underlying26 ty45 Sr Sr rfl (gb (by exact hlt))) ?_
  refine Jl rfl ty45 Sr ?_
  refine Jx rfl (step_alloc (fun w => zeroValue45 w) zr45) fun v7 => ?_
  refine Ju (step_store_box ty45 Sr Sr zS) fun _ => ?_
  refine JL_freeze (t := 7) (Sel.take (Sel.none _)) Frz.box ?_
  refine JL_nil (Jr (Jm rfl (Js rfl (step_fieldAddr so45 Sr rfl) (Jl rfl ty3 Sr (Js rfl (step_lookupI (kv := kvI) (R := rAtom) (z := zAtom) (KeyT.int underlying3) underlying75 (fun w => zeroValue47 w) zr47 Sr Sr) ?_)))))
  refine Js rfl (step_field (y := (atomAt q (nth facts i).Table)) so47 Sr rfl) (Js rfl (step_len_sl underlying27 Sr) (Jm rfl (JL_nil (J_block ?_))))
  refine J_loopL (σ := Nat) (fun k => k ≤ (atomAt q (nth facts i).Table).Cols.length ∧ ∀ j, j < k → (decide (nth (atomAt q (nth facts i).Table).Cols j < (nth facts i).Row.length) && validV (nth (nth facts i).Row (nth (atomAt q (nth facts i).Table).Cols j).toNat)) = true) (fun k => upd (upd (upd (upd (upd (upd (upd (upd (upd (upd env0 5 (tMapI kvI rAtom (atomsM q))) 7 (tPtr rFact (nth facts i))) 15 (tSl rFact facts)) 16 (tV (.int .i64 facts.length))) 17 (tV (.int .i64 i))) 20 (rFact.ty (nth facts i))) 21 (tMapI kvI rAtom (atomsM q))) 25 (tSl rInt (atomAt q (nth facts i).Table).Cols)) 26 (tV (.int .i64 (atomAt q (nth facts i).Table).Cols.length))) 27 (tV (.int .i64 k))) (fun k => []) (fun k => (atomAt q (nth facts i).Table).Cols.length - k) 0 ⟨by omega, fun k hk => by omega⟩ (.u (.u (.u (.u (.u (.u (.u (.u (.u (SubE.upd Sr SubE.any)))))))))) (LSub.rfl) ?_
  rintro k ⟨hk, hw⟩
  refine Jr (Js rfl (step_lss Sr Sr) (JL_nil (J_seq ?_)))
  refine J_cond Sr (fun h28 => ?_) (fun h28 => ?_)
  ·
   try simp only [NF] at h28
   have hkt : k < (atomAt q (nth facts i).Table).Cols.length := by omega
   have hc0 := hac.2 k hkt
   refine J_skip (J_seq (J_block (Jr ?_)))
   refine Js rfl (step_indexAddr_sl  underlying27 ty3 Sr Sr rfl (gb (by exact hkt))) ?_
   refine Jl rfl ty3 Sr (Ja rfl (JL_nil (Jr (Jm rfl (Js rfl (step_fieldAddr so45 Sr rfl) ?_)))))
   refine Jl rfl ty22 Sr (Js rfl (step_len_sl underlying22 Sr) (Js rfl (step_geq Sr Sr) (Jm rfl (Jg rfl Sr rfl (fun hw => step_fieldAddr so45 Sr rfl) (Jg rfl Sr rfl (fun hw => step_load_ptr ty22 (Sub.w hw)) ?_)))))
   refine Jg rfl Sr rfl (fun hw => step_move Sr) ?_
   refine Jg rfl Sr rfl (fun hw => step_indexAddr_sl (i := (nth (atomAt q (nth facts i).Table).Cols k).toNat) underlying22 ty58 (Sub.w hw) (Sub.w hw) (by have hwq := hw; (try simp only [beqB_t, beqB_f, NF] at hwq); have hwq2 : nth (atomAt q (nth facts i).Table).Cols k < ((nth facts i).Row.length : Int) := (by simpa using hwq); omega) (gb (by have hwq := hw; (try simp only [beqB_t, beqB_f, NF] at hwq); have hwq2 : nth (atomAt q (nth facts i).Table).Cols k < ((nth facts i).Row.length : Int) := (by simpa using hwq); show (nth (atomAt q (nth facts i).Table).Cols k).toNat < (nth facts i).Row.length; omega))) ?_
   refine Jg rfl Sr rfl (fun hw => step_load_ptr ty58 (Sub.w hw)) (Jg rfl Sr rfl (fun hw => step_call0 (Valid_spec _) ⟨(Sub.w hw), trivial⟩ call52) (Jg rfl Sr rfl (fun hw => step_not (Sub.w hw)) (Js rfl (step_pick_or Sr Sr) (JL_nil ?_))))
   refine J_cond Sr (fun h44 => ?_) (fun h44 => ?_)
   ·
    try simp only [NF] at h44
    refine Jr (Ja rfl (JL_nil (J_ret ?_)))
    refine K_ret1 (t := 4) rfl () ?_
    refine Sub.bool ?_
    have h1 : (decide (nth (atomAt q (nth facts i).Table).Cols k < (nth facts i).Row.length) && validV (nth (nth facts i).Row (nth (atomAt q (nth facts i).Table).Cols k).toNat)) = false := by
     rcases h44 with h | h
     ·
      have : ¬ nth (atomAt q (nth facts i).Table).Cols k < ((nth facts i).Row.length : Int) := by omega
      simp only [this]; simp
     simp only [h]; simp
    have h2 : fitF q (nth facts i) = false := rall_f hkt h1
    simp only [fitM, rall_f (f := fun i => fitF q (nth facts i)) hlt h2]; simp
   try simp only [NF] at h44
   refine J_skip (J_region (Js rfl (step_add Sr Sr z6) (Jm rfl (JL_nil ?_))))
   refine K_againL (σ := Nat) (s := k) (k + 1) zO ?_ (.u (.u (.u (.u (.u (.u (.u (.u (.u (SubE.upd Sr SubE.any)))))))))) (LSub.rfl)
   refine ⟨by omega, fun j hj => ?_⟩
   by_cases e : j = k
   ·
    subst e; simp_all
   exact hw j zG
  try simp only [NF] at h28
  have hki : k = (atomAt q (nth facts i).Table).Cols.length := by omega
  refine J_exit (J_region (Js rfl (step_add Sr Sr z6) (Jm rfl (JL_nil ?_))))
  refine K_againL (σ := Nat) (s := i) (i + 1) zO ?_ (.u (.u (.u (SubE.upd Sr SubE.any)))) (LSub.rfl)
  refine ⟨by omega, fun j hj => ?_⟩
  by_cases e : j = i
  ·
   subst e; exact rall_t (fun k2 hk2 => hw k2 zG)
  exact hv j zG
 try simp only [NF] at h18
 refine J_exit (Jr (Ja rfl (JL_nil (J_ret ?_))))
 refine K_ret1 (t := 4) rfl () ?_
 refine Sub.bool ?_
 have : (List.range facts.length).all (fun i => fitF q (nth facts i)) = true := rall_t (fun k hk => hv k zG)
 simp only [fitM, hq, this]; simp
set_option maxHeartbeats 1000000 in
theorem blocks_spec (a : GAtom) (facts : List GFact) (hk : 1 ≤ a.Key ∧ a.Key ≤ a.Cols.length) (hcl : a.Cols.length ≤ 12) (hl : facts.length ≤ 1000000) (hf : ∀ f ∈ facts, f.Table = a.Table → FitF a f) : Fun1 prog 34 [rAtom.ty a, tSl rFact facts] (tMapI kvS (rSl rFact) (blkM a facts)) := by
 refine Spec.enter func34 rfl rfl fun h0 w0 fr0 => ?_
 refine Jr (Js rfl (step_box (R := rAtom) Sr) (Ja rfl (JL_nil (Jr ?_))))
 refine Jx rfl (step_makeMapV (kv := kvS) (R := rV)) fun v9 => ?_
 refine Ja rfl (JL_nil (J_seq (Jr (Jm rfl (Js rfl (step_len_sl underlying26 Sr) ?_)))))
 refine Jm rfl (JL_nil (J_block ?_))
 refine J_loopL (σ := Nat × RowsL ByteArray GFact) (fun ⟨i, qq⟩ => i ≤ facts.length ∧ lists qq = blkM a (facts.take i)) (fun ⟨i, qq⟩ => upd (upd (upd (upd (upd env0 2 (tPtr rAtom a)) 5 (rV.ty v9)) 10 (tSl rFact facts)) 11 (tV (.int .i64 facts.length))) 12 (tV (.int .i64 i))) (fun ⟨i, qq⟩ => [mapOwn kvS rV v9 (vals qq), rowsO 45 rFact qq]) (fun ⟨i, qq⟩ => facts.length - i) (0, []) ⟨by omega, rfl⟩ (.u (.u (.u (.u (SubE.upd Sr SubE.any))))) (LSub.trans (LSub.cons zS (SPs.rfl) (LSub.nil)) (LSub.trans rows_nil LSub.swap)) ?_
 rintro ⟨i, qq⟩ ⟨hi, hqq⟩
 refine Jr (Js rfl (step_lss Sr Sr) (JL_nil (J_seq ?_)))
 refine J_cond Sr (fun h13 => ?_) (fun h13 => ?_)
 ·
  try simp only [NF] at h13
  have hlt : i < facts.length := by omega
  have hsm := sumL_blk a (facts.take i)
  rw [← hqq, sumL_lists, List.length_take] at hsm
  refine J_skip (J_seq (J_block (Jr ?_)))
  refine Js rfl (step_indexAddr_sl  underlying26 ty45 Sr Sr rfl (gb (by exact hlt))) ?_
  refine Jl rfl ty45 Sr ?_
  refine Jx rfl (step_alloc (fun w => zeroValue45 w) zr45) fun v7 => ?_
  refine Ju (step_store_box ty45 Sr Sr zS) fun _ => ?_
  refine JL_freeze (t := 7) (Sel.take (Sel.none _)) Frz.box ?_
  refine JL_nil (Jr (Js rfl (step_fieldAddr so45 Sr rfl) (Jl rfl ty3 Sr (Js rfl (step_fieldAddr so47 Sr rfl) (Jl rfl ty3 Sr ?_)))))
  refine Js rfl (step_eql Sr Sr) (JL_nil ?_)
  refine J_cond Sr (fun h20 => ?_) (fun h20 => ?_)
  ·
   try simp only [NF] at h20
   refine Jr (Jl rfl ty47 Sr (Jl rfl ty45 Sr (Js rfl (step_call0 (key_spec a (nth facts i) hk hcl (hf _ (nth_mem hlt) h20)) ⟨Sr, Sr, trivial⟩ call43) (Ja rfl (JL_nil ?_)))))
   refine J_region (Jm rfl (Jm rfl (Jm rfl (Jm rfl ?_))))
   refine Js rfl (step_lookupR (kv := kvS) (q := qq) (k := (keyB a (nth facts i) a.Key.toNat)) (KeyT.str underlying9) underlying69 (fun w => zeroValue26 w) Sub.ofRV Sr zS) ?_
   refine Jl rfl ty45 Sr ?_
   refine Js rfl (step_literal (ys := [_]) underlying26 el45 ⟨rfl, Sr, trivial⟩ rfl (by decide)) ?_
   refine JL_lsub (LSub.trans (B := [rowsO 45 rFact qq, mapOwn kvS rV v9 (vals qq)]) (LSub.cons zS (SPs.rfl) (LSub.cons zS (SPs.rfl) (LSub.nil))) (rows_split (keyB a (nth facts i) a.Key.toNat))) ?_
   refine Jx rfl (step_append underlying26 el45 Sr Sr zS (by have := rval_len qq (keyB a (nth facts i) a.Key.toNat); simp; omega) (by have := rval_len qq (keyB a (nth facts i) a.Key.toNat); simp; omega)) fun v31 => ?_
   refine Ju (step_mapUpdate (kv := kvS) (R := rV) (KeyT.str underlying9) underlying69 Sub.ofRV Sr Sr zS) fun _ => ?_
   refine JL_nil (J_region (Js rfl (step_add Sr Sr z6) (Jm rfl (JL_nil ?_))))
   refine K_againL (σ := Nat × RowsL ByteArray GFact) (s := (i, qq)) (i + 1, rput qq (keyB a (nth facts i) a.Key.toNat) v31 ((rval qq (keyB a (nth facts i) a.Key.toNat)).2 ++ [nth facts i])) zO ⟨hlt, by show lists (rput _ _ _ _) = _; rw [lists_rput, blkM_snoc hlt, if_pos h20, lists_rval, hqq]; rfl⟩ (.u (.u (.u (.u (SubE.upd Sr SubE.any))))) (LSub.trans (B := [own 45 rFact v31 ((rval qq (keyB a (nth facts i) a.Key.toNat)).2 ++ [nth facts i]), rowsO 45 rFact (rmv qq (keyB a (nth facts i) a.Key.toNat)), mapOwn kvS rV v9 (mput (vals qq) (keyB a (nth facts i) a.Key.toNat) v31)]) (LSub.cons zS (SPs.rfl) (LSub.cons zS (SPs.rfl) (LSub.cons zS (SPs.rfl) (LSub.nil)))) (LSub.trans (rows_join (keyB a (nth facts i) a.Key.toNat) v31 _) (LSub.trans LSub.swap (LSub.cons zS (SPs.of (by rw [vals_put])) (LSub.cons zS (SPs.rfl) (LSub.nil))))))
  try simp only [NF] at h20
  refine J_skip (J_region (Js rfl (step_add Sr Sr z6) (Jm rfl (JL_nil ?_))))
  refine K_againL (σ := Nat × RowsL ByteArray GFact) (s := (i, qq)) (i + 1, qq) zO ⟨hlt, by show lists qq = _; rw [blkM_snoc hlt, if_neg h20]; exact hqq⟩ (.u (.u (.u (.u (SubE.upd Sr SubE.any))))) (LSub.cons zS (SPs.rfl) (LSub.cons zS (SPs.rfl) (LSub.nil)))
 try simp only [NF] at h13
 refine J_exit (Jr (Jm rfl (Ja rfl (JL_nil (J_ret ?_)))))
 refine K_ret1' (rv := .tmp 4) rfl () (Sel.all _) (.tmp Sub.ofRV) (Frz.to (by rw [hqq, List.take_of_length_le zG]; exact Sr) Frz.rows)
end Lg
