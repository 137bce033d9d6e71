/- A part of the proofs of the laws of cleanselaw26: contracts of functions that the law reaches, and facts about what they compute. -/
import Derived.Test.YtabonjploobnnaaGreatDoorE
set_option linter.unusedVariables false
set_option linter.unusedSimpArgs false
set_option linter.unusedSectionVars false
namespace Lg
open Go Go.Proofs Go.Proofs.Tryz
theorem nodup_of_map {α β : Type} {f : α → β} {l : List α} (h : (l.map f).Nodup) : l.Nodup := (List.pairwise_map.1 h).imp fun hne e => hne (congrArg f e)
inductive DropR (s : VS) (num : Int) : VS → Int → Prop
  | none : (mget s.facts num).isSome = false → DropR s num s 11
  | ok (vio : List (GTri × Bool)) : (mget s.facts num).isSome = true → KN vio → (∀ p, p ∈ vio ↔ p ∈ s.vio ∧ num ∉ p.1.l) →
      DropR s num { s with facts := mrem s.facts num, ent := hupd s.ent (factAt s num).Entity (fun m => mrem m num), idx := delS s.idx (keysV s.rules s.pairs (factAt s num) s.pairs.length) num, vio := vio } 0
structure DlP (vio : List (GTri × Bool)) (num : Int) (kd mv : List (GTri × Bool)) : Prop where
  ran : RanI vio kd
  nd : KN mv
  mem : ∀ p, p ∈ mv ↔ p ∈ vio ∧ ¬ (p ∈ kd ∧ num ∈ p.1.l)
theorem DlP.start {vio : List (GTri × Bool)} {num : Int} (h : KN vio) : DlP vio num [] vio := ⟨RanI.start, h, fun p => by simp⟩
theorem DlP.src {vio : List (GTri × Bool)} {num : Int} {kd mv : List (GTri × Bool)} (h : DlP vio num kd mv) {p : GTri × Bool} (hp : p ∈ mv ∧ p.1 ∉ kd.map (·.1)) : p ∈ vio ∧ p.1 ∉ kd.map (·.1) := ⟨((h.mem p).1 hp.1).1, hp.2⟩
theorem DlP.del {vio : List (GTri × Bool)} {num : Int} {kd mv : List (GTri × Bool)} (hv : KN vio) (h : DlP vio num kd mv) {p : GTri × Bool} (hp : p ∈ mv ∧ p.1 ∉ kd.map (·.1)) (hn : num ∈ p.1.l) : DlP vio num (kd ++ [p]) (mrem mv p.1) where
  ran := h.ran.next (h.src hp)
  nd := mrem_nodup h.nd p.1
  mem := fun q => by
    rw [mem_mrem h.nd, h.mem, List.mem_append, List.mem_singleton]
    constructor
    · rintro ⟨⟨h1, h2⟩, h3⟩
      refine ⟨h1, ?_⟩
      rintro ⟨h4 | h4, h5⟩
      · exact h2 ⟨h4, h5⟩
      · subst h4; exact h3 rfl
    · rintro ⟨h1, h2⟩
      refine ⟨⟨h1, fun ⟨h3, h4⟩ => h2 ⟨.inl h3, h4⟩⟩, fun h3 => ?_⟩
      have := keys_inj hv h1 ((h.mem p).1 hp.1).1 h3
      subst this
      exact h2 ⟨.inr rfl, hn⟩
theorem DlP.keep {vio : List (GTri × Bool)} {num : Int} {kd mv : List (GTri × Bool)} (h : DlP vio num kd mv) {p : GTri × Bool} (hp : p ∈ mv ∧ p.1 ∉ kd.map (·.1)) (hn : num ∉ p.1.l) : DlP vio num (kd ++ [p]) mv where
  ran := h.ran.next (h.src hp)
  nd := h.nd
  mem := fun q => by
    rw [h.mem, List.mem_append, List.mem_singleton]
    constructor
    · rintro ⟨h1, h2⟩
      refine ⟨h1, ?_⟩
      rintro ⟨h4 | h4, h5⟩
      · exact h2 ⟨h4, h5⟩
      · subst h4; exact hn h5
    · rintro ⟨h1, h2⟩
      exact ⟨h1, fun ⟨h3, h4⟩ => h2 ⟨.inl h3, h4⟩⟩
theorem DlP.done {vio : List (GTri × Bool)} {num : Int} {kd mv : List (GTri × Bool)} (hv : KN vio) (h : DlP vio num kd mv) (ha : ∀ p ∈ mv, p.1 ∈ kd.map (·.1)) : ∀ p, p ∈ mv ↔ p ∈ vio ∧ num ∉ p.1.l := fun p => by
  rw [h.mem]
  constructor
  · rintro ⟨h1, h2⟩
    refine ⟨h1, fun h3 => h2 ⟨?_, h3⟩⟩
    obtain ⟨q, hq, e⟩ := List.mem_map.1 (ha p ((h.mem p).2 ⟨h1, h2⟩))
    have := keys_inj hv (h.ran.sub q hq) h1 e
    subst this; exact hq
  · rintro ⟨h1, h2⟩
    exact ⟨h1, fun ⟨_, h3⟩ => h2 h3⟩
theorem Work_spec (b : Nat) (s : VS) : Spec (X := Unit) prog 16 [tAt b 0] ([vB b s]) (fun _ => tV (.int .i64 s.work)) (fun _ => [vB b s]) := by
 refine Spec.enter func16 rfl rfl fun h0 w0 fr0 => ?_
 refine Jr (Ja rfl (JL_nil (J_seq (Jr (Jm rfl ?_)))))
 refine Js rfl (step_eqlptr (by kernel_rfl) Sr) ?_
 refine JL_nil ?_
 refine J_cond Sr (fun hc1 => ?_) (fun hc1 => ?_)
 ·
  try simp only [NF] at hc1
  exfalso; simp at hc1
 try simp only [NF] at hc1
 refine J_skip (Jr (Jm rfl (Js rfl (step_nilCheck Sr) (Js rfl (step_fieldAddr_own so69 Sr rfl) ?_))))
 refine Js rfl (step_load_fld ty3 Sr rfl zS) ?_
 refine Ja rfl (JL_nil (J_ret ?_))
 refine K_retv (rv := .tmp 2) rfl () (.tmp Sr) Sr
theorem Work0_spec  : Fun1 prog 16 [tV (.pointer none)] (tV (.int .i64 0)) := by
 refine Spec.enter func16 rfl rfl fun h0 w0 fr0 => ?_
 refine Jr (Ja rfl (JL_nil (J_seq (Jr (Jm rfl ?_)))))
 refine Js rfl (step_eqlptr (by kernel_rfl) Sr) ?_
 refine JL_nil ?_
 refine J_cond Sr (fun hc1 => ?_) (fun hc1 => ?_)
 ·
  try simp only [NF] at hc1
  refine Jr (Ja rfl (JL_nil (J_ret ?_)))
  refine K_retv (rv := .tmp 2) rfl () (.tmp Sr) Sr
 try simp only [NF] at hc1
 exfalso; simp at hc1
theorem Drop0_spec (num : Int) : Fun1 prog 25 [tV (.pointer none), tV (.int .i64 num)] (tV (.int .i64 1)) := by
 refine Spec.enter func25 rfl rfl fun h0 w0 fr0 => ?_
 refine Jr (Js rfl (step_box (R := rV) (Sub.rV rfl)) (Js rfl (step_box (R := rInt) Sr) (Ja rfl (JL_nil (J_seq ?_)))))
 refine Jr (Js rfl (step_load_ptr (R := rV) ⟨fun w => isAgg26 w, fun w => sizeOf26 w⟩ Sr) ?_)
 refine Js rfl (step_eqlptr (by kernel_rfl) Sub.ofRV) ?_
 refine JL_nil ?_
 refine J_cond Sr (fun hc1 => ?_) (fun hc1 => ?_)
 ·
  try simp only [NF] at hc1
  refine Jr (Ja rfl (JL_nil (J_ret ?_)))
  refine K_retv (rv := .tmp 4) rfl () (.tmp Sr) Sr
 try simp only [NF] at hc1
 exfalso; simp at hc1
theorem Vlist_spec (b : Nat) (s : VS) (hvl : s.vio.length ≤ 1000000) : Spec (X := { ys : List (List Int) // ys.Perm (s.vio.map fun p => memM p.1) ∧ ys.Pairwise fun a b => ltOf cmpL b a = false }) prog 18 [tAt b 0] ([vB b s, vV s]) (fun ys => tSlE 33 rI2 ys.1) (fun ys => [vB b s, vV s]) := by
 refine Spec.enter func18 rfl rfl fun h0 w0 fr0 => ?_
 refine Jr (Ja rfl (JL_nil (J_seq (Jr (Jm rfl ?_)))))
 refine Js rfl (step_eqlptr (by kernel_rfl) Sr) ?_
 refine JL_nil ?_
 refine J_cond Sr (fun h6 => ?_) (fun h6 => ?_)
 ·
  try simp only [NF] at h6
  exfalso; simp at h6
 try simp only [NF] at h6
 refine J_skip (Jr (Ja rfl (JL_nil (J_seq (J_seq ?_)))))
 refine K_view (kv := kvT) (R := rBool) (A := vV s) zS mapD.view fun hkv _ _ => ?_
 refine J_region (Jm rfl (Js rfl (step_nilCheck Sr) (Js rfl (step_fieldAddr_own so69 Sr rfl) ?_)))
 refine Js rfl (step_load_fld ty66 Sr rfl zS) ?_
 refine Jx rfl (step_rangeD (kv := kvT) (R := rBool) underlying66 Sub.ofRV zS) fun v11 => ?_
 refine JL_nil (J_block ?_)
 refine J_loopL (σ := List (GTri × Bool) × Value) (fun ⟨kd, u⟩ => RanI s.vio kd) (fun ⟨kd, u⟩ => upd (upd (upd env0 2 (tV (.slice none 0 0))) 3 (rV.ty u)) 11 (tAt v11 0)) (fun ⟨kd, u⟩ => [ranD kvT rBool v11 (.map (some s.nV)) s.vio (kd.map (·.1)) none, own 33 rI2 u (kd.map fun p => memM p.1), vB b s]) (fun ⟨kd, u⟩ => s.vio.length - kd.length) ([], .slice none 0 0) RanI.start (.u (SubE.upd (Sub.rV rfl) (zU))) (LSub.trans (LSub.nilown (e := 33) (R := rI2)) zL) ?_
 rintro ⟨kd, u⟩ hI
 try dsimp only at hI
 refine Jr ?_
 refine Jx rfl (step_nextD (kv := kvT) (R := rBool) rfl Sr zS) fun o1 => ?_
 refine Js rfl (step_extract_next Sr) (JL_nil (J_seq ?_))
 refine J_cond Sr (fun h13 => ?_) (fun h13 => ?_)
 ·
  try simp only [NF] at h13
  obtain ⟨o1, hoo1⟩ := o1
  obtain ⟨⟨pko1, pvo1⟩, rfl⟩ : ∃ p, o1 = some p := by cases o1 with | none => simp at h13 | some p => exact ⟨p, rfl⟩
  dsimp only at hoo1
  have hI2 := hI.next hoo1
  have hln := hI2.len
  simp only [List.length_append, List.length_singleton] at hln
  refine J_skip (J_block (Jr ?_))
  refine Js rfl (step_entryD (kv := kvT) (R := rBool) Sr zS) ?_
  refine Js rfl (step_extract Sr rfl) ?_
  refine Jx rfl (step_alloc (fun w => zeroValue77 w) zr77) fun v4 => ?_
  refine Ju (step_store_box ty77 Sr Sub.tri' zS) fun _ => ?_
  refine JL_freeze (t := 4) (Sel.take (Sel.none _)) Frz.box ?_
  refine JL_nil (J_region (Jm rfl (Jl rfl ty77 Sr (Js rfl (step_call0 (members_spec pko1) ⟨Sr, trivial⟩ call34) ?_))))
  refine Js rfl (step_literal (ys := [_]) underlying45 el33E ⟨rfl, Sr, trivial⟩ rfl (by decide)) ?_
  refine Jx rfl (step_append underlying45 el33E Sr Sr zS (by simp; omega) (by simp; omega)) fun v20 => ?_
  refine Ja rfl (JL_nil ?_)
  refine K_againL (σ := List (GTri × Bool) × Value) (s := (kd, u)) (kd ++ [(pko1, pvo1)], v20) (by simp only [List.length_append, List.length_singleton]; omega) hI2 (zU) (LSub.cons (A := ranD kvT rBool v11 (.map (some s.nV)) s.vio (kd.map (·.1) ++ [pko1]) (some (pko1, pvo1))) zS (ran_snoc (p := (pko1, pvo1))) (LSub.cons (A := own 33 rI2 v20 ((kd.map fun p => memM p.1) ++ [memM pko1])) zS (own_eq (by rw [List.map_append]; rfl)) zL))
 try simp only [NF] at h13
 obtain ⟨o1, hoo1⟩ := o1
 obtain rfl : o1 = none := by cases o1 with | none => rfl | some p => simp at h13
 dsimp only at hoo1
 have hall := hI.all hkv hoo1
 have hln := hI.len
 have hpm : kd.Perm s.vio := (List.perm_ext_iff_of_nodup (nodup_of_map hI.nd) (nodup_of_map hkv)).2 hall
 refine K_lsub (L' := [vV s, junk, own 33 rI2 u (kd.map fun p => memM p.1), vB b s]) (LSub.trans ran_end zL) ?_
 refine K_drop (S := [junk]) zS ?_
 refine J_exit (Jr (Jm rfl ?_))
 refine Jx rfl (step_call zS (SortL_spec u _ (by intro x hx; obtain ⟨p, _, rfl⟩ := List.mem_map.1 hx; have := memM_len p.1; omega) (by rw [List.length_map]; omega)) ⟨Sr, Sr, trivial⟩ call35) fun zs => ?_
 refine JL_nil (Jr (Jm rfl (Ja rfl (JL_nil (J_ret ?_)))))
 refine K_lsub (L' := [own 33 rI2 u zs.1, vB b s, vV s]) zL ?_
 refine K_ret1' (S := [own 33 rI2 u zs.1]) (rv := .tmp 2) rfl (⟨zs.1, zs.2.1.trans (hpm.map _), zs.2.2⟩ : { ys : List (List Int) // ys.Perm (s.vio.map fun p => memM p.1) ∧ ys.Pairwise fun a b => ltOf cmpL b a = false }) (Sel.take (Sel.none _)) (.tmp Sr) Frz.ownE
set_option maxHeartbeats 1000000 in
theorem Drop_spec (b : Nat) (s : VS) (num : Int) (ho : RulesOk s.rules s.pairs) : Spec (X := { z : VS × Int // DropR s num z.1 z.2 }) prog 25 [tAt b 0, tV (.int .i64 num)] ([vB b s, vI s, vP s, vF s, vE s, vS s, vX s, vV s]) (fun z => tV (.int .i64 z.1.2)) (fun z => [vB b z.1.1, vI z.1.1, vP z.1.1, vF z.1.1, vE z.1.1, vS z.1.1, vX z.1.1, vV z.1.1]) := by
 refine Spec.enter func25 rfl rfl fun h0 w0 fr0 => ?_
 refine Jr (Js rfl (step_box (R := rPt) Sr) (Js rfl (step_box (R := rInt) Sr) (Ja rfl (JL_nil (J_seq ?_)))))
 refine Jr (Jl rfl ty26 Sr ?_)
 refine Js rfl (step_eqlptr (by kernel_rfl) Sr) ?_
 refine JL_nil ?_
 refine J_cond Sr (fun h9 => ?_) (fun h9 => ?_)
 ·
  try simp only [NF] at h9
  exfalso; simp at h9
 try simp only [NF] at h9
 refine J_skip (J_seq ?_)
 refine J_drawZ [vB b s, vF s] [⟨0, [2], 0⟩, ⟨1, [11], 0⟩, ⟨2, [12], 0⟩, ⟨3, [13], 1⟩, ⟨4, [3], 0⟩, ⟨5, [14, 15], 1⟩, ⟨6, [16], 0⟩, ⟨7, [10], 0⟩, ⟨8, [10], 0⟩] [⟨9, [], 5, SP.emp, fun v => tAt (vN v) 0, fun v => box (vN v) 35 rFact zFact⟩] [⟨10, [5, 17], 2⟩, ⟨11, [18], 0⟩] (L := [vI s, vP s, vE s, vS s, vX s, vV s]) (LSub.trans LSub.emp zL) rfl (by kernel_rfl) (Nat.le_of_ble_eq_true rfl) ?_
 refine JF_step rfl rfl rfl rfl (fun _ => step_load_ptr ty26 Sr) ?_
 refine JF_step rfl rfl rfl rfl (fun _ => step_nilCheck Sr) ?_
 refine JF_step rfl rfl rfl rfl (fun _ => step_fieldAddr_own so69 Sr rfl) ?_
 refine JF_look rfl rfl rfl rfl (fun _ => step_load_fld ty63 Sr rfl zS) ?_
 refine JF_step rfl rfl rfl rfl (fun _ => step_load_ptr ty3 Sr) ?_
 refine JF_look rfl rfl rfl rfl (fun _ => step_lookupD_ok (kv := kvI) (R := rFact) (KeyT.int underlying3) underlying63 (fun w => zeroValue35 w) zr35 Sub.ofRV Sr mapD.view zS) ?_
 refine JF_step rfl rfl rfl rfl (fun _ => step_move Sr) ?_
 refine JF_step rfl rfl rfl rfl (fun _ => step_extract Sr rfl) ?_
 refine JF_step rfl rfl rfl rfl (fun _ => step_extract Sr rfl) ?_
 refine JF_nil ?_
 refine ⟨⟨_, rfl, rfl, rfl, rfl, fun _ => by refine Step.empty ?_; exact Step.emb ptrV (step_alloc (fun w => zeroValue35 w) zr35) (fun _ => rfl) (fun _ => rfl)⟩, fun v5 => ?_⟩
 refine upP_in ?_
 refine JX_stepU rfl rfl rfl (step_store_box ty35 Sr Sr zS) fun _ => ?_
 refine JX_step rfl rfl rfl rfl (fun _ => step_assign Sr) ?_
 refine JX_nil ?_
 refine K_freeze (S := [box (vN v5) 35 rFact (factAt s num)]) (t := 5) zS Frz.box ?_
 refine J_seq (Jr (Jm rfl (Js rfl (step_not Sr) (JL_nil ?_))))
 refine J_cond Sr (fun h20 => ?_) (fun h20 => ?_)
 ·
  try simp only [NF] at h20
  refine Jr (Ja rfl (JL_nil (J_ret ?_)))
  refine K_lsub (L' := [vB b s, vI s, vP s, vF s, vE s, vS s, vX s, vV s]) zL ?_
  exact K_retv (X := { z : VS × Int // DropR s num z.1 z.2 }) (rv := .tmp 4) rfl ⟨(s, 11), .none h20⟩ (.tmp Sr) Sr
 try simp only [NF] at h20
 refine J_skip (J_seq ?_)
 refine J_draw [⟨0, [2], true⟩, ⟨1, [21], true⟩, ⟨2, [22], true⟩, ⟨4, [3], true⟩, ⟨3, [23], false⟩, ⟨5, [24, 25], false⟩] rfl (by kernel_rfl) ?_
 refine Mf rfl rfl (step_load_ptr ty26 Sr) (Mf rfl rfl (step_nilCheck Sr) (Mf rfl rfl (step_fieldAddr_own so69 Sr rfl) (Mf rfl rfl (step_load_ptr ty3 Sr) ?_)))
 refine JM_look rfl rfl rfl rfl (step_load_fld ty63 Sr rfl zS) ?_
 refine JM_stepU rfl rfl rfl (step_deleteD (kv := kvI) (R := rFact) (KeyT.int underlying3) underlying63 Sub.ofRV Sr zS) fun _ => ?_
 refine JM_nil (J_seq ?_)
 refine K_lsub (L' := [setO (sval s.ent (factAt s num).Entity).1 (sval s.ent (factAt s num).Entity).2, setsO (hrem s.ent (factAt s num).Entity), vB b s, vI s, vP s, mapD kvI rFact (.map (some s.nF)) (mrem s.facts num), vE s, vX s, vV s]) (LSub.trans (LSub.cons (A := vS s) zS SPs.rfl zL) (sets_split (factAt s num).Entity)) ?_
 refine J_draw [⟨0, [2], true⟩, ⟨1, [26], true⟩, ⟨2, [27], true⟩, ⟨4, [5], true⟩, ⟨5, [30], true⟩, ⟨7, [3], true⟩, ⟨3, [28], false⟩, ⟨6, [29, 31], false⟩, ⟨8, [32, 33], false⟩] rfl (by kernel_rfl) ?_
 refine Mf rfl rfl (step_load_ptr ty26 Sr) (Mf rfl rfl (step_nilCheck Sr) (Mf rfl rfl (step_fieldAddr_own so69 Sr rfl) (Mf rfl rfl (step_fieldAddr so35 Sr rfl) (Mf rfl rfl (step_load_ptr ty3 Sr) (Mf rfl rfl (step_load_ptr ty3 Sr) ?_)))))
 refine JM_look rfl rfl rfl rfl (step_load_fld ty64 Sr rfl zS) ?_
 refine JM_look rfl rfl rfl rfl (step_lookupS (kv := kvI) (q := s.ent) (KeyT.int underlying3) underlying64 (fun w => zeroValue82 w) Sub.ofRV Sr zS) ?_
 refine JM_stepU rfl rfl rfl (step_deleteD (kv := kvI) (R := rBool) (KeyT.int underlying3) underlying82 Sr Sr zS) fun _ => ?_
 refine JM_nil ?_
 refine K_lsub (L' := [vB b s, vI s, vX s, mapD kvI rFact (.map (some s.nF)) (mrem s.facts num), mapD kvI rV (.map (some s.nE)) (hvals (hupd s.ent (factAt s num).Entity fun m => mrem m num)), setsO (hupd s.ent (factAt s num).Entity fun m => mrem m num), vP s, vV s]) (LSub.trans (B := [setO (sval s.ent (factAt s num).Entity).1 (mrem (sval s.ent (factAt s num).Entity).2 num), setsO (hrem s.ent (factAt s num).Entity), vB b s, vI s, vX s, mapD kvI rFact (.map (some s.nF)) (mrem s.facts num), mapD kvI rV (.map (some s.nE)) (hvals (hupd s.ent (factAt s num).Entity fun m => mrem m num)), vP s, vV s]) (LSub.cons zS SPs.rfl (LSub.cons zS SPs.rfl (LSub.cons zS SPs.rfl (LSub.cons zS SPs.rfl (LSub.cons zS SPs.rfl (LSub.cons zS SPs.rfl (LSub.cons (A := vE s) zS (mapD_eq (hupd_vals _ _ _).symm) zL))))))) (LSub.trans (sets_upd (factAt s num).Entity (fun m => mrem m num) rfl) zL)) ?_
 refine K_lsub (L' := [vB b s, dropM s num [], mapD kvI rFact (.map (some s.nF)) (mrem s.facts num), mapD kvI rV (.map (some s.nE)) (hvals (hupd s.ent (factAt s num).Entity fun m => mrem m num)), setsO (hupd s.ent (factAt s num).Entity fun m => mrem m num), vP s, vV s]) (LSub.trans (B := [vI s, vX s, vB b s, mapD kvI rFact (.map (some s.nF)) (mrem s.facts num), mapD kvI rV (.map (some s.nE)) (hvals (hupd s.ent (factAt s num).Entity fun m => mrem m num)), setsO (hupd s.ent (factAt s num).Entity fun m => mrem m num), vP s, vV s]) zL (LSub.trans (B := [dropM s num [], vB b s, mapD kvI rFact (.map (some s.nF)) (mrem s.facts num), mapD kvI rV (.map (some s.nE)) (hvals (hupd s.ent (factAt s num).Entity fun m => mrem m num)), setsO (hupd s.ent (factAt s num).Entity fun m => mrem m num), vP s, vV s]) (LSub.stars LSub.rfl) zL)) ?_
 refine Jr (Jl rfl ty26 Sr (Jl rfl ty35 Sr (Js rfl (step_makeFunc (As := [_, _]) ⟨Sr, Sr, trivial⟩) ?_)))
 refine Jx rfl (step_call (.take (.take (.none _))) (places_spec b s (factAt s num) ho (dropM s num) 49 [tPtr rPt b, tPtr rInt num] call49 (fun pre k => dropClo2_spec b s num pre k)) ⟨Sr, Sr, Sr, trivial⟩ call44) fun v37 => ?_
 refine JL_nil (J_seq (J_seq ?_))
 refine K_view (kv := kvT) (R := rBool) (A := vV s) zS mapD.view fun hkv _ _ => ?_
 refine J_region (Jl rfl ty26 Sr (Js rfl (step_nilCheck Sr) (Js rfl (step_fieldAddr_own so69 Sr rfl) ?_)))
 refine Js rfl (step_load_fld ty66 Sr rfl zS) ?_
 refine Jx rfl (step_rangeD (kv := kvT) (R := rBool) underlying66 Sub.ofRV zS) fun v42 => ?_
 refine JL_nil (J_block ?_)
 refine J_loopL (σ := List (GTri × Bool) × List (GTri × Bool)) (fun ⟨kd, mv⟩ => DlP s.vio num kd mv) (fun ⟨kd, mv⟩ => upd (upd (upd (upd env0 2 (tPtr rPt b)) 3 (tPtr rInt num)) 4 (tV (.int .i64 0))) 42 (tAt v42 0)) (fun ⟨kd, mv⟩ => [ranD kvT rBool v42 (.map (some s.nV)) mv (kd.map (·.1)) none, vB b s, dropM s num (keysV s.rules s.pairs (factAt s num) s.pairs.length), mapD kvI rFact (.map (some s.nF)) (mrem s.facts num), mapD kvI rV (.map (some s.nE)) (hvals (hupd s.ent (factAt s num).Entity fun m => mrem m num)), setsO (hupd s.ent (factAt s num).Entity fun m => mrem m num), vP s]) (fun ⟨kd, mv⟩ => s.vio.length - kd.length) ([], s.vio) (DlP.start hkv) (zU) (zL) ?_
 rintro ⟨kd, mv⟩ hD
 try dsimp only at hD
 refine Jr ?_
 refine Jx rfl (step_nextD (kv := kvT) (R := rBool) rfl Sr zS) fun o1 => ?_
 refine Js rfl (step_extract_next Sr) (JL_nil (J_seq ?_))
 refine J_cond Sr (fun h44 => ?_) (fun h44 => ?_)
 ·
  try simp only [NF] at h44
  obtain ⟨o1, hoo1⟩ := o1
  obtain ⟨⟨pko1, pvo1⟩, rfl⟩ : ∃ p, o1 = some p := by cases o1 with | none => simp at h44 | some p => exact ⟨p, rfl⟩
  dsimp only at hoo1
  have hsrc := hD.src hoo1
  have hln := (hD.ran.next hsrc).len
  simp only [List.length_append, List.length_singleton] at hln
  refine J_skip (J_block (Jr ?_))
  refine Js rfl (step_entryD (kv := kvT) (R := rBool) Sr zS) ?_
  refine Js rfl (step_extract Sr rfl) ?_
  refine Jx rfl (step_alloc (fun w => zeroValue77 w) zr77) fun v7 => ?_
  refine Ju (step_store_box ty77 Sr Sub.tri' zS) fun _ => ?_
  refine JL_freeze (t := 7) (Sel.take (Sel.none _)) Frz.box ?_
  refine JL_nil (J_seq ?_)
  refine J_draw [⟨0, [7], true⟩, ⟨1, [3], true⟩, ⟨2, [47, 48], true⟩] rfl (by kernel_rfl) ?_
  refine Mf rfl rfl (step_slice_tri underlying77 Sr) (Mf rfl rfl (step_load_ptr ty3 Sr) ?_)
  refine Mf rfl rfl (step_call0 (Contains__spec pko1.l num (by simp [GTri.l])) ⟨Sr, Sr, trivial⟩ call50) ?_
  refine JM_nil ?_
  refine J_cond Sr (fun h49 => ?_) (fun h49 => ?_)
  ·
   try simp only [NF] at h49
   have hn : num ∈ pko1.l := by simpa using h49
   refine J_draw [⟨0, [2], true⟩, ⟨1, [50], true⟩, ⟨2, [51], true⟩, ⟨4, [7], true⟩, ⟨3, [52], false⟩, ⟨5, [53, 54], false⟩] rfl (by kernel_rfl) ?_
   refine Mf rfl rfl (step_load_ptr ty26 Sr) (Mf rfl rfl (step_nilCheck Sr) (Mf rfl rfl (step_fieldAddr_own so69 Sr rfl) (Mf rfl rfl (step_load_ptr ty77 Sr) ?_)))
   refine JM_look rfl rfl rfl rfl (step_load_fld ty66 Sr rfl zS) ?_
   refine JM_stepU rfl rfl rfl (step_deleteRan (kv := kvT) (R := rBool) key77 underlying66 Sub.ofRV Sub.tri zS) fun _ => ?_
   refine JM_nil ?_
   refine K_againL (σ := List (GTri × Bool) × List (GTri × Bool)) (s := (kd, mv)) (kd ++ [(pko1, pvo1)], mrem mv pko1) (by simp only [List.length_append, List.length_singleton]; omega) (hD.del hkv hoo1 hn) (zU) (LSub.cons (A := ranD kvT rBool v42 (.map (some s.nV)) (mrem mv pko1) (kd.map (·.1) ++ [pko1]) none) zS (ran_snoc (p := (pko1, pvo1))) zL)
  try simp only [NF] at h49
  have hn : num ∉ pko1.l := by simpa using h49
  refine J_skip ?_
  refine K_againL (σ := List (GTri × Bool) × List (GTri × Bool)) (s := (kd, mv)) (kd ++ [(pko1, pvo1)], mv) (by simp only [List.length_append, List.length_singleton]; omega) (hD.keep hoo1 hn) (zU) (LSub.cons (A := ranD kvT rBool v42 (.map (some s.nV)) mv (kd.map (·.1) ++ [pko1]) (some (pko1, pvo1))) zS (ran_snoc (p := (pko1, pvo1))) zL)
 try simp only [NF] at h44
 obtain ⟨o1, hoo1⟩ := o1
 obtain rfl : o1 = none := by cases o1 with | none => rfl | some p => simp at h44
 dsimp only at hoo1
 have hdn := hD.done hkv hoo1
 refine J_exit (Jr (Ja rfl (JL_nil (J_ret ?_))))
 refine K_lsub (L' := [mapD kvT rBool (.map (some s.nV)) mv, junk, dropM s num (keysV s.rules s.pairs (factAt s num) s.pairs.length), vB b s, mapD kvI rFact (.map (some s.nF)) (mrem s.facts num), mapD kvI rV (.map (some s.nE)) (hvals (hupd s.ent (factAt s num).Entity fun m => mrem m num)), setsO (hupd s.ent (factAt s num).Entity fun m => mrem m num), vP s]) (LSub.trans ran_end zL) ?_
 refine K_drop (S := [junk]) zS ?_
 refine K_lsub (L' := [vB b { s with facts := mrem s.facts num, ent := (hupd s.ent (factAt s num).Entity fun m => mrem m num), idx := delS s.idx (keysV s.rules s.pairs (factAt s num) s.pairs.length) num, vio := mv }, vI { s with facts := mrem s.facts num, ent := (hupd s.ent (factAt s num).Entity fun m => mrem m num), idx := delS s.idx (keysV s.rules s.pairs (factAt s num) s.pairs.length) num, vio := mv }, vP { s with facts := mrem s.facts num, ent := (hupd s.ent (factAt s num).Entity fun m => mrem m num), idx := delS s.idx (keysV s.rules s.pairs (factAt s num) s.pairs.length) num, vio := mv }, vF { s with facts := mrem s.facts num, ent := (hupd s.ent (factAt s num).Entity fun m => mrem m num), idx := delS s.idx (keysV s.rules s.pairs (factAt s num) s.pairs.length) num, vio := mv }, vE { s with facts := mrem s.facts num, ent := (hupd s.ent (factAt s num).Entity fun m => mrem m num), idx := delS s.idx (keysV s.rules s.pairs (factAt s num) s.pairs.length) num, vio := mv }, vS { s with facts := mrem s.facts num, ent := (hupd s.ent (factAt s num).Entity fun m => mrem m num), idx := delS s.idx (keysV s.rules s.pairs (factAt s num) s.pairs.length) num, vio := mv }, vX { s with facts := mrem s.facts num, ent := (hupd s.ent (factAt s num).Entity fun m => mrem m num), idx := delS s.idx (keysV s.rules s.pairs (factAt s num) s.pairs.length) num, vio := mv }, vV { s with facts := mrem s.facts num, ent := (hupd s.ent (factAt s num).Entity fun m => mrem m num), idx := delS s.idx (keysV s.rules s.pairs (factAt s num) s.pairs.length) num, vio := mv }]) (LSub.trans (B := [dropM s num (keysV s.rules s.pairs (factAt s num) s.pairs.length), mapD kvT rBool (.map (some s.nV)) mv, vB b s, mapD kvI rFact (.map (some s.nF)) (mrem s.facts num), mapD kvI rV (.map (some s.nE)) (hvals (hupd s.ent (factAt s num).Entity fun m => mrem m num)), setsO (hupd s.ent (factAt s num).Entity fun m => mrem m num), vP s]) zL (LSub.trans (LSub.starsL LSub.rfl) zL)) ?_
 exact K_retv (X := { z : VS × Int // DropR s num z.1 z.2 }) (rv := .tmp 4) rfl ⟨({ s with facts := mrem s.facts num, ent := (hupd s.ent (factAt s num).Entity fun m => mrem m num), idx := delS s.idx (keysV s.rules s.pairs (factAt s num) s.pairs.length) num, vio := mv }, 0), .ok mv h20 hD.nd hdn⟩ (.tmp Sr) Sr
open Go Go.Proofs Go.Proofs.Tryz
theorem own_oneV {α : Type} {e : Nat} {R : Rp α} {v : Value} {xs : List α} {h m : PH} (ho : (own e R v xs).p h m) : v.oneCell' = true := by
  rcases ho with ⟨rfl, _⟩ | ⟨g, cap, cur, rfl, _⟩ <;> rfl
theorem frz_vig {b : Nat} {x : GVigilW} {D : List GRule} {prs : List Gpair} : Frz2 [box b 69 rVigilW x, own 59 rRule x.rules D, own 75 rpair x.pairs prs] (box b 69 rVigil (x.up D prs)) :=
  Frz2.box fun h m cs d st r => by
    obtain ⟨m1, m2, d12, e, o1, m3, m4, d34, e2, o2, e3⟩ := id st
    have v1 := Frz.own (S := [own 75 rpair x.pairs prs]) h m x.rules d st ⟨rfl, own_oneV o1⟩
    have v2 := Frz.skip (B := own 59 rRule x.rules D) (Frz.own (S := [])) h m x.pairs d st ⟨rfl, own_oneV o2⟩
    exact up69W D prs (PH.le_join_left _ _) v1 v2 r
theorem lowerR_t {r d : GRule} (h : d ∈ (lowerR r).filter okD3) : 1 ≤ d.Tables.length ∧ d.Tables.length ≤ 3 := by
  have := (List.mem_filter.1 h).2
  simp only [okD3, Bool.and_eq_true, decide_eq_true_eq] at this
  omega
def lowK (l : List GRule) (i k : Nat) : List GRule := loweredR (l.take i) ++ ((lowerR (nth l i)).take k).filter okD3
theorem lowK_succ {l : List GRule} {i k : Nat} (h : k < (lowerR (nth l i)).length) : lowK l i (k + 1) = lowK l i k ++ (if okD3 (nth (lowerR (nth l i)) k) = true then [nth (lowerR (nth l i)) k] else []) := by
  rw [lowK, lowK, takeV h, List.filter_append, List.append_assoc]
  congr 2
  cases e : okD3 (nth (lowerR (nth l i)) k) <;> simp [List.filter, e]
theorem lowK_next {l : List GRule} {i : Nat} (h : i < l.length) : lowK l i (lowerR (nth l i)).length = loweredR (l.take (i + 1)) := by
  rw [lowK, List.take_length, takeV h]; simp [loweredR]
theorem lowK_len (l : List GRule) (i k : Nat) (h : i ≤ l.length) : (lowK l i k).length ≤ i + 1 := by
  have h1 : ∀ m : List GRule, (loweredR m).length ≤ m.length := by
    intro m
    induction m with
    | nil => simp [loweredR]
    | cons a m ih =>
      have h1 := lowerR_len a
      have h2 := List.length_filter_le okD3 (lowerR a)
      simp only [loweredR, List.flatMap_cons, List.length_append, List.length_cons] at ih ⊢
      omega
  have h2 := h1 (l.take i)
  have h3 := List.length_filter_le okD3 ((lowerR (nth l i)).take k)
  have h4 := lowerR_len (nth l i)
  rw [List.length_take] at h2 h3
  rw [lowK, List.length_append]; omega
abbrev pr1 (d : GRule) (n i : Nat) (j : Nat) : List Gpair := if i ≠ j then [⟨n, i, j, eqsV d i j⟩] else []
def prJ (d : GRule) (n i k : Nat) : List Gpair := (List.range k).flatMap (pr1 d n i)
def prI (d : GRule) (n k : Nat) : List Gpair := (List.range k).flatMap fun i => prJ d n i d.Tables.length
def prN (D : List GRule) (k : Nat) : List Gpair := (List.range k).flatMap fun n => prI (nth D n) n (nth D n).Tables.length
abbrev prAll (D : List GRule) : List Gpair := prN D D.length
theorem prJ_succ (d : GRule) (n i k : Nat) : prJ d n i (k + 1) = prJ d n i k ++ pr1 d n i k := by simp [prJ, List.range_succ]
theorem prI_succ (d : GRule) (n k : Nat) : prI d n (k + 1) = prI d n k ++ prJ d n k d.Tables.length := by simp [prI, List.range_succ]
theorem prN_succ (D : List GRule) (k : Nat) : prN D (k + 1) = prN D k ++ prI (nth D k) k (nth D k).Tables.length := by simp [prN, List.range_succ]
theorem mem_prJ {d : GRule} {n i k : Nat} {p : Gpair} : p ∈ prJ d n i k ↔ ∃ j, j < k ∧ i ≠ j ∧ p = ⟨n, i, j, eqsV d i j⟩ := by
  simp only [prJ, List.mem_flatMap, List.mem_range]
  constructor
  · rintro ⟨j, hj, hp⟩
    by_cases h : i ≠ j
    · rw [pr1, if_pos h] at hp; exact ⟨j, hj, h, by simpa using hp⟩
    · rw [pr1, if_neg h] at hp; cases hp
  · rintro ⟨j, hj, h, rfl⟩
    exact ⟨j, hj, by rw [pr1, if_pos h]; simp⟩
theorem mem_prI {d : GRule} {n k : Nat} {p : Gpair} : p ∈ prI d n k ↔ ∃ i j, i < k ∧ j < d.Tables.length ∧ i ≠ j ∧ p = ⟨n, i, j, eqsV d i j⟩ := by
  simp only [prI, List.mem_flatMap, List.mem_range, mem_prJ]
  constructor
  · rintro ⟨i, hi, j, hj, h, e⟩; exact ⟨i, j, hi, hj, h, e⟩
  · rintro ⟨i, j, hi, hj, h, e⟩; exact ⟨i, hi, j, hj, h, e⟩
theorem mem_prN {D : List GRule} {k : Nat} {p : Gpair} : p ∈ prN D k ↔ ∃ n i j, n < k ∧ i < (nth D n).Tables.length ∧ j < (nth D n).Tables.length ∧ i ≠ j ∧ p = ⟨n, i, j, eqsV (nth D n) i j⟩ := by
  simp only [prN, List.mem_flatMap, List.mem_range, mem_prI]
  constructor
  · rintro ⟨n, hn, i, j, hi, hj, h, e⟩; exact ⟨n, i, j, hn, hi, hj, h, e⟩
  · rintro ⟨n, i, j, hn, hi, hj, h, e⟩; exact ⟨n, hn, i, j, hi, hj, h, e⟩
theorem pr1_len (d : GRule) (n i j : Nat) : (pr1 d n i j).length ≤ 1 := by unfold pr1; split <;> simp
theorem prJ_len (d : GRule) (n i : Nat) : ∀ k, (prJ d n i k).length ≤ k
  | 0 => by simp [prJ]
  | k + 1 => by
    rw [prJ_succ, List.length_append]
    have h1 := prJ_len d n i k
    have h2 := pr1_len d n i k
    omega
theorem prI_len (d : GRule) (n : Nat) (h : d.Tables.length ≤ 3) : ∀ k, (prI d n k).length ≤ 3 * k
  | 0 => by simp [prI]
  | k + 1 => by
    have h1 := prI_len d n h k
    have h2 := prJ_len d n k d.Tables.length
    rw [prI_succ, List.length_append]
    omega
theorem prN_len (D : List GRule) (h : ∀ d ∈ D, d.Tables.length ≤ 3) : ∀ k, k ≤ D.length → (prN D k).length ≤ 9 * k
  | 0, _ => by simp [prN]
  | k + 1, hk => by
    have h0 := h _ (nth_mem (show k < D.length by omega))
    have h1 := prN_len D h k (by omega)
    have h2 := prI_len (nth D k) k h0 (nth D k).Tables.length
    rw [prN_succ, List.length_append]
    omega
abbrev keyG (p : Gpair) : GTri := ⟨p.rule, p.i, p.j⟩
structure PatR (l : List Gpair) (pat : List (GTri × Int)) : Prop where
  get : ∀ q, q < l.length → mget pat (keyG (nth l q)) = some (q : Int)
theorem PatR.nil : PatR [] [] := ⟨fun q h => by simp at h⟩
theorem PatR.snoc {l : List Gpair} {pat : List (GTri × Int)} (h : PatR l pat) {p : Gpair} (hn : ∀ q ∈ l, keyG q ≠ keyG p) : PatR (l ++ [p]) (mput pat (keyG p) l.length) := ⟨fun q hq => by
  rw [mget_mput]
  by_cases e : q < l.length
  · rw [nth_append_left e, if_neg (hn _ (nth_mem e))]; exact h.get q e
  · have e2 : q = l.length := by simp at hq; omega
    subst e2
    have : nth (l ++ [p]) l.length = p := by rw [nth_get (by simp)]; simp
    rw [this, if_pos rfl]⟩
theorem keyG_new {D : List GRule} {n i j : Nat} {p : Gpair} (hp : p ∈ prN D n ++ prI (nth D n) n i ++ prJ (nth D n) n i j) : keyG p ≠ keyG ⟨n, i, j, eqsV (nth D n) i j⟩ := by
  rw [List.mem_append, List.mem_append, mem_prN, mem_prI, mem_prJ] at hp
  rcases hp with (⟨n', i', j', h1, _, _, _, rfl⟩ | ⟨i', j', h1, _, _, rfl⟩) | ⟨j', h1, _, rfl⟩
  · intro e; have := congrArg GTri.a e; simp only at this; omega
  · intro e; have := congrArg GTri.b e; simp only at this; omega
  · intro e; have := congrArg GTri.c e; simp only at this; omega
def ns (a b c d e : Nat) (D : List GRule) (pat : List (GTri × Int)) : VS := { rules := D, pairs := prAll D, nP := a, nF := b, nE := c, nI := d, nV := e, pat := pat, facts := [], ent := [], idx := [], vio := [], work := 0 }
structure NewR (rules : List GRule) (s : VS) : Prop where
  hr : s.rules = loweredR rules
  hp : s.pairs = prAll (loweredR rules)
  ht : PatR s.pairs s.pat
  hf : s.facts = []
  he : s.ent = []
  hi : s.idx = []
  hv : s.vio = []
  hw : s.work = 0
theorem equalities_spec (d : GRule) (i j : Int) (hte : d.Tests.length ≤ 1000000) : Fun1 prog 30 [rRule.ty d, tV (.int .i64 i), tV (.int .i64 j)] (tSl rA2 (eqsV d i j)) := by
 refine Spec.enter func30 rfl rfl fun h0 w0 fr0 => ?_
 refine Jr (Js rfl (step_box (R := rRule) Sr) (Ja rfl (JL_nil (Jr (Ja rfl ?_)))))
 refine JL_nil (J_seq (Jr (Js rfl (step_fieldAddr so59 Sr rfl) (Jl rfl ty57 Sr (Js rfl (step_len_sl underlying57 Sr) ?_)))))
 refine Jm rfl (JL_nil (J_block ?_))
 refine J_loopL (σ := Nat × Value) (fun ⟨k, u⟩ => k ≤ d.Tests.length) (fun ⟨k, u⟩ => upd (upd (upd (upd (upd (upd (upd env0 1 (tV (.int .i64 i))) 2 (tV (.int .i64 j))) 6 (tV (.slice none 0 0))) 7 (rV.ty u)) 11 (tSl rTest d.Tests)) 12 (tV (.int .i64 (d.Tests.length : Int)))) 13 (tV (.int .i64 (k : Int)))) (fun ⟨k, u⟩ => [own 111 rA2 u (eqsK d i j k)]) (fun ⟨k, u⟩ => d.Tests.length - k) (0, .slice none 0 0) zG (.u (.u (.u (SubE.upd (Sub.rV rfl) (zU))))) (LSub.nilown) ?_
 rintro ⟨k, u⟩ hk
 try dsimp only at hk
 refine Jr (Js rfl (step_lss Sr Sr) (JL_nil (J_seq ?_)))
 refine J_cond Sr (fun h14 => ?_) (fun h14 => ?_)
 ·
  try simp only [NF] at h14
  have hlt : k < d.Tests.length := by omega
  refine J_skip (J_seq (J_block (Jr ?_)))
  refine Js rfl (step_indexAddr_sl  underlying57 ty107 Sr Sr rfl (gb (by show k < d.Tests.length; exact hlt))) ?_
  refine Jl rfl ty107 Sr ?_
  refine Jx rfl (step_alloc (fun w => zeroValue107 w) zr107) fun v9 => ?_
  refine Ju (step_store_box ty107 Sr Sr zS) fun _ => ?_
  refine JL_freeze (t := 9) (Sel.take (Sel.none _)) Frz.box ?_
  refine JL_nil (J_block (Jr (Js rfl (step_fieldAddr so107 Sr rfl) (Jl rfl ty3 Sr (Js rfl (step_neq Sr Sr) ?_)))))
  refine Jm rfl ?_
  refine Jk rfl Sr rfl (step_fieldAddr so107 Sr rfl) ?_
  refine Jg rfl Sr rfl (fun hw => step_load_ptr ty3 (Sub.w hw)) (Jg rfl Sr rfl (fun hw => step_neq (Sub.w hw) Sr) (Js rfl (step_pick_or Sr Sr) (Ja rfl (JL_nil ?_))))
  refine J_cond Sr (fun h17 => ?_) (fun h17 => ?_)
  ·
   try simp only [NF] at h17
   have he : eqT i j (nth d.Tests k) = [] := by rw [eqT, if_pos h17]
   refine J_skip (J_region (Js rfl (step_add Sr Sr z6) (Jm rfl (JL_nil ?_))))
   refine K_againL (σ := Nat × Value) (s := (k, u)) (k + 1, u) zO zG (SubE.upd (Sub.int (by simp)) (zU)) (.c zS (own_eq (by rw [eqsK_succ hlt, he, List.append_nil])) (LSub.nil))
  try simp only [NF] at h17
  have h17 : ¬ ((nth d.Tests k).Op ≠ 1 ∨ (nth d.Tests k).Add ≠ 0) := by rintro (q | q); exact q h17.1; exact q h17.2
  refine Jr (Js rfl (step_fieldAddr so107 Sr rfl) (Js rfl (step_fieldAddr so105 Sr rfl) (Jl rfl ty3 Sr (Jm rfl (Js rfl (step_eql Sr Sr) ?_)))))
  refine Jm rfl ?_
  refine Jk rfl Sr rfl (step_fieldAddr so107 Sr rfl) ?_
  refine Jg rfl Sr rfl (fun hw => step_fieldAddr so105 (Sub.w hw) rfl) (Jg rfl Sr rfl (fun hw => step_load_ptr ty3 (Sub.w hw)) ?_)
  refine Jk rfl Sr rfl (step_move Sr) ?_
  refine Jg rfl Sr rfl (fun hw => step_eql (Sub.w hw) (Sub.w hw)) (Js rfl (step_pick_and Sr Sr) (Ja rfl (JL_nil ?_)))
  refine J_cond Sr (fun h26 => ?_) (fun h26 => ?_)
  ·
   try simp only [NF] at h26
   have he : eqT i j (nth d.Tests k) = [((nth d.Tests k).Left.Col, (nth d.Tests k).Right.Col)] := by rw [eqT, if_neg h17, if_pos h26]
   refine J_region (Jm rfl (Js rfl (step_fieldAddr so107 Sr rfl) (Js rfl (step_fieldAddr so105 Sr rfl) (Jl rfl ty3 Sr (Js rfl (step_fieldAddr so107 Sr rfl) ?_)))))
   refine Js rfl (step_fieldAddr so105 Sr rfl) (Jl rfl ty3 Sr (Js rfl (step_build_two Sr Sr) ?_))
   refine Js rfl (step_literal (ys := [_]) underlying72 el111 ⟨rfl, Sr, trivial⟩ rfl (by decide)) ?_
   refine Jx rfl (step_append underlying72 el111 Sr Sr zS (by have := eqsK_len d i j k; simp; omega) (by have := eqsK_len d i j k; simp; omega)) fun v48 => ?_
   refine Ja rfl (JL_nil (J_region (Js rfl (step_add Sr Sr z6) (Jm rfl (JL_nil ?_)))))
   refine K_againL (σ := Nat × Value) (s := (k, u)) (k + 1, v48) zO zG (SubE.upd (Sub.int (by simp)) (zU)) (.c zS (own_eq (by rw [eqsK_succ hlt, he])) (LSub.nil))
  try simp only [NF] at h26
  have h26 : ¬ ((nth d.Tests k).Left.Var = i ∧ (nth d.Tests k).Right.Var = j) := by rintro ⟨q1, q2⟩; rcases h26 with q | q; exact q q1; exact q q2
  refine Jr (Js rfl (step_fieldAddr so107 Sr rfl) (Js rfl (step_fieldAddr so105 Sr rfl) (Jl rfl ty3 Sr (Jm rfl (Js rfl (step_eql Sr Sr) ?_)))))
  refine Jm rfl ?_
  refine Jk rfl Sr rfl (step_fieldAddr so107 Sr rfl) ?_
  refine Jg rfl Sr rfl (fun hw => step_fieldAddr so105 (Sub.w hw) rfl) (Jg rfl Sr rfl (fun hw => step_load_ptr ty3 (Sub.w hw)) ?_)
  refine Jk rfl Sr rfl (step_move Sr) ?_
  refine Jg rfl Sr rfl (fun hw => step_eql (Sub.w hw) (Sub.w hw)) (Js rfl (step_pick_and Sr Sr) (Ja rfl (JL_nil ?_)))
  refine J_cond Sr (fun h49 => ?_) (fun h49 => ?_)
  ·
   try simp only [NF] at h49
   have he : eqT i j (nth d.Tests k) = [((nth d.Tests k).Right.Col, (nth d.Tests k).Left.Col)] := by rw [eqT, if_neg h17, if_neg h26, if_pos h49]
   refine J_region (Jm rfl (Js rfl (step_fieldAddr so107 Sr rfl) (Js rfl (step_fieldAddr so105 Sr rfl) (Jl rfl ty3 Sr (Js rfl (step_fieldAddr so107 Sr rfl) ?_)))))
   refine Js rfl (step_fieldAddr so105 Sr rfl) (Jl rfl ty3 Sr (Js rfl (step_build_two Sr Sr) ?_))
   refine Js rfl (step_literal (ys := [_]) underlying72 el111 ⟨rfl, Sr, trivial⟩ rfl (by decide)) ?_
   refine Jx rfl (step_append underlying72 el111 Sr Sr zS (by have := eqsK_len d i j k; simp; omega) (by have := eqsK_len d i j k; simp; omega)) fun v71 => ?_
   refine Ja rfl (JL_nil (J_region (Js rfl (step_add Sr Sr z6) (Jm rfl (JL_nil ?_)))))
   refine K_againL (σ := Nat × Value) (s := (k, u)) (k + 1, v71) zO zG (SubE.upd (Sub.int (by simp)) (zU)) (.c zS (own_eq (by rw [eqsK_succ hlt, he])) (LSub.nil))
  try simp only [NF] at h49
  have h49 : ¬ ((nth d.Tests k).Left.Var = j ∧ (nth d.Tests k).Right.Var = i) := by rintro ⟨q1, q2⟩; rcases h49 with q | q; exact q q1; exact q q2
  have he : eqT i j (nth d.Tests k) = [] := by rw [eqT, if_neg h17, if_neg h26, if_neg h49]
  refine J_skip (J_region (Js rfl (step_add Sr Sr z6) (Jm rfl (JL_nil ?_))))
  refine K_againL (σ := Nat × Value) (s := (k, u)) (k + 1, u) zO zG (SubE.upd (Sub.int (by simp)) (zU)) (.c zS (own_eq (by rw [eqsK_succ hlt, he, List.append_nil])) (LSub.nil))
 try simp only [NF] at h14
 obtain rfl : k = d.Tests.length := by omega
 refine J_exit (Jr (Jm rfl (Ja rfl (JL_nil (J_ret ?_)))))
 refine K_ret1' (rv := .tmp 6) rfl () (Sel.all _) (.tmp Sr) (Frz.own' (by rw [eqsK, List.take_length]; rfl))
set_option maxHeartbeats 2000000 in
theorem New_spec (rules : List GRule) (hrl : rules.length ≤ 1000) (hfx : ∀ r ∈ rules, r.Fixed.length ≤ 1000000 ∧ r.Cols.length ≤ 1000000) (hte : ∀ d ∈ loweredR rules, d.Tests.length ≤ 1000000) : Spec (X := { z : Nat × VS // NewR rules z.2 }) prog 11 [tSl rRule rules] ([]) (fun z => tAt z.1.1 0) (fun z => [vB z.1.1 z.1.2, vI z.1.2, vP z.1.2, vF z.1.2, vE z.1.2, vS z.1.2, vX z.1.2, vV z.1.2]) := by
 refine Spec.enter func11 rfl rfl fun h0 w0 fr0 => ?_
 refine Jr (Ja rfl (JL_nil (Jr ?_)))
 refine Jx rfl (step_makeMapD (kv := kvT) (R := rInt)) fun v12 => ?_
 refine Jx rfl (step_makeMapD (kv := kvI) (R := rFact)) fun v13 => ?_
 refine Jx rfl (step_makeMapD (kv := kvI) (R := rV)) fun v14 => ?_
 refine Jx rfl (step_makeMapD (kv := kvK) (R := rV)) fun v15 => ?_
 refine Jx rfl (step_makeMapD (kv := kvT) (R := rBool)) fun v16 => ?_
 refine Js rfl (step_build (x := ({ zVigilW with rules := (.slice none 0 0), pairs := (.slice none 0 0), pairAt := .map (some v12), facts := .map (some v13), entities := .map (some v14), index := .map (some v15), violations := .map (some v16) } : GVigilW)) (zs := [[Value.slice none 0 0], [Value.slice none 0 0], [Value.map none], [Value.map none], [Value.map none], [Value.map none], [Value.map none], [Value.int .i64 0]]) so69W (fun w => zeroValue69 w) ⟨(by first | exact Sr | exact Sub.rV rfl), (by first | exact Sr | exact Sub.rV rfl), (by first | exact Sr | exact Sub.rV rfl), (by first | exact Sr | exact Sub.rV rfl), (by first | exact Sr | exact Sub.rV rfl), trivial⟩ ⟨fun _ => ⟨rfl, rfl⟩, fun _ => ⟨rfl, rfl⟩, ⟨(by first | exact Sr | exact Sub.rV rfl), rfl⟩, ⟨(by first | exact Sr | exact Sub.rV rfl), rfl⟩, ⟨(by first | exact Sr | exact Sub.rV rfl), rfl⟩, ⟨(by first | exact Sr | exact Sub.rV rfl), rfl⟩, ⟨(by first | exact Sr | exact Sub.rV rfl), rfl⟩, fun _ => rfl, trivial⟩) ?_
 refine Jx rfl (step_box_own (R := rVigilW) Sr) fun v18 => ?_
 refine Ja rfl (JL_nil (J_seq (Jr (Jm rfl (Js rfl (step_len_sl underlying22 Sr) ?_)))))
 refine Jm rfl (JL_nil (J_block ?_))
 refine J_loopL (σ := Nat × Value) (fun ⟨i, vr⟩ => i ≤ rules.length) (fun ⟨i, vr⟩ => upd (upd (upd (upd env0 3 (tAt v18 0)) 19 (tSl rRule rules)) 20 (tV (.int .i64 (rules.length : Int)))) 21 (tV (.int .i64 (i : Int)))) (fun ⟨i, vr⟩ => [box v18 69 rVigilW ({ zVigilW with rules := vr, pairs := (.slice none 0 0), pairAt := .map (some v12), facts := .map (some v13), entities := .map (some v14), index := .map (some v15), violations := .map (some v16) } : GVigilW), own 59 rRule vr (loweredR (rules.take i)), mapD kvT rInt (.map (some v12)) ([] : List (GTri × Int)), mapD kvI rFact (.map (some v13)) ([] : List (Int × GFact)), mapD kvI rV (.map (some v14)) ([] : List (Int × Value)), mapD kvK rV (.map (some v15)) ([] : List (Gkey × Value)), mapD kvT rBool (.map (some v16)) ([] : List (GTri × Bool))]) (fun ⟨i, vr⟩ => rules.length - i) (0, (.slice none 0 0)) zG (zU) (LSub.trans (LSub.nilown (e := 59) (R := rRule)) zL) ?_
 rintro ⟨i, vr⟩ hi
 try dsimp only at hi
 refine Jr (Js rfl (step_lss Sr Sr) (JL_nil (J_seq ?_)))
 refine J_cond Sr (fun h22 => ?_) (fun h22 => ?_)
 ·
  try simp only [NF] at h22
  have hlt : i < rules.length := by omega
  have hl1 := lowerR_len (nth rules i)
  refine J_skip (J_seq (J_block (Jr ?_)))
  refine Js rfl (step_indexAddr_sl  underlying22 ty59 Sr Sr rfl (gb (by show i < rules.length; exact hlt))) ?_
  refine Jl rfl ty59 Sr ?_
  refine Jx rfl (step_alloc (fun w => zeroValue59 w) zr59) fun v5 => ?_
  refine Ju (step_store_box ty59 Sr Sr zS) fun _ => ?_
  refine JL_freeze (t := 5) (Sel.take (Sel.none _)) Frz.box ?_
  refine JL_nil (Jr (Jl rfl ty59 Sr (Js rfl (step_call0 (Lower_spec (nth rules i) (hfx _ (nth_mem hlt)).1 (hfx _ (nth_mem hlt)).2) ⟨Sr, trivial⟩ call29) (Js rfl (step_len_sl underlying22 Sr) (Jm rfl ?_)))))
  refine JL_nil (J_block ?_)
  refine J_loopL (σ := Nat × Value) (fun ⟨k, vr2⟩ => k ≤ (lowerR (nth rules i)).length) (fun ⟨k, vr2⟩ => upd (upd (upd (upd (upd (upd (upd env0 3 (tAt v18 0)) 19 (tSl rRule rules)) 20 (tV (.int .i64 (rules.length : Int)))) 21 (tV (.int .i64 (i : Int)))) 26 (tSl rRule (lowerR (nth rules i)))) 27 (tV (.int .i64 ((lowerR (nth rules i)).length : Int)))) 28 (tV (.int .i64 (k : Int)))) (fun ⟨k, vr2⟩ => [box v18 69 rVigilW ({ zVigilW with rules := vr2, pairs := (.slice none 0 0), pairAt := .map (some v12), facts := .map (some v13), entities := .map (some v14), index := .map (some v15), violations := .map (some v16) } : GVigilW), own 59 rRule vr2 (lowK rules i k), mapD kvT rInt (.map (some v12)) ([] : List (GTri × Int)), mapD kvI rFact (.map (some v13)) ([] : List (Int × GFact)), mapD kvI rV (.map (some v14)) ([] : List (Int × Value)), mapD kvK rV (.map (some v15)) ([] : List (Gkey × Value)), mapD kvT rBool (.map (some v16)) ([] : List (GTri × Bool))]) (fun ⟨k, vr2⟩ => (lowerR (nth rules i)).length - k) (0, vr) zG (zU) (LSub.cons zS SPs.rfl (LSub.cons (A := own 59 rRule vr (loweredR (rules.take i))) zS (own_eq (by simp [lowK])) zL)) ?_
  rintro ⟨k, vr2⟩ hk
  try dsimp only at hk
  refine Jr (Js rfl (step_lss Sr Sr) (JL_nil (J_seq ?_)))
  refine J_cond Sr (fun h29 => ?_) (fun h29 => ?_)
  ·
   try simp only [NF] at h29
   have hkl : k < (lowerR (nth rules i)).length := by omega
   have hlk := lowK_len rules i k zG
   refine J_skip (J_seq (J_block (Jr ?_)))
   refine Js rfl (step_indexAddr_sl  underlying22 ty59 Sr Sr rfl (gb (by exact hkl))) ?_
   refine Jl rfl ty59 Sr ?_
   refine Jx rfl (step_alloc (fun w => zeroValue59 w) zr59) fun v7 => ?_
   refine Ju (step_store_box ty59 Sr Sr zS) fun _ => ?_
   refine JL_freeze (t := 7) (Sel.take (Sel.none _)) Frz.box ?_
   refine JL_nil (Jr (Js rfl (step_fieldAddr so59 Sr rfl) (Jl rfl ty33 Sr (Js rfl (step_len_sl underlying33 Sr) (Js rfl (step_geq Sr Sr) ?_)))))
   refine Jm rfl ?_
   refine Jk rfl Sr rfl (step_fieldAddr so59 Sr rfl) ?_
   refine Jg rfl Sr rfl (fun hw => step_load_ptr ty33 (Sub.w hw)) (Jg rfl Sr rfl (fun hw => step_len_sl underlying33 (Sub.w hw)) (Jg rfl Sr rfl (fun hw => step_leq (Sub.w hw) Sr) (Js rfl (step_pick_and Sr Sr) (JL_nil ?_))))
   refine J_cond Sr (fun h41 => ?_) (fun h41 => ?_)
   ·
    try simp only [NF] at h41
    have hok : okD3 (nth (lowerR (nth rules i)) k) = true := by simp only [okD3, Bool.and_eq_true, decide_eq_true_eq]; omega
    refine J_drawX [⟨0, [3], 0⟩, ⟨1, [3], 0⟩, ⟨2, [43], 0⟩, ⟨3, [44], 0⟩, ⟨5, [7], 0⟩, ⟨6, [47], 0⟩, ⟨4, [45], 1⟩, ⟨7, [46, 48], 2⟩, ⟨8, [42], 0⟩, ⟨9, [50], 0⟩, ⟨10, [49, 51], 2⟩] rfl (by kernel_rfl) ?_
    refine JX_step rfl rfl rfl rfl (fun _ => step_move Sr) ?_
    refine JX_step rfl rfl rfl rfl (fun _ => step_move Sr) ?_
    refine JX_step rfl rfl rfl rfl (fun _ => step_nilCheck Sr) ?_
    refine JX_step rfl rfl rfl rfl (fun _ => step_fieldAddr_own so69W Sr rfl) ?_
    refine JX_step rfl rfl rfl rfl (fun _ => step_load_ptr ty59 Sr) ?_
    refine JX_step rfl rfl rfl rfl (fun _ => step_literal (ys := [_]) underlying22 el59 ⟨rfl, Sr, trivial⟩ rfl (by decide)) ?_
    refine JX_look rfl rfl rfl rfl (step_load_fld ty22V69 Sr rfl zS) ?_
    refine JX_stepX rfl rfl rfl rfl (step_append underlying22 el59 Sr Sr zS (by have := lowK_len rules i k zG; simp; omega) (by have := lowK_len rules i k zG; simp; omega)) fun v49 => ?_
    refine JX_step rfl rfl rfl rfl (fun _ => step_nilCheck Sr) ?_
    refine JX_step rfl rfl rfl rfl (fun _ => step_fieldAddr_own so69W Sr rfl) ?_
    refine JX_stepU rfl rfl rfl (step_store_fld (R := rV) (y' := ({ zVigilW with rules := v49, pairs := (.slice none 0 0), pairAt := .map (some v12), facts := .map (some v13), entities := .map (some v14), index := .map (some v15), violations := .map (some v16) } : GVigilW)) ty22V69 Sr Sr zS (by exact ⟨fun _ _ q => q, rfl, by intro g hg; simp only [List.mem_cons, List.not_mem_nil, or_false] at hg; rcases hg with rfl | rfl | rfl | rfl | rfl | rfl | rfl <;> rfl⟩)) fun _ => ?_
    refine JX_nil (J_region (Js rfl (step_add Sr Sr z6) (Jm rfl (JL_nil ?_))))
    refine K_againL (σ := Nat × Value) (s := (k, vr2)) (k + 1, v49) zO zG (SubE.upd (Sub.int (by simp)) (zU)) (LSub.cons zS SPs.rfl (LSub.cons (A := own 59 rRule v49 (lowK rules i k ++ [(nth (lowerR (nth rules i)) k)])) zS (own_eq (by rw [lowK_succ hkl, if_pos hok])) zL))
   try simp only [NF] at h41
   have hno : okD3 (nth (lowerR (nth rules i)) k) = false := by simp only [okD3, Bool.and_eq_false_iff, decide_eq_false_iff_not]; rcases h41 with q | q; exact .inl zG; exact .inr zG
   refine J_skip (J_region (Js rfl (step_add Sr Sr z6) (Jm rfl (JL_nil ?_))))
   refine K_againL (σ := Nat × Value) (s := (k, vr2)) (k + 1, vr2) zO zG (SubE.upd (Sub.int (by simp)) (zU)) (LSub.cons zS SPs.rfl (LSub.cons (A := own 59 rRule vr2 (lowK rules i k)) zS (own_eq (by rw [lowK_succ hkl, if_neg (by rw [hno]; simp), List.append_nil])) zL))
  try simp only [NF] at h29
  obtain rfl : k = (lowerR (nth rules i)).length := by omega
  refine J_exit (J_region (Js rfl (step_add Sr Sr z6) (Jm rfl (JL_nil ?_))))
  refine K_againL (σ := Nat × Value) (s := (i, vr)) (i + 1, vr2) zO zG (SubE.upd (Sub.int (by simp)) (zU)) (LSub.cons zS SPs.rfl (LSub.cons (A := own 59 rRule vr2 (lowK rules i (lowerR (nth rules i)).length)) zS (own_eq (lowK_next hlt)) zL))
 try simp only [NF] at h22
 obtain rfl : i = rules.length := by omega
 refine K_lsub (L' := [box v18 69 rVigilW ({ zVigilW with rules := vr, pairs := (.slice none 0 0), pairAt := .map (some v12), facts := .map (some v13), entities := .map (some v14), index := .map (some v15), violations := .map (some v16) } : GVigilW), own 59 rRule vr (loweredR rules), mapD kvT rInt (.map (some v12)) ([] : List (GTri × Int)), mapD kvI rFact (.map (some v13)) ([] : List (Int × GFact)), mapD kvI rV (.map (some v14)) ([] : List (Int × Value)), mapD kvK rV (.map (some v15)) ([] : List (Gkey × Value)), mapD kvT rBool (.map (some v16)) ([] : List (GTri × Bool))]) (LSub.cons zS SPs.rfl (LSub.cons (A := own 59 rRule vr (loweredR (rules.take rules.length))) zS (own_eq (by rw [List.take_length])) zL)) ?_
 refine J_exit (J_seq (J_seq ?_))
 have hD3 : ∀ d ∈ (loweredR rules), 1 ≤ d.Tables.length ∧ d.Tables.length ≤ 3 := fun d hd => by obtain ⟨r, _, h⟩ := List.mem_flatMap.1 hd; exact lowerR_t h
 have hDl : (loweredR rules).length ≤ 1001 := by have q := lowK_len rules rules.length 0 (Nat.le_refl _); have q2 : lowK rules rules.length 0 = (loweredR rules) := (by simp [lowK]); rw [q2] at q; omega
 refine J_region (Jm rfl (Js rfl (step_nilCheck Sr) (Js rfl (step_fieldAddr_own so69W Sr rfl) ?_)))
 refine Js rfl (step_load_fld ty22V69 Sr rfl zS) ?_
 refine Js rfl (step_len_own underlying22 Sr zS) ?_
 refine Jm rfl (JL_nil (J_block ?_))
 refine J_loopL (σ := Nat × Value × List (GTri × Int)) (fun ⟨n, vp, pat⟩ => n ≤ (loweredR rules).length ∧ PatR (prN (loweredR rules) n) pat) (fun ⟨n, vp, pat⟩ => upd (upd (upd (upd env0 3 (tAt v18 0)) 57 (rV.ty vr)) 58 (tV (.int .i64 ((loweredR rules).length : Int)))) 59 (tV (.int .i64 (n : Int)))) (fun ⟨n, vp, pat⟩ => [box v18 69 rVigilW ({ zVigilW with rules := vr, pairs := vp, pairAt := .map (some v12), facts := .map (some v13), entities := .map (some v14), index := .map (some v15), violations := .map (some v16) } : GVigilW), own 59 rRule vr (loweredR rules), own 75 rpair vp (prN (loweredR rules) n), mapD kvT rInt (.map (some v12)) pat, mapD kvI rFact (.map (some v13)) ([] : List (Int × GFact)), mapD kvI rV (.map (some v14)) ([] : List (Int × Value)), mapD kvK rV (.map (some v15)) ([] : List (Gkey × Value)), mapD kvT rBool (.map (some v16)) ([] : List (GTri × Bool))]) (fun ⟨n, vp, pat⟩ => (loweredR rules).length - n) (0, (.slice none 0 0), []) ⟨by omega, PatR.nil⟩ (zU) (LSub.trans (LSub.nilown (e := 75) (R := rpair)) zL) ?_
 rintro ⟨n, vp, pat⟩ ⟨hn, hP⟩
 refine Jr (Js rfl (step_lss Sr Sr) (JL_nil (J_seq ?_)))
 refine J_cond Sr (fun h60 => ?_) (fun h60 => ?_)
 ·
  try simp only [NF] at h60
  have hnl : n < (loweredR rules).length := by omega
  have hT := hD3 _ (nth_mem hnl)
  refine J_skip (J_seq (J_block (Jr (Jm rfl ?_))))
  refine Js rfl (step_indexAddr_own  underlying22 ty59 Sr zS Sr rfl (by exact hnl)) ?_
  refine Js rfl (step_load_own ty59 Sr zS (gb (by exact hnl))) ?_
  refine Jx rfl (step_alloc (fun w => zeroValue59 w) zr59) fun v9 => ?_
  refine Ja rfl ?_
  refine Ju (step_store_box ty59 Sr Sr zS) fun _ => ?_
  refine JL_freeze (t := 9) (Sel.take (Sel.none _)) Frz.box ?_
  refine JL_nil (Jr (Js rfl (step_fieldAddr so59 Sr rfl) (Jl rfl ty33 Sr (Js rfl (step_len_sl underlying33 Sr) (Jm rfl ?_)))))
  refine JL_nil (J_block ?_)
  refine J_loopL (σ := Nat × Value × List (GTri × Int)) (fun ⟨i, vp2, pat2⟩ => i ≤ (nth (loweredR rules) n).Tables.length ∧ PatR ((prN (loweredR rules) n) ++ prI (nth (loweredR rules) n) n i) pat2) (fun ⟨i, vp2, pat2⟩ => upd (upd (upd (upd (upd (upd (upd (upd env0 3 (tAt v18 0)) 8 (tV (.int .i64 (n : Int)))) 9 (tPtr rRule (nth (loweredR rules) n))) 57 (rV.ty vr)) 58 (tV (.int .i64 ((loweredR rules).length : Int)))) 59 (tV (.int .i64 (n : Int)))) 66 (tV (.int .i64 ((nth (loweredR rules) n).Tables.length : Int)))) 67 (tV (.int .i64 (i : Int)))) (fun ⟨i, vp2, pat2⟩ => [box v18 69 rVigilW ({ zVigilW with rules := vr, pairs := vp2, pairAt := .map (some v12), facts := .map (some v13), entities := .map (some v14), index := .map (some v15), violations := .map (some v16) } : GVigilW), own 59 rRule vr (loweredR rules), own 75 rpair vp2 ((prN (loweredR rules) n) ++ prI (nth (loweredR rules) n) n i), mapD kvT rInt (.map (some v12)) pat2, mapD kvI rFact (.map (some v13)) ([] : List (Int × GFact)), mapD kvI rV (.map (some v14)) ([] : List (Int × Value)), mapD kvK rV (.map (some v15)) ([] : List (Gkey × Value)), mapD kvT rBool (.map (some v16)) ([] : List (GTri × Bool))]) (fun ⟨i, vp2, pat2⟩ => (nth (loweredR rules) n).Tables.length - i) (0, vp, pat) ⟨by omega, by simpa [prI] using hP⟩ (zU) (LSub.cons zS SPs.rfl (LSub.cons zS SPs.rfl (LSub.cons (A := own 75 rpair vp (prN (loweredR rules) n)) zS (own_eq (by simp [prI])) zL))) ?_
  rintro ⟨i, vp2, pat2⟩ ⟨hi, hP2⟩
  refine Jr (Js rfl (step_lss Sr Sr) (JL_nil (J_seq ?_)))
  refine J_cond Sr (fun h68 => ?_) (fun h68 => ?_)
  ·
   try simp only [NF] at h68
   have hil : i < (nth (loweredR rules) n).Tables.length := by omega
   refine J_skip (J_seq (J_block (Jr (Jm rfl (Ja rfl ?_)))))
   refine JL_nil (Jr (Js rfl (step_fieldAddr so59 Sr rfl) (Jl rfl ty33 Sr (Js rfl (step_len_sl underlying33 Sr) (Jm rfl ?_)))))
   refine JL_nil (J_block ?_)
   refine J_loopL (σ := Nat × Value × List (GTri × Int)) (fun ⟨j, vp3, pat3⟩ => j ≤ (nth (loweredR rules) n).Tables.length ∧ PatR ((prN (loweredR rules) n) ++ prI (nth (loweredR rules) n) n i ++ prJ (nth (loweredR rules) n) n i j) pat3) (fun ⟨j, vp3, pat3⟩ => upd (upd (upd (upd (upd (upd (upd (upd (upd (upd (upd env0 3 (tAt v18 0)) 8 (tV (.int .i64 (n : Int)))) 9 (tPtr rRule (nth (loweredR rules) n))) 10 (tV (.int .i64 (i : Int)))) 57 (rV.ty vr)) 58 (tV (.int .i64 ((loweredR rules).length : Int)))) 59 (tV (.int .i64 (n : Int)))) 66 (tV (.int .i64 ((nth (loweredR rules) n).Tables.length : Int)))) 67 (tV (.int .i64 (i : Int)))) 72 (tV (.int .i64 ((nth (loweredR rules) n).Tables.length : Int)))) 73 (tV (.int .i64 (j : Int)))) (fun ⟨j, vp3, pat3⟩ => [box v18 69 rVigilW ({ zVigilW with rules := vr, pairs := vp3, pairAt := .map (some v12), facts := .map (some v13), entities := .map (some v14), index := .map (some v15), violations := .map (some v16) } : GVigilW), own 59 rRule vr (loweredR rules), own 75 rpair vp3 ((prN (loweredR rules) n) ++ prI (nth (loweredR rules) n) n i ++ prJ (nth (loweredR rules) n) n i j), mapD kvT rInt (.map (some v12)) pat3, mapD kvI rFact (.map (some v13)) ([] : List (Int × GFact)), mapD kvI rV (.map (some v14)) ([] : List (Int × Value)), mapD kvK rV (.map (some v15)) ([] : List (Gkey × Value)), mapD kvT rBool (.map (some v16)) ([] : List (GTri × Bool))]) (fun ⟨j, vp3, pat3⟩ => (nth (loweredR rules) n).Tables.length - j) (0, vp2, pat2) ⟨by omega, by simpa [prJ] using hP2⟩ (zU) (LSub.cons zS SPs.rfl (LSub.cons zS SPs.rfl (LSub.cons (A := own 75 rpair vp2 ((prN (loweredR rules) n) ++ prI (nth (loweredR rules) n) n i)) zS (own_eq (by simp [prJ])) zL))) ?_
   rintro ⟨j, vp3, pat3⟩ ⟨hj, hP3⟩
   refine Jr (Js rfl (step_lss Sr Sr) (JL_nil (J_seq ?_)))
   refine J_cond Sr (fun h74 => ?_) (fun h74 => ?_)
   ·
    try simp only [NF] at h74
    have hjl : j < (nth (loweredR rules) n).Tables.length := by omega
    have hpl : ((prN (loweredR rules) n) ++ prI (nth (loweredR rules) n) n i ++ prJ (nth (loweredR rules) n) n i j).length ≤ 100000 := by
     have q1 := prN_len (loweredR rules) (fun d hd => (hD3 d hd).2) n zG
     have q2 := prI_len (nth (loweredR rules) n) n hT.2 i
     have q3 := prJ_len (nth (loweredR rules) n) n i j
     simp only [List.length_append]; omega
    refine J_skip (J_seq (J_block (Jr (Jm rfl (Ja rfl ?_)))))
    refine JL_nil (Jr (Jm rfl (Jm rfl (Js rfl (step_neq Sr Sr) (JL_nil ?_)))))
    refine J_cond Sr (fun h78 => ?_) (fun h78 => ?_)
    ·
     try simp only [NF] at h78
     have hij : i ≠ j := by omega
     have e1 : pr1 (nth (loweredR rules) n) n i j = [⟨n, i, j, eqsV (nth (loweredR rules) n) i j⟩] := by rw [pr1, if_pos hij]
     refine J_seq ?_
     refine J_drawX [⟨0, [3], 0⟩, ⟨1, [79], 0⟩, ⟨2, [80], 0⟩, ⟨4, [8], 0⟩, ⟨5, [10], 0⟩, ⟨6, [11], 0⟩, ⟨7, [83, 84, 85], 0⟩, ⟨8, [3], 0⟩, ⟨9, [87], 0⟩, ⟨10, [88], 0⟩, ⟨3, [81], 1⟩, ⟨11, [89], 1⟩, ⟨12, [90], 1⟩, ⟨13, [82, 86, 91], 2⟩] rfl (by kernel_rfl) ?_
     refine JX_step rfl rfl rfl rfl (fun _ => step_move Sr) ?_
     refine JX_step rfl rfl rfl rfl (fun _ => step_nilCheck Sr) ?_
     refine JX_step rfl rfl rfl rfl (fun _ => step_fieldAddr_own so69W Sr rfl) ?_
     refine JX_step rfl rfl rfl rfl (fun _ => step_move Sr) ?_
     refine JX_step rfl rfl rfl rfl (fun _ => step_move Sr) ?_
     refine JX_step rfl rfl rfl rfl (fun _ => step_move Sr) ?_
     refine JX_step rfl rfl rfl rfl (fun _ => step_build_tri underlying71 (fun w => zeroValue71 w) Sr Sr Sr) ?_
     refine JX_step rfl rfl rfl rfl (fun _ => step_move Sr) ?_
     refine JX_step rfl rfl rfl rfl (fun _ => step_nilCheck Sr) ?_
     refine JX_step rfl rfl rfl rfl (fun _ => step_fieldAddr_own so69W Sr rfl) ?_
     refine JX_look rfl rfl rfl rfl (step_load_fld ty62 Sr rfl zS) ?_
     refine JX_look rfl rfl rfl rfl (step_load_fld ty67V69 Sr rfl zS) ?_
     refine JX_look rfl rfl rfl rfl (step_len_own underlying67 Sr zS) ?_
     refine JX_stepU rfl rfl rfl (step_mapUpdateD (kv := kvT) (R := rInt) key71 underlying62 Sub.ofRV Sub.tri Sr zS) fun _ => ?_
     refine JX_nil ?_
     refine J_drawX [⟨0, [3], 0⟩, ⟨1, [3], 0⟩, ⟨2, [93], 0⟩, ⟨3, [94], 0⟩, ⟨5, [8], 0⟩, ⟨6, [10], 0⟩, ⟨7, [11], 0⟩, ⟨8, [9], 0⟩, ⟨9, [10], 0⟩, ⟨10, [11], 0⟩, ⟨11, [100, 101, 102], 0⟩, ⟨12, [97, 98, 99, 103], 0⟩, ⟨13, [104], 0⟩, ⟨4, [95], 1⟩, ⟨14, [96, 105], 2⟩, ⟨15, [92], 0⟩, ⟨16, [107], 0⟩, ⟨17, [106, 108], 2⟩] rfl (by kernel_rfl) ?_
     refine JX_step rfl rfl rfl rfl (fun _ => step_move Sr) ?_
     refine JX_step rfl rfl rfl rfl (fun _ => step_move Sr) ?_
     refine JX_step rfl rfl rfl rfl (fun _ => step_nilCheck Sr) ?_
     refine JX_step rfl rfl rfl rfl (fun _ => step_fieldAddr_own so69W Sr rfl) ?_
     refine JX_step rfl rfl rfl rfl (fun _ => step_move Sr) ?_
     refine JX_step rfl rfl rfl rfl (fun _ => step_move Sr) ?_
     refine JX_step rfl rfl rfl rfl (fun _ => step_move Sr) ?_
     refine JX_step rfl rfl rfl rfl (fun _ => step_load_ptr ty59 Sr) ?_
     refine JX_step rfl rfl rfl rfl (fun _ => step_move Sr) ?_
     refine JX_step rfl rfl rfl rfl (fun _ => step_move Sr) ?_
     refine JX_step rfl rfl rfl rfl (fun _ => step_call0 (equalities_spec (nth (loweredR rules) n) i j (hte _ (nth_mem hnl))) ⟨Sr, Sr, Sr, trivial⟩ call30) ?_
     refine JX_step rfl rfl rfl rfl (fun _ => step_build (x := (⟨n, i, j, eqsV (nth (loweredR rules) n) i j⟩ : Gpair)) (zs := [[Value.int .i64 0], [Value.int .i64 0], [Value.int .i64 0], [Value.slice none 0 0]]) so75 (fun w => zeroValue75 w) ⟨Sr, Sr, Sr, Sr, trivial⟩ ⟨⟨Sr, rfl⟩, ⟨Sr, rfl⟩, ⟨Sr, rfl⟩, ⟨Sr, rfl⟩, trivial⟩) ?_
     refine JX_step rfl rfl rfl rfl (fun _ => step_literal (ys := [_]) underlying67 el75 ⟨rfl, Sr, trivial⟩ rfl (by decide)) ?_
     refine JX_look rfl rfl rfl rfl (step_load_fld ty67V69 Sr rfl zS) ?_
     refine JX_stepX rfl rfl rfl rfl (step_append underlying67 el75 Sr Sr zS (by have := hpl; simp only [List.length_append, List.length_singleton] at *; omega) (by have := hpl; simp only [List.length_append, List.length_singleton] at *; omega)) fun v106 => ?_
     refine JX_step rfl rfl rfl rfl (fun _ => step_nilCheck Sr) ?_
     refine JX_step rfl rfl rfl rfl (fun _ => step_fieldAddr_own so69W Sr rfl) ?_
     refine JX_stepU rfl rfl rfl (step_store_fld (R := rV) (y' := ({ zVigilW with rules := vr, pairs := v106, pairAt := .map (some v12), facts := .map (some v13), entities := .map (some v14), index := .map (some v15), violations := .map (some v16) } : GVigilW)) ty67V69 Sr Sr zS (by exact ⟨rfl, ⟨fun _ _ q => q, rfl, by intro g hg; simp only [List.mem_cons, List.not_mem_nil, or_false] at hg; rcases hg with rfl | rfl | rfl | rfl | rfl | rfl <;> rfl⟩⟩)) fun _ => ?_
     refine JX_nil (J_region (Js rfl (step_add Sr Sr z6) (Jm rfl (JL_nil ?_))))
     refine K_againL (σ := Nat × Value × List (GTri × Int)) (s := (j, vp3, pat3)) (j + 1, v106, mput pat3 ⟨n, i, j⟩ (((prN (loweredR rules) n) ++ prI (nth (loweredR rules) n) n i ++ prJ (nth (loweredR rules) n) n i j).length : Int)) zO ⟨by omega, by rw [prJ_succ, e1, ← List.append_assoc]; exact hP3.snoc (p := ⟨n, i, j, eqsV (nth (loweredR rules) n) i j⟩) (fun q hq => keyG_new hq)⟩ (SubE.upd (Sub.int (by simp)) (zU)) (LSub.cons zS SPs.rfl (LSub.cons zS SPs.rfl (LSub.cons (A := own 75 rpair v106 (((prN (loweredR rules) n) ++ prI (nth (loweredR rules) n) n i ++ prJ (nth (loweredR rules) n) n i j) ++ [⟨n, i, j, eqsV (nth (loweredR rules) n) i j⟩])) zS (own_eq (by rw [prJ_succ, e1, ← List.append_assoc])) zL)))
    try simp only [NF] at h78
    have hij : i = j := by omega
    have e1 : pr1 (nth (loweredR rules) n) n i j = [] := by rw [pr1, if_neg zG]
    refine J_skip (J_region (Js rfl (step_add Sr Sr z6) (Jm rfl (JL_nil ?_))))
    refine K_againL (σ := Nat × Value × List (GTri × Int)) (s := (j, vp3, pat3)) (j + 1, vp3, pat3) zO ⟨by omega, by rw [prJ_succ, e1, List.append_nil]; exact hP3⟩ (SubE.upd (Sub.int (by simp)) (zU)) (LSub.cons zS SPs.rfl (LSub.cons zS SPs.rfl (LSub.cons (A := own 75 rpair vp3 ((prN (loweredR rules) n) ++ prI (nth (loweredR rules) n) n i ++ prJ (nth (loweredR rules) n) n i j)) zS (own_eq (by rw [prJ_succ, e1, List.append_nil])) zL)))
   try simp only [NF] at h74
   obtain rfl : j = (nth (loweredR rules) n).Tables.length := by omega
   refine J_exit (J_region (Js rfl (step_add Sr Sr z6) (Jm rfl (JL_nil ?_))))
   refine K_againL (σ := Nat × Value × List (GTri × Int)) (s := (i, vp2, pat2)) (i + 1, vp3, pat3) zO ⟨by omega, by rw [prI_succ, ← List.append_assoc]; exact hP3⟩ (SubE.upd (Sub.int (by simp)) (zU)) (LSub.cons zS SPs.rfl (LSub.cons zS SPs.rfl (LSub.cons (A := own 75 rpair vp3 ((prN (loweredR rules) n) ++ prI (nth (loweredR rules) n) n i ++ prJ (nth (loweredR rules) n) n i (nth (loweredR rules) n).Tables.length)) zS (own_eq (by rw [prI_succ, List.append_assoc])) zL)))
  try simp only [NF] at h68
  obtain rfl : i = (nth (loweredR rules) n).Tables.length := by omega
  refine J_exit (J_region (Js rfl (step_add Sr Sr z6) (Jm rfl (JL_nil ?_))))
  refine K_againL (σ := Nat × Value × List (GTri × Int)) (s := (n, vp, pat)) (n + 1, vp2, pat2) zO ⟨by omega, by rw [prN_succ]; exact hP2⟩ (SubE.upd (Sub.int (by simp)) (zU)) (LSub.cons zS SPs.rfl (LSub.cons zS SPs.rfl (LSub.cons (A := own 75 rpair vp2 ((prN (loweredR rules) n) ++ prI (nth (loweredR rules) n) n (nth (loweredR rules) n).Tables.length)) zS (own_eq (prN_succ _ _).symm) zL)))
 try simp only [NF] at h60
 obtain rfl : n = (loweredR rules).length := by omega
 refine J_exit (Jr (Jm rfl (Ja rfl (JL_nil (J_ret ?_)))))
 refine K_frz2 (S := [box v18 69 rVigilW ({ zVigilW with rules := vr, pairs := vp, pairAt := .map (some v12), facts := .map (some v13), entities := .map (some v14), index := .map (some v15), violations := .map (some v16) } : GVigilW), own 59 rRule vr (loweredR rules), own 75 rpair vp (prAll (loweredR rules))]) (F := box v18 69 rVigil (GVigilW.up ({ zVigilW with rules := vr, pairs := vp, pairAt := .map (some v12), facts := .map (some v13), entities := .map (some v14), index := .map (some v15), violations := .map (some v16) } : GVigilW) (loweredR rules) (prAll (loweredR rules)))) (Sel.take (Sel.take (Sel.take (Sel.none _)))) frz_vig ?_
 refine K_lsub (LSub.trans (held_nil (F := setO) (κ := Int)) (held_nil (F := setO) (κ := Gkey))) ?_
 refine K_lsub (L' := [vB v18 (ns v12 v13 v14 v15 v16 (loweredR rules) pat), vI (ns v12 v13 v14 v15 v16 (loweredR rules) pat), vP (ns v12 v13 v14 v15 v16 (loweredR rules) pat), vF (ns v12 v13 v14 v15 v16 (loweredR rules) pat), vE (ns v12 v13 v14 v15 v16 (loweredR rules) pat), vS (ns v12 v13 v14 v15 v16 (loweredR rules) pat), vX (ns v12 v13 v14 v15 v16 (loweredR rules) pat), vV (ns v12 v13 v14 v15 v16 (loweredR rules) pat)]) zL ?_
 exact K_retv (X := { z : Nat × VS // NewR rules z.2 }) (rv := .tmp 2) rfl ⟨(v18, ns v12 v13 v14 v15 v16 (loweredR rules) pat), ⟨rfl, rfl, hP, rfl, rfl, rfl, rfl, rfl⟩⟩ (.tmp Sr) Sr
open Go Go.Proofs Go.Proofs.Tryz
def fewR (r : GRule) : Bool := decide ((r.Cols.length : Int) ≤ 12) && decide ((r.Fixed.length : Int) ≤ 12) && decide ((r.Tables.length : Int) ≤ 12) && decide ((r.Tests.length : Int) ≤ 12)
def fewV (v : GValue) : Bool := decide ((v.Text.size : Int) ≤ 300)
def fewF (f : GFact) : Bool := decide ((f.Row.length : Int) ≤ 20) && f.Row.all fewV
def fewB (rules : List GRule) (facts : List GFact) (n : Int) : Bool := (decide ((rules.length : Int) ≤ 6) && decide ((facts.length : Int) ≤ n)) && rules.all fewR && facts.all fewF
theorem Few_spec (rules : List GRule) (facts : List GFact) (n : Int) (hn : n ≤ 1000000) : Fun1 prog 28 [tSl rRule rules, tSl rFact facts, tV (.int .i64 n)] (tV (.bool (fewB rules facts n))) := by
 refine Spec.enter func28 rfl rfl fun h0 w0 fr0 => ?_
 refine Jr (Ja rfl (JL_nil (J_seq (Jr (Jm rfl ?_)))))
 refine Js rfl (step_len_sl underlying22 Sr) (Js rfl (step_gtr Sr Sr) (Jm rfl ?_))
 refine Jk rfl Sr rfl (step_move Sr) ?_
 refine Jg rfl Sr rfl (fun hw => step_len_sl underlying41 (Sub.w hw)) ?_
 refine Jk rfl Sr rfl (step_move Sr) ?_
 refine Jg rfl Sr rfl (fun hw => step_gtr (Sub.w hw) (Sub.w hw)) (Js rfl (step_pick_or Sr Sr) (JL_nil ?_))
 refine J_cond Sr (fun h18 => ?_) (fun h18 => ?_)
 ·
  try simp only [NF] at h18
  have hq : (decide ((rules.length : Int) ≤ 6) && decide ((facts.length : Int) ≤ n)) = false := Bool.eq_false_iff.2 (fun h => by simp at h; omega)
  refine Jr (Ja rfl (JL_nil (J_ret ?_)))
  refine K_ret1 (t := 6) rfl () ?_
  refine Sub.bool ?_
  simp only [fewB, hq, Bool.false_and]
 try simp only [NF] at h18
 have hrl : (rules.length : Int) ≤ 6 := h18.1
 have hfl : (facts.length : Int) ≤ n := h18.2
 have hq0 : (decide ((rules.length : Int) ≤ 6) && decide ((facts.length : Int) ≤ n)) = true := by simp only [Bool.and_eq_true, decide_eq_true_eq]; exact ⟨hrl, hfl⟩
 refine J_skip (J_seq (Jr (Ja rfl (JL_nil (J_block ?_)))))
 refine J_loopL (σ := Nat) (fun i => i ≤ rules.length ∧ rules.all fewR = (rules.drop i).all fewR) (fun i => upd (upd (upd env0 0 (tSl rRule rules)) 1 (tSl rFact facts)) 7 (tV (.int .i64 i))) (fun i => []) (fun i => rules.length - i) 0 ⟨by omega, by simp⟩ (zU) (LSub.rfl) ?_
 rintro i ⟨hi, hv⟩
 refine J_seq (Jr (Jm rfl (Jm rfl (Js rfl (step_len_sl underlying22 Sr) (Js rfl (step_lss Sr Sr) ?_)))))
 refine JL_nil ?_
 refine J_cond Sr (fun h22 => ?_) (fun h22 => ?_)
 ·
  try simp only [NF] at h22
  have hlt : i < rules.length := by omega
  have hd := dropB hlt
  refine J_skip (J_seq (J_block (Jr (Jm rfl (Jm rfl ?_)))))
  refine Js rfl (step_indexAddr_sl  underlying22 ty59 Sr Sr rfl (gb (by first | assumption | omega))) ?_
  refine Js rfl (step_fieldAddr so59 Sr rfl) (Jl rfl ty33 Sr (Js rfl (step_len_sl underlying33 Sr) (Js rfl (step_gtr Sr Sr) (Jm rfl ?_))))
  refine Jk rfl Sr rfl (step_move Sr) ?_
  refine Jk rfl Sr rfl (step_move Sr) ?_
  refine Jg rfl Sr rfl (fun hw => step_indexAddr_sl  underlying22 ty59 (Sub.w hw) (Sub.w hw) rfl (gb (by have hwq := hw; (try simp only [beqB_t, beqB_f, NF] at hwq); first | assumption | omega))) ?_
  refine Jg rfl Sr rfl (fun hw => step_fieldAddr so59 (Sub.w hw) rfl) (Jg rfl Sr rfl (fun hw => step_load_ptr ty56 (Sub.w hw)) (Jg rfl Sr rfl (fun hw => step_len_sl underlying56 (Sub.w hw)) (Jg rfl Sr rfl (fun hw => step_gtr (Sub.w hw) Sr) (Js rfl (step_pick_or Sr Sr) (Jm rfl ?_)))))
  refine Jk rfl Sr rfl (step_move Sr) ?_
  refine Jk rfl Sr rfl (step_move Sr) ?_
  refine Jg rfl Sr rfl (fun hw => step_indexAddr_sl  underlying22 ty59 (Sub.w hw) (Sub.w hw) rfl (gb (by have hwq := hw; (try simp only [beqB_t, beqB_f, NF] at hwq); first | assumption | omega))) ?_
  refine Jg rfl Sr rfl (fun hw => step_fieldAddr so59 (Sub.w hw) rfl) (Jg rfl Sr rfl (fun hw => step_load_ptr ty33 (Sub.w hw)) (Jg rfl Sr rfl (fun hw => step_len_sl underlying33 (Sub.w hw)) (Jg rfl Sr rfl (fun hw => step_gtr (Sub.w hw) Sr) (Js rfl (step_pick_or Sr Sr) (Jm rfl ?_)))))
  refine Jk rfl Sr rfl (step_move Sr) ?_
  refine Jk rfl Sr rfl (step_move Sr) ?_
  refine Jg rfl Sr rfl (fun hw => step_indexAddr_sl  underlying22 ty59 (Sub.w hw) (Sub.w hw) rfl (gb (by have hwq := hw; (try simp only [beqB_t, beqB_f, NF] at hwq); first | assumption | omega))) ?_
  refine Jg rfl Sr rfl (fun hw => step_fieldAddr so59 (Sub.w hw) rfl) (Jg rfl Sr rfl (fun hw => step_load_ptr ty57 (Sub.w hw)) (Jg rfl Sr rfl (fun hw => step_len_sl underlying57 (Sub.w hw)) (Jg rfl Sr rfl (fun hw => step_gtr (Sub.w hw) Sr) (Js rfl (step_pick_or Sr Sr) (JL_nil ?_)))))
  refine J_cond Sr (fun h58 => ?_) (fun h58 => ?_)
  ·
   try simp only [NF] at h58
   have h58 : (((12 : Int) < (nth rules i).Cols.length ∨ (12 : Int) < (nth rules i).Fixed.length) ∨ (12 : Int) < (nth rules i).Tables.length) ∨ (12 : Int) < (nth rules i).Tests.length := h58
   have hq : fewR (nth rules i) = false := Bool.eq_false_iff.2 (fun h => by simp only [fewR, Bool.and_eq_true, decide_eq_true_eq] at h; omega)
   refine Jr (Ja rfl (JL_nil (J_ret ?_)))
   refine K_ret1 (t := 6) rfl () ?_
   refine Sub.bool ?_
   simp only [fewB]; rw [hv, hd, List.all_cons, hq]; simp
  try simp only [NF] at h58
  have h58 : ((((nth rules i).Cols.length : Int) ≤ 12 ∧ ((nth rules i).Fixed.length : Int) ≤ 12) ∧ ((nth rules i).Tables.length : Int) ≤ 12) ∧ ((nth rules i).Tests.length : Int) ≤ 12 := h58
  have hq : fewR (nth rules i) = true := by simp only [fewR, Bool.and_eq_true, decide_eq_true_eq]; exact h58
  refine J_skip (J_region (Jm rfl (Js rfl (step_add Sr Sr z6) (Ja rfl (JL_nil ?_)))))
  refine K_againL (σ := Nat) (s := i) (i + 1) zO ?_ (zU) (LSub.rfl)
  refine ⟨by omega, ?_⟩
  rw [hv, hd, List.all_cons, hq, Bool.true_and]
 try simp only [NF] at h22
 have hrt : rules.all fewR = true := by rw [hv, List.drop_of_length_le zG]; rfl
 refine J_exit (J_seq (Jr (Ja rfl (JL_nil (J_block ?_)))))
 refine J_loopL (σ := Nat) (fun j => j ≤ facts.length ∧ facts.all fewF = (facts.drop j).all fewF) (fun j => upd (upd env0 1 (tSl rFact facts)) 8 (tV (.int .i64 j))) (fun j => []) (fun j => facts.length - j) 0 ⟨by omega, by simp⟩ (zU) (LSub.rfl) ?_
 rintro j ⟨hj, hw⟩
 refine J_seq (Jr (Jm rfl (Jm rfl (Js rfl (step_len_sl underlying41 Sr) (Js rfl (step_lss Sr Sr) ?_)))))
 refine JL_nil ?_
 refine J_cond Sr (fun h62 => ?_) (fun h62 => ?_)
 ·
  try simp only [NF] at h62
  have hlj : j < facts.length := by omega
  have he := dropB hlj
  refine J_skip (J_seq (J_block (J_seq (Jr (Jm rfl ?_)))))
  refine Jm rfl ?_
  refine Js rfl (step_indexAddr_sl  underlying41 ty35 Sr Sr rfl (gb (by first | assumption | omega))) ?_
  refine Js rfl (step_fieldAddr so35 Sr rfl) (Jl rfl ty32 Sr (Js rfl (step_len_sl underlying32 Sr) (Js rfl (step_gtr Sr Sr) (JL_nil ?_))))
  refine J_cond Sr (fun h71 => ?_) (fun h71 => ?_)
  ·
   try simp only [NF] at h71
   have h71 : (20 : Int) < (nth facts j).Row.length := h71
   have hq : fewF (nth facts j) = false := Bool.eq_false_iff.2 (fun h => by simp only [fewF, Bool.and_eq_true, decide_eq_true_eq] at h; omega)
   refine Jr (Ja rfl (JL_nil (J_ret ?_)))
   refine K_ret1 (t := 6) rfl () ?_
   refine Sub.bool ?_
   simp only [fewB]; rw [hw, he, List.all_cons, hq]; simp
  try simp only [NF] at h71
  have h71 : ((nth facts j).Row.length : Int) ≤ 20 := h71
  refine J_skip (Jr (Ja rfl (JL_nil (J_block ?_))))
  refine J_loopL (σ := Nat) (fun k => k ≤ (nth facts j).Row.length ∧ (nth facts j).Row.all fewV = ((nth facts j).Row.drop k).all fewV) (fun k => upd (upd (upd (upd (upd (upd (upd env0 1 (tSl rFact facts)) 8 (tV (.int .i64 j))) 9 (tV (.int .i64 k))) 59 (tV (.int .i64 j))) 60 (tSl rFact facts)) 65 (tSl rFact facts)) 66 (tV (.int .i64 j))) (fun k => []) (fun k => (nth facts j).Row.length - k) 0 ⟨by omega, by simp⟩ (zU) (LSub.rfl) ?_
  rintro k ⟨hk, hx⟩
  refine J_seq (Jr (Jm rfl (Jm rfl (Jm rfl ?_))))
  refine Js rfl (step_indexAddr_sl  underlying41 ty35 Sr Sr rfl (gb (by first | assumption | omega))) ?_
  refine Js rfl (step_fieldAddr so35 Sr rfl) (Jl rfl ty32 Sr (Js rfl (step_len_sl underlying32 Sr) (Js rfl (step_lss Sr Sr) (JL_nil ?_))))
  refine J_cond Sr (fun h79 => ?_) (fun h79 => ?_)
  ·
   try simp only [NF] at h79
   have hlk : k < (nth facts j).Row.length := by have h79 : (k : Int) < (nth facts j).Row.length := h79; omega
   have hf := dropB hlk
   refine J_skip (J_seq (J_block (Jr (Jm rfl (Jm rfl ?_)))))
   refine Js rfl (step_indexAddr_sl  underlying41 ty35 Sr Sr rfl (gb (by first | assumption | omega))) ?_
   refine Js rfl (step_fieldAddr so35 Sr rfl) (Jl rfl ty32 Sr (Jm rfl ?_))
   refine Js rfl (step_indexAddr_sl  underlying32 ty91 Sr Sr rfl (gb (by exact hlk))) ?_
   refine Js rfl (step_fieldAddr so91 Sr rfl) (Jl rfl ty9 Sr (Js rfl (step_len_str underlying9 Sr) (Js rfl (step_gtr Sr Sr) (JL_nil ?_))))
   refine J_cond Sr (fun h92 => ?_) (fun h92 => ?_)
   ·
    try simp only [NF] at h92
    have h92 : (300 : Int) < (nth (nth facts j).Row k).Text.size := h92
    have hq : fewV (nth (nth facts j).Row k) = false := Bool.eq_false_iff.2 (fun h => by simp only [fewV, decide_eq_true_eq] at h; omega)
    refine Jr (Ja rfl (JL_nil (J_ret ?_)))
    refine K_ret1 (t := 6) rfl () ?_
    refine Sub.bool ?_
    have hq2 : fewF (nth facts j) = false := by simp only [fewF]; rw [hx, hf, List.all_cons, hq]; simp
    simp only [fewB]; rw [hw, he, List.all_cons, hq2]; simp
   try simp only [NF] at h92
   have h92 : ((nth (nth facts j).Row k).Text.size : Int) ≤ 300 := h92
   have hq : fewV (nth (nth facts j).Row k) = true := by simp only [fewV, decide_eq_true_eq]; exact h92
   refine J_skip (J_region (Jm rfl (Js rfl (step_add Sr Sr z6) (Ja rfl (JL_nil ?_)))))
   refine K_againL (σ := Nat) (s := k) (k + 1) zO ?_ (zU) (LSub.rfl)
   refine ⟨by omega, ?_⟩
   rw [hx, hf, List.all_cons, hq, Bool.true_and]
  try simp only [NF] at h79
  have hrw : (nth facts j).Row.all fewV = true := by have h79 : ((nth facts j).Row.length : Int) ≤ k := h79; rw [hx, List.drop_of_length_le zG]; rfl
  refine J_exit (J_region (Jm rfl (Js rfl (step_add Sr Sr z6) (Ja rfl (JL_nil ?_)))))
  refine K_againL (σ := Nat) (s := j) (j + 1) zO ?_ (zU) (LSub.rfl)
  refine ⟨by omega, ?_⟩
  rw [hw, he, List.all_cons]
  have : fewF (nth facts j) = true := by simp only [fewF, Bool.and_eq_true, decide_eq_true_eq]; exact ⟨h71, hrw⟩
  rw [this, Bool.true_and]
 try simp only [NF] at h62
 refine J_exit (Jr (Ja rfl (JL_nil (J_ret ?_))))
 refine K_ret1 (t := 6) rfl () ?_
 refine Sub.bool ?_
 have hft : facts.all fewF = true := by rw [hw, List.drop_of_length_le zG]; rfl
 simp only [fewB, hq0, hrt, hft]; rfl
open Go Go.Proofs Go.Proofs.Tryz
abbrev Dig (l : List Int) : Prop := ∀ x ∈ l, 0 ≤ x ∧ x < 100
theorem ofBytes_inj {a b : List Int} (ha : ∀ x ∈ a, 0 ≤ x ∧ x < 256) (hb : ∀ x ∈ b, 0 ≤ x ∧ x < 256) (h : ofBytes a = ofBytes b) : a = b := by
  have key : ∀ l : List Int, (∀ x ∈ l, 0 ≤ x ∧ x < 256) → bytesOf (ofBytes l) = l := by
    intro l hl
    simp only [bytesOf, ofBytes, List.toList_toArray, List.map_map]
    refine (List.map_congr_left fun x hx => ?_).trans (List.map_id _)
    have := hl x hx
    simp only [Function.comp, id]
    have e : (UInt8.ofNat x.toNat).toNat = x.toNat := by
      rw [UInt8.toNat_ofNat']
      exact Nat.mod_eq_of_lt (by omega)
    rw [e]; omega
  rw [← key a ha, ← key b hb, h]
theorem digits_in {n : Nat} (h : n < 100) : ∀ x ∈ bytesOf (smallB n), 48 ≤ x ∧ x < 58 := by
  rw [smallB_digits n h]
  intro x hx
  split at hx
  · simp at hx; omega
  · simp at hx; omega
theorem nameL_in {l : List Int} (h : Dig l) : ∀ x ∈ nameL l, 0 ≤ x ∧ x < 256 := by
  intro x hx
  simp only [nameL, List.mem_flatMap, List.mem_append, List.mem_singleton] at hx
  obtain ⟨a, ha, hx | rfl⟩ := hx
  · have := digits_in (n := a.toNat) (by have := h a ha; omega) x hx
    omega
  · omega
theorem digits_inj {m n : Nat} (hm : m < 100) (hn : n < 100) {r s : List Int} (h : bytesOf (smallB m) ++ 32 :: r = bytesOf (smallB n) ++ 32 :: s) : m = n ∧ r = s := by
  rw [smallB_digits m hm, smallB_digits n hn] at h
  by_cases h1 : m < 10 <;> by_cases h2 : n < 10 <;> simp only [h1, h2, if_true, if_false, List.cons_append, List.nil_append, List.cons.injEq] at h
  · exact ⟨by omega, h.2.2⟩
  · omega
  · omega
  · exact ⟨by omega, h.2.2.2⟩
theorem nameL_inj : ∀ {a b : List Int}, Dig a → Dig b → nameL a = nameL b → a = b
  | [], [], _, _, _ => rfl
  | [], b :: y, _, _, h => by simp [nameL] at h
  | a :: x, [], _, _, h => by simp [nameL] at h
  | a :: x, b :: y, ha, hb, h => by
    have h' : bytesOf (smallB a.toNat) ++ 32 :: nameL x = bytesOf (smallB b.toNat) ++ 32 :: nameL y := by
      simpa [nameL] using h
    have h1 := ha a (by simp)
    have h2 := hb b (by simp)
    obtain ⟨e1, e2⟩ := digits_inj (by omega) (by omega) h'
    rw [nameL_inj (fun z hz => ha z (by simp [hz])) (fun z hz => hb z (by simp [hz])) e2]
    congr 1; omega
theorem nameB_inj {a b : List Int} (ha : Dig a) (hb : Dig b) : nameB a = nameB b ↔ a = b :=
  ⟨fun h => nameL_inj ha hb (ofBytes_inj (nameL_in ha) (nameL_in hb) h), fun h => h ▸ rfl⟩
theorem mget_known {tot : List (List Int)} (ht : ∀ s ∈ tot, Dig s) {s : List Int} (hs : Dig s) : mget (knownM tot) (nameB s) = if s ∈ tot then some s else none := by
  have h : ∀ (ys : List (List Int)) (m : KM), (∀ y ∈ ys, Dig y) → mget (ys.foldl (fun m s => mput m (nameB s) s) m) (nameB s) = if s ∈ ys then some s else mget m (nameB s) := by
    intro ys
    induction ys with
    | nil => intro m _; simp
    | cons y ys ih =>
      intro m hy
      rw [List.foldl_cons, ih _ fun z hz => hy z (by simp [hz]), mget_mput]
      by_cases h1 : s ∈ ys
      · simp [h1]
      · by_cases h2 : s = y
        · subst h2; simp [h1]
        · have : ¬ nameB s = nameB y := fun e => h2 ((nameB_inj hs (hy y (by simp))).1 e)
          simp [h1, h2, this]
  have := h tot [] ht
  simpa [knownM, mget] using this
theorem known_keys (tot : List (List Int)) : ((knownM tot).map (·.1)).Nodup := by
  have h : ∀ (ys : List (List Int)) (m : KM), (m.map (·.1)).Nodup → ((ys.foldl (fun m s => mput m (nameB s) s) m).map (·.1)).Nodup := by
    intro ys
    induction ys with
    | nil => intro m hm; exact hm
    | cons y ys ih => intro m hm; exact ih _ (mput_nodup hm _ _)
  exact h tot [] (by simp)
theorem known_vals (tot : List (List Int)) : ((knownM tot).map (·.2)).Nodup := by
  have h1 := known_keys tot
  have e : (knownM tot).map (·.1) = ((knownM tot).map (·.2)).map nameB := by
    rw [List.map_map]
    exact List.map_congr_left fun p hp => (knownM_mem p hp).2
  rw [e] at h1
  exact List.Pairwise.of_map nameB (fun a b hab hne => hab (congrArg nameB hne)) h1
theorem known_vals_iff {tot : List (List Int)} (ht : ∀ s ∈ tot, Dig s) {s : List Int} : s ∈ (knownM tot).map (·.2) ↔ s ∈ tot := by
  constructor
  · intro h
    obtain ⟨p, hp, rfl⟩ := List.mem_map.1 h
    exact (knownM_mem p hp).1
  · intro h
    have h1 := mget_known ht (ht s h)
    rw [if_pos h] at h1
    exact List.mem_map.2 ⟨_, (mget_mem (known_keys tot)).1 h1, rfl⟩
theorem sub1 {a : Int} {t : List Int} (h : t.Sublist [a]) : t = [] ∨ t = [a] := by
  rcases List.sublist_cons_iff.1 h with h | ⟨r, rfl, h'⟩
  · exact .inl (List.sublist_nil.1 h)
  · rw [List.sublist_nil.1 h']; exact .inr rfl
theorem sub2 {a b : Int} {t : List Int} (h : t.Sublist [a, b]) : t = [] ∨ t = [a] ∨ t = [b] ∨ t = [a, b] := by
  rcases List.sublist_cons_iff.1 h with h | ⟨r, rfl, h'⟩
  · rcases sub1 h with h | h <;> simp [h]
  · rcases sub1 h' with h | h <;> simp [h]
theorem sub3 {a b c : Int} {t : List Int} (h : t.Sublist [a, b, c]) : t = [] ∨ t = [a] ∨ t = [b] ∨ t = [c] ∨ t = [a, b] ∨ t = [a, c] ∨ t = [b, c] ∨ t = [a, b, c] := by
  rcases List.sublist_cons_iff.1 h with h | ⟨r, rfl, h'⟩
  · rcases sub2 h with h | h | h | h <;> simp [h]
  · rcases sub2 h' with h | h | h | h <;> simp [h]
/-- No proper part but the empty one. -/
def Least (tot : List (List Int)) (s : List Int) : Prop := ∀ t, t.Sublist s → t ≠ [] → t ≠ s → t ∉ tot
theorem isNone_known {tot : List (List Int)} (ht : ∀ s ∈ tot, Dig s) {s : List Int} (hs : Dig s) : (mget (knownM tot) (nameB s)).isNone = true ↔ s ∉ tot := by
  rw [mget_known ht hs]
  by_cases h : s ∈ tot <;> simp [h]
theorem part2 (a b : Int) : partT 1 [a, b] 2 = [a] ∧ partT 2 [a, b] 2 = [b] := ⟨rfl, rfl⟩
theorem part3 (a b c : Int) : partT 1 [a, b, c] 3 = [a] ∧ partT 2 [a, b, c] 3 = [b] ∧ partT 3 [a, b, c] 3 = [a, b] ∧ partT 4 [a, b, c] 3 = [c] ∧ partT 5 [a, b, c] 3 = [a, c] ∧ partT 6 [a, b, c] 3 = [b, c] := ⟨rfl, rfl, rfl, rfl, rfl, rfl⟩
theorem minOk_iff {tot : List (List Int)} (ht : ∀ s ∈ tot, Dig s) {s : List Int} (hs : Dig s) (hl : s.length ≤ 3) : minOk (knownM tot) s = true ↔ Least tot s := by
  have key : ∀ k, okN (knownM tot) s k = true ↔ ∀ b, b < k → partT (b + 1) s s.length ∉ tot := by
    intro k
    simp only [okN, List.all_eq_true, List.mem_range]
    refine forall_congr' fun b => forall_congr' fun _ => ?_
    exact isNone_known ht fun x hx => hs x (partT_mem (Nat.le_refl _) x hx)
  rw [minOk, key]
  match s, hl with
  | [], _ =>
    constructor
    · intro _ t h1 h2; exact absurd (List.sublist_nil.1 h1) h2
    · intro _ b hb; simp at hb
  | [a], _ =>
    constructor
    · intro _ t h1 h2 h3
      rcases sub1 h1 with h | h <;> contradiction
    · intro _ b hb; simp at hb
  | [a, b], _ =>
    obtain ⟨e1, e2⟩ := part2 a b
    constructor
    · intro h t h1 h2 h3
      have q0 := h 0 (by simp)
      have q1 := h 1 (by simp)
      have q0 : partT 1 [a, b] 2 ∉ tot := q0
      have q1 : partT 2 [a, b] 2 ∉ tot := q1
      rw [e1] at q0; rw [e2] at q1
      rcases sub2 h1 with e | e | e | e
      · exact absurd e h2
      · subst e; exact q0
      · subst e; exact q1
      · exact absurd e h3
    · intro h k hk
      have hk : k < 2 := by simpa using hk
      have : k = 0 ∨ k = 1 := by omega
      rcases this with rfl | rfl
      · show partT 1 [a, b] 2 ∉ tot; rw [e1]; exact h [a] (by simp) (by simp) (by simp)
      · show partT 2 [a, b] 2 ∉ tot; rw [e2]; exact h [b] (by simp) (by simp) (by simp)
  | [a, b, c], _ =>
    obtain ⟨e1, e2, e3, e4, e5, e6⟩ := part3 a b c
    constructor
    · intro h t h1 h2 h3
      have q0 : partT 1 [a, b, c] 3 ∉ tot := h 0 (by simp)
      have q1 : partT 2 [a, b, c] 3 ∉ tot := h 1 (by simp)
      have q2 : partT 3 [a, b, c] 3 ∉ tot := h 2 (by simp)
      have q3 : partT 4 [a, b, c] 3 ∉ tot := h 3 (by simp)
      have q4 : partT 5 [a, b, c] 3 ∉ tot := h 4 (by simp)
      have q5 : partT 6 [a, b, c] 3 ∉ tot := h 5 (by simp)
      rw [e1] at q0; rw [e2] at q1; rw [e3] at q2; rw [e4] at q3; rw [e5] at q4; rw [e6] at q5
      rcases sub3 h1 with e | e | e | e | e | e | e | e
      · exact absurd e h2
      · subst e; exact q0
      · subst e; exact q1
      · subst e; exact q3
      · subst e; exact q2
      · subst e; exact q4
      · subst e; exact q5
      · exact absurd e h3
    · intro h k hk
      have hk : k < 6 := by simpa using hk
      have : k = 0 ∨ k = 1 ∨ k = 2 ∨ k = 3 ∨ k = 4 ∨ k = 5 := by omega
      rcases this with rfl | rfl | rfl | rfl | rfl | rfl
      · show partT 1 [a, b, c] 3 ∉ tot; rw [e1]; exact h [a] (by simp) (by simp) (by simp)
      · show partT 2 [a, b, c] 3 ∉ tot; rw [e2]; exact h [b] (by simp) (by simp) (by simp)
      · show partT 3 [a, b, c] 3 ∉ tot; rw [e3]; exact h [a, b] (by simp) (by simp) (by simp)
      · show partT 4 [a, b, c] 3 ∉ tot; rw [e4]; exact h [c] (by simp) (by simp) (by simp)
      · show partT 5 [a, b, c] 3 ∉ tot; rw [e5]; exact h [a, c] (by simp) (by simp) (by simp)
      · show partT 6 [a, b, c] 3 ∉ tot; rw [e6]; exact h [b, c] (by simp) (by simp) (by simp)
  | _ :: _ :: _ :: _ :: _, hl => simp at hl
abbrev Okt (tot : List (List Int)) : Prop := ∀ s ∈ tot, s.length ≤ 3 ∧ Dig s
theorem minM_iff {tot : List (List Int)} (ht : Okt tot) {s : List Int} : s ∈ minM tot ↔ s ∈ tot ∧ Least tot s := by
  have hd : ∀ s ∈ tot, Dig s := fun s hs => (ht s hs).2
  rw [minM, (sortL_perm _).mem_iff, minL, List.mem_filter, known_vals_iff hd]
  constructor
  · rintro ⟨h1, h2⟩; exact ⟨h1, (minOk_iff hd (ht s h1).2 (ht s h1).1).1 h2⟩
  · rintro ⟨h1, h2⟩; exact ⟨h1, (minOk_iff hd (ht s h1).2 (ht s h1).1).2 h2⟩
theorem minM_nodup (tot : List (List Int)) : (minM tot).Nodup := by
  rw [minM, (sortL_perm _).nodup_iff]
  exact (known_vals tot).filter _
abbrev Strict (l : List (List Int)) : Prop := l.Pairwise fun a b => cmpL a b < 0
theorem minM_strict (tot : List (List Int)) : Strict (minM tot) := by
  have h1 := sortL_sorted (minL (knownM tot))
  have h2 := minM_nodup tot
  have := h1.and h2
  refine this.imp ?_
  rintro a b ⟨h3, h4⟩
  simp only [ltOf, decide_eq_false_iff_not] at h3
  have := cmpL_anti a b
  have h5 : cmpL a b ≠ 0 := fun e => h4 (cmpL_zero a b e)
  omega
theorem cmpL_self (a : List Int) : cmpL a a = 0 := by have := cmpL_anti a a; omega
theorem Strict.nodup {l : List (List Int)} (h : Strict l) : l.Nodup := h.imp fun {a b} hab e => by subst e; rw [cmpL_self] at hab; omega
theorem strict_ext {l m : List (List Int)} (hl : Strict l) (hm : Strict m) (h : ∀ s, s ∈ l ↔ s ∈ m) : l = m := by
  refine sortedL_unique ((List.perm_ext_iff_of_nodup hl.nodup hm.nodup).2 h) (hl.imp fun {a b} hab => ?_) (hm.imp fun {a b} hab => ?_)
  all_goals
    have := cmpL_anti a b
    simp only [ltOf, decide_eq_false_iff_not]
    omega
theorem ltL_iff : ∀ a b : List Int, ltL a b = true ↔ cmpL a b < 0
  | [], [] => by simp [ltL, cmpL]
  | [], _ :: _ => by simp [ltL, cmpL]
  | _ :: _, [] => by simp [ltL, cmpL]
  | a :: x, b :: y => by
    have ih := ltL_iff x y
    have e : cmpL (a :: x) (b :: y) = if ordI a b = 0 then cmpL x y else ordI a b := rfl
    have e' : ltL (a :: x) (b :: y) = if a = b then ltL x y else decide (a < b) := rfl
    rw [e, e']
    by_cases h : a = b
    · subst h
      rw [if_pos rfl, if_pos (ordI_zero.2 rfl), ih]
    · rw [if_neg h, if_neg (fun e => h (ordI_zero.1 e)), decide_eq_true_eq]
      unfold ordI
      by_cases h1 : a < b
      · simp [h1]
      · have : b < a := by omega
        simp [h1, this]
theorem ltL_cmp (a b : List Int) : ltL a b = decide (cmpL a b < 0) := by
  rw [Bool.eq_iff_iff, ltL_iff, decide_eq_true_eq]
theorem intsB_iff {a b : List Int} : intsB a b = true ↔ a = b := by
  simp only [intsB, ltL_cmp, Bool.and_eq_true, Bool.not_eq_true', decide_eq_false_iff_not]
  constructor
  · rintro ⟨h1, h2⟩
    have := cmpL_anti a b
    exact cmpL_zero a b (by omega)
  · rintro rfl; rw [cmpL_self]; omega
theorem setsB_iff : ∀ {a b : List (List Int)}, setsB a b = true ↔ a = b
  | [], [] => by simp [setsB]
  | [], _ :: _ => by simp [setsB]
  | _ :: _, [] => by simp [setsB]
  | x :: a, y :: b => by simp only [setsB, Bool.and_eq_true, intsB_iff, setsB_iff, List.cons.injEq]
theorem exists_least {tot : List (List Int)} : ∀ (n : Nat) {s : List Int}, s.length ≤ n → s ∈ tot → s ≠ [] → ∃ t ∈ tot, t ≠ [] ∧ t.Sublist s ∧ Least tot t
  | 0, s, hl, _, hne => absurd (List.eq_nil_of_length_eq_zero (by omega)) hne
  | n + 1, s, hl, hs, hne => by
    by_cases h : Least tot s
    · exact ⟨s, hs, hne, List.Sublist.refl _, h⟩
    · simp only [Least] at h
      have : ∃ t, t.Sublist s ∧ t ≠ [] ∧ t ≠ s ∧ t ∈ tot := Classical.byContradiction fun hn => h fun t h1 h2 h3 h4 => hn ⟨t, h1, h2, h3, h4⟩
      obtain ⟨t, h1, h2, h3, h4⟩ := this
      have hlt : t.length < s.length := by
        rcases Nat.lt_or_ge t.length s.length with q | q
        · exact q
        · exact absurd (h1.eq_of_length_le q) h3
      obtain ⟨u, q1, q2, q3, q4⟩ := exists_least n (by omega) h4 h2
      exact ⟨u, q1, q2, q3.trans h1, q4⟩
/-- Each set of the list has a least one in it. -/
theorem minM_below {tot : List (List Int)} (ht : Okt tot) {s : List Int} (hs : s ∈ tot) (hne : s ≠ []) : ∃ t ∈ minM tot, t.Sublist s := by
  obtain ⟨t, h1, _, h3, h4⟩ := exists_least s.length (Nat.le_refl _) hs hne
  exact ⟨t, (minM_iff ht).2 ⟨h1, h4⟩, h3⟩
theorem iota_mem {n : Nat} {x : Int} (h : x ∈ iota n) : 0 ≤ x ∧ x < n := iota_InB n x h
theorem mem_nth {α : Type} [Inhabited α] {l : List α} {x : α} (h : x ∈ l) : ∃ i, i < l.length ∧ nth l i = x := by
  obtain ⟨i, hi, e⟩ := List.getElem_of_mem h
  exact ⟨i, hi, by rw [nth_get hi]; exact e⟩
theorem lowerR_deny {r d : GRule} (h : d ∈ lowerR r) : d.Kind = 4 ∧ (d.Cols.length ≤ r.Cols.length ∧ d.Fixed.length ≤ r.Fixed.length ∧ d.Tests.length ≤ r.Tests.length + 2 * r.Fixed.length + r.Cols.length + 1) := by
  unfold lowerR at h
  split at h
  · rw [List.mem_singleton.1 h]; omega
  · split at h
    · rw [List.mem_singleton.1 h]
      have := preT_len r
      refine ⟨rfl, by simp [zRule], by simp [zRule], ?_⟩
      simp only [lowT, List.length_append, List.length_map]
      split <;> simp <;> omega
    · cases h
structure VHyp (rules : List GRule) (facts : List GFact) : Prop where
  fl : facts.length ≤ 100
  rl : rules.length ≤ 1000000
  ru : InRules rules
  hw : ∀ s ∈ (wits rules facts (iota facts.length)), s.length ≤ 3 ∧ ∀ x ∈ s, 0 ≤ x ∧ x < 100
  hwl : (wits rules facts (iota facts.length)).length ≤ 20000
theorem minM_mem {tot : List (List Int)} {s : List Int} (h : s ∈ minM tot) : s ∈ tot := by
  have h1 := (sortL_perm _).mem_iff.1 h
  simp only [minL, List.mem_filter, List.mem_map] at h1
  obtain ⟨⟨p, hp, rfl⟩, _⟩ := h1
  exact (knownM_mem p hp).1
theorem minM_len (tot : List (List Int)) : (minM tot).length ≤ tot.length := by
  unfold minM
  rw [(sortL_perm _).length_eq]
  refine Nat.le_trans (List.length_filter_le _ _) ?_
  rw [List.length_map]
  exact knownM_len tot
theorem isSetFrom_InB {n : Int} : ∀ {l : List Int} {p : Int}, isSetFrom n p l = true → ∀ a ∈ l, 0 ≤ a ∧ a < n
  | [], _, _, a, h => by cases h
  | b :: l, p, h, a, ha => by
    simp only [isSetFrom, Bool.and_eq_true, decide_eq_true_eq] at h
    rcases List.mem_cons.1 ha with rfl | ha
    · exact ⟨h.1.1.1, h.1.1.2⟩
    · exact isSetFrom_InB h.2 a ha
abbrev Srt (l : List Int) : Prop := l.Pairwise fun a b => a < b
/-- The assignments that asg walks through. -/
def path (d : GRule) (facts : List GFact) (cands : List Int) : Nat → List Int → List Int → Prop
  | 0, at_, at' => at' = at_
  | n + 1, at_, at' => ∃ c ∈ cands, cand d facts at_ c = true ∧ path d facts cands n (at_ ++ [c]) at'
theorem asg_mem {d : GRule} {facts : List GFact} {cands : List Int} : ∀ {n : Nat} {at_ s : List Int}, s ∈ asg d facts cands n at_ ↔ ∃ at', path d facts cands n at_ at' ∧ sortI at' = s
  | 0, at_, s => by simp [asg, path, eq_comm]
  | n + 1, at_, s => by
    simp only [asg, List.mem_flatMap, path]
    constructor
    · rintro ⟨c, hc, hs⟩
      split at hs
      · obtain ⟨at', h1, h2⟩ := asg_mem.1 hs
        exact ⟨at', ⟨c, hc, ‹_›, h1⟩, h2⟩
      · cases hs
    · rintro ⟨at', ⟨c, hc, hd, h1⟩, h2⟩
      refine ⟨c, hc, ?_⟩
      rw [if_pos hd]
      exact asg_mem.2 ⟨at', h1, h2⟩
theorem cand_new {d : GRule} {facts : List GFact} {at_ : List Int} {c : Int} (h : cand d facts at_ c = true) : c ∉ at_ := by
  simp only [cand, Bool.and_eq_true, Bool.not_eq_true'] at h
  have := h.1.2
  intro hc
  rw [List.contains_iff_mem.2 hc] at this
  cases this
theorem path_props {d : GRule} {facts : List GFact} {cands : List Int} : ∀ {n : Nat} {at_ at' : List Int}, path d facts cands n at_ at' → at_ <+: at' ∧ at'.length = at_.length + n ∧ (∀ x ∈ at', x ∈ at_ ∨ x ∈ cands) ∧ (at_.Nodup → at'.Nodup)
  | 0, at_, at', h => by
    have h : at' = at_ := h
    subst h
    exact ⟨List.prefix_refl _, rfl, fun x hx => .inl hx, id⟩
  | n + 1, at_, at', h => by
    obtain ⟨c, hc, hd, h1⟩ := h
    obtain ⟨i1, i2, i3, i4⟩ := path_props h1
    refine ⟨(List.prefix_append _ _).trans i1, by rw [i2]; simp; omega, fun x hx => ?_, fun hn => i4 ?_⟩
    · rcases i3 x hx with h | h
      · rcases List.mem_append.1 h with h | h
        · exact .inl h
        · rw [List.mem_singleton.1 h]; exact .inr hc
      · exact .inr h
    · refine List.nodup_append.2 ⟨hn, by simp, ?_⟩
      intro a ha b hb e
      rw [List.mem_singleton.1 hb] at e
      exact cand_new hd (e ▸ ha)
theorem path_sub {d : GRule} {facts : List GFact} {cands cands2 : List Int} : ∀ {n : Nat} {at_ at' : List Int}, path d facts cands n at_ at' → (∀ x ∈ at', x ∈ at_ ∨ x ∈ cands2) → path d facts cands2 n at_ at'
  | 0, at_, at', h, _ => h
  | n + 1, at_, at', h, hs => by
    obtain ⟨c, hc, hd, h1⟩ := h
    have hp := (path_props h1).1
    have hca : c ∈ at' := hp.subset (by simp)
    have hc2 : c ∈ cands2 := by
      rcases hs c hca with h | h
      · exact absurd h (cand_new hd)
      · exact h
    refine ⟨c, hc2, hd, path_sub h1 fun x hx => ?_⟩
    rcases hs x hx with h | h
    · exact .inl (List.mem_append_left _ h)
    · exact .inr h
theorem excl_mem {facts : List GFact} : ∀ {cs done : List Int} {s : List Int}, s ∈ excl facts done cs ↔ ∃ p c q b, cs = p ++ c :: q ∧ b ∈ done ++ p ∧ ent facts b = ent facts c ∧ exP facts b c = true ∧ s = [b, c]
  | [], done, s => by simp [excl]
  | c :: cs, done, s => by
    rw [excl, List.mem_append, excl_mem]
    constructor
    · rintro (h | ⟨p, c', q, b, e, hb, h1, h2, h3⟩)
      · simp only [exRow, exOf, List.mem_map, List.mem_filter, decide_eq_true_eq] at h
        obtain ⟨b, ⟨⟨h1, h2⟩, h3⟩, rfl⟩ := h
        exact ⟨[], c, cs, b, rfl, by simpa using h1, h2, h3, rfl⟩
      · subst e
        exact ⟨c :: p, c', q, b, rfl, by simpa [List.append_assoc] using hb, h1, h2, h3⟩
    · rintro ⟨p, c', q, b, e, hb, h1, h2, h3⟩
      cases p with
      | nil =>
        simp only [List.nil_append, List.cons.injEq] at e
        obtain ⟨rfl, rfl⟩ := e
        left
        simp only [exRow, exOf, List.mem_map, List.mem_filter, decide_eq_true_eq]
        exact ⟨b, ⟨⟨by simpa using hb, h1⟩, h2⟩, h3.symm⟩
      | cons a p =>
        simp only [List.cons_append, List.cons.injEq] at e
        obtain ⟨rfl, rfl⟩ := e
        right
        exact ⟨p, c', q, b, rfl, by simpa [List.append_assoc] using hb, h1, h2, h3⟩
theorem excl_sorted {facts : List GFact} {cs : List Int} (hs : Srt cs) {s : List Int} : s ∈ excl facts [] cs ↔ ∃ b c, b ∈ cs ∧ c ∈ cs ∧ b < c ∧ ent facts b = ent facts c ∧ exP facts b c = true ∧ s = [b, c] := by
  rw [excl_mem]
  constructor
  · rintro ⟨p, c, q, b, rfl, hb, h1, h2, h3⟩
    rw [List.nil_append] at hb
    refine ⟨b, c, List.mem_append_left _ hb, by simp, ?_, h1, h2, h3⟩
    exact (List.pairwise_append.1 hs).2.2 b hb c (by simp)
  · rintro ⟨b, c, hb, hc, hlt, h1, h2, h3⟩
    obtain ⟨p, q, rfl⟩ := List.append_of_mem hc
    refine ⟨p, c, q, b, rfl, ?_, h1, h2, h3⟩
    rw [List.nil_append]
    rcases List.mem_append.1 hb with h | h
    · exact h
    · exfalso
      rcases List.mem_cons.1 h with h | h
      · omega
      · have := (List.pairwise_cons.1 (List.pairwise_append.1 hs).2.1).1 b h
        omega
theorem wits_iff {rules : List GRule} {facts : List GFact} {cs : List Int} (hs : Srt cs) {s : List Int} : s ∈ wits rules facts cs ↔
    (∃ b c, b ∈ cs ∧ c ∈ cs ∧ b < c ∧ ent facts b = ent facts c ∧ exP facts b c = true ∧ s = [b, c]) ∨ ∃ d ∈ loweredR rules, ∃ at', path d facts cs d.Tables.length [] at' ∧ sortI at' = s := by
  rw [wits, List.mem_append, excl_sorted hs, List.mem_flatMap]
  simp only [asgs, asg_mem]
theorem sortI_perm (l : List Int) : (sortI l).Perm l := List.mergeSort_perm _ _
theorem sortI_mem {l : List Int} {x : Int} : x ∈ sortI l ↔ x ∈ l := (sortI_perm l).mem_iff
theorem sortI_le (l : List Int) : (sortI l).Pairwise fun a b => a ≤ b := by
  have := List.pairwise_mergeSort (le := fun a b : Int => decide (a ≤ b)) (fun a b c h1 h2 => by simp only [decide_eq_true_eq] at *; omega) (fun a b => by simp only [Bool.or_eq_true, decide_eq_true_eq]; omega) l
  exact this.imp fun h => by simpa using h
theorem sortI_srt {l : List Int} (h : l.Nodup) : Srt (sortI l) := by
  have h1 := sortI_le l
  have h2 : (sortI l).Nodup := (sortI_perm l).nodup_iff.2 h
  exact (h1.and h2).imp fun {a b} h => by have := h.1; have := h.2; omega
theorem srt_unique : ∀ {l m : List Int}, l.Perm m → l.Pairwise (fun a b => a ≤ b) → m.Pairwise (fun a b => a ≤ b) → l = m
  | [], m, hp, _, _ => (List.nil_perm.1 hp).symm ▸ rfl
  | a :: l, [], hp, _, _ => absurd hp.length_eq (by simp)
  | a :: l, b :: m, hp, h1, h2 => by
    have h1' := List.pairwise_cons.1 h1
    have h2' := List.pairwise_cons.1 h2
    have e : a = b := by
      rcases List.mem_cons.1 (hp.mem_iff.1 (by simp : a ∈ a :: l)) with e | ha
      · exact e
      rcases List.mem_cons.1 (hp.mem_iff.2 (by simp : b ∈ b :: m)) with e | hb
      · exact e.symm
      have := h2'.1 a ha
      have := h1'.1 b hb
      omega
    subst e
    rw [srt_unique hp.cons_inv h1'.2 h2'.2]
theorem sortI_eq {l m : List Int} (hp : l.Perm m) (hm : m.Pairwise fun a b => a ≤ b) : sortI l = m := srt_unique ((sortI_perm l).trans hp) (sortI_le l) hm
theorem loweredR_tab {rules : List GRule} {d : GRule} (h : d ∈ loweredR rules) : 0 < d.Tables.length ∧ d.Tables.length ≤ 3 := by
  obtain ⟨r, _, hr⟩ := List.mem_flatMap.1 h
  have := (List.mem_filter.1 hr).2
  simp only [okD3, Bool.and_eq_true, decide_eq_true_eq] at this
  omega
theorem wits_ok {rules : List GRule} {facts : List GFact} {cs : List Int} (hs : Srt cs) {s : List Int} (h : s ∈ wits rules facts cs) : s ≠ [] ∧ s.length ≤ 3 ∧ Srt s ∧ ∀ x ∈ s, x ∈ cs := by
  rcases (wits_iff hs).1 h with ⟨b, c, hb, hc, hlt, _, _, rfl⟩ | ⟨d, hd, at', hp, rfl⟩
  · refine ⟨by simp, by simp, by simpa using hlt, ?_⟩
    intro x hx
    simp only [List.mem_cons, List.not_mem_nil, or_false] at hx
    rcases hx with rfl | rfl <;> assumption
  · obtain ⟨_, h2, h3, h4⟩ := path_props hp
    have ht := loweredR_tab hd
    have hl := sortI_len at'
    refine ⟨fun e => ?_, by rw [hl, h2]; simp; omega, sortI_srt (h4 (by simp)), fun x hx => ?_⟩
    · rw [e] at hl; simp at hl h2; omega
    · rcases h3 x (sortI_mem.1 hx) with h | h
      · cases h
      · exact h
/-- The witnesses in a part of the candidates are those that lie in it. -/
theorem wits_sub {rules : List GRule} {facts : List GFact} {cs cs2 : List Int} (hs : Srt cs) (hs2 : Srt cs2) (hsub : ∀ x ∈ cs2, x ∈ cs) {s : List Int} : s ∈ wits rules facts cs2 ↔ s ∈ wits rules facts cs ∧ ∀ x ∈ s, x ∈ cs2 := by
  constructor
  · intro h
    refine ⟨?_, (wits_ok hs2 h).2.2.2⟩
    rcases (wits_iff hs2).1 h with ⟨b, c, hb, hc, q⟩ | ⟨d, hd, at', hp, e⟩
    · exact (wits_iff hs).2 (.inl ⟨b, c, hsub b hb, hsub c hc, q⟩)
    · refine (wits_iff hs).2 (.inr ⟨d, hd, at', path_sub hp fun x hx => ?_, e⟩)
      rcases (path_props hp).2.2.1 x hx with h | h
      · exact .inl h
      · exact .inr (hsub x h)
  · rintro ⟨h, hin⟩
    rcases (wits_iff hs).1 h with ⟨b, c, hb, hc, h1, h2, h3, rfl⟩ | ⟨d, hd, at', hp, rfl⟩
    · exact (wits_iff hs2).2 (.inl ⟨b, c, hin b (by simp), hin c (by simp), h1, h2, h3, rfl⟩)
    · exact (wits_iff hs2).2 (.inr ⟨d, hd, at', path_sub hp fun x hx => .inr (hin x (sortI_mem.2 hx)), rfl⟩)
theorem iota_srt (n : Nat) : Srt (iota n) := by
  unfold iota
  refine List.Pairwise.map _ (fun a b h => ?_) List.pairwise_lt_range
  exact_mod_cast h
theorem iota_mem_iff {n : Nat} {x : Int} : x ∈ iota n ↔ 0 ≤ x ∧ x < n := by
  constructor
  · exact iota_mem
  · rintro ⟨h1, h2⟩
    exact List.mem_map.2 ⟨x.toNat, List.mem_range.2 (by omega), by omega⟩
theorem isSetFrom_iff {n : Int} : ∀ {l : List Int} {p : Int}, isSetFrom n p l = true ↔ Srt (p :: l) ∧ ∀ x ∈ l, 0 ≤ x ∧ x < n
  | [], p => by simp [isSetFrom]
  | a :: l, p => by
    simp only [isSetFrom, Bool.and_eq_true, decide_eq_true_eq, isSetFrom_iff]
    constructor
    · rintro ⟨⟨⟨h1, h2⟩, h3⟩, h4, h5⟩
      refine ⟨List.pairwise_cons.2 ⟨fun x hx => ?_, h4⟩, fun x hx => ?_⟩
      · rcases List.mem_cons.1 hx with rfl | hx
        · exact h3
        · have := (List.pairwise_cons.1 h4).1 x hx; omega
      · rcases List.mem_cons.1 hx with rfl | hx
        · exact ⟨h1, h2⟩
        · exact h5 x hx
    · rintro ⟨h1, h2⟩
      have h1' := List.pairwise_cons.1 h1
      exact ⟨⟨h2 a (by simp), h1'.1 a (by simp)⟩, h1'.2, fun x hx => h2 x (by simp [hx])⟩
theorem isSet_iff {n : Nat} {l : List Int} : isSet l n = true ↔ Srt l ∧ ∀ x ∈ l, 0 ≤ x ∧ x < n := by
  rw [isSet, isSetFrom_iff]
  constructor
  · rintro ⟨h1, h2⟩; exact ⟨(List.pairwise_cons.1 h1).2, h2⟩
  · rintro ⟨h1, h2⟩; exact ⟨List.pairwise_cons.2 ⟨fun x hx => by have := h2 x hx; omega, h1⟩, h2⟩
abbrev allW (rules : List GRule) (facts : List GFact) : List (List Int) := wits rules facts (iota facts.length)
theorem excl_len (facts : List GFact) : ∀ (cs done : List Int), (excl facts done cs).length ≤ (done.length + cs.length) * cs.length
  | [], done => by simp [excl]
  | c :: cs, done => by
    have ih := excl_len facts cs (done ++ [c])
    have h1 : (exRow facts c (exOf facts done c)).length ≤ done.length := by
      rw [exRow, List.length_map]
      exact Nat.le_trans (List.length_filter_le _ _) (List.length_filter_le _ _)
    rw [excl, List.length_append]
    simp only [List.length_append, List.length_cons, List.length_nil] at ih ⊢
    have e1 : (done.length + (0 + 1) + cs.length) * cs.length + (done.length + (cs.length + 1)) = (done.length + (cs.length + 1)) * (cs.length + 1) := by
      rw [Nat.mul_succ, show done.length + (0 + 1) + cs.length = done.length + (cs.length + 1) by omega]
    omega
theorem flat_len {α β : Type} (f : α → List β) (k : Nat) : ∀ (l : List α), (∀ x ∈ l, (f x).length ≤ k) → (l.flatMap f).length ≤ l.length * k
  | [], _ => by simp
  | a :: l, h => by
    have ih := flat_len f k l fun x hx => h x (by simp [hx])
    have := h a (by simp)
    rw [List.flatMap_cons, List.length_append, List.length_cons, Nat.succ_mul]
    omega
theorem asg_len (d : GRule) (facts : List GFact) (cands : List Int) : ∀ (n : Nat) (at_ : List Int), (asg d facts cands n at_).length ≤ cands.length ^ n
  | 0, at_ => by simp [asg]
  | n + 1, at_ => by
    rw [asg, Nat.pow_succ, Nat.mul_comm]
    refine flat_len _ _ _ fun c hc => ?_
    split
    · exact asg_len d facts cands n _
    · simp
/-- What Few leaves. -/
structure FewP (rules : List GRule) (facts : List GFact) : Prop where
  rl : rules.length ≤ 6
  fl : facts.length ≤ 12
  rr : ∀ r ∈ rules, r.Cols.length ≤ 12 ∧ r.Fixed.length ≤ 12 ∧ r.Tables.length ≤ 12 ∧ r.Tests.length ≤ 12
theorem FewP.of {rules : List GRule} {facts : List GFact} (h : fewB rules facts 12 = true) : FewP rules facts := by
  simp only [fewB, Bool.and_eq_true, decide_eq_true_eq, List.all_eq_true, fewR] at h
  refine ⟨by omega, by omega, fun r hr => ?_⟩
  have := h.1.2 r hr
  omega
theorem VHyp.of {rules : List GRule} {facts : List GFact} (hr : rules.length ≤ 6) (hf : facts.length ≤ 12) (hq : ∀ r ∈ rules, r.Cols.length ≤ 30 ∧ r.Fixed.length ≤ 30 ∧ r.Tests.length ≤ 60) : VHyp rules facts where
  fl := by omega
  rl := by omega
  ru := ⟨by omega, fun r h => by have := hq r h; omega, fun r h => by have := hq r h; omega⟩
  hw := fun s hs => by
    obtain ⟨_, h1, _, h2⟩ := wits_ok (iota_srt _) hs
    exact ⟨h1, fun x hx => by have := iota_mem (h2 x hx); omega⟩
  hwl := by
    have h1 := excl_len facts (iota facts.length) []
    have hl : (iota facts.length).length = facts.length := by simp [iota]
    rw [hl] at h1
    have h2 : ((loweredR rules).flatMap fun d => asgs d facts (iota facts.length)).length ≤ (loweredR rules).length * 1728 := by
      refine flat_len _ _ _ fun d hd => ?_
      have h3 := asg_len d facts (iota facts.length) d.Tables.length []
      rw [hl] at h3
      have h4 := loweredR_tab hd
      have h5 : facts.length ^ d.Tables.length ≤ 12 ^ d.Tables.length := Nat.pow_le_pow_left hf _
      have h6 : 12 ^ d.Tables.length ≤ 12 ^ 3 := Nat.pow_le_pow_right (by omega) h4.2
      have h7 : (12 : Nat) ^ 3 = 1728 := by decide
      show (asg d facts (iota facts.length) d.Tables.length []).length ≤ 1728
      omega
    have h3 := loweredR_len rules
    have h4 : facts.length * facts.length ≤ 12 * 12 := Nat.mul_le_mul hf hf
    simp only [List.length_nil, Nat.zero_add] at h1
    rw [wits, List.length_append]
    have h5 : (loweredR rules).length * 1728 ≤ 6 * 1728 := Nat.mul_le_mul_right _ (by omega)
    omega
theorem srt_sub : ∀ {s t : List Int}, Srt s → Srt t → (∀ x ∈ s, x ∈ t) → s.Sublist t
  | [], t, _, _, _ => List.nil_sublist t
  | a :: s, [], _, _, h => absurd (h a (by simp)) (by simp)
  | a :: s, b :: t, hs, ht, h => by
    have hs' := List.pairwise_cons.1 hs
    have ht' := List.pairwise_cons.1 ht
    by_cases e : a = b
    · subst e
      refine (srt_sub hs'.2 ht'.2 fun x hx => ?_).cons_cons a
      rcases List.mem_cons.1 (h x (by simp [hx])) with q | q
      · have := hs'.1 x hx; omega
      · exact q
    · refine (srt_sub hs ht'.2 fun x hx => ?_).cons b
      have ha : a ∈ t := by
        rcases List.mem_cons.1 (h a (by simp)) with q | q
        · exact absurd q e
        · exact q
      have hab := ht'.1 a ha
      rcases List.mem_cons.1 (h x hx) with q | q
      · rcases List.mem_cons.1 hx with q2 | q2
        · omega
        · have := hs'.1 x q2; omega
      · exact q
theorem okt_all {rules : List GRule} {facts : List GFact} (H : VHyp rules facts) : Okt (allW rules facts) := H.hw
theorem vio_w {rules : List GRule} {facts : List GFact} (H : VHyp rules facts) {v : List Int} (h : v ∈ vioM rules facts) : v ∈ allW rules facts ∧ v ≠ [] ∧ v.length ≤ 3 ∧ Srt v ∧ ∀ x ∈ v, 0 ≤ x ∧ x < (facts.length : Int) := by
  have h1 := minM_mem h
  obtain ⟨a, b, c, d⟩ := wits_ok (iota_srt _) h1
  exact ⟨h1, a, b, c, fun x hx => iota_mem (d x hx)⟩
open Go Go.Proofs Go.Proofs.Tryz
def validR (v : GValue) : Bool :=
  if v.Kind = 0 then decide (v.N = 0) && decide (v.Text = ⟨#[]⟩)
  else if v.Kind = 1 then decide (v.N = 0) && decide ((v.Text.size : Int) ≤ 200)
  else if v.Kind = 2 then (decide (v.N ≥ -1000000000) && decide (v.N ≤ 1000000000)) && decide (v.Text = ⟨#[]⟩)
  else if v.Kind = 3 then (decide (v.N ≥ 0) && decide (v.N ≤ 73048)) && decide (v.Text = ⟨#[]⟩)
  else if v.Kind = 4 then (decide (v.N = 0) || decide (v.N = 1)) && decide (v.Text = ⟨#[]⟩)
  else false
theorem validR_eq (v : GValue) : validR v = validV v := by
  unfold validR validV
  by_cases ht : v.Text = ⟨#[]⟩
  · have hs : v.Text.size = 0 := by rw [ht]; rfl
    have h1 : ¬ (v.Kind ≠ 1 ∧ v.Text ≠ ⟨#[]⟩) := fun q => q.2 ht
    have h2 : ¬ ((200 : Int) < (v.Text.size : Int)) := by omega
    rw [if_neg h1, if_neg h2]
    simp only [show decide (v.Text = ⟨#[]⟩) = true from decide_eq_true ht, Bool.and_true]
    rw [Bool.eq_iff_iff]
    (repeat' split) <;> simp <;> omega
  · by_cases hk : v.Kind = 1
    · have h1 : ¬ (v.Kind ≠ 1 ∧ v.Text ≠ ⟨#[]⟩) := fun q => q.1 hk
      rw [if_neg h1]
      simp only [hk]
      by_cases h2 : (200 : Int) < (v.Text.size : Int)
      · simp [h2] <;> omega
      · rw [Bool.eq_iff_iff]; simp [h2] <;> omega
    · rw [if_pos (⟨hk, ht⟩ : v.Kind ≠ 1 ∧ v.Text ≠ ⟨#[]⟩)]
      simp [ht, hk]
def testR (a : GValue) (op : Int) (b : GValue) (add : Int) : Bool :=
  if validV a = false ∨ validV b = false ∨ a.Kind ≠ b.Kind ∨ a.Kind = 0 then false
  else if add ≠ 0 ∧ a.Kind ≠ 2 ∧ a.Kind ≠ 3 then false
  else opHolds op (if a.Kind = 1 then cmpV a b else ordI (a.N - b.N) add)
theorem valid_kind {v : GValue} (h : validV v = true) : 0 ≤ v.Kind ∧ v.Kind ≤ 4 ∧ (v.Kind ≠ 1 → v.Text = ⟨#[]⟩) := by
  rw [← validR_eq] at h
  unfold validR at h
  repeat' split at h
  all_goals simp at h
  all_goals refine ⟨by omega, by omega, fun _ => ?_⟩
  all_goals first | (exact h.2) | (exfalso; omega)
theorem testR_eq (a : GValue) (op : Int) (b : GValue) (add : Int) : testR a op b add = testV a op b add := by
  unfold testR testV
  by_cases h1 : validV a = false ∨ validV b = false ∨ a.Kind ≠ b.Kind
  · rw [if_pos h1, if_pos (by rcases h1 with h | h | h <;> simp [h])]
  · have hva : validV a = true := by simp only [not_or] at h1; simpa using h1.1
    have hvb : validV b = true := by simp only [not_or] at h1; simpa using h1.2.1
    have hk : a.Kind = b.Kind := Classical.byContradiction fun q => h1 (.inr (.inr q))
    obtain ⟨k1, k2, k3⟩ := valid_kind hva
    obtain ⟨_, _, k4⟩ := valid_kind hvb
    rw [if_neg h1]
    by_cases h0 : a.Kind = 0
    · rw [if_pos (by simp [h0])]
      simp [h0]
    · rw [if_neg (by simp only [not_or]; exact ⟨by simp [hva], by simp [hvb], fun q => q hk, h0⟩)]
      by_cases h23 : a.Kind = 2 ∨ a.Kind = 3
      · rw [if_pos h23, if_neg (by rintro ⟨_, q2, q3⟩; rcases h23 with q | q; exact q2 q; exact q3 q), if_neg (by omega)]
      · have h14 : a.Kind = 1 ∨ a.Kind = 4 := by omega
        rw [if_neg h23, if_pos h14]
        by_cases ha : add = 0
        · subst ha
          rw [if_neg (show ¬ ((0 : Int) ≠ 0 ∧ a.Kind ≠ 2 ∧ a.Kind ≠ 3) from fun q => q.1 rfl), if_neg (show ¬ ((0 : Int) ≠ 0) from fun q => q rfl)]
          rcases h14 with h | h
          · rw [if_pos h]
          · rw [if_neg (by omega)]
            have e1 := k3 (by omega)
            have e2 := k4 (by omega)
            have : cmpV a b = ordI (a.N - b.N) 0 := by
              unfold cmpV
              rw [if_neg (by rw [hk]; simp [ordI])]
              have hs : ordS a.Text b.Text = 0 := by rw [e1, e2]; decide +kernel
              rw [hs]
              unfold ordI
              (repeat' split) <;> omega
            rw [this]
        · rw [if_pos ⟨ha, by omega, by omega⟩, if_pos ha]
theorem ValidR_spec (v : GValue) : Fun1 prog 119 [rValue.ty v] (tV (.bool (validV v))) := by
 refine Spec.enter func119 rfl rfl fun h0 w0 fr0 => ?_
 refine Jr (Js rfl (step_box (R := rValue) Sr) (Ja rfl (JL_nil (J_seq (Jr ?_)))))
 refine Js rfl (step_fieldAddr so91 Sr rfl) (Jl rfl ty3 Sr (JL_nil (J_block (Jr (Js rfl (step_eql Sr Sr) ?_)))))
 refine Ja rfl (JL_nil ?_)
 refine J_cond Sr (fun hc1 => ?_) (fun hc1 => ?_)
 ·
  try simp only [NF] at hc1
  refine Jr (Js rfl (step_fieldAddr so91 Sr rfl) (Jl rfl ty3 Sr (Js rfl (step_eql Sr Sr) (Jm rfl ?_))))
  refine Jk rfl Sr rfl (step_fieldAddr so91 Sr rfl) ?_
  refine Jg rfl Sr rfl (fun hw => step_load_ptr ty9 (Sub.w hw)) (Jg rfl Sr rfl (fun hw => step_eql_str (Sub.w hw) Sr) (Js rfl (step_pick_and Sr Sr) (Ja rfl (JL_nil (J_ret ?_)))))
  refine K_retv (rv := .tmp 2) rfl () (.tmp Sr) (Sub.bool ?_)
  rw [← validR_eq]; simp only [validR, *]; simp
 try simp only [NF] at hc1
 refine Jr (Js rfl (step_eql Sr Sr) (Ja rfl (JL_nil ?_)))
 refine J_cond Sr (fun hc2 => ?_) (fun hc2 => ?_)
 ·
  try simp only [NF] at hc2
  refine Jr (Js rfl (step_fieldAddr so91 Sr rfl) (Jl rfl ty3 Sr (Js rfl (step_eql Sr Sr) (Jm rfl ?_))))
  refine Jk rfl Sr rfl (step_fieldAddr so91 Sr rfl) ?_
  refine Jg rfl Sr rfl (fun hw => step_load_ptr ty9 (Sub.w hw)) (Jg rfl Sr rfl (fun hw => step_len_str underlying9 (Sub.w hw)) (Jg rfl Sr rfl (fun hw => step_leq (Sub.w hw) Sr) (Js rfl (step_pick_and Sr Sr) (Ja rfl (JL_nil ?_)))))
  refine J_ret ?_
  refine K_retv (rv := .tmp 2) rfl () (.tmp Sr) (Sub.bool ?_)
  rw [← validR_eq]; simp only [validR, *]; simp
 try simp only [NF] at hc2
 refine Jr (Js rfl (step_eql Sr Sr) (Ja rfl (JL_nil ?_)))
 refine J_cond Sr (fun hc3 => ?_) (fun hc3 => ?_)
 ·
  try simp only [NF] at hc3
  refine Jr (Js rfl (step_fieldAddr so91 Sr rfl) (Jl rfl ty3 Sr (Js rfl (step_geq Sr Sr) (Jm rfl ?_))))
  refine Jk rfl Sr rfl (step_fieldAddr so91 Sr rfl) ?_
  refine Jg rfl Sr rfl (fun hw => step_load_ptr ty3 (Sub.w hw)) (Jg rfl Sr rfl (fun hw => step_leq (Sub.w hw) Sr) (Js rfl (step_pick_and Sr Sr) (Jm rfl ?_)))
  refine Jk rfl Sr rfl (step_fieldAddr so91 Sr rfl) ?_
  refine Jg rfl Sr rfl (fun hw => step_load_ptr ty9 (Sub.w hw)) (Jg rfl Sr rfl (fun hw => step_eql_str (Sub.w hw) Sr) (Js rfl (step_pick_and Sr Sr) (Ja rfl (JL_nil (J_ret ?_)))))
  refine K_retv (rv := .tmp 2) rfl () (.tmp Sr) (Sub.bool ?_)
  rw [← validR_eq]; simp only [validR, *]; simp
 try simp only [NF] at hc3
 refine Jr (Js rfl (step_eql Sr Sr) (Ja rfl (JL_nil ?_)))
 refine J_cond Sr (fun hc4 => ?_) (fun hc4 => ?_)
 ·
  try simp only [NF] at hc4
  refine Jr (Js rfl (step_fieldAddr so91 Sr rfl) (Jl rfl ty3 Sr (Js rfl (step_geq Sr Sr) (Jm rfl ?_))))
  refine Jk rfl Sr rfl (step_fieldAddr so91 Sr rfl) ?_
  refine Jg rfl Sr rfl (fun hw => step_load_ptr ty3 (Sub.w hw)) (Jg rfl Sr rfl (fun hw => step_leq (Sub.w hw) Sr) (Js rfl (step_pick_and Sr Sr) (Jm rfl ?_)))
  refine Jk rfl Sr rfl (step_fieldAddr so91 Sr rfl) ?_
  refine Jg rfl Sr rfl (fun hw => step_load_ptr ty9 (Sub.w hw)) (Jg rfl Sr rfl (fun hw => step_eql_str (Sub.w hw) Sr) (Js rfl (step_pick_and Sr Sr) (Ja rfl (JL_nil (J_ret ?_)))))
  refine K_retv (rv := .tmp 2) rfl () (.tmp Sr) (Sub.bool ?_)
  rw [← validR_eq]; simp only [validR, *]; simp
 try simp only [NF] at hc4
 refine Jr (Js rfl (step_eql Sr Sr) (Ja rfl (JL_nil ?_)))
 refine J_cond Sr (fun hc5 => ?_) (fun hc5 => ?_)
 ·
  try simp only [NF] at hc5
  refine Jr (Js rfl (step_fieldAddr so91 Sr rfl) (Jl rfl ty3 Sr (Js rfl (step_eql Sr Sr) (Jm rfl ?_))))
  refine Jk rfl Sr rfl (step_fieldAddr so91 Sr rfl) ?_
  refine Jg rfl Sr rfl (fun hw => step_load_ptr ty3 (Sub.w hw)) (Jg rfl Sr rfl (fun hw => step_eql (Sub.w hw) Sr) (Js rfl (step_pick_or Sr Sr) (Jm rfl ?_)))
  refine Jk rfl Sr rfl (step_fieldAddr so91 Sr rfl) ?_
  refine Jg rfl Sr rfl (fun hw => step_load_ptr ty9 (Sub.w hw)) (Jg rfl Sr rfl (fun hw => step_eql_str (Sub.w hw) Sr) (Js rfl (step_pick_and Sr Sr) (Ja rfl (JL_nil (J_ret ?_)))))
  refine K_retv (rv := .tmp 2) rfl () (.tmp Sr) (Sub.bool ?_)
  rw [← validR_eq]; simp only [validR, *]; simp
 try simp only [NF] at hc5
 refine J_skip (Jr (Ja rfl (JL_nil (J_ret ?_))))
 refine K_retv (rv := .tmp 2) rfl () (.tmp Sr) (Sub.bool ?_)
 rw [← validR_eq]; simp only [validR, *]; simp
theorem sign_spec (a b : Int) : Fun1 prog 120 [tV (.int .i64 a), tV (.int .i64 b)] (tV (.int .i64 (ordI a b))) := by
 refine Spec.enter func120 rfl rfl fun h0 w0 fr0 => ?_
 refine Jr (Ja rfl (JL_nil (J_seq (Jr (Jm rfl ?_)))))
 refine Jm rfl (Js rfl (step_lss Sr Sr) (JL_nil ?_))
 refine J_cond Sr (fun hc1 => ?_) (fun hc1 => ?_)
 ·
  try simp only [NF] at hc1
  refine Jr (Ja rfl (JL_nil (J_ret ?_)))
  refine K_retv (rv := .tmp 4) rfl () (.tmp Sr) (Sub.int ?_)
  simp [ordI, hc1]
 try simp only [NF] at hc1
 refine J_skip (J_seq (Jr (Jm rfl (Jm rfl (Js rfl (step_gtr Sr Sr) ?_)))))
 refine JL_nil ?_
 refine J_cond Sr (fun hc2 => ?_) (fun hc2 => ?_)
 ·
  try simp only [NF] at hc2
  refine Jr (Ja rfl (JL_nil (J_ret ?_)))
  refine K_retv (rv := .tmp 4) rfl () (.tmp Sr) (Sub.int ?_)
  have : ¬ a < b := by omega
  simp [ordI, this]; omega
 try simp only [NF] at hc2
 refine J_skip (Jr (Ja rfl (JL_nil (J_ret ?_))))
 refine K_retv (rv := .tmp 4) rfl () (.tmp Sr) (Sub.int ?_)
 have h1 : ¬ a < b := by omega
 have h2 : ¬ b < a := by omega
 simp [ordI, h1, h2]
theorem CompareR_spec (a b : GValue) : Fun1 prog 121 [rValue.ty a, rValue.ty b] (tV (.int .i64 (cmpV a b))) := by
 refine Spec.enter func121 rfl rfl fun h0 w0 fr0 => ?_
 refine Jr (Js rfl (step_box (R := rValue) Sr) (Js rfl (step_box (R := rValue) Sr) (Ja rfl (JL_nil (J_seq ?_)))))
 refine Jr (Js rfl (step_fieldAddr so91 Sr rfl) (Jl rfl ty3 Sr (Js rfl (step_fieldAddr so91 Sr rfl) (Jl rfl ty3 Sr (Js rfl (step_neq Sr Sr) ?_)))))
 refine JL_nil ?_
 refine J_cond Sr (fun h9 => ?_) (fun h9 => ?_)
 ·
  try simp only [NF] at h9
  refine Jr (Js rfl (step_fieldAddr so91 Sr rfl) (Jl rfl ty3 Sr (Js rfl (step_fieldAddr so91 Sr rfl) (Jl rfl ty3 Sr (Js rfl (step_call0 (sign_spec _ _) ⟨Sr, Sr, trivial⟩ call120) ?_)))))
  refine Ja rfl (JL_nil (J_ret ?_))
  refine K_retv (rv := .tmp 4) rfl () (.tmp Sr) (Sub.int ?_)
  have : ordI a.Kind b.Kind ≠ 0 := fun e => h9 (ordI_zero.1 e)
  simp [cmpV, this]
 try simp only [NF] at h9
 refine J_skip (J_seq (Jr (Js rfl (step_fieldAddr so91 Sr rfl) (Jl rfl ty3 Sr (Js rfl (step_fieldAddr so91 Sr rfl) ?_)))))
 refine Jl rfl ty3 Sr (Js rfl (step_neq Sr Sr) (JL_nil ?_))
 refine J_cond Sr (fun h19 => ?_) (fun h19 => ?_)
 ·
  try simp only [NF] at h19
  refine Jr (Js rfl (step_fieldAddr so91 Sr rfl) (Jl rfl ty3 Sr (Js rfl (step_fieldAddr so91 Sr rfl) (Jl rfl ty3 Sr (Js rfl (step_call0 (sign_spec _ _) ⟨Sr, Sr, trivial⟩ call120) ?_)))))
  refine Ja rfl (JL_nil (J_ret ?_))
  refine K_retv (rv := .tmp 4) rfl () (.tmp Sr) (Sub.int ?_)
  have h1 : ordI a.Kind b.Kind = 0 := ordI_zero.2 (by simpa using h9)
  have h2 : ordI a.N b.N ≠ 0 := fun e => h19 (ordI_zero.1 e)
  simp [cmpV, h1, h2]
 try simp only [NF] at h19
 refine J_skip (J_seq (Jr (Js rfl (step_fieldAddr so91 Sr rfl) (Jl rfl ty9 Sr (Js rfl (step_fieldAddr so91 Sr rfl) ?_)))))
 refine Jl rfl ty9 Sr (Js rfl (step_lss_str Sr Sr) (JL_nil ?_))
 refine J_cond Sr (fun h29 => ?_) (fun h29 => ?_)
 ·
  try simp only [NF] at h29
  refine Jr (Ja rfl (JL_nil (J_ret ?_)))
  refine K_retv (rv := .tmp 4) rfl () (.tmp Sr) (Sub.int ?_)
  have h1 : ordI a.Kind b.Kind = 0 := ordI_zero.2 (by simpa using h9)
  have h2 : ordI a.N b.N = 0 := ordI_zero.2 (by simpa using h19)
  simp only [cmpV, h1, h2, ordS]; simp_all
 try simp only [NF] at h29
 refine J_skip (J_seq (Jr (Js rfl (step_fieldAddr so91 Sr rfl) (Jl rfl ty9 Sr (Js rfl (step_fieldAddr so91 Sr rfl) ?_)))))
 refine Jl rfl ty9 Sr (Js rfl (step_gtr_str Sr Sr) (JL_nil ?_))
 refine J_cond Sr (fun h34 => ?_) (fun h34 => ?_)
 ·
  try simp only [NF] at h34
  refine Jr (Ja rfl (JL_nil (J_ret ?_)))
  refine K_retv (rv := .tmp 4) rfl () (.tmp Sr) (Sub.int ?_)
  have h1 : ordI a.Kind b.Kind = 0 := ordI_zero.2 (by simpa using h9)
  have h2 : ordI a.N b.N = 0 := ordI_zero.2 (by simpa using h19)
  simp only [cmpV, h1, h2, ordS]; simp_all
 try simp only [NF] at h34
 refine J_skip (Jr (Ja rfl (JL_nil (J_ret ?_))))
 refine K_retv (rv := .tmp 4) rfl () (.tmp Sr) (Sub.int ?_)
 have h1 : ordI a.Kind b.Kind = 0 := ordI_zero.2 (by simpa using h9)
 have h2 : ordI a.N b.N = 0 := ordI_zero.2 (by simpa using h19)
 simp only [cmpV, h1, h2, ordS]; simp_all
theorem TestR_spec (a b : GValue) (op add : Int) : Fun1 prog 95 [rValue.ty a, tV (.int .i64 op), rValue.ty b, tV (.int .i64 add)] (tV (.bool (testV a op b add))) := by
 refine Spec.enter func95 rfl rfl fun h0 w0 fr0 => ?_
 refine Jr (Js rfl (step_box (R := rValue) Sr) (Js rfl (step_box (R := rValue) Sr) (Ja rfl (JL_nil (J_seq ?_)))))
 refine Jr (Jl rfl ty91 Sr (Js rfl (step_call0 (ValidR_spec _) ⟨Sr, trivial⟩ call119) (Js rfl (step_not Sr) (Jm rfl ?_))))
 refine Jk rfl Sr rfl (step_load_ptr ty91 Sr) ?_
 refine Jg rfl Sr rfl (fun hw => step_call0 (ValidR_spec _) ⟨(Sub.w hw), trivial⟩ call119) (Jg rfl Sr rfl (fun hw => step_not (Sub.w hw)) (Js rfl (step_pick_or Sr Sr) (Jm rfl ?_)))
 refine Jk rfl Sr rfl (step_fieldAddr so91 Sr rfl) ?_
 refine Jg rfl Sr rfl (fun hw => step_load_ptr ty3 (Sub.w hw)) ?_
 refine Jk rfl Sr rfl (step_fieldAddr so91 Sr rfl) ?_
 refine Jg rfl Sr rfl (fun hw => step_load_ptr ty3 (Sub.w hw)) (Jg rfl Sr rfl (fun hw => step_neq (Sub.w hw) (Sub.w hw)) (Js rfl (step_pick_or Sr Sr) (Jm rfl ?_)))
 refine Jk rfl Sr rfl (step_fieldAddr so91 Sr rfl) ?_
 refine Jg rfl Sr rfl (fun hw => step_load_ptr ty3 (Sub.w hw)) (Jg rfl Sr rfl (fun hw => step_eql (Sub.w hw) Sr) (Js rfl (step_pick_or Sr Sr) (JL_nil ?_)))
 refine J_cond Sr (fun h29 => ?_) (fun h29 => ?_)
 ·
  try simp only [NF] at h29
  refine Jr (Ja rfl (JL_nil (J_ret ?_)))
  refine K_retv (rv := .tmp 8) rfl () (.tmp Sr) (Sub.bool ?_)
  rw [← testR_eq]
  have : validV a = false ∨ validV b = false ∨ a.Kind ≠ b.Kind ∨ a.Kind = 0 := by simp_all [or_assoc]
  rw [testR, if_pos this]
 try simp only [NF] at h29
 have hva : validV a = true := by simp_all
 have hvb : validV b = true := by simp_all
 have hn1 : ¬ (validV a = false ∨ validV b = false ∨ a.Kind ≠ b.Kind ∨ a.Kind = 0) := by rintro (q | q | q | q) <;> simp_all
 refine J_skip (J_seq (Jr (Jm rfl (Js rfl (step_neq Sr Sr) (Jm rfl ?_)))))
 refine Jk rfl Sr rfl (step_fieldAddr so91 Sr rfl) ?_
 refine Jg rfl Sr rfl (fun hw => step_load_ptr ty3 (Sub.w hw)) (Jg rfl Sr rfl (fun hw => step_neq (Sub.w hw) Sr) (Js rfl (step_pick_and Sr Sr) (Jm rfl ?_)))
 refine Jk rfl Sr rfl (step_fieldAddr so91 Sr rfl) ?_
 refine Jg rfl Sr rfl (fun hw => step_load_ptr ty3 (Sub.w hw)) (Jg rfl Sr rfl (fun hw => step_neq (Sub.w hw) Sr) (Js rfl (step_pick_and Sr Sr) (JL_nil ?_)))
 refine J_cond Sr (fun h41 => ?_) (fun h41 => ?_)
 ·
  try simp only [NF] at h41
  refine Jr (Ja rfl (JL_nil (J_ret ?_)))
  refine K_retv (rv := .tmp 8) rfl () (.tmp Sr) (Sub.bool ?_)
  rw [← testR_eq, testR, if_neg hn1, if_pos (by simp_all)]
 try simp only [NF] at h41
 have hn2 : ¬ (add ≠ 0 ∧ a.Kind ≠ 2 ∧ a.Kind ≠ 3) := by rintro ⟨q1, q2, q3⟩; simp_all
 refine J_skip (Jr (Js rfl (step_fieldAddr so91 Sr rfl) (Jl rfl ty3 Sr (Js rfl (step_fieldAddr so91 Sr rfl) (Jl rfl ty3 Sr ?_)))))
 refine Js rfl (step_sub Sr Sr (in64_sub hva hvb)) (Jm rfl (Js rfl (step_call0 (sign_spec _ _) ⟨Sr, Sr, trivial⟩ call120) (Ja rfl (JL_nil (J_seq ?_)))))
 refine Jr (Js rfl (step_fieldAddr so91 Sr rfl) (Jl rfl ty3 Sr (Js rfl (step_eql Sr Sr) (JL_nil ?_))))
 refine J_cond Sr (fun h51 => ?_) (fun h51 => ?_)
 ·
  try simp only [NF] at h51
  refine J_region (Jl rfl ty91 Sr (Jl rfl ty91 Sr (Js rfl (step_call0 (CompareR_spec _ _) ⟨Sr, Sr, trivial⟩ call121) (Ja rfl (JL_nil ?_)))))
  refine J_seq (Jr (Jm rfl (JL_nil (J_block (Jr ?_)))))
  refine Js rfl (step_eql Sr Sr) (Ja rfl (JL_nil ?_))
  refine J_cond Sr (fun hc4 => ?_) (fun hc4 => ?_)
  ·
   try simp only [NF] at hc4
   refine Jr (Jm rfl (Js rfl (step_eql Sr Sr) (Ja rfl (JL_nil (J_ret ?_)))))
   refine K_retv (rv := .tmp 8) rfl () (.tmp Sr) (Sub.bool ?_)
   rw [← testR_eq]
   simp only [testR, if_neg hn1, if_neg hn2, opHolds]; simp_all
  try simp only [NF] at hc4
  refine Jr (Js rfl (step_eql Sr Sr) (Ja rfl (JL_nil ?_)))
  refine J_cond Sr (fun hc5 => ?_) (fun hc5 => ?_)
  ·
   try simp only [NF] at hc5
   refine Jr (Jm rfl (Js rfl (step_neq Sr Sr) (Ja rfl (JL_nil (J_ret ?_)))))
   refine K_retv (rv := .tmp 8) rfl () (.tmp Sr) (Sub.bool ?_)
   rw [← testR_eq]
   simp only [testR, if_neg hn1, if_neg hn2, opHolds]; simp_all
  try simp only [NF] at hc5
  refine Jr (Js rfl (step_eql Sr Sr) (Ja rfl (JL_nil ?_)))
  refine J_cond Sr (fun hc6 => ?_) (fun hc6 => ?_)
  ·
   try simp only [NF] at hc6
   refine Jr (Jm rfl (Js rfl (step_lss Sr Sr) (Ja rfl (JL_nil (J_ret ?_)))))
   refine K_retv (rv := .tmp 8) rfl () (.tmp Sr) (Sub.bool ?_)
   rw [← testR_eq]
   simp only [testR, if_neg hn1, if_neg hn2, opHolds]; simp_all
  try simp only [NF] at hc6
  refine Jr (Js rfl (step_eql Sr Sr) (Ja rfl (JL_nil ?_)))
  refine J_cond Sr (fun hc7 => ?_) (fun hc7 => ?_)
  ·
   try simp only [NF] at hc7
   refine Jr (Jm rfl (Js rfl (step_leq Sr Sr) (Ja rfl (JL_nil (J_ret ?_)))))
   refine K_retv (rv := .tmp 8) rfl () (.tmp Sr) (Sub.bool ?_)
   rw [← testR_eq]
   simp only [testR, if_neg hn1, if_neg hn2, opHolds]; simp_all
  try simp only [NF] at hc7
  refine J_skip (Jr (Ja rfl (JL_nil (J_ret ?_))))
  refine K_retv (rv := .tmp 8) rfl () (.tmp Sr) (Sub.bool ?_)
  rw [← testR_eq]
  simp only [testR, if_neg hn1, if_neg hn2, opHolds]; simp_all
 try simp only [NF] at h51
 refine J_skip (J_seq (Jr (Jm rfl (JL_nil (J_block ?_)))))
 refine Jr (Js rfl (step_eql Sr Sr) (Ja rfl (JL_nil ?_)))
 refine J_cond Sr (fun hc8 => ?_) (fun hc8 => ?_)
 ·
  try simp only [NF] at hc8
  refine Jr (Jm rfl (Js rfl (step_eql Sr Sr) (Ja rfl (JL_nil (J_ret ?_)))))
  refine K_retv (rv := .tmp 8) rfl () (.tmp Sr) (Sub.bool ?_)
  rw [← testR_eq]
  simp only [testR, if_neg hn1, if_neg hn2, opHolds]; simp_all
 try simp only [NF] at hc8
 refine Jr (Js rfl (step_eql Sr Sr) (Ja rfl (JL_nil ?_)))
 refine J_cond Sr (fun hc9 => ?_) (fun hc9 => ?_)
 ·
  try simp only [NF] at hc9
  refine Jr (Jm rfl (Js rfl (step_neq Sr Sr) (Ja rfl (JL_nil (J_ret ?_)))))
  refine K_retv (rv := .tmp 8) rfl () (.tmp Sr) (Sub.bool ?_)
  rw [← testR_eq]
  simp only [testR, if_neg hn1, if_neg hn2, opHolds]; simp_all
 try simp only [NF] at hc9
 refine Jr (Js rfl (step_eql Sr Sr) (Ja rfl (JL_nil ?_)))
 refine J_cond Sr (fun hc10 => ?_) (fun hc10 => ?_)
 ·
  try simp only [NF] at hc10
  refine Jr (Jm rfl (Js rfl (step_lss Sr Sr) (Ja rfl (JL_nil (J_ret ?_)))))
  refine K_retv (rv := .tmp 8) rfl () (.tmp Sr) (Sub.bool ?_)
  rw [← testR_eq]
  simp only [testR, if_neg hn1, if_neg hn2, opHolds]; simp_all
 try simp only [NF] at hc10
 refine Jr (Js rfl (step_eql Sr Sr) (Ja rfl (JL_nil ?_)))
 refine J_cond Sr (fun hc11 => ?_) (fun hc11 => ?_)
 ·
  try simp only [NF] at hc11
  refine Jr (Jm rfl (Js rfl (step_leq Sr Sr) (Ja rfl (JL_nil (J_ret ?_)))))
  refine K_retv (rv := .tmp 8) rfl () (.tmp Sr) (Sub.bool ?_)
  rw [← testR_eq]
  simp only [testR, if_neg hn1, if_neg hn2, opHolds]; simp_all
 try simp only [NF] at hc11
 refine J_skip (Jr (Ja rfl (JL_nil (J_ret ?_))))
 refine K_retv (rv := .tmp 8) rfl () (.tmp Sr) (Sub.bool ?_)
 rw [← testR_eq]
 simp only [testR, if_neg hn1, if_neg hn2, opHolds]; simp_all
open Go Go.Proofs Go.Proofs.Tryz
def exclB (a b : GFact) : Bool := decide (a.Entity = b.Entity) && (!decide (a.Variant = -1) || !decide (b.Variant = -1))
theorem columnT_spec (c op : Int) : Fun1 prog 66 [tV (.int .i64 c), tV (.int .i64 op)] (rTest.ty (bothT c op)) := by
 refine Spec.enter func66 rfl rfl fun h0 w0 fr0 => ?_
 refine Jr ?_
 refine Jx rfl (step_alloc (fun w => zeroValue107 w) zr107) fun v4 => ?_
 refine JL_nil (Jr (Jm rfl (Js rfl (step_build (x := (⟨0, c, zValue⟩ : GSide)) (zs := [[Value.int .i64 0], [Value.int .i64 0], [Value.int .i64 0, Value.int .i64 0, Value.string ⟨#[]⟩]]) so105 (fun w => zeroValue105 w) ⟨Sr, trivial⟩ ⟨fun _ => rfl, ⟨Sr, rfl⟩, fun _ => ⟨[Value.int .i64 0], _, rfl, rfl, ⟨[Value.int .i64 0], _, rfl, rfl, ⟨[Value.string ⟨#[]⟩], _, rfl, rfl, rfl⟩⟩⟩, trivial⟩) (Jm rfl (Jm rfl ?_)))))
 refine Js rfl (step_build (x := (⟨1, c, zValue⟩ : GSide)) (zs := [[Value.int .i64 0], [Value.int .i64 0], [Value.int .i64 0, Value.int .i64 0, Value.string ⟨#[]⟩]]) so105 (fun w => zeroValue105 w) ⟨Sr, Sr, trivial⟩ ⟨⟨Sr, rfl⟩, ⟨Sr, rfl⟩, fun _ => ⟨[Value.int .i64 0], _, rfl, rfl, ⟨[Value.int .i64 0], _, rfl, rfl, ⟨[Value.string ⟨#[]⟩], _, rfl, rfl, rfl⟩⟩⟩, trivial⟩) (Js rfl (step_build (x := (bothT c op : GTest)) (zs := [[Value.int .i64 0, Value.int .i64 0, Value.int .i64 0, Value.int .i64 0, Value.string ⟨#[]⟩], [Value.int .i64 0], [Value.int .i64 0, Value.int .i64 0, Value.int .i64 0, Value.int .i64 0, Value.string ⟨#[]⟩], [Value.int .i64 0]]) so107 (fun w => zeroValue107 w) ⟨Sr, Sr, Sr, trivial⟩ ⟨⟨Sr, rfl⟩, ⟨Sr, rfl⟩, ⟨Sr, rfl⟩, fun _ => rfl, trivial⟩) ?_)
 refine Ju (step_store_box ty107 Sr Sr zS) fun _ => ?_
 refine JL_freeze (t := 4) (Sel.take (Sel.none _)) Frz.box ?_
 refine JL_nil (J_ret ?_)
 refine K_retv (rv := .cell 4 107) rfl () (.imm ty107 Sr Sr) Sr
theorem exclude_spec (a b : GFact) : Fun1 prog 75 [rFact.ty a, rFact.ty b] (tV (.bool (exclB a b))) := by
 refine Spec.enter func75 rfl rfl fun h0 w0 fr0 => ?_
 refine Jr (Js rfl (step_box (R := rFact) Sr) (Js rfl (step_box (R := rFact) Sr) (Ja rfl (JL_nil (Jr ?_)))))
 refine Js rfl (step_fieldAddr so35 Sr rfl) (Jl rfl ty3 Sr (Js rfl (step_fieldAddr so35 Sr rfl) (Jl rfl ty3 Sr (Js rfl (step_eql Sr Sr) (Jm rfl ?_)))))
 refine Jk rfl Sr rfl (step_fieldAddr so35 Sr rfl) ?_
 refine Jg rfl Sr rfl (fun hw => step_load_ptr ty3 (Sub.w hw)) (Jg rfl Sr rfl (fun hw => step_neq (Sub.w hw) Sr) (Jg rfl Sr rfl (fun hw => step_move (Sub.w hw)) ?_))
 refine Ji rfl Sr rfl (step_fieldAddr so35 Sr rfl) ?_
 refine Jh rfl Sr rfl (fun hw => step_load_ptr ty3 (Sub.w hw)) (Jh rfl Sr rfl (fun hw => step_neq (Sub.w hw) Sr) (Jg rfl Sr rfl (fun hw => step_pick_or (Sub.w hw) (Sub.ww hw)) (Js rfl (step_pick_and Sr Sr) (Ja rfl (JL_nil ?_)))))
 refine J_ret ?_
 refine K_retv (rv := .tmp 4) rfl () (.tmp Sr) Sr
theorem LowerR_spec (r : GRule) (h1 : r.Fixed.length ≤ 1000000) (h2 : r.Cols.length ≤ 1000000) : Fun1 prog 47 [rRule.ty r] (tSl rRule (lowerR r)) := by
 refine Spec.enter func47 rfl rfl fun h0 w0 fr0 => ?_
 refine Jr (Js rfl (step_box (R := rRule) Sr) (Ja rfl (JL_nil (J_seq (Jr ?_)))))
 refine Js rfl (step_fieldAddr so59 Sr rfl) (Jl rfl ty3 Sr (Js rfl (step_eql Sr Sr) (JL_nil ?_)))
 refine J_cond Sr (fun h9 => ?_) (fun h9 => ?_)
 ·
  try simp only [NF] at h9
  refine Jr (Jl rfl ty59 Sr ?_)
  refine Js rfl (step_literal (ys := [_]) underlying22 el59 ⟨rfl, Sr, trivial⟩ rfl (by decide)) ?_
  refine Ja rfl (JL_nil (J_ret ?_))
  refine K_ret1 (t := 2) rfl () ?_
  refine Sub.sl ?_
  simp [lowerR, h9]
 try simp only [NF] at h9
 refine J_skip (J_seq (Jr (Js rfl (step_fieldAddr so59 Sr rfl) (Jl rfl ty3 Sr (Js rfl (step_neq Sr Sr) ?_)))))
 refine Jm rfl ?_
 refine Jk rfl Sr rfl (step_fieldAddr so59 Sr rfl) ?_
 refine Jg rfl Sr rfl (fun hw => step_load_ptr ty3 (Sub.w hw)) (Jg rfl Sr rfl (fun hw => step_neq (Sub.w hw) Sr) (Js rfl (step_pick_and Sr Sr) (JL_nil ?_)))
 refine J_cond Sr (fun h19 => ?_) (fun h19 => ?_)
 ·
  try simp only [NF] at h19
  refine Jr (Ja rfl (JL_nil (J_ret ?_)))
  refine K_ret1 (t := 2) rfl () ?_
  refine Sub.trans Sub.nilsl (Sub.sl ?_)
  simp [lowerR, *]
 try simp only [NF] at h19
 refine J_skip (Jr (Js rfl (step_fieldAddr so59 Sr rfl) (Jl rfl ty9 Sr (Js rfl (step_fieldAddr so59 Sr rfl) (Jl rfl ty3 Sr ?_)))))
 refine Js rfl (step_fieldAddr so59 Sr rfl) (Jl rfl ty3 Sr ?_)
 refine Js rfl (step_literal (ys := [_, _]) underlying33 el3 ⟨rfl, Sr, rfl, Sr, trivial⟩ rfl (by decide)) ?_
 refine Js rfl (step_build (x := (outW r (.slice none 0 0) : GRuleW)) (zs := [[Value.int .i64 0], [Value.string ⟨#[]⟩], [Value.int .i64 0], [Value.slice none 0 0], [Value.int .i64 0], [Value.slice none 0 0], [Value.int .i64 0], [Value.int .i64 0], [Value.slice none 0 0], [Value.slice none 0 0]]) so59W (fun w => zeroValue59 w) ⟨Sr, Sr, Sr, trivial⟩ ⟨⟨Sr, rfl⟩, ⟨Sr, rfl⟩, fun _ => rfl, fun _ => ⟨_, rfl, none, ⟨0, Nat.le_refl _⟩, rfl, fun q => absurd rfl q⟩, fun _ => rfl, fun _ => ⟨_, rfl, none, ⟨0, Nat.le_refl _⟩, rfl, fun q => absurd rfl q⟩, fun _ => rfl, fun _ => rfl, ⟨Sr, rfl⟩, fun _ => ⟨rfl, rfl⟩, trivial⟩) ?_
 refine Jx rfl (step_alloc (fun w => zeroValue59 w) zr59W) fun v3 => ?_
 refine Ju (step_store_box ty59W Sr Sr zS) fun _ => ?_
 refine JL_nil ?_
 refine K_lsub (LSub.nilown (e := 107) (R := rTest)) ?_
 refine J_seq (Jr (Js rfl (step_fieldAddr so59 Sr rfl) (Jl rfl ty3 Sr (Js rfl (step_eql Sr Sr) (JL_nil ?_)))))
 refine J_cond Sr (fun h30 => ?_) (fun h30 => ?_)
 ·
  try simp only [NF] at h30
  refine Jr (Ja rfl (JL_nil (J_block ?_)))
  refine J_loopL (σ := Nat × Value) (fun ⟨i, v⟩ => i ≤ r.Fixed.length) (fun ⟨i, v⟩ => upd (upd (upd (upd env0 1 (tPtr rRule r)) 2 (tV (.slice none 0 0))) 3 (tAt v3 0)) 4 (tV (.int .i64 i))) (fun ⟨i, v⟩ => [box v3 59 rRuleW (outW r v), own 107 rTest v (fixT (r.Fixed.take i))]) (fun ⟨i, v⟩ => r.Fixed.length - i) (0, .slice none 0 0) (by simp) (zU) (LSub.cons zS SPs.rfl (.c zS (own_eq (by simp [fixT])) LSub.nil)) ?_
  rintro ⟨i, v⟩ hi
  try dsimp only at hi
  refine J_seq (Jr (Jm rfl (Js rfl (step_fieldAddr so59 Sr rfl) (Jl rfl ty56 Sr (Js rfl (step_len_sl underlying56 Sr) ?_)))))
  refine Js rfl (step_lss Sr Sr) (JL_nil ?_)
  refine J_cond Sr (fun h35 => ?_) (fun h35 => ?_)
  ·
   try simp only [NF] at h35
   have hlt : i < r.Fixed.length := by omega
   refine J_skip (J_seq (J_block (Jr (Ja rfl (JL_nil ?_)))))
   refine J_block ?_
   refine J_loopL (σ := Nat × Value) (fun ⟨j, v⟩ => j ≤ 2) (fun ⟨j, v⟩ => upd (upd (upd (upd (upd (upd env0 1 (tPtr rRule r)) 2 (tV (.slice none 0 0))) 3 (tAt v3 0)) 4 (tV (.int .i64 i))) 5 (tV (.int .i64 j))) 31 (tV (.int .i64 i))) (fun ⟨j, v⟩ => [box v3 59 rRuleW (outW r v), own 107 rTest v (fixT (r.Fixed.take i) ++ (List.range j).map (fun k : Nat => fT (nth r.Fixed i) k))]) (fun ⟨j, v⟩ => 2 - j) (0, v) (by simp) (zU) (LSub.cons zS SPs.rfl (.c zS (own_eq (by simp)) LSub.nil)) ?_
   rintro ⟨j, v⟩ hj
   try dsimp only at hj
   refine J_seq (Jr (Jm rfl (Js rfl (step_lss Sr Sr) (JL_nil ?_))))
   refine J_cond Sr (fun h39 => ?_) (fun h39 => ?_)
   ·
    try simp only [NF] at h39
    refine J_skip (J_seq (J_block ?_))
    refine J_draw [⟨0, [3], true⟩, ⟨2, [5], true⟩, ⟨3, [1], true⟩, ⟨4, [45], true⟩, ⟨5, [4], true⟩, ⟨6, [46, 47], true⟩, ⟨7, [48], true⟩, ⟨8, [49], true⟩, ⟨9, [44, 50], true⟩, ⟨10, [1], true⟩, ⟨11, [52], true⟩, ⟨12, [4], true⟩, ⟨13, [53, 54], true⟩, ⟨14, [55], true⟩, ⟨15, [56], true⟩, ⟨16, [57], true⟩, ⟨17, [51, 58], true⟩, ⟨18, [59], true⟩, ⟨1, [42], false⟩, ⟨19, [43, 60], false⟩, ⟨20, [3], true⟩, ⟨21, [61, 62], false⟩] rfl (by kernel_rfl) ?_
    refine Mf rfl rfl (step_fieldAddr_own so59W Sr rfl) (Mv rfl rfl (Mf rfl rfl (step_fieldAddr so59 Sr rfl) (Mf rfl rfl (step_load_ptr ty56 Sr) (Mv rfl rfl ?_))))
    refine Mf rfl rfl (step_indexAddr_sl  underlying56 ty110 Sr Sr rfl (gb (by first | assumption | omega))) ?_
    refine Mf rfl rfl (step_fieldAddr so110 Sr rfl) (Mf rfl rfl (step_load_ptr ty3 Sr) (Mf rfl rfl (step_build (x := (⟨(j : Int), (nth r.Fixed i).Col, zValue⟩ : GSide)) (zs := [[Value.int .i64 0], [Value.int .i64 0], [Value.int .i64 0, Value.int .i64 0, Value.string ⟨#[]⟩]]) so105 (fun w => zeroValue105 w) ⟨Sr, Sr, trivial⟩ ⟨⟨Sr, rfl⟩, ⟨Sr, rfl⟩, fun _ => ⟨[Value.int .i64 0], _, rfl, rfl, ⟨[Value.int .i64 0], _, rfl, rfl, ⟨[Value.string ⟨#[]⟩], _, rfl, rfl, rfl⟩⟩⟩, trivial⟩) (Mf rfl rfl (step_fieldAddr so59 Sr rfl) (Mf rfl rfl (step_load_ptr ty56 Sr) (Mv rfl rfl ?_)))))
    refine Mf rfl rfl (step_indexAddr_sl  underlying56 ty110 Sr Sr rfl (gb (by first | assumption | omega))) ?_
    refine Mf rfl rfl (step_fieldAddr so110 Sr rfl) (Mf rfl rfl (step_load_ptr ty91 Sr) (Mf rfl rfl (step_build (x := (⟨-1, 0, (nth r.Fixed i).Value⟩ : GSide)) (zs := [[Value.int .i64 0], [Value.int .i64 0], [Value.int .i64 0, Value.int .i64 0, Value.string ⟨#[]⟩]]) so105 (fun w => zeroValue105 w) ⟨Sr, Sr, trivial⟩ ⟨⟨Sr, rfl⟩, fun _ => rfl, ⟨Sr, rfl⟩, trivial⟩) (Mf rfl rfl (step_build (x := (fT (nth r.Fixed i) j : GTest)) (zs := [[Value.int .i64 0, Value.int .i64 0, Value.int .i64 0, Value.int .i64 0, Value.string ⟨#[]⟩], [Value.int .i64 0], [Value.int .i64 0, Value.int .i64 0, Value.int .i64 0, Value.int .i64 0, Value.string ⟨#[]⟩], [Value.int .i64 0]]) so107 (fun w => zeroValue107 w) ⟨Sr, Sr, Sr, trivial⟩ ⟨⟨Sr, rfl⟩, ⟨Sr, rfl⟩, ⟨Sr, rfl⟩, fun _ => rfl, trivial⟩) ?_)))
    refine Mf rfl rfl (step_literal (ys := [_]) underlying57 el107 ⟨rfl, Sr, trivial⟩ rfl (by decide)) ?_
    refine JM_look rfl rfl rfl rfl (step_load_fld ty57V59 Sr rfl zS) ?_
    refine JM_stepX rfl rfl rfl rfl (step_append underlying57 el107 Sr Sr zS (by simp [fixT_len]; omega) (by simp [fixT_len]; omega)) fun v61 => ?_
    refine Mf rfl rfl (step_fieldAddr_own so59W Sr rfl) ?_
    refine JM_stepU rfl rfl rfl (step_store_fld (R := rV) (y' := outW r v61) ty57V59 Sr Sr zS (by exact ⟨rfl, rfl, rfl, rfl, rfl, rfl, rfl, rfl, rfl, fun _ _ q => q, rfl, fun _ h => (by cases h)⟩)) fun _ => ?_
    refine JM_nil (J_region (Jm rfl (Js rfl (step_add Sr Sr z6) (Ja rfl (JL_nil ?_)))))
    refine K_againL (σ := Nat × Value) (s := (j, v)) (j + 1, v61) zO (by simp; omega) (zU) (LSub.cons zS SPs.rfl (.c zS (own_eq (by rw [range_succ_map, List.append_assoc])) LSub.nil))
   try simp only [NF] at h39
   refine J_exit (J_region (Jm rfl (Js rfl (step_add Sr Sr z6) (Ja rfl (JL_nil ?_)))))
   refine K_againL (σ := Nat × Value) (s := (i, v)) (i + 1, v) zO (by simp; omega) (zU) (LSub.cons zS SPs.rfl (.c zS (own_eq (by obtain rfl : j = 2 := zG; rw [take_fixT hlt]; rfl)) LSub.nil))
  try simp only [NF] at h35
  refine J_exit (J_seq (Jr (Ja rfl (JL_nil (J_block ?_)))))
  refine J_loopL (σ := Nat × Value) (fun ⟨q, v⟩ => q ≤ r.Cols.length) (fun ⟨q, v⟩ => upd (upd (upd (upd env0 1 (tPtr rRule r)) 2 (tV (.slice none 0 0))) 3 (tAt v3 0)) 6 (tV (.int .i64 q))) (fun ⟨q, v⟩ => [box v3 59 rRuleW (outW r v), own 107 rTest v (preT r ++ (r.Cols.take q).map (bothT · 1))]) (fun ⟨q, v⟩ => r.Cols.length - q) (0, _) (by simp) (zU) (LSub.cons zS SPs.rfl (.c zS (own_eq (by first | (obtain rfl : i = r.Fixed.length := zG; simp_all [preT]; done) | simp_all [preT])) LSub.nil)) ?_
  rintro ⟨q, v⟩ hq
  try dsimp only at hq
  refine J_seq (Jr (Jm rfl (Js rfl (step_fieldAddr so59 Sr rfl) (Jl rfl ty33 Sr (Js rfl (step_len_sl underlying33 Sr) ?_)))))
  refine Js rfl (step_lss Sr Sr) (JL_nil ?_)
  refine J_cond Sr (fun h67 => ?_) (fun h67 => ?_)
  ·
   try simp only [NF] at h67
   have hlt : q < r.Cols.length := by omega
   refine J_skip (J_seq (J_block ?_))
   refine J_draw [⟨0, [3], true⟩, ⟨2, [1], true⟩, ⟨3, [72], true⟩, ⟨4, [6], true⟩, ⟨5, [73, 74], true⟩, ⟨6, [75], true⟩, ⟨7, [76], true⟩, ⟨8, [77], true⟩, ⟨1, [70], false⟩, ⟨9, [71, 78], false⟩, ⟨10, [3], true⟩, ⟨11, [79, 80], false⟩] rfl (by kernel_rfl) ?_
   refine Mf rfl rfl (step_fieldAddr_own so59W Sr rfl) (Mf rfl rfl (step_fieldAddr so59 Sr rfl) (Mf rfl rfl (step_load_ptr ty33 Sr) (Mv rfl rfl ?_)))
   refine Mf rfl rfl (step_indexAddr_sl  underlying33 ty3 Sr Sr rfl (gb (by first | assumption | omega))) ?_
   refine Mf rfl rfl (step_load_ptr ty3 Sr) (Mf rfl rfl (step_call0 (columnT_spec _ _) ⟨Sr, Sr, trivial⟩ call66) ?_)
   refine Mf rfl rfl (step_literal (ys := [_]) underlying57 el107 ⟨rfl, Sr, trivial⟩ rfl (by decide)) ?_
   refine JM_look rfl rfl rfl rfl (step_load_fld ty57V59 Sr rfl zS) ?_
   refine JM_stepX rfl rfl rfl rfl (step_append underlying57 el107 Sr Sr zS (by have := preT_len r; simp [fixT_len]; omega) (by have := preT_len r; simp [fixT_len]; omega)) fun v79 => ?_
   refine Mf rfl rfl (step_fieldAddr_own so59W Sr rfl) ?_
   refine JM_stepU rfl rfl rfl (step_store_fld (R := rV) (y' := outW r v79) ty57V59 Sr Sr zS (by exact ⟨rfl, rfl, rfl, rfl, rfl, rfl, rfl, rfl, rfl, fun _ _ q => q, rfl, fun _ h => (by cases h)⟩)) fun _ => ?_
   refine JM_nil (J_region (Jm rfl (Js rfl (step_add Sr Sr z6) (Ja rfl (JL_nil ?_)))))
   refine K_againL (σ := Nat × Value) (s := (q, v)) (q + 1, v79) zO (by simp; omega) (zU) (LSub.cons zS SPs.rfl (.c zS (own_eq (by rw [take_succ_map (bothT · 1) hlt, List.append_assoc])) LSub.nil))
  try simp only [NF] at h67
  refine J_exit (J_seq (Jr (Js rfl (step_fieldAddr so59 Sr rfl) (Jl rfl ty3 Sr (Js rfl (step_eql Sr Sr) ?_)))))
  refine JL_nil ?_
  refine J_cond Sr (fun h83 => ?_) (fun h83 => ?_)
  ·
   try simp only [NF] at h83
   refine J_draw [⟨0, [3], true⟩, ⟨2, [1], true⟩, ⟨3, [86], true⟩, ⟨4, [87], true⟩, ⟨5, [88], true⟩, ⟨1, [84], false⟩, ⟨6, [85, 89], false⟩, ⟨7, [3], true⟩, ⟨8, [90, 91], false⟩] rfl (by kernel_rfl) ?_
   refine Mf rfl rfl (step_fieldAddr_own so59W Sr rfl) (Mf rfl rfl (step_fieldAddr so59 Sr rfl) (Mf rfl rfl (step_load_ptr ty3 Sr) (Mf rfl rfl (step_call0 (columnT_spec _ _) ⟨Sr, Sr, trivial⟩ call66) ?_)))
   refine Mf rfl rfl (step_literal (ys := [_]) underlying57 el107 ⟨rfl, Sr, trivial⟩ rfl (by decide)) ?_
   refine JM_look rfl rfl rfl rfl (step_load_fld ty57V59 Sr rfl zS) ?_
   refine JM_stepX rfl rfl rfl rfl (step_append underlying57 el107 Sr Sr zS (by have := preT_len r; simp [fixT_len]; omega) (by have := preT_len r; simp [fixT_len]; omega)) fun v90 => ?_
   refine Mf rfl rfl (step_fieldAddr_own so59W Sr rfl) ?_
   refine JM_stepU rfl rfl rfl (step_store_fld (R := rV) (y' := outW r v90) ty57V59 Sr Sr zS (by exact ⟨rfl, rfl, rfl, rfl, rfl, rfl, rfl, rfl, rfl, fun _ _ q => q, rfl, fun _ h => (by cases h)⟩)) fun _ => ?_
   refine JM_nil (Jr ?_)
   refine JL_freeze (t := 3) (Sel.all _) (Frz.up (y := (outW r _).up _) fun h h2 cs l hv q => up59W _ l hv q) ?_
   refine Jl rfl ty59 Sr ?_
   refine Js rfl (step_literal (ys := [_]) underlying22 el59 ⟨rfl, Sr, trivial⟩ rfl (by decide)) ?_
   refine Ja rfl (JL_nil (J_ret ?_))
   refine K_ret1 (t := 2) rfl () ?_
   refine Sub.sl ?_
   have e : q = r.Cols.length := by omega
   have e12 : r.Kind = 1 ∨ r.Kind = 2 := by omega
   simp_all [lowerR, lowT, outW, GRuleW.up, zRule, zRuleW]
  try simp only [NF] at h83
  refine J_skip (Jr ?_)
  refine JL_freeze (t := 3) (Sel.all _) (Frz.up (y := (outW r _).up _) fun h h2 cs l hv q => up59W _ l hv q) ?_
  refine Jl rfl ty59 Sr ?_
  refine Js rfl (step_literal (ys := [_]) underlying22 el59 ⟨rfl, Sr, trivial⟩ rfl (by decide)) ?_
  refine Ja rfl (JL_nil (J_ret ?_))
  refine K_ret1 (t := 2) rfl () ?_
  refine Sub.sl ?_
  have e : q = r.Cols.length := by omega
  have e12 : r.Kind = 1 ∨ r.Kind = 2 := by omega
  simp_all [lowerR, lowT, outW, GRuleW.up, zRule, zRuleW]
 try simp only [NF] at h30
 refine J_skip (J_seq (Jr (Ja rfl (JL_nil (J_block ?_)))))
 refine J_loopL (σ := Nat × Value) (fun ⟨q, v⟩ => q ≤ r.Cols.length) (fun ⟨q, v⟩ => upd (upd (upd (upd env0 1 (tPtr rRule r)) 2 (tV (.slice none 0 0))) 3 (tAt v3 0)) 6 (tV (.int .i64 q))) (fun ⟨q, v⟩ => [box v3 59 rRuleW (outW r v), own 107 rTest v (preT r ++ (r.Cols.take q).map (bothT · 1))]) (fun ⟨q, v⟩ => r.Cols.length - q) (0, _) (by simp) (zU) (LSub.cons zS SPs.rfl (.c zS (own_eq (by first | (obtain rfl : i = r.Fixed.length := zG; simp_all [preT]; done) | simp_all [preT])) LSub.nil)) ?_
 rintro ⟨q, v⟩ hq
 try dsimp only at hq
 refine J_seq (Jr (Jm rfl (Js rfl (step_fieldAddr so59 Sr rfl) (Jl rfl ty33 Sr (Js rfl (step_len_sl underlying33 Sr) ?_)))))
 refine Js rfl (step_lss Sr Sr) (JL_nil ?_)
 refine J_cond Sr (fun h67 => ?_) (fun h67 => ?_)
 ·
  try simp only [NF] at h67
  have hlt : q < r.Cols.length := by omega
  refine J_skip (J_seq (J_block ?_))
  refine J_draw [⟨0, [3], true⟩, ⟨2, [1], true⟩, ⟨3, [72], true⟩, ⟨4, [6], true⟩, ⟨5, [73, 74], true⟩, ⟨6, [75], true⟩, ⟨7, [76], true⟩, ⟨8, [77], true⟩, ⟨1, [70], false⟩, ⟨9, [71, 78], false⟩, ⟨10, [3], true⟩, ⟨11, [79, 80], false⟩] rfl (by kernel_rfl) ?_
  refine Mf rfl rfl (step_fieldAddr_own so59W Sr rfl) (Mf rfl rfl (step_fieldAddr so59 Sr rfl) (Mf rfl rfl (step_load_ptr ty33 Sr) (Mv rfl rfl ?_)))
  refine Mf rfl rfl (step_indexAddr_sl  underlying33 ty3 Sr Sr rfl (gb (by first | assumption | omega))) ?_
  refine Mf rfl rfl (step_load_ptr ty3 Sr) (Mf rfl rfl (step_call0 (columnT_spec _ _) ⟨Sr, Sr, trivial⟩ call66) ?_)
  refine Mf rfl rfl (step_literal (ys := [_]) underlying57 el107 ⟨rfl, Sr, trivial⟩ rfl (by decide)) ?_
  refine JM_look rfl rfl rfl rfl (step_load_fld ty57V59 Sr rfl zS) ?_
  refine JM_stepX rfl rfl rfl rfl (step_append underlying57 el107 Sr Sr zS (by have := preT_len r; simp [fixT_len]; omega) (by have := preT_len r; simp [fixT_len]; omega)) fun v79 => ?_
  refine Mf rfl rfl (step_fieldAddr_own so59W Sr rfl) ?_
  refine JM_stepU rfl rfl rfl (step_store_fld (R := rV) (y' := outW r v79) ty57V59 Sr Sr zS (by exact ⟨rfl, rfl, rfl, rfl, rfl, rfl, rfl, rfl, rfl, fun _ _ q => q, rfl, fun _ h => (by cases h)⟩)) fun _ => ?_
  refine JM_nil (J_region (Jm rfl (Js rfl (step_add Sr Sr z6) (Ja rfl (JL_nil ?_)))))
  refine K_againL (σ := Nat × Value) (s := (q, v)) (q + 1, v79) zO (by simp; omega) (zU) (LSub.cons zS SPs.rfl (.c zS (own_eq (by rw [take_succ_map (bothT · 1) hlt, List.append_assoc])) LSub.nil))
 try simp only [NF] at h67
 refine J_exit (J_seq (Jr (Js rfl (step_fieldAddr so59 Sr rfl) (Jl rfl ty3 Sr (Js rfl (step_eql Sr Sr) ?_)))))
 refine JL_nil ?_
 refine J_cond Sr (fun h83 => ?_) (fun h83 => ?_)
 ·
  try simp only [NF] at h83
  refine J_draw [⟨0, [3], true⟩, ⟨2, [1], true⟩, ⟨3, [86], true⟩, ⟨4, [87], true⟩, ⟨5, [88], true⟩, ⟨1, [84], false⟩, ⟨6, [85, 89], false⟩, ⟨7, [3], true⟩, ⟨8, [90, 91], false⟩] rfl (by kernel_rfl) ?_
  refine Mf rfl rfl (step_fieldAddr_own so59W Sr rfl) (Mf rfl rfl (step_fieldAddr so59 Sr rfl) (Mf rfl rfl (step_load_ptr ty3 Sr) (Mf rfl rfl (step_call0 (columnT_spec _ _) ⟨Sr, Sr, trivial⟩ call66) ?_)))
  refine Mf rfl rfl (step_literal (ys := [_]) underlying57 el107 ⟨rfl, Sr, trivial⟩ rfl (by decide)) ?_
  refine JM_look rfl rfl rfl rfl (step_load_fld ty57V59 Sr rfl zS) ?_
  refine JM_stepX rfl rfl rfl rfl (step_append underlying57 el107 Sr Sr zS (by have := preT_len r; simp [fixT_len]; omega) (by have := preT_len r; simp [fixT_len]; omega)) fun v90 => ?_
  refine Mf rfl rfl (step_fieldAddr_own so59W Sr rfl) ?_
  refine JM_stepU rfl rfl rfl (step_store_fld (R := rV) (y' := outW r v90) ty57V59 Sr Sr zS (by exact ⟨rfl, rfl, rfl, rfl, rfl, rfl, rfl, rfl, rfl, fun _ _ q => q, rfl, fun _ h => (by cases h)⟩)) fun _ => ?_
  refine JM_nil (Jr ?_)
  refine JL_freeze (t := 3) (Sel.all _) (Frz.up (y := (outW r _).up _) fun h h2 cs l hv q => up59W _ l hv q) ?_
  refine Jl rfl ty59 Sr ?_
  refine Js rfl (step_literal (ys := [_]) underlying22 el59 ⟨rfl, Sr, trivial⟩ rfl (by decide)) ?_
  refine Ja rfl (JL_nil (J_ret ?_))
  refine K_ret1 (t := 2) rfl () ?_
  refine Sub.sl ?_
  have e : q = r.Cols.length := by omega
  have e12 : r.Kind = 1 ∨ r.Kind = 2 := by omega
  simp_all [lowerR, lowT, outW, GRuleW.up, zRule, zRuleW]
 try simp only [NF] at h83
 refine J_skip (Jr ?_)
 refine JL_freeze (t := 3) (Sel.all _) (Frz.up (y := (outW r _).up _) fun h h2 cs l hv q => up59W _ l hv q) ?_
 refine Jl rfl ty59 Sr ?_
 refine Js rfl (step_literal (ys := [_]) underlying22 el59 ⟨rfl, Sr, trivial⟩ rfl (by decide)) ?_
 refine Ja rfl (JL_nil (J_ret ?_))
 refine K_ret1 (t := 2) rfl () ?_
 refine Sub.sl ?_
 have e : q = r.Cols.length := by omega
 have e12 : r.Kind = 1 ∨ r.Kind = 2 := by omega
 simp_all [lowerR, lowT, outW, GRuleW.up, zRule, zRuleW]
open Go Go.Proofs Go.Proofs.Tryz
def sideR (s : GSide) (at_ : List Int) (facts : List GFact) : GValue × Bool :=
  if s.Var = -1 then (s.Value, true)
  else if s.Var < 0 ∨ (at_.length : Int) ≤ s.Var then (zValue, false)
  else if s.Col < 0 ∨ ((nth facts (nth at_ s.Var.toNat).toNat).Row.length : Int) ≤ s.Col then (zValue, false)
  else (nth (nth facts (nth at_ s.Var.toNat).toNat).Row s.Col.toNat, true)
theorem sideR_eq (s : GSide) (at_ : List Int) (facts : List GFact) : sideV s at_.length at_ facts = ((sideR s at_ facts).1, (sideR s at_ facts).2, false) := by
  unfold sideV sideR
  by_cases h1 : s.Var = -1
  · rw [if_pos h1, if_pos h1]
  rw [if_neg h1, if_neg h1]
  by_cases h2 : s.Var < 0 ∨ (at_.length : Int) ≤ s.Var
  · rw [if_pos h2, if_pos h2]
  rw [if_neg h2, if_neg h2, if_neg (fun q => h2 (.inr q))]
  split <;> rfl
def tstR (facts : List GFact) (at_ : List Int) (t : GTest) : Bool := ((sideR t.Left at_ facts).2 && (sideR t.Right at_ facts).2) && testV (sideR t.Left at_ facts).1 t.Op (sideR t.Right at_ facts).1 t.Add
theorem tstR_eq (facts : List GFact) (at_ : List Int) (t : GTest) : tstR facts at_ t = holdsV t at_.length facts at_ := by
  unfold tstR holdsV
  rw [sideR_eq, sideR_eq]
  simp
def tabB (d : GRule) (facts : List GFact) (at_ : List Int) : Bool := (List.range at_.length).all fun i => decide ((nth facts (nth at_ i).toNat).Table = nth d.Tables i)
def holdsR (d : GRule) (facts : List GFact) (at_ : List Int) : Bool := tabB d facts at_ && d.Tests.all (tstR facts at_)
def violM (d : GRule) (facts : List GFact) (set : List Int) : Nat → List Int → Bool
  | 0, at_ => holdsR d facts at_
  | n + 1, at_ => set.any fun c => !at_.contains c && violM d facts set n (at_ ++ [c])
theorem any_range_stop {n i : Nat} {p : Nat → Bool} (hi : i < n) (hp : p i = false) : ((List.range n).all p) = false := by
  rw [← Bool.not_eq_true, List.all_eq_true]
  intro h
  rw [h i (List.mem_range.2 hi)] at hp; cases hp
theorem all_drop {α : Type} [Inhabited α] (p : α → Bool) {l : List α} {i : Nat} (hi : i < l.length) (hp : p (nth l i) = false) : l.all p = false := by
  rw [← Bool.not_eq_true, List.all_eq_true]
  intro h
  rw [h _ (nth_mem hi)] at hp; cases hp
theorem any_take_succ {α : Type} [Inhabited α] (p : α → Bool) {l : List α} {j : Nat} (h : j < l.length) : (l.take (j + 1)).any p = ((l.take j).any p || p (nth l j)) := by rw [takeB h, List.any_append]; simp
theorem any_hit {α : Type} [Inhabited α] {p : α → Bool} {l : List α} {i : Nat} (hi : i < l.length) (hp : p (nth l i) = true) : l.any p = true := List.any_eq_true.2 ⟨_, nth_mem hi, hp⟩
theorem side_spec (s : GSide) (facts : List GFact) (at_ : List Int) (hb : InB at_ facts.length) : Fun1 prog 126 [rSide.ty s, tSl rFact facts, tSl rInt at_] (tTup [rValue.ty (sideR s at_ facts).1, tV (.bool (sideR s at_ facts).2)]) := by
 refine Spec.enter func126 rfl rfl fun h0 w0 fr0 => ?_
 refine Jr (Js rfl (step_box (R := rSide) Sr) ?_)
 refine Jx rfl (step_alloc (fun w => zeroValue91 w) zr91) fun v6 => ?_
 refine Ja rfl (JL_nil (J_seq (Jr (Js rfl (step_fieldAddr so105 Sr rfl) (Jl rfl ty3 Sr ?_)))))
 refine Js rfl (step_eql Sr Sr) (JL_nil ?_)
 refine J_cond Sr (fun h11 => ?_) (fun h11 => ?_)
 ·
  try simp only [NF] at h11
  refine Jr (Js rfl (step_fieldAddr so105 Sr rfl) (Jl rfl ty91 Sr ?_))
  refine Ju (step_store_box ty91 Sr Sr zS) fun _ => ?_
  refine Ja rfl (JL_nil (J_ret ?_))
  refine K_ret2' (rv := .cell 6 91) (rv' := .tmp 7) rfl () (Sel.all _) (.cell ty91 Sr zS Sr) (.tmp Sr) (Frz.sub ?_) (Frz.sub ?_) Sr
  ·
   rw [sideR, if_pos h11]; exact Sr
  rw [sideR, if_pos h11]; exact Sr
 try simp only [NF] at h11
 refine J_skip (J_seq (Jr (Js rfl (step_fieldAddr so105 Sr rfl) (Jl rfl ty3 Sr (Js rfl (step_lss Sr Sr) ?_)))))
 refine Jm rfl ?_
 refine Jk rfl Sr rfl (step_fieldAddr so105 Sr rfl) ?_
 refine Jg rfl Sr rfl (fun hw => step_load_ptr ty3 (Sub.w hw)) ?_
 refine Jk rfl Sr rfl (step_move Sr) ?_
 refine Jg rfl Sr rfl (fun hw => step_len_sl underlying33 (Sub.w hw)) (Jg rfl Sr rfl (fun hw => step_geq (Sub.w hw) (Sub.w hw)) (Js rfl (step_pick_or Sr Sr) (JL_nil ?_)))
 refine J_cond Sr (fun h23 => ?_) (fun h23 => ?_)
 ·
  try simp only [NF] at h23
  refine Jr (Js rfl (step_build (x := (zValue : GValue)) (zs := [[Value.int .i64 0], [Value.int .i64 0], [Value.string ⟨#[]⟩]]) so91 (fun w => zeroValue91 w) trivial ⟨fun _ => rfl, fun _ => rfl, fun _ => rfl, trivial⟩) ?_)
  refine Ju (step_store_box ty91 Sr Sr zS) fun _ => ?_
  refine Ja rfl (JL_nil (J_ret ?_))
  refine K_ret2' (rv := .cell 6 91) (rv' := .tmp 7) rfl () (Sel.all _) (.cell ty91 Sr zS Sr) (.tmp Sr) (Frz.sub ?_) (Frz.sub ?_) Sr
  ·
   rw [sideR, if_neg h11, if_pos h23]; exact Sr
  rw [sideR, if_neg h11, if_pos h23]; exact Sr
 try simp only [NF] at h23
 have hv : s.Var.toNat < at_.length := by omega
 have hn2 : ¬ (s.Var < 0 ∨ (at_.length : Int) ≤ s.Var) := by omega
 have hbv := hb _ (nth_mem hv)
 refine J_skip (Jr (Jm rfl (Jm rfl (Js rfl (step_fieldAddr so105 Sr rfl) (Jl rfl ty3 Sr ?_)))))
 refine Js rfl (step_indexAddr_sl (i := s.Var.toNat) underlying33 ty3 Sr Sr (by show s.Var = _; omega) (gb zG)) ?_
 refine Jl rfl ty3 Sr ?_
 refine Js rfl (step_indexAddr_sl (i := (nth at_ s.Var.toNat).toNat) underlying41 ty35 Sr Sr (by show (nth at_ s.Var.toNat) = _; omega) (gb zG)) ?_
 refine Js rfl (step_fieldAddr so35 Sr rfl) (Jl rfl ty32 Sr (Ja rfl (JL_nil (J_seq (Jr ?_)))))
 refine Js rfl (step_fieldAddr so105 Sr rfl) (Jl rfl ty3 Sr (Js rfl (step_lss Sr Sr) (Jm rfl ?_)))
 refine Jk rfl Sr rfl (step_fieldAddr so105 Sr rfl) ?_
 refine Jg rfl Sr rfl (fun hw => step_load_ptr ty3 (Sub.w hw)) ?_
 refine Jk rfl Sr rfl (step_move Sr) ?_
 refine Jg rfl Sr rfl (fun hw => step_len_sl underlying32 (Sub.w hw)) (Jg rfl Sr rfl (fun hw => step_geq (Sub.w hw) (Sub.w hw)) (Js rfl (step_pick_or Sr Sr) (JL_nil ?_)))
 refine J_cond Sr (fun h43 => ?_) (fun h43 => ?_)
 ·
  try simp only [NF] at h43
  refine Jr (Js rfl (step_build (x := (zValue : GValue)) (zs := [[Value.int .i64 0], [Value.int .i64 0], [Value.string ⟨#[]⟩]]) so91 (fun w => zeroValue91 w) trivial ⟨fun _ => rfl, fun _ => rfl, fun _ => rfl, trivial⟩) ?_)
  refine Ju (step_store_box ty91 Sr Sr zS) fun _ => ?_
  refine Ja rfl (JL_nil (J_ret ?_))
  refine K_ret2' (rv := .cell 6 91) (rv' := .tmp 7) rfl () (Sel.all _) (.cell ty91 Sr zS Sr) (.tmp Sr) (Frz.sub ?_) (Frz.sub ?_) Sr
  ·
   rw [sideR, if_neg h11, if_neg hn2, if_pos h43]; exact Sr
  rw [sideR, if_neg h11, if_neg hn2, if_pos h43]; exact Sr
 try simp only [NF] at h43
 have hn3 : ¬ (s.Col < 0 ∨ ((nth facts (nth at_ s.Var.toNat).toNat).Row.length : Int) ≤ s.Col) := by omega
 refine J_skip (Jr (Jm rfl (Js rfl (step_fieldAddr so105 Sr rfl) (Jl rfl ty3 Sr ?_))))
 refine Js rfl (step_indexAddr_sl (i := s.Col.toNat) underlying32 ty91 Sr Sr (by show s.Col = _; omega) (gb (by show s.Col.toNat < (nth facts (nth at_ s.Var.toNat).toNat).Row.length; omega))) ?_
 refine Jl rfl ty91 Sr ?_
 refine Ju (step_store_box ty91 Sr Sr zS) fun _ => ?_
 refine Ja rfl (JL_nil (J_ret ?_))
 refine K_ret2' (rv := .cell 6 91) (rv' := .tmp 7) rfl () (Sel.all _) (.cell ty91 Sr zS Sr) (.tmp Sr) (Frz.sub ?_) (Frz.sub ?_) Sr
 ·
  rw [sideR, if_neg h11, if_neg hn2, if_neg hn3]; exact Sr
 rw [sideR, if_neg h11, if_neg hn2, if_neg hn3]; exact Sr
theorem holdsR_spec (d : GRule) (facts : List GFact) (at_ : List Int) (hb : InB at_ facts.length) (hl : at_.length ≤ d.Tables.length) (hal : at_.length ≤ 1000000) (hte : d.Tests.length ≤ 4000000) : Fun1 prog 103 [rRule.ty d, tSl rFact facts, tSl rInt at_] (tV (.bool (holdsR d facts at_))) := by
 refine Spec.enter func103 rfl rfl fun h0 w0 fr0 => ?_
 refine Jr (Js rfl (step_box (R := rRule) Sr) (Ja rfl (JL_nil (J_seq (Jr ?_)))))
 refine Ja rfl (JL_nil (J_block ?_))
 refine J_loopL (σ := Nat) (fun i => i ≤ at_.length ∧ ∀ q, q < i → decide ((nth facts (nth at_ q).toNat).Table = nth d.Tables q) = true) (fun i => upd (upd (upd (upd env0 1 (tSl rFact facts)) 2 (tSl rInt at_)) 3 (tPtr rRule d)) 7 (tV (.int .i64 i))) (fun i => []) (fun i => at_.length - i) 0 ⟨by omega, fun q hq => by omega⟩ (zU) (LSub.rfl) ?_
 rintro i ⟨hi, hv⟩
 refine J_seq (Jr (Jm rfl (Jm rfl (Js rfl (step_len_sl underlying33 Sr) (Js rfl (step_lss Sr Sr) ?_)))))
 refine JL_nil ?_
 refine J_cond Sr (fun h17 => ?_) (fun h17 => ?_)
 ·
  try simp only [NF] at h17
  have hlt : i < at_.length := by omega
  have hbv := hb _ (nth_mem hlt)
  refine J_skip (J_seq (J_block (J_seq ?_)))
  refine J_draw [⟨0, [1], true⟩, ⟨1, [2], true⟩, ⟨2, [7], true⟩, ⟨3, [21, 22], true⟩, ⟨4, [23], true⟩, ⟨5, [20, 24], true⟩, ⟨6, [25], true⟩, ⟨7, [26], true⟩, ⟨8, [3], true⟩, ⟨9, [28], true⟩, ⟨10, [7], true⟩, ⟨11, [29, 30], true⟩, ⟨12, [31], true⟩, ⟨13, [27, 32], true⟩] rfl (by kernel_rfl) ?_
  refine Mv rfl rfl (Mv rfl rfl (Mv rfl rfl ?_))
  refine Mf rfl rfl (step_indexAddr_sl  underlying33 ty3 Sr Sr rfl (gb (by exact hlt))) ?_
  refine Mf rfl rfl (step_load_ptr ty3 Sr) ?_
  refine Mf rfl rfl (step_indexAddr_sl (i := (nth at_ i).toNat) underlying41 ty35 Sr Sr (by show (nth at_ i) = _; omega) (gb zG)) ?_
  refine Mf rfl rfl (step_fieldAddr so35 Sr rfl) (Mf rfl rfl (step_load_ptr ty3 Sr) (Mf rfl rfl (step_fieldAddr so59 Sr rfl) (Mf rfl rfl (step_load_ptr ty33 Sr) (Mv rfl rfl ?_))))
  refine Mf rfl rfl (step_indexAddr_sl  underlying33 ty3 Sr Sr rfl (gb (by show i < d.Tables.length; omega))) ?_
  refine Mf rfl rfl (step_load_ptr ty3 Sr) (Mf rfl rfl (step_neq Sr Sr) (JM_nil ?_))
  refine J_cond Sr (fun h33 => ?_) (fun h33 => ?_)
  ·
   try simp only [NF] at h33
   refine Jr (Ja rfl (JL_nil (J_ret ?_)))
   refine K_retv (rv := .tmp 6) rfl () (.tmp Sr) (Sub.bool ?_)
   have hb2 : tabB d facts at_ = false := any_range_stop hlt (by simpa using h33)
   rw [holdsR, hb2]; rfl
  try simp only [NF] at h33
  refine J_skip (J_region (Jm rfl (Js rfl (step_add Sr Sr z6) (Ja rfl (JL_nil ?_)))))
  refine K_againL (σ := Nat) (s := i) (i + 1) zO ?_ (zU) (LSub.rfl)
  refine ⟨by omega, fun q hq => ?_⟩
  by_cases e : q = i
  ·
   subst e; simpa using h33
  exact hv q zG
 try simp only [NF] at h17
 refine J_exit (J_seq (Jr (Ja rfl (JL_nil (J_block ?_)))))
 refine J_loopL (σ := Nat) (fun j => j ≤ d.Tests.length ∧ ∀ q, q < j → tstR facts at_ (nth d.Tests q) = true) (fun j => upd (upd (upd (upd env0 1 (tSl rFact facts)) 2 (tSl rInt at_)) 3 (tPtr rRule d)) 8 (tV (.int .i64 j))) (fun j => []) (fun j => d.Tests.length - j) 0 ⟨by omega, fun q hq => by omega⟩ (zU) (LSub.rfl) ?_
 rintro j ⟨hj, hw2⟩
 refine J_seq (Jr (Jm rfl (Js rfl (step_fieldAddr so59 Sr rfl) (Jl rfl ty57 Sr (Js rfl (step_len_sl underlying57 Sr) ?_)))))
 refine Js rfl (step_lss Sr Sr) (JL_nil ?_)
 refine J_cond Sr (fun h38 => ?_) (fun h38 => ?_)
 ·
  try simp only [NF] at h38
  have hlj : j < d.Tests.length := by omega
  refine J_skip (J_seq (J_block (Jr (Js rfl (step_fieldAddr so59 Sr rfl) (Jl rfl ty57 Sr ?_)))))
  refine Jm rfl ?_
  refine Js rfl (step_indexAddr_sl  underlying57 ty107 Sr Sr rfl (gb (by show j < d.Tests.length; exact hlj))) ?_
  refine Jl rfl ty107 Sr ?_
  refine Jx rfl (step_alloc (fun w => zeroValue107 w) zr107) fun v9 => ?_
  refine Ju (step_store_box ty107 Sr Sr zS) fun _ => ?_
  refine JL_freeze (t := 9) (Sel.take (Sel.none _)) Frz.box ?_
  refine JL_nil (Jr (Js rfl (step_fieldAddr so107 Sr rfl) (Jl rfl ty105 Sr (Jm rfl (Jm rfl ?_)))))
  refine Js rfl (step_call0 (side_spec _ _ _ hb) ⟨Sr, Sr, Sr, trivial⟩ call126) (Jm rfl (Js rfl (step_extract Sr rfl) (Js rfl (step_extract Sr rfl) ?_)))
  refine Jx rfl (step_alloc (fun w => zeroValue91 w) zr91) fun v10 => ?_
  refine Ju (step_store_box ty91 Sr Sr zS) fun _ => ?_
  refine JL_freeze (t := 10) (Sel.take (Sel.none _)) Frz.box ?_
  refine Ja rfl (JL_nil (Jr (Js rfl (step_fieldAddr so107 Sr rfl) (Jl rfl ty105 Sr (Jm rfl ?_)))))
  refine Jm rfl (Js rfl (step_call0 (side_spec _ _ _ hb) ⟨Sr, Sr, Sr, trivial⟩ call126) (Jm rfl (Js rfl (step_extract Sr rfl) (Js rfl (step_extract Sr rfl) ?_))))
  refine Jx rfl (step_alloc (fun w => zeroValue91 w) zr91) fun v12 => ?_
  refine Ju (step_store_box ty91 Sr Sr zS) fun _ => ?_
  refine JL_freeze (t := 12) (Sel.take (Sel.none _)) Frz.box ?_
  refine Ja rfl (JL_nil (Jr (Jm rfl (Js rfl (step_not Sr) (Jm rfl ?_)))))
  refine Jk rfl Sr rfl (step_move Sr) ?_
  refine Jg rfl Sr rfl (fun hw => step_not (Sub.w hw)) (Js rfl (step_pick_or Sr Sr) (Jm rfl ?_))
  refine Jk rfl Sr rfl (step_load_ptr ty91 Sr) ?_
  refine Jk rfl Sr rfl (step_fieldAddr so107 Sr rfl) ?_
  refine Jg rfl Sr rfl (fun hw => step_load_ptr ty3 (Sub.w hw)) ?_
  refine Jk rfl Sr rfl (step_load_ptr ty91 Sr) ?_
  refine Jk rfl Sr rfl (step_fieldAddr so107 Sr rfl) ?_
  refine Jg rfl Sr rfl (fun hw => step_load_ptr ty3 (Sub.w hw)) (Jg rfl Sr rfl (fun hw => step_call0 (TestR_spec _ _ _ _) ⟨(Sub.w hw), (Sub.w hw), (Sub.w hw), (Sub.w hw), trivial⟩ call95) (Jg rfl Sr rfl (fun hw => step_not (Sub.w hw)) (Js rfl (step_pick_or Sr Sr) (JL_nil ?_))))
  refine J_cond Sr (fun h77 => ?_) (fun h77 => ?_)
  ·
   try simp only [NF] at h77
   refine Jr (Ja rfl (JL_nil (J_ret ?_)))
   refine K_retv (rv := .tmp 6) rfl () (.tmp Sr) (Sub.bool ?_)
   have hb2 : tstR facts at_ (nth d.Tests j) = false := by simp only [tstR]; rcases h77 with (h | h) | h <;> simp [h]
   rw [holdsR, all_drop _ hlj hb2, Bool.and_false]
  try simp only [NF] at h77
  refine J_skip (J_region (Jm rfl (Js rfl (step_add Sr Sr z6) (Ja rfl (JL_nil ?_)))))
  refine K_againL (σ := Nat) (s := j) (j + 1) zO ?_ (zU) (LSub.rfl)
  refine ⟨by omega, fun q hq => ?_⟩
  by_cases e : q = j
  ·
   subst e; simp only [tstR]; simp_all
  exact hw2 q zG
 try simp only [NF] at h38
 refine J_exit (Jr (Ja rfl (JL_nil (J_ret ?_))))
 refine K_retv (rv := .tmp 6) rfl () (.tmp Sr) (Sub.bool ?_)
 have h1 : tabB d facts at_ = true := by
  simp only [tabB, List.all_eq_true, List.mem_range]
  exact fun q hq => hv q zG
 have h2 : d.Tests.all (tstR facts at_) = true := by
  rw [List.all_eq_true]
  intro t ht
  obtain ⟨q, hq, rfl⟩ := mem_nth ht
  exact hw2 q zG
 rw [holdsR, h1, h2]; rfl
theorem viol0_spec (d : GRule) (facts : List GFact) (set : List Int) (hs : InB set facts.length) (hsl : set.length ≤ 1000000) (htl : d.Tables.length ≤ 1000) (hte : d.Tests.length ≤ 4000000) (at_ : List Int) (hn : at_.length = d.Tables.length) (hb : InB at_ facts.length) : Fun1 prog 76 [rRule.ty d, tSl rFact facts, tSl rInt set, tSl rInt at_] (tV (.bool (violM d facts set 0 at_))) := by
 refine Spec.enter func76 rfl rfl fun h0 w0 fr0 => ?_
 refine Jr (Js rfl (step_box (R := rRule) Sr) (Ja rfl (JL_nil (J_seq (Jr ?_)))))
 refine Jm rfl (Js rfl (step_len_sl underlying33 Sr) (Js rfl (step_fieldAddr so59 Sr rfl) (Jl rfl ty33 Sr (Js rfl (step_len_sl underlying33 Sr) (Js rfl (step_eql Sr Sr) ?_)))))
 refine JL_nil ?_
 refine J_cond Sr (fun h15 => ?_) (fun h15 => ?_)
 ·
  try simp only [NF] at h15
  refine Jr (Jl rfl ty59 Sr (Jm rfl (Jm rfl (Js rfl (step_call0 (holdsR_spec _ _ _ hb zG zG hte) ⟨Sr, Sr, Sr, trivial⟩ call103) (Ja rfl ?_)))))
  refine JL_nil (J_ret ?_)
  refine K_retv (rv := .tmp 8) rfl () (.tmp Sr) Sr
 try simp only [NF] at h15
 exfalso; omega
theorem violS_spec (d : GRule) (facts : List GFact) (set : List Int) (hs : InB set facts.length) (hsl : set.length ≤ 1000000) (htl : d.Tables.length ≤ 1000) (hte : d.Tests.length ≤ 4000000) (n : Nat) (IH : ∀ at_ : List Int, at_.length + n = d.Tables.length → InB at_ facts.length → Fun1 prog 76 [rRule.ty d, tSl rFact facts, tSl rInt set, tSl rInt at_] (tV (.bool (violM d facts set n at_)))) (at_ : List Int) (hn : at_.length + (n + 1) = d.Tables.length) (hb : InB at_ facts.length) : Fun1 prog 76 [rRule.ty d, tSl rFact facts, tSl rInt set, tSl rInt at_] (tV (.bool (violM d facts set (n + 1) at_))) := by
 refine Spec.enter func76 rfl rfl fun h0 w0 fr0 => ?_
 refine Jr (Js rfl (step_box (R := rRule) Sr) (Ja rfl (JL_nil (J_seq (Jr ?_)))))
 refine Jm rfl (Js rfl (step_len_sl underlying33 Sr) (Js rfl (step_fieldAddr so59 Sr rfl) (Jl rfl ty33 Sr (Js rfl (step_len_sl underlying33 Sr) (Js rfl (step_eql Sr Sr) ?_)))))
 refine JL_nil ?_
 refine J_cond Sr (fun h15 => ?_) (fun h15 => ?_)
 ·
  try simp only [NF] at h15
  exfalso; omega
 try simp only [NF] at h15
 refine J_skip (J_seq (Jr (Ja rfl (JL_nil (J_block ?_)))))
 refine J_loopL (σ := Nat) (fun i => i ≤ set.length ∧ (set.take i).any (fun c => !at_.contains c && violM d facts set n (at_ ++ [c])) = false) (fun i => upd (upd (upd (upd (upd env0 1 (tSl rFact facts)) 2 (tSl rInt set)) 3 (tSl rInt at_)) 4 (tPtr rRule d)) 9 (tV (.int .i64 i))) (fun i => []) (fun i => set.length - i) 0 ⟨by omega, by simp⟩ (zU) (LSub.rfl) ?_
 rintro i ⟨hi, hv⟩
 refine J_seq (Jr (Jm rfl (Jm rfl (Js rfl (step_len_sl underlying33 Sr) (Js rfl (step_lss Sr Sr) ?_)))))
 refine JL_nil ?_
 refine J_cond Sr (fun h23 => ?_) (fun h23 => ?_)
 ·
  try simp only [NF] at h23
  have hlt : i < set.length := by omega
  obtain ⟨hc0, hc1⟩ := hs _ (nth_mem hlt)
  refine J_skip (J_seq (J_block (J_seq (Jr (Jm rfl ?_)))))
  refine Jm rfl (Jm rfl ?_)
  refine Js rfl (step_indexAddr_sl  underlying33 ty3 Sr Sr rfl (gb (by exact hlt))) ?_
  refine Jl rfl ty3 Sr (Js rfl (step_call0 (In_spec _ _ zG) ⟨Sr, Sr, trivial⟩ call24) (JL_nil ?_))
  refine J_cond Sr (fun h31 => ?_) (fun h31 => ?_)
  ·
   try simp only [NF] at h31
   refine J_exit (J_region (Jm rfl (Js rfl (step_add Sr Sr z6) (Ja rfl (JL_nil ?_)))))
   refine K_againL (σ := Nat) (s := i) (i + 1) zO ?_ (zU) (LSub.rfl)
   refine ⟨by omega, ?_⟩
   rw [any_take_succ _ hlt, hv]; simp only [h31]; rfl
  try simp only [NF] at h31
  refine J_skip (J_seq ?_)
  refine J_draw [⟨0, [4], true⟩, ⟨1, [1], true⟩, ⟨2, [2], true⟩, ⟨4, [3], true⟩, ⟨6, [2], true⟩, ⟨7, [9], true⟩, ⟨8, [38, 39], true⟩, ⟨9, [40], true⟩, ⟨10, [41], true⟩, ⟨3, [], false⟩, ⟨5, [35, 36], false⟩, ⟨11, [37, 42], false⟩, ⟨12, [32, 33, 34, 43], false⟩] rfl (by kernel_rfl) ?_
  refine Mf rfl rfl (step_load_ptr ty59 Sr) (Mv rfl rfl (Mv rfl rfl (Mv rfl rfl (Mv rfl rfl (Mv rfl rfl ?_)))))
  refine Mf rfl rfl (step_indexAddr_sl  underlying33 ty3 Sr Sr rfl (gb (by exact hlt))) ?_
  refine Mf rfl rfl (step_load_ptr ty3 Sr) ?_
  refine Mf rfl rfl (step_literal (ys := [_]) underlying33 el3 ⟨rfl, Sr, trivial⟩ rfl (by decide)) ?_
  refine JM_stepX rfl rfl rfl rfl (step_literal_own (ys := []) underlying33 el3 trivial rfl (by decide)) fun v35 => ?_
  refine JM_stepX rfl rfl rfl rfl (step_append underlying33 el3 Sr Sr zS (by simp; omega) (by simp; omega)) fun v37 => ?_
  refine JM_stepX rfl rfl rfl rfl (step_append underlying33 el3 Sr Sr zS (by simp; omega) (by simp; omega)) fun v43 => ?_
  refine JM_look rfl rfl rfl rfl (step_call_look (Sel.take (Sel.none _)) (IH (at_ ++ [(nth set i)]) (by simp; omega) (InB_snoc hb hc0 hc1)) (fun _ => Flat.v _) ⟨Frz.sub Sr, Frz.sub Sr, Frz.sub Sr, Frz.own' (by simp), trivial⟩ call76) ?_
  refine JM_nil ?_
  refine J_cond Sr (fun h44 => ?_) (fun h44 => ?_)
  ·
   try simp only [NF] at h44
   refine Jr (Ja rfl (JL_nil (J_ret ?_)))
   refine K_drop (Sel.all _) ?_
   refine K_retv (rv := .tmp 8) rfl () (.tmp Sr) (Sub.bool ?_)
   exact (any_hit (p := (fun c => !at_.contains c && violM d facts set n (at_ ++ [c]))) hlt (by simp only [h31, h44]; rfl)).symm
  try simp only [NF] at h44
  refine J_skip (J_region (Jm rfl (Js rfl (step_add Sr Sr z6) (Ja rfl (JL_nil ?_)))))
  refine K_drop (Sel.all _) ?_
  refine K_againL (σ := Nat) (s := i) (i + 1) zO ?_ (zU) (LSub.rfl)
  refine ⟨by omega, ?_⟩
  rw [any_take_succ _ hlt, hv]; simp only [h44, Bool.and_false]; rfl
 try simp only [NF] at h23
 refine J_exit (Jr (Ja rfl (JL_nil (J_ret ?_))))
 refine K_retv (rv := .tmp 8) rfl () (.tmp Sr) (Sub.bool ?_)
 rw [List.take_of_length_le zG] at hv
 exact hv.symm
theorem viol_spec (d : GRule) (facts : List GFact) (set : List Int) (hs : InB set facts.length) (hsl : set.length ≤ 1000000) (htl : d.Tables.length ≤ 1000) (hte : d.Tests.length ≤ 4000000) (n : Nat) :
    ∀ at_ : List Int, at_.length + n = d.Tables.length → InB at_ facts.length → Fun1 prog 76 [rRule.ty d, tSl rFact facts, tSl rInt set, tSl rInt at_] (tV (.bool (violM d facts set n at_))) := by
  induction n with
  | zero => exact fun at_ h1 h2 => viol0_spec d facts set hs hsl htl hte at_ h1 h2
  | succ n ih => exact fun at_ h1 h2 => violS_spec d facts set hs hsl htl hte n ih at_ h1 h2
open Go Go.Proofs Go.Proofs.Tryz
def pairP (facts : List GFact) (set : List Int) (i k : Nat) : Bool := exclB (nth facts (nth set i).toNat) (nth facts (nth set k).toNat)
def ruleB (facts : List GFact) (set : List Int) (r : GRule) : Bool :=
  ((decide (((lowerR r).length : Int) = 1) && decide (((nth (lowerR r) 0).Tables.length : Int) ≥ 1)) && decide (((nth (lowerR r) 0).Tables.length : Int) ≤ 3)) && violM (nth (lowerR r) 0) facts set (nth (lowerR r) 0).Tables.length []
/-- Two of the set exclude each other. -/
def clashP (facts : List GFact) (set : List Int) : Prop := ∃ i k, k < i ∧ i < set.length ∧ pairP facts set i k = true
noncomputable def goodM (rules : List GRule) (facts : List GFact) (set : List Int) : Bool := @decide (¬ clashP facts set ∧ rules.any (ruleB facts set) = false) (Classical.propDecidable _)
theorem goodM_iff {rules : List GRule} {facts : List GFact} {set : List Int} : goodM rules facts set = true ↔ ¬ clashP facts set ∧ rules.any (ruleB facts set) = false := by
  unfold goodM; exact @decide_eq_true_iff _ (Classical.propDecidable _)
theorem goodM_no {rules : List GRule} {facts : List GFact} {set : List Int} (h : ¬ (¬ clashP facts set ∧ rules.any (ruleB facts set) = false)) : goodM rules facts set = false := by
  rw [← Bool.not_eq_true, goodM_iff]; exact h
theorem lowerR_tests {r : GRule} (hr : r.Fixed.length ≤ 1000000 ∧ r.Cols.length ≤ 1000000) (ht : r.Tests.length ≤ 900000) : ∀ d ∈ lowerR r, d.Tests.length ≤ 4000000 := fun d hd => by
  have := (lowerR_deny hd).2
  omega
theorem good_spec (rules : List GRule) (facts : List GFact) (set : List Int) (hs : InB set facts.length) (hsl : set.length ≤ 1000000) (hr : ∀ r ∈ rules, (r.Fixed.length ≤ 1000000 ∧ r.Cols.length ≤ 1000000) ∧ r.Tests.length ≤ 900000) (hrl : rules.length ≤ 1000000) : Fun1 prog 57 [tSl rRule rules, tSl rFact facts, tSl rInt set] (tV (.bool (goodM rules facts set))) := by
 refine Spec.enter func57 rfl rfl fun h0 w0 fr0 => ?_
 refine Jr (Ja rfl (JL_nil (J_seq (Jr (Ja rfl ?_)))))
 refine JL_nil (J_block ?_)
 refine J_loopL (σ := Nat) (fun i => i ≤ set.length ∧ ∀ a b, b < a → a < i → pairP facts set a b = false) (fun i => upd (upd (upd (upd env0 0 (tSl rRule rules)) 1 (tSl rFact facts)) 2 (tSl rInt set)) 7 (tV (.int .i64 i))) (fun i => []) (fun i => set.length - i) 0 ⟨by omega, fun a b h1 h2 => by omega⟩ (zU) (LSub.rfl) ?_
 rintro i ⟨hi, hv⟩
 refine J_seq (Jr (Jm rfl (Jm rfl (Js rfl (step_len_sl underlying33 Sr) (Js rfl (step_lss Sr Sr) ?_)))))
 refine JL_nil ?_
 refine J_cond Sr (fun h14 => ?_) (fun h14 => ?_)
 ·
  try simp only [NF] at h14
  have hlt : i < set.length := by omega
  have hbi := hs _ (nth_mem hlt)
  refine J_skip (J_seq (J_block (Jr (Ja rfl (JL_nil ?_)))))
  refine J_block ?_
  refine J_loopL (σ := Nat) (fun k => k ≤ i ∧ ∀ b, b < k → pairP facts set i b = false) (fun k => upd (upd (upd (upd (upd (upd (upd env0 0 (tSl rRule rules)) 1 (tSl rFact facts)) 2 (tSl rInt set)) 7 (tV (.int .i64 i))) 8 (tV (.int .i64 k))) 11 (tV (.int .i64 i))) 12 (tSl rInt set)) (fun k => []) (fun k => i - k) 0 ⟨by omega, fun b h => by omega⟩ (zU) (LSub.rfl) ?_
  rintro k ⟨hk, hv2⟩
  refine J_seq (Jr (Jm rfl (Jm rfl (Js rfl (step_lss Sr Sr) (JL_nil ?_)))))
  refine J_cond Sr (fun h19 => ?_) (fun h19 => ?_)
  ·
   try simp only [NF] at h19
   have hlk : k < i := by omega
   have hlk2 : k < set.length := by omega
   have hbk := hs _ (nth_mem hlk2)
   refine J_skip (J_seq (J_block (J_seq ?_)))
   refine J_draw [⟨0, [1], true⟩, ⟨1, [2], true⟩, ⟨2, [7], true⟩, ⟨3, [23, 24], true⟩, ⟨4, [25], true⟩, ⟨5, [22, 26], true⟩, ⟨6, [27], true⟩, ⟨7, [1], true⟩, ⟨8, [2], true⟩, ⟨9, [8], true⟩, ⟨10, [30, 31], true⟩, ⟨11, [32], true⟩, ⟨12, [29, 33], true⟩, ⟨13, [34], true⟩, ⟨14, [28, 35], true⟩] rfl (by kernel_rfl) ?_
   refine Mv rfl rfl (Mv rfl rfl (Mv rfl rfl ?_))
   refine Mf rfl rfl (step_indexAddr_sl  underlying33 ty3 Sr Sr rfl (gb (by exact hlt))) ?_
   refine Mf rfl rfl (step_load_ptr ty3 Sr) ?_
   refine Mf rfl rfl (step_indexAddr_sl (i := (nth set i).toNat) underlying41 ty35 Sr Sr (by show nth set i = _; omega) (gb zG)) ?_
   refine Mf rfl rfl (step_load_ptr ty35 Sr) (Mv rfl rfl (Mv rfl rfl (Mv rfl rfl ?_)))
   refine Mf rfl rfl (step_indexAddr_sl  underlying33 ty3 Sr Sr rfl (gb (by exact hlk2))) ?_
   refine Mf rfl rfl (step_load_ptr ty3 Sr) ?_
   refine Mf rfl rfl (step_indexAddr_sl (i := (nth set k).toNat) underlying41 ty35 Sr Sr (by show nth set k = _; omega) (gb zG)) ?_
   refine Mf rfl rfl (step_load_ptr ty35 Sr) (Mf rfl rfl (step_call0 (exclude_spec _ _) ⟨Sr, Sr, trivial⟩ call75) (JM_nil ?_))
   refine J_cond Sr (fun h36 => ?_) (fun h36 => ?_)
   ·
    try simp only [NF] at h36
    refine Jr (Ja rfl (JL_nil (J_ret ?_)))
    refine K_retv (rv := .tmp 6) rfl () (.tmp Sr) (Sub.bool ?_)
    exact (goodM_no fun q => q.1 ⟨i, k, hlk, hlt, h36⟩).symm
   try simp only [NF] at h36
   refine J_skip (J_region (Jm rfl (Js rfl (step_add Sr Sr z6) (Ja rfl (JL_nil ?_)))))
   refine K_againL (σ := Nat) (s := k) (k + 1) zO ?_ (zU) (LSub.rfl)
   refine ⟨by omega, fun b hb => ?_⟩
   by_cases e : b = k
   ·
    subst e; exact h36
   exact hv2 b zG
  try simp only [NF] at h19
  refine J_exit (J_region (Jm rfl (Js rfl (step_add Sr Sr z6) (Ja rfl (JL_nil ?_)))))
  refine K_againL (σ := Nat) (s := i) (i + 1) zO ?_ (zU) (LSub.rfl)
  refine ⟨by omega, fun a b h1 h2 => ?_⟩
  by_cases e : a = i
  ·
   subst e; exact hv2 b zG
  exact hv a b h1 zG
 try simp only [NF] at h14
 refine J_exit (J_seq (Jr (Ja rfl (JL_nil (J_block ?_)))))
 refine J_loopL (σ := Nat) (fun q => q ≤ rules.length ∧ (rules.take q).any (ruleB facts set) = false) (fun q => upd (upd (upd (upd env0 0 (tSl rRule rules)) 1 (tSl rFact facts)) 2 (tSl rInt set)) 9 (tV (.int .i64 q))) (fun q => []) (fun q => rules.length - q) 0 ⟨by omega, by simp⟩ (zU) (LSub.rfl) ?_
 rintro q ⟨hq, hv3⟩
 refine J_seq (Jr (Jm rfl (Jm rfl (Js rfl (step_len_sl underlying22 Sr) (Js rfl (step_lss Sr Sr) ?_)))))
 refine JL_nil ?_
 refine J_cond Sr (fun h40 => ?_) (fun h40 => ?_)
 ·
  try simp only [NF] at h40
  have hlq : q < rules.length := by omega
  have hrq := hr _ (nth_mem hlq)
  refine J_skip (J_seq (J_block (Jr (Jm rfl (Jm rfl ?_)))))
  refine Js rfl (step_indexAddr_sl  underlying22 ty59 Sr Sr rfl (gb (by exact hlq))) ?_
  refine Jl rfl ty59 Sr (Js rfl (step_call0 (LowerR_spec (nth rules q) hrq.1.1 hrq.1.2) ⟨Sr, trivial⟩ call47) (Ja rfl (JL_nil (Jr (Jm rfl ?_)))))
  refine Js rfl (step_len_sl underlying22 Sr) (Js rfl (step_eql Sr Sr) (Jm rfl ?_))
  refine Jk rfl Sr rfl (step_move Sr) ?_
  refine Jg rfl Sr rfl (fun hw => step_indexAddr_sl (i := 0) underlying22 ty59 (Sub.w hw) Sr (by rfl) (gb (by have hwq := hw; (try simp only [beqB_t, beqB_f, NF] at hwq); omega))) ?_
  refine Jg rfl Sr rfl (fun hw => step_fieldAddr so59 (Sub.w hw) rfl) (Jg rfl Sr rfl (fun hw => step_load_ptr ty33 (Sub.w hw)) (Jg rfl Sr rfl (fun hw => step_len_sl underlying33 (Sub.w hw)) (Jg rfl Sr rfl (fun hw => step_geq (Sub.w hw) Sr) (Js rfl (step_pick_and Sr Sr) (Jm rfl ?_)))))
  refine Jk rfl Sr rfl (step_move Sr) ?_
  refine Jg rfl Sr rfl (fun hw => step_indexAddr_sl (i := 0) underlying22 ty59 (Sub.w hw) Sr (by rfl) (gb (by have hwq := hw; (try simp only [beqB_t, beqB_f, NF] at hwq); omega))) ?_
  refine Jg rfl Sr rfl (fun hw => step_fieldAddr so59 (Sub.w hw) rfl) (Jg rfl Sr rfl (fun hw => step_load_ptr ty33 (Sub.w hw)) (Jg rfl Sr rfl (fun hw => step_len_sl underlying33 (Sub.w hw)) (Jg rfl Sr rfl (fun hw => step_leq (Sub.w hw) Sr) (Js rfl (step_pick_and Sr Sr) (Jm rfl ?_)))))
  refine Jk rfl Sr rfl (step_move Sr) ?_
  refine Jg rfl Sr rfl (fun hw => step_indexAddr_sl (i := 0) underlying22 ty59 (Sub.w hw) Sr (by rfl) (gb (by have hwq := hw; (try simp only [beqB_t, beqB_f, NF] at hwq); omega))) ?_
  refine Jg rfl Sr rfl (fun hw => step_load_ptr ty59 (Sub.w hw)) ?_
  refine Jk rfl Sr rfl (step_move Sr) ?_
  refine Jk rfl Sr rfl (step_move Sr) ?_
  refine Jg rfl Sr rfl (fun hw => step_call0 (viol_spec (nth (lowerR (nth rules q)) 0) facts set hs hsl (by have hq := hw; simp only [beqB_t, beqB_f, Bool.and_eq_true, decide_eq_true_eq] at hq; omega) (lowerR_tests hrq.1 hrq.2 _ (nth_mem (by have hq := hw; simp only [beqB_t, beqB_f, Bool.and_eq_true, decide_eq_true_eq] at hq; omega))) (nth (lowerR (nth rules q)) 0).Tables.length [] (by simp) (fun a h => by cases h)) ⟨Sub.w hw, Sub.w hw, Sub.w hw, Sub.nilsl, trivial⟩ call76) ?_
  refine Js rfl (step_pick_and Sr Sr) (JL_nil ?_)
  refine J_cond Sr (fun h74 => ?_) (fun h74 => ?_)
  ·
   try simp only [NF] at h74
   refine Jr (Ja rfl (JL_nil (J_ret ?_)))
   refine K_retv (rv := .tmp 6) rfl () (.tmp Sr) (Sub.bool ?_)
   have hrb : ruleB facts set (nth rules q) = true := by simp only [ruleB]; simp_all
   exact (goodM_no fun q2 => by rw [any_hit hlq hrb] at q2; cases q2.2).symm
  try simp only [NF] at h74
  refine J_skip (J_region (Jm rfl (Js rfl (step_add Sr Sr z6) (Ja rfl (JL_nil ?_)))))
  have hrb : ruleB facts set (nth rules q) = false := by simp only [ruleB]; rcases h74 with ((h | h) | h) | h <;> simp [h] <;> (intros; omega)
  refine K_againL (σ := Nat) (s := q) (q + 1) zO ?_ (zU) (LSub.rfl)
  refine ⟨by omega, ?_⟩
  rw [any_take_succ _ hlq, hv3, hrb]; rfl
 try simp only [NF] at h40
 refine J_exit (Jr (Ja rfl (JL_nil (J_ret ?_))))
 refine K_retv (rv := .tmp 6) rfl () (.tmp Sr) (Sub.bool ?_)
 refine (goodM_iff.2 ⟨?_, ?_⟩).symm
 ·
  rintro ⟨a, b, h1, h2, h3⟩
  rw [hv a b h1 zG] at h3; cases h3
 rw [List.take_of_length_le zG] at hv3; exact hv3
open Go Go.Proofs Go.Proofs.Tryz
theorem pre_nth {p l : List Int} (h : p <+: l) {i : Nat} (hi : i < p.length) : nth l i = nth p i := by
  obtain ⟨t, rfl⟩ := h
  exact nth_append_left hi
/-- A side at a beginning: it waits, or it is as at the whole. -/
theorem side_pre {s : GSide} {n : Int} {p l : List Int} {facts : List GFact} (h : p <+: l) (hn : (l.length : Int) = n) (hk : (sideV s n l facts).2.1 = true) :
    (sideV s n p facts).2.1 = true ∧ ((sideV s n p facts).2.2 = true ∨ sideV s n p facts = sideV s n l facts) := by
  unfold sideV at hk ⊢
  by_cases h1 : s.Var = -1
  · rw [if_pos h1, if_pos h1]; exact ⟨rfl, .inr rfl⟩
  rw [if_neg h1] at hk ⊢
  rw [if_neg h1]
  by_cases h2 : s.Var < 0 ∨ n ≤ s.Var
  · rw [if_pos h2] at hk; cases hk
  rw [if_neg h2] at hk ⊢
  rw [if_neg h2]
  have hl : ¬ (l.length : Int) ≤ s.Var := by omega
  rw [if_neg hl] at hk ⊢
  by_cases h3 : (p.length : Int) ≤ s.Var
  · rw [if_pos h3]; exact ⟨rfl, .inl rfl⟩
  rw [if_neg h3, ← pre_nth h (show s.Var.toNat < p.length by omega)]
  exact ⟨hk, .inr rfl⟩
theorem holds_pre {t : GTest} {n : Int} {p l : List Int} {facts : List GFact} (h : p <+: l) (hn : (l.length : Int) = n) (hk : holdsV t n facts l = true) : holdsV t n facts p = true := by
  simp only [holdsV, Bool.and_eq_true, Bool.or_eq_true] at hk ⊢
  obtain ⟨⟨h1, h2⟩, h3⟩ := hk
  obtain ⟨a1, a2⟩ := side_pre h hn h1
  obtain ⟨b1, b2⟩ := side_pre h hn h2
  refine ⟨⟨a1, b1⟩, ?_⟩
  rcases a2 with a2 | a2
  · exact .inl (.inl a2)
  · rcases b2 with b2 | b2
    · exact .inl (.inr b2)
    · rw [a2, b2]; exact h3
theorem tab_iff {d : GRule} {facts : List GFact} {at_ : List Int} : tabB d facts at_ = true ↔ ∀ i, i < at_.length → (nth facts (nth at_ i).toNat).Table = nth d.Tables i := by
  simp [tabB, List.all_eq_true]
theorem holdsR_iff {d : GRule} {facts : List GFact} {at_ : List Int} (hl : at_.length = d.Tables.length) : holdsR d facts at_ = true ↔ tabB d facts at_ = true ∧ okT d facts at_ = true := by
  rw [holdsR, Bool.and_eq_true]
  have : tstR facts at_ = fun t => holdsV t d.Tables.length facts at_ := funext fun t => by rw [tstR_eq, hl]
  rw [this]; rfl
theorem viol_full {d : GRule} {facts : List GFact} {set : List Int} : ∀ {n : Nat} {at_ : List Int}, violM d facts set n at_ = true → ∃ at', at_ <+: at' ∧ at'.length = at_.length + n ∧ holdsR d facts at' = true
  | 0, at_, h => ⟨at_, List.prefix_refl _, rfl, h⟩
  | n + 1, at_, h => by
    simp only [violM, List.any_eq_true, Bool.and_eq_true] at h
    obtain ⟨c, _, _, h2⟩ := h
    obtain ⟨at', q1, q2, q3⟩ := viol_full h2
    exact ⟨at', (List.prefix_append _ _).trans q1, by rw [q2]; simp; omega, q3⟩
theorem viol_path {d : GRule} {facts : List GFact} {set : List Int} (h1 : 1 ≤ d.Tables.length) : ∀ {n : Nat} {at_ : List Int}, at_.length + n = d.Tables.length → tabB d facts at_ = true → (at_ ≠ [] → okT d facts at_ = true) → (violM d facts set n at_ = true ↔ ∃ at', path d facts set n at_ at')
  | 0, at_, hl, ht, ho => by
    have hne : at_ ≠ [] := fun e => by rw [e] at hl; simp at hl; omega
    constructor
    · intro _; exact ⟨at_, rfl⟩
    · intro _; exact (holdsR_iff (by omega)).2 ⟨ht, ho hne⟩
  | n + 1, at_, hl, ht, ho => by
    have key : ∀ c, c ∉ at_ → violM d facts set n (at_ ++ [c]) = true → cand d facts at_ c = true := by
      intro c hc hv
      obtain ⟨at', q1, q2, q3⟩ := viol_full hv
      have hlen : at'.length = d.Tables.length := by rw [q2]; simp; omega
      obtain ⟨q4, q5⟩ := (holdsR_iff hlen).1 q3
      have e1 : nth at' at_.length = c := by
        rw [pre_nth q1 (by simp), nth_get (by simp)]; simp
      have e2 := tab_iff.1 q4 at_.length (by omega)
      rw [e1] at e2
      simp only [cand, Bool.and_eq_true, decide_eq_true_eq, Bool.not_eq_true']
      refine ⟨⟨e2, ?_⟩, ?_⟩
      · rw [← Bool.not_eq_true, List.contains_iff_mem]; exact hc
      · simp only [okT, List.all_eq_true] at q5 ⊢
        exact fun t hm => holds_pre q1 (by rw [hlen]) (q5 t hm)
    have ext : ∀ c, cand d facts at_ c = true → tabB d facts (at_ ++ [c]) = true ∧ okT d facts (at_ ++ [c]) = true := by
      intro c hc
      simp only [cand, Bool.and_eq_true, decide_eq_true_eq] at hc
      refine ⟨tab_iff.2 fun i hi => ?_, hc.2⟩
      rcases Nat.lt_or_ge i at_.length with q | q
      · rw [nth_append_left q]; exact tab_iff.1 ht i q
      · have : i = at_.length := by simp at hi; omega
        subst this
        have e : nth (at_ ++ [c]) at_.length = c := by rw [nth_get (by simp)]; simp
        rw [e]; exact hc.1.1
    simp only [violM, List.any_eq_true, Bool.and_eq_true, path]
    constructor
    · rintro ⟨c, hc, hn, hv⟩
      have hnc : c ∉ at_ := by
        intro hm
        rw [List.contains_iff_mem.2 hm] at hn; cases hn
      have hcd := key c hnc hv
      obtain ⟨e1, e2⟩ := ext c hcd
      obtain ⟨at', hp⟩ := (viol_path h1 (by simp; omega) e1 fun _ => e2).1 hv
      exact ⟨at', c, hc, hcd, hp⟩
    · rintro ⟨at', c, hc, hcd, hp⟩
      obtain ⟨e1, e2⟩ := ext c hcd
      refine ⟨c, hc, ?_, (viol_path h1 (by simp; omega) e1 fun _ => e2).2 ⟨at', hp⟩⟩
      simp only [cand, Bool.and_eq_true] at hcd
      exact hcd.1.2
theorem rules_bad {rules : List GRule} {facts : List GFact} {set : List Int} : rules.any (ruleB facts set) = true ↔ ∃ d ∈ loweredR rules, ∃ at', path d facts set d.Tables.length [] at' := by
  rw [List.any_eq_true]
  constructor
  · rintro ⟨r, hr, h⟩
    simp only [ruleB, Bool.and_eq_true, decide_eq_true_eq] at h
    obtain ⟨⟨⟨h1, h2⟩, h3⟩, h4⟩ := h
    have hm : nth (lowerR r) 0 ∈ lowerR r := nth_mem (by omega)
    refine ⟨nth (lowerR r) 0, List.mem_flatMap.2 ⟨r, hr, List.mem_filter.2 ⟨hm, by simp only [okD3, Bool.and_eq_true, decide_eq_true_eq]; omega⟩⟩, ?_⟩
    exact (viol_path (by omega) (by simp) (by simp [tabB]) (fun q => absurd rfl q)).1 h4
  · rintro ⟨d, hd, at', hp⟩
    obtain ⟨r, hr, hd⟩ := List.mem_flatMap.1 hd
    obtain ⟨h1, h2⟩ := List.mem_filter.1 hd
    simp only [okD3, Bool.and_eq_true, decide_eq_true_eq] at h2
    refine ⟨r, hr, ?_⟩
    have hl := lowerR_len r
    have e : lowerR r = [d] := by
      match h : lowerR r, hl with
      | [], _ => rw [h] at h1; cases h1
      | [x], _ => rw [h] at h1; rw [List.mem_singleton.1 h1]
    have e0 : nth (lowerR r) 0 = d := by rw [e]; rfl
    simp only [ruleB, e0, Bool.and_eq_true, decide_eq_true_eq]
    refine ⟨⟨⟨by rw [e]; rfl, by omega⟩, by omega⟩, ?_⟩
    exact (viol_path (by omega) (by simp) (by simp [tabB]) (fun q => absurd rfl q)).2 ⟨at', hp⟩
theorem mem_index {l : List Int} {x : Int} (h : x ∈ l) : ∃ i, i < l.length ∧ nth l i = x := mem_nth h
theorem clash_iff {facts : List GFact} {set : List Int} (hs : Srt set) : clashP facts set ↔ ∃ b c, b ∈ set ∧ c ∈ set ∧ b < c ∧ ent facts b = ent facts c ∧ exP facts b c = true := by
  constructor
  · rintro ⟨i, k, h1, h2, h3⟩
    simp only [pairP, exclB, Bool.and_eq_true, decide_eq_true_eq] at h3
    exact ⟨nth set k, nth set i, nth_mem (by omega), nth_mem h2, srt_nth' hs h1 h2, h3.1.symm, h3.2⟩
  · rintro ⟨b, c, hb, hc, hlt, h1, h2⟩
    obtain ⟨k, hk, rfl⟩ := mem_index hb
    obtain ⟨i, hi, rfl⟩ := mem_index hc
    have hki : k < i := by
      rcases Nat.lt_trichotomy k i with q | q | q
      · exact q
      · subst q; omega
      · have := srt_nth' hs q hk; omega
    refine ⟨i, k, hki, hi, ?_⟩
    simp only [pairP, exclB, Bool.and_eq_true, decide_eq_true_eq]
    exact ⟨h1.symm, h2⟩
where
  srt_nth' {l : List Int} (h : Srt l) {i k : Nat} (hk : k < i) (hi : i < l.length) : nth l k < nth l i := by
    rw [nth_get hi, nth_get (show k < l.length by omega)]
    exact List.pairwise_iff_getElem.1 h k i (by omega) hi hk
/-- A good set has no witness in it. -/
theorem good_iff {rules : List GRule} {facts : List GFact} {set : List Int} (hs : Srt set) (hin : ∀ x ∈ set, 0 ≤ x ∧ x < (facts.length : Int)) : goodM rules facts set = true ↔ ∀ s ∈ allW rules facts, ¬ ∀ x ∈ s, x ∈ set := by
  have hsub : ∀ x ∈ set, x ∈ iota facts.length := fun x hx => iota_mem_iff.2 (hin x hx)
  rw [goodM_iff]
  constructor
  · rintro ⟨h1, h2⟩ s hsw hins
    have hw := (wits_sub (iota_srt _) hs hsub).2 ⟨hsw, hins⟩
    rcases (wits_iff hs).1 hw with ⟨b, c, q1, q2, q3, q4, q5, _⟩ | ⟨d, hd, at', hp, _⟩
    · exact h1 ((clash_iff hs).2 ⟨b, c, q1, q2, q3, q4, q5⟩)
    · have := rules_bad.2 ⟨d, hd, at', hp⟩
      rw [h2] at this; cases this
  · intro h
    constructor
    · intro hc
      obtain ⟨b, c, q1, q2, q3, q4, q5⟩ := (clash_iff hs).1 hc
      have hw := (wits_iff (rules := rules) hs).2 (.inl ⟨b, c, q1, q2, q3, q4, q5, rfl⟩)
      obtain ⟨a1, a2⟩ := (wits_sub (iota_srt _) hs hsub).1 hw
      exact h _ a1 a2
    · rw [← Bool.not_eq_true, rules_bad]
      rintro ⟨d, hd, at', hp⟩
      have hw := (wits_iff (rules := rules) hs).2 (.inr ⟨d, hd, at', hp, rfl⟩)
      obtain ⟨a1, a2⟩ := (wits_sub (iota_srt _) hs hsub).1 hw
      exact h _ a1 a2
/-- A set of size s + 1 is a violation exactly if no smaller one is in it and it is not good. -/
theorem vio_size {rules : List GRule} {facts : List GFact} (H : VHyp rules facts) {x : List Int} {s : Nat} (hx : isSet x facts.length = true) (hl : x.length = s + 1) :
    ((∀ y ∈ vioM rules facts, y.length ≤ s → ¬ ∀ z ∈ y, z ∈ x) ∧ goodM rules facts x = false) ↔ x ∈ vioM rules facts := by
  have hx' := isSet_iff.1 hx
  constructor
  · rintro ⟨h1, h2⟩
    have h3 : ¬ ∀ s ∈ allW rules facts, ¬ ∀ z ∈ s, z ∈ x := fun q => by rw [(good_iff hx'.1 hx'.2).2 q] at h2; cases h2
    have h4 : ∃ u ∈ allW rules facts, ∀ z ∈ u, z ∈ x := Classical.byContradiction fun q => h3 fun u hu hz => q ⟨u, hu, hz⟩
    obtain ⟨u, hu, hz⟩ := h4
    obtain ⟨v, hv, hvu⟩ := minM_below (okt_all H) hu (wits_ok (iota_srt _) hu).1
    have hvx : ∀ z ∈ v, z ∈ x := fun z hzv => hz z (hvu.subset hzv)
    have hvs := srt_sub (vio_w H hv).2.2.2.1 hx'.1 hvx
    have hle := hvs.length_le
    have hgt : ¬ v.length ≤ s := fun q => h1 v hv q hvx
    have : v = x := hvs.eq_of_length_le (by omega)
    exact this ▸ hv
  · intro h
    refine ⟨fun y hy hys hyx => ?_, ?_⟩
    · have hsub := srt_sub (vio_w H hy).2.2.2.1 hx'.1 hyx
      exact ((minM_iff (okt_all H)).1 h).2 y hsub (vio_w H hy).2.1 (fun e => by rw [e] at hys; omega) (vio_w H hy).1
    · rw [← Bool.not_eq_true, good_iff hx'.1 hx'.2]
      exact fun q => q x (vio_w H h).1 fun z hz => hz
end Lg
