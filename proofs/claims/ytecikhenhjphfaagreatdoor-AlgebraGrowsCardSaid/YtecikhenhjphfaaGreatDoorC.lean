/- A part of the proofs of the laws of cleanselaw33 and cleanselaw36: contracts of functions that the law reaches, and facts about what they compute. -/
import Derived.Test.YtecikhenhjphfaaGreatDoorB
import Derived.Shelf.Sort.Plain
import Derived.Shelf.Slices.In.SortNone
import Derived.Shelf.GgSortFunc.Insertion
import Derived.Shelf.Slices.CompactS
import Derived.Test.YtecikhenhjphfaaGreatDoorProg
import Derived.Ground.NamesProg
import Derived.Shelf.SlSortCmp.NoneTotal
import Derived.Ground.SlsfProg
import Derived.Lib.Small
import Derived.Shelf.Abstract
import Derived.Lib.Walk
import Derived.WalkKit
import Derived.Deep.LoopGhost
import Derived.Deep.Draws
import Derived.Sort.Grow
import Derived.Deep.QuietTactic
import Derived.Shelf.SlSortCmp.QuietGrown
import Derived.Lib.SliceRun
set_option linter.unusedVariables false
set_option linter.unusedSimpArgs false
set_option linter.unusedSectionVars false
namespace Lg
open Go Go.Proofs Go.Proofs.Tryz
theorem Sub.tupSB {α : Type} {R : Rp α} {xs ys : List α} {a b : Bool} (h1 : xs = ys) (h2 : a = b) : Sub (tTup [tSl R xs, tV (.bool a)]) (tTup [tSl R ys, tV (.bool b)]) := by subst h1 h2; exact Sr
theorem pickM_len (l : List GAttr) (cols : List Int) : (pickM l cols).length ≤ cols.length := by unfold pickM; split <;> simp [pickL]
theorem kids_pos {n : Nat} {xs : List GPlan} {h : PH} {v : Value} (hp : 0 < xs.length) (hv : (tSl (rPlan n) xs).p h v) : ∃ m, n = m + 1 := by
  obtain ⟨ao, cap, e, H⟩ := hv
  obtain ⟨b, off, ea, H2⟩ := H (by intro q; subst q; simp at hp)
  obtain ⟨cs, _, r⟩ := H2 0 (xs[0]) (List.getElem?_eq_getElem hp)
  exact rPl_pos cPl rAttr rTest r
theorem plan_pos {n : Nat} {p : Gplan} {h : PH} {v : Value} (hp : 0 < p.Plan.Kids.length) (hv : ((rplan n).ty p).p h v) : ∃ m, n = m + 1 := by
  obtain ⟨cs, r, _⟩ := hv
  obtain ⟨c0, _, rfl, r0, _⟩ := r
  obtain ⟨d0, _, rfl, _, d1, _, rfl, _, d2, _, rfl, r2, _⟩ := (show SF.rel h p.Plan (fsPl cPl rAttr rTest (rPlan n)) c0 from r0)
  obtain ⟨u, _, hu⟩ := r2
  exact kids_pos hp hu
set_option maxHeartbeats 2000000 in
theorem plTable_spec (n : Nat) (p : Gplan) (hz : SchSz p.schema) (hl : p.Plan.Attrs.length ≤ 1000000000) : Fun1 prog 64 [(rplan n).ty p] (tTup [tSl rAttr (if 0 ≤ p.Plan.Table ∧ p.Plan.Table < p.schema.Tables.length then tableL (nth p.schema.Tables p.Plan.Table.toNat) p.Plan.Attrs else []), tV (.bool (decide (0 ≤ p.Plan.Table ∧ p.Plan.Table < p.schema.Tables.length)))]) := by
 refine Spec.enter func64 rfl rfl fun h0 w0 fr0 => ?_
 refine Jr (Js rfl (step_box (R := (rplan n)) Sr) (Ja rfl (Ja rfl (JL_nil (J_seq ?_)))))
 refine Jr (Js rfl (step_fieldAddr so121 Sr rfl) (Js rfl (step_fieldAddr so30 Sr rfl) (Jl rfl ty3 Sr (Js rfl (step_lss Sr Sr) (Jm rfl ?_)))))
 refine Jk rfl Sr rfl (step_fieldAddr so121 Sr rfl) ?_
 refine Jg rfl Sr rfl (fun hw => step_fieldAddr so30 (Sub.w hw) rfl) (Jg rfl Sr rfl (fun hw => step_load_ptr ty3 (Sub.w hw)) ?_)
 refine Jk rfl Sr rfl (step_fieldAddr so121 Sr rfl) ?_
 refine Jg rfl Sr rfl (fun hw => step_fieldAddr so24 (Sub.w hw) rfl) (Jg rfl Sr rfl (fun hw => step_load_ptr ty22 (Sub.w hw)) (Jg rfl Sr rfl (fun hw => step_len_sl underlying22 (Sub.w hw)) (Jg rfl Sr rfl (fun hw => step_geq (Sub.w hw) (Sub.w hw)) (Js rfl (step_pick_or Sr Sr) (JL_nil ?_)))))
 refine J_cond Sr (fun h20 => ?_) (fun h20 => ?_)
 ·
  try simp only [NF] at h20
  refine Jr (Ja rfl (Ja rfl (JL_nil (J_ret ?_))))
  refine K_ret2' (rv := .tmp 2) (rv' := .tmp 3) rfl () (Sel.all _) (.tmp Sr) (.tmp Sr) (B := tSl rAttr []) (B' := tV (.bool false)) (Frz.sub Sub.nilsl) (Frz.sub Sr) ?_
  rw [if_neg zG, decide_eq_false zG]
  exact Sr
 try simp only [NF] at h20
 have hin : 0 ≤ p.Plan.Table ∧ p.Plan.Table < p.schema.Tables.length := by omega
 have hT := hz.tab _ (nth_mem (l := p.schema.Tables) (i := p.Plan.Table.toNat) zG)
 have hTl := hT.at'
 refine J_skip (Jr (Js rfl (step_fieldAddr so121 Sr rfl) (Js rfl (step_fieldAddr so24 Sr rfl) (Jl rfl ty22 Sr (Js rfl (step_fieldAddr so121 Sr rfl) ?_)))))
 refine Js rfl (step_fieldAddr so30 Sr rfl) (Jl rfl ty3 Sr ?_)
 refine Js rfl (step_indexAddr_sl (i := p.Plan.Table.toNat) underlying22 ty77 Sr Sr (by show p.Plan.Table = _; omega) (gb (by show p.Plan.Table.toNat < p.schema.Tables.length; omega))) ?_
 refine Jl rfl ty77 Sr ?_
 refine Jx rfl (step_alloc (fun w => zeroValue77 w) zr77) fun v4 => ?_
 refine Ju (step_store_box ty77 Sr Sr zS) fun _ => ?_
 refine JL_freeze (t := 4) (Sel.take (Sel.none _)) Frz.box ?_
 refine JL_nil (Jr (Js rfl (step_fieldAddr so77 Sr rfl) (Jl rfl ty28 Sr ?_)))
 refine Jx rfl (step_call (Sel.none _) (CloneA_spec _ hTl) ⟨Sr, trivial⟩ call113) fun v31 => ?_
 refine Ja rfl (JL_nil (J_seq (Jr (Jm rfl ?_))))
 refine Js rfl (step_len_own underlying28 Sr zS) ?_
 refine Js rfl (step_fieldAddr so121 Sr rfl) (Js rfl (step_fieldAddr so30 Sr rfl) (Jl rfl ty28 Sr (Js rfl (step_len_sl underlying28 Sr) (Js rfl (step_min Sr Sr) (Jm rfl ?_)))))
 refine JL_nil (J_block ?_)
 refine J_loopL (σ := Nat) (fun i => i ≤ (nth p.schema.Tables p.Plan.Table.toNat).Attrs.length ∧ i ≤ p.Plan.Attrs.length) (fun i => upd (upd (upd (upd (upd (upd (upd env0 1 (tPtr (rplan n) p)) 2 (tV (.slice none 0 0))) 3 (tV (.bool false))) 4 (tPtr rTable (nth p.schema.Tables p.Plan.Table.toNat))) 5 (rV.ty v31)) 38 (tV (.int .i64 (if (p.Plan.Attrs.length : Int) < ((nth p.schema.Tables p.Plan.Table.toNat).Attrs.length : Int) then (p.Plan.Attrs.length : Int) else ((nth p.schema.Tables p.Plan.Table.toNat).Attrs.length : Int))))) 39 (tV (.int .i64 i))) (fun i => [own 64 rAttr v31 (tabI (nth p.schema.Tables p.Plan.Table.toNat) p.Plan.Attrs i)]) (fun i => (nth p.schema.Tables p.Plan.Table.toNat).Attrs.length - i) 0 ⟨by omega, by omega⟩ (zU) (.c zS (SPs.of (A := own 64 rAttr v31 (nth p.schema.Tables p.Plan.Table.toNat).Attrs) (by rw [tab0])) (LSub.nil)) ?_
 rintro i ⟨hi, hi2⟩
 refine Jr (Js rfl (step_lss Sr Sr) (JL_nil (J_seq ?_)))
 refine J_cond Sr (fun h40 => ?_) (fun h40 => ?_)
 ·
  try simp only [NF] at h40
  have hlt : i < (nth p.schema.Tables p.Plan.Table.toNat).Attrs.length ∧ i < p.Plan.Attrs.length := by split at h40 <;> omega
  have hlt1 := hlt.1
  have hlt2 := hlt.2
  refine J_skip (J_seq (J_block (Jr (Jm rfl (Ja rfl ?_)))))
  refine JL_nil (J_seq ?_)
  refine J_draw [⟨0, [4], true⟩, ⟨1, [1], true⟩, ⟨2, [43], true⟩, ⟨3, [44], true⟩, ⟨4, [6], true⟩, ⟨5, [45, 46], true⟩, ⟨6, [47], true⟩, ⟨7, [48], true⟩, ⟨8, [42, 49], true⟩, ⟨9, [6], true⟩, ⟨10, [50, 51], true⟩] rfl (by kernel_rfl) ?_
  refine Mf rfl rfl (step_load_ptr ty77 Sr) (Mf rfl rfl (step_fieldAddr so121 Sr rfl) (Mf rfl rfl (step_fieldAddr so30 Sr rfl) (Mf rfl rfl (step_load_ptr ty28 Sr) (Mv rfl rfl ?_))))
  refine Mf rfl rfl (step_indexAddr_sl (i := i) underlying28 ty64 Sr Sr (by rfl) (gb (by exact hlt2))) ?_
  refine Mf rfl rfl (step_fieldAddr so64 Sr rfl) (Mf rfl rfl (step_load_ptr ty9 Sr) ?_)
  refine Mf rfl rfl (step_call0 (Column_spec _ _ zG (fun a ha => Nat.le_trans (hT.was a ha) (by decide))) ⟨Sr, Sr, trivial⟩ call114) ?_
  refine Mv rfl rfl (Mf rfl rfl (step_eql Sr Sr) (JM_nil ?_))
  refine J_cond Sr (fun h52 => ?_) (fun h52 => ?_)
  ·
   try simp only [NF] at h52
   refine J_region (Jm rfl (Jm rfl (Js rfl (step_fieldAddr so121 Sr rfl) (Js rfl (step_fieldAddr so30 Sr rfl) (Jl rfl ty28 Sr ?_)))))
   refine Jm rfl ?_
   refine Js rfl (step_indexAddr_sl (i := i) underlying28 ty64 Sr Sr (by rfl) (gb (by exact hlt2))) ?_
   refine Js rfl (step_fieldAddr so64 Sr rfl) (Jl rfl ty9 Sr ?_)
   refine Js rfl (step_indexAddr_own (i := i) underlying28 ty64 Sr zS Sr (by rfl) (by show i < (tabI _ _ _).length; rw [tabI_len]; exact hlt1)) ?_
   refine Js rfl (step_fieldAddr_elem (i := i) so64 Sr rfl zS (by show i < (tabI _ _ _).length; rw [tabI_len]; exact hlt1)) ?_
   refine Ju (step_store_elemfld (i := i) (y := nth (tabI (nth p.schema.Tables p.Plan.Table.toNat) p.Plan.Attrs i) i) (y' := { nth (tabI (nth p.schema.Tables p.Plan.Table.toNat) p.Plan.Attrs i) i with Name := (nth p.Plan.Attrs i).Name }) ty9 Sr Sr zS (gb (by rw [tabI_len]; exact hlt1)) ⟨fun _ _ q => q, rfl, by intro g hg; simp only [List.mem_cons, List.not_mem_nil, or_false] at hg; rcases hg with rfl | rfl | rfl <;> rfl⟩) fun _ => ?_
   refine JL_nil (J_region (Js rfl (step_add Sr Sr z6) (Jm rfl (JL_nil ?_))))
   refine K_againL (σ := Nat) (s := i) (i + 1) zO ⟨by omega, by omega⟩ (zU) (.c zS (SPs.of (A := own 64 rAttr v31 ((tabI (nth p.schema.Tables p.Plan.Table.toNat) p.Plan.Attrs i).set i { nth (tabI (nth p.schema.Tables p.Plan.Table.toNat) p.Plan.Attrs i) i with Name := (nth p.Plan.Attrs i).Name })) (by rw [tab_set hlt1 hlt2 h52])) (LSub.nil))
  try simp only [NF] at h52
  refine J_skip (J_region (Js rfl (step_add Sr Sr z6) (Jm rfl (JL_nil ?_))))
  refine K_againL (σ := Nat) (s := i) (i + 1) zO ⟨by omega, by omega⟩ (zU) (.c zS (SPs.of (A := own 64 rAttr v31 (tabI (nth p.schema.Tables p.Plan.Table.toNat) p.Plan.Attrs i)) (by rw [tab_keep hlt1 h52])) (LSub.nil))
 try simp only [NF] at h40
 have hfull : tabI (nth p.schema.Tables p.Plan.Table.toNat) p.Plan.Attrs i = tableL (nth p.schema.Tables p.Plan.Table.toNat) p.Plan.Attrs := tab_full (by split at h40 <;> omega)
 refine J_exit (Jr (Jm rfl (Ja rfl (Ja rfl (JL_nil ?_)))))
 refine J_ret ?_
 refine K_ret2' (rv := .tmp 2) (rv' := .tmp 3) rfl () (Sel.all _) (.tmp Sr) (.tmp Sr) (B := tSl rAttr (tabI (nth p.schema.Tables p.Plan.Table.toNat) p.Plan.Attrs i)) (B' := tV (.bool true)) (Frz.own) (Frz.sub Sr) ?_
 rw [if_pos hin, decide_eq_true hin, hfull]
 exact Sr
theorem plSel_spec (n : Nat) (p : Gplan) (hk0 : 0 < p.Plan.Kids.length) (hl : p.Plan.Tests.length ≤ 1000000000) : Fun1 prog 67 [(rplan n).ty p] (tTup [tSl rAttr (nth p.Plan.Kids 0).Attrs, tV (.bool (decide (0 < (p.Plan.Tests.length : Int)) && !(p.Plan.Tests.any fun t => !testOk t (nth p.Plan.Kids 0).Attrs.length)))]) := by
 refine Spec.enter func67 rfl rfl fun h0 w0 fr0 => ?_
 refine K_fact 0 (fun _ _ r => plan_pos hk0 r) fun hm => ?_
 obtain ⟨n, rfl⟩ := hm
 refine Jr (Js rfl (step_box (R := (rplan (n + 1))) Sr) (Ja rfl (Ja rfl (JL_nil (Jr ?_)))))
 refine Js rfl (step_fieldAddr so121 Sr rfl) (Js rfl (step_fieldAddr so30 Sr rfl) (Jl rfl ty25 Sr ?_))
 refine Js rfl (step_indexAddr_sl (i := 0) underlying25 ty30 Sr Sr (by rfl) (gb (by exact hk0))) ?_
 refine Js rfl (step_fieldAddr so30 Sr rfl) (Jl rfl ty28 Sr ?_)
 refine Jx rfl (step_alloc (fun w => zeroValue28 w) zr28) fun v4 => ?_
 refine Ju (step_store_box ty28 Sr Sr zS) fun _ => ?_
 refine JL_freeze (t := 4) (Sel.take (Sel.none _)) Frz.box ?_
 refine JL_nil (J_seq ?_)
 refine J_draw [⟨0, [4], true⟩, ⟨1, [1], true⟩, ⟨2, [12], true⟩, ⟨3, [13], true⟩, ⟨4, [14], true⟩, ⟨5, [15], true⟩, ⟨6, [16], true⟩, ⟨7, [1, 17], true⟩, ⟨8, [17, 18], true⟩, ⟨9, [17, 19], true⟩, ⟨10, [4, 17], true⟩, ⟨11, [17, 20, 21], true⟩, ⟨12, [17, 22], true⟩, ⟨13, [17, 23], true⟩, ⟨14, [11], true⟩, ⟨15, [24], true⟩] rfl (by kernel_rfl) ?_
 refine Mf rfl rfl (step_load_ptr ty28 Sr) (Mf rfl rfl (step_fieldAddr so121 Sr rfl) (Mf rfl rfl (step_fieldAddr so30 Sr rfl) (Mf rfl rfl (step_load_ptr ty26 Sr) (Mf rfl rfl (step_len_sl underlying26 Sr) (Mf rfl rfl (step_gtr Sr Sr) ?_)))))
 refine Mv rfl rfl ?_
 refine Mk rfl rfl Sr rfl (step_fieldAddr so121 Sr rfl) ?_
 refine Mg rfl rfl Sr rfl (fun hw => step_fieldAddr so30 (Sub.w hw) rfl) (Mg rfl rfl Sr rfl (fun hw => step_load_ptr ty26 (Sub.w hw)) ?_)
 refine Mk rfl rfl Sr rfl (step_makeFunc (As := [_]) ⟨Sr, trivial⟩) ?_
 refine Mg rfl rfl Sr rfl (fun hw => step_call0 (ContainsFuncT_spec p.Plan.Tests zG 116 [tPtr (rSl rAttr) (nth p.Plan.Kids 0).Attrs] (fun t => !testOk t (nth p.Plan.Kids 0).Attrs.length) (fun x _ => selF_spec x _) call116) ⟨(Sub.w hw), (Sub.w hw), trivial⟩ call115) (Mg rfl rfl Sr rfl (fun hw => step_not (Sub.w hw)) (Mf rfl rfl (step_pick_and Sr Sr) (Mf rfl rfl (step_assign Sr) (Mf rfl rfl (step_assign Sr) (JM_nil ?_)))))
 refine J_ret ?_
 refine K_ret2' (rv := .tmp 2) (rv' := .tmp 3) rfl () (Sel.all _) (.tmp Sr) (.tmp Sr) (Frz.sub Sr) (Frz.sub Sr) Sr
theorem plProj_spec (n : Nat) (p : Gplan) (hk0 : 0 < p.Plan.Kids.length) (hl : p.Plan.Cols.length ≤ 1000000000) : Fun1 prog 70 [(rplan n).ty p] (tTup [tSl rAttr (pickM (nth p.Plan.Kids 0).Attrs p.Plan.Cols), tV (.bool (pickOk (nth p.Plan.Kids 0).Attrs.length p.Plan.Cols))]) := by
 refine Spec.enter func70 rfl rfl fun h0 w0 fr0 => ?_
 refine K_fact 0 (fun _ _ r => plan_pos hk0 r) fun hm => ?_
 obtain ⟨n, rfl⟩ := hm
 refine Jr (Js rfl (step_box (R := (rplan (n + 1))) Sr) (Ja rfl (Ja rfl (JL_nil (J_seq ?_)))))
 refine J_draw [⟨0, [1], true⟩, ⟨1, [4], true⟩, ⟨2, [5], true⟩, ⟨3, [6], true⟩, ⟨4, [7], true⟩, ⟨5, [8], true⟩, ⟨6, [1], true⟩, ⟨7, [10], true⟩, ⟨8, [11], true⟩, ⟨9, [9, 12], false⟩, ⟨10, [13], true⟩, ⟨11, [13], true⟩, ⟨12, [14], true⟩, ⟨13, [15], true⟩] rfl (by kernel_rfl) ?_
 refine Mf rfl rfl (step_fieldAddr so121 Sr rfl) (Mf rfl rfl (step_fieldAddr so30 Sr rfl) (Mf rfl rfl (step_load_ptr ty25 Sr) ?_))
 refine Mf rfl rfl (step_indexAddr_sl (i := 0) underlying25 ty30 Sr Sr (by rfl) (gb (by exact hk0))) ?_
 refine Mf rfl rfl (step_fieldAddr so30 Sr rfl) (Mf rfl rfl (step_load_ptr ty28 Sr) (Mf rfl rfl (step_fieldAddr so121 Sr rfl) (Mf rfl rfl (step_fieldAddr so30 Sr rfl) (Mf rfl rfl (step_load_ptr ty27 Sr) ?_))))
 refine JM_stepX rfl rfl rfl rfl (step_call (Sel.none _) (pickA_spec _ _ hl) ⟨Sr, Sr, trivial⟩ call122) fun v13 => ?_
 refine Mf rfl rfl (step_extract Sr rfl) (Mf rfl rfl (step_extract Sr rfl) (Mf rfl rfl (step_assign Sr) (Mf rfl rfl (step_assign Sr) (JM_nil (J_ret ?_)))))
 refine K_ret2' (rv := .tmp 2) (rv' := .tmp 3) rfl () (Sel.all _) (.tmp Sr) (.tmp Sr) (Frz.own) (Frz.sub Sr) Sr
set_option maxHeartbeats 2000000 in
theorem plJoin_spec (n : Nat) (p : Gplan) (hk1 : 1 < p.Plan.Kids.length) (hl0 : (nth p.Plan.Kids 0).Attrs.length ≤ 100000000) (hl1 : (nth p.Plan.Kids 1).Attrs.length ≤ 100000000) : Fun1 prog 72 [(rplan n).ty p] (tTup [tSl rAttr (if joinOk (nth p.Plan.Kids 0).Attrs (nth p.Plan.Kids 1).Attrs = true then joinL (nth p.Plan.Kids 0).Attrs (nth p.Plan.Kids 1).Attrs else []), tV (.bool (joinOk (nth p.Plan.Kids 0).Attrs (nth p.Plan.Kids 1).Attrs))]) := by
 refine Spec.enter func72 rfl rfl fun h0 w0 fr0 => ?_
 have hk0 : 0 < p.Plan.Kids.length := by omega
 refine K_fact 0 (fun _ _ r => plan_pos hk0 r) fun hm => ?_
 obtain ⟨n, rfl⟩ := hm
 refine Jr (Js rfl (step_box (R := (rplan (n + 1))) Sr) (Ja rfl (Ja rfl (JL_nil (Jr ?_)))))
 refine Js rfl (step_fieldAddr so121 Sr rfl) (Js rfl (step_fieldAddr so30 Sr rfl) (Jl rfl ty25 Sr ?_))
 refine Js rfl (step_indexAddr_sl (i := 0) underlying25 ty30 Sr Sr (by rfl) (gb (by exact hk0))) ?_
 refine Js rfl (step_fieldAddr so30 Sr rfl) (Jl rfl ty28 Sr ?_)
 refine Jx rfl (step_call (Sel.none _) (CloneA_spec _ (by show (nth p.Plan.Kids 0).Attrs.length ≤ _; omega)) ⟨Sr, trivial⟩ call113) fun v14 => ?_
 refine Ja rfl (JL_nil (J_seq (Jr (Js rfl (step_fieldAddr so121 Sr rfl) (Js rfl (step_fieldAddr so30 Sr rfl) ?_)))))
 refine Jl rfl ty25 Sr ?_
 refine Js rfl (step_indexAddr_sl (i := 1) underlying25 ty30 Sr Sr (by rfl) (gb (by exact hk1))) ?_
 refine Js rfl (step_fieldAddr so30 Sr rfl) (Jl rfl ty28 Sr (Js rfl (step_len_sl underlying28 Sr) (Jm rfl (JL_nil (J_block ?_)))))
 refine J_loopL (σ := Nat × Value) (fun ⟨i, v⟩ => i ≤ (nth p.Plan.Kids 1).Attrs.length ∧ ∀ k, k < i → (decide (columnL (nth p.Plan.Kids 0).Attrs (nth (nth p.Plan.Kids 1).Attrs k).Name < 0) || decide ((nth (nth p.Plan.Kids 0).Attrs (columnL (nth p.Plan.Kids 0).Attrs (nth (nth p.Plan.Kids 1).Attrs k).Name).toNat).Kind = (nth (nth p.Plan.Kids 1).Attrs k).Kind)) = true) (fun ⟨i, v⟩ => upd (upd (upd (upd (upd env0 1 (tPtr (rplan (n + 1)) p)) 4 (rV.ty v)) 20 (tSl rAttr (nth p.Plan.Kids 1).Attrs)) 21 (tV (.int .i64 (nth p.Plan.Kids 1).Attrs.length))) 22 (tV (.int .i64 i))) (fun ⟨i, v⟩ => [own 64 rAttr v (joinL (nth p.Plan.Kids 0).Attrs ((nth p.Plan.Kids 1).Attrs.take i))]) (fun ⟨i, v⟩ => (nth p.Plan.Kids 1).Attrs.length - i) (0, v14) ⟨by omega, fun k hk => by omega⟩ (zU) (.c zS (SPs.of (A := own 64 rAttr v14 (nth p.Plan.Kids 0).Attrs) (by rw [List.take_zero]; simp [joinL])) (LSub.nil)) ?_
 rintro ⟨i, v⟩ ⟨hi, hv⟩
 refine Jr (Js rfl (step_lss Sr Sr) (JL_nil (J_seq ?_)))
 refine J_cond Sr (fun h23 => ?_) (fun h23 => ?_)
 ·
  try simp only [NF] at h23
  have hlt : i < (nth p.Plan.Kids 1).Attrs.length := by omega
  have hcl := col_lt (nth p.Plan.Kids 0).Attrs (nth (nth p.Plan.Kids 1).Attrs i).Name
  have hjl := joinL_len (nth p.Plan.Kids 0).Attrs ((nth p.Plan.Kids 1).Attrs.take i)
  rw [List.length_take] at hjl
  have hsn := join_snoc (a := (nth p.Plan.Kids 0).Attrs) (l := (nth p.Plan.Kids 1).Attrs.take i) (x := nth (nth p.Plan.Kids 1).Attrs i)
  rw [← takeB hlt] at hsn
  refine J_skip (J_seq (J_block (Jr ?_)))
  refine Js rfl (step_indexAddr_sl  underlying28 ty64 Sr Sr rfl (gb (by exact hlt))) ?_
  refine Jl rfl ty64 Sr ?_
  refine Jx rfl (step_alloc (fun w => zeroValue64 w) zr64) fun v6 => ?_
  refine Ju (step_store_box ty64 Sr Sr zS) fun _ => ?_
  refine JL_freeze (t := 6) (Sel.take (Sel.none _)) Frz.box ?_
  refine JL_nil (J_seq ?_)
  refine J_draw [⟨0, [1], true⟩, ⟨1, [26], true⟩, ⟨2, [27], true⟩, ⟨3, [28], true⟩, ⟨4, [29], true⟩, ⟨5, [30], true⟩, ⟨6, [6], true⟩, ⟨7, [32], true⟩, ⟨8, [31, 33], true⟩, ⟨9, [34], true⟩] rfl (by kernel_rfl) ?_
  refine Mf rfl rfl (step_fieldAddr so121 Sr rfl) (Mf rfl rfl (step_fieldAddr so30 Sr rfl) (Mf rfl rfl (step_load_ptr ty25 Sr) ?_))
  refine Mf rfl rfl (step_indexAddr_sl (i := 0) underlying25 ty30 Sr Sr (by rfl) (gb (by exact hk0))) ?_
  refine Mf rfl rfl (step_fieldAddr so30 Sr rfl) (Mf rfl rfl (step_load_ptr ty28 Sr) (Mf rfl rfl (step_fieldAddr so64 Sr rfl) (Mf rfl rfl (step_load_ptr ty9 Sr) ?_)))
  refine Mf rfl rfl (step_call0 (acolumn_spec _ _ (by show (nth p.Plan.Kids 0).Attrs.length ≤ _; omega)) ⟨Sr, Sr, trivial⟩ call102) ?_
  refine Mf rfl rfl (step_assign Sr) (JM_nil (J_block (Jr (Jm rfl (Js rfl (step_lss Sr Sr) ?_)))))
  refine Ja rfl (JL_nil ?_)
  refine J_cond Sr (fun h35 => ?_) (fun h35 => ?_)
  ·
   try simp only [NF] at h35
   refine J_region (Jm rfl (Jl rfl ty64 Sr ?_))
   refine Js rfl (step_literal (ys := [_]) underlying28 el64 ⟨rfl, Sr, trivial⟩ rfl (by decide)) ?_
   refine Jx rfl (step_append underlying28 el64 Sr Sr zS (by simp; omega) (by simp; omega)) fun v41 => ?_
   refine Ja rfl (JL_nil (J_region (Js rfl (step_add Sr Sr z6) (Jm rfl (JL_nil ?_)))))
   refine K_againL (σ := Nat × Value) (s := (i, v)) (i + 1, v41) zO ?_ (zU) (.c zS (SPs.of (A := own 64 rAttr v41 ((joinL (nth p.Plan.Kids 0).Attrs ((nth p.Plan.Kids 1).Attrs.take i)) ++ [nth (nth p.Plan.Kids 1).Attrs i])) (by rw [hsn, if_pos h35])) (LSub.nil))
   refine ⟨by omega, fun k hk => ?_⟩
   by_cases e : k = i
   ·
    subst e; simp [h35]
   exact hv k zG
  try simp only [NF] at h35
  have hjn : nth (joinL (nth p.Plan.Kids 0).Attrs ((nth p.Plan.Kids 1).Attrs.take i)) (columnL (nth p.Plan.Kids 0).Attrs (nth (nth p.Plan.Kids 1).Attrs i).Name).toNat = nth (nth p.Plan.Kids 0).Attrs (columnL (nth p.Plan.Kids 0).Attrs (nth (nth p.Plan.Kids 1).Attrs i).Name).toNat := join_nth zG
  refine J_seq ?_
  refine J_draw [⟨0, [4], true⟩, ⟨1, [7], true⟩, ⟨5, [6], true⟩, ⟨6, [48], true⟩, ⟨2, [43, 44], false⟩, ⟨3, [45], false⟩, ⟨4, [46], false⟩, ⟨7, [47, 49], true⟩, ⟨8, [50], true⟩] rfl (by kernel_rfl) ?_
  refine Mv rfl rfl (Mv rfl rfl (Mf rfl rfl (step_fieldAddr so64 Sr rfl) (Mf rfl rfl (step_load_ptr ty3 Sr) ?_)))
  refine JM_look rfl rfl rfl rfl (step_indexAddr_own (i := (columnL (nth p.Plan.Kids 0).Attrs (nth (nth p.Plan.Kids 1).Attrs i).Name).toNat) underlying28 ty64 Sr zS Sr (by show columnL (nth p.Plan.Kids 0).Attrs (nth (nth p.Plan.Kids 1).Attrs i).Name = _; omega) (by show _ < (joinL _ _).length; unfold joinL; rw [List.length_append]; omega)) ?_
  refine JM_look rfl rfl rfl rfl (step_fieldAddr_elem (i := (columnL (nth p.Plan.Kids 0).Attrs (nth (nth p.Plan.Kids 1).Attrs i).Name).toNat) so64 Sr rfl zS (by show _ < (joinL _ _).length; unfold joinL; rw [List.length_append]; omega)) ?_
  refine JM_look rfl rfl rfl rfl (step_load_elemfld (i := (columnL (nth p.Plan.Kids 0).Attrs (nth (nth p.Plan.Kids 1).Attrs i).Name).toNat) (f := ⟨Int, 3, rInt, GAttr.Kind⟩) ty3 Sr rfl zS (gb (by unfold joinL; rw [List.length_append]; omega))) ?_
  refine Mf rfl rfl (step_neq Sr Sr) (Mf rfl rfl (step_assign Sr) (JM_nil ?_))
  refine J_cond Sr (fun h42 => ?_) (fun h42 => ?_)
  ·
   try simp only [NF] at h42
   refine Jr (Ja rfl (Ja rfl (JL_nil (J_ret ?_))))
   refine K_ret2' (rv := .tmp 2) (rv' := .tmp 3) rfl () (Sel.all _) (.tmp Sr) (.tmp Sr) (B := tSl rAttr []) (B' := tV (.bool false)) (Frz.sub Sub.nilsl) (Frz.sub Sr) ?_
   have hno : joinOk (nth p.Plan.Kids 0).Attrs (nth p.Plan.Kids 1).Attrs = false := all_f hlt (by rw [hjn] at h42; simp [h42]; omega)
   rw [if_neg (by rw [hno]; simp), hno]
   exact Sr
  try simp only [NF] at h42
  refine J_skip (J_region (Js rfl (step_add Sr Sr z6) (Jm rfl (JL_nil ?_))))
  refine K_againL (σ := Nat × Value) (s := (i, v)) (i + 1, v) zO ?_ (zU) (.c zS (SPs.of (A := own 64 rAttr v (joinL (nth p.Plan.Kids 0).Attrs ((nth p.Plan.Kids 1).Attrs.take i))) (by rw [hsn, if_neg zG])) (LSub.nil))
  refine ⟨by omega, fun k hk => ?_⟩
  by_cases e : k = i
  ·
   subst e; rw [hjn] at h42; simp [h42]
  exact hv k zG
 try simp only [NF] at h23
 obtain rfl : i = (nth p.Plan.Kids 1).Attrs.length := by omega
 have hok : joinOk (nth p.Plan.Kids 0).Attrs (nth p.Plan.Kids 1).Attrs = true := all_t hv
 refine K_lsub (L' := [own 64 rAttr v (joinL (nth p.Plan.Kids 0).Attrs (nth p.Plan.Kids 1).Attrs)]) (.c zS (SPs.of (A := own 64 rAttr v (joinL (nth p.Plan.Kids 0).Attrs ((nth p.Plan.Kids 1).Attrs.take (nth p.Plan.Kids 1).Attrs.length))) (by rw [List.take_length])) (LSub.nil)) ?_
 refine J_exit (Jr (Jm rfl (Ja rfl (Ja rfl (JL_nil ?_)))))
 refine J_ret ?_
 refine K_ret2' (rv := .tmp 2) (rv' := .tmp 3) rfl () (Sel.all _) (.tmp Sr) (.tmp Sr) (B := tSl rAttr (joinL (nth p.Plan.Kids 0).Attrs (nth p.Plan.Kids 1).Attrs)) (B' := tV (.bool true)) (Frz.own) (Frz.sub Sr) ?_
 rw [if_pos hok, hok]
 exact Sr
theorem plBoth_spec (n : Nat) (p : Gplan) (hk1 : 1 < p.Plan.Kids.length) (hl0 : (nth p.Plan.Kids 0).Attrs.length ≤ 100000000) : Fun1 prog 74 [(rplan n).ty p] (tTup [tSl rAttr (nth p.Plan.Kids 0).Attrs, tV (.bool (alikeM (nth p.Plan.Kids 0).Attrs (nth p.Plan.Kids 1).Attrs))]) := by
 refine Spec.enter func74 rfl rfl fun h0 w0 fr0 => ?_
 have hk0 : 0 < p.Plan.Kids.length := by omega
 refine K_fact 0 (fun _ _ r => plan_pos hk0 r) fun hm => ?_
 obtain ⟨n, rfl⟩ := hm
 refine Jr (Js rfl (step_box (R := (rplan (n + 1))) Sr) (Ja rfl (Ja rfl (JL_nil (J_seq ?_)))))
 refine J_draw [⟨0, [1], true⟩, ⟨1, [4], true⟩, ⟨2, [5], true⟩, ⟨3, [6], true⟩, ⟨4, [7], true⟩, ⟨5, [8], true⟩, ⟨6, [1], true⟩, ⟨7, [10], true⟩, ⟨8, [11], true⟩, ⟨9, [12], true⟩, ⟨10, [13], true⟩, ⟨11, [14], true⟩, ⟨12, [1], true⟩, ⟨13, [16], true⟩, ⟨14, [17], true⟩, ⟨15, [18], true⟩, ⟨16, [19], true⟩, ⟨17, [20], true⟩, ⟨18, [15, 21], true⟩, ⟨19, [9], true⟩, ⟨20, [22], true⟩] rfl (by kernel_rfl) ?_
 refine Mf rfl rfl (step_fieldAddr so121 Sr rfl) (Mf rfl rfl (step_fieldAddr so30 Sr rfl) (Mf rfl rfl (step_load_ptr ty25 Sr) ?_))
 refine Mf rfl rfl (step_indexAddr_sl (i := 0) underlying25 ty30 Sr Sr (by rfl) (gb (by exact hk0))) ?_
 refine Mf rfl rfl (step_fieldAddr so30 Sr rfl) (Mf rfl rfl (step_load_ptr ty28 Sr) (Mf rfl rfl (step_fieldAddr so121 Sr rfl) (Mf rfl rfl (step_fieldAddr so30 Sr rfl) (Mf rfl rfl (step_load_ptr ty25 Sr) ?_))))
 refine Mf rfl rfl (step_indexAddr_sl (i := 0) underlying25 ty30 Sr Sr (by rfl) (gb (by exact hk0))) ?_
 refine Mf rfl rfl (step_fieldAddr so30 Sr rfl) (Mf rfl rfl (step_load_ptr ty28 Sr) (Mf rfl rfl (step_fieldAddr so121 Sr rfl) (Mf rfl rfl (step_fieldAddr so30 Sr rfl) (Mf rfl rfl (step_load_ptr ty25 Sr) ?_))))
 refine Mf rfl rfl (step_indexAddr_sl (i := 1) underlying25 ty30 Sr Sr (by rfl) (gb (by exact hk1))) ?_
 refine Mf rfl rfl (step_fieldAddr so30 Sr rfl) (Mf rfl rfl (step_load_ptr ty28 Sr) ?_)
 refine Mf rfl rfl (step_call0 (alike_spec _ _ (by show (nth p.Plan.Kids 0).Attrs.length ≤ _; omega)) ⟨Sr, Sr, trivial⟩ call103) ?_
 refine Mf rfl rfl (step_assign Sr) (Mf rfl rfl (step_assign Sr) (JM_nil (J_ret ?_)))
 refine K_ret2' (rv := .tmp 2) (rv' := .tmp 3) rfl () (Sel.all _) (.tmp Sr) (.tmp Sr) (Frz.sub Sr) (Frz.sub Sr) Sr
set_option maxHeartbeats 1000000 in
theorem plRen_spec (n : Nat) (p : Gplan) (hk0 : 0 < p.Plan.Kids.length) (hl0 : (nth p.Plan.Kids 0).Attrs.length ≤ 100000000) : Fun1 prog 77 [(rplan n).ty p] (tTup [tSl rAttr (if renOk p.Plan = true then renL p.Plan else []), tV (.bool (renOk p.Plan))]) := by
 refine Spec.enter func77 rfl rfl fun h0 w0 fr0 => ?_
 refine K_fact 0 (fun _ _ r => plan_pos hk0 r) fun hm => ?_
 obtain ⟨n, rfl⟩ := hm
 refine Jr (Js rfl (step_box (R := (rplan (n + 1))) Sr) (Ja rfl (Ja rfl (JL_nil (Jr ?_)))))
 refine Js rfl (step_fieldAddr so121 Sr rfl) (Js rfl (step_fieldAddr so30 Sr rfl) (Jl rfl ty25 Sr ?_))
 refine Js rfl (step_indexAddr_sl (i := 0) underlying25 ty30 Sr Sr (by rfl) (gb (by exact hk0))) ?_
 refine Js rfl (step_fieldAddr so30 Sr rfl) (Jl rfl ty28 Sr ?_)
 refine Jx rfl (step_call (Sel.none _) (CloneA_spec _ (by show (nth p.Plan.Kids 0).Attrs.length ≤ _; omega)) ⟨Sr, trivial⟩ call113) fun v11 => ?_
 refine Ja rfl (JL_nil (J_seq (Jr (Js rfl (step_fieldAddr so121 Sr rfl) (Js rfl (step_fieldAddr so30 Sr rfl) ?_)))))
 refine Jl rfl ty3 Sr (Js rfl (step_lss Sr Sr) (Jm rfl ?_))
 refine Jk rfl Sr rfl (step_fieldAddr so121 Sr rfl) ?_
 refine Jg rfl Sr rfl (fun hw => step_fieldAddr so30 (Sub.w hw) rfl) (Jg rfl Sr rfl (fun hw => step_load_ptr ty3 (Sub.w hw)) ?_)
 refine Jk rfl Sr rfl (step_move Sr) ?_
 refine Jg rfl Sr rfl (fun hw => step_len_own underlying28 (Sub.w hw) zS) ?_
 refine Jg rfl Sr rfl (fun hw => step_geq (Sub.w hw) (Sub.w hw)) (Js rfl (step_pick_or Sr Sr) (Jm rfl ?_))
 refine Jk rfl Sr rfl (step_fieldAddr so121 Sr rfl) ?_
 refine Jg rfl Sr rfl (fun hw => step_fieldAddr so30 (Sub.w hw) rfl) (Jg rfl Sr rfl (fun hw => step_load_ptr ty28 (Sub.w hw)) (Jg rfl Sr rfl (fun hw => step_len_sl underlying28 (Sub.w hw)) ?_))
 refine Jk rfl Sr rfl (step_move Sr) ?_
 refine Jg rfl Sr rfl (fun hw => step_len_own underlying28 (Sub.w hw) zS) ?_
 refine Jg rfl Sr rfl (fun hw => step_neq (Sub.w hw) (Sub.w hw)) (Js rfl (step_pick_or Sr Sr) (JL_nil ?_))
 refine J_cond Sr (fun h32 => ?_) (fun h32 => ?_)
 ·
  try simp only [NF] at h32
  refine Jr (Ja rfl (Ja rfl (JL_nil (J_ret ?_))))
  refine K_ret2' (rv := .tmp 2) (rv' := .tmp 3) rfl () (Sel.all _) (.tmp Sr) (.tmp Sr) (B := tSl rAttr []) (B' := tV (.bool false)) (Frz.sub Sub.nilsl) (Frz.sub Sr) ?_
  have hno : renOk p.Plan = false := by unfold renOk; rw [decide_eq_false_iff_not]; omega
  rw [if_neg (by rw [hno]; simp), hno]
  exact Sr
 try simp only [NF] at h32
 have hok : renOk p.Plan = true := by unfold renOk; rw [decide_eq_true_eq]; omega
 have hr : 0 ≤ p.Plan.Col ∧ p.Plan.Col < (nth p.Plan.Kids 0).Attrs.length ∧ p.Plan.Attrs.length = (nth p.Plan.Kids 0).Attrs.length := by omega
 refine J_skip (J_seq ?_)
 refine J_draw [⟨0, [4], true⟩, ⟨1, [1], true⟩, ⟨2, [34], true⟩, ⟨3, [35], true⟩, ⟨4, [1], true⟩, ⟨5, [37], true⟩, ⟨6, [38], true⟩, ⟨7, [1], true⟩, ⟨8, [40], true⟩, ⟨9, [41], true⟩, ⟨10, [39, 42], true⟩, ⟨11, [43], true⟩, ⟨12, [44], true⟩, ⟨13, [33, 36], false⟩, ⟨14, [46], false⟩, ⟨15, [45, 47], false⟩] rfl (by kernel_rfl) ?_
 refine Mv rfl rfl (Mf rfl rfl (step_fieldAddr so121 Sr rfl) (Mf rfl rfl (step_fieldAddr so30 Sr rfl) (Mf rfl rfl (step_load_ptr ty3 Sr) (Mf rfl rfl (step_fieldAddr so121 Sr rfl) (Mf rfl rfl (step_fieldAddr so30 Sr rfl) ?_)))))
 refine Mf rfl rfl (step_load_ptr ty28 Sr) (Mf rfl rfl (step_fieldAddr so121 Sr rfl) (Mf rfl rfl (step_fieldAddr so30 Sr rfl) (Mf rfl rfl (step_load_ptr ty3 Sr) ?_)))
 refine Mf rfl rfl (step_indexAddr_sl (i := p.Plan.Col.toNat) underlying28 ty64 Sr Sr (by show p.Plan.Col = _; omega) (gb (by show p.Plan.Col.toNat < p.Plan.Attrs.length; omega))) ?_
 refine Mf rfl rfl (step_fieldAddr so64 Sr rfl) (Mf rfl rfl (step_load_ptr ty9 Sr) ?_)
 refine JM_look rfl rfl rfl rfl (step_indexAddr_own (i := p.Plan.Col.toNat) underlying28 ty64 Sr zS Sr (by show p.Plan.Col = _; omega) (by show _ < (nth p.Plan.Kids 0).Attrs.length; omega)) ?_
 refine JM_look rfl rfl rfl rfl (step_fieldAddr_elem (i := p.Plan.Col.toNat) so64 Sr rfl zS (by show _ < (nth p.Plan.Kids 0).Attrs.length; omega)) ?_
 refine JM_stepU rfl rfl rfl (step_store_elemfld (i := p.Plan.Col.toNat) (y := nth (nth p.Plan.Kids 0).Attrs p.Plan.Col.toNat) (y' := { nth (nth p.Plan.Kids 0).Attrs p.Plan.Col.toNat with Name := (nth p.Plan.Attrs p.Plan.Col.toNat).Name }) ty9 Sr Sr zS (gb (by show _ < (nth p.Plan.Kids 0).Attrs.length; omega)) ⟨fun _ _ q => q, rfl, by intro g hg; simp only [List.mem_cons, List.not_mem_nil, or_false] at hg; rcases hg with rfl | rfl | rfl <;> rfl⟩) fun _ => ?_
 refine JM_nil (Jr (Jm rfl (Ja rfl (Ja rfl (JL_nil ?_)))))
 refine J_ret ?_
 refine K_ret2' (rv := .tmp 2) (rv' := .tmp 3) rfl () (Sel.all _) (.tmp Sr) (.tmp Sr) (B := tSl rAttr (renL p.Plan)) (B' := tV (.bool true)) (Frz.own) (Frz.sub Sr) ?_
 rw [if_pos hok, hok]
 exact Sr
set_option maxHeartbeats 4000000 in
theorem plGrp_spec (n : Nat) (p : Gplan) (hk0 : 0 < p.Plan.Kids.length) (hl0 : (nth p.Plan.Kids 0).Attrs.length ≤ 100000000) (hc : p.Plan.Cols.length ≤ 100000000) : Fun1 prog 80 [(rplan n).ty p] (tTup [tSl rAttr (if grpOk p.Plan = true then grpL p.Plan else []), tV (.bool (grpOk p.Plan && grpB p.Plan))]) := by
 refine Spec.enter func80 rfl rfl fun h0 w0 fr0 => ?_
 refine K_fact 0 (fun _ _ r => plan_pos hk0 r) fun hm => ?_
 obtain ⟨n, rfl⟩ := hm
 refine Jr (Js rfl (step_box (R := (rplan (n + 1))) Sr) (Ja rfl (Ja rfl (JL_nil (Jr ?_)))))
 refine Js rfl (step_fieldAddr so121 Sr rfl) (Js rfl (step_fieldAddr so30 Sr rfl) (Jl rfl ty25 Sr ?_))
 refine Js rfl (step_indexAddr_sl (i := 0) underlying25 ty30 Sr Sr (by rfl) (gb (by exact hk0))) ?_
 refine Js rfl (step_fieldAddr so30 Sr rfl) (Jl rfl ty28 Sr (Ja rfl (JL_nil (Jr (Jm rfl ?_)))))
 refine Js rfl (step_fieldAddr so121 Sr rfl) (Js rfl (step_fieldAddr so30 Sr rfl) (Jl rfl ty27 Sr ?_))
 refine Jx rfl (step_call (Sel.none _) (pickA_spec _ _ (by show p.Plan.Cols.length ≤ _; omega)) ⟨Sr, Sr, trivial⟩ call122) fun v19 => ?_
 refine Jm rfl (Js rfl (step_extract Sr rfl) (Js rfl (step_extract Sr rfl) (Ja rfl (Ja rfl (JL_nil ?_)))))
 refine J_seq (Jr (Jm rfl (Js rfl (step_not Sr) (Jm rfl ?_))))
 refine Jk rfl Sr rfl (step_fieldAddr so121 Sr rfl) ?_
 refine Jg rfl Sr rfl (fun hw => step_fieldAddr so30 (Sub.w hw) rfl) (Jg rfl Sr rfl (fun hw => step_load_ptr ty28 (Sub.w hw)) (Jg rfl Sr rfl (fun hw => step_len_sl underlying28 (Sub.w hw)) ?_))
 refine Jk rfl Sr rfl (step_move Sr) ?_
 refine Jg rfl Sr rfl (fun hw => step_len_own underlying28 (Sub.w hw) zS) ?_
 refine Jg rfl Sr rfl (fun hw => step_add (Sub.w hw) Sr (by show in64 (((pickM (nth p.Plan.Kids 0).Attrs p.Plan.Cols).length : Int) + 1); have := pickM_len (nth p.Plan.Kids 0).Attrs p.Plan.Cols; unfold in64; omega)) ?_
 refine Jg rfl Sr rfl (fun hw => step_neq (Sub.w hw) (Sub.w hw)) (Js rfl (step_pick_or Sr Sr) (Jm rfl ?_))
 refine Jk rfl Sr rfl (step_fieldAddr so121 Sr rfl) ?_
 refine Jg rfl Sr rfl (fun hw => step_fieldAddr so30 (Sub.w hw) rfl) (Jg rfl Sr rfl (fun hw => step_load_ptr ty3 (Sub.w hw)) (Jg rfl Sr rfl (fun hw => step_lss (Sub.w hw) Sr) (Js rfl (step_pick_or Sr Sr) (Jm rfl ?_))))
 refine Jk rfl Sr rfl (step_fieldAddr so121 Sr rfl) ?_
 refine Jg rfl Sr rfl (fun hw => step_fieldAddr so30 (Sub.w hw) rfl) (Jg rfl Sr rfl (fun hw => step_load_ptr ty3 (Sub.w hw)) (Jg rfl Sr rfl (fun hw => step_gtr (Sub.w hw) Sr) (Js rfl (step_pick_or Sr Sr) (JL_nil ?_))))
 refine J_cond Sr (fun h45 => ?_) (fun h45 => ?_)
 ·
  try simp only [NF] at h45
  refine Jr (Ja rfl (Ja rfl (JL_nil (J_ret ?_))))
  refine K_ret2' (rv := .tmp 2) (rv' := .tmp 3) rfl () (Sel.all _) (.tmp Sr) (.tmp Sr) (B := tSl rAttr []) (B' := tV (.bool false)) (Frz.sub Sub.nilsl) (Frz.sub Sr) ?_
  have hno : grpOk p.Plan = false := by
   unfold grpOk
   by_cases hpk : pickOk (nth p.Plan.Kids 0).Attrs.length p.Plan.Cols = true
   ·
    have hpl : (pickM (nth p.Plan.Kids 0).Attrs p.Plan.Cols).length = p.Plan.Cols.length := by rw [pickM, if_pos hpk]; simp [pickL]
    rw [hpk, Bool.true_and, decide_eq_false_iff_not]
    rcases h45 with ((h | h) | h) | h
    ·
     exact absurd hpk (by rw [show pickOk (nth p.Plan.Kids 0).Attrs.length p.Plan.Cols = false from h]; simp)
    all_goals omega
   rw [Bool.eq_false_iff.2 hpk, Bool.false_and]
  rw [if_neg (by rw [hno]; simp), hno]
  exact Sr
 try simp only [NF] at h45
 have hpk : pickOk (nth p.Plan.Kids 0).Attrs.length p.Plan.Cols = true := by simp_all
 have hpm : (pickM (nth p.Plan.Kids 0).Attrs p.Plan.Cols) = pickL (nth p.Plan.Kids 0).Attrs p.Plan.Cols := by rw [pickM, if_pos hpk]
 have hpl : (pickM (nth p.Plan.Kids 0).Attrs p.Plan.Cols).length = p.Plan.Cols.length := by rw [hpm]; simp [pickL]
 have hok : grpOk p.Plan = true := by unfold grpOk; rw [hpk, Bool.true_and, decide_eq_true_eq]; omega
 refine J_skip (Jr (Js rfl (step_fieldAddr so121 Sr rfl) (Js rfl (step_fieldAddr so30 Sr rfl) (Jl rfl ty28 Sr (Jm rfl ?_)))))
 refine Js rfl (step_len_own underlying28 Sr zS) ?_
 refine Js rfl (step_indexAddr_sl (i := p.Plan.Cols.length) underlying28 ty64 Sr Sr (by rw [hpl]) (gb (by show p.Plan.Cols.length < p.Plan.Attrs.length; omega))) ?_
 refine Js rfl (step_fieldAddr so64 Sr rfl) (Jl rfl ty9 Sr (Js rfl (step_build (x := (⟨(nth p.Plan.Attrs p.Plan.Cols.length).Name, 2, [], ⟨0, 0, ⟨#[]⟩⟩⟩ : GAttr)) (zs := [[Value.string ⟨#[]⟩], [Value.int .i64 0], [Value.slice none 0 0], [Value.int .i64 0, Value.int .i64 0, Value.string ⟨#[]⟩]]) so64 (fun w => zeroValue64 w) ⟨Sr, Sr, trivial⟩ ⟨⟨Sr, rfl⟩, ⟨Sr, rfl⟩, fun _ => ⟨_, rfl, none, ⟨0, Nat.le_refl _⟩, rfl, fun q => absurd rfl q⟩, fun _ => ⟨[Value.int .i64 0], _, rfl, rfl, ⟨[Value.int .i64 0], _, rfl, rfl, ⟨[Value.string ⟨#[]⟩], _, rfl, rfl, rfl⟩⟩⟩, trivial⟩) ?_))
 refine Jx rfl (step_alloc (fun w => zeroValue64 w) zr64) fun b7 => ?_
 refine Ju (step_store_box ty64 Sr Sr zS) fun _ => ?_
 refine JL_nil (J_seq (J_block (Jr (Js rfl (step_fieldAddr so121 Sr rfl) (Js rfl (step_fieldAddr so30 Sr rfl) ?_)))))
 refine Jl rfl ty3 Sr (Js rfl (step_eql Sr Sr) (Ja rfl (JL_nil ?_)))
 refine J_cond Sr (fun h63 => ?_) (fun h63 => ?_)
 ·
  try simp only [NF] at h63
  refine J_region (Js rfl (step_fieldAddr so121 Sr rfl) (Js rfl (step_fieldAddr so30 Sr rfl) (Jl rfl ty3 Sr (Js rfl (step_eql Sr Sr) (Ja rfl ?_)))))
  refine JL_nil (Jr (Jm rfl ?_))
  refine Js rfl (step_load_box ty64 Sr zS) ?_
  refine Js rfl (step_literal (ys := [_]) underlying28 el64 ⟨rfl, Sr, trivial⟩ rfl (by decide)) ?_
  refine Jx rfl (step_append underlying28 el64 Sr Sr zS (by rw [hpl]; simp; omega) (by rw [hpl]; simp; omega)) fun v101 => ?_
  refine Jm rfl (Ja rfl (Ja rfl (JL_nil (J_ret ?_))))
  refine K_ret2' (rv := .tmp 2) (rv' := .tmp 3) rfl () (Sel.all _) (.tmp Sr) (.tmp Sr) Frz.own (Frz.sub Sr) (Sub.tupSB ?_ ?_)
  ·
   rw [if_pos hok]
   show (pickM (nth p.Plan.Kids 0).Attrs p.Plan.Cols) ++ _ = _
   rw [hpm]
   first | (simp [grpL, grpK, h63]; done) | (simp [grpL, grpK, h63, hgi]; done) | (simp [grpL, grpK, h63, hgi, h85]; done)
  rw [hok, Bool.true_and]
  first | (simp [grpB, h63]; done) | (simp [grpB, h63, hgi]; done) | (simp [grpB, h63, hgi, h85]; done) | (simp [grpB, h63, hgi, h85]; exact hpk)
 try simp only [NF] at h63
 refine Jr (Js rfl (step_fieldAddr so121 Sr rfl) (Js rfl (step_fieldAddr so30 Sr rfl) (Jl rfl ty3 Sr (Js rfl (step_lss Sr Sr) (Jm rfl ?_)))))
 refine Jk rfl Sr rfl (step_fieldAddr so121 Sr rfl) ?_
 refine Jg rfl Sr rfl (fun hw => step_fieldAddr so30 (Sub.w hw) rfl) (Jg rfl Sr rfl (fun hw => step_load_ptr ty3 (Sub.w hw)) ?_)
 refine Jk rfl Sr rfl (step_move Sr) ?_
 refine Jg rfl Sr rfl (fun hw => step_len_sl underlying28 (Sub.w hw)) (Jg rfl Sr rfl (fun hw => step_geq (Sub.w hw) (Sub.w hw)) (Js rfl (step_pick_or Sr Sr) (Ja rfl (JL_nil ?_))))
 refine J_cond Sr (fun h72 => ?_) (fun h72 => ?_)
 ·
  try simp only [NF] at h72
  have hgi : grpIn p.Plan = false := by unfold grpIn; rw [decide_eq_false_iff_not]; omega
  refine J_region (Ja rfl (JL_nil (Jr (Jm rfl ?_))))
  refine Js rfl (step_load_box ty64 Sr zS) ?_
  refine Js rfl (step_literal (ys := [_]) underlying28 el64 ⟨rfl, Sr, trivial⟩ rfl (by decide)) ?_
  refine Jx rfl (step_append underlying28 el64 Sr Sr zS (by rw [hpl]; simp; omega) (by rw [hpl]; simp; omega)) fun v101 => ?_
  refine Jm rfl (Ja rfl (Ja rfl (JL_nil (J_ret ?_))))
  refine K_ret2' (rv := .tmp 2) (rv' := .tmp 3) rfl () (Sel.all _) (.tmp Sr) (.tmp Sr) Frz.own (Frz.sub Sr) (Sub.tupSB ?_ ?_)
  ·
   rw [if_pos hok]
   show (pickM (nth p.Plan.Kids 0).Attrs p.Plan.Cols) ++ _ = _
   rw [hpm]
   first | (simp [grpL, grpK, h63]; done) | (simp [grpL, grpK, h63, hgi]; done) | (simp [grpL, grpK, h63, hgi, h85]; done)
  rw [hok, Bool.true_and]
  first | (simp [grpB, h63]; done) | (simp [grpB, h63, hgi]; done) | (simp [grpB, h63, hgi, h85]; done) | (simp [grpB, h63, hgi, h85]; exact hpk)
 try simp only [NF] at h72
 have hgi : grpIn p.Plan = true := by unfold grpIn; rw [decide_eq_true_eq]; omega
 have hin : 0 ≤ p.Plan.Col ∧ p.Plan.Col < (nth p.Plan.Kids 0).Attrs.length := by omega
 refine Jr (Js rfl (step_fieldAddr so121 Sr rfl) (Js rfl (step_fieldAddr so30 Sr rfl) (Jl rfl ty3 Sr (Js rfl (step_eql Sr Sr) (Ja rfl ?_)))))
 refine JL_nil ?_
 refine J_cond Sr (fun h85 => ?_) (fun h85 => ?_)
 ·
  try simp only [NF] at h85
  refine J_region (Jm rfl (Js rfl (step_fieldAddr so121 Sr rfl) (Js rfl (step_fieldAddr so30 Sr rfl) (Jl rfl ty3 Sr ?_))))
  refine Js rfl (step_indexAddr_sl (i := p.Plan.Col.toNat) underlying28 ty64 Sr Sr (by show p.Plan.Col = _; omega) (gb (by show _ < (nth p.Plan.Kids 0).Attrs.length; omega))) ?_
  refine Js rfl (step_fieldAddr so64 Sr rfl) (Jl rfl ty3 Sr (Js rfl (step_eql Sr Sr) (Ja rfl (JL_nil (Jr ?_)))))
  refine Jm rfl ?_
  refine Js rfl (step_load_box ty64 Sr zS) ?_
  refine Js rfl (step_literal (ys := [_]) underlying28 el64 ⟨rfl, Sr, trivial⟩ rfl (by decide)) ?_
  refine Jx rfl (step_append underlying28 el64 Sr Sr zS (by rw [hpl]; simp; omega) (by rw [hpl]; simp; omega)) fun v101 => ?_
  refine Jm rfl (Ja rfl (Ja rfl (JL_nil (J_ret ?_))))
  refine K_ret2' (rv := .tmp 2) (rv' := .tmp 3) rfl () (Sel.all _) (.tmp Sr) (.tmp Sr) Frz.own (Frz.sub Sr) (Sub.tupSB ?_ ?_)
  ·
   rw [if_pos hok]
   show (pickM (nth p.Plan.Kids 0).Attrs p.Plan.Cols) ++ _ = _
   rw [hpm]
   first | (simp [grpL, grpK, h63]; done) | (simp [grpL, grpK, h63, hgi]; done) | (simp [grpL, grpK, h63, hgi, h85]; done)
  rw [hok, Bool.true_and]
  first | (simp [grpB, h63]; done) | (simp [grpB, h63, hgi]; done) | (simp [grpB, h63, hgi, h85]; done) | (simp [grpB, h63, hgi, h85]; exact hpk)
 try simp only [NF] at h85
 refine J_region (Jm rfl (Js rfl (step_fieldAddr so121 Sr rfl) (Js rfl (step_fieldAddr so30 Sr rfl) (Jl rfl ty3 Sr ?_))))
 refine Js rfl (step_indexAddr_sl (i := p.Plan.Col.toNat) underlying28 ty64 Sr Sr (by show p.Plan.Col = _; omega) (gb (by show _ < (nth p.Plan.Kids 0).Attrs.length; omega))) ?_
 refine Js rfl (step_fieldAddr so64 Sr rfl) (Jl rfl ty3 Sr (Js rfl (step_fieldAddr_own so64 Sr rfl) ?_))
 refine Ju (step_store_fld (R := rInt) (y' := (⟨(nth p.Plan.Attrs p.Plan.Cols.length).Name, (nth (nth p.Plan.Kids 0).Attrs p.Plan.Col.toNat).Kind, [], ⟨0, 0, ⟨#[]⟩⟩⟩ : GAttr)) ty3 Sr Sr zS (by exact ⟨rfl, fun _ _ q => q, rfl, by intro g hg; simp only [List.mem_cons, List.not_mem_nil, or_false] at hg; rcases hg with rfl | rfl <;> rfl⟩)) fun _ => ?_
 refine JL_nil (Jr (Jm rfl ?_))
 refine Js rfl (step_load_box ty64 Sr zS) ?_
 refine Js rfl (step_literal (ys := [_]) underlying28 el64 ⟨rfl, Sr, trivial⟩ rfl (by decide)) ?_
 refine Jx rfl (step_append underlying28 el64 Sr Sr zS (by rw [hpl]; simp; omega) (by rw [hpl]; simp; omega)) fun v101 => ?_
 refine Jm rfl (Ja rfl (Ja rfl (JL_nil (J_ret ?_))))
 refine K_ret2' (rv := .tmp 2) (rv' := .tmp 3) rfl () (Sel.all _) (.tmp Sr) (.tmp Sr) Frz.own (Frz.sub Sr) (Sub.tupSB ?_ ?_)
 ·
  rw [if_pos hok]
  show (pickM (nth p.Plan.Kids 0).Attrs p.Plan.Cols) ++ _ = _
  rw [hpm]
  first | (simp [grpL, grpK, h63]; done) | (simp [grpL, grpK, h63, hgi]; done) | (simp [grpL, grpK, h63, hgi, h85]; done)
 rw [hok, Bool.true_and]
 first | (simp [grpB, h63]; done) | (simp [grpB, h63, hgi]; done) | (simp [grpB, h63, hgi, h85]; done) | (simp [grpB, h63, hgi, h85]; exact hpk)
open Go
theorem sortWorld_other {α : Type} [Inhabited α] {enc : α → Value} {w : World} {g off m : Nat} {dk : Array α} {os : Array Obj} {b : Nat} (hb : b < w.heap.size) (hne : b ≠ g) : (Go.Proofs.sortWorld enc w g off m dk os).heap[b]? = w.heap[b]? := by
  show ((Sort.mapBlock (Sort.ahead w m) g _).heap ++ os)[b]? = _
  rw [Array.getElem?_append_left (by simp [Sort.mapBlock, Sort.ahead, hb])]
  simp only [Sort.mapBlock, Sort.ahead, Array.getElem?_modify, Ne.symm hne, if_false]
theorem sortWorld_row {α : Type} [Inhabited α] {enc : α → Value} {w : World} {g off m : Nat} {dk : Array α} {os : Array Obj} {cur : Array Value} {e : Nat} {fz : Nat × Nat} (hb : w.heap[g]? = some (.cells cur e fz)) :
    (Go.Proofs.sortWorld enc w g off m dk os).heap[g]? = some (.cells (Sort.putCells enc off dk cur) e fz) := by
  have hlt := (Array.getElem?_eq_some_iff.1 hb).1
  show ((Sort.mapBlock (Sort.ahead w m) g _).heap ++ os)[g]? = _
  rw [Array.getElem?_append_left (by simp [Sort.mapBlock, Sort.ahead, hlt])]
  simp only [Sort.mapBlock, Sort.ahead, Array.getElem?_modify, if_true, hb, Option.map_some, Sort.onCells]
open Go
/-- A function that sorts, cuts or thins a row of one's own strings. -/
theorem row_spec {P : Program} {f : Nat} {As : List Ty} {rest : List Value} (v : Value) (xs : List ByteArray) (ds : List (List UInt8)) (hd : ds.length = xs.length) (m : Nat) (hm : m ≤ xs.length) (ret : Option Addr → Nat → Value) (T : Value → Ty) (hT : ∀ h a n cap, (xs = [] → n = 0) → (xs ≠ [] → n = m) → (T (.slice a n cap)).p h (ret a cap)) (hrest : ∀ h vs, Args h As vs → vs = rest)
    (hk : ∀ (g cap : Nat) (w : World), Sort.Holds Go.Proofs.encStr w g 0 (xs.map ofB).toArray → g < w.heap.size → xs.length ≤ cap → Calls P f (.slice (some ⟨g, 0, none⟩) xs.length cap :: rest).toArray w fun e w' => e = .returned (ret (some ⟨g, 0, none⟩) cap) ∧ ∃ n os, w' = Go.Proofs.sortWorld Go.Proofs.encStr w g 0 n ds.toArray os)
    (hn : ∀ a cap w, xs = [] → Calls P f (.slice a 0 cap :: rest).toArray w fun e w' => e = .returned (ret a cap) ∧ w' = w) :
    Spec (X := { z : Value // m = xs.length → z = v }) P f (rV.ty v :: As) [own 9 rStr v xs] (fun z => T z.1) (fun z => [own 9 rStr z.1 ((ds.take m).map toB)]) := by
  intro vs h m0 r w ha sp st
  match vs, ha with
  | u1 :: us, ⟨a1, a2⟩ =>
  obtain ⟨e1, _⟩ := a1
  subst e1
  have := hrest _ _ a2
  subst this
  obtain ⟨m1, m2, d12, rfl, ho, e3⟩ := st
  rw [stars_nil] at e3; subst e3
  rw [PH.join_emp] at sp
  have none_case : ∀ (p : Option Addr) (cap : Nat), u1 = .slice p 0 cap → xs = [] → (own 9 rStr u1 xs).p h m1 → Calls P f (u1 :: us).toArray w (Ret (X := { z : Value // m = xs.length → z = u1 }) h w r (fun z => T z.1) (fun z => [own 9 rStr z.1 ((ds.take m).map toB)])) := by
    intro p cap hu hx ho
    subst hu; subst hx
    have hds : ds = [] := List.length_eq_zero_iff.1 hd
    subst hds
    refine (hn p cap w rfl).mono ?_
    rintro e' w' ⟨rfl, rfl⟩
    exact ⟨⟨.slice p 0 cap, fun _ => rfl⟩, _, h, m1, rfl, HL.refl, sp, ⟨m1, PH.emp, PH.disj_emp _, (PH.join_emp _).symm, by simpa using ho, rfl⟩, hT _ _ _ _ (fun _ => rfl) (fun q => absurd rfl q)⟩
  have ho0 := ho
  rcases ho with ⟨rfl, rfl, rfl⟩ | ⟨g, cap, cur, rfl, rfl, hl, hmx, hs, hr⟩
  · exact none_case none 0 rfl rfl ho0
  · by_cases hx : xs = []
    · subst hx; exact none_case _ cap rfl rfl ho0
    · have hk1 : rStr.k = 1 := rfl
      rw [hk1, Nat.mul_one] at hs hr
      rw [relAll_str] at hr
      have hb := sp.mw g _ (PH.one_same _ _)
      have hH : Sort.Holds Go.Proofs.encStr w g 0 (xs.map ofB).toArray := fun j hj => ⟨by
        rw [Nat.zero_add]; simp only [World.cell?, hb]
        have hj' : j < xs.length := by simpa using hj
        have : (cur.toList.take xs.length)[j]? = some (.string xs[j]) := by rw [hr]; simp [hj']
        rw [List.getElem?_take, if_pos hj'] at this
        rw [getElem!_pos _ j hj]
        have e2 : Go.Proofs.encStr ((xs.map ofB).toArray[j]) = .string xs[j] := by
          simp only [List.getElem_toArray, List.getElem_map]
        rw [e2]
        first | exact this | simpa using this, by simp [World.frozen?, hb]⟩
      have hblk : g < w.heap.size := (Array.getElem?_eq_some_iff.1 hb).1
      refine (hk g cap w hH hblk hl).mono ?_
      rintro e' w' ⟨rfl, n, os, rfl⟩
      have hlen : ((ds.take m).map toB).length = m := by rw [List.length_map, List.length_take, Nat.min_eq_left (by omega)]
      refine ⟨⟨.slice (some ⟨g, 0, none⟩) m cap, fun q => by rw [q]⟩, _, h, PH.one g (.cells (Sort.putCells Go.Proofs.encStr 0 ds.toArray cur) 9 (0, 0)), rfl, HL.same ⟨rfl, rfl, rfl⟩, ?_, ⟨_, PH.emp, PH.disj_emp _, (PH.join_emp _).symm, .inr ⟨g, cap, _, by rw [hlen], rfl, by rw [hlen]; omega, hmx, ?_, ?_⟩, rfl⟩, hT _ _ _ _ (fun q => absurd q hx) (fun _ => rfl)⟩
      · have sp' : Sep h ((PH.one g (.cells cur 9 (0, 0))).join PH.emp) r w := by rw [PH.join_emp]; exact sp
        have := Sep.write (o' := .cells (Sort.putCells Go.Proofs.encStr 0 ds.toArray cur) 9 (0, 0)) (PH.disj_emp _) sp' (fun b hne' hb' => sortWorld_other (enc := Go.Proofs.encStr) (off := 0) (m := n) (dk := ds.toArray) (os := os) hb' hne') (sortWorld_row hb)
        rw [PH.join_emp] at this; exact this
      · simp [Sort.putCells, hs, hk1]
      · rw [hlen, hk1, Nat.mul_one, relAll_str]
        apply List.ext_getElem?
        intro j
        rw [List.getElem?_take]
        split
        · rename_i hj
          have hjc : j < cur.size := by omega
          have hjd : j < ds.length := by omega
          simp [Sort.putCells, hjc, hjd, hj]
        · rw [List.getElem?_eq_none (by rw [List.length_map, hlen]; omega)]
def sortS (xs : List ByteArray) : List ByteArray := ((xs.map ofB).mergeSort fun x y => decide (x ≤ y)).map toB
theorem sortS_len (xs : List ByteArray) : (sortS xs).length = xs.length := by simp [sortS]
def compS (xs : List ByteArray) : List ByteArray := (Lib.compact (xs.map ofB)).map toB
theorem sortStr_spec {P : Program} {ρ : Shelf.Ren} (LL : Go.Proofs.Lays.n190 P ρ) (v : Value) (xs : List ByteArray) (hn : xs.length < 4611686018427387904) :
    Spec (X := Unit) P (ρ.f 190) [rV.ty v] [own 9 rStr v xs] (fun _ => tTup []) (fun _ => [own 9 rStr v (sortS xs)]) := by
  have h := row_spec (P := P) (f := ρ.f 190) (As := []) (rest := []) v xs ((xs.map ofB).mergeSort fun x y => decide (x ≤ y)) (by simp) xs.length (Nat.le_refl _) (fun _ _ => .tuple #[]) (fun _ => tTup []) (fun _ _ _ _ _ _ => ⟨[], rfl, trivial⟩) (fun h vs a => by match vs, a with | [], _ => rfl)
    (fun g cap w hH hb hc => by
      have := Go.Proofs.Any.slices_Sort_string LL g 0 cap (xs.map ofB) w hH hb (by simpa using hn)
      rw [List.length_map] at this
      exact this)
    (fun a cap w _ => Go.Proofs.Any.slices_Sort_string_none LL a cap w)
  intro vs h0 m r w ha sp st
  refine (h vs h0 m r w ha sp st).mono ?_
  rintro e w' ⟨⟨z, hz⟩, u, h', m', rfl, l, s, st', hu⟩
  have := hz rfl
  subst this
  refine ⟨(), u, h', m', rfl, l, s, ?_, hu⟩
  have e1 : (((xs.map ofB).mergeSort fun x y => decide (x ≤ y)).take xs.length) = ((xs.map ofB).mergeSort fun x y => decide (x ≤ y)) := List.take_of_length_le (by simp)
  rw [e1] at st'
  exact st'
theorem compact_len (zs : List (List UInt8)) : (Lib.compact zs).length ≤ zs.length := by
  unfold Lib.compact Lib.compactUpTo
  rw [List.length_map]
  refine Nat.le_trans (List.length_filter_le _ _) ?_
  rw [List.length_range]; exact Nat.le_refl _
theorem compStr_spec {P : Program} {ρ : Shelf.Ren} (LL : Go.Proofs.Lays.n194 P ρ) (v : Value) (xs : List ByteArray) (hn : xs.length ≤ 4611686018427387904) :
    Spec (X := Value) P (ρ.f 194) [rV.ty v] [own 9 rStr v xs] (fun z => rV.ty z) (fun z => [own 9 rStr z (compS xs)]) := by
  have hcl := compact_len (xs.map ofB)
  rw [List.length_map] at hcl
  have h := row_spec (P := P) (f := ρ.f 194) (As := []) (rest := []) v xs (Lib.compact (xs.map ofB) ++ List.replicate (xs.length - (Lib.compact (xs.map ofB)).length) []) (by simp; omega) (Lib.compact (xs.map ofB)).length hcl
    (fun a cap => .slice a (Lib.compact (xs.map ofB)).length cap) (fun z => rV.ty z) (fun _ a n cap h1 h2 => by
      by_cases hx : xs = []
      · rw [h1 hx]; subst hx; exact ⟨rfl, rfl⟩
      · rw [h2 hx]; exact ⟨rfl, rfl⟩) (fun h vs a => by match vs, a with | [], _ => rfl)
    (fun g cap w hH hb hc => by
      have := Go.Proofs.Any.slices_Compact_string LL g 0 cap (xs.map ofB) w hH (by rw [List.length_map]; omega) (by rw [List.length_map]; omega)
      rw [List.length_map] at this
      refine this.mono ?_
      rintro e w' ⟨he, q, hq⟩
      exact ⟨he, q, #[], by rw [hq]; unfold Go.Proofs.sortWorld; rw [Sort.grow_empty]⟩)
    (fun a cap w hx => by subst hx; exact Go.Proofs.Any.slices_Compact_string_empty LL a cap w)
  intro vs h0 m r w ha sp st
  refine (h vs h0 m r w ha sp st).mono ?_
  rintro e w' ⟨⟨z, hz⟩, u, h', m', rfl, l, s, st', hu⟩
  refine ⟨z, u, h', m', rfl, l, s, ?_, hu⟩
  rw [List.take_left' rfl] at st'
  exact st'
open Go
theorem leL_tot (a b : List UInt8) : (decide (a ≤ b) || decide (b ≤ a)) = true := by
  rcases List.le_total a b with h | h <;> simp [h]
theorem leL_trans (a b c : List UInt8) (h1 : decide (a ≤ b) = true) (h2 : decide (b ≤ c) = true) : decide (a ≤ c) = true := by
  simp only [decide_eq_true_eq] at *; exact List.le_trans h1 h2
theorem ofB_inj {x y : ByteArray} (h : ofB x = ofB y) : x = y := by rw [← toB_ofB x, h, toB_ofB]
theorem filter_full {α : Type} {p : α → Bool} {l : List α} (h : l.length ≤ (l.filter p).length) : ∀ x ∈ l, p x = true := by
  induction l with
  | nil => intro x hx; cases hx
  | cons a l ih =>
    intro x hx
    have hle := List.length_filter_le p l
    by_cases ha : p a = true
    · rw [List.filter_cons_of_pos ha, List.length_cons, List.length_cons] at h
      rcases List.mem_cons.1 hx with rfl | hx
      · exact ha
      · exact ih (by omega) x hx
    · rw [List.filter_cons_of_neg ha, List.length_cons] at h; omega
theorem compact_full (zs : List (List UInt8)) (hs : zs.Pairwise fun a b => decide (a ≤ b) = true) : zs.length ≤ (Lib.compact zs).length ↔ zs.Nodup := by
  have e : (Lib.compact zs).length = ((List.range zs.length).filter (Lib.keeps zs.toArray)).length := by simp [Lib.compact, Lib.compactUpTo]
  have hk : ∀ j, j < zs.length → (Lib.keeps zs.toArray j = true ↔ (j = 0 ∨ ∀ (h1 : j < zs.length) (h2 : j - 1 < zs.length), zs[j] ≠ zs[j - 1])) := by
    intro j hj
    have h2 : j - 1 < zs.length := by omega
    unfold Lib.keeps
    rw [decide_eq_true_eq]
    rw [getElem!_pos zs.toArray j (by simpa using hj), getElem!_pos zs.toArray (j - 1) (by simpa using h2)]
    simp only [List.getElem_toArray]
    constructor
    · rintro (h | h)
      · exact .inl h
      · exact .inr fun _ _ => h
    · rintro (h | h)
      · exact .inl h
      · exact .inr (h hj h2)
  rw [e]
  constructor
  · intro h
    have hall := filter_full (p := Lib.keeps zs.toArray) (l := List.range zs.length) (by rw [List.length_range]; exact h)
    have hadj : ∀ j (h1 : j + 1 < zs.length), zs[j] < zs[j + 1] := by
      intro j h1
      have h2 := (hk (j + 1) h1).1 (hall _ (List.mem_range.2 h1))
      rcases h2 with h2 | h2
      · omega
      · have h3 := h2 h1 (by omega)
        have h4 := List.pairwise_iff_getElem.1 hs j (j + 1) (by omega) h1 (by omega)
        simp only [decide_eq_true_eq] at h4
        simp only [Nat.add_sub_cancel] at h3
        rcases Decidable.em (zs[j] < zs[j + 1]) with h5 | h5
        · exact h5
        · exact absurd (List.le_antisymm (List.not_lt.1 h5) h4) h3
    have hlt : ∀ d i (h1 : i + d + 1 < zs.length), zs[i] < zs[i + d + 1] := by
      intro d
      induction d with
      | zero => intro i h1; exact hadj i h1
      | succ d ih =>
        intro i h1
        exact List.lt_trans (ih i (by omega)) (hadj (i + d + 1) h1)
    refine List.pairwise_iff_getElem.2 fun i j hi hj hij he => ?_
    have := hlt (j - i - 1) i (by omega)
    simp only [show i + (j - i - 1) + 1 = j by omega] at this
    rw [he] at this
    exact List.lt_irrefl _ this
  · intro h
    have : (List.range zs.length).filter (Lib.keeps zs.toArray) = List.range zs.length := by
      refine List.filter_eq_self.2 fun j hj => ?_
      have hj := List.mem_range.1 hj
      rw [hk j hj]
      by_cases h0 : j = 0
      · exact .inl h0
      · refine .inr fun h1 h2 he => ?_
        exact List.pairwise_iff_getElem.1 h (j - 1) j h2 h1 (by omega) he.symm
    rw [this, List.length_range]; exact Nat.le_refl _
theorem nodup_ofB (l : List ByteArray) : (l.map ofB).Nodup ↔ l.Nodup := by
  unfold List.Nodup
  rw [List.pairwise_map]
  exact ⟨fun h => h.imp fun {a b} h e => h (by rw [e]), fun h => h.imp fun {a b} h e => h (ofB_inj e)⟩
theorem comp_nodup (l : List ByteArray) : l.length ≤ (compS (sortS l)).length ↔ l.Nodup := by
  have e : (compS (sortS l)).length = (Lib.compact ((l.map ofB).mergeSort fun x y => decide (x ≤ y))).length := by
    unfold compS sortS
    rw [List.length_map, List.map_map]
    congr 2
    conv => rhs; rw [← List.map_id ((l.map ofB).mergeSort fun x y => decide (x ≤ y))]
    exact List.map_congr_left fun x _ => ofB_toB x
  have hl : l.length = ((l.map ofB).mergeSort fun x y => decide (x ≤ y)).length := by simp
  rw [e]
  conv => lhs; lhs; rw [hl]
  rw [compact_full _ (List.pairwise_mergeSort leL_trans leL_tot (l.map ofB)), ← nodup_ofB l]
  exact (List.mergeSort_perm (l.map ofB) _).nodup_iff
end Lg
namespace Go.Proofs
open Go.Shelf
def Tryz.sortSJ_ren : Go.Shelf.Ren := ⟨fun | 190 => 138 | 125 => 108 | 258 => 174 | 128 => 154 | 129 => 155 | 302 => 191 | 303 => 192 | 304 => 193 | 305 => 194 | 306 => 195 | 307 => 196 | 308 => 197 | 309 => 198 | 310 => 199 | 333 => 206 | 329 => 180 | 330 => 181 | 334 => 207 | 335 => 208 | 336 => 209 | 344 => 220 | n => n, fun | 31 => 60 | 9 => 9 | 3 => 3 | 46 => 157 | 0 => 0 | 51 => 199 | 53 => 201 | 4 => 4 | 183 => 193 | 182 => 192 | 131 => 145 | 5 => 5 | 218 => 221 | 222 => 225 | 228 => 252 | 229 => 253 | n => n, fun | n => n⟩
theorem Tryz.sortSJ : Go.Proofs.Lays.n190 Tryz.prog Tryz.sortSJ_ren := {
  mixed := by kernel_rfl
  f125 := Tryz.func108.trans (congrArg some (by kernel_rfl))
  f128 := Tryz.func154.trans (congrArg some (by kernel_rfl))
  f129 := Tryz.func155.trans (congrArg some (by kernel_rfl))
  f190 := Tryz.func138.trans (congrArg some (by kernel_rfl))
  f258 := Tryz.func174.trans (congrArg some (by kernel_rfl))
  f302 := Tryz.func191.trans (congrArg some (by kernel_rfl))
  f303 := Tryz.func192.trans (congrArg some (by kernel_rfl))
  f304 := Tryz.func193.trans (congrArg some (by kernel_rfl))
  f305 := Tryz.func194.trans (congrArg some (by kernel_rfl))
  f306 := Tryz.func195.trans (congrArg some (by kernel_rfl))
  f307 := Tryz.func196.trans (congrArg some (by kernel_rfl))
  f308 := Tryz.func197.trans (congrArg some (by kernel_rfl))
  f309 := Tryz.func198.trans (congrArg some (by kernel_rfl))
  f310 := Tryz.func199.trans (congrArg some (by kernel_rfl))
  f329 := Tryz.func180.trans (congrArg some (by kernel_rfl))
  f330 := Tryz.func181.trans (congrArg some (by kernel_rfl))
  f333 := Tryz.func206.trans (congrArg some (by kernel_rfl))
  f334 := Tryz.func207.trans (congrArg some (by kernel_rfl))
  f335 := Tryz.func208.trans (congrArg some (by kernel_rfl))
  f336 := Tryz.func209.trans (congrArg some (by kernel_rfl))
  f344 := Tryz.func220.trans (congrArg some (by kernel_rfl))
  t0 := Tryz.underlying0
  a0 := Tryz.isAgg0
  z0 := Tryz.sizeOf0
  v0 := Tryz.zeroValue0
  t3 := Tryz.underlying3
  a3 := Tryz.isAgg3
  z3 := Tryz.sizeOf3
  v3 := Tryz.zeroValue3
  t4 := Tryz.underlying4
  a4 := Tryz.isAgg4
  z4 := Tryz.sizeOf4
  v4 := Tryz.zeroValue4
  t5 := Tryz.underlying5
  a5 := Tryz.isAgg5
  z5 := Tryz.sizeOf5
  v5 := Tryz.zeroValue5
  t9 := Tryz.underlying9
  a9 := Tryz.isAgg9
  z9 := Tryz.sizeOf9
  v9 := Tryz.zeroValue9
  t31 := Tryz.underlying60
  a31 := Tryz.isAgg60
  z31 := Tryz.sizeOf60
  v31 := Tryz.zeroValue60
  t46 := Tryz.underlying157
  a46 := Tryz.isAgg157
  z46 := Tryz.sizeOf157
  v46 := Tryz.zeroValue157
  t51 := Tryz.underlying199
  a51 := Tryz.isAgg199
  z51 := Tryz.sizeOf199
  v51 := Tryz.zeroValue199
  t53 := Tryz.underlying201
  a53 := Tryz.isAgg201
  z53 := Tryz.sizeOf201
  v53 := Tryz.zeroValue201
  t131 := Tryz.underlying145
  a131 := Tryz.isAgg145
  z131 := Tryz.sizeOf145
  v131 := Tryz.zeroValue145
  t182 := Tryz.underlying192
  a182 := Tryz.isAgg192
  z182 := Tryz.sizeOf192
  v182 := Tryz.zeroValue192
  t183 := Tryz.underlying193
  a183 := Tryz.isAgg193
  z183 := Tryz.sizeOf193
  v183 := Tryz.zeroValue193
  t218 := Tryz.underlying221
  a218 := Tryz.isAgg221
  z218 := Tryz.sizeOf221
  v218 := Tryz.zeroValue221
  t222 := Tryz.underlying225
  a222 := Tryz.isAgg225
  z222 := Tryz.sizeOf225
  v222 := Tryz.zeroValue225
  t228 := Tryz.underlying252
  a228 := Tryz.isAgg252
  z228 := Tryz.sizeOf252
  v228 := Tryz.zeroValue252
  t229 := Tryz.underlying253
  a229 := Tryz.isAgg253
  z229 := Tryz.sizeOf253
  v229 := Tryz.zeroValue253 }
def Tryz.compJ_ren : Go.Shelf.Ren := ⟨fun | 194 => 139 | n => n, fun | 31 => 60 | 9 => 9 | 3 => 3 | 4 => 4 | 0 => 0 | n => n, fun | n => n⟩
theorem Tryz.compJ : Go.Proofs.Lays.n194 Tryz.prog Tryz.compJ_ren := {
  mixed := by kernel_rfl
  f194 := Tryz.func139.trans (congrArg some (by kernel_rfl))
  t0 := Tryz.underlying0
  a0 := Tryz.isAgg0
  z0 := Tryz.sizeOf0
  v0 := Tryz.zeroValue0
  t3 := Tryz.underlying3
  a3 := Tryz.isAgg3
  z3 := Tryz.sizeOf3
  v3 := Tryz.zeroValue3
  t4 := Tryz.underlying4
  a4 := Tryz.isAgg4
  z4 := Tryz.sizeOf4
  v4 := Tryz.zeroValue4
  t9 := Tryz.underlying9
  a9 := Tryz.isAgg9
  z9 := Tryz.sizeOf9
  v9 := Tryz.zeroValue9
  t31 := Tryz.underlying60
  a31 := Tryz.isAgg60
  z31 := Tryz.sizeOf60
  v31 := Tryz.zeroValue60 }
end Go.Proofs
namespace Lg
open Go Go.Proofs Go.Proofs.Tryz
def attrOk (a : GAttr) : Bool := decide (1 ≤ a.Kind) && decide (a.Kind ≤ 4) && fitM a.Kind a.Default
def keyOk (t : GTable) (i : Nat) : Bool := decide (0 ≤ nth t.Key i) && decide (nth t.Key i < t.Attrs.length) && (decide (i = 0) || decide (nth t.Key (i - 1) < nth t.Key i))
def szT (t : GTable) : Bool := decide (1 ≤ t.Attrs.length ∧ t.Attrs.length ≤ 12 ∧ 1 ≤ t.Key.length)
def rightM (t : GTable) : Bool := nameM t.Name && szT t && t.Attrs.all attrOk && (namesL t.Attrs).all nameM && decide (namesL t.Attrs).Nodup && (List.range t.Key.length).all (keyOk t)
theorem names_take {l : List GAttr} {i : Nat} (h : i < l.length) : namesL (l.take (i + 1)) = (namesL (l.take i) ++ [(nth l i).Name]) ++ (nth l i).Was := by rw [takeB h, names_snoc]
theorem allNot {α : Type} {p : α → Bool} {l : List α} : (l.any fun x => !p x) = !(l.all p) := by
  rw [List.any_eq_not_all_not]; simp
set_option maxHeartbeats 4000000 in
theorem right_spec (t : GTable) (hz : TabSz t) : Fun1 prog 100 [rTable.ty t] (tV (.bool (rightM t))) := by
 refine Spec.enter func100 rfl rfl fun h0 w0 fr0 => ?_
 have hz1 := hz.nm
 have hz2 := hz.at'
 have hz3 := hz.key
 refine Jr (Js rfl (step_box (R := rTable) Sr) (Ja rfl (JL_nil (J_seq (Jr ?_)))))
 refine Js rfl (step_fieldAddr so77 Sr rfl) (Jl rfl ty9 Sr (Js rfl (step_call0 (name_spec _ hz1) ⟨Sr, trivial⟩ call135) (Js rfl (step_not Sr) (Jm rfl ?_))))
 refine Jk rfl Sr rfl (step_fieldAddr so77 Sr rfl) ?_
 refine Jg rfl Sr rfl (fun hw => step_load_ptr ty28 (Sub.w hw)) (Jg rfl Sr rfl (fun hw => step_len_sl underlying28 (Sub.w hw)) (Jg rfl Sr rfl (fun hw => step_eql (Sub.w hw) Sr) (Js rfl (step_pick_or Sr Sr) (Jm rfl ?_))))
 refine Jk rfl Sr rfl (step_fieldAddr so77 Sr rfl) ?_
 refine Jg rfl Sr rfl (fun hw => step_load_ptr ty28 (Sub.w hw)) (Jg rfl Sr rfl (fun hw => step_len_sl underlying28 (Sub.w hw)) (Jg rfl Sr rfl (fun hw => step_gtr (Sub.w hw) Sr) (Js rfl (step_pick_or Sr Sr) (Jm rfl ?_))))
 refine Jk rfl Sr rfl (step_fieldAddr so77 Sr rfl) ?_
 refine Jg rfl Sr rfl (fun hw => step_load_ptr ty27 (Sub.w hw)) (Jg rfl Sr rfl (fun hw => step_len_sl underlying27 (Sub.w hw)) (Jg rfl Sr rfl (fun hw => step_eql (Sub.w hw) Sr) (Js rfl (step_pick_or Sr Sr) (JL_nil ?_))))
 refine J_cond Sr (fun h29 => ?_) (fun h29 => ?_)
 ·
  try simp only [NF] at h29
  refine Jr (Ja rfl (JL_nil (J_ret ?_)))
  refine K_ret1 (t := 2) rfl () ?_
  refine Sub.bool ?_
  have hs : nameM t.Name = false ∨ szT t = false := by
   rcases h29 with ((h | h) | h) | h
   ·
    exact .inl h
   all_goals exact .inr (by unfold szT; rw [decide_eq_false_iff_not]; omega)
  rcases hs with h | h <;> simp [rightM, h]
 try simp only [NF] at h29
 have hsz : szT t = true := by unfold szT; rw [decide_eq_true_eq]; omega
 have hA12 : t.Attrs.length ≤ 12 := by omega
 have hnmT : nameM t.Name = true := by simp_all
 have hnl := names_len hz.was
 have hnl2 : (namesL t.Attrs).length ≤ 12 * 1000001 := Nat.le_trans hnl (Nat.mul_le_mul_right _ hA12)
 refine J_skip (Jr (Ja rfl (JL_nil (J_seq (Jr ?_)))))
 refine Js rfl (step_fieldAddr so77 Sr rfl) (Jl rfl ty28 Sr (Js rfl (step_len_sl underlying28 Sr) (Jm rfl (JL_nil (J_block ?_)))))
 refine J_loopL (σ := Nat × Value) (fun ⟨i, v⟩ => i ≤ t.Attrs.length ∧ ∀ k, k < i → attrOk (nth t.Attrs k) = true) (fun ⟨i, v⟩ => upd (upd (upd (upd (upd env0 1 (tPtr rTable t)) 3 (rV.ty v)) 31 (tSl rAttr t.Attrs)) 32 (tV (.int .i64 t.Attrs.length))) 33 (tV (.int .i64 i))) (fun ⟨i, v⟩ => [own 9 rStr v (namesL (t.Attrs.take i))]) (fun ⟨i, v⟩ => t.Attrs.length - i) (0, .slice none 0 0) ⟨by omega, fun k hk => by omega⟩ (.u (.u (.u (SubE.upd (Sub.rV rfl) (zU))))) (LSub.nilown) ?_
 rintro ⟨i, v⟩ ⟨hi, hv⟩
 refine Jr (Js rfl (step_lss Sr Sr) (JL_nil (J_seq ?_)))
 refine J_cond Sr (fun h34 => ?_) (fun h34 => ?_)
 ·
  try simp only [NF] at h34
  have hlt : i < t.Attrs.length := by omega
  have hnt := names_take hlt
  have hnl3 := names_len (l := t.Attrs.take i) (M := 1000000) (fun a ha => hz.was a (List.mem_of_mem_take ha))
  have hnl4 : (namesL (t.Attrs.take i)).length ≤ 12 * 1000001 := Nat.le_trans hnl3 (Nat.mul_le_mul_right _ (by rw [List.length_take]; omega))
  have hwl := hz.was _ (nth_mem hlt)
  refine J_skip (J_seq (J_block (Jr ?_)))
  refine Js rfl (step_indexAddr_sl  underlying28 ty64 Sr Sr rfl (gb (by exact hlt))) ?_
  refine Jl rfl ty64 Sr ?_
  refine Jx rfl (step_alloc (fun w => zeroValue64 w) zr64) fun v5 => ?_
  refine Ju (step_store_box ty64 Sr Sr zS) fun _ => ?_
  refine JL_freeze (t := 5) (Sel.take (Sel.none _)) Frz.box ?_
  refine JL_nil (J_seq (Jr (Js rfl (step_fieldAddr so64 Sr rfl) (Jl rfl ty3 Sr (Js rfl (step_lss Sr Sr) ?_)))))
  refine Jm rfl ?_
  refine Jk rfl Sr rfl (step_fieldAddr so64 Sr rfl) ?_
  refine Jg rfl Sr rfl (fun hw => step_load_ptr ty3 (Sub.w hw)) (Jg rfl Sr rfl (fun hw => step_gtr (Sub.w hw) Sr) (Js rfl (step_pick_or Sr Sr) (Jm rfl ?_)))
  refine Jk rfl Sr rfl (step_fieldAddr so64 Sr rfl) ?_
  refine Jg rfl Sr rfl (fun hw => step_load_ptr ty3 (Sub.w hw)) ?_
  refine Jk rfl Sr rfl (step_fieldAddr so64 Sr rfl) ?_
  refine Jg rfl Sr rfl (fun hw => step_load_ptr ty62 (Sub.w hw)) (Jg rfl Sr rfl (fun hw => step_call0 (fit_spec _ _) ⟨(Sub.w hw), (Sub.w hw), trivial⟩ call61) (Jg rfl Sr rfl (fun hw => step_not (Sub.w hw)) (Js rfl (step_pick_or Sr Sr) (JL_nil ?_))))
  refine J_cond Sr (fun h52 => ?_) (fun h52 => ?_)
  ·
   try simp only [NF] at h52
   refine Jr (Ja rfl (JL_nil (J_ret ?_)))
   refine K_ret1' (rv := .tmp 2) rfl () (Sel.all _) (.tmp Sr) (Frz.sub (Sub.bool ?_))
   have : attrOk (nth t.Attrs i) = false := by
    unfold attrOk
    rcases h52 with (h | h) | h
    ·
     simp [show ¬ 1 ≤ (nth t.Attrs i).Kind by omega]
    ·
     simp [show ¬ (nth t.Attrs i).Kind ≤ 4 by omega]
    simp [h]
   simp [rightM, all_f hlt this]
  try simp only [NF] at h52
  refine J_skip ?_
  refine J_draw [⟨0, [3], true⟩, ⟨1, [5], true⟩, ⟨2, [54], true⟩, ⟨3, [55], true⟩, ⟨5, [5], true⟩, ⟨6, [58], true⟩, ⟨4, [53, 56], false⟩, ⟨7, [57, 59], false⟩, ⟨8, [60], true⟩] rfl (by kernel_rfl) ?_
  refine Mv rfl rfl (Mf rfl rfl (step_fieldAddr so64 Sr rfl) (Mf rfl rfl (step_load_ptr ty9 Sr) ?_))
  refine Mf rfl rfl (step_literal (ys := [_]) underlying60 el9 ⟨rfl, Sr, trivial⟩ rfl (by decide)) ?_
  refine Mf rfl rfl (step_fieldAddr so64 Sr rfl) (Mf rfl rfl (step_load_ptr ty60 Sr) ?_)
  refine JM_stepX rfl rfl rfl rfl (step_append underlying60 el9 Sr Sr zS (by simp; omega) (by simp; omega)) fun v57 => ?_
  refine JM_stepX rfl rfl rfl rfl (step_append underlying60 el9 Sr Sr zS (by simp; omega) (by simp; omega)) fun v60 => ?_
  refine Mf rfl rfl (step_assign Sr) (JM_nil (J_region (Js rfl (step_add Sr Sr z6) (Jm rfl (JL_nil ?_)))))
  refine K_againL (σ := Nat × Value) (s := (i, v)) (i + 1, v60) zO ?_ (zU) (.c zS (SPs.of (A := own 9 rStr v60 ((namesL (t.Attrs.take i) ++ [(nth t.Attrs i).Name]) ++ (nth t.Attrs i).Was)) (by rw [hnt])) (LSub.nil))
  refine ⟨by omega, fun k hk => ?_⟩
  by_cases e : k = i
  ·
   subst e; first | (simp_all [attrOk]; done) | (simp_all [attrOk]; omega)
  exact hv k zG
 try simp only [NF] at h34
 obtain rfl : i = t.Attrs.length := by omega
 have hats : t.Attrs.all attrOk = true := all_t hv
 refine K_lsub (L' := [own 9 rStr v (namesL t.Attrs)]) (.c zS (SPs.of (A := own 9 rStr v (namesL (t.Attrs.take t.Attrs.length))) (by rw [List.take_length])) (LSub.nil)) ?_
 refine J_exit (J_seq (Jr (Jm rfl ?_)))
 refine Js rfl (step_call_look zS (ContainsFuncS_spec (namesL t.Attrs) zG 137 [] (fun s => !nameM s) (fun x hx => nameF_spec x (hz.nms x hx)) call137) (fun _ => Flat.v _) ⟨(Frz.own), (Frz.sub Sub.clo0), trivial⟩ call136) ?_
 refine JL_nil ?_
 refine J_cond Sr (fun h63 => ?_) (fun h63 => ?_)
 ·
  try simp only [NF] at h63
  refine Jr (Ja rfl (JL_nil (J_ret ?_)))
  refine K_ret1' (rv := .tmp 2) rfl () (Sel.all _) (.tmp Sr) (Frz.sub (Sub.bool ?_))
  have : (namesL t.Attrs).all nameM = false := by rw [allNot] at h63; simpa using h63
  simp [rightM, this]
 try simp only [NF] at h63
 have hnms : (namesL t.Attrs).all nameM = true := by rw [allNot] at h63; simpa using h63
 refine J_skip (Jr (Jm rfl ?_))
 refine Jx rfl (step_call zS (sortStr_spec Tryz.sortSJ v (namesL t.Attrs) zG) ⟨Sr, trivial⟩ call138) fun v65 => ?_
 refine JL_nil (J_seq (J_seq ?_))
 refine K_lenOwn zS fun hv14 => ?_
 obtain ⟨p14, cap14, hv14⟩ := hv14
 subst hv14
 refine J_region (Jm rfl ?_)
 refine Jx rfl (step_call zS (compStr_spec Tryz.compJ _ (sortS (namesL t.Attrs)) (by rw [sortS_len]; omega)) ⟨Sr, trivial⟩ call139) fun v67 => ?_
 refine Js rfl (step_len_own underlying60 Sr zS) ?_
 refine Jm rfl (Js rfl (step_lenV underlying60 Sr) (Js rfl (step_lss Sr Sr) (JL_nil ?_)))
 refine J_cond Sr (fun h71 => ?_) (fun h71 => ?_)
 ·
  try simp only [NF] at h71
  refine Jr (Ja rfl (JL_nil (J_ret ?_)))
  refine K_ret1' (rv := .tmp 2) rfl () (Sel.all _) (.tmp Sr) (Frz.sub (Sub.bool ?_))
  have : ¬ (namesL t.Attrs).Nodup := fun h => by have := (comp_nodup _).2 h; rw [sortS_len] at h71; omega
  simp [rightM, this]
 try simp only [NF] at h71
 rw [sortS_len] at h71
 have hnd : (namesL t.Attrs).Nodup := (comp_nodup _).1 zG
 refine K_drop (Sel.all _) ?_
 refine J_skip (J_seq (Jr (Js rfl (step_fieldAddr so77 Sr rfl) (Jl rfl ty27 Sr (Js rfl (step_len_sl underlying27 Sr) ?_)))))
 refine Jm rfl (JL_nil (J_block ?_))
 refine J_loopL (σ := Nat) (fun i => i ≤ t.Key.length ∧ ∀ k, k < i → keyOk t k = true) (fun i => upd (upd (upd (upd env0 1 (tPtr rTable t)) 73 (tSl rInt t.Key)) 74 (tV (.int .i64 t.Key.length))) 75 (tV (.int .i64 i))) (fun i => []) (fun i => t.Key.length - i) 0 ⟨by omega, fun k hk => by omega⟩ (zU) (LSub.rfl) ?_
 rintro i ⟨hi2, hv2⟩
 refine Jr (Js rfl (step_lss Sr Sr) (JL_nil (J_seq ?_)))
 refine J_cond Sr (fun h76 => ?_) (fun h76 => ?_)
 ·
  try simp only [NF] at h76
  have hkt : i < t.Key.length := by omega
  refine J_skip (J_seq (J_block (Jr (Jm rfl ?_))))
  refine Js rfl (step_indexAddr_sl  underlying27 ty3 Sr Sr rfl (gb (by exact hkt))) ?_
  refine Jl rfl ty3 Sr (Ja rfl (Ja rfl (JL_nil (Jr (Jm rfl ?_)))))
  refine Js rfl (step_lss Sr Sr) (Jm rfl ?_)
  refine Jk rfl Sr rfl (step_move Sr) ?_
  refine Jk rfl Sr rfl (step_fieldAddr so77 Sr rfl) ?_
  refine Jg rfl Sr rfl (fun hw => step_load_ptr ty28 (Sub.w hw)) (Jg rfl Sr rfl (fun hw => step_len_sl underlying28 (Sub.w hw)) (Jg rfl Sr rfl (fun hw => step_geq (Sub.w hw) (Sub.w hw)) (Js rfl (step_pick_or Sr Sr) (Jm rfl ?_))))
  refine Jk rfl Sr rfl (step_move Sr) ?_
  refine Jg rfl Sr rfl (fun hw => step_gtr (Sub.w hw) Sr) (Jg rfl Sr rfl (fun hw => step_move (Sub.w hw)) ?_)
  refine Ji rfl Sr rfl (step_move Sr) ?_
  refine Ji rfl Sr rfl (step_fieldAddr so77 Sr rfl) ?_
  refine Jh rfl Sr rfl (fun hw => step_load_ptr ty27 (Sub.w hw)) ?_
  refine Ji rfl Sr rfl (step_move Sr) ?_
  refine Jh rfl Sr rfl (fun hw => step_sub (Sub.w hw) Sr (by have hwq := hw; (try simp only [beqB_t, beqB_f, NF] at hwq); unfold in64; omega)) ?_
  refine Jh rfl Sr rfl (fun hw => step_indexAddr_sl (i := (i - 1)) underlying27 ty3 (Sub.w hw) (Sub.w hw) (by have hwq := hw; (try simp only [beqB_t, beqB_f, NF] at hwq); omega) (gb (by have hwq := hw; (try simp only [beqB_t, beqB_f, NF] at hwq); show i - 1 < t.Key.length; omega))) ?_
  refine Jh rfl Sr rfl (fun hw => step_load_ptr ty3 (Sub.w hw)) (Jh rfl Sr rfl (fun hw => step_leq (Sub.w hw) (Sub.w hw)) (Jg rfl Sr rfl (fun hw => step_pick_and (Sub.w hw) (Sub.ww hw)) (Js rfl (step_pick_or Sr Sr) (JL_nil ?_))))
  refine J_cond Sr (fun h102 => ?_) (fun h102 => ?_)
  ·
   try simp only [NF] at h102
   refine Jr (Ja rfl (JL_nil (J_ret ?_)))
   refine K_ret1' (rv := .tmp 2) rfl () (Sel.all _) (.tmp Sr) (Frz.sub (Sub.bool ?_))
   have : keyOk t i = false := by
    unfold keyOk
    rcases h102 with (h | h) | ⟨h1, h2⟩
    ·
     simp [show ¬ 0 ≤ nth t.Key i by omega]
    ·
     simp [show ¬ nth t.Key i < t.Attrs.length by omega]
    simp [show ¬ nth t.Key (i - 1) < nth t.Key i by omega, show ¬ i = 0 by omega]
   simp [rightM, rall_f hkt this]
  try simp only [NF] at h102
  refine J_skip (J_region (Js rfl (step_add Sr Sr z6) (Jm rfl (JL_nil ?_))))
  refine K_againL (σ := Nat) (s := i) (i + 1) zO ?_ (zU) (LSub.rfl)
  refine ⟨by omega, fun k hk => ?_⟩
  by_cases e : k = i
  ·
   subst e; first | (simp_all [keyOk]; done) | (simp_all [keyOk]; omega)
  exact hv2 k zG
 try simp only [NF] at h76
 have hks : (List.range t.Key.length).all (keyOk t) = true := rall_t (fun k hk => hv2 k zG)
 refine J_exit (Jr (Ja rfl (JL_nil (J_ret ?_))))
 refine K_ret1' (rv := .tmp 2) rfl () (Sel.all _) (.tmp Sr) (Frz.sub (Sub.bool ?_))
 simp [rightM, hnmT, hsz, hats, hnms, hnd, hks]
def schM (s : GSchema) : Bool := decide (s.Tables.length ≤ 20) && (List.range s.Tables.length).all fun i => rightM (nth s.Tables i) && decide (findT s (nth s.Tables i).Name = i)
set_option maxHeartbeats 1000000 in
theorem schValid_spec (s : GSchema) (hz : SchSz s) : Fun1 prog 46 [rSchema.ty s] (tV (.bool (schM s))) := by
 refine Spec.enter func46 rfl rfl fun h0 w0 fr0 => ?_
 have hz1 := hz.tabs
 refine Jr (Js rfl (step_box (R := rSchema) Sr) (Ja rfl (JL_nil (J_seq (Jr ?_)))))
 refine Js rfl (step_fieldAddr so24 Sr rfl) (Jl rfl ty22 Sr (Js rfl (step_len_sl underlying22 Sr) (Js rfl (step_gtr Sr Sr) (JL_nil ?_))))
 refine J_cond Sr (fun h7 => ?_) (fun h7 => ?_)
 ·
  try simp only [NF] at h7
  refine Jr (Ja rfl (JL_nil (J_ret ?_)))
  refine K_ret1 (t := 2) rfl () ?_
  refine Sub.bool ?_
  have : ¬ s.Tables.length ≤ 20 := by omega
  simp [schM, this]
 try simp only [NF] at h7
 refine J_skip (J_seq (Jr (Js rfl (step_fieldAddr so24 Sr rfl) (Jl rfl ty22 Sr (Js rfl (step_len_sl underlying22 Sr) ?_)))))
 refine Jm rfl (JL_nil (J_block ?_))
 refine J_loopL (σ := Nat) (fun i => i ≤ s.Tables.length ∧ ∀ k, k < i → (rightM (nth s.Tables k) && decide (findT s (nth s.Tables k).Name = k)) = true) (fun i => upd (upd (upd env0 1 (tPtr rSchema s)) 10 (tV (.int .i64 s.Tables.length))) 11 (tV (.int .i64 i))) (fun i => []) (fun i => s.Tables.length - i) 0 ⟨by omega, fun k hk => by omega⟩ (zU) (LSub.rfl) ?_
 rintro i ⟨hi, hv⟩
 refine Jr (Js rfl (step_lss Sr Sr) (JL_nil (J_seq ?_)))
 refine J_cond Sr (fun h12 => ?_) (fun h12 => ?_)
 ·
  try simp only [NF] at h12
  have hlt : i < s.Tables.length := by omega
  refine J_skip (J_seq (J_block (Jr (Jm rfl (Ja rfl ?_)))))
  refine JL_nil (J_seq ?_)
  refine J_draw [⟨0, [1], true⟩, ⟨1, [14], true⟩, ⟨2, [3], true⟩, ⟨3, [15, 16], true⟩, ⟨4, [17], true⟩, ⟨5, [18], true⟩, ⟨6, [19], true⟩, ⟨7, [20], true⟩, ⟨8, [1, 21], true⟩, ⟨9, [1, 21], true⟩, ⟨10, [21, 23], true⟩, ⟨11, [3, 21], true⟩, ⟨12, [21, 24, 25], true⟩, ⟨13, [21, 26], true⟩, ⟨14, [21, 27], true⟩, ⟨15, [21, 22, 28], true⟩, ⟨16, [3, 21], true⟩, ⟨17, [21, 29, 30], true⟩, ⟨18, [21, 31], true⟩] rfl (by kernel_rfl) ?_
  refine Mf rfl rfl (step_fieldAddr so24 Sr rfl) (Mf rfl rfl (step_load_ptr ty22 Sr) (Mv rfl rfl ?_))
  refine Mf rfl rfl (step_indexAddr_sl (i := i) underlying22 ty77 Sr Sr (by rfl) (gb (by exact hlt))) ?_
  refine Mf rfl rfl (step_load_ptr ty77 Sr) (Mf rfl rfl (step_call0 (right_spec _ (hz.tab _ (nth_mem hlt))) ⟨Sr, trivial⟩ call100) (Mf rfl rfl (step_not Sr) (Mv rfl rfl ?_)))
  refine Mk rfl rfl Sr rfl (step_load_ptr ty24 Sr) ?_
  refine Mk rfl rfl Sr rfl (step_fieldAddr so24 Sr rfl) ?_
  refine Mg rfl rfl Sr rfl (fun hw => step_load_ptr ty22 (Sub.w hw)) ?_
  refine Mk rfl rfl Sr rfl (step_move Sr) ?_
  refine Mg rfl rfl Sr rfl (fun hw => step_indexAddr_sl (i := i) underlying22 ty77 (Sub.w hw) (Sub.w hw) (by rfl) (gb (by have hwq := hw; (try simp only [beqB_t, beqB_f, NF] at hwq); exact hlt))) ?_
  refine Mg rfl rfl Sr rfl (fun hw => step_fieldAddr so77 (Sub.w hw) rfl) (Mg rfl rfl Sr rfl (fun hw => step_load_ptr ty9 (Sub.w hw)) (Mg rfl rfl Sr rfl (fun hw => step_call0 (Find_spec _ _ hz1) ⟨(Sub.w hw), (Sub.w hw), trivial⟩ call101) ?_))
  refine Mk rfl rfl Sr rfl (step_move Sr) ?_
  refine Mg rfl rfl Sr rfl (fun hw => step_neq (Sub.w hw) (Sub.w hw)) (Mf rfl rfl (step_pick_or Sr Sr) (JM_nil ?_))
  refine J_cond Sr (fun h32 => ?_) (fun h32 => ?_)
  ·
   try simp only [NF] at h32
   refine Jr (Ja rfl (JL_nil (J_ret ?_)))
   refine K_ret1 (t := 2) rfl () ?_
   refine Sub.bool ?_
   have : (rightM (nth s.Tables i) && decide (findT s (nth s.Tables i).Name = i)) = false := by rcases h32 with h | h <;> simp [h]
   simp only [schM, rall_f (f := fun i => rightM (nth s.Tables i) && decide (findT s (nth s.Tables i).Name = i)) hlt this]; simp
  try simp only [NF] at h32
  refine J_skip (J_region (Js rfl (step_add Sr Sr z6) (Jm rfl (JL_nil ?_))))
  refine K_againL (σ := Nat) (s := i) (i + 1) zO ?_ (zU) (LSub.rfl)
  refine ⟨by omega, fun k hk => ?_⟩
  by_cases e : k = i
  ·
   subst e; simp_all
  exact hv k zG
 try simp only [NF] at h12
 have hall := rall_t (n := s.Tables.length) (fun k hk => hv k zG)
 refine J_exit (Jr (Ja rfl (JL_nil (J_ret ?_))))
 refine K_ret1 (t := 2) rfl () ?_
 refine Sub.bool ?_
 have : s.Tables.length ≤ 20 := by omega
 simp only [schM, hall, this]; simp
open Go Go.Proofs Go.Proofs.Tryz
theorem least {P : Nat → Prop} {n : Nat} (h : P n) : ∃ m, m ≤ n ∧ P m ∧ ∀ k, k < m → ¬ P k := by
  induction n using Nat.strongRecOn with
  | _ n ih =>
    by_cases h2 : ∃ k, k < n ∧ P k
    · obtain ⟨k, hk, hp⟩ := h2
      obtain ⟨m, hm, h3⟩ := ih k hk hp
      exact ⟨m, by omega, h3⟩
    · exact ⟨n, Nat.le_refl _, h, fun k hk hp => h2 ⟨k, hk, hp⟩⟩
open Go Go.Proofs Go.Proofs.Tryz
def kindsM : List (Int × Gkind) := [(1, ⟨0, .func (.func 64) #[] #[], .func (.func 65) #[] #[], .func (.func 66) #[] #[]⟩), (2, ⟨1, .func (.func 67) #[] #[], .func (.func 68) #[] #[], .func (.func 69) #[] #[]⟩), (3, ⟨1, .func (.func 70) #[] #[], .func (.func 71) #[] #[], .func (.func 62) #[] #[]⟩), (4, ⟨2, .func (.func 72) #[] #[], .func (.func 73) #[] #[], .func (.func 63) #[] #[]⟩), (5, ⟨2, .func (.func 74) #[] #[], .func (.func 75) #[] #[], .func (.func 63) #[] #[]⟩), (6, ⟨2, .func (.func 74) #[] #[], .func (.func 76) #[] #[], .func (.func 63) #[] #[]⟩), (7, ⟨1, .func (.func 77) #[] #[], .func (.func 78) #[] #[], .func (.func 79) #[] #[]⟩), (8, ⟨1, .func (.func 80) #[] #[], .func (.func 81) #[] #[], .func (.func 82) #[] #[]⟩)]
abbrev kindV (k : Int) : Gkind := (mget kindsM k).getD zkind
def kindOk (k : Int) : Bool := decide (1 ≤ k ∧ k ≤ 8)
def kidsN (k : Int) : Int := if k = 1 then 0 else if k = 4 ∨ k = 5 ∨ k = 6 then 2 else 1
theorem kind_cases {k : Int} (h : kindOk k = true) : k = 1 ∨ k = 2 ∨ k = 3 ∨ k = 4 ∨ k = 5 ∨ k = 6 ∨ k = 7 ∨ k = 8 := by unfold kindOk at h; rw [decide_eq_true_eq] at h; omega
theorem kinds_some (k : Int) : (mget kindsM k).isSome = kindOk k := by
  by_cases h : kindOk k = true
  · rcases kind_cases h with rfl | rfl | rfl | rfl | rfl | rfl | rfl | rfl <;> rfl
  · have h2 : ¬ (1 ≤ k ∧ k ≤ 8) := by intro q; exact h (by unfold kindOk; rw [decide_eq_true_eq]; exact q)
    rw [Bool.eq_false_iff.2 h]
    simp [kindsM, mget, show ¬ k = 1 by omega, show ¬ k = 2 by omega, show ¬ k = 3 by omega, show ¬ k = 4 by omega, show ¬ k = 5 by omega, show ¬ k = 6 by omega, show ¬ k = 7 by omega, show ¬ k = 8 by omega]
theorem kinds_kids {k : Int} (h : kindOk k = true) : (kindV k).kids = kidsN k := by
  rcases kind_cases h with rfl | rfl | rfl | rfl | rfl | rfl | rfl | rfl <;> rfl
/-- A query whose fields that its kind has are zero. -/
def restM (p : GPlan) : GPlan :=
  if p.Kind = 1 then GPl.mk p.Kind 0 p.Kids p.Tests p.Cols p.Col p.Agg p.Attrs
  else if p.Kind = 2 then GPl.mk p.Kind p.Table p.Kids [] p.Cols p.Col p.Agg p.Attrs
  else if p.Kind = 3 then GPl.mk p.Kind p.Table p.Kids p.Tests [] p.Col p.Agg p.Attrs
  else if p.Kind = 7 then GPl.mk p.Kind p.Table p.Kids p.Tests p.Cols 0 p.Agg p.Attrs
  else if p.Kind = 8 then GPl.mk p.Kind p.Table p.Kids p.Tests [] 0 0 p.Attrs
  else p
def bareM (p : GPlan) : Bool := !((((!decide ((restM p).Table = 0) || decide (0 < ((restM p).Tests.length : Int))) || decide (0 < ((restM p).Cols.length : Int))) || !decide ((restM p).Col = 0)) || !decide ((restM p).Agg = 0))
def namesOk (l : List GAttr) (i : Nat) : Bool := decide (columnL l (nth l i).Name = i)
def validM (s : GSchema) : Nat → GPlan → Bool
  | 0, _ => false
  | l + 1, p => kindOk p.Kind && decide ((p.Kids.length : Int) = kidsN p.Kind) && p.Kids.all (validM s l) && bareM p && (List.range p.Attrs.length).all (namesOk p.Attrs) && ((colsM s p).2 && alikeM (colsM s p).1 p.Attrs)
/-- Sizes that hold of queries that are handed in. -/
def PlSz : Nat → GPlan → Prop
  | 0, _ => True
  | n + 1, p => p.Kids.length ≤ 9223372036854775807 ∧ p.Tests.length ≤ 1000 ∧ p.Cols.length ≤ 1000 ∧ p.Attrs.length ≤ 1000 ∧ ∀ q ∈ p.Kids, PlSz n q ∧ q.Attrs.length ≤ 1000
theorem restCols_spec (n : Nat) (p : GPlan) : Fun1 prog 62 [(rPlan (n + 1)).ty p] ((rPlan (n + 1)).ty (GPl.mk p.Kind p.Table p.Kids p.Tests [] p.Col p.Agg p.Attrs)) := by
 refine Spec.enter func62 rfl rfl fun h0 w0 fr0 => ?_
 refine Jr ?_
 refine Jx rfl (step_box_own (R := rPlan (n + 1)) Sr) fun b1 => ?_
 refine Jx rfl (step_alloc (fun w => zeroValue30 w) (zr30 (n := n))) fun b2 => ?_
 refine JL_nil (Jr (Js rfl (step_fieldAddr_own (so30 (n := n)) Sr rfl) ?_))
 refine Ju (step_store_fld (R := (rSl rInt)) (y' := GPl.mk p.Kind p.Table p.Kids p.Tests [] p.Col p.Agg p.Attrs) ty27 Sr Sub.nilsl zS (by exact ⟨rfl, ⟨rfl, ⟨rfl, ⟨rfl, ⟨fun _ _ q => q, rfl, by intro g hg; simp only [List.mem_cons, List.not_mem_nil, or_false] at hg; rcases hg with rfl | rfl | rfl <;> rfl⟩⟩⟩⟩⟩)) fun _ => ?_
 refine JL_nil (Jr ?_)
 refine Js rfl (step_load_box (R := rPlan (n + 1)) ty30 Sr zS) ?_
 refine Ju (step_store_box (R := rPlan (n + 1)) ty30 Sr Sr zS) fun _ => ?_
 refine JL_nil (J_ret ?_)
 refine K_ret1' (rv := .cell 2 30) rfl () (Sel.all _) (.cell (R := rPlan (n + 1)) ty30 Sr zS Sr) (Frz.sub Sr)
theorem restSame_spec (n : Nat) (p : GPlan) : Fun1 prog 63 [(rPlan (n + 1)).ty p] ((rPlan (n + 1)).ty (p)) := by
 refine Spec.enter func63 rfl rfl fun h0 w0 fr0 => ?_
 refine Jr ?_
 refine Jx rfl (step_box_own (R := rPlan (n + 1)) Sr) fun b1 => ?_
 refine Jx rfl (step_alloc (fun w => zeroValue30 w) (zr30 (n := n))) fun b2 => ?_
 refine JL_nil (Jr ?_)
 refine Js rfl (step_load_box (R := rPlan (n + 1)) ty30 Sr zS) ?_
 refine Ju (step_store_box (R := rPlan (n + 1)) ty30 Sr Sr zS) fun _ => ?_
 refine JL_nil (J_ret ?_)
 refine K_ret1' (rv := .cell 2 30) rfl () (Sel.all _) (.cell (R := rPlan (n + 1)) ty30 Sr zS Sr) (Frz.sub Sr)
theorem restTable_spec (n : Nat) (p : GPlan) : Fun1 prog 66 [(rPlan (n + 1)).ty p] ((rPlan (n + 1)).ty (GPl.mk p.Kind 0 p.Kids p.Tests p.Cols p.Col p.Agg p.Attrs)) := by
 refine Spec.enter func66 rfl rfl fun h0 w0 fr0 => ?_
 refine Jr ?_
 refine Jx rfl (step_box_own (R := rPlan (n + 1)) Sr) fun b1 => ?_
 refine Jx rfl (step_alloc (fun w => zeroValue30 w) (zr30 (n := n))) fun b2 => ?_
 refine JL_nil (Jr (Js rfl (step_fieldAddr_own (so30 (n := n)) Sr rfl) ?_))
 refine Ju (step_store_fld (R := rInt) (y' := GPl.mk p.Kind 0 p.Kids p.Tests p.Cols p.Col p.Agg p.Attrs) ty3 Sr Sr zS (by exact ⟨rfl, ⟨fun _ _ q => q, rfl, by intro g hg; simp only [List.mem_cons, List.not_mem_nil, or_false] at hg; rcases hg with rfl | rfl | rfl | rfl | rfl | rfl <;> rfl⟩⟩)) fun _ => ?_
 refine JL_nil (Jr ?_)
 refine Js rfl (step_load_box (R := rPlan (n + 1)) ty30 Sr zS) ?_
 refine Ju (step_store_box (R := rPlan (n + 1)) ty30 Sr Sr zS) fun _ => ?_
 refine JL_nil (J_ret ?_)
 refine K_ret1' (rv := .cell 2 30) rfl () (Sel.all _) (.cell (R := rPlan (n + 1)) ty30 Sr zS Sr) (Frz.sub Sr)
theorem restTests_spec (n : Nat) (p : GPlan) : Fun1 prog 69 [(rPlan (n + 1)).ty p] ((rPlan (n + 1)).ty (GPl.mk p.Kind p.Table p.Kids [] p.Cols p.Col p.Agg p.Attrs)) := by
 refine Spec.enter func69 rfl rfl fun h0 w0 fr0 => ?_
 refine Jr ?_
 refine Jx rfl (step_box_own (R := rPlan (n + 1)) Sr) fun b1 => ?_
 refine Jx rfl (step_alloc (fun w => zeroValue30 w) (zr30 (n := n))) fun b2 => ?_
 refine JL_nil (Jr (Js rfl (step_fieldAddr_own (so30 (n := n)) Sr rfl) ?_))
 refine Ju (step_store_fld (R := (rSl rTest)) (y' := GPl.mk p.Kind p.Table p.Kids [] p.Cols p.Col p.Agg p.Attrs) ty26 Sr Sub.nilsl zS (by exact ⟨rfl, ⟨rfl, ⟨rfl, ⟨fun _ _ q => q, rfl, by intro g hg; simp only [List.mem_cons, List.not_mem_nil, or_false] at hg; rcases hg with rfl | rfl | rfl | rfl <;> rfl⟩⟩⟩⟩)) fun _ => ?_
 refine JL_nil (Jr ?_)
 refine Js rfl (step_load_box (R := rPlan (n + 1)) ty30 Sr zS) ?_
 refine Ju (step_store_box (R := rPlan (n + 1)) ty30 Sr Sr zS) fun _ => ?_
 refine JL_nil (J_ret ?_)
 refine K_ret1' (rv := .cell 2 30) rfl () (Sel.all _) (.cell (R := rPlan (n + 1)) ty30 Sr zS Sr) (Frz.sub Sr)
theorem restCol_spec (n : Nat) (p : GPlan) : Fun1 prog 79 [(rPlan (n + 1)).ty p] ((rPlan (n + 1)).ty (GPl.mk p.Kind p.Table p.Kids p.Tests p.Cols 0 p.Agg p.Attrs)) := by
 refine Spec.enter func79 rfl rfl fun h0 w0 fr0 => ?_
 refine Jr ?_
 refine Jx rfl (step_box_own (R := rPlan (n + 1)) Sr) fun b1 => ?_
 refine Jx rfl (step_alloc (fun w => zeroValue30 w) (zr30 (n := n))) fun b2 => ?_
 refine JL_nil (Jr (Js rfl (step_fieldAddr_own (so30 (n := n)) Sr rfl) ?_))
 refine Ju (step_store_fld (R := rInt) (y' := GPl.mk p.Kind p.Table p.Kids p.Tests p.Cols 0 p.Agg p.Attrs) ty3 Sr Sr zS (by exact ⟨rfl, ⟨rfl, ⟨rfl, ⟨rfl, ⟨rfl, ⟨fun _ _ q => q, rfl, by intro g hg; simp only [List.mem_cons, List.not_mem_nil, or_false] at hg; rcases hg with rfl | rfl <;> rfl⟩⟩⟩⟩⟩⟩)) fun _ => ?_
 refine JL_nil (Jr ?_)
 refine Js rfl (step_load_box (R := rPlan (n + 1)) ty30 Sr zS) ?_
 refine Ju (step_store_box (R := rPlan (n + 1)) ty30 Sr Sr zS) fun _ => ?_
 refine JL_nil (J_ret ?_)
 refine K_ret1' (rv := .cell 2 30) rfl () (Sel.all _) (.cell (R := rPlan (n + 1)) ty30 Sr zS Sr) (Frz.sub Sr)
theorem restGrp_spec (n : Nat) (p : GPlan) : Fun1 prog 82 [(rPlan (n + 1)).ty p] ((rPlan (n + 1)).ty (GPl.mk p.Kind p.Table p.Kids p.Tests [] 0 0 p.Attrs)) := by
 refine Spec.enter func82 rfl rfl fun h0 w0 fr0 => ?_
 refine Jr ?_
 refine Jx rfl (step_box_own (R := rPlan (n + 1)) Sr) fun b1 => ?_
 refine Jx rfl (step_alloc (fun w => zeroValue30 w) (zr30 (n := n))) fun b2 => ?_
 refine JL_nil (Jr (Js rfl (step_fieldAddr_own (so30 (n := n)) Sr rfl) ?_))
 refine Ju (step_store_fld (R := (rSl rInt)) (y' := GPl.mk p.Kind p.Table p.Kids p.Tests [] p.Col p.Agg p.Attrs) ty27 Sr Sub.nilsl zS (by exact ⟨rfl, ⟨rfl, ⟨rfl, ⟨rfl, ⟨fun _ _ q => q, rfl, by intro g hg; simp only [List.mem_cons, List.not_mem_nil, or_false] at hg; rcases hg with rfl | rfl | rfl <;> rfl⟩⟩⟩⟩⟩)) fun _ => ?_
 refine Js rfl (step_fieldAddr_own (so30 (n := n)) Sr rfl) ?_
 refine Ju (step_store_fld (R := rInt) (y' := GPl.mk p.Kind p.Table p.Kids p.Tests [] 0 p.Agg p.Attrs) ty3 Sr Sr zS (by exact ⟨rfl, ⟨rfl, ⟨rfl, ⟨rfl, ⟨rfl, ⟨fun _ _ q => q, rfl, by intro g hg; simp only [List.mem_cons, List.not_mem_nil, or_false] at hg; rcases hg with rfl | rfl <;> rfl⟩⟩⟩⟩⟩⟩)) fun _ => ?_
 refine Js rfl (step_fieldAddr_own (so30 (n := n)) Sr rfl) ?_
 refine Ju (step_store_fld (R := rInt) (y' := GPl.mk p.Kind p.Table p.Kids p.Tests [] 0 0 p.Attrs) ty3 Sr Sr zS (by exact ⟨rfl, ⟨rfl, ⟨rfl, ⟨rfl, ⟨rfl, ⟨rfl, ⟨fun _ _ q => q, rfl, by intro g hg; simp only [List.mem_cons, List.not_mem_nil, or_false] at hg; subst hg; rfl⟩⟩⟩⟩⟩⟩⟩)) fun _ => ?_
 refine JL_nil (Jr ?_)
 refine Js rfl (step_load_box (R := rPlan (n + 1)) ty30 Sr zS) ?_
 refine Ju (step_store_box (R := rPlan (n + 1)) ty30 Sr Sr zS) fun _ => ?_
 refine JL_nil (J_ret ?_)
 refine K_ret1' (rv := .cell 2 30) rfl () (Sel.all _) (.cell (R := rPlan (n + 1)) ty30 Sr zS Sr) (Frz.sub Sr)
set_option maxHeartbeats 2000000 in
theorem kinds_spec  : Fun1 prog 35 [] (tMapI kvI rkind kindsM) := by
 refine Spec.enter func35 rfl rfl fun h0 w0 fr0 => ?_
 refine Jr (Ja rfl (JL_nil (Jr (Ja rfl (JL_nil ?_)))))
 refine Jr (Ja rfl (JL_nil (Jr ?_)))
 refine Jx rfl (step_makeMap (kv := kvI) (R := rkind)) fun v3 => ?_
 refine Js rfl (step_build (x := (⟨0, .func (.func 64) #[] #[], .func (.func 65) #[] #[], .func (.func 66) #[] #[]⟩ : Gkind)) (zs := [[Value.int .i64 0], [Value.nilFunc], [Value.nilFunc], [Value.nilFunc]]) so125 (fun w => zeroValue125 w) ⟨Sr, (by first | exact Sr | exact Sub.rV rfl), (by first | exact Sr | exact Sub.rV rfl), (by first | exact Sr | exact Sub.rV rfl), trivial⟩ ⟨⟨Sr, rfl⟩, ⟨(by first | exact Sr | exact Sub.rV rfl), rfl⟩, ⟨(by first | exact Sr | exact Sub.rV rfl), rfl⟩, ⟨(by first | exact Sr | exact Sub.rV rfl), rfl⟩, trivial⟩) ?_
 refine Ju (step_insert (kv := kvI) (R := rkind) (KeyT.int underlying3) underlying80 Sr Sr Sr zS) fun _ => ?_
 refine Js rfl (step_build (x := (⟨1, .func (.func 67) #[] #[], .func (.func 68) #[] #[], .func (.func 69) #[] #[]⟩ : Gkind)) (zs := [[Value.int .i64 0], [Value.nilFunc], [Value.nilFunc], [Value.nilFunc]]) so125 (fun w => zeroValue125 w) ⟨Sr, (by first | exact Sr | exact Sub.rV rfl), (by first | exact Sr | exact Sub.rV rfl), (by first | exact Sr | exact Sub.rV rfl), trivial⟩ ⟨⟨Sr, rfl⟩, ⟨(by first | exact Sr | exact Sub.rV rfl), rfl⟩, ⟨(by first | exact Sr | exact Sub.rV rfl), rfl⟩, ⟨(by first | exact Sr | exact Sub.rV rfl), rfl⟩, trivial⟩) ?_
 refine Ju (step_insert (kv := kvI) (R := rkind) (KeyT.int underlying3) underlying80 Sr Sr Sr zS) fun _ => ?_
 refine Jm rfl ?_
 refine Js rfl (step_build (x := (⟨1, .func (.func 70) #[] #[], .func (.func 71) #[] #[], .func (.func 62) #[] #[]⟩ : Gkind)) (zs := [[Value.int .i64 0], [Value.nilFunc], [Value.nilFunc], [Value.nilFunc]]) so125 (fun w => zeroValue125 w) ⟨Sr, (by first | exact Sr | exact Sub.rV rfl), (by first | exact Sr | exact Sub.rV rfl), (by first | exact Sr | exact Sub.rV rfl), trivial⟩ ⟨⟨Sr, rfl⟩, ⟨(by first | exact Sr | exact Sub.rV rfl), rfl⟩, ⟨(by first | exact Sr | exact Sub.rV rfl), rfl⟩, ⟨(by first | exact Sr | exact Sub.rV rfl), rfl⟩, trivial⟩) ?_
 refine Ju (step_insert (kv := kvI) (R := rkind) (KeyT.int underlying3) underlying80 Sr Sr Sr zS) fun _ => ?_
 refine Jm rfl ?_
 refine Js rfl (step_build (x := (⟨2, .func (.func 72) #[] #[], .func (.func 73) #[] #[], .func (.func 63) #[] #[]⟩ : Gkind)) (zs := [[Value.int .i64 0], [Value.nilFunc], [Value.nilFunc], [Value.nilFunc]]) so125 (fun w => zeroValue125 w) ⟨Sr, (by first | exact Sr | exact Sub.rV rfl), (by first | exact Sr | exact Sub.rV rfl), (by first | exact Sr | exact Sub.rV rfl), trivial⟩ ⟨⟨Sr, rfl⟩, ⟨(by first | exact Sr | exact Sub.rV rfl), rfl⟩, ⟨(by first | exact Sr | exact Sub.rV rfl), rfl⟩, ⟨(by first | exact Sr | exact Sub.rV rfl), rfl⟩, trivial⟩) ?_
 refine Ju (step_insert (kv := kvI) (R := rkind) (KeyT.int underlying3) underlying80 Sr Sr Sr zS) fun _ => ?_
 refine Jm rfl ?_
 refine Js rfl (step_build (x := (⟨2, .func (.func 74) #[] #[], .func (.func 75) #[] #[], .func (.func 63) #[] #[]⟩ : Gkind)) (zs := [[Value.int .i64 0], [Value.nilFunc], [Value.nilFunc], [Value.nilFunc]]) so125 (fun w => zeroValue125 w) ⟨Sr, (by first | exact Sr | exact Sub.rV rfl), (by first | exact Sr | exact Sub.rV rfl), (by first | exact Sr | exact Sub.rV rfl), trivial⟩ ⟨⟨Sr, rfl⟩, ⟨(by first | exact Sr | exact Sub.rV rfl), rfl⟩, ⟨(by first | exact Sr | exact Sub.rV rfl), rfl⟩, ⟨(by first | exact Sr | exact Sub.rV rfl), rfl⟩, trivial⟩) ?_
 refine Ju (step_insert (kv := kvI) (R := rkind) (KeyT.int underlying3) underlying80 Sr Sr Sr zS) fun _ => ?_
 refine Jm rfl ?_
 refine Js rfl (step_build (x := (⟨2, .func (.func 74) #[] #[], .func (.func 76) #[] #[], .func (.func 63) #[] #[]⟩ : Gkind)) (zs := [[Value.int .i64 0], [Value.nilFunc], [Value.nilFunc], [Value.nilFunc]]) so125 (fun w => zeroValue125 w) ⟨Sr, (by first | exact Sr | exact Sub.rV rfl), (by first | exact Sr | exact Sub.rV rfl), (by first | exact Sr | exact Sub.rV rfl), trivial⟩ ⟨⟨Sr, rfl⟩, ⟨(by first | exact Sr | exact Sub.rV rfl), rfl⟩, ⟨(by first | exact Sr | exact Sub.rV rfl), rfl⟩, ⟨(by first | exact Sr | exact Sub.rV rfl), rfl⟩, trivial⟩) ?_
 refine Ju (step_insert (kv := kvI) (R := rkind) (KeyT.int underlying3) underlying80 Sr Sr Sr zS) fun _ => ?_
 refine Js rfl (step_build (x := (⟨1, .func (.func 77) #[] #[], .func (.func 78) #[] #[], .func (.func 79) #[] #[]⟩ : Gkind)) (zs := [[Value.int .i64 0], [Value.nilFunc], [Value.nilFunc], [Value.nilFunc]]) so125 (fun w => zeroValue125 w) ⟨Sr, (by first | exact Sr | exact Sub.rV rfl), (by first | exact Sr | exact Sub.rV rfl), (by first | exact Sr | exact Sub.rV rfl), trivial⟩ ⟨⟨Sr, rfl⟩, ⟨(by first | exact Sr | exact Sub.rV rfl), rfl⟩, ⟨(by first | exact Sr | exact Sub.rV rfl), rfl⟩, ⟨(by first | exact Sr | exact Sub.rV rfl), rfl⟩, trivial⟩) ?_
 refine Ju (step_insert (kv := kvI) (R := rkind) (KeyT.int underlying3) underlying80 Sr Sr Sr zS) fun _ => ?_
 refine Js rfl (step_build (x := (⟨1, .func (.func 80) #[] #[], .func (.func 81) #[] #[], .func (.func 82) #[] #[]⟩ : Gkind)) (zs := [[Value.int .i64 0], [Value.nilFunc], [Value.nilFunc], [Value.nilFunc]]) so125 (fun w => zeroValue125 w) ⟨Sr, (by first | exact Sr | exact Sub.rV rfl), (by first | exact Sr | exact Sub.rV rfl), (by first | exact Sr | exact Sub.rV rfl), trivial⟩ ⟨⟨Sr, rfl⟩, ⟨(by first | exact Sr | exact Sub.rV rfl), rfl⟩, ⟨(by first | exact Sr | exact Sub.rV rfl), rfl⟩, ⟨(by first | exact Sr | exact Sub.rV rfl), rfl⟩, trivial⟩) ?_
 refine Ju (step_insert (kv := kvI) (R := rkind) (KeyT.int underlying3) underlying80 Sr Sr Sr zS) fun _ => ?_
 refine Jm rfl (Ja rfl (JL_nil (J_ret ?_)))
 refine K_ret1' (rv := .tmp 0) rfl () (Sel.all _) (.tmp Sr) (Frz.mapI (m := kindsM))
section
variable {ro : Option Nat} {N : Nat} {ds : List Deferred} {h0 : PH} {w0 : World} {r : PH} {E : Env} {L : List SP} {d : Option Nat} {ty : Nat} {pos : String} {af : Array Edge} {g : Option (Nat × Bool)} {x y : Operand} {ts : Array Nat}
theorem step_kfun {f : Nat} {A : Ty} {R : Ty} (v : Value) (hv : v = .func (.func f) #[] #[]) (hf : Fun1 prog f [A] R) (he : ∀ args w, (callFunc f args).run prog w = .ok (.enter f args) w) (hx : Sub (opTy E x) (rV.ty v)) (hy : Sub (opTy E y) A) :
    Step (X := Unit) ⟨prog, ro, N, ds, h0, w0, r⟩ ⟨d, .call { callee := .value x, args := #[y], argTypes := ts }, ty, pos, af, g⟩ E L (fun _ => R) (fun _ => L) :=
  step_callv0 (f := f) (aT := [A]) (As := []) (fun h u e => by
    obtain ⟨e1, _⟩ := hx h u e
    rw [hv] at e1
    exact ⟨[], e1, trivial⟩) hf ⟨hy, trivial⟩ he
theorem step_rest {n : Nat} {p : GPlan} (hk : kindOk p.Kind = true) (hx : Sub (opTy E x) (rV.ty (kindV p.Kind).rest)) (hy : Sub (opTy E y) ((rPlan (n + 1)).ty p)) :
    Step (X := Unit) ⟨prog, ro, N, ds, h0, w0, r⟩ ⟨d, .call { callee := .value x, args := #[y], argTypes := ts }, ty, pos, af, g⟩ E L (fun _ => (rPlan (n + 1)).ty (restM p)) (fun _ => L) := by
  rcases kind_cases hk with h | h | h | h | h | h | h | h <;> rw [h] at hx
  · rw [show restM p = GPl.mk p.Kind 0 p.Kids p.Tests p.Cols p.Col p.Agg p.Attrs by simp [restM, h]]; exact step_kfun _ rfl (restTable_spec n p) call66 hx hy
  · rw [show restM p = GPl.mk p.Kind p.Table p.Kids [] p.Cols p.Col p.Agg p.Attrs by simp [restM, h]]; exact step_kfun _ rfl (restTests_spec n p) call69 hx hy
  · rw [show restM p = GPl.mk p.Kind p.Table p.Kids p.Tests [] p.Col p.Agg p.Attrs by simp [restM, h]]; exact step_kfun _ rfl (restCols_spec n p) call62 hx hy
  · rw [show restM p = p by simp [restM, h]]; exact step_kfun _ rfl (restSame_spec n p) call63 hx hy
  · rw [show restM p = p by simp [restM, h]]; exact step_kfun _ rfl (restSame_spec n p) call63 hx hy
  · rw [show restM p = p by simp [restM, h]]; exact step_kfun _ rfl (restSame_spec n p) call63 hx hy
  · rw [show restM p = GPl.mk p.Kind p.Table p.Kids p.Tests p.Cols 0 p.Agg p.Attrs by simp [restM, h]]; exact step_kfun _ rfl (restCol_spec n p) call79 hx hy
  · rw [show restM p = GPl.mk p.Kind p.Table p.Kids p.Tests [] 0 0 p.Attrs by simp [restM, h]]; exact step_kfun _ rfl (restGrp_spec n p) call82 hx hy
theorem step_cols {n : Nat} {p : Gplan} (hk : kindOk p.Plan.Kind = true) (hn : (p.Plan.Kids.length : Int) = kidsN p.Plan.Kind) (hz : SchSz p.schema) (hp : PlSz (n + 1) p.Plan) (hx : Sub (opTy E x) (rV.ty (kindV p.Plan.Kind).columns)) (hy : Sub (opTy E y) ((rplan n).ty p)) :
    Step (X := Unit) ⟨prog, ro, N, ds, h0, w0, r⟩ ⟨d, .call { callee := .value x, args := #[y], argTypes := ts }, ty, pos, af, g⟩ E L (fun _ => tTup [tSl rAttr (colsM p.schema p.Plan).1, tV (.bool (colsM p.schema p.Plan).2)]) (fun _ => L) := by
  obtain ⟨z1, z2, z3, z4, z5⟩ := hp
  have hA : ∀ i, i < p.Plan.Kids.length → (nth p.Plan.Kids i).Attrs.length ≤ 100000000 := fun i hi => Nat.le_trans (z5 _ (nth_mem hi)).2 (by omega)
  rcases kind_cases hk with h | h | h | h | h | h | h | h <;> rw [h] at hx hn
  · have e : colsM p.schema p.Plan = (if 0 ≤ p.Plan.Table ∧ p.Plan.Table < p.schema.Tables.length then tableL (nth p.schema.Tables p.Plan.Table.toNat) p.Plan.Attrs else [], decide (0 ≤ p.Plan.Table ∧ p.Plan.Table < p.schema.Tables.length)) := by
      unfold colsM; rw [if_pos h]; split
      · rename_i q; simp [q]
      · rename_i q; simp [q]
    rw [e]; exact step_kfun _ rfl (plTable_spec n p hz (by omega)) call64 hx hy
  · have e : colsM p.schema p.Plan = ((nth p.Plan.Kids 0).Attrs, decide (0 < (p.Plan.Tests.length : Int)) && !(p.Plan.Tests.any fun t => !testOk t (nth p.Plan.Kids 0).Attrs.length)) := by simp [colsM, h]
    rw [e]; exact step_kfun _ rfl (plSel_spec n p (by simp [kidsN] at hn; omega) (by omega)) call67 hx hy
  · have e : colsM p.schema p.Plan = (pickM (nth p.Plan.Kids 0).Attrs p.Plan.Cols, pickOk (nth p.Plan.Kids 0).Attrs.length p.Plan.Cols) := by simp [colsM, h]
    rw [e]; exact step_kfun _ rfl (plProj_spec n p (by simp [kidsN] at hn; omega) (by omega)) call70 hx hy
  · have hn2 : p.Plan.Kids.length = 2 := by simp [kidsN] at hn; omega
    have e : colsM p.schema p.Plan = (if joinOk (nth p.Plan.Kids 0).Attrs (nth p.Plan.Kids 1).Attrs = true then joinL (nth p.Plan.Kids 0).Attrs (nth p.Plan.Kids 1).Attrs else [], joinOk (nth p.Plan.Kids 0).Attrs (nth p.Plan.Kids 1).Attrs) := by
      have e1 : colsM p.schema p.Plan = if joinOk (nth p.Plan.Kids 0).Attrs (nth p.Plan.Kids 1).Attrs = true then (joinL (nth p.Plan.Kids 0).Attrs (nth p.Plan.Kids 1).Attrs, true) else ([], false) := by simp [colsM, h]
      rw [e1]; split
      · rename_i q; rw [q]
      · rename_i q; rw [Bool.eq_false_iff.2 q]
    rw [e]; exact step_kfun _ rfl (plJoin_spec n p (by omega) (hA 0 (by omega)) (hA 1 (by omega))) call72 hx hy
  · have hn2 : p.Plan.Kids.length = 2 := by simp [kidsN] at hn; omega
    have e : colsM p.schema p.Plan = ((nth p.Plan.Kids 0).Attrs, alikeM (nth p.Plan.Kids 0).Attrs (nth p.Plan.Kids 1).Attrs) := by simp [colsM, h]
    rw [e]; exact step_kfun _ rfl (plBoth_spec n p (by omega) (hA 0 (by omega))) call74 hx hy
  · have hn2 : p.Plan.Kids.length = 2 := by simp [kidsN] at hn; omega
    have e : colsM p.schema p.Plan = ((nth p.Plan.Kids 0).Attrs, alikeM (nth p.Plan.Kids 0).Attrs (nth p.Plan.Kids 1).Attrs) := by simp [colsM, h]
    rw [e]; exact step_kfun _ rfl (plBoth_spec n p (by omega) (hA 0 (by omega))) call74 hx hy
  · have hn1 : p.Plan.Kids.length = 1 := by simp [kidsN] at hn; omega
    have e : colsM p.schema p.Plan = (if renOk p.Plan = true then renL p.Plan else [], renOk p.Plan) := by
      have e1 : colsM p.schema p.Plan = if renOk p.Plan = true then (renL p.Plan, true) else ([], false) := by simp [colsM, h]
      rw [e1]; split
      · rename_i q; rw [q]
      · rename_i q; rw [Bool.eq_false_iff.2 q]
    rw [e]; exact step_kfun _ rfl (plRen_spec n p (by omega) (hA 0 (by omega))) call77 hx hy
  · have hn1 : p.Plan.Kids.length = 1 := by simp [kidsN] at hn; omega
    have e : colsM p.schema p.Plan = (if grpOk p.Plan = true then grpL p.Plan else [], grpOk p.Plan && grpB p.Plan) := by
      have e1 : colsM p.schema p.Plan = if grpOk p.Plan = true then (grpL p.Plan, grpB p.Plan) else ([], false) := by simp [colsM, h]
      rw [e1]; split
      · rename_i q; rw [q, Bool.true_and]
      · rename_i q; rw [Bool.eq_false_iff.2 q, Bool.false_and]
    rw [e]; exact step_kfun _ rfl (plGrp_spec n p (by omega) (hA 0 (by omega)) (by omega)) call80 hx hy
end
open Go Go.Proofs Go.Proofs.Tryz
theorem cols_len {s : GSchema} {n : Nat} {p : GPlan} (hz : SchSz s) (hp : PlSz (n + 1) p) (hk : kindOk p.Kind = true) (hn : (p.Kids.length : Int) = kidsN p.Kind) : (colsM s p).1.length ≤ 1000000000000 := by
  obtain ⟨z1, z2, z3, z4, z5⟩ := hp
  have hA : ∀ i, i < p.Kids.length → (nth p.Kids i).Attrs.length ≤ 100000000 := fun i hi => Nat.le_trans (z5 _ (nth_mem hi)).2 (by omega)
  rcases kind_cases hk with h | h | h | h | h | h | h | h <;> rw [h] at hn <;> simp only [kidsN] at hn <;> simp at hn
  · have e : colsM s p = if 0 ≤ p.Table ∧ p.Table < s.Tables.length then (tableL (nth s.Tables p.Table.toNat) p.Attrs, true) else ([], false) := by simp [colsM, h]
    rw [e]; split
    · rename_i q
      have := (hz.tab _ (nth_mem (l := s.Tables) (i := p.Table.toNat) (by omega))).at'
      simp only [tableL, List.length_map, List.length_range]; omega
    · simp
  · have e : (colsM s p).1 = (nth p.Kids 0).Attrs := by simp [colsM, h]
    rw [e]; have := hA 0 (by omega); omega
  · have e : (colsM s p).1 = pickM (nth p.Kids 0).Attrs p.Cols := by simp [colsM, h]
    rw [e]; have := pickM_len (nth p.Kids 0).Attrs p.Cols; omega
  · have e : colsM s p = if joinOk (nth p.Kids 0).Attrs (nth p.Kids 1).Attrs = true then (joinL (nth p.Kids 0).Attrs (nth p.Kids 1).Attrs, true) else ([], false) := by simp [colsM, h]
    rw [e]; split
    · have := joinL_len (nth p.Kids 0).Attrs (nth p.Kids 1).Attrs
      have := hA 0 (by omega); have := hA 1 (by omega); simp only []; omega
    · simp
  · have e : (colsM s p).1 = (nth p.Kids 0).Attrs := by simp [colsM, h]
    rw [e]; have := hA 0 (by omega); omega
  · have e : (colsM s p).1 = (nth p.Kids 0).Attrs := by simp [colsM, h]
    rw [e]; have := hA 0 (by omega); omega
  · have e : colsM s p = if renOk p = true then (renL p, true) else ([], false) := by simp [colsM, h]
    rw [e]; split
    · simp only [renL, List.length_set]; have := hA 0 (by omega); omega
    · simp
  · have e : colsM s p = if grpOk p = true then (grpL p, grpB p) else ([], false) := by simp [colsM, h]
    rw [e]; split
    · simp only [grpL, pickL, List.length_append, List.length_map, List.length_singleton]; omega
    · simp
/-- What valid does at queries of a depth. -/
def ValidS (s : GSchema) (n : Nat) : Prop := ∀ (lv : Nat) (p : GPlan), lv ≤ 1000 → PlSz n p → Fun1 prog 47 [rSchema.ty s, tMapI kvI rkind kindsM, (rPlan n).ty p, tV (.int .i64 lv)] (tV (.bool (validM s lv p)))
set_option maxHeartbeats 4000000 in
theorem valid1_spec (s : GSchema) (hz : SchSz s) (n lv : Nat) (p : GPlan) (hlv : lv ≤ 1000) (hp : PlSz (n + 1) p) (ih : ValidS s n) : Fun1 prog 47 [rSchema.ty s, tMapI kvI rkind kindsM, (rPlan (n + 1)).ty p, tV (.int .i64 lv)] (tV (.bool (validM s lv p))) := by
 refine Spec.enter func47 rfl rfl fun h0 w0 fr0 => ?_
 obtain ⟨z1, z2, z3, z4, z5⟩ := id hp
 refine Jr (Js rfl (step_box (R := rSchema) Sr) (Js rfl (step_box (R := (rPlan (n + 1))) Sr) (Ja rfl (JL_nil (Jr ?_)))))
 refine Jm rfl (Js rfl (step_fieldAddr so30 Sr rfl) (Jl rfl ty3 Sr (Js rfl (step_lookupI_ok (kv := kvI) (R := rkind) (z := zkind) (KeyT.int underlying3) underlying80 (fun w => zeroValue125 w) zr125 Sr Sr) (Jm rfl (Js rfl (step_extract Sr rfl) ?_)))))
 refine Js rfl (step_extract Sr rfl) ?_
 refine Jx rfl (step_alloc (fun w => zeroValue125 w) zr125) fun v9 => ?_
 refine Ju (step_store_box ty125 Sr Sr zS) fun _ => ?_
 refine JL_freeze (t := 9) (Sel.take (Sel.none _)) Frz.box ?_
 refine Ja rfl (JL_nil (J_seq (Jr (Jm rfl (Js rfl (step_not Sr) ?_)))))
 refine Jm rfl ?_
 refine Jk rfl Sr rfl (step_move Sr) ?_
 refine Jg rfl Sr rfl (fun hw => step_eql (Sub.w hw) Sr) (Js rfl (step_pick_or Sr Sr) (Jm rfl ?_))
 refine Jk rfl Sr rfl (step_fieldAddr so30 Sr rfl) ?_
 refine Jg rfl Sr rfl (fun hw => step_load_ptr ty25 (Sub.w hw)) (Jg rfl Sr rfl (fun hw => step_len_sl underlying25 (Sub.w hw)) ?_)
 refine Jk rfl Sr rfl (step_fieldAddr so125 Sr rfl) ?_
 refine Jg rfl Sr rfl (fun hw => step_load_ptr ty3 (Sub.w hw)) (Jg rfl Sr rfl (fun hw => step_neq (Sub.w hw) (Sub.w hw)) (Js rfl (step_pick_or Sr Sr) (JL_nil ?_)))
 refine J_cond Sr (fun h37 => ?_) (fun h37 => ?_)
 ·
  try simp only [NF] at h37
  refine Jr (Ja rfl (JL_nil (J_ret ?_)))
  refine K_ret1 (t := 8) rfl () ?_
  refine Sub.bool ?_
  cases lv with
  | zero => rfl
  | succ l =>
   have : (kindOk p.Kind && decide ((p.Kids.length : Int) = kidsN p.Kind)) = false := by
    rw [kinds_some] at h37
    by_cases hkd : kindOk p.Kind = true
    ·
     rw [hkd, Bool.true_and, decide_eq_false_iff_not, ← kinds_kids hkd]
     rcases h37 with (h | h) | h
     ·
      rw [hkd] at h; cases h
     ·
      omega
     exact h
    rw [Bool.eq_false_iff.2 hkd, Bool.false_and]
   simp only [validM, this, Bool.false_and]
 try simp only [NF] at h37
 rw [kinds_some] at h37
 have hkd : kindOk p.Kind = true := by simp_all
 have hkn : (p.Kids.length : Int) = kidsN p.Kind := by rw [← kinds_kids hkd]; simp_all
 obtain ⟨l, rfl⟩ : ∃ l, lv = l + 1 := ⟨lv - 1, by omega⟩
 refine J_skip (J_seq (Jr (Js rfl (step_fieldAddr so30 Sr rfl) (Jl rfl ty25 Sr (Js rfl (step_len_sl underlying25 Sr) ?_)))))
 refine Jm rfl (JL_nil (J_block ?_))
 refine J_loopL (σ := Nat) (fun i => i ≤ p.Kids.length ∧ ∀ k, k < i → validM s l (nth p.Kids k) = true) (fun i => upd (upd (upd (upd (upd (upd (upd (upd (upd env0 1 (tMapI kvI rkind kindsM)) 3 (tV (.int .i64 ((l + 1 : Nat) : Int)))) 4 (tPtr rSchema s)) 6 (tPtr (rPlan (n + 1)) p)) 9 (tPtr rkind (kindV p.Kind))) 10 (tV (.bool (mget kindsM p.Kind).isSome))) 39 (tSl (rPlan n) p.Kids)) 40 (tV (.int .i64 p.Kids.length))) 41 (tV (.int .i64 i))) (fun i => []) (fun i => p.Kids.length - i) 0 ⟨by omega, fun k hk => by omega⟩ (zU) (LSub.rfl) ?_
 rintro i ⟨hi, hv⟩
 refine Jr (Js rfl (step_lss Sr Sr) (JL_nil (J_seq ?_)))
 refine J_cond Sr (fun h42 => ?_) (fun h42 => ?_)
 ·
  try simp only [NF] at h42
  have hlt : i < p.Kids.length := by omega
  refine K_fact 39 (fun _ _ r => kids_pos zG r) fun ⟨m, hm⟩ => ?_
  subst hm
  refine J_skip (J_seq (J_block (Jr ?_)))
  refine Js rfl (step_indexAddr_sl  underlying25 ty30 Sr Sr rfl (gb (by exact hlt))) ?_
  refine Jl rfl ty30 Sr ?_
  refine Jx rfl (step_alloc (fun w => zeroValue30 w) (zr30 (n := m))) fun v12 => ?_
  refine Ju (step_store_box ty30 Sr Sr zS) fun _ => ?_
  refine JL_freeze (t := 12) (Sel.take (Sel.none _)) Frz.box ?_
  refine JL_nil (Jr (Jl rfl ty24 Sr (Jm rfl (Jl rfl ty30 Sr (Jm rfl ?_)))))
  refine Js rfl (step_sub Sr Sr z6) (Js rfl (step_call0 (ih l _ zG (z5 _ (nth_mem hlt)).1) ⟨Sr, Sr, Sr, Sub.int zG, trivial⟩ call47) (Js rfl (step_not Sr) (JL_nil ?_)))
  refine J_cond Sr (fun h51 => ?_) (fun h51 => ?_)
  ·
   try simp only [NF] at h51
   refine Jr (Ja rfl (JL_nil (J_ret ?_)))
   refine K_ret1 (t := 8) rfl () ?_
   refine Sub.bool ?_
   have : p.Kids.all (validM s l) = false := all_f hlt (by simpa using h51)
   simp only [validM, this]; simp
  try simp only [NF] at h51
  refine J_skip (J_region (Js rfl (step_add Sr Sr z6) (Jm rfl (JL_nil ?_))))
  refine K_againL (σ := Nat) (s := i) (i + 1) zO ?_ (zU) (LSub.rfl)
  exact pred_again (p := fun q => validM s l q = true) hlt hv (by simpa using h51)
 try simp only [NF] at h42
 have hkids : p.Kids.all (validM s l) = true := all_t (fun k hk => hv k zG)
 refine J_exit (J_seq (Jr (Js rfl (step_fieldAddr so125 Sr rfl) (Jl rfl ty117 Sr (Jl rfl ty30 Sr ?_)))))
 refine Js rfl (step_rest hkd Sr Sr) ?_
 refine Jx rfl (step_alloc (fun w => zeroValue30 w) (zr30 (n := n))) fun v13 => ?_
 refine Ju (step_store_box ty30 Sr Sr zS) fun _ => ?_
 refine JL_freeze (t := 13) (Sel.take (Sel.none _)) Frz.box ?_
 refine JL_nil (Jr (Js rfl (step_fieldAddr so30 Sr rfl) (Jl rfl ty3 Sr (Js rfl (step_neq Sr Sr) (Jm rfl ?_)))))
 refine Jk rfl Sr rfl (step_fieldAddr so30 Sr rfl) ?_
 refine Jg rfl Sr rfl (fun hw => step_load_ptr ty26 (Sub.w hw)) (Jg rfl Sr rfl (fun hw => step_len_sl underlying26 (Sub.w hw)) (Jg rfl Sr rfl (fun hw => step_gtr (Sub.w hw) Sr) (Js rfl (step_pick_or Sr Sr) (Jm rfl ?_))))
 refine Jk rfl Sr rfl (step_fieldAddr so30 Sr rfl) ?_
 refine Jg rfl Sr rfl (fun hw => step_load_ptr ty27 (Sub.w hw)) (Jg rfl Sr rfl (fun hw => step_len_sl underlying27 (Sub.w hw)) (Jg rfl Sr rfl (fun hw => step_gtr (Sub.w hw) Sr) (Js rfl (step_pick_or Sr Sr) (Jm rfl ?_))))
 refine Jk rfl Sr rfl (step_fieldAddr so30 Sr rfl) ?_
 refine Jg rfl Sr rfl (fun hw => step_load_ptr ty3 (Sub.w hw)) (Jg rfl Sr rfl (fun hw => step_neq (Sub.w hw) Sr) (Js rfl (step_pick_or Sr Sr) (Jm rfl ?_)))
 refine Jk rfl Sr rfl (step_fieldAddr so30 Sr rfl) ?_
 refine Jg rfl Sr rfl (fun hw => step_load_ptr ty3 (Sub.w hw)) (Jg rfl Sr rfl (fun hw => step_neq (Sub.w hw) Sr) (Js rfl (step_pick_or Sr Sr) (JL_nil ?_)))
 refine J_cond Sr (fun h81 => ?_) (fun h81 => ?_)
 ·
  try simp only [NF] at h81
  refine Jr (Ja rfl (JL_nil (J_ret ?_)))
  refine K_ret1 (t := 8) rfl () ?_
  refine Sub.bool ?_
  have : bareM p = false := by
   unfold bareM
   simp only [NF]
   exact h81
  simp only [validM, this]; simp
 try simp only [NF] at h81
 have hb : bareM p = true := by
  unfold bareM
  simp only [NF]
  exact h81
 refine J_skip (J_seq (Jr (Js rfl (step_fieldAddr so30 Sr rfl) (Jl rfl ty28 Sr (Js rfl (step_len_sl underlying28 Sr) ?_)))))
 refine Jm rfl (JL_nil (J_block ?_))
 refine J_loopL (σ := Nat) (fun i => i ≤ p.Attrs.length ∧ ∀ k, k < i → namesOk p.Attrs k = true) (fun i => upd (upd (upd (upd (upd (upd (upd env0 4 (tPtr rSchema s)) 6 (tPtr (rPlan (n + 1)) p)) 9 (tPtr rkind (kindV p.Kind))) 10 (tV (.bool (mget kindsM p.Kind).isSome))) 83 (tSl rAttr p.Attrs)) 84 (tV (.int .i64 p.Attrs.length))) 85 (tV (.int .i64 i))) (fun i => []) (fun i => p.Attrs.length - i) 0 ⟨by omega, fun k hk => by omega⟩ (zU) (LSub.rfl) ?_
 rintro i ⟨hi2, hv2⟩
 refine Jr (Js rfl (step_lss Sr Sr) (JL_nil (J_seq ?_)))
 refine J_cond Sr (fun h86 => ?_) (fun h86 => ?_)
 ·
  try simp only [NF] at h86
  have hlt : i < p.Attrs.length := by omega
  refine J_skip (J_seq (J_block (Jr (Jm rfl ?_))))
  refine Js rfl (step_indexAddr_sl  underlying28 ty64 Sr Sr rfl (gb (by exact hlt))) ?_
  refine Jl rfl ty64 Sr ?_
  refine Jx rfl (step_alloc (fun w => zeroValue64 w) zr64) fun v15 => ?_
  refine Ja rfl ?_
  refine Ju (step_store_box ty64 Sr Sr zS) fun _ => ?_
  refine JL_freeze (t := 15) (Sel.take (Sel.none _)) Frz.box ?_
  refine JL_nil (Jr (Js rfl (step_fieldAddr so30 Sr rfl) (Jl rfl ty28 Sr (Js rfl (step_fieldAddr so64 Sr rfl) (Jl rfl ty9 Sr ?_)))))
  refine Js rfl (step_call0 (acolumn_spec _ _ (by show p.Attrs.length ≤ _; omega)) ⟨Sr, Sr, trivial⟩ call102) ?_
  refine Jm rfl (Js rfl (step_neq Sr Sr) (JL_nil ?_))
  refine J_cond Sr (fun h96 => ?_) (fun h96 => ?_)
  ·
   try simp only [NF] at h96
   refine Jr (Ja rfl (JL_nil (J_ret ?_)))
   refine K_ret1 (t := 8) rfl () ?_
   refine Sub.bool ?_
   have : namesOk p.Attrs i = false := by simpa [namesOk] using h96
   simp only [validM, rall_f hlt this]; simp
  try simp only [NF] at h96
  refine J_skip (J_region (Js rfl (step_add Sr Sr z6) (Jm rfl (JL_nil ?_))))
  refine K_againL (σ := Nat) (s := i) (i + 1) zO ?_ (zU) (LSub.rfl)
  refine ⟨by omega, fun k hk => ?_⟩
  by_cases e : k = i
  ·
   subst e; simpa [namesOk] using h96
  exact hv2 k zG
 try simp only [NF] at h86
 have hns : (List.range p.Attrs.length).all (namesOk p.Attrs) = true := rall_t (fun k hk => hv2 k zG)
 refine J_exit (Jr (Js rfl (step_fieldAddr so125 Sr rfl) (Jl rfl ty118 Sr (Jl rfl ty30 Sr (Jl rfl ty24 Sr ?_)))))
 refine Js rfl (step_build (x := (⟨p, s⟩ : Gplan)) (zs := [[Value.int .i64 0, Value.int .i64 0, Value.slice none 0 0, Value.slice none 0 0, Value.slice none 0 0, Value.int .i64 0, Value.int .i64 0, Value.slice none 0 0], [Value.slice none 0 0]]) so121 (fun w => zeroValue121 w) ⟨Sr, Sr, trivial⟩ ⟨⟨Sr, rfl⟩, ⟨Sr, rfl⟩, trivial⟩) (Js rfl (step_cols hkd hkn hz hp Sr Sr) (Jm rfl (Js rfl (step_extract Sr rfl) (Js rfl (step_extract Sr rfl) (Ja rfl ?_)))))
 refine Ja rfl (JL_nil (Jr (Jm rfl (Jm rfl ?_))))
 refine Jk rfl Sr rfl (step_move Sr) ?_
 refine Jk rfl Sr rfl (step_fieldAddr so30 Sr rfl) ?_
 refine Jg rfl Sr rfl (fun hw => step_load_ptr ty28 (Sub.w hw)) (Jg rfl Sr rfl (fun hw => step_call0 (alike_spec _ _ (cols_len hz hp hkd hkn)) ⟨(Sub.w hw), (Sub.w hw), trivial⟩ call103) (Js rfl (step_pick_and Sr Sr) (Ja rfl (JL_nil (J_ret ?_)))))
 refine K_ret1 (t := 8) rfl () ?_
 refine Sub.bool ?_
 have hkn2 : decide ((p.Kids.length : Int) = kidsN p.Kind) = true := by rw [decide_eq_true_eq]; exact hkn
 simp only [validM, hkd, hkn2, hkids, hb, hns, Bool.true_and]
theorem valid_spec (s : GSchema) (hz : SchSz s) : ∀ n, ValidS s n
 | 0 => fun lv p hlv hp => by
  refine Spec.enter func47 rfl rfl fun h0 w0 fr0 => ?_
  exact K_fact 2 (fun _ _ r => (show False from r)) fun q => q.elim
 | n + 1 => fun lv p hlv hp => valid1_spec s hz n lv p hlv hp (valid_spec s hz n)
def vldM (s : GSchema) (p : GPlan) : Bool := schM s && validM s 12 p
theorem algValid_spec (s : GSchema) (hz : SchSz s) (n : Nat) (p : GPlan) (hp : PlSz n p) : Fun1 prog 16 [rSchema.ty s, (rPlan n).ty p] (tV (.bool (vldM s p))) := by
 refine Spec.enter func16 rfl rfl fun h0 w0 fr0 => ?_
 refine Jr (Js rfl (step_box (R := rSchema) Sr) (Js rfl (step_box (R := (rPlan n)) Sr) (Ja rfl (JL_nil (J_seq ?_)))))
 refine J_draw [⟨0, [2], true⟩, ⟨1, [5], true⟩, ⟨2, [6], true⟩, ⟨3, [2, 7], true⟩, ⟨4, [7], true⟩, ⟨5, [3, 7], true⟩, ⟨6, [7, 8, 9, 10], true⟩, ⟨7, [7, 11], true⟩, ⟨8, [12], true⟩] rfl (by kernel_rfl) ?_
 refine Mf rfl rfl (step_load_ptr ty24 Sr) (Mf rfl rfl (step_call0 (schValid_spec _ hz) ⟨Sr, trivial⟩ call46) (Mv rfl rfl ?_))
 refine Mk rfl rfl Sr rfl (step_load_ptr ty24 Sr) ?_
 refine Mk rfl rfl Sr rfl (step_call0 (kinds_spec) trivial call35) ?_
 refine Mk rfl rfl Sr rfl (step_load_ptr ty30 Sr) ?_
 refine Mg rfl rfl Sr rfl (fun hw => step_call0 (valid_spec s hz n 12 p zG hp) ⟨Sub.w hw, Sub.w hw, Sub.w hw, Sr, trivial⟩ call47) (Mf rfl rfl (step_pick_and Sr Sr) (Mf rfl rfl (step_assign Sr) (JM_nil (J_ret ?_))))
 exact K_ret1 (t := 4) rfl () Sr
open Go Go.Proofs Go.Proofs.Tryz
section
variable {C : Cx} {E : Env} {L : List SP} {d : Option Nat} {ty : Nat} {pos : String} {af : Array Edge} {g : Option (Nat × Bool)}
theorem step_addW {T U : Nat} {x y : Operand} {a b : Int} (hx : Sub (opTy E x) (tV (.int .i64 a))) (hy : Sub (opTy E y) (tV (.int .i64 b))) :
    Step1 C ⟨d, .binOp .add T x y U, ty, pos, af, g⟩ E L (tV (.int .i64 (IntKind.i64.wrap (a + b)))) := step_int hx hy (fun P w => by simp [binOp, Op.intArith])
end
open Go Go.Proofs Go.Proofs.Tryz
/-- The state of a builder of atoms. -/
structure Bst where
  P : List Gplace
  F : List Int
  T : List Int
  S : List Int
  bad : Bool
def st0 : Bst := ⟨[], [], [], [], false⟩
open Go Go.Proofs Go.Proofs.Tryz
/-- The depth of a query. -/
def Dep : Nat → GPlan → Prop
  | 0, _ => False
  | n + 1, p => ∀ q ∈ p.Kids, Dep n q
theorem pl_dep : ∀ {n : Nat} {h : PH} {p : GPlan} {cs : List Value}, (rPlan n).rel h p cs → Dep n p
  | 0, _, _, _, r => r.elim
  | n + 1, h, p, cs, r => by
    obtain ⟨c0, _, rfl, _, c1, _, rfl, _, c2, _, rfl, r2, _⟩ := (show SF.rel h p (fsPl cPl rAttr rTest (rPlan n)) cs from r)
    obtain ⟨u, _, hu⟩ := r2
    intro q hq
    obtain ⟨ao, cap, e, H⟩ := hu
    obtain ⟨b, off, ea, H2⟩ := H (by intro z; rw [show p.Kids = [] from z] at hq; cases hq)
    obtain ⟨i, hi, rfl⟩ := List.getElem_of_mem hq
    obtain ⟨cs, _, r3⟩ := H2 i _ (List.getElem?_eq_getElem hi)
    exact pl_dep r3
open Go Go.Proofs Go.Proofs.Tryz
theorem alike_len {a b : List GAttr} (h : alikeM a b = true) : a.length = b.length := by
  unfold alikeM eqL at h; simp only [Bool.and_eq_true, decide_eq_true_eq] at h; exact h.1
theorem valid_in {s : GSchema} {l : Nat} {p : GPlan} (h : validM s l p = true) : ∃ l', l = l' + 1 ∧ kindOk p.Kind = true ∧ (p.Kids.length : Int) = kidsN p.Kind ∧ (∀ q ∈ p.Kids, validM s l' q = true) ∧ (colsM s p).2 = true ∧ (colsM s p).1.length = p.Attrs.length := by
  cases l with
  | zero => simp [validM] at h
  | succ l =>
    simp only [validM, Bool.and_eq_true, decide_eq_true_eq, List.all_eq_true] at h
    exact ⟨l, rfl, h.1.1.1.1.1, h.1.1.1.1.2, h.1.1.1.2, h.2.1, alike_len h.2.2⟩
section
variable {s : GSchema} {l : Nat} {p : GPlan}
theorem vk1 (h : validM s l p = true) (hk : p.Kind = 1) : (0 ≤ p.Table ∧ p.Table < s.Tables.length) ∧ p.Attrs.length = (nth s.Tables p.Table.toNat).Attrs.length := by
  obtain ⟨l', _, _, _, _, h1, h2⟩ := valid_in h
  have e : colsM s p = if 0 ≤ p.Table ∧ p.Table < s.Tables.length then (tableL (nth s.Tables p.Table.toNat) p.Attrs, true) else ([], false) := by simp [colsM, hk]
  rw [e] at h1 h2
  split at h1
  · rename_i q
    rw [if_pos q] at h2
    exact ⟨q, by rw [← h2]; simp [tableL]⟩
  · cases h1
theorem vk2 (h : validM s l p = true) (hk : p.Kind = 2) : p.Kids.length = 1 ∧ (∀ t ∈ p.Tests, testOk t (nth p.Kids 0).Attrs.length = true) ∧ p.Attrs.length = (nth p.Kids 0).Attrs.length := by
  obtain ⟨l', _, _, hn, _, h1, h2⟩ := valid_in h
  have e : colsM s p = ((nth p.Kids 0).Attrs, decide (0 < (p.Tests.length : Int)) && !(p.Tests.any fun t => !testOk t (nth p.Kids 0).Attrs.length)) := by simp [colsM, hk]
  rw [e] at h1 h2
  rw [hk] at hn
  simp [kidsN] at hn
  simp only [Bool.and_eq_true, Bool.not_eq_true', List.any_eq_false] at h1
  exact ⟨by omega, fun t ht => by simpa using h1.2 t ht, h2.symm⟩
theorem vk3 (h : validM s l p = true) (hk : p.Kind = 3) : p.Kids.length = 1 ∧ (∀ c ∈ p.Cols, 0 ≤ c ∧ c < (nth p.Kids 0).Attrs.length) ∧ p.Attrs.length = p.Cols.length := by
  obtain ⟨l', _, _, hn, _, h1, h2⟩ := valid_in h
  have e : colsM s p = (pickM (nth p.Kids 0).Attrs p.Cols, pickOk (nth p.Kids 0).Attrs.length p.Cols) := by simp [colsM, hk]
  rw [e] at h1 h2
  rw [hk] at hn
  simp [kidsN] at hn
  have h3 := h1
  simp only [pickOk, List.all_eq_true, Bool.and_eq_true, decide_eq_true_eq] at h1
  refine ⟨by omega, h1, ?_⟩
  rw [← h2]
  show (pickM _ _).length = _
  rw [pickM, if_pos h3]; simp [pickL]
theorem vk4 (h : validM s l p = true) (hk : p.Kind = 4) : p.Kids.length = 2 ∧ p.Attrs.length = (joinL (nth p.Kids 0).Attrs (nth p.Kids 1).Attrs).length := by
  obtain ⟨l', _, _, hn, _, h1, h2⟩ := valid_in h
  have e : colsM s p = if joinOk (nth p.Kids 0).Attrs (nth p.Kids 1).Attrs = true then (joinL (nth p.Kids 0).Attrs (nth p.Kids 1).Attrs, true) else ([], false) := by simp [colsM, hk]
  rw [e] at h1 h2
  rw [hk] at hn
  simp [kidsN] at hn
  split at h1
  · rename_i q
    rw [if_pos q] at h2
    exact ⟨by omega, h2.symm⟩
  · cases h1
theorem vk7 (h : validM s l p = true) (hk : p.Kind = 7) : p.Kids.length = 1 ∧ p.Attrs.length = (nth p.Kids 0).Attrs.length := by
  obtain ⟨l', _, _, hn, _, h1, h2⟩ := valid_in h
  have e : colsM s p = if renOk p = true then (renL p, true) else ([], false) := by simp [colsM, hk]
  rw [e] at h1 h2
  rw [hk] at hn
  simp [kidsN] at hn
  split at h1
  · rename_i q
    rw [if_pos q] at h2
    exact ⟨by omega, by rw [← h2]; simp [renL]⟩
  · cases h1
end
open Go
section
variable {C : Cx} {E : Env} {L : List SP} {d : Option Nat} {ty : Nat} {pos : String} {af : Array Edge} {g : Option (Nat × Bool)}
end
theorem Frz.ownV {α : Type} {e : Nat} {R : Rp α} {v : Value} {xs : List α} {S : List SP} : Frz (Lg.own e R v xs :: S) (tV v) (tSl R xs) := fun h m u d hs hu => by
  have hvo : v.oneCell' = true := by
    obtain ⟨m3, m4, _, _, ho, _⟩ := hs
    rcases ho with ⟨rfl, _⟩ | ⟨g, cap, cur, rfl, _⟩ <;> rfl
  have hu : u = v := hu
  exact Frz.own h m u d hs ⟨hu, hvo⟩
open Go Go.Proofs Go.Proofs.Tryz
/-! ### Classes and their values -/
theorem nth_out {α : Type} [Inhabited α] {l : List α} {i : Nat} (h : ¬ i < l.length) : nth l i = default := by
  induction l generalizing i with
  | nil => rfl
  | cons a l ih =>
    cases i with
    | zero => exact absurd (Nat.succ_pos _) h
    | succ i => exact ih (by simpa using h)
open Go Go.Proofs Go.Proofs.Tryz
def smA (a : GAttr) : Bool := decide (a.Was.length ≤ 10) && decide (a.Default.Text.size ≤ 300)
def smT (t : GTable) : Bool := decide (t.Attrs.length ≤ 20) && decide (t.Key.length ≤ 20) && decide (t.Name.size ≤ 100) && t.Attrs.all smA
def smS (s : GSchema) : Bool := decide (s.Tables.length ≤ 24) && s.Tables.all smT
/-- How many kids a query has that is handed in. -/
def PlLen : Nat → GPlan → Prop
  | 0, _ => True
  | n + 1, p => p.Kids.length ≤ 9223372036854775807 ∧ ∀ q ∈ p.Kids, PlLen n q
def narM : Nat → GPlan → Bool
  | 0, _ => true
  | n + 1, p => p.Kids.all (narM n) && (decide (p.Attrs.length ≤ 40) && decide (p.Tests.length ≤ 20) && decide (p.Cols.length ≤ 40))
def cntL (f : GPlan → Int) : Int → List GPlan → Int
  | a, [] => a
  | a, q :: l => if a < 1000 then cntL f (IntKind.i64.wrap (a + f q)) l else a
def cntW : Nat → GPlan → Int
  | 0, _ => 1
  | n + 1, p => cntL (cntW n) 1 p.Kids
theorem cntL_stop (f : GPlan → Int) {a : Int} (h : ¬ a < 1000) (l : List GPlan) : cntL f a l = a := by
  cases l with
  | nil => rfl
  | cons q l => unfold cntL; rw [if_neg h]
def rowsOk (m : Int) (t : List (List GValue)) : Bool := decide ((t.length : Int) ≤ m) && t.all fun r => decide (r.length ≤ 20)
def smallM (s : GSchema) (n : Nat) (p : GPlan) (ts : List (List (List GValue))) (m : Int) : Bool := smS s && decide (cntW n p ≤ 40) && narM n p && decide (ts.length ≤ 30) && ts.all (rowsOk m)
/-- What Count does at queries of a depth, and what narrow does. -/
def CntS (n : Nat) : Prop := ∀ (p : GPlan), PlLen n p → Fun1 prog 7 [(rPlan n).ty p] (tV (.int .i64 (cntW n p)))
def NarS (n : Nat) : Prop := ∀ (p : GPlan), PlLen n p → Fun1 prog 26 [(rPlan n).ty p] (tV (.bool (narM n p)))
theorem sm_sz {s : GSchema} (h : smS s = true) (hn : ∀ t ∈ s.Tables, ∀ x ∈ namesL t.Attrs, x.size ≤ 9223372036854775807) : SchSz s := by
  unfold smS at h
  simp only [Bool.and_eq_true, decide_eq_true_eq, List.all_eq_true] at h
  refine ⟨by omega, fun t ht => ?_⟩
  have h1 := h.2 t ht
  unfold smT at h1
  simp only [Bool.and_eq_true, decide_eq_true_eq, List.all_eq_true] at h1
  refine ⟨by omega, by omega, by omega, fun a ha => ?_, hn t ht⟩
  have h2 := h1.2 a ha
  unfold smA at h2
  simp only [Bool.and_eq_true, decide_eq_true_eq] at h2
  omega
theorem nar_sz : ∀ {n : Nat} {p : GPlan}, Dep n p → narM n p = true → PlLen n p → PlSz n p ∧ p.Attrs.length ≤ 1000
  | 0, _, hd, _, _ => hd.elim
  | n + 1, p, hd, h, hl => by
    obtain ⟨h1, h2⟩ := hl
    simp only [narM, Bool.and_eq_true, decide_eq_true_eq, List.all_eq_true] at h
    exact ⟨⟨h1, by omega, by omega, by omega, fun q hq => nar_sz (hd q hq) (h.1 q hq) (h2 q hq)⟩, by omega⟩
set_option maxHeartbeats 2000000 in
theorem rsSmall_spec (s : GSchema) : Fun1 prog 25 [rSchema.ty s] (tV (.bool (smS s))) := by
 refine Spec.enter func25 rfl rfl fun h0 w0 fr0 => ?_
 refine Jr (Js rfl (step_box (R := rSchema) Sr) (Ja rfl (JL_nil (J_seq (Jr ?_)))))
 refine Js rfl (step_fieldAddr so24 Sr rfl) (Jl rfl ty22 Sr (Js rfl (step_len_sl underlying22 Sr) (Js rfl (step_gtr Sr Sr) (JL_nil ?_))))
 refine J_cond Sr (fun h9 => ?_) (fun h9 => ?_)
 ·
  try simp only [NF] at h9
  refine Jr (Ja rfl (JL_nil (J_ret ?_)))
  refine K_ret1 (t := 2) rfl () ?_
  refine Sub.bool ?_
  have : ¬ s.Tables.length ≤ 24 := by omega
  simp [smS, this]
 try simp only [NF] at h9
 refine J_skip (J_seq (Jr (Ja rfl (JL_nil (J_block ?_)))))
 refine J_loopL (σ := Nat) (fun i => i ≤ s.Tables.length ∧ ∀ k, k < i → smT (nth s.Tables k) = true) (fun i => upd (upd env0 1 (tPtr rSchema s)) 3 (tV (.int .i64 i))) (fun i => []) (fun i => s.Tables.length - i) 0 ⟨by omega, fun k hk => by omega⟩ (zU) (LSub.rfl) ?_
 rintro i ⟨hi, hv⟩
 refine J_seq (Jr (Jm rfl (Js rfl (step_fieldAddr so24 Sr rfl) (Jl rfl ty22 Sr (Js rfl (step_len_sl underlying22 Sr) ?_)))))
 refine Js rfl (step_lss Sr Sr) (JL_nil ?_)
 refine J_cond Sr (fun h14 => ?_) (fun h14 => ?_)
 ·
  try simp only [NF] at h14
  have hlt : i < s.Tables.length := by omega
  refine J_skip (J_seq (J_block (Jr (Js rfl (step_fieldAddr so24 Sr rfl) (Jl rfl ty22 Sr ?_)))))
  refine Jm rfl ?_
  refine Js rfl (step_indexAddr_sl (i := i) underlying22 ty77 Sr Sr (by rfl) (gb (by exact hlt))) ?_
  refine Jl rfl ty77 Sr ?_
  refine Jx rfl (step_alloc (fun w => zeroValue77 w) zr77) fun b4 => ?_
  refine Ju (step_store_box ty77 Sr Sr zS) fun _ => ?_
  refine JL_freeze (t := 4) (Sel.take (Sel.none _)) Frz.box ?_
  refine JL_nil (J_seq (Jr (Js rfl (step_fieldAddr so77 Sr rfl) (Jl rfl ty28 Sr (Js rfl (step_len_sl underlying28 Sr) ?_)))))
  refine Js rfl (step_gtr Sr Sr) (Jm rfl ?_)
  refine Jk rfl Sr rfl (step_fieldAddr so77 Sr rfl) ?_
  refine Jg rfl Sr rfl (fun hw => step_load_ptr ty27 (Sub.w hw)) (Jg rfl Sr rfl (fun hw => step_len_sl underlying27 (Sub.w hw)) (Jg rfl Sr rfl (fun hw => step_gtr (Sub.w hw) Sr) (Js rfl (step_pick_or Sr Sr) (Jm rfl ?_))))
  refine Jk rfl Sr rfl (step_fieldAddr so77 Sr rfl) ?_
  refine Jg rfl Sr rfl (fun hw => step_load_ptr ty9 (Sub.w hw)) (Jg rfl Sr rfl (fun hw => step_len_str underlying9 (Sub.w hw)) (Jg rfl Sr rfl (fun hw => step_gtr (Sub.w hw) Sr) (Js rfl (step_pick_or Sr Sr) (JL_nil ?_))))
  refine J_cond Sr (fun h37 => ?_) (fun h37 => ?_)
  ·
   try simp only [NF] at h37
   refine Jr (Ja rfl (JL_nil (J_ret ?_)))
   refine K_ret1 (t := 2) rfl () ?_
   refine Sub.bool ?_
   have : smT (nth s.Tables i) = false := by
    unfold smT
    rcases h37 with (h | h) | h
    ·
     simp [show ¬ (nth s.Tables i).Attrs.length ≤ 20 by omega]
    ·
     simp [show ¬ (nth s.Tables i).Key.length ≤ 20 by omega]
    simp [show ¬ (nth s.Tables i).Name.size ≤ 100 by omega]
   simp [smS, all_f hlt this]
  try simp only [NF] at h37
  refine J_skip (Jr (Ja rfl (JL_nil (J_block ?_))))
  refine J_loopL (σ := Nat) (fun k => k ≤ (nth s.Tables i).Attrs.length ∧ ∀ j, j < k → smA (nth (nth s.Tables i).Attrs j) = true) (fun k => upd (upd (upd (upd env0 1 (tPtr rSchema s)) 3 (tV (.int .i64 i))) 4 (tPtr rTable (nth s.Tables i))) 5 (tV (.int .i64 k))) (fun k => []) (fun k => (nth s.Tables i).Attrs.length - k) 0 ⟨by omega, fun j hj => by omega⟩ (zU) (LSub.rfl) ?_
  rintro k ⟨hk, hw⟩
  refine J_seq (Jr (Jm rfl (Js rfl (step_fieldAddr so77 Sr rfl) (Jl rfl ty28 Sr (Js rfl (step_len_sl underlying28 Sr) ?_)))))
  refine Js rfl (step_lss Sr Sr) (JL_nil ?_)
  refine J_cond Sr (fun h42 => ?_) (fun h42 => ?_)
  ·
   try simp only [NF] at h42
   have hkt : k < (nth s.Tables i).Attrs.length := by omega
   refine J_skip (J_seq (J_block (Jr (Js rfl (step_fieldAddr so77 Sr rfl) (Jl rfl ty28 Sr ?_)))))
   refine Jm rfl ?_
   refine Js rfl (step_indexAddr_sl (i := k) underlying28 ty64 Sr Sr (by rfl) (gb (by exact hkt))) ?_
   refine Js rfl (step_fieldAddr so64 Sr rfl) (Jl rfl ty60 Sr (Js rfl (step_len_sl underlying60 Sr) (Js rfl (step_gtr Sr Sr) (Jm rfl ?_))))
   refine Jk rfl Sr rfl (step_fieldAddr so77 Sr rfl) ?_
   refine Jg rfl Sr rfl (fun hw => step_load_ptr ty28 (Sub.w hw)) ?_
   refine Jk rfl Sr rfl (step_move Sr) ?_
   refine Jg rfl Sr rfl (fun hw => step_indexAddr_sl (i := k) underlying28 ty64 (Sub.w hw) (Sub.w hw) (by rfl) (gb (by have hwq := hw; (try simp only [beqB_t, beqB_f, NF] at hwq); exact hkt))) ?_
   refine Jg rfl Sr rfl (fun hw => step_fieldAddr so64 (Sub.w hw) rfl) (Jg rfl Sr rfl (fun hw => step_fieldAddr so62 (Sub.w hw) rfl) (Jg rfl Sr rfl (fun hw => step_load_ptr ty9 (Sub.w hw)) (Jg rfl Sr rfl (fun hw => step_len_str underlying9 (Sub.w hw)) (Jg rfl Sr rfl (fun hw => step_gtr (Sub.w hw) Sr) (Js rfl (step_pick_or Sr Sr) ?_)))))
   refine JL_nil ?_
   refine J_cond Sr (fun h63 => ?_) (fun h63 => ?_)
   ·
    try simp only [NF] at h63
    refine Jr (Ja rfl (JL_nil (J_ret ?_)))
    refine K_ret1 (t := 2) rfl () ?_
    refine Sub.bool ?_
    have : smA (nth (nth s.Tables i).Attrs k) = false := by
     unfold smA
     rcases h63 with h | h
     ·
      simp [show ¬ (nth (nth s.Tables i).Attrs k).Was.length ≤ 10 by omega]
     simp [show ¬ (nth (nth s.Tables i).Attrs k).Default.Text.size ≤ 300 by omega]
    have : smT (nth s.Tables i) = false := by unfold smT; simp [all_f hkt this]
    simp [smS, all_f hlt this]
   try simp only [NF] at h63
   refine J_skip (J_region (Jm rfl (Js rfl (step_add Sr Sr z6) (Ja rfl (JL_nil ?_)))))
   refine K_againL (σ := Nat) (s := k) (k + 1) zO ?_ (zU) (LSub.rfl)
   refine ⟨by omega, fun j hj => ?_⟩
   by_cases e : j = k
   ·
    rw [e]; unfold smA; simp; omega
   exact hw j zG
  try simp only [NF] at h42
  have hat : (nth s.Tables i).Attrs.all smA = true := all_t (fun j hj => hw j zG)
  refine J_exit (J_region (Jm rfl (Js rfl (step_add Sr Sr z6) (Ja rfl (JL_nil ?_)))))
  refine K_againL (σ := Nat) (s := i) (i + 1) zO ?_ (zU) (LSub.rfl)
  refine ⟨by omega, fun k hk => ?_⟩
  by_cases e : k = i
  ·
   rw [e]; unfold smT; rw [hat]; simp; omega
  exact hv k zG
 try simp only [NF] at h14
 have hall : s.Tables.all smT = true := all_t (fun k hk => hv k zG)
 refine J_exit (Jr (Ja rfl (JL_nil (J_ret ?_))))
 refine K_ret1 (t := 2) rfl () ?_
 refine Sub.bool ?_
 have : s.Tables.length ≤ 24 := by omega
 simp only [smS, hall, this]; simp
set_option maxHeartbeats 1000000 in
theorem rcnt1_spec (n : Nat) (p : GPlan) (hl : PlLen (n + 1) p) (ih : CntS n) : Fun1 prog 7 [(rPlan (n + 1)).ty p] (tV (.int .i64 (cntW (n + 1) p))) := by
 refine Spec.enter func7 rfl rfl fun h0 w0 fr0 => ?_
 obtain ⟨hl1, hl2⟩ := hl
 refine Jr (Js rfl (step_box (R := (rPlan (n + 1))) Sr) (Ja rfl (JL_nil (Jr (Ja rfl ?_)))))
 refine JL_nil (J_seq (Jr (Ja rfl (JL_nil (J_block ?_)))))
 refine J_loopL (σ := Nat × Int) (fun ⟨i, a⟩ => i ≤ p.Kids.length ∧ cntL (cntW n) a (p.Kids.drop i) = cntL (cntW n) 1 p.Kids) (fun ⟨i, a⟩ => upd (upd (upd (upd env0 1 (tPtr (rPlan (n + 1)) p)) 2 (tV (.int .i64 0))) 3 (tV (.int .i64 a))) 4 (tV (.int .i64 i))) (fun ⟨i, a⟩ => []) (fun ⟨i, a⟩ => p.Kids.length - i) (0, 1) ⟨by omega, by rw [List.drop_zero]⟩ (zU) (LSub.rfl) ?_
 rintro ⟨i, a⟩ ⟨hi, hv⟩
 refine J_seq (Jr (Jm rfl (Js rfl (step_fieldAddr so30 Sr rfl) (Jl rfl ty25 Sr (Js rfl (step_len_sl underlying25 Sr) ?_)))))
 refine Js rfl (step_lss Sr Sr) (Jm rfl ?_)
 refine Jk rfl Sr rfl (step_move Sr) ?_
 refine Jg rfl Sr rfl (fun hw => step_lss (Sub.w hw) Sr) (Js rfl (step_pick_and Sr Sr) (JL_nil ?_))
 refine J_cond Sr (fun h13 => ?_) (fun h13 => ?_)
 ·
  try simp only [NF] at h13
  have hlt : i < p.Kids.length := by omega
  have ha : a < 1000 := h13.2
  have hdr := dropB hlt
  refine J_skip (J_seq (J_block (J_region (Jm rfl (Js rfl (step_fieldAddr so30 Sr rfl) ?_)))))
  refine Jl rfl ty25 Sr (Jm rfl ?_)
  refine Js rfl (step_indexAddr_sl (i := i) underlying25 ty30 Sr Sr (by rfl) (gb (by exact hlt))) ?_
  refine Jl rfl ty30 Sr (Js rfl (step_call0 (ih _ (hl2 _ (nth_mem hlt))) ⟨Sr, trivial⟩ call7) (Js rfl (step_addW Sr Sr) (Ja rfl (JL_nil (J_region ?_)))))
  refine Jm rfl (Js rfl (step_add Sr Sr z6) (Ja rfl (JL_nil ?_)))
  refine K_againL (σ := Nat × Int) (s := (i, a)) (i + 1, IntKind.i64.wrap (a + cntW n (nth p.Kids i))) zO ?_ (zU) (LSub.rfl)
  refine ⟨by omega, ?_⟩
  rw [← hv, hdr]
  show _ = if a < 1000 then _ else a
  rw [if_pos ha]
 try simp only [NF] at h13
 refine J_exit (Jr (Jm rfl (Ja rfl (JL_nil (J_ret ?_)))))
 refine K_ret1 (t := 2) rfl () (Sub.int ?_)
 show a = cntL (cntW n) 1 p.Kids
 rw [← hv]
 by_cases ha : a < 1000
 ·
  have : i = p.Kids.length := by omega
  rw [this, List.drop_length]; rfl
 rw [cntL_stop _ ha]
theorem rcnt_spec : ∀ n, CntS n
 | 0 => fun p hl => by
  refine Spec.enter func7 rfl rfl fun h0 w0 fr0 => ?_
  exact K_fact 0 (fun _ _ r => (show False from r)) fun q => q.elim
 | n + 1 => fun p hl => rcnt1_spec n p hl (rcnt_spec n)
set_option maxHeartbeats 1000000 in
theorem rnar1_spec (n : Nat) (p : GPlan) (hl : PlLen (n + 1) p) (ih : NarS n) : Fun1 prog 26 [(rPlan (n + 1)).ty p] (tV (.bool (narM (n + 1) p))) := by
 refine Spec.enter func26 rfl rfl fun h0 w0 fr0 => ?_
 obtain ⟨hl1, hl2⟩ := hl
 refine Jr (Js rfl (step_box (R := (rPlan (n + 1))) Sr) (Ja rfl (JL_nil (J_seq (Jr ?_)))))
 refine Ja rfl (JL_nil (J_block ?_))
 refine J_loopL (σ := Nat) (fun i => i ≤ p.Kids.length ∧ ∀ k, k < i → narM n (nth p.Kids k) = true) (fun i => upd (upd env0 1 (tPtr (rPlan (n + 1)) p)) 3 (tV (.int .i64 i))) (fun i => []) (fun i => p.Kids.length - i) 0 ⟨by omega, fun k hk => by omega⟩ (zU) (LSub.rfl) ?_
 rintro i ⟨hi, hv⟩
 refine J_seq (Jr (Jm rfl (Js rfl (step_fieldAddr so30 Sr rfl) (Jl rfl ty25 Sr (Js rfl (step_len_sl underlying25 Sr) ?_)))))
 refine Js rfl (step_lss Sr Sr) (JL_nil ?_)
 refine J_cond Sr (fun h8 => ?_) (fun h8 => ?_)
 ·
  try simp only [NF] at h8
  have hlt : i < p.Kids.length := by omega
  refine J_skip (J_seq (J_block (Jr (Js rfl (step_fieldAddr so30 Sr rfl) (Jl rfl ty25 Sr ?_)))))
  refine Jm rfl ?_
  refine Js rfl (step_indexAddr_sl (i := i) underlying25 ty30 Sr Sr (by rfl) (gb (by exact hlt))) ?_
  refine Jl rfl ty30 Sr (Js rfl (step_call0 (ih _ (hl2 _ (nth_mem hlt))) ⟨Sr, trivial⟩ call26) (Js rfl (step_not Sr) (JL_nil ?_)))
  refine J_cond Sr (fun h17 => ?_) (fun h17 => ?_)
  ·
   try simp only [NF] at h17
   refine Jr (Ja rfl (JL_nil (J_ret ?_)))
   refine K_ret1 (t := 2) rfl () ?_
   refine Sub.bool ?_
   have : p.Kids.all (narM n) = false := all_f hlt (by simpa using h17)
   simp only [narM, this, Bool.false_and]
  try simp only [NF] at h17
  refine J_skip (J_region (Jm rfl (Js rfl (step_add Sr Sr z6) (Ja rfl (JL_nil ?_)))))
  refine K_againL (σ := Nat) (s := i) (i + 1) zO ?_ (zU) (LSub.rfl)
  exact pred_again (p := fun q => narM n q = true) hlt hv (by simpa using h17)
 try simp only [NF] at h8
 have hall : p.Kids.all (narM n) = true := all_t (fun k hk => hv k zG)
 refine J_exit (Jr (Js rfl (step_fieldAddr so30 Sr rfl) (Jl rfl ty28 Sr (Js rfl (step_len_sl underlying28 Sr) (Js rfl (step_leq Sr Sr) ?_)))))
 refine Jm rfl ?_
 refine Jk rfl Sr rfl (step_fieldAddr so30 Sr rfl) ?_
 refine Jg rfl Sr rfl (fun hw => step_load_ptr ty26 (Sub.w hw)) (Jg rfl Sr rfl (fun hw => step_len_sl underlying26 (Sub.w hw)) (Jg rfl Sr rfl (fun hw => step_leq (Sub.w hw) Sr) (Js rfl (step_pick_and Sr Sr) (Jm rfl ?_))))
 refine Jk rfl Sr rfl (step_fieldAddr so30 Sr rfl) ?_
 refine Jg rfl Sr rfl (fun hw => step_load_ptr ty27 (Sub.w hw)) (Jg rfl Sr rfl (fun hw => step_len_sl underlying27 (Sub.w hw)) (Jg rfl Sr rfl (fun hw => step_leq (Sub.w hw) Sr) (Js rfl (step_pick_and Sr Sr) (Ja rfl (JL_nil ?_)))))
 refine J_ret ?_
 refine K_ret1 (t := 2) rfl () ?_
 refine Sub.bool ?_
 have e : ∀ a b : Nat, decide ((a : Int) ≤ (b : Int)) = decide (a ≤ b) := fun a b => by rw [decide_eq_decide]; omega
 simp only [narM, hall, Bool.true_and]
 have e1 := e p.Attrs.length 40
 have e2 := e p.Tests.length 20
 have e3 := e p.Cols.length 40
 simp only [← e1, ← e2, ← e3]; rfl
theorem rnar_spec : ∀ n, NarS n
 | 0 => fun p hl => by
  refine Spec.enter func26 rfl rfl fun h0 w0 fr0 => ?_
  exact K_fact 0 (fun _ _ r => (show False from r)) fun q => q.elim
 | n + 1 => fun p hl => rnar1_spec n p hl (rnar_spec n)
set_option maxHeartbeats 2000000 in
theorem rSmall_spec (s : GSchema) (n : Nat) (p : GPlan) (hl : PlLen n p) (ts : List (List (List GValue))) (m : Int) (hz : ∀ t ∈ ts, t.length ≤ 9223372036854775807) : Fun1 prog 6 [rSchema.ty s, (rPlan n).ty p, tSl (rSl (rSl rValue)) ts, tV (.int .i64 m)] (tV (.bool (smallM s n p ts m))) := by
 refine Spec.enter func6 rfl rfl fun h0 w0 fr0 => ?_
 refine Jr (Js rfl (step_box (R := rSchema) Sr) (Js rfl (step_box (R := (rPlan n)) Sr) (Ja rfl (JL_nil (J_seq ?_)))))
 refine Jr (Jl rfl ty24 Sr (Js rfl (step_call0 (rsSmall_spec _) ⟨Sr, trivial⟩ call25) (Js rfl (step_not Sr) (Jm rfl ?_))))
 refine Jk rfl Sr rfl (step_load_ptr ty30 Sr) ?_
 refine Jg rfl Sr rfl (fun hw => step_call0 (rcnt_spec n p hl) ⟨Sub.w hw, trivial⟩ call7) (Jg rfl Sr rfl (fun hw => step_gtr (Sub.w hw) Sr) (Js rfl (step_pick_or Sr Sr) (Jm rfl ?_)))
 refine Jk rfl Sr rfl (step_load_ptr ty30 Sr) ?_
 refine Jg rfl Sr rfl (fun hw => step_call0 (rnar_spec n p hl) ⟨Sub.w hw, trivial⟩ call26) (Jg rfl Sr rfl (fun hw => step_not (Sub.w hw)) (Js rfl (step_pick_or Sr Sr) (Jm rfl ?_)))
 refine Jk rfl Sr rfl (step_move Sr) ?_
 refine Jg rfl Sr rfl (fun hw => step_len_sl underlying35 (Sub.w hw)) (Jg rfl Sr rfl (fun hw => step_gtr (Sub.w hw) Sr) (Js rfl (step_pick_or Sr Sr) (JL_nil ?_)))
 refine J_cond Sr (fun h28 => ?_) (fun h28 => ?_)
 ·
  try simp only [NF] at h28
  refine Jr (Ja rfl (JL_nil (J_ret ?_)))
  refine K_ret1 (t := 8) rfl () ?_
  refine Sub.bool ?_
  unfold smallM
  rcases h28 with ((h | h) | h) | h
  ·
   simp [h]
  ·
   simp [show ¬ cntW n p ≤ 40 by omega]
  ·
   simp [h]
  simp [show ¬ ts.length ≤ 30 by omega]
 try simp only [NF] at h28
 have hb : smS s = true ∧ cntW n p ≤ 40 ∧ narM n p = true ∧ ts.length ≤ 30 := ⟨h28.1.1.1, h28.1.1.2, h28.1.2, by omega⟩
 refine J_skip (J_seq (Jr (Ja rfl (JL_nil (J_block ?_)))))
 refine J_loopL (σ := Nat) (fun i => i ≤ ts.length ∧ ∀ k, k < i → rowsOk m (nth ts k) = true) (fun i => upd (upd (upd env0 2 (tSl (rSl (rSl rValue)) ts)) 3 (tV (.int .i64 m))) 9 (tV (.int .i64 i))) (fun i => []) (fun i => ts.length - i) 0 ⟨by omega, fun k hk => by omega⟩ (zU) (LSub.rfl) ?_
 rintro i ⟨hi, hv⟩
 refine J_seq (Jr (Jm rfl (Jm rfl (Js rfl (step_len_sl underlying35 Sr) (Js rfl (step_lss Sr Sr) ?_)))))
 refine JL_nil ?_
 refine J_cond Sr (fun h32 => ?_) (fun h32 => ?_)
 ·
  try simp only [NF] at h32
  have hlt : i < ts.length := by omega
  have hzi := hz _ (nth_mem hlt)
  refine J_skip (J_seq (J_block (J_seq (Jr (Jm rfl ?_)))))
  refine Jm rfl ?_
  refine Js rfl (step_indexAddr_sl (i := i) underlying35 ty38 Sr Sr (by rfl) (gb (by exact hlt))) ?_
  refine Jl rfl ty38 Sr (Js rfl (step_len_sl underlying38 Sr) (Jm rfl (Js rfl (step_gtr Sr Sr) (JL_nil ?_))))
  refine J_cond Sr (fun h41 => ?_) (fun h41 => ?_)
  ·
   try simp only [NF] at h41
   refine Jr (Ja rfl (JL_nil (J_ret ?_)))
   refine K_ret1 (t := 8) rfl () ?_
   refine Sub.bool ?_
   have : rowsOk m (nth ts i) = false := by unfold rowsOk; simp [show ¬ ((nth ts i).length : Int) ≤ m by omega]
   simp [smallM, all_f hlt this]
  try simp only [NF] at h41
  refine J_skip (Jr (Ja rfl (JL_nil (J_block ?_))))
  refine J_loopL (σ := Nat) (fun k => k ≤ (nth ts i).length ∧ ∀ j, j < k → decide ((nth (nth ts i) j).length ≤ 20) = true) (fun k => upd (upd (upd (upd env0 2 (tSl (rSl (rSl rValue)) ts)) 3 (tV (.int .i64 m))) 9 (tV (.int .i64 i))) 10 (tV (.int .i64 k))) (fun k => []) (fun k => (nth ts i).length - k) 0 ⟨by omega, fun j hj => by omega⟩ (zU) (LSub.rfl) ?_
  rintro k ⟨hk, hw⟩
  refine J_seq (Jr (Jm rfl (Jm rfl (Jm rfl ?_))))
  refine Js rfl (step_indexAddr_sl (i := i) underlying35 ty38 Sr Sr (by rfl) (gb (by exact hlt))) ?_
  refine Jl rfl ty38 Sr (Js rfl (step_len_sl underlying38 Sr) (Js rfl (step_lss Sr Sr) (JL_nil ?_)))
  refine J_cond Sr (fun h48 => ?_) (fun h48 => ?_)
  ·
   try simp only [NF] at h48
   have hkt : k < (nth ts i).length := by omega
   refine J_skip (J_seq (J_block (Jr (Jm rfl (Jm rfl ?_)))))
   refine Js rfl (step_indexAddr_sl (i := i) underlying35 ty38 Sr Sr (by rfl) (gb (by exact hlt))) ?_
   refine Jl rfl ty38 Sr (Jm rfl ?_)
   refine Js rfl (step_indexAddr_sl (i := k) underlying38 ty45 Sr Sr (by rfl) (gb (by exact hkt))) ?_
   refine Jl rfl ty45 Sr (Js rfl (step_len_sl underlying45 Sr) (Js rfl (step_gtr Sr Sr) (JL_nil ?_)))
   refine J_cond Sr (fun h59 => ?_) (fun h59 => ?_)
   ·
    try simp only [NF] at h59
    refine Jr (Ja rfl (JL_nil (J_ret ?_)))
    refine K_ret1 (t := 8) rfl () ?_
    refine Sub.bool ?_
    have h1 : ((nth ts i).all fun r => decide (r.length ≤ 20)) = false := all_f hkt (by rw [decide_eq_false_iff_not]; omega)
    have : rowsOk m (nth ts i) = false := by unfold rowsOk; rw [h1, Bool.and_false]
    simp [smallM, all_f hlt this]
   try simp only [NF] at h59
   refine J_skip (J_region (Jm rfl (Js rfl (step_add Sr Sr z6) (Ja rfl (JL_nil ?_)))))
   refine K_againL (σ := Nat) (s := k) (k + 1) zO ?_ (zU) (LSub.rfl)
   refine ⟨by omega, fun j hj => ?_⟩
   by_cases e : j = k
   ·
    rw [e, decide_eq_true_eq]; omega
   exact hw j zG
  try simp only [NF] at h48
  have hrt : ((nth ts i).all fun r => decide (r.length ≤ 20)) = true := all_t (fun j hj => hw j zG)
  refine J_exit (J_region (Jm rfl (Js rfl (step_add Sr Sr z6) (Ja rfl (JL_nil ?_)))))
  refine K_againL (σ := Nat) (s := i) (i + 1) zO ?_ (zU) (LSub.rfl)
  refine ⟨by omega, fun k hk => ?_⟩
  by_cases e : k = i
  ·
   rw [e]; unfold rowsOk; rw [hrt]; simp; omega
  exact hv k zG
 try simp only [NF] at h32
 have hall : ts.all (rowsOk m) = true := all_t (fun k hk => hv k zG)
 refine J_exit (Jr (Ja rfl (JL_nil (J_ret ?_))))
 refine K_ret1 (t := 8) rfl () ?_
 refine Sub.bool ?_
 simp [smallM, hb.1, hb.2.1, hb.2.2.1, hb.2.2.2, hall]
open Go Go.Proofs Go.Proofs.Tryz
/-! Equality of tests. -/
instance : DecidableEq GSide := fun a b => decidable_of_iff (a.Var = b.Var ∧ a.Col = b.Col ∧ a.Value = b.Value) ⟨fun ⟨h1, h2, h3⟩ => by cases a; cases b; simp_all, fun h => by subst h; exact ⟨rfl, rfl, rfl⟩⟩
instance : DecidableEq GTest := fun a b => decidable_of_iff (a.Left = b.Left ∧ a.Op = b.Op ∧ a.Right = b.Right ∧ a.Add = b.Add) ⟨fun ⟨h1, h2, h3, h4⟩ => by cases a; cases b; simp_all, fun h => by subst h; exact ⟨rfl, rfl, rfl, rfl⟩⟩
theorem val_cells {h : PH} {x : GValue} {cs : List Value} (r : rValue.rel h x cs) : cs = [.int .i64 x.Kind, .int .i64 x.N, .string x.Text] := by
  obtain ⟨c0, _, rfl, r0, c1, _, rfl, r1, c2, _, rfl, r2, rz⟩ := r
  have r0 : c0 = [.int .i64 x.Kind] := r0
  have r1 : c1 = [.int .i64 x.N] := r1
  have r2 : c2 = [.string x.Text] := r2
  subst r0 r1 r2; rw [show _ = [] from rz]; rfl
open Go
open Go.Sort (SWO SortedIn PermIn)
section
variable {β : Type} (R : Rp β)
/-- An element: its cell, its datum. -/
abbrev El (p : β → Prop) (h : PH) : Type := { q : Value × β // (R.ty q.2).p h q.1 ∧ p q.2 }
variable {R}
theorem El.of_relAll {p : β → Prop} {h : PH} (hR : R.agg = false) : ∀ {xs : List β} {cs : List Value}, (∀ x ∈ xs, p x) → relAll R h xs cs → ∃ ds : List (El R p h), ds.map (fun x => x.1.2) = xs ∧ ds.map (fun x => x.1.1) = cs
  | [], _, _, r => by cases r; exact ⟨[], rfl, rfl⟩
  | x :: xs, _, hp, ⟨c1, c2, e, r1, r2⟩ => by
    subst e
    obtain ⟨ds, h1, h2⟩ := El.of_relAll hR (fun x hx => hp x (by simp [hx])) r2
    have hl := R.len r1
    rw [R.scalar hR] at hl
    match c1, hl with
    | [v], _ =>
      have hv : (R.ty x).p h v := by have := R.pack r1; rw [hR] at this; exact this
      exact ⟨⟨(v, x), hv, hp x (by simp)⟩ :: ds, by simp [h1], by simp [h2]⟩
theorem El.relAll {p : β → Prop} {h : PH} (hR : R.agg = false) : ∀ (ds : List (El R p h)), Lg.relAll R h (ds.map fun x => x.1.2) (ds.map fun x => x.1.1)
  | [] => rfl
  | ⟨(v, x), hv, _⟩ :: ds => by
    refine ⟨[v], ds.map (fun x => x.1.1), rfl, ?_, El.relAll hR ds⟩
    obtain ⟨cs, r, e⟩ := R.iff.1 hv
    have hl := R.len r
    rw [R.scalar hR] at hl
    match cs, hl with
    | [u], _ =>
      simp only [packV, hR, Bool.false_eq_true, if_false, List.headD_cons] at e
      subst e; exact r
end
/-- slices.SortFunc, at elements of one cell, in own memory. -/
theorem sortFunc_spec {P : Program} {ρ : Shelf.Ren} (LL : Go.Proofs.SlLaysF.n6 P ρ) {β : Type} {R : Rp β} (hR : R.agg = false) (cf : β → β → Int) (hO : SWO (Go.Proofs.ltOf cf)) {gf e : Nat} (eg : ∀ args w, (callFunc gf args).run P w = .ok (.enter gf args) w)
    (p : β → Prop) (hc : ∀ x y, p x → p y → ∀ (u u' : Value) (h : PH) (W : World), h.inw W → (R.ty x).p h u → (R.ty y).p h u' → Calls P gf #[u, u'] W fun e' w' => e' = .returned (.int .i64 (cf x y)) ∧ ∃ q os, w' = Sort.grow (W.drewN q) os) (v : Value) (xs : List β) (hpx : ∀ x ∈ xs, p x) (hn : xs.length < 4611686018427387904) :
    Spec (X := { ys : List β // ys.Perm xs ∧ ys.Pairwise fun a b => Go.Proofs.ltOf cf b a = false }) P (ρ.f 6) [rV.ty v, tV (.func (.func gf) #[] #[])] [own e R v xs] (fun _ => tTup []) (fun ys => [own e R v ys.1]) := by
  intro vs h m r w ha sp st
  match vs, ha with
  | [u1, u2], ⟨a1, a2, _⟩ =>
  obtain ⟨e1, _⟩ := a1
  have e2 : u2 = .func (.func gf) #[] #[] := a2
  subst e1; subst e2
  obtain ⟨m1, m2, d12, rfl, ho, e3⟩ := st
  rw [stars_nil] at e3; subst e3
  rw [PH.join_emp] at sp
  have none_case : ∀ (p : Option Addr) (cap : Nat), u1 = .slice p 0 cap → xs = [] → Calls P (ρ.f 6) [u1, .func (.func gf) #[] #[]].toArray w (Ret (X := { ys : List β // ys.Perm xs ∧ ys.Pairwise fun a b => Go.Proofs.ltOf cf b a = false }) h w r (fun _ => tTup []) (fun ys => [own e R u1 ys.1])) := by
    intro p cap hu hx
    subst hu; subst hx
    refine (Go.Proofs.AnyF.slices_SortFunc_none (P := P) (ρ := ρ) { LL with } p cap _ w).mono ?_
    rintro e' w' ⟨rfl, rfl⟩
    refine ⟨⟨[], List.Perm.refl _, List.Pairwise.nil⟩, _, h, m1, rfl, HL.refl, sp, ⟨m1, PH.emp, PH.disj_emp _, (PH.join_emp _).symm, ho, rfl⟩, ⟨[], rfl, trivial⟩⟩
  rcases ho with ⟨rfl, rfl, rfl⟩ | ⟨g, cap, cur, rfl, rfl, hl, hm, hs, hr⟩
  · exact none_case none 0 rfl rfl
  · by_cases hx : xs = []
    · subst hx; exact none_case _ cap rfl rfl
    · obtain ⟨ds, hd1, hd2⟩ := El.of_relAll (p := p) hR hpx hr
      have hk := R.scalar hR
      rw [hk, Nat.mul_one] at hd2 hs
      have hlen : ds.length = xs.length := by rw [← hd1]; simp
      have hne : ds ≠ [] := fun q => hx (by rw [← hd1, q]; rfl)
      haveI : Inhabited (El R p h) := ⟨ds.head hne⟩
      have hb := sp.mw g _ (PH.one_same _ _)
      have hgh : h g = none := PH.disj_one_iff.1 sp.hm
      have hget : ∀ j, j < ds.toArray.size → cur[j]? = some (ds.toArray[j]!).1.1 := fun j hj => by
        have hj' : j < ds.length := by simpa using hj
        have : (cur.toList.take xs.length)[j]? = some (ds[j]).1.1 := by rw [← hd2]; simp [hj']
        rw [List.getElem?_take, if_pos (by omega)] at this
        rw [getElem!_pos _ j hj]
        simpa using this
      have hH : Sort.Holds (fun x : El R p h => x.1.1) w g 0 ds.toArray := fun j hj => ⟨by
        rw [Nat.zero_add]; simp only [World.cell?, hb]
        exact hget j hj, by simp [World.frozen?, hb]⟩
      have hcell : ∀ x : El R p h, x.1.1.oneCell' = true := fun x => by
        obtain ⟨cs, rx, ex⟩ := R.iff.1 x.2.1
        have hlx := R.len rx
        rw [hk] at hlx
        match cs, hlx with
        | [u], _ => simp only [packV, hR, Bool.false_eq_true, if_false, List.headD_cons] at ex; rw [ex]; exact R.one rx u (by simp)
      have hblk : g < w.heap.size := (Array.getElem?_eq_some_iff.1 hb).1
      have hcmp : Go.Proofs.CmpLays1 P gf #[] (fun x : El R p h => x.1.1) (fun x y => cf x.1.2 y.1.2) g 0 ds.toArray.size w := by
        intro n os dk hdk x y
        have hw : h.inw (Go.Proofs.sortWorld (fun x : El R p h => x.1.1) w g 0 n dk os) := fun b o eb => by
          have hne' : b ≠ g := fun q => by rw [q, hgh] at eb; cases eb
          rw [sortWorld_other (PH.inw_lt sp.hw eb) hne']; exact sp.hw b o eb
        refine (hc x.1.2 y.1.2 x.2.2 y.2.2 x.1.1 y.1.1 h _ hw x.2.1 y.2.1).mono ?_
        rintro e' w' ⟨he, q, os', hq⟩
        exact ⟨he, q, os', hq⟩
      have hO' : SWO (Go.Proofs.ltOf fun x y : El R p h => cf x.1.2 y.1.2) := ⟨fun x => hO.irrefl _, fun x y z => hO.trans _ _ _, fun x y z => hO.ntrans _ _ _⟩
      have hS := Go.Proofs.Any.slices_SortFunc LL (fun x : El R p h => x.1.1) hcell (fun x y => cf x.1.2 y.1.2) hO' gf #[] g 0 cap ds.toArray w eg hcmp hH hblk (by simpa [hlen] using hn)
      have hsz : ds.toArray.size = xs.length := by simp [hlen]
      rw [hsz] at hS
      refine hS.mono ?_
      rintro e' w' ⟨rfl, d', n, os, ⟨p1, _, p3⟩, hso, rfl⟩
      have hd's : d'.size = xs.length := by rw [p1, hsz]
      have hperm : d'.toList.Perm ds := by
        have q1 : (d'.extract 0 xs.length) = d' := by rw [← hd's]; simp
        have q2 : (ds.toArray.extract 0 xs.length) = ds.toArray := by rw [← hsz]; simp
        rw [q1, q2] at p3
        simpa using p3
      have hcur : (Sort.putCells (fun x : El R p h => x.1.1) 0 d' cur).toList.take xs.length = d'.toList.map (fun x => x.1.1) := by
        apply List.ext_getElem?
        intro j
        rw [List.getElem?_take]
        split
        · rename_i hj
          have hjc : j < cur.size := by omega
          have hjd : j < d'.size := by omega
          simp [Sort.putCells, hjc, hjd, hj, hd's]
        · rw [List.getElem?_eq_none (by simp; omega)]
      refine ⟨⟨d'.toList.map (fun x => x.1.2), ?_, ?_⟩, _, h, PH.one g (.cells (Sort.putCells (fun x : El R p h => x.1.1) 0 d' cur) e (0, 0)), rfl, HL.same ⟨rfl, rfl, rfl⟩, ?_, ⟨_, PH.emp, PH.disj_emp _, (PH.join_emp _).symm, .inr ⟨g, cap, _, by simp [hd's], rfl, by simpa [hd's] using hl, hm, ?_, ?_⟩, rfl⟩, ⟨[], rfl, trivial⟩⟩
      · have := hperm.map (fun x : El R p h => x.1.2)
        rw [hd1] at this; exact this
      · rw [List.pairwise_map]
        rw [List.pairwise_iff_getElem]
        intro i j hi hj hij
        have hi' : i < d'.size := by simpa using hi
        have hj' : j < d'.size := by simpa using hj
        have := hso i j (by omega) hij (by omega)
        rw [getElem!_pos d' i hi', getElem!_pos d' j hj'] at this
        simp only [Array.getElem_toList]
        exact this
      · have sp' : Sep h ((PH.one g (.cells cur e (0, 0))).join PH.emp) r w := by rw [PH.join_emp]; exact sp
        have := Sep.write (o' := .cells (Sort.putCells (fun x : El R p h => x.1.1) 0 d' cur) e (0, 0)) (PH.disj_emp _) sp' (fun b hne' hb' => sortWorld_other (enc := fun x : El R p h => x.1.1) (off := 0) (m := n) (dk := d') (os := os) hb' hne') (sortWorld_row hb)
        rw [PH.join_emp] at this; exact this
      · simp [Sort.putCells, hs, hk]
      · have e5 : (d'.toList.map (fun x : El R p h => x.1.2)).length = xs.length := by simp [hd's]
        rw [e5, hk, Nat.mul_one, hcur]
        exact El.relAll hR d'.toList
open Go Go.Proofs Go.Proofs.Tryz
open Go.Sort (SWO)
theorem bytesLess_iff : ∀ (a b : List UInt8), Op.bytesLess a b = true ↔ a < b
  | [], [] => by simp [Op.bytesLess]
  | [], _ :: _ => by simp [Op.bytesLess]
  | _ :: _, [] => by simp [Op.bytesLess]
  | a :: ra, b :: rb => by
    have ih := bytesLess_iff ra rb
    simp only [Op.bytesLess, List.cons_lt_cons_iff]
    by_cases h1 : a < b
    · simp [h1]
    · by_cases h2 : b < a
      · have : a ≠ b := fun e => by subst e; exact h1 h2
        simp [h1, h2, this]
      · have : a = b := UInt8.le_antisymm (UInt8.not_lt.1 h2) (UInt8.not_lt.1 h1)
        subst this
        simp [h1, ih]
/-- A comparison that tells before, same, behind. -/
structure Cmp3 {α : Type} (c : α → α → Int) : Prop where
  eq : ∀ {a b}, c a b = 0 ↔ a = b
  anti : ∀ {a b}, c a b < 0 ↔ 0 < c b a
  tr : ∀ {a b d}, c a b < 0 → c b d < 0 → c a d < 0
theorem Cmp3.swo {α : Type} {c : α → α → Int} (h : Cmp3 c) : SWO (Go.Proofs.ltOf c) where
  irrefl x := by
    have : c x x = 0 := h.eq.2 rfl
    unfold Go.Proofs.ltOf; rw [this]; rfl
  trans x y z h1 h2 := by
    unfold Go.Proofs.ltOf at *
    simp only [decide_eq_true_eq] at *
    exact h.tr h1 h2
  ntrans x y z h1 h2 := by
    unfold Go.Proofs.ltOf at *
    simp only [decide_eq_false_iff_not] at *
    intro h3
    by_cases h4 : c y x < 0
    · exact h2 (h.tr h4 h3)
    · have : c x y = 0 := by
        have := h.anti (a := y) (b := x)
        omega
      have := h.eq.1 this
      subst this
      exact h2 h3
def ordI (a b : Int) : Int := if a < b then -1 else if b < a then 1 else 0
def ordS (a b : ByteArray) : Int := if ofB a < ofB b then -1 else if ofB b < ofB a then 1 else 0
def cmpV (a b : GValue) : Int := if ordI a.Kind b.Kind ≠ 0 then ordI a.Kind b.Kind else if ordI a.N b.N ≠ 0 then ordI a.N b.N else ordS a.Text b.Text
def cmpR : List GValue → List GValue → Int
  | [], [] => 0
  | [], _ :: _ => -1
  | _ :: _, [] => 1
  | a :: x, b :: y => if cmpV a b ≠ 0 then cmpV a b else cmpR x y
theorem c3_I : Cmp3 ordI where
  eq := by intro a b; unfold ordI; split; omega; split <;> omega
  anti := by intro a b; unfold ordI; by_cases h1 : a < b <;> by_cases h2 : b < a <;> simp [h1, h2] <;> omega
  tr := by
    intro a b d h1 h2
    unfold ordI at *
    split at h1
    · split at h2
      · rw [if_pos (by omega)]; omega
      · split at h2 <;> omega
    · split at h1 <;> omega
theorem ofB_inj' {x y : ByteArray} (h : ofB x = ofB y) : x = y := by rw [← toB_ofB x, h, toB_ofB]
theorem c3_S : Cmp3 ordS where
  eq := by
    intro a b
    unfold ordS
    constructor
    · intro h
      split at h
      · omega
      · rename_i h1
        split at h
        · omega
        · rename_i h2
          exact ofB_inj' (List.le_antisymm (List.not_lt.1 h2) (List.not_lt.1 h1))
    · rintro rfl
      rw [if_neg (List.lt_irrefl _), if_neg (List.lt_irrefl _)]
  anti := by
    intro a b
    unfold ordS
    by_cases h : ofB a < ofB b
    · have h2 : ¬ ofB b < ofB a := fun q => List.lt_irrefl _ (List.lt_trans h q)
      simp [h, h2]
    · by_cases h2 : ofB b < ofB a <;> simp [h, h2]
  tr := by
    intro a b d h1 h2
    unfold ordS at *
    have h1 : ofB a < ofB b := by
      split at h1
      · assumption
      · split at h1 <;> omega
    have h2 : ofB b < ofB d := by
      split at h2
      · assumption
      · split at h2 <;> omega
    rw [if_pos (List.lt_trans h1 h2)]; omega
theorem Cmp3.lex {α β γ : Type} {c : α → α → Int} {e : β → β → Int} (hc : Cmp3 c) (he : Cmp3 e) (f : γ → α) (g : γ → β) (hi : ∀ x y, f x = f y → g x = g y → x = y) : Cmp3 fun x y => if c (f x) (f y) ≠ 0 then c (f x) (f y) else e (g x) (g y) where
  eq := by
    intro a b
    have h1 := hc.eq (a := f a) (b := f b)
    have h2 := he.eq (a := g a) (b := g b)
    try dsimp only
    constructor
    · intro h
      split at h
      · omega
      · exact hi _ _ (h1.1 (by omega)) (h2.1 h)
    · rintro rfl
      rw [if_neg (by rw [h1.2 rfl]; simp)]
      exact h2.2 rfl
  anti := by
    intro a b
    have h1 := hc.anti (a := f a) (b := f b)
    have h1' := hc.anti (a := f b) (b := f a)
    have h2 := he.anti (a := g a) (b := g b)
    try dsimp only
    split <;> split <;> omega
  tr := by
    intro a b d h1 h2
    try dsimp only at *
    have e1 := hc.eq (a := f a) (b := f b)
    have e2 := hc.eq (a := f b) (b := f d)
    split at h1
    · split at h2
      · have := hc.tr h1 h2
        rw [if_pos (by omega)]; exact this
      · rw [← e2.1 (by omega)]
        rw [if_pos (by assumption)]; exact h1
    · split at h2
      · rw [e1.1 (by omega), if_pos (by assumption)]; exact h2
      · have q1 := e1.1 (by omega)
        have q2 := e2.1 (by omega)
        rw [if_neg (by rw [q1, q2, hc.eq.2 rfl]; simp)]
        exact he.tr h1 h2
theorem c3_V : Cmp3 cmpV := by
  have h := Cmp3.lex c3_I c3_S (fun v : { v : Int × ByteArray // True } => v.1.1) (fun v => v.1.2) (fun x y h1 h2 => Subtype.ext (Prod.ext h1 h2))
  exact Cmp3.lex c3_I h (fun v : GValue => v.Kind) (fun v => (⟨(v.N, v.Text), trivial⟩ : { v : Int × ByteArray // True })) (fun x y h1 h2 => by
    have h3 := congrArg (fun v => v.1.1) h2
    have h4 := congrArg (fun v => v.1.2) h2
    cases x; cases y; simp_all)
theorem c3_R : Cmp3 cmpR := by
  have e : ∀ a b : List GValue, cmpR a b = 0 ↔ a = b := by
    intro a
    induction a with
    | nil => intro b; cases b <;> simp [cmpR]
    | cons x a ih =>
      intro b
      cases b with
      | nil => simp [cmpR]
      | cons y b =>
        have h1 := c3_V.eq (a := x) (b := y)
        have h2 := ih b
        simp only [cmpR, List.cons.injEq]
        split <;> simp_all
  have n : ∀ a b : List GValue, cmpR a b < 0 ↔ 0 < cmpR b a := by
    intro a
    induction a with
    | nil => intro b; cases b <;> simp [cmpR]
    | cons x a ih =>
      intro b
      cases b with
      | nil => simp [cmpR]
      | cons y b =>
        have h1 := c3_V.anti (a := x) (b := y)
        have h1' := c3_V.anti (a := y) (b := x)
        have h2 := ih b
        simp only [cmpR]
        split <;> split <;> omega
  refine ⟨e _ _, n _ _, ?_⟩
  intro a
  induction a with
  | nil =>
    intro b d h1 h2
    cases b with
    | nil => simp [cmpR] at h1
    | cons y b =>
      cases d with
      | nil => simp [cmpR] at h2
      | cons z d => simp [cmpR]
  | cons x a ih =>
    intro b d h1 h2
    cases b with
    | nil => simp [cmpR] at h1
    | cons y b =>
      cases d with
      | nil => simp [cmpR] at h2
      | cons z d =>
        simp only [cmpR] at *
        have e1 := c3_V.eq (a := x) (b := y)
        have e2 := c3_V.eq (a := y) (b := z)
        split at h1
        · split at h2
          · have := c3_V.tr h1 h2
            rw [if_pos (by omega)]; exact this
          · rw [← e2.1 (by omega)]
            rw [if_pos (by assumption)]; exact h1
        · split at h2
          · rw [e1.1 (by omega), if_pos (by assumption)]; exact h2
          · have q1 := e1.1 (by omega)
            have q2 := e2.1 (by omega)
            rw [if_neg (by rw [q1, q2, c3_V.eq.2 rfl]; simp)]
            exact ih h1 h2
end Lg
namespace Go.Proofs
open Go.Shelf
def Tryz.sortVK_ren : Go.Shelf.Ren := ⟨fun | 6 => 55 | 15 => 108 | 14 => 107 | 28 => 154 | 29 => 155 | 20 => 146 | 21 => 147 | 22 => 148 | 23 => 149 | 24 => 150 | 25 => 151 | 26 => 152 | 27 => 153 | 46 => 179 | 47 => 180 | 48 => 181 | 49 => 182 | 50 => 183 | 57 => 200 | n => n, fun | 22 => 38 | 24 => 45 | 25 => 113 | 3 => 3 | 39 => 157 | 0 => 0 | 53 => 199 | 55 => 201 | 4 => 4 | 46 => 193 | 45 => 192 | 50 => 145 | 5 => 5 | 9 => 9 | 66 => 221 | 70 => 225 | 76 => 252 | 77 => 253 | n => n, fun | n => n⟩
theorem Tryz.sortVK : Go.Proofs.SlLaysF.n6 Tryz.prog Tryz.sortVK_ren := {
  mixed := by kernel_rfl
  f6 := ⟨Tryz.f55.name, by decide, Tryz.func55.trans (congrArg some (by kernel_rfl))⟩
  f14 := ⟨Tryz.f107.name, by decide, Tryz.func107.trans (congrArg some (by kernel_rfl))⟩
  f15 := Tryz.func108.trans (congrArg some (by kernel_rfl))
  f20 := ⟨Tryz.f146.name, by decide, Tryz.func146.trans (congrArg some (by kernel_rfl))⟩
  f21 := ⟨Tryz.f147.name, by decide, Tryz.func147.trans (congrArg some (by kernel_rfl))⟩
  f22 := ⟨Tryz.f148.name, by decide, Tryz.func148.trans (congrArg some (by kernel_rfl))⟩
  f23 := ⟨Tryz.f149.name, by decide, Tryz.func149.trans (congrArg some (by kernel_rfl))⟩
  f24 := ⟨Tryz.f150.name, by decide, Tryz.func150.trans (congrArg some (by kernel_rfl))⟩
  f25 := ⟨Tryz.f151.name, by decide, Tryz.func151.trans (congrArg some (by kernel_rfl))⟩
  f26 := ⟨Tryz.f152.name, by decide, Tryz.func152.trans (congrArg some (by kernel_rfl))⟩
  f27 := ⟨Tryz.f153.name, by decide, Tryz.func153.trans (congrArg some (by kernel_rfl))⟩
  f28 := Tryz.func154.trans (congrArg some (by kernel_rfl))
  f29 := Tryz.func155.trans (congrArg some (by kernel_rfl))
  f46 := ⟨Tryz.f179.name, by decide, Tryz.func179.trans (congrArg some (by kernel_rfl))⟩
  f47 := Tryz.func180.trans (congrArg some (by kernel_rfl))
  f48 := Tryz.func181.trans (congrArg some (by kernel_rfl))
  f49 := ⟨Tryz.f182.name, by decide, Tryz.func182.trans (congrArg some (by kernel_rfl))⟩
  f50 := ⟨Tryz.f183.name, by decide, Tryz.func183.trans (congrArg some (by kernel_rfl))⟩
  f57 := ⟨Tryz.f200.name, by decide, Tryz.func200.trans (congrArg some (by kernel_rfl))⟩
  t0 := Tryz.underlying0
  a0 := Tryz.isAgg0
  z0 := Tryz.sizeOf0
  v0 := Tryz.zeroValue0
  t3 := Tryz.underlying3
  a3 := Tryz.isAgg3
  z3 := Tryz.sizeOf3
  v3 := Tryz.zeroValue3
  t4 := Tryz.underlying4
  a4 := Tryz.isAgg4
  z4 := Tryz.sizeOf4
  v4 := Tryz.zeroValue4
  t5 := Tryz.underlying5
  a5 := Tryz.isAgg5
  z5 := Tryz.sizeOf5
  v5 := Tryz.zeroValue5
  t9 := Tryz.underlying9
  a9 := Tryz.isAgg9
  z9 := Tryz.sizeOf9
  v9 := Tryz.zeroValue9
  t22 := Tryz.underlying38
  a22 := Tryz.isAgg38
  z22 := Tryz.sizeOf38
  v22 := Tryz.zeroValue38
  a24 := Tryz.isAgg45
  z24 := Tryz.sizeOf45
  t25 := Tryz.underlying113
  a25 := Tryz.isAgg113
  z25 := Tryz.sizeOf113
  v25 := Tryz.zeroValue113
  t39 := Tryz.underlying157
  a39 := Tryz.isAgg157
  z39 := Tryz.sizeOf157
  v39 := Tryz.zeroValue157
  t45 := Tryz.underlying192
  a45 := Tryz.isAgg192
  z45 := Tryz.sizeOf192
  v45 := Tryz.zeroValue192
  t46 := Tryz.underlying193
  a46 := Tryz.isAgg193
  z46 := Tryz.sizeOf193
  v46 := Tryz.zeroValue193
  t50 := Tryz.underlying145
  a50 := Tryz.isAgg145
  z50 := Tryz.sizeOf145
  v50 := Tryz.zeroValue145
  t53 := Tryz.underlying199
  a53 := Tryz.isAgg199
  z53 := Tryz.sizeOf199
  v53 := Tryz.zeroValue199
  t55 := Tryz.underlying201
  a55 := Tryz.isAgg201
  z55 := Tryz.sizeOf201
  v55 := Tryz.zeroValue201
  t66 := Tryz.underlying221
  a66 := Tryz.isAgg221
  z66 := Tryz.sizeOf221
  v66 := Tryz.zeroValue221
  t70 := Tryz.underlying225
  a70 := Tryz.isAgg225
  z70 := Tryz.sizeOf225
  v70 := Tryz.zeroValue225
  t76 := Tryz.underlying252
  a76 := Tryz.isAgg252
  z76 := Tryz.sizeOf252
  v76 := Tryz.zeroValue252
  t77 := Tryz.underlying253
  a77 := Tryz.isAgg253
  z77 := Tryz.sizeOf253
  v77 := Tryz.zeroValue253 }
end Go.Proofs
namespace Go.Proofs
open Go.Lib Go.Sort
theorem vOrdI (x y : Int) (w : World) : Calls Tryz.prog 110 #[.int .i64 x, .int .i64 y] w fun e w' => e = .returned (.int .i64 (Lg.ordI x y)) ∧ w' = w := by
  go_enter Tryz.func110, Tryz.ntmps110
  by_cases h1 : x < y
  · go_wp2
    go_ret
    exact ⟨by simp [Lg.ordI, h1], rfl⟩
  · by_cases h2 : y < x
    · go_wp2
      go_ret
      exact ⟨by simp [Lg.ordI, h1, h2], rfl⟩
    · go_wp2
      go_ret
      exact ⟨by rw [Lg.ordI, if_neg (by omega), if_neg (by omega)]; rfl, rfl⟩
theorem vOrdS (x y : ByteArray) (w : World) : Calls Tryz.prog 156 #[.string x, .string y] w fun e w' => e = .returned (.int .i64 (Lg.ordS x y)) ∧ w' = w := by
  have e1 : Op.bytesLess x.toList y.toList = decide (Lg.ofB x < Lg.ofB y) := by
    rw [Bool.eq_iff_iff, Lg.bytesLess_iff, ByteArray.toList_eq, ByteArray.toList_eq, decide_eq_true_eq]
  have e2 : (x.toList == y.toList) = decide (x = y) := Lg.toL_eq x y
  have e3 : (!(Op.bytesLess x.toList y.toList || x.toList == y.toList)) = decide (Lg.ofB y < Lg.ofB x) := by
    rw [e1, e2]
    by_cases h1 : Lg.ofB x < Lg.ofB y
    · have : ¬ Lg.ofB y < Lg.ofB x := fun q => List.lt_irrefl _ (List.lt_trans h1 q)
      simp [h1, this]
    · by_cases h2 : Lg.ofB y < Lg.ofB x
      · have hne : ¬ x = y := fun e => by rw [e] at h2; exact List.lt_irrefl _ h2
        simp [h1, h2, hne]
      · have he : x = y := Lg.ofB_inj' (List.le_antisymm (List.not_lt.1 h2) (List.not_lt.1 h1))
        simp [h1, h2, he]
  have e4 : Lg.ordS x y = if Op.bytesLess x.toList y.toList then -1 else if (!(Op.bytesLess x.toList y.toList || x.toList == y.toList)) then 1 else 0 := by
    rw [e3, e1]; unfold Lg.ordS; simp only [decide_eq_true_eq]
  rw [e4]
  clear e1 e2 e3 e4
  have hg : ∀ w : World, (binOp .gtr 9 (.string x) (.string y)).run Tryz.prog w = .ok (.bool (!(Op.bytesLess x.toList y.toList || x.toList == y.toList))) w := fun w => by simp [binOp, Op.stringOp]
  go_enter Tryz.func156, Tryz.ntmps156
  by_cases h1 : Op.bytesLess x.toList y.toList = true
  · go_wp2
    go_ret
    exact ⟨by simp [h1], rfl⟩
  · have h1 : Op.bytesLess x.toList y.toList = false := by simpa using h1
    generalize hq : (!(Op.bytesLess x.toList y.toList || x.toList == y.toList)) = q at hg ⊢
    cases q
    · go_wp2
      go_ret
      exact ⟨by simp [h1], rfl⟩
    · go_wp2
      go_ret
      exact ⟨by simp [h1], rfl⟩
theorem vCmp (a b : Lg.GValue) (w : World) : Calls Tryz.prog 109 #[Lg.kvV a, Lg.kvV b] w fun e w' => e = .returned (.int .i64 (Lg.cmpV a b)) ∧ ∃ q os, w' = grow (w.drewN q) os := by
  obtain ⟨ak, an, at'⟩ := a
  obtain ⟨bk, bn, bt⟩ := b
  have hA := vOrdI ak bk
  have hB := vOrdI an bn
  have hC := vOrdS at' bt
  have hV : Lg.cmpV ⟨ak, an, at'⟩ ⟨bk, bn, bt⟩ = if Lg.ordI ak bk ≠ 0 then Lg.ordI ak bk else if Lg.ordI an bn ≠ 0 then Lg.ordI an bn else Lg.ordS at' bt := rfl
  rw [hV]
  generalize Lg.ordI ak bk = x at hA ⊢
  generalize Lg.ordI an bn = y at hB ⊢
  generalize Lg.ordS at' bt = z at hC ⊢
  have hend : ((w.alloc (Obj.cells #[Value.int IntKind.i64 ak, Value.int IntKind.i64 an, Value.string at'] 62)).alloc (Obj.cells #[Value.int IntKind.i64 bk, Value.int IntKind.i64 bn, Value.string bt] 62)) = grow (w.drewN 0) #[Obj.cells #[Value.int IntKind.i64 ak, Value.int IntKind.i64 an, Value.string at'] 62, Obj.cells #[Value.int IntKind.i64 bk, Value.int IntKind.i64 bn, Value.string bt] 62] := by
    show ({ w with heap := (w.heap.push _).push _ } : World) = { w with heap := w.heap ++ _ }
    congr 1
  have x0 : (grow (w.drewN 0) #[Obj.cells #[Value.int IntKind.i64 ak, Value.int IntKind.i64 an, Value.string at'] 62, Obj.cells #[Value.int IntKind.i64 bk, Value.int IntKind.i64 bn, Value.string bt] 62]).cell? ⟨w.heap.size, 0, none⟩ = some (.int .i64 ak) := by simp [Sort.grow, World.cell?, World.drewN]
  have x1 : (grow (w.drewN 0) #[Obj.cells #[Value.int IntKind.i64 ak, Value.int IntKind.i64 an, Value.string at'] 62, Obj.cells #[Value.int IntKind.i64 bk, Value.int IntKind.i64 bn, Value.string bt] 62]).cell? ⟨w.heap.size, 1, none⟩ = some (.int .i64 an) := by simp [Sort.grow, World.cell?, World.drewN]
  have x2 : (grow (w.drewN 0) #[Obj.cells #[Value.int IntKind.i64 ak, Value.int IntKind.i64 an, Value.string at'] 62, Obj.cells #[Value.int IntKind.i64 bk, Value.int IntKind.i64 bn, Value.string bt] 62]).cell? ⟨w.heap.size, 2, none⟩ = some (.string at') := by simp [Sort.grow, World.cell?, World.drewN]
  have y0 : (grow (w.drewN 0) #[Obj.cells #[Value.int IntKind.i64 ak, Value.int IntKind.i64 an, Value.string at'] 62, Obj.cells #[Value.int IntKind.i64 bk, Value.int IntKind.i64 bn, Value.string bt] 62]).cell? ⟨w.heap.size + 1, 0, none⟩ = some (.int .i64 bk) := by simp [Sort.grow, World.cell?, World.drewN]
  have y1 : (grow (w.drewN 0) #[Obj.cells #[Value.int IntKind.i64 ak, Value.int IntKind.i64 an, Value.string at'] 62, Obj.cells #[Value.int IntKind.i64 bk, Value.int IntKind.i64 bn, Value.string bt] 62]).cell? ⟨w.heap.size + 1, 1, none⟩ = some (.int .i64 bn) := by simp [Sort.grow, World.cell?, World.drewN]
  have y2 : (grow (w.drewN 0) #[Obj.cells #[Value.int IntKind.i64 ak, Value.int IntKind.i64 an, Value.string at'] 62, Obj.cells #[Value.int IntKind.i64 bk, Value.int IntKind.i64 bn, Value.string bt] 62]).cell? ⟨w.heap.size + 1, 2, none⟩ = some (.string bt) := by simp [Sort.grow, World.cell?, World.drewN]
  have hfin : ∃ q os, grow (w.drewN 0) #[Obj.cells #[Value.int IntKind.i64 ak, Value.int IntKind.i64 an, Value.string at'] 62, Obj.cells #[Value.int IntKind.i64 bk, Value.int IntKind.i64 bn, Value.string bt] 62] = grow (w.drewN q) os := ⟨0, _, rfl⟩
  generalize grow (w.drewN 0) #[Obj.cells #[Value.int IntKind.i64 ak, Value.int IntKind.i64 an, Value.string at'] 62, Obj.cells #[Value.int IntKind.i64 bk, Value.int IntKind.i64 bn, Value.string bt] 62] = W at hend x0 x1 x2 y0 y1 y2 hfin
  clear hV
  show Calls Tryz.prog 109 #[.agg #[.int .i64 ak, .int .i64 an, .string at'], .agg #[.int .i64 bk, .int .i64 bn, .string bt]] w _
  go_enter Tryz.func109, Tryz.ntmps109
  by_cases h1 : x = 0
  · subst h1
    by_cases h2 : y = 0
    · subst h2
      go_wp2_with (first | (go_at_call 110; with_reducible refine (hA _).mono ?_; rintro e w' ⟨rfl, hw⟩; rw [hw]) | (go_at_call 110; with_reducible refine (hB _).mono ?_; rintro e w' ⟨rfl, hw⟩; rw [hw]) | (go_at_call 156; with_reducible refine (hC _).mono ?_; rintro e w' ⟨rfl, hw⟩; rw [hw]))
      go_ret
      exact ⟨by simp, hfin⟩
    · go_wp2_with (first | (go_at_call 110; with_reducible refine (hA _).mono ?_; rintro e w' ⟨rfl, hw⟩; rw [hw]) | (go_at_call 110; with_reducible refine (hB _).mono ?_; rintro e w' ⟨rfl, hw⟩; rw [hw]))
      go_ret
      exact ⟨by simp [h2], hfin⟩
  · go_wp2_with (first | (go_at_call 110; with_reducible refine (hA _).mono ?_; rintro e w' ⟨rfl, hw⟩; rw [hw]))
    go_ret
    exact ⟨by simp [h1], hfin⟩
theorem cmpR_drop {a b : List Lg.GValue} {i : Nat} (ha : i < a.length) (hb : i < b.length) : Lg.cmpR (a.drop i) (b.drop i) = if Lg.cmpV (Lg.nth a i) (Lg.nth b i) ≠ 0 then Lg.cmpV (Lg.nth a i) (Lg.nth b i) else Lg.cmpR (a.drop (i + 1)) (b.drop (i + 1)) := by
  rw [List.drop_eq_getElem_cons ha, List.drop_eq_getElem_cons hb, Lg.nth_get ha, Lg.nth_get hb]; rfl
theorem cmpR_end {a b : List Lg.GValue} {i : Nat} (h : i = a.length ∨ i = b.length) (ha : i ≤ a.length) (hb : i ≤ b.length) : Lg.cmpR (a.drop i) (b.drop i) = Lg.ordI a.length b.length := by
  by_cases h1 : i = a.length
  · by_cases h2 : i = b.length
    · rw [List.drop_of_length_le (by omega), List.drop_of_length_le (by omega), show a.length = b.length by omega]
      simp [Lg.cmpR, Lg.ordI]
    · rw [List.drop_of_length_le (by omega), List.drop_eq_getElem_cons (by omega)]
      simp [Lg.cmpR, Lg.ordI]; omega
  · have h2 : i = b.length := by omega
    rw [List.drop_of_length_le (l := b) (by omega), List.drop_eq_getElem_cons (by omega)]
    simp only [Lg.cmpR, Lg.ordI]
    rw [if_neg (by omega), if_pos (by omega)]
theorem grow_of (w : World) (q n : Nat) (os os' : Array Obj) : grow ((grow (w.drewN q) os).drewN n) os' = grow (w.drewN (q + n)) (os ++ os') := by
  show grow (grow ((w.drewN q).drewN n) os) os' = _; rw [grow_grow, World.drewN_drewN]
/-- The cells of a value lie here. -/
def VCells (w : World) (b o : Nat) (v : Lg.GValue) : Prop := w.cell? ⟨b, o, none⟩ = some (.int .i64 v.Kind) ∧ w.cell? ⟨b, o + 1, none⟩ = some (.int .i64 v.N) ∧ w.cell? ⟨b, o + 2, none⟩ = some (.string v.Text)
theorem vRow (xs ys : List Lg.GValue) (a a' : Option Addr) (c c' : Nat) (w : World) (hbx : xs.length ≤ 4398046511104) (hby : ys.length ≤ 4398046511104)
    (hx : ∀ i, i < xs.length → ∃ b o, a = some ⟨b, o, none⟩ ∧ ∀ n os, VCells (grow (w.drewN n) os) b (o + i * 3) (Lg.nth xs i))
    (hy : ∀ i, i < ys.length → ∃ b o, a' = some ⟨b, o, none⟩ ∧ ∀ n os, VCells (grow (w.drewN n) os) b (o + i * 3) (Lg.nth ys i)) :
    Calls Tryz.prog 56 #[.slice a xs.length c, .slice a' ys.length c'] w fun e w' => e = .returned (.int .i64 (Lg.cmpR xs ys)) ∧ ∃ q os, w' = grow (w.drewN q) os := by
  have mixed : Tryz.prog.follows .mixedOrders = true := by kernel_rfl
  generalize hn : xs.length = n
  generalize hm : ys.length = m
  rw [hn] at hx hbx
  rw [hm] at hy hby
  have hlen := vOrdI n m
  have hz : ∀ {i : Nat}, i = n ∨ i = m → i ≤ n → i ≤ m → Lg.cmpR (xs.drop i) (ys.drop i) = Lg.ordI n m := fun h1 h2 h3 => by have := cmpR_end (a := xs) (b := ys) (by rw [hn, hm]; exact h1) (by omega) (by omega); rw [hn, hm] at this; exact this
  all_goals
    go_enter Tryz.func56, Tryz.ntmps56
    go_wp2
    go_loopg [5, 6, 12, 13, 14] (n + m) (fun gg _ _ s12 _ _ wr => ∃ (kk q : Nat) (os : Array Obj), kk ≤ n ∧ kk ≤ m ∧ n + m - kk ≤ gg ∧ s12 = .int .i64 kk ∧ wr = grow (w.drewN q) os ∧ Aside (Lg.cmpR xs ys = Lg.cmpR (xs.drop kk) (ys.drop kk)))
    case atStart => exact ⟨0, 0, #[], Nat.zero_le _, Nat.zero_le _, by omega, rfl, by rw [grow_empty]; rfl, rfl⟩
    case round =>
      obtain ⟨kk, q, os, hk1, hk2, hg, rfl, rfl, A⟩ := hrel
      by_cases h1 : kk < n ∧ kk < m
      · obtain ⟨h1, h2⟩ := h1
        obtain ⟨b, o, ea, gx⟩ := hx kk h1
        obtain ⟨b', o', ea', gy⟩ := hy kk h2
        have hd : Lg.cmpR (xs.drop kk) (ys.drop kk) = _ := cmpR_drop (a := xs) (b := ys) (i := kk) (by omega) (by omega)
        clear hx hy
        subst ea; subst ea'
        have gx : ∀ n' os', VCells (grow ((grow (w.drewN q) os).drewN n') os') b (o + kk * 3) (Lg.nth xs kk) := fun n' os' => by rw [grow_of]; exact gx _ _
        have gy : ∀ n' os', VCells (grow ((grow (w.drewN q) os).drewN n') os') b' (o' + kk * 3) (Lg.nth ys kk) := fun n' os' => by rw [grow_of]; exact gy _ _
        generalize Lg.nth xs kk = x at gx hd
        generalize Lg.nth ys kk = y at gy hd
        have hc := vCmp x y
        obtain ⟨xk, xn, xt⟩ := x
        obtain ⟨yk, yn, yt⟩ := y
        have gx0 := fun n' os' => (gx n' os').1
        have gx1 := fun n' os' => (gx n' os').2.1
        have gx2 := fun n' os' => (gx n' os').2.2
        have gy0 := fun n' os' => (gy n' os').1
        have gy1 := fun n' os' => (gy n' os').2.1
        have gy2 := fun n' os' => (gy n' os').2.2
        clear gx gy
        simp only at gx0 gx1 gx2 gy0 gy1 gy2
        generalize hz0 : Lg.cmpV ⟨xk, xn, xt⟩ ⟨yk, yn, yt⟩ = z at hc hd
        have hc : ∀ W, Calls Tryz.prog 109 #[.agg #[.int .i64 xk, .int .i64 xn, .string xt], .agg #[.int .i64 yk, .int .i64 yn, .string yt]] W fun e w' => e = .returned (.int .i64 z) ∧ ∃ q os, w' = grow (W.drewN q) os := hc
        clear hz0
        generalize hwr : grow (w.drewN q) os = wr at gx0 gx1 gx2 gy0 gy1 gy2 ⊢
        go_wp2_with fail
        go_quiet_grown (first | (go_at_call 109; refine Calls.grown_of (hc _)))
        subst hwr
        rw [grow_of]
        clear gx0 gx1 gx2 gy0 gy1 gy2 hc hlen hz
        by_cases h0 : z = 0
        · rw [if_neg (by simpa using h0)] at hd
          subst h0
          go_wp2_with fail
          go_roundg (n + m - (kk + 1))
          case measure => omega
          case rel => exact ⟨kk + 1, _, _, by omega, by omega, by omega, by go_num, rfl, (show Aside _ from A.out.trans hd)⟩
        · rw [if_pos h0] at hd
          go_wp2_with fail
          go_ret
          exact ⟨by rw [A.out, hd]; rfl, _, _, rfl⟩
      · have hr := A.out.trans (hz (by omega) hk1 hk2)
        clear hx hy hz
        generalize Lg.ordI n m = z at hlen hr
        go_wp2_with (go_at_call 110; with_reducible refine (hlen _).mono ?_; rintro e w' ⟨rfl, hw⟩; rw [hw])
        go_ret
        exact ⟨by rw [hr]; rfl, _, _, rfl⟩
theorem inw_grow {h : Lg.PH} {W : World} (hw : h.inw W) (n : Nat) (os : Array Obj) : h.inw (grow (W.drewN n) os) := fun b o e => by
  have h1 := hw b o e
  have hlt := (Array.getElem?_eq_some_iff.1 h1).1
  show (W.heap ++ os)[b]? = some o
  rw [Array.getElem?_append_left hlt]; exact h1
theorem cmpR_calls (x y : List Lg.GValue) (hbx : x.length ≤ 4398046511104) (hby : y.length ≤ 4398046511104) (u u' : Value) (h : Lg.PH) (W : World) (hw : h.inw W) (hu : ((Lg.rSl Lg.rValue).ty x).p h u) (hu' : ((Lg.rSl Lg.rValue).ty y).p h u') :
    Calls Tryz.prog 56 #[u, u'] W fun e' w' => e' = .returned (.int .i64 (Lg.cmpR x y)) ∧ ∃ q os, w' = Sort.grow (W.drewN q) os := by
  have key : ∀ (l : List Lg.GValue) (ao : Option Addr), (l ≠ [] → ∃ b off, ao = some ⟨b, off, none⟩ ∧ ∀ (i : Nat) x, l[i]? = some x → ∃ cs, Lg.Holds h b (off + i * Lg.rValue.k) cs ∧ Lg.rValue.rel h x cs) → ∀ i, i < l.length → ∃ b o, ao = some ⟨b, o, none⟩ ∧ ∀ n os, VCells (grow (W.drewN n) os) b (o + i * 3) (Lg.nth l i) := by
    intro l ao H i hi
    obtain ⟨b, off, rfl, H'⟩ := H (fun e => by rw [e] at hi; exact absurd hi (Nat.not_lt_zero _))
    obtain ⟨cs, Hc, r⟩ := H' i _ (Lg.gb hi)
    have r := Lg.val_cells r
    subst r
    refine ⟨b, off, rfl, fun n os => ?_⟩
    have hg := inw_grow hw n os
    exact ⟨Hc.cell hg (i := 0) rfl, Hc.cell hg (i := 1) rfl, Hc.cell hg (i := 2) rfl⟩
  obtain ⟨ao, cap, rfl, H⟩ := hu
  obtain ⟨ao', cap', rfl, H'⟩ := hu'
  exact vRow x y ao ao' cap cap' W hbx hby (key x ao H) (key y ao' H')
end Go.Proofs
namespace Lg
open Go Go.Proofs Go.Proofs.Tryz
theorem SortRows_spec (v : Value) (xs : List (List GValue)) (hx : ∀ e ∈ xs, e.length ≤ 4398046511104) (hn : xs.length ≤ 1000000000) : Spec (X := { ys : List (List GValue) // ys.Perm xs ∧ ys.Pairwise fun a b => ¬ cmpR b a < 0 }) Tryz.prog 55 [rV.ty v, tV (.func (.func 56) #[] #[])] [own 45 (rSl rValue) v xs] (fun _ => tTup []) (fun ys => [own 45 (rSl rValue) v ys.1]) := by
  have h := sortFunc_spec (ρ := Tryz.sortVK_ren) Tryz.sortVK (R := rSl rValue) rfl cmpR c3_R.swo (gf := 56) (e := 45) Tryz.call56 (fun x => x.length ≤ 4398046511104) (fun x y hx hy u u' h W hw hu hu' => cmpR_calls x y hx hy u u' h W hw hu hu') v xs hx (by omega)
  intro vs h0 m r w ha sp st
  refine (h vs h0 m r w ha sp st).mono ?_
  rintro e w' ⟨⟨ys, hp, hs⟩, u, h', m', rfl, l, s, st', hu⟩
  exact ⟨⟨ys, hp, hs.imp fun {a b} q => by simpa [Go.Proofs.ltOf] using q⟩, u, h', m', rfl, l, s, st', hu⟩
open Go
section
variable {C : Cx} {E : Env} {L : List SP} {d : Option Nat} {ty : Nat} {pos : String} {af : Array Edge} {g : Option (Nat × Bool)}
theorem step_field {α : Type} {T n : Nat} {fs : List (SF α)} {x : Operand} {y : α} {f : SF α} (S : StructOf C.P T fs) (hx : Sub (opTy E x) ((rStruct fs).ty y)) (hf : fs[n]? = some f) :
    Step1 C ⟨d, .field T x n, ty, pos, af, g⟩ E L (f.R.ty (f.get y)) :=
  Step.of_same (by intro c h; cases h) fun a w h hw fr => by
    obtain ⟨cs, r, hv⟩ := fr.get hx
    have hv : a.eval x = .agg cs.toArray := hv
    obtain ⟨fls, hu, hl⟩ := S.lays
    obtain ⟨fl, h1, h2, h3, h4, h5⟩ := hl.get hf
    have h1' : fls[n]? = some fl := by simpa using h1
    rw [Nat.zero_add] at h3
    obtain ⟨c, rc, hc⟩ := SF.rel_field r hf
    have hcl := f.R.len rc
    refine ⟨packV f.R.agg c, ?_, f.R.pack rc⟩
    have hpt : (part fl.type cs.toArray fl.offset).run C.P w = .ok (packV f.R.agg c) w := by
      unfold part
      rw [h2, h3]
      have hbd : SF.off fs n + f.R.k ≤ cs.length := by
        have := hc (f.R.k - 1) (c[f.R.k - 1]'(by omega)) (List.getElem?_eq_getElem (by omega))
        have := (List.getElem?_eq_some_iff.1 this).1
        omega
      cases hg : f.R.agg with
      | true =>
        have he : cs.toArray.extract (SF.off fs n) (SF.off fs n + f.R.k) = c.toArray := by
          rw [List.extract_toArray]
          congr 1
          refine List.ext_getElem? fun i => ?_
          simp only [List.getElem?_take, List.getElem?_drop]
          by_cases hi : i < f.R.k
          · rw [if_pos (by omega), hc i (c[i]'(by omega)) (List.getElem?_eq_getElem (by omega)), List.getElem?_eq_getElem (by omega)]
          · rw [if_neg (by omega), List.getElem?_eq_none (by omega)]
        have ha := h4.agg w
        rw [hg] at ha
        simp only [Sem.run_bind, ha, Result.andThen_ok, h4.size, if_true, packV]
        simp [he]
      | false =>
        have hk := f.R.scalar hg
        have ha := h4.agg w
        rw [hg] at ha
        match c, hcl, hc with
        | [u], _, hc =>
          have := hc 0 u rfl
          simp only [Nat.add_zero] at this
          simp [Sem.run_bind, ha, packV, this]
        | [], hcl, _ => simp [hk] at hcl
        | _ :: _ :: _, hcl, _ => simp [hk] at hcl
    simp [execOp, Instr.field, hv, run_underlying hu, h1', asAgg, hpt]
end
open Go
/-- The slice value of all from k on. -/
def tailV (v : Value) (K k : Nat) : Value := match v with
  | .slice (some a) n c => .slice (some ⟨a.block, a.off + k * K, none⟩) (n - k) (c - k)
  | _ => undef
theorem run_clear_row {P : Program} {w : World} {t e ty : TypeId} {z : Value} (ht : P.underlying t = some (.slice e)) (hv : ∀ w, (zeroValue e).run P w = .ok z w) (hz : z.cells = #[z]) (h1 : z.oneCell' = true) {b o n c el : Nat} {cur : Array Value} (hn : 0 < n)
    (hb : w.heap[b]? = some (.cells cur el (0, 0))) (hl : o + n ≤ cur.size) :
    ∃ w', (Builtin.clear_ #[t] ty #[.slice (some ⟨b, o, none⟩) n c]).run P w = .ok (.tuple #[]) w' ∧ (∀ b', b' ≠ b → w'.heap[b']? = w.heap[b']?) ∧ Same w w' ∧
      w'.heap[b]? = some (.cells (cur.toList.take o ++ List.replicate n z ++ cur.toList.drop (o + n)).toArray el (0, 0)) := by
  have hzc : (Builtin.zeroCells z.cells n).toList = List.replicate n z := by
    rw [hz]
    simp [Builtin.zeroCells]
    apply List.ext_getElem
    · simp
    · intro i h1 h2
      simp [Nat.mod_one]
  have hst := run_storeCells_at P b o el (List.replicate n z) 0 cur w hb (by simpa using hl) (by intro v hv'; rw [List.eq_of_mem_replicate hv']; exact h1)
  simp only [Nat.add_zero, List.length_replicate] at hst
  refine ⟨_, ?_, fun b' hne => setRow_other w b b' _ hne, ⟨rfl, rfl, rfl⟩, setRow_heap w b cur _ el _ hb⟩
  obtain ⟨m, rfl⟩ : ∃ m, n = m + 1 := ⟨n - 1, by omega⟩
  simp [Builtin.clear_, run_underlying ht, hv, hzc, hst]
section
variable {C : Cx} {E : Env} {L : List SP} {d : Option Nat} {ty : Nat} {pos : String} {af : Array Edge} {g : Option (Nat × Bool)}
theorem step_tail {α : Type} {T e k : Nat} {R : Rp α} {x y : Operand} {v : Value} {xs : List α} {S : List SP} {i : Int} (hu : C.P.underlying T = some (.slice e)) (hR : TyOf C.P e R)
    (hx : Sub (opTy E x) (rV.ty v)) (hy : Sub (opTy E y) (tV (.int .i64 i))) (hi : i = k) (sel : Sel L [own e R v xs] S) (hn : k < xs.length) :
    Step1 C ⟨d, .slice T x (some y) none none, ty, pos, af, g⟩ E L (tV (tailV v R.k k)) :=
  Step.of_run (by intro c h; cases h) fun a w h m l sp st fr => by
    have hv : a.eval x = v := (fr.get hx).1
    have h2 : a.eval y = .int .i64 i := fr.get hy
    subst hi
    obtain ⟨m1, m2, d12, rfl, ho, s2⟩ := sel.one.1 st
    refine ⟨(), tailV v R.k k, w, h, _, ?_, HL.refl, sp, st, rfl⟩
    rcases ho with ⟨rfl, rfl, rfl⟩ | ⟨b, cap, cur, rfl, rfl, hl, hm, hs, r⟩
    · simp at hn
    · simp [execOp, Instr.sliceAt, run_underlying hu, hv, h2, Instr.slice, Instr.sliceBounds, Instr.sliceBound, asIntOf, hR.size, show k ≤ xs.length by omega, show k ≤ cap by omega, addr_add, tailV]
      intro q; exfalso; omega
theorem step_tail_len {α : Type} {T e k : Nat} {R : Rp α} {K : Nat} {x : Operand} {v : Value} {xs : List α} {S : List SP} (hu : C.P.underlying T = some (.slice e)) (hx : Sub (opTy E x) (tV (tailV v K k))) (sel : Sel L [own e R v xs] S) (hn : k < xs.length) :
    Step1 C ⟨d, .call { callee := .builtin .len, args := #[x], argTypes := #[T] }, ty, pos, af, g⟩ E L (tV (.int .i64 ((xs.length - k : Nat) : Int))) :=
  Step.of_run (by intro c h; cases h) fun a w h m l sp st fr => by
    have hv : a.eval x = tailV v K k := fr.get hx
    obtain ⟨m1, m2, d12, rfl, ho, s2⟩ := sel.one.1 st
    refine ⟨(), _, w, h, _, ?_, HL.refl, sp, st, rfl⟩
    rcases ho with ⟨rfl, rfl, rfl⟩ | ⟨b, cap, cur, rfl, rfl, hl, hm, hs, r⟩
    · simp at hn
    · simp [execOp, resolve, invoke, builtin, Builtin.len_, hv, run_underlying hu, goInt, tailV]
theorem step_tail_addr {α : Type} {R : Rp α} {T e k : Nat} {x ix : Operand} {v : Value} {xs : List α} {z : Int} {i : Nat} {S : List SP} (hu : C.P.underlying T = some (.slice e)) (hR : TyOf C.P e R)
    (hx : Sub (opTy E x) (tV (tailV v R.k k))) (sel : Sel L [own e R v xs] S) (hi : Sub (opTy E ix) (tV (.int .i64 z))) (hz : z = i) (hlt : k + i < xs.length) :
    Step1 C ⟨d, .indexAddr T x ix, ty, pos, af, g⟩ E L (tV (elemAt v R.k (k + i))) :=
  Step.of_run (by intro c h; cases h) fun a w h m l sp st fr => by
    have hv : a.eval x = tailV v R.k k := fr.get hx
    have h2 : a.eval ix = .int .i64 z := fr.get hi
    obtain ⟨m1, m2, d12, rfl, ho, s2⟩ := sel.one.1 st
    subst hz
    refine ⟨(), elemAt v R.k (k + i), w, h, _, ?_, HL.refl, sp, st, rfl⟩
    rcases ho with ⟨rfl, rfl, _⟩ | ⟨b, cap, _, rfl, _⟩
    · simp at hlt
    · have : k * R.k + i * R.k = (k + i) * R.k := (Nat.add_mul _ _ _).symm
      simp [execOp, Instr.indexAt, hv, h2, asIntOf, run_underlying hu, hR.size, show i < xs.length - k by omega, addr_add, elemAt, tailV, this]
/-- 'clear' at the tail. -/
theorem step_tail_clear {α : Type} {R : Rp α} {T e k : Nat} {x : Operand} {v : Value} {xs : List α} {z : α} {zv : Value} {S : List SP} (hu : C.P.underlying T = some (.slice e)) (hzv : ∀ w, (zeroValue e).run C.P w = .ok zv w) (hzc : zv.cells = #[zv]) (h1 : zv.oneCell' = true) (hR : R.k = 1) (hr : ∀ h, R.rel h z [zv])
    (hx : Sub (opTy E x) (tV (tailV v R.k k))) (sel : Sel L [own e R v xs] S) (hk : k < xs.length) :
    Step C ⟨d, .call { callee := .builtin .clear, args := #[x], argTypes := #[T] }, ty, pos, af, g⟩ E L (fun _ : Unit => tAny) (fun _ => own e R v (xs.take k ++ List.replicate (xs.length - k) z) :: S) :=
  Step.of_run (by intro c h; cases h) fun a w h m l sp st fr => by
    have hv : a.eval x = tailV v R.k k := fr.get hx
    obtain ⟨m1, m2, d12, rfl, ho, s2⟩ := sel.one.1 st
    rcases ho with ⟨rfl, rfl, _⟩ | ⟨b, cap, cur, rfl, rfl, hl, hm, hs, r⟩
    · simp at hk
    · have hb := sp.heap_own
      simp only [tailV, hR, Nat.mul_one, Nat.zero_add] at hv
      rw [hR, Nat.mul_one] at hs r
      obtain ⟨w', hrun, hoth, hsame, hnew⟩ := run_clear_row (P := C.P) (ty := ty) (c := cap - k) hu hzv hzc h1 (n := xs.length - k) (o := k) (by omega) hb (by omega)
      refine ⟨(), .tuple #[], w', h, (PH.one b _).join m2, ?_, HL.same hsame, Sep.write d12 sp (fun b' hne _ => hoth b' hne) hnew, ?_, trivial⟩
      · simp [execOp, resolve, invoke, builtin, hv, hrun]
      · have hcl : cur.toList.length = cap := by simpa using hs
        refine ⟨_, m2, PH.one_disj_iff.2 (PH.one_disj_iff.1 d12), rfl, .inr ⟨b, cap, _, ?_, rfl, ?_, hm, ?_, ?_⟩, s2⟩
        · simp only [List.length_append, List.length_take, List.length_replicate]
          rw [show min k xs.length + (xs.length - k) = xs.length by omega]
        · simp only [List.length_append, List.length_take, List.length_replicate]; omega
        · simp only [List.size_toArray, List.length_append, List.length_take, List.length_drop, List.length_replicate, hcl, hR]; omega
        · have e1 : (xs.take k ++ List.replicate (xs.length - k) z).length = xs.length := by simp only [List.length_append, List.length_take, List.length_replicate]; omega
          have e2 : (cur.toList.take k ++ List.replicate (xs.length - k) zv ++ cur.toList.drop (k + (xs.length - k))).take xs.length = cur.toList.take k ++ List.replicate (xs.length - k) zv := by
            refine List.take_left' ?_
            simp only [List.length_append, List.length_take, List.length_replicate, hcl]; omega
          rw [e1, hR, Nat.mul_one, e2]
          refine relAll_append ?_ ?_
          · have := relAll_take k r
            rwa [List.take_take, hR, Nat.mul_one, Nat.min_eq_left (by omega)] at this
          · have := relAll_replicate (hr h) (xs.length - k)
            rwa [show (List.replicate (xs.length - k) [zv]).flatten = List.replicate (xs.length - k) zv by simp] at this
end
open Go Go.Proofs Go.Proofs.Tryz
abbrev LV : Type := List GValue
/-- Without those that are the same as the one before. -/
def keepB (l : List LV) (i : Nat) : Bool := decide (i = 0) || !decide (nth l i = nth l (i - 1))
def compI (l : List LV) (n : Nat) : List LV := ((List.range n).filter (keepB l)).map (nth l)
theorem comp_succ {l : List LV} {n : Nat} : compI l (n + 1) = if keepB l n = true then compI l n ++ [nth l n] else compI l n := by
  unfold compI
  rw [List.range_succ, List.filter_append]
  split <;> simp [*]
theorem comp_len (l : List LV) (n : Nat) : (compI l n).length ≤ n := by
  unfold compI
  rw [List.length_map]
  exact Nat.le_trans (List.length_filter_le _ _) (by simp)
theorem comp_all {l : List LV} {n : Nat} (hn : n ≤ l.length) (h : ∀ j, j < n → 1 ≤ j → ¬ nth l j = nth l (j - 1)) : compI l n = l.take n := by
  induction n with
  | zero => simp [compI]
  | succ n ih =>
    have hk : keepB l n = true := by
      unfold keepB
      by_cases h0 : n = 0
      · simp [h0]
      · simp [h n (by omega) (by omega)]
    rw [comp_succ, if_pos hk, ih (by omega) (fun j hj => h j (by omega)), takeB (by omega)]
/-- A row that is being compacted: j have been looked at. -/
def compA (l : List LV) (j : Nat) : List LV := compI l j ++ l.drop (compI l j).length
theorem compA_len {l : List LV} {j : Nat} (h : j ≤ l.length) : (compA l j).length = l.length := by
  have := comp_len l j
  unfold compA
  rw [List.length_append, List.length_drop]; omega
theorem compA_nth {l : List LV} {j i : Nat} (h : (compI l j).length ≤ i) (hi : i < l.length) : nth (compA l j) i = nth l i := by
  have h1 : i < (compA l j).length := by unfold compA; rw [List.length_append, List.length_drop]; omega
  rw [nth_get h1, nth_get hi]
  have h2 : i < (compI l j ++ l.drop (compI l j).length).length := h1
  show (compI l j ++ l.drop (compI l j).length)[i]'h2 = _
  rw [List.getElem_append_right h]
  simp only [List.getElem_drop]
  congr 1; omega
theorem compA_set {l : List LV} {j : Nat} (hj : j < l.length) (hk : keepB l j = true) : (compA l j).set (compI l j).length (nth l j) = compA l (j + 1) := by
  have hc := comp_len l j
  unfold compA
  rw [comp_succ, if_pos hk, List.set_append_right _ _ (Nat.le_refl _), Nat.sub_self]
  have hd : l.drop (compI l j).length = nth l (compI l j).length :: l.drop ((compI l j).length + 1) := by rw [nth_get (by omega)]; exact List.drop_eq_getElem_cons (by omega)
  rw [hd]
  simp
theorem compA_keep {l : List LV} {j : Nat} (hk : keepB l j = false) : compA l j = compA l (j + 1) := by
  unfold compA
  rw [comp_succ, if_neg (by rw [hk]; simp)]
theorem compI_keep {l : List LV} {j : Nat} (hk : keepB l j = false) : compI l (j + 1) = compI l j := by
  rw [comp_succ, if_neg (by rw [hk]; simp)]
theorem compA_start {l : List LV} {k : Nat} (hk : k < l.length) (h1 : 1 ≤ k) (hv : ∀ j, j < k → 1 ≤ j → ¬ nth l j = nth l (j - 1)) (he : nth l k = nth l (k - 1)) : compA l (k + 1) = l ∧ (compI l (k + 1)).length = k := by
  have hb : keepB l k = false := by unfold keepB; simp [he]; omega
  have h2 : compI l k = l.take k := comp_all (by omega) hv
  have h3 : compI l (k + 1) = l.take k := by rw [compI_keep hb, h2]
  refine ⟨?_, by rw [h3, List.length_take]; omega⟩
  unfold compA
  rw [h3, List.length_take, Nat.min_eq_left (by omega), List.take_append_drop]
def compM (l : List LV) : List LV := compI l l.length
set_option maxHeartbeats 4000000 in
theorem CompactRows_spec (v : Value) (xs : List LV) (hn : xs.length ≤ 1000000000) (gf : Nat) (hp : ∀ x y, x ∈ xs → y ∈ xs → Fun1 prog gf ([tSl rValue x, tSl rValue y] ++ []) (tV (.bool (decide (x = y))))) (he : ∀ args w, (callFunc gf args).run prog w = .ok (.enter gf args) w) : Spec (X := Value) prog 57 [rV.ty v, tV (.func (.func gf) #[] #[])] ([own 45 (rSl rValue) v xs]) (fun z => rV.ty z) (fun z => [own 45 (rSl rValue) z (compM xs)]) := by
 refine Spec.enter func57 rfl rfl fun h0 w0 fr0 => ?_
 refine Jr (Ja rfl (JL_nil (J_seq (Jr (Jm rfl ?_)))))
 refine Js rfl (step_len_own underlying38 Sr zS) ?_
 refine Js rfl (step_lss Sr Sr) (JL_nil ?_)
 refine J_cond Sr (fun h10 => ?_) (fun h10 => ?_)
 ·
  try simp only [NF] at h10
  refine Jr (Jm rfl (Ja rfl (JL_nil (J_ret ?_))))
  refine K_lsub (L' := [own 45 (rSl rValue) v (compM xs)]) (.c zS (SPs.of (A := own 45 (rSl rValue) v xs) (by unfold compM; rw [comp_all (Nat.le_refl _) (fun j hj h1 => by omega), List.take_length])) (LSub.nil)) ?_
  refine K_retv (rv := .tmp 4) rfl v (.tmp Sr) Sr
 try simp only [NF] at h10
 refine J_skip (J_seq (Jr (Ja rfl (JL_nil (J_block ?_)))))
 refine J_loopL (σ := Nat) (fun k => 1 ≤ k ∧ k ≤ xs.length ∧ ∀ j, j < k → 1 ≤ j → ¬ nth xs j = nth xs (j - 1)) (fun k => upd (upd (upd env0 0 (rV.ty v)) 1 (tV (.func (.func gf) #[] #[]))) 5 (tV (.int .i64 k))) (fun k => [own 45 (rSl rValue) v xs]) (fun k => xs.length - k) 1 ⟨Nat.le_refl _, by omega, fun j hj h1 => by omega⟩ (zU) (LSub.rfl) ?_
 rintro k ⟨hk1, hk2, hv⟩
 refine J_seq (Jr (Jm rfl (Jm rfl ?_)))
 refine Js rfl (step_len_own underlying38 Sr zS) ?_
 refine Js rfl (step_lss Sr Sr) (JL_nil ?_)
 refine J_cond Sr (fun h15 => ?_) (fun h15 => ?_)
 ·
  try simp only [NF] at h15
  have hlt : k < xs.length := by omega
  refine J_skip (J_seq (J_block (J_seq ?_)))
  refine J_drawN [⟨0, [1], true⟩, ⟨1, [0], true⟩, ⟨2, [5], true⟩, ⟨5, [0], true⟩, ⟨6, [5], true⟩, ⟨7, [24], true⟩, ⟨3, [19, 20], true⟩, ⟨4, [21], true⟩, ⟨8, [23, 25], true⟩, ⟨9, [26], true⟩, ⟨10, [18, 22, 27], true⟩] rfl (by kernel_rfl) rfl ?_
  refine JN_step rfl rfl rfl rfl (step_move Sr) ?_
  refine JN_step rfl rfl rfl rfl (step_move Sr) ?_
  refine JN_step rfl rfl rfl rfl (step_move Sr) ?_
  refine JN_step rfl rfl rfl rfl (step_move Sr) ?_
  refine JN_step rfl rfl rfl rfl (step_move Sr) ?_
  refine JN_step rfl rfl rfl rfl (step_sub Sr Sr z6) ?_
  refine JN_step rfl rfl rfl rfl (step_indexAddr_own (i := k) underlying38 ty45 Sr zS Sr (by rfl) (by exact hlt)) ?_
  refine JN_step rfl rfl rfl rfl (step_load_own ty45 Sr zS (gb (by exact hlt))) ?_
  refine JN_step rfl rfl rfl rfl (step_indexAddr_own (i := (k - 1)) underlying38 ty45 Sr zS Sr zG zG) ?_
  refine JN_step rfl rfl rfl rfl (step_load_own ty45 Sr zS (gb zG)) ?_
  refine JN_step rfl rfl rfl rfl (step_callv0 (aT := [_, _]) (As := []) Sub.clo0 (hp (nth xs k) (nth xs (k - 1)) (nth_mem hlt) (nth_mem zG)) ⟨Sr, Sr, trivial⟩ he) ?_
  refine JN_nil ?_
  refine J_cond Sr (fun h28 => ?_) (fun h28 => ?_)
  ·
   try simp only [NF] at h28
   have heq : nth xs k = nth xs (k - 1) := by simpa using h28
   obtain ⟨hs1, hs2⟩ := compA_start hlt hk1 hv heq
   have hk := hlt
   refine Jr (Jm rfl (Jm rfl ?_))
   refine Js rfl (step_tail underlying38 ty45 Sr Sr rfl zS hlt) ?_
   refine Ja rfl (JL_nil (J_seq (Jr (Ja rfl (JL_nil ?_)))))
   refine J_block ?_
   refine J_loopL (σ := Nat) (fun j => 1 ≤ j ∧ k + j ≤ xs.length ∧ (compI xs (k + j)).length + 1 ≤ k + j) (fun j => upd (upd (upd (upd (upd env0 0 (rV.ty v)) 1 (tV (.func (.func gf) #[] #[]))) 5 (tV (.int .i64 (compI xs (k + j)).length))) 6 (tV (tailV v (rSl rValue).k k))) 7 (tV (.int .i64 j))) (fun j => [own 45 (rSl rValue) v (compA xs (k + j))]) (fun j => xs.length - j) 1 ⟨Nat.le_refl _, by omega, by omega⟩ (.u (.u (SubE.upd (Sub.int (by rw [hs2])) (zU)))) (.c zS (SPs.of (A := own 45 (rSl rValue) v xs) (by rw [hs1])) (LSub.nil)) ?_
   rintro j ⟨hj1, hj2, hC⟩
   have hAl := compA_len hj2
   refine J_seq (Jr (Jm rfl (Jm rfl ?_)))
   refine Js rfl (step_tail_len (e := 45) (R := rSl rValue) underlying38 Sr zS (by rw [hAl]; exact hk)) ?_
   refine Js rfl (step_lss Sr Sr) (JL_nil ?_)
   refine J_cond Sr (fun h35 => ?_) (fun h35 => ?_)
   ·
    try simp only [NF] at h35
    have hjn : k + j < xs.length := by rw [hAl] at h35; omega
    have hn1 : nth (compA xs (k + j)) (k + j) = nth xs (k + j) := compA_nth zG hjn
    have hn2 : nth (compA xs (k + j)) (k + (j - 1)) = nth xs (k + j - 1) := by rw [compA_nth zG zG]; congr 1; omega
    have hm1 : nth (compA xs (k + j)) (k + j) ∈ xs := by rw [hn1]; exact nth_mem hjn
    have hm2 : nth (compA xs (k + j)) (k + (j - 1)) ∈ xs := by rw [hn2]; exact nth_mem zG
    refine J_skip (J_seq (J_block (J_seq ?_)))
    refine J_drawN [⟨0, [1], true⟩, ⟨1, [6], true⟩, ⟨2, [7], true⟩, ⟨5, [6], true⟩, ⟨6, [7], true⟩, ⟨7, [44], true⟩, ⟨3, [39, 40], true⟩, ⟨4, [41], true⟩, ⟨8, [43, 45], true⟩, ⟨9, [46], true⟩, ⟨10, [38, 42, 47], true⟩, ⟨11, [48], true⟩] rfl (by kernel_rfl) rfl ?_
    refine JN_step rfl rfl rfl rfl (step_move Sr) ?_
    refine JN_step rfl rfl rfl rfl (step_move Sr) ?_
    refine JN_step rfl rfl rfl rfl (step_move Sr) ?_
    refine JN_step rfl rfl rfl rfl (step_move Sr) ?_
    refine JN_step rfl rfl rfl rfl (step_move Sr) ?_
    refine JN_step rfl rfl rfl rfl (step_sub Sr Sr z6) ?_
    refine JN_step rfl rfl rfl rfl (step_tail_addr (R := rSl rValue) (i := j) underlying38 ty45 Sr zS Sr rfl (by rw [hAl]; omega)) ?_
    refine JN_step rfl rfl rfl rfl (step_load_own ty45 Sr zS (gb (by rw [hAl]; omega))) ?_
    refine JN_step rfl rfl rfl rfl (step_tail_addr (R := rSl rValue) (i := j - 1) underlying38 ty45 Sr zS Sr zG (by rw [hAl]; omega)) ?_
    refine JN_step rfl rfl rfl rfl (step_load_own ty45 Sr zS (gb (by rw [hAl]; omega))) ?_
    refine JN_step rfl rfl rfl rfl (step_callv0 (aT := [_, _]) (As := []) Sub.clo0 (hp (nth (compA xs (k + j)) (k + j)) (nth (compA xs (k + j)) (k + (j - 1))) (hm1) (hm2)) ⟨Sr, Sr, trivial⟩ he) ?_
    refine JN_step rfl rfl rfl rfl (step_not Sr) ?_
    refine JN_nil ?_
    refine J_cond Sr (fun h49 => ?_) (fun h49 => ?_)
    ·
     try simp only [NF] at h49
     have hkb : keepB xs (k + j) = true := by unfold keepB; rw [← hn1, ← hn2]; simp; right; simpa using h49
     refine Jr (Jm rfl (Jm rfl (Jm rfl (Jm rfl ?_))))
     refine Js rfl (step_tail_addr (R := rSl rValue) (i := j) underlying38 ty45 Sr zS Sr rfl (by rw [hAl]; omega)) ?_
     refine Js rfl (step_load_own ty45 Sr zS (gb (by rw [hAl]; omega))) ?_
     refine Js rfl (step_indexAddr_own (i := (compI xs (k + j)).length) underlying38 ty45 Sr zS Sr (by rfl) (by rw [hAl]; omega)) ?_
     refine Ju (step_store_own ty45 Sr Sr zS (by rw [hAl]; omega)) fun _ => ?_
     refine JL_nil (J_region (Jm rfl (Js rfl (step_add Sr Sr z6) (Ja rfl (JL_nil ?_)))))
     refine J_region (Jm rfl (Js rfl (step_add Sr Sr z6) (Ja rfl (JL_nil ?_))))
     refine K_againL (σ := Nat) (s := j) (j + 1) zG ⟨by omega, by omega, by show (compI xs (k + j + 1)).length + 1 ≤ _; rw [comp_succ, if_pos hkb, List.length_append]; simp; omega⟩ (.u (.u (SubE.upd (Sub.int (by show _ = (((compI xs (k + j + 1)).length : Nat) : Int); rw [comp_succ, if_pos hkb, List.length_append]; simp)) (zU)))) (.c zS (SPs.of (A := own 45 (rSl rValue) v ((compA xs (k + j)).set (compI xs (k + j)).length (nth (compA xs (k + j)) (k + j)))) (by rw [hn1, compA_set hjn hkb]; rfl)) (LSub.nil))
    try simp only [NF] at h49
    have hkb : keepB xs (k + j) = false := by unfold keepB; rw [← hn1, ← hn2]; simp; exact ⟨by omega, by simpa using h49⟩
    refine J_skip (J_region (Jm rfl (Js rfl (step_add Sr Sr z6) (Ja rfl (JL_nil ?_)))))
    refine K_againL (σ := Nat) (s := j) (j + 1) zG ⟨by omega, by omega, by show (compI xs (k + j + 1)).length + 1 ≤ _; rw [compI_keep hkb]; omega⟩ (.u (.u (SubE.upd (Sub.int (by show _ = (((compI xs (k + j + 1)).length : Nat) : Int); rw [compI_keep hkb])) (zU)))) (.c zS (SPs.of (A := own 45 (rSl rValue) v (compA xs (k + j))) (by rw [compA_keep hkb]; rfl)) (LSub.nil))
   try simp only [NF] at h35
   have hje : k + j = xs.length := by rw [hAl] at h35; omega
   rw [hje] at hC hAl
   refine J_exit (J_seq ?_)
   refine K_lsub (L' := [own 45 (rSl rValue) v (compA xs xs.length)]) (.c zS (SPs.of (A := own 45 (rSl rValue) v (compA xs (k + j))) (by rw [hje])) (LSub.nil)) ?_
   refine J_region (Jm rfl (Jm rfl ?_))
   refine Js rfl (step_tail (k := (compI xs xs.length).length) underlying38 ty45 Sr Sr (by rw [hje]) zS (by rw [hAl]; omega)) ?_
   refine Ju (step_tail_clear (R := rSl rValue) (zv := Value.slice none 0 0) (z := []) underlying38 (fun w => zeroValue45 w) rfl rfl rfl (fun h => ⟨_, rfl, none, ⟨0, Nat.le_refl _⟩, rfl, fun q => absurd rfl q⟩) Sr zS (by rw [hAl]; omega)) fun _ => ?_
   refine JL_nil (Jr (Jm rfl (Jm rfl ?_)))
   refine Jx rfl (step_slice_own (n := (compI xs xs.length).length) underlying38 ty45 Sr Sr (by first | rfl | (rw [hje])) zS (by simp only [List.length_append, List.length_take, List.length_replicate]; rw [hAl]; omega)) fun v64 => ?_
   refine Ja rfl (JL_nil (J_ret ?_))
   refine K_lsub (L' := [own 45 (rSl rValue) v64 (compM xs)]) (.c zS (SPs.of (A := own 45 (rSl rValue) v64 (((compA xs xs.length).take (compI xs xs.length).length ++ List.replicate ((compA xs xs.length).length - (compI xs xs.length).length) []).take (compI xs xs.length).length)) (by rw [List.take_left' (by rw [List.length_take, hAl]; omega)]; unfold compA compM; rw [List.take_left' rfl])) (LSub.nil)) ?_
   refine K_retv (rv := .tmp 4) rfl v64 (.tmp Sr) Sr
  try simp only [NF] at h28
  have hne : ¬ nth xs k = nth xs (k - 1) := by simpa using h28
  refine J_skip (J_region (Jm rfl (Js rfl (step_add Sr Sr z6) (Ja rfl (JL_nil ?_)))))
  refine K_againL (σ := Nat) (s := k) (k + 1) zO ⟨by omega, by omega, fun j hj h1 => by by_cases e : j = k; rw [e]; exact hne; exact hv j zG h1⟩ (zU) (LSub.rfl)
 try simp only [NF] at h15
 have hall := comp_all (l := xs) (n := xs.length) (Nat.le_refl _) (fun j hj h1 => hv j zG h1)
 refine J_exit (Jr (Jm rfl (Ja rfl (JL_nil (J_ret ?_)))))
 refine K_lsub (L' := [own 45 (rSl rValue) v (compM xs)]) (.c zS (SPs.of (A := own 45 (rSl rValue) v xs) (by unfold compM; rw [hall, List.take_length])) (LSub.nil)) ?_
 refine K_retv (rv := .tmp 4) rfl v (.tmp Sr) Sr
end Lg
