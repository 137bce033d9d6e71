/- A part of the proof of the law PlannerSelections: contracts of functions that the law reaches, and facts about what they compute. -/
import Derived.Test.YtgaclpkapapjdaaGreatDoorB
import Derived.Test.YtgaclpkapapjdaaGreatDoorProg
import Derived.Ground.NamesProg
import Derived.Shelf.Sort.Plain
import Derived.Shelf.Slices.In.SortNone
import Derived.Shelf.Slices.CompactS
set_option linter.unusedVariables false
set_option linter.unusedSimpArgs false
set_option linter.unusedSectionVars false
namespace Go.Proofs
open Go.Shelf
def Tryz.sortSJ_ren : Go.Shelf.Ren := ⟨fun | 190 => 238 | 125 => 129 | 258 => 293 | 128 => 204 | 129 => 205 | 302 => 315 | 303 => 316 | 304 => 317 | 305 => 318 | 306 => 319 | 307 => 320 | 308 => 321 | 309 => 322 | 310 => 323 | 333 => 334 | 329 => 272 | 330 => 273 | 334 => 335 | 335 => 336 | 336 => 337 | 344 => 342 | n => n, fun | 31 => 85 | 9 => 9 | 3 => 3 | 46 => 182 | 0 => 0 | 51 => 230 | 53 => 232 | 4 => 4 | 183 => 223 | 182 => 222 | 131 => 175 | 5 => 5 | 218 => 284 | 222 => 288 | 228 => 318 | 229 => 319 | n => n, fun | n => n⟩
theorem Tryz.sortSJ : Go.Proofs.Lays.n190 Tryz.prog Tryz.sortSJ_ren := {
  mixed := by kernel_rfl
  f125 := Tryz.func129.trans (congrArg some (by kernel_rfl))
  f128 := Tryz.func204.trans (congrArg some (by kernel_rfl))
  f129 := Tryz.func205.trans (congrArg some (by kernel_rfl))
  f190 := Tryz.func238.trans (congrArg some (by kernel_rfl))
  f258 := Tryz.func293.trans (congrArg some (by kernel_rfl))
  f302 := Tryz.func315.trans (congrArg some (by kernel_rfl))
  f303 := Tryz.func316.trans (congrArg some (by kernel_rfl))
  f304 := Tryz.func317.trans (congrArg some (by kernel_rfl))
  f305 := Tryz.func318.trans (congrArg some (by kernel_rfl))
  f306 := Tryz.func319.trans (congrArg some (by kernel_rfl))
  f307 := Tryz.func320.trans (congrArg some (by kernel_rfl))
  f308 := Tryz.func321.trans (congrArg some (by kernel_rfl))
  f309 := Tryz.func322.trans (congrArg some (by kernel_rfl))
  f310 := Tryz.func323.trans (congrArg some (by kernel_rfl))
  f329 := Tryz.func272.trans (congrArg some (by kernel_rfl))
  f330 := Tryz.func273.trans (congrArg some (by kernel_rfl))
  f333 := Tryz.func334.trans (congrArg some (by kernel_rfl))
  f334 := Tryz.func335.trans (congrArg some (by kernel_rfl))
  f335 := Tryz.func336.trans (congrArg some (by kernel_rfl))
  f336 := Tryz.func337.trans (congrArg some (by kernel_rfl))
  f344 := Tryz.func342.trans (congrArg some (by kernel_rfl))
  t0 := Tryz.underlying0
  a0 := Tryz.isAgg0
  z0 := Tryz.sizeOf0
  v0 := Tryz.zeroValue0
  t3 := Tryz.underlying3
  a3 := Tryz.isAgg3
  z3 := Tryz.sizeOf3
  v3 := Tryz.zeroValue3
  t4 := Tryz.underlying4
  a4 := Tryz.isAgg4
  z4 := Tryz.sizeOf4
  v4 := Tryz.zeroValue4
  t5 := Tryz.underlying5
  a5 := Tryz.isAgg5
  z5 := Tryz.sizeOf5
  v5 := Tryz.zeroValue5
  t9 := Tryz.underlying9
  a9 := Tryz.isAgg9
  z9 := Tryz.sizeOf9
  v9 := Tryz.zeroValue9
  t31 := Tryz.underlying85
  a31 := Tryz.isAgg85
  z31 := Tryz.sizeOf85
  v31 := Tryz.zeroValue85
  t46 := Tryz.underlying182
  a46 := Tryz.isAgg182
  z46 := Tryz.sizeOf182
  v46 := Tryz.zeroValue182
  t51 := Tryz.underlying230
  a51 := Tryz.isAgg230
  z51 := Tryz.sizeOf230
  v51 := Tryz.zeroValue230
  t53 := Tryz.underlying232
  a53 := Tryz.isAgg232
  z53 := Tryz.sizeOf232
  v53 := Tryz.zeroValue232
  t131 := Tryz.underlying175
  a131 := Tryz.isAgg175
  z131 := Tryz.sizeOf175
  v131 := Tryz.zeroValue175
  t182 := Tryz.underlying222
  a182 := Tryz.isAgg222
  z182 := Tryz.sizeOf222
  v182 := Tryz.zeroValue222
  t183 := Tryz.underlying223
  a183 := Tryz.isAgg223
  z183 := Tryz.sizeOf223
  v183 := Tryz.zeroValue223
  t218 := Tryz.underlying284
  a218 := Tryz.isAgg284
  z218 := Tryz.sizeOf284
  v218 := Tryz.zeroValue284
  t222 := Tryz.underlying288
  a222 := Tryz.isAgg288
  z222 := Tryz.sizeOf288
  v222 := Tryz.zeroValue288
  t228 := Tryz.underlying318
  a228 := Tryz.isAgg318
  z228 := Tryz.sizeOf318
  v228 := Tryz.zeroValue318
  t229 := Tryz.underlying319
  a229 := Tryz.isAgg319
  z229 := Tryz.sizeOf319
  v229 := Tryz.zeroValue319 }
def Tryz.compJ_ren : Go.Shelf.Ren := ⟨fun | 194 => 239 | n => n, fun | 31 => 85 | 9 => 9 | 3 => 3 | 4 => 4 | 0 => 0 | n => n, fun | n => n⟩
theorem Tryz.compJ : Go.Proofs.Lays.n194 Tryz.prog Tryz.compJ_ren := {
  mixed := by kernel_rfl
  f194 := Tryz.func239.trans (congrArg some (by kernel_rfl))
  t0 := Tryz.underlying0
  a0 := Tryz.isAgg0
  z0 := Tryz.sizeOf0
  v0 := Tryz.zeroValue0
  t3 := Tryz.underlying3
  a3 := Tryz.isAgg3
  z3 := Tryz.sizeOf3
  v3 := Tryz.zeroValue3
  t4 := Tryz.underlying4
  a4 := Tryz.isAgg4
  z4 := Tryz.sizeOf4
  v4 := Tryz.zeroValue4
  t9 := Tryz.underlying9
  a9 := Tryz.isAgg9
  z9 := Tryz.sizeOf9
  v9 := Tryz.zeroValue9
  t31 := Tryz.underlying85
  a31 := Tryz.isAgg85
  z31 := Tryz.sizeOf85
  v31 := Tryz.zeroValue85 }
end Go.Proofs
namespace Lg
open Go Go.Proofs Go.Proofs.Tryz
def attrOk (a : GAttr) : Bool := decide (1 ≤ a.Kind) && decide (a.Kind ≤ 4) && fitM a.Kind a.Default
def keyOk (t : GTable) (i : Nat) : Bool := decide (0 ≤ nth t.Key i) && decide (nth t.Key i < t.Attrs.length) && (decide (i = 0) || decide (nth t.Key (i - 1) < nth t.Key i))
def szT (t : GTable) : Bool := decide (1 ≤ t.Attrs.length ∧ t.Attrs.length ≤ 12 ∧ 1 ≤ t.Key.length)
def rightM (t : GTable) : Bool := nameM t.Name && szT t && t.Attrs.all attrOk && (namesL t.Attrs).all nameM && decide (namesL t.Attrs).Nodup && (List.range t.Key.length).all (keyOk t)
theorem names_take {l : List GAttr} {i : Nat} (h : i < l.length) : namesL (l.take (i + 1)) = (namesL (l.take i) ++ [(nth l i).Name]) ++ (nth l i).Was := by rw [takeB h, names_snoc]
theorem allNot {α : Type} {p : α → Bool} {l : List α} : (l.any fun x => !p x) = !(l.all p) := by
  rw [List.any_eq_not_all_not]; simp
set_option maxHeartbeats 4000000 in
theorem right_spec (t : GTable) (hz : TabSz t) : Fun1 prog 164 [rTable.ty t] (tV (.bool (rightM t))) := by
 refine Spec.enter func164 rfl rfl fun h0 w0 fr0 => ?_
 have hz1 := hz.nm
 have hz2 := hz.at'
 have hz3 := hz.key
 refine Jr (Js rfl (step_box (R := rTable) Sr) (Ja rfl (JL_nil (J_seq (Jr ?_)))))
 refine Js rfl (step_fieldAddr so76 Sr rfl) (Jl rfl ty9 Sr (Js rfl (step_call0 (name_spec _ hz1) ⟨Sr, trivial⟩ call235) (Js rfl (step_not Sr) (Jm rfl ?_))))
 refine Jk rfl Sr rfl (step_fieldAddr so76 Sr rfl) ?_
 refine Jg rfl Sr rfl (fun hw => step_load_ptr ty44 (Sub.w hw)) (Jg rfl Sr rfl (fun hw => step_len_sl underlying44 (Sub.w hw)) (Jg rfl Sr rfl (fun hw => step_eql (Sub.w hw) Sr) (Js rfl (step_pick_or Sr Sr) (Jm rfl ?_))))
 refine Jk rfl Sr rfl (step_fieldAddr so76 Sr rfl) ?_
 refine Jg rfl Sr rfl (fun hw => step_load_ptr ty44 (Sub.w hw)) (Jg rfl Sr rfl (fun hw => step_len_sl underlying44 (Sub.w hw)) (Jg rfl Sr rfl (fun hw => step_gtr (Sub.w hw) Sr) (Js rfl (step_pick_or Sr Sr) (Jm rfl ?_))))
 refine Jk rfl Sr rfl (step_fieldAddr so76 Sr rfl) ?_
 refine Jg rfl Sr rfl (fun hw => step_load_ptr ty36 (Sub.w hw)) (Jg rfl Sr rfl (fun hw => step_len_sl underlying36 (Sub.w hw)) (Jg rfl Sr rfl (fun hw => step_eql (Sub.w hw) Sr) (Js rfl (step_pick_or Sr Sr) (JL_nil ?_))))
 refine J_cond Sr (fun h29 => ?_) (fun h29 => ?_)
 ·
  try simp only [NF] at h29
  refine Jr (Ja rfl (JL_nil (J_ret ?_)))
  refine K_ret1 (t := 2) rfl () ?_
  refine Sub.bool ?_
  have hs : nameM t.Name = false ∨ szT t = false := by
   rcases h29 with ((h | h) | h) | h
   ·
    exact .inl h
   all_goals exact .inr (by unfold szT; rw [decide_eq_false_iff_not]; omega)
  rcases hs with h | h <;> simp [rightM, h]
 try simp only [NF] at h29
 have hsz : szT t = true := by unfold szT; rw [decide_eq_true_eq]; omega
 have hA12 : t.Attrs.length ≤ 12 := by omega
 have hnmT : nameM t.Name = true := by simp_all
 have hnl := names_len hz.was
 have hnl2 : (namesL t.Attrs).length ≤ 12 * 1000001 := Nat.le_trans hnl (Nat.mul_le_mul_right _ hA12)
 refine J_skip (Jr (Ja rfl (JL_nil (J_seq (Jr ?_)))))
 refine Js rfl (step_fieldAddr so76 Sr rfl) (Jl rfl ty44 Sr (Js rfl (step_len_sl underlying44 Sr) (Jm rfl (JL_nil (J_block ?_)))))
 refine J_loopL (σ := Nat × Value) (fun ⟨i, v⟩ => i ≤ t.Attrs.length ∧ ∀ k, k < i → attrOk (nth t.Attrs k) = true) (fun ⟨i, v⟩ => upd (upd (upd (upd (upd env0 1 (tPtr rTable t)) 3 (rV.ty v)) 31 (tSl rAttr t.Attrs)) 32 (tV (.int .i64 t.Attrs.length))) 33 (tV (.int .i64 i))) (fun ⟨i, v⟩ => [own 9 rStr v (namesL (t.Attrs.take i))]) (fun ⟨i, v⟩ => t.Attrs.length - i) (0, .slice none 0 0) ⟨by omega, fun k hk => by omega⟩ (.u (.u (.u (SubE.upd (Sub.rV rfl) (zU))))) (LSub.nilown) ?_
 rintro ⟨i, v⟩ ⟨hi, hv⟩
 refine Jr (Js rfl (step_lss Sr Sr) (JL_nil (J_seq ?_)))
 refine J_cond Sr (fun h34 => ?_) (fun h34 => ?_)
 ·
  try simp only [NF] at h34
  have hlt : i < t.Attrs.length := by omega
  have hnt := names_take hlt
  have hnl3 := names_len (l := t.Attrs.take i) (M := 1000000) (fun a ha => hz.was a (List.mem_of_mem_take ha))
  have hnl4 : (namesL (t.Attrs.take i)).length ≤ 12 * 1000001 := Nat.le_trans hnl3 (Nat.mul_le_mul_right _ (by rw [List.length_take]; omega))
  have hwl := hz.was _ (nth_mem hlt)
  refine J_skip (J_seq (J_block (Jr ?_)))
  refine Js rfl (step_indexAddr_sl  underlying44 ty89 Sr Sr rfl (gb (by exact hlt))) ?_
  refine Jl rfl ty89 Sr ?_
  refine Jx rfl (step_alloc (fun w => zeroValue89 w) zr89) fun v5 => ?_
  refine Ju (step_store_box ty89 Sr Sr zS) fun _ => ?_
  refine JL_freeze (t := 5) (Sel.take (Sel.none _)) Frz.box ?_
  refine JL_nil (J_seq (Jr (Js rfl (step_fieldAddr so89 Sr rfl) (Jl rfl ty3 Sr (Js rfl (step_lss Sr Sr) ?_)))))
  refine Jm rfl ?_
  refine Jk rfl Sr rfl (step_fieldAddr so89 Sr rfl) ?_
  refine Jg rfl Sr rfl (fun hw => step_load_ptr ty3 (Sub.w hw)) (Jg rfl Sr rfl (fun hw => step_gtr (Sub.w hw) Sr) (Js rfl (step_pick_or Sr Sr) (Jm rfl ?_)))
  refine Jk rfl Sr rfl (step_fieldAddr so89 Sr rfl) ?_
  refine Jg rfl Sr rfl (fun hw => step_load_ptr ty3 (Sub.w hw)) ?_
  refine Jk rfl Sr rfl (step_fieldAddr so89 Sr rfl) ?_
  refine Jg rfl Sr rfl (fun hw => step_load_ptr ty87 (Sub.w hw)) (Jg rfl Sr rfl (fun hw => step_call0 (fit_spec _ _) ⟨(Sub.w hw), (Sub.w hw), trivial⟩ call207) (Jg rfl Sr rfl (fun hw => step_not (Sub.w hw)) (Js rfl (step_pick_or Sr Sr) (JL_nil ?_))))
  refine J_cond Sr (fun h52 => ?_) (fun h52 => ?_)
  ·
   try simp only [NF] at h52
   refine Jr (Ja rfl (JL_nil (J_ret ?_)))
   refine K_ret1' (rv := .tmp 2) rfl () (Sel.all _) (.tmp Sr) (Frz.sub (Sub.bool ?_))
   have : attrOk (nth t.Attrs i) = false := by
    unfold attrOk
    rcases h52 with (h | h) | h
    ·
     simp [show ¬ 1 ≤ (nth t.Attrs i).Kind by omega]
    ·
     simp [show ¬ (nth t.Attrs i).Kind ≤ 4 by omega]
    simp [h]
   simp [rightM, all_f hlt this]
  try simp only [NF] at h52
  refine J_skip ?_
  refine J_draw [⟨0, [3], true⟩, ⟨1, [5], true⟩, ⟨2, [54], true⟩, ⟨3, [55], true⟩, ⟨5, [5], true⟩, ⟨6, [58], true⟩, ⟨4, [53, 56], false⟩, ⟨7, [57, 59], false⟩, ⟨8, [60], true⟩] rfl (by kernel_rfl) ?_
  refine Mv rfl rfl (Mf rfl rfl (step_fieldAddr so89 Sr rfl) (Mf rfl rfl (step_load_ptr ty9 Sr) ?_))
  refine Mf rfl rfl (step_literal (ys := [_]) underlying85 el9 ⟨rfl, Sr, trivial⟩ rfl (by decide)) ?_
  refine Mf rfl rfl (step_fieldAddr so89 Sr rfl) (Mf rfl rfl (step_load_ptr ty85 Sr) ?_)
  refine JM_stepX rfl rfl rfl rfl (step_append underlying85 el9 Sr Sr zS (by simp; omega) (by simp; omega)) fun v57 => ?_
  refine JM_stepX rfl rfl rfl rfl (step_append underlying85 el9 Sr Sr zS (by simp; omega) (by simp; omega)) fun v60 => ?_
  refine Mf rfl rfl (step_assign Sr) (JM_nil (J_region (Js rfl (step_add Sr Sr z6) (Jm rfl (JL_nil ?_)))))
  refine K_againL (σ := Nat × Value) (s := (i, v)) (i + 1, v60) zO ?_ (zU) (.c zS (SPs.of (A := own 9 rStr v60 ((namesL (t.Attrs.take i) ++ [(nth t.Attrs i).Name]) ++ (nth t.Attrs i).Was)) (by rw [hnt])) (LSub.nil))
  refine ⟨by omega, fun k hk => ?_⟩
  by_cases e : k = i
  ·
   subst e; first | (simp_all [attrOk]; done) | (simp_all [attrOk]; omega)
  exact hv k zG
 try simp only [NF] at h34
 obtain rfl : i = t.Attrs.length := by omega
 have hats : t.Attrs.all attrOk = true := all_t hv
 refine K_lsub (L' := [own 9 rStr v (namesL t.Attrs)]) (.c zS (SPs.of (A := own 9 rStr v (namesL (t.Attrs.take t.Attrs.length))) (by rw [List.take_length])) (LSub.nil)) ?_
 refine J_exit (J_seq (Jr (Jm rfl ?_)))
 refine Js rfl (step_call_look zS (ContainsFuncS_spec (namesL t.Attrs) zG 237 [] (fun s => !nameM s) (fun x hx => nameF_spec x (hz.nms x hx)) call237) (fun _ => Flat.v _) ⟨(Frz.own), (Frz.sub Sub.clo0), trivial⟩ call236) ?_
 refine JL_nil ?_
 refine J_cond Sr (fun h63 => ?_) (fun h63 => ?_)
 ·
  try simp only [NF] at h63
  refine Jr (Ja rfl (JL_nil (J_ret ?_)))
  refine K_ret1' (rv := .tmp 2) rfl () (Sel.all _) (.tmp Sr) (Frz.sub (Sub.bool ?_))
  have : (namesL t.Attrs).all nameM = false := by rw [allNot] at h63; simpa using h63
  simp [rightM, this]
 try simp only [NF] at h63
 have hnms : (namesL t.Attrs).all nameM = true := by rw [allNot] at h63; simpa using h63
 refine J_skip (Jr (Jm rfl ?_))
 refine Jx rfl (step_call zS (sortStr_spec Tryz.sortSJ v (namesL t.Attrs) zG) ⟨Sr, trivial⟩ call238) fun v65 => ?_
 refine JL_nil (J_seq (J_seq ?_))
 refine K_lenOwn zS fun hv14 => ?_
 obtain ⟨p14, cap14, hv14⟩ := hv14
 subst hv14
 refine J_region (Jm rfl ?_)
 refine Jx rfl (step_call zS (compStr_spec Tryz.compJ _ (sortS (namesL t.Attrs)) (by rw [sortS_len]; omega)) ⟨Sr, trivial⟩ call239) fun v67 => ?_
 refine Js rfl (step_len_own underlying85 Sr zS) ?_
 refine Jm rfl (Js rfl (step_lenV underlying85 Sr) (Js rfl (step_lss Sr Sr) (JL_nil ?_)))
 refine J_cond Sr (fun h71 => ?_) (fun h71 => ?_)
 ·
  try simp only [NF] at h71
  refine Jr (Ja rfl (JL_nil (J_ret ?_)))
  refine K_ret1' (rv := .tmp 2) rfl () (Sel.all _) (.tmp Sr) (Frz.sub (Sub.bool ?_))
  have : ¬ (namesL t.Attrs).Nodup := fun h => by have := (comp_nodup _).2 h; rw [sortS_len] at h71; omega
  simp [rightM, this]
 try simp only [NF] at h71
 rw [sortS_len] at h71
 have hnd : (namesL t.Attrs).Nodup := (comp_nodup _).1 zG
 refine K_drop (Sel.all _) ?_
 refine J_skip (J_seq (Jr (Js rfl (step_fieldAddr so76 Sr rfl) (Jl rfl ty36 Sr (Js rfl (step_len_sl underlying36 Sr) ?_)))))
 refine Jm rfl (JL_nil (J_block ?_))
 refine J_loopL (σ := Nat) (fun i => i ≤ t.Key.length ∧ ∀ k, k < i → keyOk t k = true) (fun i => upd (upd (upd (upd env0 1 (tPtr rTable t)) 73 (tSl rInt t.Key)) 74 (tV (.int .i64 t.Key.length))) 75 (tV (.int .i64 i))) (fun i => []) (fun i => t.Key.length - i) 0 ⟨by omega, fun k hk => by omega⟩ (zU) (LSub.rfl) ?_
 rintro i ⟨hi2, hv2⟩
 refine Jr (Js rfl (step_lss Sr Sr) (JL_nil (J_seq ?_)))
 refine J_cond Sr (fun h76 => ?_) (fun h76 => ?_)
 ·
  try simp only [NF] at h76
  have hkt : i < t.Key.length := by omega
  refine J_skip (J_seq (J_block (Jr (Jm rfl ?_))))
  refine Js rfl (step_indexAddr_sl  underlying36 ty3 Sr Sr rfl (gb (by exact hkt))) ?_
  refine Jl rfl ty3 Sr (Ja rfl (Ja rfl (JL_nil (Jr (Jm rfl ?_)))))
  refine Js rfl (step_lss Sr Sr) (Jm rfl ?_)
  refine Jk rfl Sr rfl (step_move Sr) ?_
  refine Jk rfl Sr rfl (step_fieldAddr so76 Sr rfl) ?_
  refine Jg rfl Sr rfl (fun hw => step_load_ptr ty44 (Sub.w hw)) (Jg rfl Sr rfl (fun hw => step_len_sl underlying44 (Sub.w hw)) (Jg rfl Sr rfl (fun hw => step_geq (Sub.w hw) (Sub.w hw)) (Js rfl (step_pick_or Sr Sr) (Jm rfl ?_))))
  refine Jk rfl Sr rfl (step_move Sr) ?_
  refine Jg rfl Sr rfl (fun hw => step_gtr (Sub.w hw) Sr) (Jg rfl Sr rfl (fun hw => step_move (Sub.w hw)) ?_)
  refine Ji rfl Sr rfl (step_move Sr) ?_
  refine Ji rfl Sr rfl (step_fieldAddr so76 Sr rfl) ?_
  refine Jh rfl Sr rfl (fun hw => step_load_ptr ty36 (Sub.w hw)) ?_
  refine Ji rfl Sr rfl (step_move Sr) ?_
  refine Jh rfl Sr rfl (fun hw => step_sub (Sub.w hw) Sr (by have hwq := hw; (try simp only [beqB_t, beqB_f, NF] at hwq); unfold in64; omega)) ?_
  refine Jh rfl Sr rfl (fun hw => step_indexAddr_sl (i := (i - 1)) underlying36 ty3 (Sub.w hw) (Sub.w hw) (by have hwq := hw; (try simp only [beqB_t, beqB_f, NF] at hwq); omega) (gb (by have hwq := hw; (try simp only [beqB_t, beqB_f, NF] at hwq); show i - 1 < t.Key.length; omega))) ?_
  refine Jh rfl Sr rfl (fun hw => step_load_ptr ty3 (Sub.w hw)) (Jh rfl Sr rfl (fun hw => step_leq (Sub.w hw) (Sub.w hw)) (Jg rfl Sr rfl (fun hw => step_pick_and (Sub.w hw) (Sub.ww hw)) (Js rfl (step_pick_or Sr Sr) (JL_nil ?_))))
  refine J_cond Sr (fun h102 => ?_) (fun h102 => ?_)
  ·
   try simp only [NF] at h102
   refine Jr (Ja rfl (JL_nil (J_ret ?_)))
   refine K_ret1' (rv := .tmp 2) rfl () (Sel.all _) (.tmp Sr) (Frz.sub (Sub.bool ?_))
   have : keyOk t i = false := by
    unfold keyOk
    rcases h102 with (h | h) | ⟨h1, h2⟩
    ·
     simp [show ¬ 0 ≤ nth t.Key i by omega]
    ·
     simp [show ¬ nth t.Key i < t.Attrs.length by omega]
    simp [show ¬ nth t.Key (i - 1) < nth t.Key i by omega, show ¬ i = 0 by omega]
   simp [rightM, rall_f hkt this]
  try simp only [NF] at h102
  refine J_skip (J_region (Js rfl (step_add Sr Sr z6) (Jm rfl (JL_nil ?_))))
  refine K_againL (σ := Nat) (s := i) (i + 1) zO ?_ (zU) (LSub.rfl)
  refine ⟨by omega, fun k hk => ?_⟩
  by_cases e : k = i
  ·
   subst e; first | (simp_all [keyOk]; done) | (simp_all [keyOk]; omega)
  exact hv2 k zG
 try simp only [NF] at h76
 have hks : (List.range t.Key.length).all (keyOk t) = true := rall_t (fun k hk => hv2 k zG)
 refine J_exit (Jr (Ja rfl (JL_nil (J_ret ?_))))
 refine K_ret1' (rv := .tmp 2) rfl () (Sel.all _) (.tmp Sr) (Frz.sub (Sub.bool ?_))
 simp [rightM, hnmT, hsz, hats, hnms, hnd, hks]
def schM (s : GSchema) : Bool := decide (s.Tables.length ≤ 20) && (List.range s.Tables.length).all fun i => rightM (nth s.Tables i) && decide (findT s (nth s.Tables i).Name = i)
set_option maxHeartbeats 1000000 in
theorem schValid_spec (s : GSchema) (hz : SchSz s) : Fun1 prog 104 [rSchema.ty s] (tV (.bool (schM s))) := by
 refine Spec.enter func104 rfl rfl fun h0 w0 fr0 => ?_
 have hz1 := hz.tabs
 refine Jr (Js rfl (step_box (R := rSchema) Sr) (Ja rfl (JL_nil (J_seq (Jr ?_)))))
 refine Js rfl (step_fieldAddr so41 Sr rfl) (Jl rfl ty39 Sr (Js rfl (step_len_sl underlying39 Sr) (Js rfl (step_gtr Sr Sr) (JL_nil ?_))))
 refine J_cond Sr (fun h7 => ?_) (fun h7 => ?_)
 ·
  try simp only [NF] at h7
  refine Jr (Ja rfl (JL_nil (J_ret ?_)))
  refine K_ret1 (t := 2) rfl () ?_
  refine Sub.bool ?_
  have : ¬ s.Tables.length ≤ 20 := by omega
  simp [schM, this]
 try simp only [NF] at h7
 refine J_skip (J_seq (Jr (Js rfl (step_fieldAddr so41 Sr rfl) (Jl rfl ty39 Sr (Js rfl (step_len_sl underlying39 Sr) ?_)))))
 refine Jm rfl (JL_nil (J_block ?_))
 refine J_loopL (σ := Nat) (fun i => i ≤ s.Tables.length ∧ ∀ k, k < i → (rightM (nth s.Tables k) && decide (findT s (nth s.Tables k).Name = k)) = true) (fun i => upd (upd (upd env0 1 (tPtr rSchema s)) 10 (tV (.int .i64 s.Tables.length))) 11 (tV (.int .i64 i))) (fun i => []) (fun i => s.Tables.length - i) 0 ⟨by omega, fun k hk => by omega⟩ (zU) (LSub.rfl) ?_
 rintro i ⟨hi, hv⟩
 refine Jr (Js rfl (step_lss Sr Sr) (JL_nil (J_seq ?_)))
 refine J_cond Sr (fun h12 => ?_) (fun h12 => ?_)
 ·
  try simp only [NF] at h12
  have hlt : i < s.Tables.length := by omega
  refine J_skip (J_seq (J_block (Jr (Jm rfl (Ja rfl ?_)))))
  refine JL_nil (J_seq ?_)
  refine J_draw [⟨0, [1], true⟩, ⟨1, [14], true⟩, ⟨2, [3], true⟩, ⟨3, [15, 16], true⟩, ⟨4, [17], true⟩, ⟨5, [18], true⟩, ⟨6, [19], true⟩, ⟨7, [20], true⟩, ⟨8, [1, 21], true⟩, ⟨9, [1, 21], true⟩, ⟨10, [21, 23], true⟩, ⟨11, [3, 21], true⟩, ⟨12, [21, 24, 25], true⟩, ⟨13, [21, 26], true⟩, ⟨14, [21, 27], true⟩, ⟨15, [21, 22, 28], true⟩, ⟨16, [3, 21], true⟩, ⟨17, [21, 29, 30], true⟩, ⟨18, [21, 31], true⟩] rfl (by kernel_rfl) ?_
  refine Mf rfl rfl (step_fieldAddr so41 Sr rfl) (Mf rfl rfl (step_load_ptr ty39 Sr) (Mv rfl rfl ?_))
  refine Mf rfl rfl (step_indexAddr_sl (i := i) underlying39 ty76 Sr Sr (by rfl) (gb (by exact hlt))) ?_
  refine Mf rfl rfl (step_load_ptr ty76 Sr) (Mf rfl rfl (step_call0 (right_spec _ (hz.tab _ (nth_mem hlt))) ⟨Sr, trivial⟩ call164) (Mf rfl rfl (step_not Sr) (Mv rfl rfl ?_)))
  refine Mk rfl rfl Sr rfl (step_load_ptr ty41 Sr) ?_
  refine Mk rfl rfl Sr rfl (step_fieldAddr so41 Sr rfl) ?_
  refine Mg rfl rfl Sr rfl (fun hw => step_load_ptr ty39 (Sub.w hw)) ?_
  refine Mk rfl rfl Sr rfl (step_move Sr) ?_
  refine Mg rfl rfl Sr rfl (fun hw => step_indexAddr_sl (i := i) underlying39 ty76 (Sub.w hw) (Sub.w hw) (by rfl) (gb (by have hwq := hw; (try simp only [beqB_t, beqB_f, NF] at hwq); exact hlt))) ?_
  refine Mg rfl rfl Sr rfl (fun hw => step_fieldAddr so76 (Sub.w hw) rfl) (Mg rfl rfl Sr rfl (fun hw => step_load_ptr ty9 (Sub.w hw)) (Mg rfl rfl Sr rfl (fun hw => step_call0 (Find_spec _ _ hz1) ⟨(Sub.w hw), (Sub.w hw), trivial⟩ call165) ?_))
  refine Mk rfl rfl Sr rfl (step_move Sr) ?_
  refine Mg rfl rfl Sr rfl (fun hw => step_neq (Sub.w hw) (Sub.w hw)) (Mf rfl rfl (step_pick_or Sr Sr) (JM_nil ?_))
  refine J_cond Sr (fun h32 => ?_) (fun h32 => ?_)
  ·
   try simp only [NF] at h32
   refine Jr (Ja rfl (JL_nil (J_ret ?_)))
   refine K_ret1 (t := 2) rfl () ?_
   refine Sub.bool ?_
   have : (rightM (nth s.Tables i) && decide (findT s (nth s.Tables i).Name = i)) = false := by rcases h32 with h | h <;> simp [h]
   simp only [schM, rall_f (f := fun i => rightM (nth s.Tables i) && decide (findT s (nth s.Tables i).Name = i)) hlt this]; simp
  try simp only [NF] at h32
  refine J_skip (J_region (Js rfl (step_add Sr Sr z6) (Jm rfl (JL_nil ?_))))
  refine K_againL (σ := Nat) (s := i) (i + 1) zO ?_ (zU) (LSub.rfl)
  refine ⟨by omega, fun k hk => ?_⟩
  by_cases e : k = i
  ·
   subst e; simp_all
  exact hv k zG
 try simp only [NF] at h12
 have hall := rall_t (n := s.Tables.length) (fun k hk => hv k zG)
 refine J_exit (Jr (Ja rfl (JL_nil (J_ret ?_))))
 refine K_ret1 (t := 2) rfl () ?_
 refine Sub.bool ?_
 have : s.Tables.length ≤ 20 := by omega
 simp only [schM, hall, this]; simp
end Lg
namespace Lg
theorem nodup_len {α : Type} [DecidableEq α] : ∀ {l U : List α}, l.Nodup → (∀ x ∈ l, x ∈ U) → l.length ≤ U.length
  | [], _, _, _ => Nat.zero_le _
  | x :: l, U, hd, hs => by
    have hx := hs x (by simp)
    have h1 : (U.erase x).length + 1 = U.length := by
      have := List.length_erase_of_mem hx
      have := List.length_pos_of_mem hx
      omega
    have hd := List.nodup_cons.1 hd
    have := nodup_len (U := U.erase x) hd.2 (fun y hy => (List.mem_erase_of_ne (fun e => hd.1 (by rw [← e]; exact hy))).2 (hs y (by simp [hy])))
    simp; omega
section
variable (rec : Nat → List Int → Bool × List Int)
end
section
variable (l : List (List Bool))
end
open Go Go.Proofs Go.Proofs.Tryz
def kindsM : List (Int × Gkind) := [(1, ⟨0, .func (.func 170) #[] #[], .func (.func 171) #[] #[], .func (.func 172) #[] #[]⟩), (2, ⟨1, .func (.func 173) #[] #[], .func (.func 174) #[] #[], .func (.func 175) #[] #[]⟩), (3, ⟨1, .func (.func 176) #[] #[], .func (.func 177) #[] #[], .func (.func 168) #[] #[]⟩), (4, ⟨2, .func (.func 178) #[] #[], .func (.func 179) #[] #[], .func (.func 169) #[] #[]⟩), (5, ⟨2, .func (.func 180) #[] #[], .func (.func 181) #[] #[], .func (.func 169) #[] #[]⟩), (6, ⟨2, .func (.func 180) #[] #[], .func (.func 182) #[] #[], .func (.func 169) #[] #[]⟩), (7, ⟨1, .func (.func 183) #[] #[], .func (.func 184) #[] #[], .func (.func 185) #[] #[]⟩), (8, ⟨1, .func (.func 186) #[] #[], .func (.func 187) #[] #[], .func (.func 188) #[] #[]⟩)]
abbrev kindV (k : Int) : Gkind := (mget kindsM k).getD zkind
def kindOk (k : Int) : Bool := decide (1 ≤ k ∧ k ≤ 8)
def kidsN (k : Int) : Int := if k = 1 then 0 else if k = 4 ∨ k = 5 ∨ k = 6 then 2 else 1
theorem kind_cases {k : Int} (h : kindOk k = true) : k = 1 ∨ k = 2 ∨ k = 3 ∨ k = 4 ∨ k = 5 ∨ k = 6 ∨ k = 7 ∨ k = 8 := by unfold kindOk at h; rw [decide_eq_true_eq] at h; omega
theorem kinds_some (k : Int) : (mget kindsM k).isSome = kindOk k := by
  by_cases h : kindOk k = true
  · rcases kind_cases h with rfl | rfl | rfl | rfl | rfl | rfl | rfl | rfl <;> rfl
  · have h2 : ¬ (1 ≤ k ∧ k ≤ 8) := by intro q; exact h (by unfold kindOk; rw [decide_eq_true_eq]; exact q)
    rw [Bool.eq_false_iff.2 h]
    simp [kindsM, mget, show ¬ k = 1 by omega, show ¬ k = 2 by omega, show ¬ k = 3 by omega, show ¬ k = 4 by omega, show ¬ k = 5 by omega, show ¬ k = 6 by omega, show ¬ k = 7 by omega, show ¬ k = 8 by omega]
theorem kinds_kids {k : Int} (h : kindOk k = true) : (kindV k).kids = kidsN k := by
  rcases kind_cases h with rfl | rfl | rfl | rfl | rfl | rfl | rfl | rfl <;> rfl
/-- A query whose fields that its kind has are zero. -/
def restM (p : GPlan) : GPlan :=
  if p.Kind = 1 then GPl.mk p.Kind 0 p.Kids p.Tests p.Cols p.Col p.Agg p.Attrs
  else if p.Kind = 2 then GPl.mk p.Kind p.Table p.Kids [] p.Cols p.Col p.Agg p.Attrs
  else if p.Kind = 3 then GPl.mk p.Kind p.Table p.Kids p.Tests [] p.Col p.Agg p.Attrs
  else if p.Kind = 7 then GPl.mk p.Kind p.Table p.Kids p.Tests p.Cols 0 p.Agg p.Attrs
  else if p.Kind = 8 then GPl.mk p.Kind p.Table p.Kids p.Tests [] 0 0 p.Attrs
  else p
def bareM (p : GPlan) : Bool := !((((!decide ((restM p).Table = 0) || decide (0 < ((restM p).Tests.length : Int))) || decide (0 < ((restM p).Cols.length : Int))) || !decide ((restM p).Col = 0)) || !decide ((restM p).Agg = 0))
def namesOk (l : List GAttr) (i : Nat) : Bool := decide (columnL l (nth l i).Name = i)
def validM (s : GSchema) : Nat → GPlan → Bool
  | 0, _ => false
  | l + 1, p => kindOk p.Kind && decide ((p.Kids.length : Int) = kidsN p.Kind) && p.Kids.all (validM s l) && bareM p && (List.range p.Attrs.length).all (namesOk p.Attrs) && ((colsM s p).2 && alikeM (colsM s p).1 p.Attrs)
/-- Sizes that hold of queries that are handed in. -/
def PlSz : Nat → GPlan → Prop
  | 0, _ => True
  | n + 1, p => p.Kids.length ≤ 9223372036854775807 ∧ p.Tests.length ≤ 1000 ∧ p.Cols.length ≤ 1000 ∧ p.Attrs.length ≤ 1000 ∧ ∀ q ∈ p.Kids, PlSz n q ∧ q.Attrs.length ≤ 1000
theorem restCols_spec (n : Nat) (p : GPlan) : Fun1 prog 168 [(rPlan (n + 1)).ty p] ((rPlan (n + 1)).ty (GPl.mk p.Kind p.Table p.Kids p.Tests [] p.Col p.Agg p.Attrs)) := by
 refine Spec.enter func168 rfl rfl fun h0 w0 fr0 => ?_
 refine Jr ?_
 refine Jx rfl (step_box_own (R := rPlan (n + 1)) Sr) fun b1 => ?_
 refine Jx rfl (step_alloc (fun w => zeroValue46 w) (zr46 (n := n))) fun b2 => ?_
 refine JL_nil (Jr (Js rfl (step_fieldAddr_own (so46 (n := n)) Sr rfl) ?_))
 refine Ju (step_store_fld (R := (rSl rInt)) (y' := GPl.mk p.Kind p.Table p.Kids p.Tests [] p.Col p.Agg p.Attrs) ty36 Sr Sub.nilsl zS (by exact ⟨rfl, ⟨rfl, ⟨rfl, ⟨rfl, ⟨fun _ _ q => q, rfl, by intro g hg; simp only [List.mem_cons, List.not_mem_nil, or_false] at hg; rcases hg with rfl | rfl | rfl <;> rfl⟩⟩⟩⟩⟩)) fun _ => ?_
 refine JL_nil (Jr ?_)
 refine Js rfl (step_load_box (R := rPlan (n + 1)) ty46 Sr zS) ?_
 refine Ju (step_store_box (R := rPlan (n + 1)) ty46 Sr Sr zS) fun _ => ?_
 refine JL_nil (J_ret ?_)
 refine K_ret1' (rv := .cell 2 46) rfl () (Sel.all _) (.cell (R := rPlan (n + 1)) ty46 Sr zS Sr) (Frz.sub Sr)
theorem restSame_spec (n : Nat) (p : GPlan) : Fun1 prog 169 [(rPlan (n + 1)).ty p] ((rPlan (n + 1)).ty (p)) := by
 refine Spec.enter func169 rfl rfl fun h0 w0 fr0 => ?_
 refine Jr ?_
 refine Jx rfl (step_box_own (R := rPlan (n + 1)) Sr) fun b1 => ?_
 refine Jx rfl (step_alloc (fun w => zeroValue46 w) (zr46 (n := n))) fun b2 => ?_
 refine JL_nil (Jr ?_)
 refine Js rfl (step_load_box (R := rPlan (n + 1)) ty46 Sr zS) ?_
 refine Ju (step_store_box (R := rPlan (n + 1)) ty46 Sr Sr zS) fun _ => ?_
 refine JL_nil (J_ret ?_)
 refine K_ret1' (rv := .cell 2 46) rfl () (Sel.all _) (.cell (R := rPlan (n + 1)) ty46 Sr zS Sr) (Frz.sub Sr)
theorem restTable_spec (n : Nat) (p : GPlan) : Fun1 prog 172 [(rPlan (n + 1)).ty p] ((rPlan (n + 1)).ty (GPl.mk p.Kind 0 p.Kids p.Tests p.Cols p.Col p.Agg p.Attrs)) := by
 refine Spec.enter func172 rfl rfl fun h0 w0 fr0 => ?_
 refine Jr ?_
 refine Jx rfl (step_box_own (R := rPlan (n + 1)) Sr) fun b1 => ?_
 refine Jx rfl (step_alloc (fun w => zeroValue46 w) (zr46 (n := n))) fun b2 => ?_
 refine JL_nil (Jr (Js rfl (step_fieldAddr_own (so46 (n := n)) Sr rfl) ?_))
 refine Ju (step_store_fld (R := rInt) (y' := GPl.mk p.Kind 0 p.Kids p.Tests p.Cols p.Col p.Agg p.Attrs) ty3 Sr Sr zS (by exact ⟨rfl, ⟨fun _ _ q => q, rfl, by intro g hg; simp only [List.mem_cons, List.not_mem_nil, or_false] at hg; rcases hg with rfl | rfl | rfl | rfl | rfl | rfl <;> rfl⟩⟩)) fun _ => ?_
 refine JL_nil (Jr ?_)
 refine Js rfl (step_load_box (R := rPlan (n + 1)) ty46 Sr zS) ?_
 refine Ju (step_store_box (R := rPlan (n + 1)) ty46 Sr Sr zS) fun _ => ?_
 refine JL_nil (J_ret ?_)
 refine K_ret1' (rv := .cell 2 46) rfl () (Sel.all _) (.cell (R := rPlan (n + 1)) ty46 Sr zS Sr) (Frz.sub Sr)
theorem restTests_spec (n : Nat) (p : GPlan) : Fun1 prog 175 [(rPlan (n + 1)).ty p] ((rPlan (n + 1)).ty (GPl.mk p.Kind p.Table p.Kids [] p.Cols p.Col p.Agg p.Attrs)) := by
 refine Spec.enter func175 rfl rfl fun h0 w0 fr0 => ?_
 refine Jr ?_
 refine Jx rfl (step_box_own (R := rPlan (n + 1)) Sr) fun b1 => ?_
 refine Jx rfl (step_alloc (fun w => zeroValue46 w) (zr46 (n := n))) fun b2 => ?_
 refine JL_nil (Jr (Js rfl (step_fieldAddr_own (so46 (n := n)) Sr rfl) ?_))
 refine Ju (step_store_fld (R := (rSl rTest)) (y' := GPl.mk p.Kind p.Table p.Kids [] p.Cols p.Col p.Agg p.Attrs) ty43 Sr Sub.nilsl zS (by exact ⟨rfl, ⟨rfl, ⟨rfl, ⟨fun _ _ q => q, rfl, by intro g hg; simp only [List.mem_cons, List.not_mem_nil, or_false] at hg; rcases hg with rfl | rfl | rfl | rfl <;> rfl⟩⟩⟩⟩)) fun _ => ?_
 refine JL_nil (Jr ?_)
 refine Js rfl (step_load_box (R := rPlan (n + 1)) ty46 Sr zS) ?_
 refine Ju (step_store_box (R := rPlan (n + 1)) ty46 Sr Sr zS) fun _ => ?_
 refine JL_nil (J_ret ?_)
 refine K_ret1' (rv := .cell 2 46) rfl () (Sel.all _) (.cell (R := rPlan (n + 1)) ty46 Sr zS Sr) (Frz.sub Sr)
theorem restCol_spec (n : Nat) (p : GPlan) : Fun1 prog 185 [(rPlan (n + 1)).ty p] ((rPlan (n + 1)).ty (GPl.mk p.Kind p.Table p.Kids p.Tests p.Cols 0 p.Agg p.Attrs)) := by
 refine Spec.enter func185 rfl rfl fun h0 w0 fr0 => ?_
 refine Jr ?_
 refine Jx rfl (step_box_own (R := rPlan (n + 1)) Sr) fun b1 => ?_
 refine Jx rfl (step_alloc (fun w => zeroValue46 w) (zr46 (n := n))) fun b2 => ?_
 refine JL_nil (Jr (Js rfl (step_fieldAddr_own (so46 (n := n)) Sr rfl) ?_))
 refine Ju (step_store_fld (R := rInt) (y' := GPl.mk p.Kind p.Table p.Kids p.Tests p.Cols 0 p.Agg p.Attrs) ty3 Sr Sr zS (by exact ⟨rfl, ⟨rfl, ⟨rfl, ⟨rfl, ⟨rfl, ⟨fun _ _ q => q, rfl, by intro g hg; simp only [List.mem_cons, List.not_mem_nil, or_false] at hg; rcases hg with rfl | rfl <;> rfl⟩⟩⟩⟩⟩⟩)) fun _ => ?_
 refine JL_nil (Jr ?_)
 refine Js rfl (step_load_box (R := rPlan (n + 1)) ty46 Sr zS) ?_
 refine Ju (step_store_box (R := rPlan (n + 1)) ty46 Sr Sr zS) fun _ => ?_
 refine JL_nil (J_ret ?_)
 refine K_ret1' (rv := .cell 2 46) rfl () (Sel.all _) (.cell (R := rPlan (n + 1)) ty46 Sr zS Sr) (Frz.sub Sr)
theorem restGrp_spec (n : Nat) (p : GPlan) : Fun1 prog 188 [(rPlan (n + 1)).ty p] ((rPlan (n + 1)).ty (GPl.mk p.Kind p.Table p.Kids p.Tests [] 0 0 p.Attrs)) := by
 refine Spec.enter func188 rfl rfl fun h0 w0 fr0 => ?_
 refine Jr ?_
 refine Jx rfl (step_box_own (R := rPlan (n + 1)) Sr) fun b1 => ?_
 refine Jx rfl (step_alloc (fun w => zeroValue46 w) (zr46 (n := n))) fun b2 => ?_
 refine JL_nil (Jr (Js rfl (step_fieldAddr_own (so46 (n := n)) Sr rfl) ?_))
 refine Ju (step_store_fld (R := (rSl rInt)) (y' := GPl.mk p.Kind p.Table p.Kids p.Tests [] p.Col p.Agg p.Attrs) ty36 Sr Sub.nilsl zS (by exact ⟨rfl, ⟨rfl, ⟨rfl, ⟨rfl, ⟨fun _ _ q => q, rfl, by intro g hg; simp only [List.mem_cons, List.not_mem_nil, or_false] at hg; rcases hg with rfl | rfl | rfl <;> rfl⟩⟩⟩⟩⟩)) fun _ => ?_
 refine Js rfl (step_fieldAddr_own (so46 (n := n)) Sr rfl) ?_
 refine Ju (step_store_fld (R := rInt) (y' := GPl.mk p.Kind p.Table p.Kids p.Tests [] 0 p.Agg p.Attrs) ty3 Sr Sr zS (by exact ⟨rfl, ⟨rfl, ⟨rfl, ⟨rfl, ⟨rfl, ⟨fun _ _ q => q, rfl, by intro g hg; simp only [List.mem_cons, List.not_mem_nil, or_false] at hg; rcases hg with rfl | rfl <;> rfl⟩⟩⟩⟩⟩⟩)) fun _ => ?_
 refine Js rfl (step_fieldAddr_own (so46 (n := n)) Sr rfl) ?_
 refine Ju (step_store_fld (R := rInt) (y' := GPl.mk p.Kind p.Table p.Kids p.Tests [] 0 0 p.Attrs) ty3 Sr Sr zS (by exact ⟨rfl, ⟨rfl, ⟨rfl, ⟨rfl, ⟨rfl, ⟨rfl, ⟨fun _ _ q => q, rfl, by intro g hg; simp only [List.mem_cons, List.not_mem_nil, or_false] at hg; subst hg; rfl⟩⟩⟩⟩⟩⟩⟩)) fun _ => ?_
 refine JL_nil (Jr ?_)
 refine Js rfl (step_load_box (R := rPlan (n + 1)) ty46 Sr zS) ?_
 refine Ju (step_store_box (R := rPlan (n + 1)) ty46 Sr Sr zS) fun _ => ?_
 refine JL_nil (J_ret ?_)
 refine K_ret1' (rv := .cell 2 46) rfl () (Sel.all _) (.cell (R := rPlan (n + 1)) ty46 Sr zS Sr) (Frz.sub Sr)
set_option maxHeartbeats 2000000 in
theorem kinds_spec  : Fun1 prog 106 [] (tMapI kvI rkind kindsM) := by
 refine Spec.enter func106 rfl rfl fun h0 w0 fr0 => ?_
 refine Jr (Ja rfl (JL_nil (Jr (Ja rfl (JL_nil ?_)))))
 refine Jr (Ja rfl (JL_nil (Jr ?_)))
 refine Jx rfl (step_makeMap (kv := kvI) (R := rkind)) fun v3 => ?_
 refine Js rfl (step_build (x := (⟨0, .func (.func 170) #[] #[], .func (.func 171) #[] #[], .func (.func 172) #[] #[]⟩ : Gkind)) (zs := [[Value.int .i64 0], [Value.nilFunc], [Value.nilFunc], [Value.nilFunc]]) so213 (fun w => zeroValue213 w) ⟨Sr, (by first | exact Sr | exact Sub.rV rfl), (by first | exact Sr | exact Sub.rV rfl), (by first | exact Sr | exact Sub.rV rfl), trivial⟩ ⟨⟨Sr, rfl⟩, ⟨(by first | exact Sr | exact Sub.rV rfl), rfl⟩, ⟨(by first | exact Sr | exact Sub.rV rfl), rfl⟩, ⟨(by first | exact Sr | exact Sub.rV rfl), rfl⟩, trivial⟩) ?_
 refine Ju (step_insert (kv := kvI) (R := rkind) (KeyT.int underlying3) underlying164 Sr Sr Sr zS) fun _ => ?_
 refine Js rfl (step_build (x := (⟨1, .func (.func 173) #[] #[], .func (.func 174) #[] #[], .func (.func 175) #[] #[]⟩ : Gkind)) (zs := [[Value.int .i64 0], [Value.nilFunc], [Value.nilFunc], [Value.nilFunc]]) so213 (fun w => zeroValue213 w) ⟨Sr, (by first | exact Sr | exact Sub.rV rfl), (by first | exact Sr | exact Sub.rV rfl), (by first | exact Sr | exact Sub.rV rfl), trivial⟩ ⟨⟨Sr, rfl⟩, ⟨(by first | exact Sr | exact Sub.rV rfl), rfl⟩, ⟨(by first | exact Sr | exact Sub.rV rfl), rfl⟩, ⟨(by first | exact Sr | exact Sub.rV rfl), rfl⟩, trivial⟩) ?_
 refine Ju (step_insert (kv := kvI) (R := rkind) (KeyT.int underlying3) underlying164 Sr Sr Sr zS) fun _ => ?_
 refine Jm rfl ?_
 refine Js rfl (step_build (x := (⟨1, .func (.func 176) #[] #[], .func (.func 177) #[] #[], .func (.func 168) #[] #[]⟩ : Gkind)) (zs := [[Value.int .i64 0], [Value.nilFunc], [Value.nilFunc], [Value.nilFunc]]) so213 (fun w => zeroValue213 w) ⟨Sr, (by first | exact Sr | exact Sub.rV rfl), (by first | exact Sr | exact Sub.rV rfl), (by first | exact Sr | exact Sub.rV rfl), trivial⟩ ⟨⟨Sr, rfl⟩, ⟨(by first | exact Sr | exact Sub.rV rfl), rfl⟩, ⟨(by first | exact Sr | exact Sub.rV rfl), rfl⟩, ⟨(by first | exact Sr | exact Sub.rV rfl), rfl⟩, trivial⟩) ?_
 refine Ju (step_insert (kv := kvI) (R := rkind) (KeyT.int underlying3) underlying164 Sr Sr Sr zS) fun _ => ?_
 refine Jm rfl ?_
 refine Js rfl (step_build (x := (⟨2, .func (.func 178) #[] #[], .func (.func 179) #[] #[], .func (.func 169) #[] #[]⟩ : Gkind)) (zs := [[Value.int .i64 0], [Value.nilFunc], [Value.nilFunc], [Value.nilFunc]]) so213 (fun w => zeroValue213 w) ⟨Sr, (by first | exact Sr | exact Sub.rV rfl), (by first | exact Sr | exact Sub.rV rfl), (by first | exact Sr | exact Sub.rV rfl), trivial⟩ ⟨⟨Sr, rfl⟩, ⟨(by first | exact Sr | exact Sub.rV rfl), rfl⟩, ⟨(by first | exact Sr | exact Sub.rV rfl), rfl⟩, ⟨(by first | exact Sr | exact Sub.rV rfl), rfl⟩, trivial⟩) ?_
 refine Ju (step_insert (kv := kvI) (R := rkind) (KeyT.int underlying3) underlying164 Sr Sr Sr zS) fun _ => ?_
 refine Jm rfl ?_
 refine Js rfl (step_build (x := (⟨2, .func (.func 180) #[] #[], .func (.func 181) #[] #[], .func (.func 169) #[] #[]⟩ : Gkind)) (zs := [[Value.int .i64 0], [Value.nilFunc], [Value.nilFunc], [Value.nilFunc]]) so213 (fun w => zeroValue213 w) ⟨Sr, (by first | exact Sr | exact Sub.rV rfl), (by first | exact Sr | exact Sub.rV rfl), (by first | exact Sr | exact Sub.rV rfl), trivial⟩ ⟨⟨Sr, rfl⟩, ⟨(by first | exact Sr | exact Sub.rV rfl), rfl⟩, ⟨(by first | exact Sr | exact Sub.rV rfl), rfl⟩, ⟨(by first | exact Sr | exact Sub.rV rfl), rfl⟩, trivial⟩) ?_
 refine Ju (step_insert (kv := kvI) (R := rkind) (KeyT.int underlying3) underlying164 Sr Sr Sr zS) fun _ => ?_
 refine Jm rfl ?_
 refine Js rfl (step_build (x := (⟨2, .func (.func 180) #[] #[], .func (.func 182) #[] #[], .func (.func 169) #[] #[]⟩ : Gkind)) (zs := [[Value.int .i64 0], [Value.nilFunc], [Value.nilFunc], [Value.nilFunc]]) so213 (fun w => zeroValue213 w) ⟨Sr, (by first | exact Sr | exact Sub.rV rfl), (by first | exact Sr | exact Sub.rV rfl), (by first | exact Sr | exact Sub.rV rfl), trivial⟩ ⟨⟨Sr, rfl⟩, ⟨(by first | exact Sr | exact Sub.rV rfl), rfl⟩, ⟨(by first | exact Sr | exact Sub.rV rfl), rfl⟩, ⟨(by first | exact Sr | exact Sub.rV rfl), rfl⟩, trivial⟩) ?_
 refine Ju (step_insert (kv := kvI) (R := rkind) (KeyT.int underlying3) underlying164 Sr Sr Sr zS) fun _ => ?_
 refine Js rfl (step_build (x := (⟨1, .func (.func 183) #[] #[], .func (.func 184) #[] #[], .func (.func 185) #[] #[]⟩ : Gkind)) (zs := [[Value.int .i64 0], [Value.nilFunc], [Value.nilFunc], [Value.nilFunc]]) so213 (fun w => zeroValue213 w) ⟨Sr, (by first | exact Sr | exact Sub.rV rfl), (by first | exact Sr | exact Sub.rV rfl), (by first | exact Sr | exact Sub.rV rfl), trivial⟩ ⟨⟨Sr, rfl⟩, ⟨(by first | exact Sr | exact Sub.rV rfl), rfl⟩, ⟨(by first | exact Sr | exact Sub.rV rfl), rfl⟩, ⟨(by first | exact Sr | exact Sub.rV rfl), rfl⟩, trivial⟩) ?_
 refine Ju (step_insert (kv := kvI) (R := rkind) (KeyT.int underlying3) underlying164 Sr Sr Sr zS) fun _ => ?_
 refine Js rfl (step_build (x := (⟨1, .func (.func 186) #[] #[], .func (.func 187) #[] #[], .func (.func 188) #[] #[]⟩ : Gkind)) (zs := [[Value.int .i64 0], [Value.nilFunc], [Value.nilFunc], [Value.nilFunc]]) so213 (fun w => zeroValue213 w) ⟨Sr, (by first | exact Sr | exact Sub.rV rfl), (by first | exact Sr | exact Sub.rV rfl), (by first | exact Sr | exact Sub.rV rfl), trivial⟩ ⟨⟨Sr, rfl⟩, ⟨(by first | exact Sr | exact Sub.rV rfl), rfl⟩, ⟨(by first | exact Sr | exact Sub.rV rfl), rfl⟩, ⟨(by first | exact Sr | exact Sub.rV rfl), rfl⟩, trivial⟩) ?_
 refine Ju (step_insert (kv := kvI) (R := rkind) (KeyT.int underlying3) underlying164 Sr Sr Sr zS) fun _ => ?_
 refine Jm rfl (Ja rfl (JL_nil (J_ret ?_)))
 refine K_ret1' (rv := .tmp 0) rfl () (Sel.all _) (.tmp Sr) (Frz.mapI (m := kindsM))
section
variable {ro : Option Nat} {N : Nat} {ds : List Deferred} {h0 : PH} {w0 : World} {r : PH} {E : Env} {L : List SP} {d : Option Nat} {ty : Nat} {pos : String} {af : Array Edge} {g : Option (Nat × Bool)} {x y : Operand} {ts : Array Nat}
theorem step_kfun {f : Nat} {A : Ty} {R : Ty} (v : Value) (hv : v = .func (.func f) #[] #[]) (hf : Fun1 prog f [A] R) (he : ∀ args w, (callFunc f args).run prog w = .ok (.enter f args) w) (hx : Sub (opTy E x) (rV.ty v)) (hy : Sub (opTy E y) A) :
    Step (X := Unit) ⟨prog, ro, N, ds, h0, w0, r⟩ ⟨d, .call { callee := .value x, args := #[y], argTypes := ts }, ty, pos, af, g⟩ E L (fun _ => R) (fun _ => L) :=
  step_callv0 (f := f) (aT := [A]) (As := []) (fun h u e => by
    obtain ⟨e1, _⟩ := hx h u e
    rw [hv] at e1
    exact ⟨[], e1, trivial⟩) hf ⟨hy, trivial⟩ he
theorem step_rest {n : Nat} {p : GPlan} (hk : kindOk p.Kind = true) (hx : Sub (opTy E x) (rV.ty (kindV p.Kind).rest)) (hy : Sub (opTy E y) ((rPlan (n + 1)).ty p)) :
    Step (X := Unit) ⟨prog, ro, N, ds, h0, w0, r⟩ ⟨d, .call { callee := .value x, args := #[y], argTypes := ts }, ty, pos, af, g⟩ E L (fun _ => (rPlan (n + 1)).ty (restM p)) (fun _ => L) := by
  rcases kind_cases hk with h | h | h | h | h | h | h | h <;> rw [h] at hx
  · rw [show restM p = GPl.mk p.Kind 0 p.Kids p.Tests p.Cols p.Col p.Agg p.Attrs by simp [restM, h]]; exact step_kfun _ rfl (restTable_spec n p) call172 hx hy
  · rw [show restM p = GPl.mk p.Kind p.Table p.Kids [] p.Cols p.Col p.Agg p.Attrs by simp [restM, h]]; exact step_kfun _ rfl (restTests_spec n p) call175 hx hy
  · rw [show restM p = GPl.mk p.Kind p.Table p.Kids p.Tests [] p.Col p.Agg p.Attrs by simp [restM, h]]; exact step_kfun _ rfl (restCols_spec n p) call168 hx hy
  · rw [show restM p = p by simp [restM, h]]; exact step_kfun _ rfl (restSame_spec n p) call169 hx hy
  · rw [show restM p = p by simp [restM, h]]; exact step_kfun _ rfl (restSame_spec n p) call169 hx hy
  · rw [show restM p = p by simp [restM, h]]; exact step_kfun _ rfl (restSame_spec n p) call169 hx hy
  · rw [show restM p = GPl.mk p.Kind p.Table p.Kids p.Tests p.Cols 0 p.Agg p.Attrs by simp [restM, h]]; exact step_kfun _ rfl (restCol_spec n p) call185 hx hy
  · rw [show restM p = GPl.mk p.Kind p.Table p.Kids p.Tests [] 0 0 p.Attrs by simp [restM, h]]; exact step_kfun _ rfl (restGrp_spec n p) call188 hx hy
theorem step_cols {n : Nat} {p : Gplan} (hk : kindOk p.Plan.Kind = true) (hn : (p.Plan.Kids.length : Int) = kidsN p.Plan.Kind) (hz : SchSz p.schema) (hp : PlSz (n + 1) p.Plan) (hx : Sub (opTy E x) (rV.ty (kindV p.Plan.Kind).columns)) (hy : Sub (opTy E y) ((rplan n).ty p)) :
    Step (X := Unit) ⟨prog, ro, N, ds, h0, w0, r⟩ ⟨d, .call { callee := .value x, args := #[y], argTypes := ts }, ty, pos, af, g⟩ E L (fun _ => tTup [tSl rAttr (colsM p.schema p.Plan).1, tV (.bool (colsM p.schema p.Plan).2)]) (fun _ => L) := by
  obtain ⟨z1, z2, z3, z4, z5⟩ := hp
  have hA : ∀ i, i < p.Plan.Kids.length → (nth p.Plan.Kids i).Attrs.length ≤ 100000000 := fun i hi => Nat.le_trans (z5 _ (nth_mem hi)).2 (by omega)
  rcases kind_cases hk with h | h | h | h | h | h | h | h <;> rw [h] at hx hn
  · have e : colsM p.schema p.Plan = (if 0 ≤ p.Plan.Table ∧ p.Plan.Table < p.schema.Tables.length then tableL (nth p.schema.Tables p.Plan.Table.toNat) p.Plan.Attrs else [], decide (0 ≤ p.Plan.Table ∧ p.Plan.Table < p.schema.Tables.length)) := by
      unfold colsM; rw [if_pos h]; split
      · rename_i q; simp [q]
      · rename_i q; simp [q]
    rw [e]; exact step_kfun _ rfl (plTable_spec n p hz (by omega)) call170 hx hy
  · have e : colsM p.schema p.Plan = ((nth p.Plan.Kids 0).Attrs, decide (0 < (p.Plan.Tests.length : Int)) && !(p.Plan.Tests.any fun t => !testOk t (nth p.Plan.Kids 0).Attrs.length)) := by simp [colsM, h]
    rw [e]; exact step_kfun _ rfl (plSel_spec n p (by simp [kidsN] at hn; omega) (by omega)) call173 hx hy
  · have e : colsM p.schema p.Plan = (pickM (nth p.Plan.Kids 0).Attrs p.Plan.Cols, pickOk (nth p.Plan.Kids 0).Attrs.length p.Plan.Cols) := by simp [colsM, h]
    rw [e]; exact step_kfun _ rfl (plProj_spec n p (by simp [kidsN] at hn; omega) (by omega)) call176 hx hy
  · have hn2 : p.Plan.Kids.length = 2 := by simp [kidsN] at hn; omega
    have e : colsM p.schema p.Plan = (if joinOk (nth p.Plan.Kids 0).Attrs (nth p.Plan.Kids 1).Attrs = true then joinL (nth p.Plan.Kids 0).Attrs (nth p.Plan.Kids 1).Attrs else [], joinOk (nth p.Plan.Kids 0).Attrs (nth p.Plan.Kids 1).Attrs) := by
      have e1 : colsM p.schema p.Plan = if joinOk (nth p.Plan.Kids 0).Attrs (nth p.Plan.Kids 1).Attrs = true then (joinL (nth p.Plan.Kids 0).Attrs (nth p.Plan.Kids 1).Attrs, true) else ([], false) := by simp [colsM, h]
      rw [e1]; split
      · rename_i q; rw [q]
      · rename_i q; rw [Bool.eq_false_iff.2 q]
    rw [e]; exact step_kfun _ rfl (plJoin_spec n p (by omega) (hA 0 (by omega)) (hA 1 (by omega))) call178 hx hy
  · have hn2 : p.Plan.Kids.length = 2 := by simp [kidsN] at hn; omega
    have e : colsM p.schema p.Plan = ((nth p.Plan.Kids 0).Attrs, alikeM (nth p.Plan.Kids 0).Attrs (nth p.Plan.Kids 1).Attrs) := by simp [colsM, h]
    rw [e]; exact step_kfun _ rfl (plBoth_spec n p (by omega) (hA 0 (by omega))) call180 hx hy
  · have hn2 : p.Plan.Kids.length = 2 := by simp [kidsN] at hn; omega
    have e : colsM p.schema p.Plan = ((nth p.Plan.Kids 0).Attrs, alikeM (nth p.Plan.Kids 0).Attrs (nth p.Plan.Kids 1).Attrs) := by simp [colsM, h]
    rw [e]; exact step_kfun _ rfl (plBoth_spec n p (by omega) (hA 0 (by omega))) call180 hx hy
  · have hn1 : p.Plan.Kids.length = 1 := by simp [kidsN] at hn; omega
    have e : colsM p.schema p.Plan = (if renOk p.Plan = true then renL p.Plan else [], renOk p.Plan) := by
      have e1 : colsM p.schema p.Plan = if renOk p.Plan = true then (renL p.Plan, true) else ([], false) := by simp [colsM, h]
      rw [e1]; split
      · rename_i q; rw [q]
      · rename_i q; rw [Bool.eq_false_iff.2 q]
    rw [e]; exact step_kfun _ rfl (plRen_spec n p (by omega) (hA 0 (by omega))) call183 hx hy
  · have hn1 : p.Plan.Kids.length = 1 := by simp [kidsN] at hn; omega
    have e : colsM p.schema p.Plan = (if grpOk p.Plan = true then grpL p.Plan else [], grpOk p.Plan && grpB p.Plan) := by
      have e1 : colsM p.schema p.Plan = if grpOk p.Plan = true then (grpL p.Plan, grpB p.Plan) else ([], false) := by simp [colsM, h]
      rw [e1]; split
      · rename_i q; rw [q, Bool.true_and]
      · rename_i q; rw [Bool.eq_false_iff.2 q, Bool.false_and]
    rw [e]; exact step_kfun _ rfl (plGrp_spec n p (by omega) (hA 0 (by omega)) (by omega)) call186 hx hy
end
open Go Go.Proofs Go.Proofs.Tryz
theorem cols_len {s : GSchema} {n : Nat} {p : GPlan} (hz : SchSz s) (hp : PlSz (n + 1) p) (hk : kindOk p.Kind = true) (hn : (p.Kids.length : Int) = kidsN p.Kind) : (colsM s p).1.length ≤ 1000000000000 := by
  obtain ⟨z1, z2, z3, z4, z5⟩ := hp
  have hA : ∀ i, i < p.Kids.length → (nth p.Kids i).Attrs.length ≤ 100000000 := fun i hi => Nat.le_trans (z5 _ (nth_mem hi)).2 (by omega)
  rcases kind_cases hk with h | h | h | h | h | h | h | h <;> rw [h] at hn <;> simp only [kidsN] at hn <;> simp at hn
  · have e : colsM s p = if 0 ≤ p.Table ∧ p.Table < s.Tables.length then (tableL (nth s.Tables p.Table.toNat) p.Attrs, true) else ([], false) := by simp [colsM, h]
    rw [e]; split
    · rename_i q
      have := (hz.tab _ (nth_mem (l := s.Tables) (i := p.Table.toNat) (by omega))).at'
      simp only [tableL, List.length_map, List.length_range]; omega
    · simp
  · have e : (colsM s p).1 = (nth p.Kids 0).Attrs := by simp [colsM, h]
    rw [e]; have := hA 0 (by omega); omega
  · have e : (colsM s p).1 = pickM (nth p.Kids 0).Attrs p.Cols := by simp [colsM, h]
    rw [e]; have := pickM_len (nth p.Kids 0).Attrs p.Cols; omega
  · have e : colsM s p = if joinOk (nth p.Kids 0).Attrs (nth p.Kids 1).Attrs = true then (joinL (nth p.Kids 0).Attrs (nth p.Kids 1).Attrs, true) else ([], false) := by simp [colsM, h]
    rw [e]; split
    · have := joinL_len (nth p.Kids 0).Attrs (nth p.Kids 1).Attrs
      have := hA 0 (by omega); have := hA 1 (by omega); simp only []; omega
    · simp
  · have e : (colsM s p).1 = (nth p.Kids 0).Attrs := by simp [colsM, h]
    rw [e]; have := hA 0 (by omega); omega
  · have e : (colsM s p).1 = (nth p.Kids 0).Attrs := by simp [colsM, h]
    rw [e]; have := hA 0 (by omega); omega
  · have e : colsM s p = if renOk p = true then (renL p, true) else ([], false) := by simp [colsM, h]
    rw [e]; split
    · simp only [renL, List.length_set]; have := hA 0 (by omega); omega
    · simp
  · have e : colsM s p = if grpOk p = true then (grpL p, grpB p) else ([], false) := by simp [colsM, h]
    rw [e]; split
    · simp only [grpL, pickL, List.length_append, List.length_map, List.length_singleton]; omega
    · simp
/-- What valid does at queries of a depth. -/
def ValidS (s : GSchema) (n : Nat) : Prop := ∀ (lv : Nat) (p : GPlan), lv ≤ 1000 → PlSz n p → Fun1 prog 105 [rSchema.ty s, tMapI kvI rkind kindsM, (rPlan n).ty p, tV (.int .i64 lv)] (tV (.bool (validM s lv p)))
set_option maxHeartbeats 4000000 in
theorem valid1_spec (s : GSchema) (hz : SchSz s) (n lv : Nat) (p : GPlan) (hlv : lv ≤ 1000) (hp : PlSz (n + 1) p) (ih : ValidS s n) : Fun1 prog 105 [rSchema.ty s, tMapI kvI rkind kindsM, (rPlan (n + 1)).ty p, tV (.int .i64 lv)] (tV (.bool (validM s lv p))) := by
 refine Spec.enter func105 rfl rfl fun h0 w0 fr0 => ?_
 obtain ⟨z1, z2, z3, z4, z5⟩ := id hp
 refine Jr (Js rfl (step_box (R := rSchema) Sr) (Js rfl (step_box (R := (rPlan (n + 1))) Sr) (Ja rfl (JL_nil (Jr ?_)))))
 refine Jm rfl (Js rfl (step_fieldAddr so46 Sr rfl) (Jl rfl ty3 Sr (Js rfl (step_lookupI_ok (kv := kvI) (R := rkind) (z := zkind) (KeyT.int underlying3) underlying164 (fun w => zeroValue213 w) zr213 Sr Sr) (Jm rfl (Js rfl (step_extract Sr rfl) ?_)))))
 refine Js rfl (step_extract Sr rfl) ?_
 refine Jx rfl (step_alloc (fun w => zeroValue213 w) zr213) fun v9 => ?_
 refine Ju (step_store_box ty213 Sr Sr zS) fun _ => ?_
 refine JL_freeze (t := 9) (Sel.take (Sel.none _)) Frz.box ?_
 refine Ja rfl (JL_nil (J_seq (Jr (Jm rfl (Js rfl (step_not Sr) ?_)))))
 refine Jm rfl ?_
 refine Jk rfl Sr rfl (step_move Sr) ?_
 refine Jg rfl Sr rfl (fun hw => step_eql (Sub.w hw) Sr) (Js rfl (step_pick_or Sr Sr) (Jm rfl ?_))
 refine Jk rfl Sr rfl (step_fieldAddr so46 Sr rfl) ?_
 refine Jg rfl Sr rfl (fun hw => step_load_ptr ty42 (Sub.w hw)) (Jg rfl Sr rfl (fun hw => step_len_sl underlying42 (Sub.w hw)) ?_)
 refine Jk rfl Sr rfl (step_fieldAddr so213 Sr rfl) ?_
 refine Jg rfl Sr rfl (fun hw => step_load_ptr ty3 (Sub.w hw)) (Jg rfl Sr rfl (fun hw => step_neq (Sub.w hw) (Sub.w hw)) (Js rfl (step_pick_or Sr Sr) (JL_nil ?_)))
 refine J_cond Sr (fun h37 => ?_) (fun h37 => ?_)
 ·
  try simp only [NF] at h37
  refine Jr (Ja rfl (JL_nil (J_ret ?_)))
  refine K_ret1 (t := 8) rfl () ?_
  refine Sub.bool ?_
  cases lv with
  | zero => rfl
  | succ l =>
   have : (kindOk p.Kind && decide ((p.Kids.length : Int) = kidsN p.Kind)) = false := by
    rw [kinds_some] at h37
    by_cases hkd : kindOk p.Kind = true
    ·
     rw [hkd, Bool.true_and, decide_eq_false_iff_not, ← kinds_kids hkd]
     rcases h37 with (h | h) | h
     ·
      rw [hkd] at h; cases h
     ·
      omega
     exact h
    rw [Bool.eq_false_iff.2 hkd, Bool.false_and]
   simp only [validM, this, Bool.false_and]
 try simp only [NF] at h37
 rw [kinds_some] at h37
 have hkd : kindOk p.Kind = true := by simp_all
 have hkn : (p.Kids.length : Int) = kidsN p.Kind := by rw [← kinds_kids hkd]; simp_all
 obtain ⟨l, rfl⟩ : ∃ l, lv = l + 1 := ⟨lv - 1, by omega⟩
 refine J_skip (J_seq (Jr (Js rfl (step_fieldAddr so46 Sr rfl) (Jl rfl ty42 Sr (Js rfl (step_len_sl underlying42 Sr) ?_)))))
 refine Jm rfl (JL_nil (J_block ?_))
 refine J_loopL (σ := Nat) (fun i => i ≤ p.Kids.length ∧ ∀ k, k < i → validM s l (nth p.Kids k) = true) (fun i => upd (upd (upd (upd (upd (upd (upd (upd (upd env0 1 (tMapI kvI rkind kindsM)) 3 (tV (.int .i64 ((l + 1 : Nat) : Int)))) 4 (tPtr rSchema s)) 6 (tPtr (rPlan (n + 1)) p)) 9 (tPtr rkind (kindV p.Kind))) 10 (tV (.bool (mget kindsM p.Kind).isSome))) 39 (tSl (rPlan n) p.Kids)) 40 (tV (.int .i64 p.Kids.length))) 41 (tV (.int .i64 i))) (fun i => []) (fun i => p.Kids.length - i) 0 ⟨by omega, fun k hk => by omega⟩ (zU) (LSub.rfl) ?_
 rintro i ⟨hi, hv⟩
 refine Jr (Js rfl (step_lss Sr Sr) (JL_nil (J_seq ?_)))
 refine J_cond Sr (fun h42 => ?_) (fun h42 => ?_)
 ·
  try simp only [NF] at h42
  have hlt : i < p.Kids.length := by omega
  refine K_fact 39 (fun _ _ r => kids_pos zG r) fun ⟨m, hm⟩ => ?_
  subst hm
  refine J_skip (J_seq (J_block (Jr ?_)))
  refine Js rfl (step_indexAddr_sl  underlying42 ty46 Sr Sr rfl (gb (by exact hlt))) ?_
  refine Jl rfl ty46 Sr ?_
  refine Jx rfl (step_alloc (fun w => zeroValue46 w) (zr46 (n := m))) fun v12 => ?_
  refine Ju (step_store_box ty46 Sr Sr zS) fun _ => ?_
  refine JL_freeze (t := 12) (Sel.take (Sel.none _)) Frz.box ?_
  refine JL_nil (Jr (Jl rfl ty41 Sr (Jm rfl (Jl rfl ty46 Sr (Jm rfl ?_)))))
  refine Js rfl (step_sub Sr Sr z6) (Js rfl (step_call0 (ih l _ zG (z5 _ (nth_mem hlt)).1) ⟨Sr, Sr, Sr, Sub.int zG, trivial⟩ call105) (Js rfl (step_not Sr) (JL_nil ?_)))
  refine J_cond Sr (fun h51 => ?_) (fun h51 => ?_)
  ·
   try simp only [NF] at h51
   refine Jr (Ja rfl (JL_nil (J_ret ?_)))
   refine K_ret1 (t := 8) rfl () ?_
   refine Sub.bool ?_
   have : p.Kids.all (validM s l) = false := all_f hlt (by simpa using h51)
   simp only [validM, this]; simp
  try simp only [NF] at h51
  refine J_skip (J_region (Js rfl (step_add Sr Sr z6) (Jm rfl (JL_nil ?_))))
  refine K_againL (σ := Nat) (s := i) (i + 1) zO ?_ (zU) (LSub.rfl)
  exact pred_again (p := fun q => validM s l q = true) hlt hv (by simpa using h51)
 try simp only [NF] at h42
 have hkids : p.Kids.all (validM s l) = true := all_t (fun k hk => hv k zG)
 refine J_exit (J_seq (Jr (Js rfl (step_fieldAddr so213 Sr rfl) (Jl rfl ty79 Sr (Jl rfl ty46 Sr ?_)))))
 refine Js rfl (step_rest hkd Sr Sr) ?_
 refine Jx rfl (step_alloc (fun w => zeroValue46 w) (zr46 (n := n))) fun v13 => ?_
 refine Ju (step_store_box ty46 Sr Sr zS) fun _ => ?_
 refine JL_freeze (t := 13) (Sel.take (Sel.none _)) Frz.box ?_
 refine JL_nil (Jr (Js rfl (step_fieldAddr so46 Sr rfl) (Jl rfl ty3 Sr (Js rfl (step_neq Sr Sr) (Jm rfl ?_)))))
 refine Jk rfl Sr rfl (step_fieldAddr so46 Sr rfl) ?_
 refine Jg rfl Sr rfl (fun hw => step_load_ptr ty43 (Sub.w hw)) (Jg rfl Sr rfl (fun hw => step_len_sl underlying43 (Sub.w hw)) (Jg rfl Sr rfl (fun hw => step_gtr (Sub.w hw) Sr) (Js rfl (step_pick_or Sr Sr) (Jm rfl ?_))))
 refine Jk rfl Sr rfl (step_fieldAddr so46 Sr rfl) ?_
 refine Jg rfl Sr rfl (fun hw => step_load_ptr ty36 (Sub.w hw)) (Jg rfl Sr rfl (fun hw => step_len_sl underlying36 (Sub.w hw)) (Jg rfl Sr rfl (fun hw => step_gtr (Sub.w hw) Sr) (Js rfl (step_pick_or Sr Sr) (Jm rfl ?_))))
 refine Jk rfl Sr rfl (step_fieldAddr so46 Sr rfl) ?_
 refine Jg rfl Sr rfl (fun hw => step_load_ptr ty3 (Sub.w hw)) (Jg rfl Sr rfl (fun hw => step_neq (Sub.w hw) Sr) (Js rfl (step_pick_or Sr Sr) (Jm rfl ?_)))
 refine Jk rfl Sr rfl (step_fieldAddr so46 Sr rfl) ?_
 refine Jg rfl Sr rfl (fun hw => step_load_ptr ty3 (Sub.w hw)) (Jg rfl Sr rfl (fun hw => step_neq (Sub.w hw) Sr) (Js rfl (step_pick_or Sr Sr) (JL_nil ?_)))
 refine J_cond Sr (fun h81 => ?_) (fun h81 => ?_)
 ·
  try simp only [NF] at h81
  refine Jr (Ja rfl (JL_nil (J_ret ?_)))
  refine K_ret1 (t := 8) rfl () ?_
  refine Sub.bool ?_
  have : bareM p = false := by
   unfold bareM
   simp only [NF]
   exact h81
  simp only [validM, this]; simp
 try simp only [NF] at h81
 have hb : bareM p = true := by
  unfold bareM
  simp only [NF]
  exact h81
 refine J_skip (J_seq (Jr (Js rfl (step_fieldAddr so46 Sr rfl) (Jl rfl ty44 Sr (Js rfl (step_len_sl underlying44 Sr) ?_)))))
 refine Jm rfl (JL_nil (J_block ?_))
 refine J_loopL (σ := Nat) (fun i => i ≤ p.Attrs.length ∧ ∀ k, k < i → namesOk p.Attrs k = true) (fun i => upd (upd (upd (upd (upd (upd (upd env0 4 (tPtr rSchema s)) 6 (tPtr (rPlan (n + 1)) p)) 9 (tPtr rkind (kindV p.Kind))) 10 (tV (.bool (mget kindsM p.Kind).isSome))) 83 (tSl rAttr p.Attrs)) 84 (tV (.int .i64 p.Attrs.length))) 85 (tV (.int .i64 i))) (fun i => []) (fun i => p.Attrs.length - i) 0 ⟨by omega, fun k hk => by omega⟩ (zU) (LSub.rfl) ?_
 rintro i ⟨hi2, hv2⟩
 refine Jr (Js rfl (step_lss Sr Sr) (JL_nil (J_seq ?_)))
 refine J_cond Sr (fun h86 => ?_) (fun h86 => ?_)
 ·
  try simp only [NF] at h86
  have hlt : i < p.Attrs.length := by omega
  refine J_skip (J_seq (J_block (Jr (Jm rfl ?_))))
  refine Js rfl (step_indexAddr_sl  underlying44 ty89 Sr Sr rfl (gb (by exact hlt))) ?_
  refine Jl rfl ty89 Sr ?_
  refine Jx rfl (step_alloc (fun w => zeroValue89 w) zr89) fun v15 => ?_
  refine Ja rfl ?_
  refine Ju (step_store_box ty89 Sr Sr zS) fun _ => ?_
  refine JL_freeze (t := 15) (Sel.take (Sel.none _)) Frz.box ?_
  refine JL_nil (Jr (Js rfl (step_fieldAddr so46 Sr rfl) (Jl rfl ty44 Sr (Js rfl (step_fieldAddr so89 Sr rfl) (Jl rfl ty9 Sr ?_)))))
  refine Js rfl (step_call0 (acolumn_spec _ _ (by show p.Attrs.length ≤ _; omega)) ⟨Sr, Sr, trivial⟩ call166) ?_
  refine Jm rfl (Js rfl (step_neq Sr Sr) (JL_nil ?_))
  refine J_cond Sr (fun h96 => ?_) (fun h96 => ?_)
  ·
   try simp only [NF] at h96
   refine Jr (Ja rfl (JL_nil (J_ret ?_)))
   refine K_ret1 (t := 8) rfl () ?_
   refine Sub.bool ?_
   have : namesOk p.Attrs i = false := by simpa [namesOk] using h96
   simp only [validM, rall_f hlt this]; simp
  try simp only [NF] at h96
  refine J_skip (J_region (Js rfl (step_add Sr Sr z6) (Jm rfl (JL_nil ?_))))
  refine K_againL (σ := Nat) (s := i) (i + 1) zO ?_ (zU) (LSub.rfl)
  refine ⟨by omega, fun k hk => ?_⟩
  by_cases e : k = i
  ·
   subst e; simpa [namesOk] using h96
  exact hv2 k zG
 try simp only [NF] at h86
 have hns : (List.range p.Attrs.length).all (namesOk p.Attrs) = true := rall_t (fun k hk => hv2 k zG)
 refine J_exit (Jr (Js rfl (step_fieldAddr so213 Sr rfl) (Jl rfl ty210 Sr (Jl rfl ty46 Sr (Jl rfl ty41 Sr ?_)))))
 refine Js rfl (step_build (x := (⟨p, s⟩ : Gplan)) (zs := [[Value.int .i64 0, Value.int .i64 0, Value.slice none 0 0, Value.slice none 0 0, Value.slice none 0 0, Value.int .i64 0, Value.int .i64 0, Value.slice none 0 0], [Value.slice none 0 0]]) so217 (fun w => zeroValue217 w) ⟨Sr, Sr, trivial⟩ ⟨⟨Sr, rfl⟩, ⟨Sr, rfl⟩, trivial⟩) (Js rfl (step_cols hkd hkn hz hp Sr Sr) (Jm rfl (Js rfl (step_extract Sr rfl) (Js rfl (step_extract Sr rfl) (Ja rfl ?_)))))
 refine Ja rfl (JL_nil (Jr (Jm rfl (Jm rfl ?_))))
 refine Jk rfl Sr rfl (step_move Sr) ?_
 refine Jk rfl Sr rfl (step_fieldAddr so46 Sr rfl) ?_
 refine Jg rfl Sr rfl (fun hw => step_load_ptr ty44 (Sub.w hw)) (Jg rfl Sr rfl (fun hw => step_call0 (alike_spec _ _ (cols_len hz hp hkd hkn)) ⟨(Sub.w hw), (Sub.w hw), trivial⟩ call167) (Js rfl (step_pick_and Sr Sr) (Ja rfl (JL_nil (J_ret ?_)))))
 refine K_ret1 (t := 8) rfl () ?_
 refine Sub.bool ?_
 have hkn2 : decide ((p.Kids.length : Int) = kidsN p.Kind) = true := by rw [decide_eq_true_eq]; exact hkn
 simp only [validM, hkd, hkn2, hkids, hb, hns, Bool.true_and]
theorem valid_spec (s : GSchema) (hz : SchSz s) : ∀ n, ValidS s n
 | 0 => fun lv p hlv hp => by
  refine Spec.enter func105 rfl rfl fun h0 w0 fr0 => ?_
  exact K_fact 2 (fun _ _ r => (show False from r)) fun q => q.elim
 | n + 1 => fun lv p hlv hp => valid1_spec s hz n lv p hlv hp (valid_spec s hz n)
def vldM (s : GSchema) (p : GPlan) : Bool := schM s && validM s 12 p
theorem algValid_spec (s : GSchema) (hz : SchSz s) (n : Nat) (p : GPlan) (hp : PlSz n p) : Fun1 prog 60 [rSchema.ty s, (rPlan n).ty p] (tV (.bool (vldM s p))) := by
 refine Spec.enter func60 rfl rfl fun h0 w0 fr0 => ?_
 refine Jr (Js rfl (step_box (R := rSchema) Sr) (Js rfl (step_box (R := (rPlan n)) Sr) (Ja rfl (JL_nil (J_seq ?_)))))
 refine J_draw [⟨0, [2], true⟩, ⟨1, [5], true⟩, ⟨2, [6], true⟩, ⟨3, [2, 7], true⟩, ⟨4, [7], true⟩, ⟨5, [3, 7], true⟩, ⟨6, [7, 8, 9, 10], true⟩, ⟨7, [7, 11], true⟩, ⟨8, [12], true⟩] rfl (by kernel_rfl) ?_
 refine Mf rfl rfl (step_load_ptr ty41 Sr) (Mf rfl rfl (step_call0 (schValid_spec _ hz) ⟨Sr, trivial⟩ call104) (Mv rfl rfl ?_))
 refine Mk rfl rfl Sr rfl (step_load_ptr ty41 Sr) ?_
 refine Mk rfl rfl Sr rfl (step_call0 (kinds_spec) trivial call106) ?_
 refine Mk rfl rfl Sr rfl (step_load_ptr ty46 Sr) ?_
 refine Mg rfl rfl Sr rfl (fun hw => step_call0 (valid_spec s hz n 12 p zG hp) ⟨Sub.w hw, Sub.w hw, Sub.w hw, Sr, trivial⟩ call105) (Mf rfl rfl (step_pick_and Sr Sr) (Mf rfl rfl (step_assign Sr) (JM_nil (J_ret ?_))))
 exact K_ret1 (t := 4) rfl () Sr
open Go Go.Proofs Go.Proofs.Tryz
section
variable {C : Cx} {E : Env} {L : List SP} {d : Option Nat} {ty : Nat} {pos : String} {af : Array Edge} {g : Option (Nat × Bool)}
theorem step_addW {T U : Nat} {x y : Operand} {a b : Int} (hx : Sub (opTy E x) (tV (.int .i64 a))) (hy : Sub (opTy E y) (tV (.int .i64 b))) :
    Step1 C ⟨d, .binOp .add T x y U, ty, pos, af, g⟩ E L (tV (.int .i64 (IntKind.i64.wrap (a + b)))) := step_int hx hy (fun P w => by simp [binOp, Op.intArith])
end
open Go Go.Proofs Go.Proofs.Tryz
theorem plan_posP {n : Nat} {p : GPlan} {h : PH} {v : Value} (hv : ((rPlan (n + 1)).ty p).p h v) : ∃ m, 0 < p.Kids.length → n = m + 1 := by
  by_cases hp : 0 < p.Kids.length
  · obtain ⟨cs, r, _⟩ := hv
    obtain ⟨d0, _, rfl, _, d1, _, rfl, _, d2, _, rfl, r2, _⟩ := (show SF.rel h p (fsPl cPl rAttr rTest (rPlan n)) cs from r)
    obtain ⟨u, _, hu⟩ := r2
    obtain ⟨m, hm⟩ := kids_pos hp hu
    exact ⟨m, fun _ => hm⟩
  · exact ⟨0, fun q => absurd q hp⟩
open Go Go.Proofs Go.Proofs.Tryz
/-- The state of a builder of atoms. -/
structure Bst where
  P : List Gplace
  F : List Int
  T : List Int
  S : List Int
  bad : Bool
def st0 : Bst := ⟨[], [], [], [], false⟩
open Go Go.Proofs Go.Proofs.Tryz
/-- The depth of a query. -/
def Dep : Nat → GPlan → Prop
  | 0, _ => False
  | n + 1, p => ∀ q ∈ p.Kids, Dep n q
theorem pl_dep : ∀ {n : Nat} {h : PH} {p : GPlan} {cs : List Value}, (rPlan n).rel h p cs → Dep n p
  | 0, _, _, _, r => r.elim
  | n + 1, h, p, cs, r => by
    obtain ⟨c0, _, rfl, _, c1, _, rfl, _, c2, _, rfl, r2, _⟩ := (show SF.rel h p (fsPl cPl rAttr rTest (rPlan n)) cs from r)
    obtain ⟨u, _, hu⟩ := r2
    intro q hq
    obtain ⟨ao, cap, e, H⟩ := hu
    obtain ⟨b, off, ea, H2⟩ := H (by intro z; rw [show p.Kids = [] from z] at hq; cases hq)
    obtain ⟨i, hi, rfl⟩ := List.getElem_of_mem hq
    obtain ⟨cs, _, r3⟩ := H2 i _ (List.getElem?_eq_getElem hi)
    exact pl_dep r3
theorem ty_dep {n : Nat} {h : PH} {p : GPlan} {v : Value} (hv : ((rPlan n).ty p).p h v) : Dep n p := by
  obtain ⟨cs, r, _⟩ := (rPlan n).iff.1 hv
  exact pl_dep r
theorem nth_app2 {α : Type} [Inhabited α] {a b : List α} {i : Nat} (h : a.length ≤ i) (h2 : i < a.length + b.length) : nth (a ++ b) i = nth b (i - a.length) := by
  rw [nth_get (by rw [List.length_append]; omega), nth_get (by omega)]; exact List.getElem_append_right h
open Go Go.Proofs Go.Proofs.Tryz
theorem alike_len {a b : List GAttr} (h : alikeM a b = true) : a.length = b.length := by
  unfold alikeM eqL at h; simp only [Bool.and_eq_true, decide_eq_true_eq] at h; exact h.1
theorem valid_in {s : GSchema} {l : Nat} {p : GPlan} (h : validM s l p = true) : ∃ l', l = l' + 1 ∧ kindOk p.Kind = true ∧ (p.Kids.length : Int) = kidsN p.Kind ∧ (∀ q ∈ p.Kids, validM s l' q = true) ∧ (colsM s p).2 = true ∧ (colsM s p).1.length = p.Attrs.length := by
  cases l with
  | zero => simp [validM] at h
  | succ l =>
    simp only [validM, Bool.and_eq_true, decide_eq_true_eq, List.all_eq_true] at h
    exact ⟨l, rfl, h.1.1.1.1.1, h.1.1.1.1.2, h.1.1.1.2, h.2.1, alike_len h.2.2⟩
section
variable {s : GSchema} {l : Nat} {p : GPlan}
theorem vk1 (h : validM s l p = true) (hk : p.Kind = 1) : (0 ≤ p.Table ∧ p.Table < s.Tables.length) ∧ p.Attrs.length = (nth s.Tables p.Table.toNat).Attrs.length := by
  obtain ⟨l', _, _, _, _, h1, h2⟩ := valid_in h
  have e : colsM s p = if 0 ≤ p.Table ∧ p.Table < s.Tables.length then (tableL (nth s.Tables p.Table.toNat) p.Attrs, true) else ([], false) := by simp [colsM, hk]
  rw [e] at h1 h2
  split at h1
  · rename_i q
    rw [if_pos q] at h2
    exact ⟨q, by rw [← h2]; simp [tableL]⟩
  · cases h1
theorem vk2 (h : validM s l p = true) (hk : p.Kind = 2) : p.Kids.length = 1 ∧ (∀ t ∈ p.Tests, testOk t (nth p.Kids 0).Attrs.length = true) ∧ p.Attrs.length = (nth p.Kids 0).Attrs.length := by
  obtain ⟨l', _, _, hn, _, h1, h2⟩ := valid_in h
  have e : colsM s p = ((nth p.Kids 0).Attrs, decide (0 < (p.Tests.length : Int)) && !(p.Tests.any fun t => !testOk t (nth p.Kids 0).Attrs.length)) := by simp [colsM, hk]
  rw [e] at h1 h2
  rw [hk] at hn
  simp [kidsN] at hn
  simp only [Bool.and_eq_true, Bool.not_eq_true', List.any_eq_false] at h1
  exact ⟨by omega, fun t ht => by simpa using h1.2 t ht, h2.symm⟩
theorem vk3 (h : validM s l p = true) (hk : p.Kind = 3) : p.Kids.length = 1 ∧ (∀ c ∈ p.Cols, 0 ≤ c ∧ c < (nth p.Kids 0).Attrs.length) ∧ p.Attrs.length = p.Cols.length := by
  obtain ⟨l', _, _, hn, _, h1, h2⟩ := valid_in h
  have e : colsM s p = (pickM (nth p.Kids 0).Attrs p.Cols, pickOk (nth p.Kids 0).Attrs.length p.Cols) := by simp [colsM, hk]
  rw [e] at h1 h2
  rw [hk] at hn
  simp [kidsN] at hn
  have h3 := h1
  simp only [pickOk, List.all_eq_true, Bool.and_eq_true, decide_eq_true_eq] at h1
  refine ⟨by omega, h1, ?_⟩
  rw [← h2]
  show (pickM _ _).length = _
  rw [pickM, if_pos h3]; simp [pickL]
theorem vk4 (h : validM s l p = true) (hk : p.Kind = 4) : p.Kids.length = 2 ∧ p.Attrs.length = (joinL (nth p.Kids 0).Attrs (nth p.Kids 1).Attrs).length := by
  obtain ⟨l', _, _, hn, _, h1, h2⟩ := valid_in h
  have e : colsM s p = if joinOk (nth p.Kids 0).Attrs (nth p.Kids 1).Attrs = true then (joinL (nth p.Kids 0).Attrs (nth p.Kids 1).Attrs, true) else ([], false) := by simp [colsM, hk]
  rw [e] at h1 h2
  rw [hk] at hn
  simp [kidsN] at hn
  split at h1
  · rename_i q
    rw [if_pos q] at h2
    exact ⟨by omega, h2.symm⟩
  · cases h1
theorem vk7 (h : validM s l p = true) (hk : p.Kind = 7) : p.Kids.length = 1 ∧ p.Attrs.length = (nth p.Kids 0).Attrs.length := by
  obtain ⟨l', _, _, hn, _, h1, h2⟩ := valid_in h
  have e : colsM s p = if renOk p = true then (renL p, true) else ([], false) := by simp [colsM, hk]
  rw [e] at h1 h2
  rw [hk] at hn
  simp [kidsN] at hn
  split at h1
  · rename_i q
    rw [if_pos q] at h2
    exact ⟨by omega, by rw [← h2]; simp [renL]⟩
  · cases h1
end
theorem sch_attrs {s : GSchema} (h : schM s = true) {i : Nat} (hi : i < s.Tables.length) : (nth s.Tables i).Attrs.length ≤ 12 := by
  unfold schM at h
  simp only [Bool.and_eq_true, decide_eq_true_eq] at h
  have h1 := rall_iff.1 h.2 i hi
  simp only [Bool.and_eq_true] at h1
  have h2 := h1.1
  unfold rightM szT at h2
  simp only [Bool.and_eq_true, decide_eq_true_eq] at h2
  exact h2.1.1.1.1.2.2.1
open Go
structure It3 where
  i : Nat
  ts : List Nat
  c : Nat
def JX (C : Cx) (ops : Array Oper) (k : Env → List SP → Prop) : List It3 → Env → List SP → Prop
  | [], E, L => k E L
  | ⟨i, ts, 0⟩ :: its, E, L => ∃ o A, ops[i]? = some o ∧ ltO o.dst C.N = true ∧ (∀ L, StepG C ops o (restr ts E) L A) ∧ JX C ops k its (updO E o.dst A) L
  | ⟨i, ts, 1⟩ :: its, E, L => ∃ o A, ops[i]? = some o ∧ ltO o.dst C.N = true ∧ StepG C ops o (restr ts E) L A ∧ JX C ops k its (updO E o.dst A) L
  | ⟨i, ts, _ + 2⟩ :: its, E, L => ∃ o, ops[i]? = some o ∧ ltO o.dst C.N = true ∧ ∃ (X : Type) (A : X → Ty) (L' : X → List SP), WantX ops o (restr ts E) ∧ Step C o (restr ts E) L A L' ∧ ∀ x, JX C ops k its (updO E o.dst (A x)) (L' x)
section
variable {C : Cx} {ops : Array Oper} {k : Env → List SP → Prop} {its : List It3} {E : Env} {L : List SP} {i : Nat} {ts : List Nat} {o : Oper}
theorem JX_nil (h : k E L) : JX C ops k [] E L := h
theorem JX_step {A : Ty} {d : Nat} (ho : ops.toList[i]? = some o) (hg : o.guard = none) (hd : o.dst = some d) (hN : Nat.blt d C.N = true) (hs : ∀ L, Step1 C o (restr ts E) L A)
    (hk : JX C ops k its (upd E d A) L) : JX C ops k (⟨i, ts, 0⟩ :: its) E L :=
  ⟨o, A, by simpa using ho, by rw [hd]; exact hN, fun L => .inl ⟨hg, hs L⟩, by rw [hd]; exact hk⟩
theorem JX_look {A : Ty} {d : Nat} (ho : ops.toList[i]? = some o) (hg : o.guard = none) (hd : o.dst = some d) (hN : Nat.blt d C.N = true) (hs : Step1 C o (restr ts E) L A)
    (hk : JX C ops k its (upd E d A) L) : JX C ops k (⟨i, ts, 1⟩ :: its) E L :=
  ⟨o, A, by simpa using ho, by rw [hd]; exact hN, .inl ⟨hg, hs⟩, by rw [hd]; exact hk⟩
theorem JX_stepX {X : Type} {A : X → Ty} {L' : X → List SP} {d : Nat} (ho : ops.toList[i]? = some o) (hg : o.guard = none) (hd : o.dst = some d) (hN : Nat.blt d C.N = true) (hs : Step C o (restr ts E) L A L')
    (hk : ∀ x, JX C ops k its (upd E d (A x)) (L' x)) : JX C ops k (⟨i, ts, 2⟩ :: its) E L :=
  ⟨o, by simpa using ho, by rw [hd]; exact hN, X, A, L', .inl hg, hs, fun x => by rw [hd]; exact hk x⟩
theorem JX_stepU {X : Type} {A : X → Ty} {L' : X → List SP} (ho : ops.toList[i]? = some o) (hg : o.guard = none) (hd : o.dst = none) (hs : Step C o (restr ts E) L A L')
    (hk : ∀ x, JX C ops k its E (L' x)) : JX C ops k (⟨i, ts, 2⟩ :: its) E L :=
  ⟨o, by simpa using ho, by rw [hd]; rfl, X, A, L', .inl hg, hs, fun x => by rw [hd]; exact hk x⟩
end
structure Pl3 where
  i : Nat
  ts : List Nat
  c : Nat
  aft : List Nat
  dst : Option Nat
def plOf3 (ops : List Oper) (x : It3) : Pl3 := ⟨x.i, x.ts, x.c, aftOf ops x.i, dstOf ops x.i⟩
def okPair3 (a b : Pl3) : Bool := !Nat.beq a.i b.i && (memN a.i b.aft || (!inO a.dst b.ts && !inO b.dst a.ts && !eqO a.dst b.dst))
def okTail3 (m : Pl3) (l : List Pl3) : Bool := match m.c with
  | 0 => true
  | 1 => l.all fun q => Nat.ble q.c 1 || (memN m.i q.aft || q.aft.any fun r => l.any fun p => Nat.beq r p.i && memN m.i p.aft)
  | _ => l.all fun q => memN m.i q.aft || q.aft.any fun r => l.any fun p => Nat.beq r p.i
def okPls3 : List Pl3 → Bool
  | [] => true
  | a :: l => l.all (okPair3 a) && okTail3 a l && okPls3 l
def okM3 (ops : List Oper) (its : List It3) : Bool :=
  let pls := its.map (plOf3 ops)
  okPls3 pls && pls.all (fun p => p.aft.all (Nat.blt · p.i)) && (List.range ops.length).all (fun i => its.any fun x => Nat.beq i x.i) && its.all fun x => Nat.blt x.i ops.length
theorem okPls3_sub : ∀ {l1 : List Pl3} {b : Pl3} {l2 : List Pl3}, okPls3 (l1 ++ b :: l2) = true → (∀ a ∈ l1, a.c ≤ 1) → (∀ a ∈ l1, a.i ∉ b.aft) → okPls3 (l1 ++ l2) = true
  | [], b, l2, h, _, _ => by simp only [List.nil_append, okPls3, Bool.and_eq_true] at h; exact h.2
  | a :: l1, b, l2, h, hf, hn => by
    simp only [List.cons_append, okPls3, Bool.and_eq_true, List.all_eq_true] at h ⊢
    have hsub : ∀ x ∈ l1 ++ l2, x ∈ l1 ++ b :: l2 := fun x hx => by rcases List.mem_append.1 hx with hx | hx <;> simp [hx]
    refine ⟨⟨fun x hx => h.1.1 x (hsub x hx), ?_⟩, okPls3_sub h.2 (fun x hx => hf x (by simp [hx])) (fun x hx => hn x (by simp [hx]))⟩
    have h1 := h.1.2
    have hc := hf a (by simp)
    unfold okTail3 at h1 ⊢
    match e : a.c, hc with
    | 0, _ => rfl
    | 1, _ =>
      rw [e] at h1
      simp only [List.all_eq_true, Bool.or_eq_true, List.any_eq_true, Bool.and_eq_true] at h1 ⊢
      intro x hx
      rcases h1 x (hsub x hx) with q | q | ⟨r, hr, p, hp, q1, q2⟩
      · exact .inl q
      · exact .inr (.inl q)
      · refine .inr (.inr ⟨r, hr, p, ?_, q1, q2⟩)
        rcases List.mem_append.1 hp with hp | hp
        · exact List.mem_append_left _ hp
        · rcases List.mem_cons.1 hp with rfl | hp
          · exact absurd (memN_iff.1 q2) (hn a (by simp))
          · exact List.mem_append_right _ hp
theorem okPls3_pair : ∀ {l1 : List Pl3} {b : Pl3} {l2 : List Pl3}, okPls3 (l1 ++ b :: l2) = true → ∀ a ∈ l1, okPair3 a b = true
  | [], _, _, _, a, ha => by cases ha
  | a :: l1, b, l2, h, x, hx => by
    simp only [List.cons_append, okPls3, Bool.and_eq_true, List.all_eq_true] at h
    rcases List.mem_cons.1 hx with rfl | hx
    · exact h.1.1 b (by simp)
    · exact okPls3_pair h.2 x hx
theorem okPls3_tail : ∀ {l1 : List Pl3} {b : Pl3} {l2 : List Pl3}, okPls3 (l1 ++ b :: l2) = true → ∀ (x y : List Pl3) (a : Pl3), l1 = x ++ a :: y → okTail3 a (y ++ b :: l2) = true
  | [], _, _, _, x, y, a, e => by simp at e
  | c :: l1, b, l2, h, [], y, a, e => by
    simp only [List.nil_append, List.cons.injEq] at e; obtain ⟨rfl, rfl⟩ := e
    simp only [List.cons_append, okPls3, Bool.and_eq_true] at h
    exact h.1.2
  | c :: l1, b, l2, h, d :: x, y, a, e => by
    simp only [List.cons_append, List.cons.injEq] at e
    simp only [List.cons_append, okPls3, Bool.and_eq_true] at h
    exact okPls3_tail h.2 x y a e.2
theorem JX_cons {C : Cx} {ops : Array Oper} {k : Env → List SP → Prop} {its its' : List It3} (h : ∀ E L, JX C ops k its E L → JX C ops k its' E L) : ∀ {a : It3} {E : Env} {L : List SP}, JX C ops k (a :: its) E L → JX C ops k (a :: its') E L
  | ⟨i, ts, 0⟩, _, _, ⟨o, A, h1, h2, h3, h4⟩ => ⟨o, A, h1, h2, h3, h _ _ h4⟩
  | ⟨i, ts, 1⟩, _, _, ⟨o, A, h1, h2, h3, h4⟩ => ⟨o, A, h1, h2, h3, h _ _ h4⟩
  | ⟨i, ts, _ + 2⟩, _, _, ⟨o, h1, h2, X, A, L', h3, h4, h5⟩ => ⟨o, h1, h2, X, A, L', h3, h4, fun x => h _ _ (h5 x)⟩
theorem pair_key {ops : Array Oper} {a b : It3} (hp : okPair3 (plOf3 ops.toList a) (plOf3 ops.toList b) = true) (hn : a.i ∉ aftOf ops.toList b.i) {oa ob : Oper} (ha : ops[a.i]? = some oa) (hb : ops[b.i]? = some ob) :
    inO oa.dst b.ts = false ∧ inO ob.dst a.ts = false ∧ eqO oa.dst ob.dst = false := by
  have hda : dstOf ops.toList a.i = oa.dst := by simp [dstOf, ha]
  have hdb : dstOf ops.toList b.i = ob.dst := by simp [dstOf, hb]
  simp only [okPair3, plOf3, hda, hdb, Bool.and_eq_true, Bool.or_eq_true, Bool.not_eq_true', memN_iff] at hp
  rcases hp.2 with q | q
  · exact absurd q hn
  · exact ⟨q.1.1, q.1.2, q.2⟩
section
variable {C : Cx} {ops : Array Oper} {k : Env → List SP → Prop} {ia ib : Nat} {ta tb : List Nat} {its : List It3} {E : Env} {L : List SP}
theorem JX_swap00 (hp : ∀ ca cb, okPair3 (plOf3 ops.toList ⟨ia, ta, ca⟩) (plOf3 ops.toList ⟨ib, tb, cb⟩) = true) (hn : ia ∉ aftOf ops.toList ib) (h : JX C ops k (⟨ia, ta, 0⟩ :: ⟨ib, tb, 0⟩ :: its) E L) : JX C ops k (⟨ib, tb, 0⟩ :: ⟨ia, ta, 0⟩ :: its) E L := by
  obtain ⟨oa, A, ha, hla, hsa, ob, B, hb, hlb, hsb, hk⟩ := h
  obtain ⟨p1, p2, p3⟩ := pair_key (a := ⟨ia, ta, 0⟩) (b := ⟨ib, tb, 0⟩) (hp 0 0) hn ha hb
  refine ⟨ob, B, hb, hlb, fun L => (hsb L).same (restr_updO p1), oa, A, ha, hla, fun L => (hsa L).same (restr_updO p2).symm, ?_⟩
  rw [updO_comm p3] at hk
  exact hk
theorem JX_swap01 (hp : ∀ ca cb, okPair3 (plOf3 ops.toList ⟨ia, ta, ca⟩) (plOf3 ops.toList ⟨ib, tb, cb⟩) = true) (hn : ia ∉ aftOf ops.toList ib) (h : JX C ops k (⟨ia, ta, 0⟩ :: ⟨ib, tb, 1⟩ :: its) E L) : JX C ops k (⟨ib, tb, 1⟩ :: ⟨ia, ta, 0⟩ :: its) E L := by
  obtain ⟨oa, A, ha, hla, hsa, ob, B, hb, hlb, hsb, hk⟩ := h
  obtain ⟨p1, p2, p3⟩ := pair_key (a := ⟨ia, ta, 0⟩) (b := ⟨ib, tb, 1⟩) (hp 0 1) hn ha hb
  refine ⟨ob, B, hb, hlb, hsb.same (restr_updO p1), oa, A, ha, hla, fun L => (hsa L).same (restr_updO p2).symm, ?_⟩
  rw [updO_comm p3] at hk
  exact hk
theorem JX_swap02 {c : Nat} (hp : ∀ ca cb, okPair3 (plOf3 ops.toList ⟨ia, ta, ca⟩) (plOf3 ops.toList ⟨ib, tb, cb⟩) = true) (hn : ia ∉ aftOf ops.toList ib) (h : JX C ops k (⟨ia, ta, 0⟩ :: ⟨ib, tb, c + 2⟩ :: its) E L) : JX C ops k (⟨ib, tb, c + 2⟩ :: ⟨ia, ta, 0⟩ :: its) E L := by
  obtain ⟨oa, A, ha, hla, hsa, ob, hb, hlb, X, B, L', hgb, hsb, hk⟩ := h
  obtain ⟨p1, p2, p3⟩ := pair_key (a := ⟨ia, ta, 0⟩) (b := ⟨ib, tb, c + 2⟩) (hp 0 (c + 2)) hn ha hb
  rw [restr_updO p1] at hsb hgb
  refine ⟨ob, hb, hlb, X, B, L', hgb, hsb, fun x => ⟨oa, A, ha, hla, fun L => (hsa L).same (restr_updO p2).symm, ?_⟩⟩
  have := hk x
  rw [updO_comm p3] at this
  exact this
theorem JX_swap10 (hp : ∀ ca cb, okPair3 (plOf3 ops.toList ⟨ia, ta, ca⟩) (plOf3 ops.toList ⟨ib, tb, cb⟩) = true) (hn : ia ∉ aftOf ops.toList ib) (h : JX C ops k (⟨ia, ta, 1⟩ :: ⟨ib, tb, 0⟩ :: its) E L) : JX C ops k (⟨ib, tb, 0⟩ :: ⟨ia, ta, 1⟩ :: its) E L := by
  obtain ⟨oa, A, ha, hla, hsa, ob, B, hb, hlb, hsb, hk⟩ := h
  obtain ⟨p1, p2, p3⟩ := pair_key (a := ⟨ia, ta, 1⟩) (b := ⟨ib, tb, 0⟩) (hp 1 0) hn ha hb
  refine ⟨ob, B, hb, hlb, fun L => (hsb L).same (restr_updO p1), oa, A, ha, hla, hsa.same (restr_updO p2).symm, ?_⟩
  rw [updO_comm p3] at hk
  exact hk
theorem JX_swap11 (hp : ∀ ca cb, okPair3 (plOf3 ops.toList ⟨ia, ta, ca⟩) (plOf3 ops.toList ⟨ib, tb, cb⟩) = true) (hn : ia ∉ aftOf ops.toList ib) (h : JX C ops k (⟨ia, ta, 1⟩ :: ⟨ib, tb, 1⟩ :: its) E L) : JX C ops k (⟨ib, tb, 1⟩ :: ⟨ia, ta, 1⟩ :: its) E L := by
  obtain ⟨oa, A, ha, hla, hsa, ob, B, hb, hlb, hsb, hk⟩ := h
  obtain ⟨p1, p2, p3⟩ := pair_key (a := ⟨ia, ta, 1⟩) (b := ⟨ib, tb, 1⟩) (hp 1 1) hn ha hb
  refine ⟨ob, B, hb, hlb, hsb.same (restr_updO p1), oa, A, ha, hla, hsa.same (restr_updO p2).symm, ?_⟩
  rw [updO_comm p3] at hk
  exact hk
end
theorem JX_swap {C : Cx} {ops : Array Oper} {k : Env → List SP → Prop} {a b : It3} {its : List It3} {E : Env} {L : List SP} (hf : a.c = 0 ∨ (a.c = 1 ∧ b.c ≤ 1)) (hp : okPair3 (plOf3 ops.toList a) (plOf3 ops.toList b) = true) (hn : a.i ∉ aftOf ops.toList b.i)
    (h : JX C ops k (a :: b :: its) E L) : JX C ops k (b :: a :: its) E L := by
  obtain ⟨ia, ta, ca⟩ := a
  obtain ⟨ib, tb, cb⟩ := b
  have hp' : ∀ ca cb, okPair3 (plOf3 ops.toList ⟨ia, ta, ca⟩) (plOf3 ops.toList ⟨ib, tb, cb⟩) = true := fun _ _ => hp
  rcases hf with h0 | ⟨h1, hb1⟩
  · have h0 : ca = 0 := h0
    subst h0
    rcases cb with _ | _ | c
    · exact JX_swap00 hp' hn h
    · exact JX_swap01 hp' hn h
    · exact JX_swap02 hp' hn h
  · have h1 : ca = 1 := h1
    have hb1 : cb ≤ 1 := hb1
    subst h1
    rcases cb with _ | _ | c
    · exact JX_swap10 hp' hn h
    · exact JX_swap11 hp' hn h
    · omega
theorem JX_pull {C : Cx} {ops : Array Oper} {k : Env → List SP → Prop} {b : It3} {l2 : List It3} : ∀ {l1 : List It3} {E : Env} {L : List SP}, (∀ a ∈ l1, a.c = 0 ∨ (a.c = 1 ∧ b.c ≤ 1)) →
    (∀ a ∈ l1, okPair3 (plOf3 ops.toList a) (plOf3 ops.toList b) = true) → (∀ a ∈ l1, a.i ∉ aftOf ops.toList b.i) → JX C ops k (l1 ++ b :: l2) E L → JX C ops k (b :: (l1 ++ l2)) E L := by
  intro l1
  induction l1 with
  | nil => intro E L _ _ _ h; exact h
  | cons a l1 ih =>
    intro E L hf hp hn h
    refine JX_swap (hf a (by simp)) (hp a (by simp)) (hn a (by simp)) ?_
    exact JX_cons (fun E L hk => ih (fun a m => hf a (by simp [m])) (fun a m => hp a (by simp [m])) (fun a m => hn a (by simp [m])) hk) h
theorem wpAny_JX {C : Cx} {ops : Array Oper} {Q : Exit → Act → World → Prop} : ∀ (fuel : Nat) (its : List It3) (listed : Array Bool) (E : Env) (L : List SP), its.length ≤ fuel → listed.size = ops.size →
    (∀ i, i < ops.size → (listed.getD i true = false ↔ ∃ x ∈ its, x.i = i)) → okPls3 (its.map (plOf3 ops.toList)) = true → (∀ x ∈ its, x.i < ops.size ∧ ∀ e ∈ aftOf ops.toList x.i, e < x.i) →
    JX C ops (fun E' L' => K C (Q .normal) E' L') its E L → K C (fun a w => wpAnyIn (Fw C.ro) 0 C.P .any ops Q fuel listed a w) E L := by
  intro fuel
  induction fuel with
  | zero =>
    intro its listed E L hlen hsz hin _ _ hJ
    have : its = [] := List.length_eq_zero_iff.1 (by omega)
    subst this
    intro a w p
    refine ⟨?_, hJ a w p⟩
    rw [List.eq_nil_iff_forall_not_mem]
    intro i hi
    obtain ⟨h1, h2, _⟩ := mem_ready.1 hi
    obtain ⟨x, hx, _⟩ := (hin i h1).1 h2
    cases hx
  | succ fuel ih =>
    intro its listed E L hlen hsz hin hok hlt hJ
    have hdone : Region.ready .any ops listed = [] → its = [] := by
      intro hr
      have hall : ∀ i, i < ops.size → listed.getD i true = true := by
        intro i
        induction i using Nat.strongRecOn with
        | _ i ihi =>
          intro hi
          cases hl : listed.getD i true with
          | true => rfl
          | false =>
            have ho : ops[i]? = some ops[i] := Array.getElem?_eq_getElem hi
            obtain ⟨x, hx, hxi⟩ := (hin i hi).1 hl
            have h1 := (hlt x hx).2
            rw [hxi] at h1
            have hm : i ∈ Region.ready .any ops listed := mem_ready.2 ⟨hi, hl, _, ho, fun e he => by
              have he' : e < i := h1 e (by simpa [aftOf, hi] using he)
              rw [getD_any (by omega) false true]
              exact ihi e he' (by omega)⟩
            rw [hr] at hm; cases hm
      match its with
      | [] => rfl
      | x :: _ =>
        have h1 := (hlt x (by simp)).1
        have := (hin x.i h1).2 ⟨x, by simp, rfl⟩
        rw [hall x.i h1] at this; cases this
    intro a w p
    refine ⟨fun hr => ?_, fun i hi => ?_⟩
    · have := hdone hr
      subst this
      exact hJ a w p
    · obtain ⟨hlti, hnl, o, ho, haft⟩ := mem_ready.1 hi
      obtain ⟨b, hb, hbi⟩ := (hin i hlti).1 hnl
      obtain ⟨l1, l2, rfl⟩ := List.append_of_mem hb
      have hoi : ops.toList[b.i]? = some o := by rw [hbi]; simpa using ho
      have haft' : aftOf ops.toList b.i = aftN o := by simp only [aftOf, hoi]
      have hleft : ∀ x ∈ l1 ++ b :: l2, x.i ∉ aftOf ops.toList b.i := fun x hx hm => by
        rw [haft'] at hm
        have h1 := haft _ hm
        have h2 := (hlt x hx).1
        have h3 := (hin x.i h2).2 ⟨x, hx, rfl⟩
        rw [getD_any (by omega) true false, h1] at h3; cases h3
      rw [List.map_append, List.map_cons] at hok
      have hpair : ∀ a ∈ l1, okPair3 (plOf3 ops.toList a) (plOf3 ops.toList b) = true := fun a ha => okPls3_pair hok _ (List.mem_map_of_mem ha)
      have hfree : ∀ a ∈ l1, a.c = 0 ∨ (a.c = 1 ∧ b.c ≤ 1) := fun x hx => by
        obtain ⟨y, z, rfl⟩ := List.append_of_mem hx
        have ht := okPls3_tail hok (y.map (plOf3 ops.toList)) (z.map (plOf3 ops.toList)) (plOf3 ops.toList x) (by simp)
        unfold okTail3 at ht
        have hxc : (plOf3 ops.toList x).c = x.c := rfl
        rw [hxc] at ht
        match e : x.c with
        | 0 => exact .inl rfl
        | 1 =>
          right
          rw [e] at ht
          simp only [List.all_eq_true, Bool.or_eq_true, List.any_eq_true, Bool.and_eq_true] at ht
          refine ⟨rfl, ?_⟩
          rcases ht (plOf3 ops.toList b) (by simp) with q | q | ⟨r, hr, p, hp, hq, _⟩
          · exact Nat.le_of_ble_eq_true q
          · exact absurd (memN_iff.1 q) (hleft x (by simp))
          · exfalso
            have hrp := Nat.eq_of_beq_eq_true hq
            have hp' : ∃ u ∈ z ++ b :: l2, plOf3 ops.toList u = p := by
              rcases List.mem_append.1 hp with hp | hp
              · obtain ⟨u, hu, e⟩ := List.mem_map.1 hp
                exact ⟨u, by simp [hu], e⟩
              · rcases List.mem_cons.1 hp with hp | hp
                · exact ⟨b, by simp, hp.symm⟩
                · obtain ⟨u, hu, e⟩ := List.mem_map.1 hp
                  exact ⟨u, by simp [hu], e⟩
            obtain ⟨u, hu, e⟩ := hp'
            have : u.i ∉ aftOf ops.toList b.i := hleft u (by
              rcases List.mem_append.1 hu with hu | hu
              · simp [hu]
              · simp only [List.mem_append]; exact .inr hu)
            rw [← e] at hrp
            have hr' : r ∈ aftOf ops.toList b.i := hr
            rw [hrp] at hr'
            exact absurd hr' this
        | c + 2 =>
          exfalso
          rw [e] at ht
          simp only [Bool.or_eq_true, List.all_eq_true, List.any_eq_true] at ht
          rcases ht (plOf3 ops.toList b) (by simp) with q | ⟨r, hr, p, hp, hq⟩
          · exact absurd (memN_iff.1 q) (hleft x (by simp))
          · have hrp := Nat.eq_of_beq_eq_true hq
            have hp' : ∃ u ∈ z ++ b :: l2, plOf3 ops.toList u = p := by
              rcases List.mem_append.1 hp with hp | hp
              · obtain ⟨u, hu, e⟩ := List.mem_map.1 hp
                exact ⟨u, by simp [hu], e⟩
              · rcases List.mem_cons.1 hp with hp | hp
                · exact ⟨b, by simp, hp.symm⟩
                · obtain ⟨u, hu, e⟩ := List.mem_map.1 hp
                  exact ⟨u, by simp [hu], e⟩
            obtain ⟨u, hu, e⟩ := hp'
            have : u.i ∉ aftOf ops.toList b.i := hleft u (by
              rcases List.mem_append.1 hu with hu | hu
              · simp [hu]
              · simp only [List.mem_append]; exact .inr hu)
            rw [← e] at hrp
            have hr' : r ∈ aftOf ops.toList b.i := hr
            rw [hrp] at hr'
            exact absurd hr' this
      have hJ' := JX_pull hfree hpair (fun a ha => hleft a (by simp [ha])) hJ
      have hsub : ∀ x ∈ l1 ++ l2, x ∈ l1 ++ b :: l2 := fun x hx => by
        rcases List.mem_append.1 hx with hx | hx <;> simp [hx]
      have hpairs : ∀ x ∈ l1 ++ l2, x.i ≠ b.i := fun x hx => by
        rcases List.mem_append.1 hx with hx | hx
        · have := hpair x hx
          simp only [okPair3, plOf3, Bool.and_eq_true, Bool.not_eq_true'] at this
          intro e; rw [e] at this; simp at this
        · have h2 : ∀ {l1 : List Pl3} {b : Pl3} {l2 : List Pl3}, okPls3 (l1 ++ b :: l2) = true → okPls3 (b :: l2) = true := by
            intro l1
            induction l1 with
            | nil => intro b l2 h; exact h
            | cons c l1 ih => intro b l2 h; simp only [List.cons_append, okPls3, Bool.and_eq_true] at h; exact ih h.2
          have := h2 hok
          simp only [okPls3, Bool.and_eq_true, List.all_eq_true] at this
          have := this.1.1 _ (List.mem_map_of_mem hx)
          simp only [okPair3, plOf3, Bool.and_eq_true, Bool.not_eq_true'] at this
          intro e; rw [e] at this; simp at this
      have rest : ∀ E' L', JX C ops (fun E' L' => K C (Q .normal) E' L') (l1 ++ l2) E' L' → K C (fun a w => wpAnyIn (Fw C.ro) 0 C.P .any ops Q fuel (listed.setIfInBounds i true) a w) E' L' := by
        intro E' L' hk
        refine ih (l1 ++ l2) _ E' L' (by simp only [List.length_append, List.length_cons] at hlen ⊢; omega) (by simpa using hsz) (fun j hj => ?_) (by
          rw [List.map_append]
          exact okPls3_sub hok (fun x hx => (List.mem_map.1 hx).elim fun y hy => hy.2 ▸ (by rcases hfree y hy.1 with q | ⟨q, _⟩ <;> (show y.c ≤ 1) <;> omega)) (fun x hx => (List.mem_map.1 hx).elim fun y hy => hy.2 ▸ hleft y (by simp [hy.1]))) (fun x hx => hlt x (hsub x hx)) hk
        by_cases hji : i = j
        · subst hji
          rw [getD_set_same (by omega)]
          constructor
          · intro h; cases h
          · rintro ⟨x, hx, e⟩
            exact absurd (e.trans hbi.symm) (hpairs x hx)
        · rw [getD_set_ne hji, hin j hj]
          constructor
          · rintro ⟨x, hx, e⟩
            refine ⟨x, ?_, e⟩
            rcases List.mem_append.1 hx with hx | hx
            · simp [hx]
            · rcases List.mem_cons.1 hx with rfl | hx
              · exact absurd (hbi.symm.trans e) hji
              · simp [hx]
          · rintro ⟨x, hx, e⟩
            exact ⟨x, hsub x hx, e⟩
      obtain ⟨bi, tb, cb⟩ := b
      simp only at hbi hoi
      subst hbi
      have ho' : ops[bi]? = some o := ho
      match cb, hJ' with
      | 0, hJ' =>
        obtain ⟨o', A, ho2, hl, hs, hk⟩ := hJ'
        rw [ho'] at ho2; cases ho2
        exact (hs L).op ho' hl (rest _ _ hk) a w p
      | 1, hJ' =>
        obtain ⟨o', A, ho2, hl, hs, hk⟩ := hJ'
        rw [ho'] at ho2; cases ho2
        exact hs.op ho' hl (rest _ _ hk) a w p
      | c + 2, hJ' =>
        obtain ⟨o', ho2, hl, X, A, L', hg, hs, hk⟩ := hJ'
        rw [ho'] at ho2; cases ho2
        obtain ⟨n, ds, h, m, l, sp, st, fr⟩ := p
        have hwt : Region.wanted o (yielded ops a.tmps) = true := hg.run (fr.sub restr_sub)
        unfold wpOpIn
        simp only [ho']
        rw [if_pos hwt]
        exact hs a w h m n l sp st (fr.sub restr_sub) _ Q fun x v w' h' m' l' sp' st' hv =>
          rest _ _ (hk x) _ _ ⟨by rw [put_size]; exact n, by rw [put_defers]; exact ds, h', m', HL.trans l l', sp', st', (fr.mono l'.1).putO (by rw [n]; exact hl) hv⟩
theorem J_drawX {C : Cx} {id : Nat} {ops : Array Oper} (its : List It3) {Q : Exit → Act → World → Prop} {E : Env} {L : List SP} (hmix : C.P.follows .mixedOrders = true) (hok : okM3 ops.toList its = true)
    (hJ : JX C ops (fun E' L' => K C (Q .normal) E' L') its E L) : J C (.region id ops true) Q E L := fun a w p => by
  refine wpIn_region_draw (fun t => ?_)
  simp only [Region.schedule, hmix, Bool.true_or, if_true]
  refine wpAnyIn_sound ops.size t _ a _ ?_
  simp only [okM3, Bool.and_eq_true, List.all_eq_true, List.any_eq_true] at hok
  obtain ⟨⟨⟨h1, h2⟩, h3⟩, h4⟩ := hok
  have h5 : ∀ x ∈ its, x.i < ops.size := fun x hx => by have := h4 x hx; simpa using this
  have hnd : (its.map (·.i)).Nodup := by
    have : ∀ {l : List It3}, okPls3 (l.map (plOf3 ops.toList)) = true → (l.map (·.i)).Nodup := by
      intro l
      induction l with
      | nil => intro _; simp
      | cons x l ih =>
        intro h
        simp only [List.map_cons, okPls3, Bool.and_eq_true, List.all_eq_true] at h
        simp only [List.map_cons, List.nodup_cons]
        refine ⟨fun hm => ?_, ih h.2⟩
        obtain ⟨y, hy, e⟩ := List.mem_map.1 hm
        have := h.1.1 _ (List.mem_map_of_mem hy)
        simp only [okPair3, plOf3, Bool.and_eq_true, Bool.not_eq_true'] at this
        rw [e] at this; simp at this
    exact this h1
  have hlen : its.length ≤ ops.size := by
    have := nodup_le hnd (n := ops.size) (fun i hi => by
      obtain ⟨x, hx, rfl⟩ := List.mem_map.1 hi
      exact h5 x hx)
    simpa using this
  refine wpAny_JX ops.size its _ E L hlen (by simp) (fun i hi => ?_) h1 (fun x hx => ⟨h5 x hx, fun e he => ?_⟩) hJ a _ ?_
  · constructor
    · intro _
      obtain ⟨x, hx, e⟩ := h3 i (by simpa using hi)
      exact ⟨x, hx, (Nat.eq_of_beq_eq_true e).symm⟩
    · intro _; simp [Array.getD_eq_getD_getElem?, hi]
  · have := h2 _ (List.mem_map_of_mem hx) e he
    simpa [plOf3] using this
  · obtain ⟨hsz, hds, h, m, hl, sp, st, fr⟩ := p
    exact ⟨hsz, hds, h, m, hl.trans (HL.same (Same.drew _)), ⟨(by first | exact Sep.inv (by assumption) | exact Inv.mono (PH.le_join_left _ _) (Sep.inv (by assumption))), sp.hm, sp.hr, sp.mr, sp.hw, sp.mw, sp.rw⟩, st, fr⟩
open Go
def PermK (k : Env → List SP → Prop) : Prop := ∀ E L L', L.Perm L' → k E L → k E L'
theorem upd_comm {E : Env} {d e : Nat} {A B : Ty} (h : d ≠ e) : upd (upd E d A) e B = upd (upd E e B) d A := by
  have := updO_comm (E := E) (d := some d) (e := some e) (A := A) (B := B) (natBeq_ne h)
  simpa [updO] using this
theorem restr_upd {ts : List Nat} {E : Env} {d : Nat} {A : Ty} (h : memN d ts = false) : restr ts (upd E d A) = restr ts E := by
  have := restr_updO (ts := ts) (E := E) (d := some d) (A := A) (by simpa [inO] using h)
  simpa [updO] using this
section
variable {C : Cx} {ops : Array Oper} {k : Env → List SP → Prop}
end
theorem LSub.of_perm {L L' : List SP} (p : L.Perm L') : LSub L L' := by
  induction p with
  | nil => exact LSub.rfl
  | cons x _ ih => exact LSub.head ih
  | swap x y l => exact LSub.swap
  | trans _ _ h1 h2 => exact LSub.trans h1 h2
open Go
/-- What is changed: which operation, what it looks at, where its value goes, what it takes, what is known of its value, what it leaves. -/
structure Al2 where
  i : Nat
  ts : List Nat
  d : Nat
  I : SP
  A : Value → Ty
  M : Value → SP
def AlOk2 (C : Cx) (ops : Array Oper) (E : Env) (a : Al2) : Prop := ∃ o, ops[a.i]? = some o ∧ o.dst = some a.d ∧ Nat.blt a.d C.N = true ∧ o.guard = none ∧ ∀ L, Step (X := Value) C o (restr a.ts E) (a.I :: L) a.A (fun v => a.M v :: L)
def Als2 (C : Cx) (ops : Array Oper) (k : Env → List SP → Prop) : List Al2 → Env → List SP → Prop
  | [], E, L => k E L
  | a :: als, E, L => AlOk2 C ops E a ∧ ∀ v, Als2 C ops k als (upd E a.d (a.A v)) (a.M v :: L)
def indA2 (a b : Al2) : Bool := !Nat.beq a.i b.i && !memN a.d b.ts && !memN b.d a.ts && !Nat.beq a.d b.d
def indAs2 : List Al2 → Bool
  | [] => true
  | a :: l => l.all (indA2 a) && indAs2 l
/-- A first part of what is owned that some operations look at. -/
def pre0 (F : List SP) : Nat → List SP
  | 0 => []
  | _ + 1 => F
def JF (C : Cx) (ops : Array Oper) (F : List SP) (k : Env → List SP → Prop) : List It3 → Env → List SP → Prop
  | [], E, L => k E L
  | x :: its, E, L => ∃ o A, ops[x.i]? = some o ∧ ltO o.dst C.N = true ∧ (∀ L, StepG C ops o (restr x.ts E) (pre0 F x.c ++ L) A) ∧ JF C ops F k its (updO E o.dst A) L
section
variable {C : Cx} {ops : Array Oper} {F : List SP} {k : Env → List SP → Prop} {its : List It3} {E : Env} {L : List SP} {i : Nat} {ts : List Nat} {o : Oper}
theorem JF_nil (h : k E L) : JF C ops F k [] E L := h
theorem JF_step {A : Ty} {d : Nat} (ho : ops.toList[i]? = some o) (hg : o.guard = none) (hd : o.dst = some d) (hN : Nat.blt d C.N = true) (hs : ∀ L, Step1 C o (restr ts E) L A)
    (hk : JF C ops F k its (upd E d A) L) : JF C ops F k (⟨i, ts, 0⟩ :: its) E L :=
  ⟨o, A, by simpa using ho, by rw [hd]; exact hN, fun L => .inl ⟨hg, hs L⟩, by rw [hd]; exact hk⟩
end
section
variable {C : Cx} {ops : Array Oper} {F : List SP} {k : Env → List SP → Prop}
theorem AlOk2.same {E : Env} {a : Al2} {d : Nat} {A : Ty} (h : memN d a.ts = false) : AlOk2 C ops (upd E d A) a ↔ AlOk2 C ops E a := by
  unfold AlOk2; rw [restr_upd h]
theorem Als2.perm (hk : PermK k) : ∀ {als : List Al2} {E : Env} {L L' : List SP}, L.Perm L' → Als2 C ops k als E L → Als2 C ops k als E L'
  | [], _, _, _, p, h => hk _ _ _ p h
  | a :: als, E, L, L', p, ⟨h1, h2⟩ => ⟨h1, fun v => Als2.perm hk (List.Perm.cons _ p) (h2 v)⟩
theorem Als2.pull (hk : PermK k) : ∀ {l1 : List Al2} {b : Al2} {l2 : List Al2} {E : Env} {L : List SP}, (∀ a ∈ l1, indA2 a b = true) → Als2 C ops k (l1 ++ b :: l2) E L → Als2 C ops k (b :: (l1 ++ l2)) E L
  | [], _, _, _, _, _, h => h
  | a :: l1, b, l2, E, L, hp, ⟨h1, h2⟩ => by
    have hab := hp a (by simp)
    simp only [indA2, Bool.and_eq_true, Bool.not_eq_true'] at hab
    obtain ⟨⟨⟨p1, p2⟩, p3⟩, p4⟩ := hab
    have p4 : a.d ≠ b.d := fun e => by rw [e] at p4; simp at p4
    have ih := fun v => Als2.pull hk (fun x hx => hp x (by simp [hx])) (h2 v)
    refine ⟨(AlOk2.same p2).1 (ih default).1, fun v => ⟨(AlOk2.same p3).2 h1, fun u => ?_⟩⟩
    have := (ih u).2 v
    rw [upd_comm p4] at this
    exact Als2.perm hk (List.Perm.swap _ _ _) this
theorem JF_lay {k' : Env → List SP → Prop} {b : Al2} : ∀ {its : List It3} {E : Env} {L : List SP}, (∀ x ∈ its, memN b.d x.ts = false ∧ inO (dstOf ops.toList x.i) b.ts = false ∧ eqO (some b.d) (dstOf ops.toList x.i) = false) →
    (∀ E L, k E L → AlOk2 C ops E b ∧ ∀ v, k' (upd E b.d (b.A v)) (b.M v :: L)) → JF C ops F k its E L → AlOk2 C ops E b ∧ ∀ v, JF C ops F k' its (upd E b.d (b.A v)) (b.M v :: L)
  | [], E, L, _, hk, h => hk E L h
  | x :: its, E, L, hp, hk, h => by
    obtain ⟨o, A, h1, h2, h3, h4⟩ := h
    obtain ⟨p1, p2, p3⟩ := hp x (by simp)
    have hd : dstOf ops.toList x.i = o.dst := by simp [dstOf, h1]
    simp only [hd] at p2 p3
    obtain ⟨g1, g2⟩ := JF_lay (fun x hx => hp x (by simp [hx])) hk h4
    refine ⟨?_, fun v => ⟨o, A, h1, h2, fun L => ?_, ?_⟩⟩
    · obtain ⟨ob, q1, q2, q3, q4, q5⟩ := g1
      rw [restr_updO p2] at q5
      exact ⟨ob, q1, q2, q3, q4, q5⟩
    · rw [restr_upd p1]; exact h3 L
    · have := g2 v
      have e : upd (updO E o.dst A) b.d (b.A v) = updO (upd E b.d (b.A v)) o.dst A := by
        have := updO_comm (E := E) (d := some b.d) (e := o.dst) (A := b.A v) (B := A) p3
        simpa [updO] using this.symm
      rw [e] at this
      exact this
theorem JF_pull : ∀ {l1 : List It3} {b : It3} {l2 : List It3} {E : Env} {L : List SP},
    (∀ a ∈ l1, okPair3 (plOf3 ops.toList a) (plOf3 ops.toList b) = true) → (∀ a ∈ l1, a.i ∉ aftOf ops.toList b.i) → JF C ops F k (l1 ++ b :: l2) E L → JF C ops F k (b :: (l1 ++ l2)) E L
  | [], _, _, _, _, _, _, h => h
  | xa :: l1, xb, l2, E, L, hp, hn, h => by
    obtain ⟨oa, A, ha, hla, hsa, hk⟩ := h
    have ih := JF_pull (fun a m => hp a (by simp [m])) (fun a m => hn a (by simp [m])) hk
    have hpair := hp xa (by simp)
    have hna := hn xa (by simp)
    have hda : dstOf ops.toList xa.i = oa.dst := by simp [dstOf, ha]
    have hpair' : inO oa.dst xb.ts = false ∧ inO (dstOf ops.toList xb.i) xa.ts = false ∧ eqO oa.dst (dstOf ops.toList xb.i) = false := by
      simp only [okPair3, plOf3, hda, Bool.and_eq_true, Bool.or_eq_true, Bool.not_eq_true', memN_iff] at hpair
      rcases hpair.2 with q | q
      · exact absurd q hna
      · exact ⟨q.1.1, q.1.2, q.2⟩
    obtain ⟨p1, p2, p3⟩ := hpair'
    obtain ⟨ob, B, hb, hlb, hsb, hkb⟩ := ih
    have hdb : dstOf ops.toList xb.i = ob.dst := by simp [dstOf, hb]
    rw [hdb] at p2 p3
    refine ⟨ob, B, hb, hlb, fun L => (hsb L).same (restr_updO p1), oa, A, ha, hla, fun L => (hsa L).same (restr_updO p2).symm, ?_⟩
    rw [updO_comm p3] at hkb
    exact hkb
/-- What is behind, up to the order of what is owned. -/
def upP (k : Env → List SP → Prop) : Env → List SP → Prop := fun E L => ∃ L0, L.Perm L0 ∧ k E L0
theorem upP_perm : PermK (upP k) := fun E L L' p ⟨L0, q, h⟩ => ⟨L0, p.symm.trans q, h⟩
theorem JF_out : ∀ {its : List It3} {E : Env} {L : List SP}, JF C ops F (upP k) its E L → ∃ L0, L.Perm L0 ∧ JF C ops F k its E L0
  | [], _, _, h => h
  | x :: its, E, L, ⟨o, A, h1, h2, h3, h4⟩ => by
    obtain ⟨L0, p, h5⟩ := JF_out h4
    exact ⟨L0, p, o, A, h1, h2, h3, h5⟩
theorem JF_JX {tail : List It3} : ∀ {its : List It3} {E : Env} {L : List SP}, (∀ x ∈ its, x.c ≤ 1) → JF C ops F (fun E L => JX C ops k tail E (F ++ L)) its E L → JX C ops k (its ++ tail) E (F ++ L)
  | [], _, _, _, h => h
  | ⟨i, ts, 0⟩ :: its, E, L, hc, ⟨o, A, h1, h2, h3, h4⟩ => ⟨o, A, h1, h2, h3, JF_JX (fun x hx => hc x (by simp [hx])) h4⟩
  | ⟨i, ts, 1⟩ :: its, E, L, hc, ⟨o, A, h1, h2, h3, h4⟩ => ⟨o, A, h1, h2, h3 L, JF_JX (fun x hx => hc x (by simp [hx])) h4⟩
  | ⟨i, ts, c + 2⟩ :: its, E, L, hc, _ => by have := hc ⟨i, ts, c + 2⟩ (by simp); simp at this
end
def okAl2 (ops : List Oper) (frees tail : List It3) (a : Al2) : Bool :=
  (aftOf ops a.i).all (Nat.blt · a.i) && Nat.blt a.i ops.length &&
  (frees.all fun x => !memN a.d x.ts && (memN x.i (aftOf ops a.i) || !inO (dstOf ops x.i) a.ts) && !eqO (some a.d) (dstOf ops x.i) && !Nat.beq a.i x.i) &&
  (tail.all fun x => !Nat.beq a.i x.i && (memN a.i (aftOf ops x.i) || (aftOf ops x.i).any fun r => tail.any fun y => Nat.beq r y.i))
def okZ (ops : List Oper) (frees : List It3) (als : List Al2) (tail : List It3) : Bool :=
  let pls := (frees ++ tail).map (plOf3 ops)
  okPls3 pls && (pls.all fun p => p.aft.all (Nat.blt · p.i)) && ((frees ++ tail).all fun x => Nat.blt x.i ops.length) && (frees.all fun x => Nat.ble x.c 1) &&
  (List.range ops.length).all (fun i => ((frees ++ tail).any fun x => Nat.beq i x.i) || als.any fun a => Nat.beq i a.i) &&
  indAs2 als && als.all (okAl2 ops frees tail)
theorem okPls3_back : ∀ {l1 l2 : List Pl3}, okPls3 (l1 ++ l2) = true → okPls3 l2 = true
  | [], _, h => h
  | a :: l1, l2, h => by
    simp only [List.cons_append, okPls3, Bool.and_eq_true] at h
    exact okPls3_back h.2
theorem pls3_ne {ops : List Oper} {l1 l2 : List It3} {b : It3} (h : okPls3 ((l1 ++ b :: l2).map (plOf3 ops)) = true) : ∀ x ∈ l1 ++ l2, x.i ≠ b.i := fun x hx e => by
  rw [List.map_append, List.map_cons] at h
  rcases List.mem_append.1 hx with hx | hx
  · have := okPls3_pair h (plOf3 ops x) (List.mem_map_of_mem hx)
    simp only [okPair3, plOf3, Bool.and_eq_true, Bool.not_eq_true'] at this
    rw [e] at this; simp at this
  · have := okPls3_back h
    simp only [okPls3, Bool.and_eq_true, List.all_eq_true] at this
    have := this.1.1 _ (List.mem_map_of_mem hx)
    simp only [okPair3, plOf3, Bool.and_eq_true, Bool.not_eq_true'] at this
    rw [e] at this; simp at this
theorem indAs2_sub {b : Al2} {l2 : List Al2} : ∀ {l1 : List Al2}, indAs2 (l1 ++ b :: l2) = true → indAs2 (l1 ++ l2) = true ∧ (∀ x ∈ l1 ++ l2, x.i ≠ b.i) ∧ ∀ a ∈ l1, indA2 a b = true
  | [], h => by
    simp only [List.nil_append, indAs2, Bool.and_eq_true, List.all_eq_true] at h
    refine ⟨h.2, fun x hx e => ?_, fun a ha => by cases ha⟩
    have := h.1 x hx
    simp only [indA2, Bool.and_eq_true, Bool.not_eq_true'] at this
    rw [e] at this; simp at this
  | a :: l1, h => by
    simp only [List.cons_append, indAs2, Bool.and_eq_true, List.all_eq_true] at h ⊢
    obtain ⟨h1, h2, h3⟩ := indAs2_sub h.2
    refine ⟨⟨fun x hx => h.1 x ?_, h1⟩, fun x hx e => ?_, fun x hx => ?_⟩
    · rcases List.mem_append.1 hx with hx | hx <;> simp [hx]
    · rcases List.mem_cons.1 hx with rfl | hx
      · have := h.1 b (by simp)
        simp only [indA2, Bool.and_eq_true, Bool.not_eq_true'] at this
        rw [e] at this; simp at this
      · exact h2 x hx e
    · rcases List.mem_cons.1 hx with rfl | hx
      · exact h.1 b (by simp)
      · exact h3 x hx
theorem wpAny_JZ {C : Cx} {ops : Array Oper} {F : List SP} {Q : Exit → Act → World → Prop} {tail : List It3} : ∀ (fuel : Nat) (frees : List It3) (als : List Al2) (listed : Array Bool) (E : Env) (L : List SP), frees.length + als.length + tail.length ≤ fuel → listed.size = ops.size →
    (∀ i, i < ops.size → (listed.getD i true = false ↔ (∃ x ∈ frees ++ tail, x.i = i) ∨ ∃ a ∈ als, a.i = i)) → okPls3 ((frees ++ tail).map (plOf3 ops.toList)) = true → (∀ x ∈ frees ++ tail, x.i < ops.size ∧ ∀ e ∈ aftOf ops.toList x.i, e < x.i) → (∀ x ∈ frees, x.c ≤ 1) → indAs2 als = true → (∀ a ∈ als, okAl2 ops.toList frees tail a = true) →
    JF C ops F (Als2 C ops (upP fun E' L' => JX C ops (fun E' L' => K C (Q .normal) E' L') tail E' (F ++ L')) als) frees E L → K C (fun a w => wpAnyIn (Fw C.ro) 0 C.P .any ops Q fuel listed a w) E (F ++ (als.map (·.I) ++ L)) := by
  intro fuel
  induction fuel with
  | zero =>
    intro frees als listed E L hlen hsz hin hok hlt hc hi hal hJ
    have h1 : frees = [] := List.length_eq_zero_iff.1 (by omega)
    have h2 : als = [] := List.length_eq_zero_iff.1 (by omega)
    have h3 : tail = [] := List.length_eq_zero_iff.1 (by omega)
    subst h1; subst h2; subst h3
    obtain ⟨L0, p, hJ⟩ := hJ
    exact K_lsub (LSub.of_perm (List.Perm.append_left F p)) (wpAny_JX 0 [] listed E (F ++ L0) (by simp) hsz (fun i h => by rw [hin i h]; simp) rfl (fun x hx => by cases hx) hJ)
  | succ fuel ih =>
    intro frees als listed E L hlen hsz hin hok hlt hc hi hal hJ
    match als, hlen, hin, hi, hal, hJ with
    | [], hlen, hin, hi, hal, hJ =>
      obtain ⟨L0, p, hJ⟩ := JF_out hJ
      exact K_lsub (LSub.of_perm (List.Perm.append_left F p)) (wpAny_JX (fuel + 1) (frees ++ tail) listed E (F ++ L0) (by simp at hlen ⊢; omega) hsz (fun i h => by rw [hin i h]; simp) hok hlt (JF_JX hc hJ))
    | a0 :: als0, hlen, hin, hi, hal, hJ =>
      generalize hals : a0 :: als0 = als at *
      have ha0 : a0 ∈ als := by rw [← hals]; simp
      have hall : ∀ a ∈ als, a.i < ops.size ∧ ∀ e ∈ aftOf ops.toList a.i, e < a.i := fun a ha => by
        have := hal a ha
        simp only [okAl2, Bool.and_eq_true, List.all_eq_true] at this
        exact ⟨by simpa using this.1.1.2, fun e he => by simpa using this.1.1.1 e he⟩
      intro a w p
      refine ⟨fun hr => ?_, fun i hii => ?_⟩
      · exfalso
        have hall2 : ∀ i, i < ops.size → listed.getD i true = true := by
          intro i
          induction i using Nat.strongRecOn with
          | _ i ihi =>
            intro hilt
            cases hl : listed.getD i true with
            | true => rfl
            | false =>
              have ho : ops[i]? = some ops[i] := Array.getElem?_eq_getElem hilt
              have h1 : ∀ e ∈ aftOf ops.toList i, e < i := by
                rcases (hin i hilt).1 hl with ⟨x, hx, hxi⟩ | ⟨x, hx, hxi⟩
                · have := (hlt x hx).2; rwa [hxi] at this
                · have := (hall x hx).2; rwa [hxi] at this
              have hm : i ∈ Region.ready .any ops listed := mem_ready.2 ⟨hilt, hl, _, ho, fun e he => by
                have he' : e < i := h1 e (by simpa [aftOf, hilt] using he)
                rw [getD_any (by omega) false true]
                exact ihi e he' (by omega)⟩
              rw [hr] at hm; cases hm
        have h1 := (hall a0 ha0).1
        have := (hin a0.i h1).2 (.inr ⟨a0, ha0, rfl⟩)
        rw [hall2 a0.i h1] at this; cases this
      · obtain ⟨hlti, hnl, o, ho, haft⟩ := mem_ready.1 hii
        have haft' : aftOf ops.toList i = aftN o := by
          have : ops.toList[i]? = some o := by simpa using ho
          simp only [aftOf, this]
        have hno : ∀ j, j < ops.size → listed.getD j true = false → j ∉ aftOf ops.toList i := fun j hj hl hm => by
          rw [haft'] at hm
          have h1 := haft _ hm
          rw [getD_any (by omega) true false, h1] at hl; cases hl
        rcases (hin i hlti).1 hnl with ⟨b, hb, hbi⟩ | ⟨b, hb, hbi⟩
        · rcases List.mem_append.1 hb with hb | hb
          · obtain ⟨l1, l2, rfl⟩ := List.append_of_mem hb
            have hmap : (l1 ++ b :: l2 ++ tail).map (plOf3 ops.toList) = l1.map (plOf3 ops.toList) ++ plOf3 ops.toList b :: (l2 ++ tail).map (plOf3 ops.toList) := by simp
            have hpair : ∀ x ∈ l1, okPair3 (plOf3 ops.toList x) (plOf3 ops.toList b) = true := fun x hx => okPls3_pair (hmap ▸ hok) _ (List.mem_map_of_mem hx)
            have hleft : ∀ x ∈ l1, x.i ∉ aftOf ops.toList b.i := fun x hx => by
              rw [hbi]; exact hno x.i (hlt x (by simp [hx])).1 ((hin x.i (hlt x (by simp [hx])).1).2 (.inl ⟨x, by simp [hx], rfl⟩))
            have hne := pls3_ne (ops := ops.toList) (l1 := l1) (b := b) (l2 := l2 ++ tail) (by simpa using hok)
            have hJ' := JF_pull hpair hleft hJ
            obtain ⟨o', A, ho2, hl, hs, hk⟩ := hJ'
            subst hbi
            have hna : ∀ x ∈ als, x.i ≠ b.i := fun x hx e => by
              have := hal x hx
              simp only [okAl2, Bool.and_eq_true, List.all_eq_true] at this
              have := (this.1.2 b (by simp)).2
              rw [e] at this; simp at this
            have hs' : StepG C ops o' (restr b.ts E) (F ++ (als.map (·.I) ++ L)) A := by
              match e : b.c with
              | 0 => have := hs (F ++ (als.map (·.I) ++ L)); rw [e] at this; exact this
              | c + 1 => have := hs (als.map (·.I) ++ L); rw [e] at this; exact this
            refine hs'.op ho2 hl ?_ a w p
            refine ih (l1 ++ l2) als _ _ L (by simp only [List.length_append, List.length_cons] at hlen ⊢; omega) (by simpa using hsz) (fun j hj => ?_) ?_ (fun x hx => hlt x ?_) (fun x hx => hc x (by rcases List.mem_append.1 hx with hx | hx <;> simp [hx])) hi (fun x hx => ?_) hk
            · by_cases hji : b.i = j
              · subst hji
                rw [getD_set_same (by omega)]
                constructor
                · intro h; cases h
                · rintro (⟨x, hx, e⟩ | ⟨x, hx, e⟩)
                  · exact absurd e (hne x (by simpa [List.append_assoc] using hx))
                  · exact absurd e (hna x hx)
              · rw [getD_set_ne hji, hin j hj]
                constructor
                · rintro (⟨x, hx, e⟩ | h)
                  · refine .inl ⟨x, ?_, e⟩
                    simp only [List.mem_append, List.mem_cons] at hx ⊢
                    rcases hx with (hx | rfl | hx) | hx
                    · exact .inl (.inl hx)
                    · exact absurd e hji
                    · exact .inl (.inr hx)
                    · exact .inr hx
                  · exact .inr h
                · rintro (⟨x, hx, e⟩ | h)
                  · refine .inl ⟨x, ?_, e⟩
                    simp only [List.mem_append, List.mem_cons] at hx ⊢
                    rcases hx with (hx | hx) | hx
                    · exact .inl (.inl hx)
                    · exact .inl (.inr (.inr hx))
                    · exact .inr hx
                  · exact .inr h
            · have h3 := okPls3_sub (hmap ▸ hok) (fun x hx => (List.mem_map.1 hx).elim fun y hy => hy.2 ▸ hc y (by simp [hy.1])) (fun x hx => (List.mem_map.1 hx).elim fun y hy => hy.2 ▸ hleft y hy.1)
              simpa using h3
            · simp only [List.mem_append, List.mem_cons] at hx ⊢
              rcases hx with (hx | hx) | hx
              · exact .inl (.inl hx)
              · exact .inl (.inr (.inr hx))
              · exact .inr hx
            · have := hal x hx
              simp only [okAl2, Bool.and_eq_true, List.all_eq_true] at this ⊢
              refine ⟨⟨this.1.1, fun y hy => this.1.2 y ?_⟩, this.2⟩
              rcases List.mem_append.1 hy with hy | hy <;> simp [hy]
          · exfalso
            have := hal a0 ha0
            simp only [okAl2, Bool.and_eq_true, List.all_eq_true] at this
            have := (this.2 b hb).2
            rw [hbi] at this
            simp only [Bool.or_eq_true, List.any_eq_true] at this
            rcases this with q | ⟨r, hr, y, hy, e⟩
            · exact hno a0.i (hall a0 ha0).1 ((hin a0.i (hall a0 ha0).1).2 (.inr ⟨a0, ha0, rfl⟩)) (memN_iff.1 q)
            · have e := Nat.eq_of_beq_eq_true e
              subst e
              have hyl := (hlt y (by simp [hy])).1
              exact hno y.i hyl ((hin y.i hyl).2 (.inl ⟨y, by simp [hy], rfl⟩)) hr
        · have hbo := hal b hb
          simp only [okAl2, Bool.and_eq_true, List.all_eq_true] at hbo
          obtain ⟨l1, l2, hl12⟩ := List.append_of_mem hb
          rw [hl12] at hi
          obtain ⟨hi2, hne, hpA⟩ := indAs2_sub hi
          obtain ⟨hAl, hnext⟩ := JF_lay (C := C) (ops := ops) (F := F) (b := b) (k' := Als2 C ops (upP fun E' L' => JX C ops (fun E' L' => K C (Q .normal) E' L') tail E' (F ++ L')) (l1 ++ l2)) (its := frees) (fun x hx => by
            have hq := hbo.1.2 x hx
            simp only [Bool.and_eq_true, Bool.or_eq_true, Bool.not_eq_true'] at hq
            refine ⟨hq.1.1.1, ?_, hq.1.2⟩
            rcases hq.1.1.2 with q | q
            · exfalso
              have hxl := (hlt x (by simp [hx])).1
              rw [hbi] at q
              exact hno x.i hxl ((hin x.i hxl).2 (.inl ⟨x, by simp [hx], rfl⟩)) (memN_iff.1 q)
            · exact q) (fun E L h => by rw [hl12] at h; exact Als2.pull upP_perm hpA h) hJ
          obtain ⟨ob, q1, q2, q3, q4, q5⟩ := hAl
          rw [hbi, ho] at q1
          cases q1
          have hperm : (F ++ (als.map (·.I) ++ L)).Perm (b.I :: (F ++ ((l1 ++ l2).map (·.I) ++ L))) := by
            rw [hl12]
            simp only [List.map_append, List.map_cons]
            refine (List.Perm.append_left F ?_).trans List.perm_middle
            rw [List.append_assoc, List.append_assoc]
            exact List.perm_middle
          obtain ⟨n, ds, h, m, l, sp, st, fr⟩ := p.lsub (LSub.of_perm hperm)
          have hwt : Region.wanted o (yielded ops a.tmps) = true := by simp [Region.wanted, q4]
          unfold wpOpIn
          simp only [ho]
          rw [if_pos hwt]
          refine q5 (F ++ ((l1 ++ l2).map (·.I) ++ L)) a w h m n l sp st (fr.sub restr_sub) _ Q fun v v' w' h' m' l' sp' st' hv => ?_
          have hrest := ih frees (l1 ++ l2) (listed.setIfInBounds i true) (upd E b.d (b.A v)) (b.M v :: L) (by rw [hl12] at hlen; simp only [List.length_append, List.length_cons] at hlen ⊢; omega) (by simpa using hsz) (fun j hj => ?_) hok hlt hc hi2 (fun x hx => hal x (by
            rw [hl12]
            rcases List.mem_append.1 hx with hx | hx <;> simp [hx])) (hnext v)
          · have hperm2 : (b.M v :: (F ++ ((l1 ++ l2).map (·.I) ++ L))).Perm (F ++ ((l1 ++ l2).map (·.I) ++ b.M v :: L)) := by
              have e1 : F ++ ((l1 ++ l2).map (·.I) ++ b.M v :: L) = (F ++ (l1 ++ l2).map (·.I)) ++ b.M v :: L := by simp
              have e2 : b.M v :: (F ++ ((l1 ++ l2).map (·.I) ++ L)) = b.M v :: ((F ++ (l1 ++ l2).map (·.I)) ++ L) := by simp
              rw [e1, e2]
              exact List.perm_middle.symm
            have hpre : Pre C (updO E o.dst (b.A v)) (b.M v :: (F ++ ((l1 ++ l2).map (·.I) ++ L))) (a.put o.dst v') w' :=
              ⟨by rw [put_size]; exact n, by rw [put_defers]; exact ds, h', m', HL.trans l l', sp', st', (fr.mono l'.1).putO (by rw [n, q2]; exact q3) hv⟩
            have hpre2 := hpre.lsub (LSub.of_perm hperm2)
            rw [q2] at hpre2 ⊢
            exact hrest _ _ hpre2
          · by_cases hji : i = j
            · subst hji
              rw [getD_set_same (by omega)]
              constructor
              · intro h; cases h
              · rintro (⟨x, hx, e⟩ | ⟨x, hx, e⟩)
                · exfalso
                  rcases List.mem_append.1 hx with hx | hx
                  · have := (hbo.1.2 x hx).2
                    rw [hbi, e] at this; simp at this
                  · have := (hbo.2 x hx).1
                    rw [hbi, e] at this; simp at this
                · exact absurd (e.trans hbi.symm) (hne x hx)
            · rw [getD_set_ne hji, hin j hj, hl12]
              constructor
              · rintro (h | ⟨x, hx, e⟩)
                · exact .inl h
                · rcases List.mem_append.1 hx with hx | hx
                  · exact .inr ⟨x, by simp [hx], e⟩
                  · rcases List.mem_cons.1 hx with rfl | hx
                    · exact absurd (hbi.symm.trans e) hji
                    · exact .inr ⟨x, by simp [hx], e⟩
              · rintro (h | ⟨x, hx, e⟩)
                · exact .inl h
                · refine .inr ⟨x, ?_, e⟩
                  rcases List.mem_append.1 hx with hx | hx <;> simp [hx]
theorem J_drawZ {C : Cx} {id : Nat} {ops : Array Oper} (F : List SP) (frees : List It3) (als : List Al2) (tail : List It3) {Q : Exit → Act → World → Prop} {E : Env} {L0 L : List SP} (hL : LSub L0 (F ++ (als.map (·.I) ++ L))) (hmix : C.P.follows .mixedOrders = true) (hok : okZ ops.toList frees als tail = true) (hn : frees.length + als.length + tail.length ≤ ops.size)
    (hJ : JF C ops F (Als2 C ops (upP fun E' L' => JX C ops (fun E' L' => K C (Q .normal) E' L') tail E' (F ++ L')) als) frees E L) : J C (.region id ops true) Q E L0 := fun a w p => by
  refine wpIn_region_draw (fun t => ?_)
  simp only [Region.schedule, hmix, Bool.true_or, if_true]
  refine wpAnyIn_sound ops.size t _ a _ ?_
  simp only [okZ, Bool.and_eq_true, List.all_eq_true, List.any_eq_true, Bool.or_eq_true] at hok
  obtain ⟨⟨⟨⟨⟨⟨h1, h2⟩, h3⟩, h3c⟩, h4⟩, h5⟩, h6⟩ := hok
  refine K_lsub hL (wpAny_JZ ops.size frees als _ E L hn (by simp) (fun i hi => ?_) h1 (fun x hx => ⟨by have := h3 x hx; simpa using this, fun e he => ?_⟩) (fun x hx => by have := h3c x hx; simpa using this) h5 h6 hJ) a _ ?_
  · constructor
    · intro _
      rcases h4 i (by simpa using hi) with ⟨x, hx, e⟩ | ⟨x, hx, e⟩
      · exact .inl ⟨x, hx, (Nat.eq_of_beq_eq_true e).symm⟩
      · exact .inr ⟨x, hx, (Nat.eq_of_beq_eq_true e).symm⟩
    · intro _; simp [Array.getD_eq_getD_getElem?, hi]
  · have := h2 _ (List.mem_map_of_mem hx) e he
    simpa [plOf3] using this
  · obtain ⟨hsz, hds, h, m, hl, sp, st, fr⟩ := p
    exact ⟨hsz, hds, h, m, hl.trans (HL.same (Same.drew _)), ⟨(by first | exact Sep.inv (by assumption) | exact Inv.mono (PH.le_join_left _ _) (Sep.inv (by assumption))), sp.hm, sp.hr, sp.mr, sp.hw, sp.mw, sp.rw⟩, st, fr⟩
theorem upP_in {k : Env → List SP → Prop} {E : Env} {L : List SP} (h : k E L) : upP k E L := ⟨L, List.Perm.refl _, h⟩
open Go Go.Proofs Go.Proofs.Tryz
theorem Sub.eqT {A B : Ty} (h : A = B) : Sub A B := h ▸ Sr
theorem CloneL_spec (l : List Int) (hl : l.length ≤ 1000000000) : Spec (X := Value) prog 113 [tSl rInt l] ([]) (fun v => rV.ty v) (fun v => [own 3 rInt v l]) := by
 refine Spec.enter func113 rfl rfl fun h0 w0 fr0 => ?_
 refine Jr (Ja rfl (JL_nil (J_seq (Jr (Jm rfl ?_)))))
 refine Jx rfl (step_eql_slnil underlying36 Sr) fun v4 => ?_
 refine JL_nil ?_
 refine J_cond Sr (fun h4 => ?_) (fun h4 => ?_)
 ·
  try simp only [NF] at h4
  refine Jr (Ja rfl (JL_nil (J_ret ?_)))
  have hl0 := v4.2 h4
  subst hl0
  refine K_lsub (LSub.nilown (e := 3) (R := rInt)) ?_
  refine K_ret1' (rv := .tmp 2) rfl (.slice none 0 0) (Sel.none _) (.tmp (Sub.rV rfl)) (Frz.sub Sr)
 try simp only [NF] at h4
 refine J_skip (Jr ?_)
 refine Jx rfl (step_literal_own (ys := []) underlying36 el3 trivial rfl (by decide)) fun v5 => ?_
 refine Jm rfl ?_
 refine Jx rfl (step_append underlying36 el3 Sr Sr zS (by simp; omega) (by simp; omega)) fun v7 => ?_
 refine Ja rfl (JL_nil (J_ret ?_))
 refine K_ret1' (rv := .tmp 2) rfl v7 (Sel.none _) (.tmp Sr) (Frz.sub Sr)
open Go
section
variable {C : Cx} {E : Env} {L : List SP} {d : Option Nat} {ty : Nat} {pos : String} {af : Array Edge} {g : Option (Nat × Bool)}
end
/-- A ghost taken as another. -/
theorem Step.emb {X Y : Type} {C : Cx} {o : Oper} {E : Env} {L : List SP} {A : X → Ty} {L' : X → List SP} {A' : Y → Ty} {M' : Y → List SP} (f : X → Y) (h : Step C o E L A L') (hA : ∀ x, A' (f x) = A x) (hM : ∀ x, M' (f x) = L' x) : Step C o E L A' M' := fun a w hp m n l sp st fr next Q hk =>
  h a w hp m n l sp st fr next Q fun x v w' h' m' l' sp' st' hv => hk (f x) v w' h' m' l' sp' (by rw [hM]; exact st') (by rw [hA]; exact hv)
theorem Step.empty {X : Type} {C : Cx} {o : Oper} {E : Env} {L : List SP} {A : X → Ty} {L' : X → List SP} (h : Step C o E L A L') : Step C o E (SP.emp :: L) A L' := fun a w hp m n l sp st fr next Q hk =>
  h a w hp m n l sp (by
    obtain ⟨m1, m2, _, rfl, e, s2⟩ := st
    have e : m1 = PH.emp := e
    subst e; rw [PH.emp_join]; exact s2) fr next Q hk
theorem LSub.emp {L : List SP} : LSub L (SP.emp :: L) := fun h m st => ⟨PH.emp, m, PH.disj_emp_left m, (PH.emp_join m).symm, _root_.rfl, st⟩
/-- The block that a value points to. -/
def vN : Value → Nat
  | .pointer (some p) => p.block
  | _ => 0
def ptrV (n : Nat) : Value := .pointer (some ⟨n, 0, none⟩)
theorem Frz.ownV {α : Type} {e : Nat} {R : Rp α} {v : Value} {xs : List α} {S : List SP} : Frz (Lg.own e R v xs :: S) (tV v) (tSl R xs) := fun h m u d hs hu => by
  have hvo : v.oneCell' = true := by
    obtain ⟨m3, m4, _, _, ho, _⟩ := hs
    rcases ho with ⟨rfl, _⟩ | ⟨g, cap, cur, rfl, _⟩ <;> rfl
  have hu : u = v := hu
  exact Frz.own h m u d hs ⟨hu, hvo⟩
/-- A struct of one's own, with whatever it holds, made immutable. -/
theorem Frz.upS {α α' : Type} {b T : Nat} {fs : List (SF α)} {fs' : List (SF α')} {x : α} {y : α'} {S : List SP} (hup : ∀ h m cs, h.disj m → (stars S).p h m → SF.rel h x fs cs → SF.rel (h.join m) y fs' cs) :
    Frz (Lg.box b T (rStruct fs) x :: S) (tAt b 0) (tPtr (rStruct fs') y) := fun h m u d ⟨m1, m2, d12, e0, ⟨cs, r, e1⟩, hs⟩ hu => by
  subst e0
  have hd := PH.disj_join'.1 d
  have r' := hup h m2 cs hd.2 hs r
  have hle : (h.join m2).le (h.join (m1.join m2)) := fun b o e => by
    simp only [PH.join] at e ⊢
    cases hb : h b with
    | some x => rw [hb] at e; exact e
    | none =>
      rw [hb] at e
      have := PH.le_join_right d12 b o e
      simp only [PH.join] at this
      exact this
  have r2 := SF.rel_mono hle r'
  subst e1
  exact ⟨b, 0, cs, hu, ⟨cs.toArray, T, (0, 0), PH.le_join_right d _ _ (PH.le_join_left _ _ _ _ (PH.one_same _ _)), fun i u hu => by simpa using hu⟩, r2⟩
open Go Go.Proofs Go.Proofs.Tryz
theorem sch_keys {s : GSchema} (h : schM s = true) : ∀ t ∈ s.Tables, t.Key.length ≤ 12 ∧ t.Attrs.length ≤ 12 ∧ ∀ c ∈ t.Key, 0 ≤ c ∧ c < t.Attrs.length := by
  intro t ht
  obtain ⟨i, hi, rfl⟩ := List.getElem_of_mem ht
  rw [← nth_get hi]
  have ha := sch_attrs h hi
  unfold schM at h
  simp only [Bool.and_eq_true, decide_eq_true_eq] at h
  have h1 := rall_iff.1 h.2 i hi
  simp only [Bool.and_eq_true] at h1
  have h2 := h1.1
  unfold rightM at h2
  simp only [Bool.and_eq_true] at h2
  have h3 := rall_iff.1 h2.2
  generalize nth s.Tables i = t at h3 ha ⊢
  have hk : ∀ j, j < t.Key.length → 0 ≤ nth t.Key j ∧ nth t.Key j < t.Attrs.length ∧ (j = 0 ∨ nth t.Key (j - 1) < nth t.Key j) := fun j hj => by
    have := h3 j hj
    unfold keyOk at this
    simp only [Bool.and_eq_true, Bool.or_eq_true, decide_eq_true_eq] at this
    exact ⟨this.1.1, this.1.2, this.2⟩
  have hge : ∀ j, j < t.Key.length → (j : Int) ≤ nth t.Key j := by
    intro j
    induction j with
    | zero => intro hj; exact (hk 0 hj).1
    | succ j ih =>
      intro hj
      have h4 := ih (by omega)
      have h5 := (hk (j + 1) hj).2.2
      simp at h5
      omega
  refine ⟨?_, ha, fun c hc => ?_⟩
  · cases hl : t.Key.length with
    | zero => omega
    | succ L =>
      have h4 := hge L (by omega)
      have h5 := (hk L (by omega)).2.1
      omega
  · obtain ⟨j, hj, rfl⟩ := List.getElem_of_mem hc
    rw [← nth_get hj]
    exact ⟨(hk j hj).1, (hk j hj).2.1⟩
open Go Go.Proofs Go.Proofs.Tryz
/-! ### Classes and their values -/
theorem nth_out {α : Type} [Inhabited α] {l : List α} {i : Nat} (h : ¬ i < l.length) : nth l i = default := by
  induction l generalizing i with
  | nil => rfl
  | cons a l ih =>
    cases i with
    | zero => exact absurd (Nat.succ_pos _) h
    | succ i => exact ih (by simpa using h)
open Go Go.Proofs Go.Proofs.Tryz
def smA (a : GAttr) : Bool := decide (a.Was.length ≤ 10) && decide (a.Default.Text.size ≤ 300)
def smT (t : GTable) : Bool := decide (t.Attrs.length ≤ 20) && decide (t.Key.length ≤ 20) && decide (t.Name.size ≤ 100) && t.Attrs.all smA
def smS (s : GSchema) : Bool := decide (s.Tables.length ≤ 24) && s.Tables.all smT
/-- How many kids a query has that is handed in. -/
def PlLen : Nat → GPlan → Prop
  | 0, _ => True
  | n + 1, p => p.Kids.length ≤ 9223372036854775807 ∧ ∀ q ∈ p.Kids, PlLen n q
def narM : Nat → GPlan → Bool
  | 0, _ => true
  | n + 1, p => p.Kids.all (narM n) && (decide (p.Attrs.length ≤ 40) && decide (p.Tests.length ≤ 20) && decide (p.Cols.length ≤ 40))
def cntL (f : GPlan → Int) : Int → List GPlan → Int
  | a, [] => a
  | a, q :: l => if a < 1000 then cntL f (IntKind.i64.wrap (a + f q)) l else a
def cntW : Nat → GPlan → Int
  | 0, _ => 1
  | n + 1, p => cntL (cntW n) 1 p.Kids
theorem cntL_stop (f : GPlan → Int) {a : Int} (h : ¬ a < 1000) (l : List GPlan) : cntL f a l = a := by
  cases l with
  | nil => rfl
  | cons q l => unfold cntL; rw [if_neg h]
def rowsOk (m : Int) (t : List (List GValue)) : Bool := decide ((t.length : Int) ≤ m) && t.all fun r => decide (r.length ≤ 20)
def smallM (s : GSchema) (n : Nat) (p : GPlan) (ts : List (List (List GValue))) (m : Int) : Bool := smS s && decide (cntW n p ≤ 40) && narM n p && decide (ts.length ≤ 30) && ts.all (rowsOk m)
/-- What Count does at queries of a depth, and what narrow does. -/
def CntS (n : Nat) : Prop := ∀ (p : GPlan), PlLen n p → Fun1 prog 58 [(rPlan n).ty p] (tV (.int .i64 (cntW n p)))
def NarS (n : Nat) : Prop := ∀ (p : GPlan), PlLen n p → Fun1 prog 59 [(rPlan n).ty p] (tV (.bool (narM n p)))
theorem sm_sz {s : GSchema} (h : smS s = true) (hn : ∀ t ∈ s.Tables, ∀ x ∈ namesL t.Attrs, x.size ≤ 9223372036854775807) : SchSz s := by
  unfold smS at h
  simp only [Bool.and_eq_true, decide_eq_true_eq, List.all_eq_true] at h
  refine ⟨by omega, fun t ht => ?_⟩
  have h1 := h.2 t ht
  unfold smT at h1
  simp only [Bool.and_eq_true, decide_eq_true_eq, List.all_eq_true] at h1
  refine ⟨by omega, by omega, by omega, fun a ha => ?_, hn t ht⟩
  have h2 := h1.2 a ha
  unfold smA at h2
  simp only [Bool.and_eq_true, decide_eq_true_eq] at h2
  omega
theorem nar_sz : ∀ {n : Nat} {p : GPlan}, Dep n p → narM n p = true → PlLen n p → PlSz n p ∧ p.Attrs.length ≤ 1000
  | 0, _, hd, _, _ => hd.elim
  | n + 1, p, hd, h, hl => by
    obtain ⟨h1, h2⟩ := hl
    simp only [narM, Bool.and_eq_true, decide_eq_true_eq, List.all_eq_true] at h
    exact ⟨⟨h1, by omega, by omega, by omega, fun q hq => nar_sz (hd q hq) (h.1 q hq) (h2 q hq)⟩, by omega⟩
theorem nar_attrs {n : Nat} {p : GPlan} (hd : Dep n p) (h : narM n p = true) : p.Attrs.length ≤ 40 := by
  cases n with
  | zero => exact hd.elim
  | succ n => simp only [narM, Bool.and_eq_true, decide_eq_true_eq] at h; exact h.2.1.1
set_option maxHeartbeats 2000000 in
theorem rsSmall_spec (s : GSchema) : Fun1 prog 57 [rSchema.ty s] (tV (.bool (smS s))) := by
 refine Spec.enter func57 rfl rfl fun h0 w0 fr0 => ?_
 refine Jr (Js rfl (step_box (R := rSchema) Sr) (Ja rfl (JL_nil (J_seq (Jr ?_)))))
 refine Js rfl (step_fieldAddr so41 Sr rfl) (Jl rfl ty39 Sr (Js rfl (step_len_sl underlying39 Sr) (Js rfl (step_gtr Sr Sr) (JL_nil ?_))))
 refine J_cond Sr (fun h9 => ?_) (fun h9 => ?_)
 ·
  try simp only [NF] at h9
  refine Jr (Ja rfl (JL_nil (J_ret ?_)))
  refine K_ret1 (t := 2) rfl () ?_
  refine Sub.bool ?_
  have : ¬ s.Tables.length ≤ 24 := by omega
  simp [smS, this]
 try simp only [NF] at h9
 refine J_skip (J_seq (Jr (Ja rfl (JL_nil (J_block ?_)))))
 refine J_loopL (σ := Nat) (fun i => i ≤ s.Tables.length ∧ ∀ k, k < i → smT (nth s.Tables k) = true) (fun i => upd (upd env0 1 (tPtr rSchema s)) 3 (tV (.int .i64 i))) (fun i => []) (fun i => s.Tables.length - i) 0 ⟨by omega, fun k hk => by omega⟩ (zU) (LSub.rfl) ?_
 rintro i ⟨hi, hv⟩
 refine J_seq (Jr (Jm rfl (Js rfl (step_fieldAddr so41 Sr rfl) (Jl rfl ty39 Sr (Js rfl (step_len_sl underlying39 Sr) ?_)))))
 refine Js rfl (step_lss Sr Sr) (JL_nil ?_)
 refine J_cond Sr (fun h14 => ?_) (fun h14 => ?_)
 ·
  try simp only [NF] at h14
  have hlt : i < s.Tables.length := by omega
  refine J_skip (J_seq (J_block (Jr (Js rfl (step_fieldAddr so41 Sr rfl) (Jl rfl ty39 Sr ?_)))))
  refine Jm rfl ?_
  refine Js rfl (step_indexAddr_sl (i := i) underlying39 ty76 Sr Sr (by rfl) (gb (by exact hlt))) ?_
  refine Jl rfl ty76 Sr ?_
  refine Jx rfl (step_alloc (fun w => zeroValue76 w) zr76) fun b4 => ?_
  refine Ju (step_store_box ty76 Sr Sr zS) fun _ => ?_
  refine JL_freeze (t := 4) (Sel.take (Sel.none _)) Frz.box ?_
  refine JL_nil (J_seq (Jr (Js rfl (step_fieldAddr so76 Sr rfl) (Jl rfl ty44 Sr (Js rfl (step_len_sl underlying44 Sr) ?_)))))
  refine Js rfl (step_gtr Sr Sr) (Jm rfl ?_)
  refine Jk rfl Sr rfl (step_fieldAddr so76 Sr rfl) ?_
  refine Jg rfl Sr rfl (fun hw => step_load_ptr ty36 (Sub.w hw)) (Jg rfl Sr rfl (fun hw => step_len_sl underlying36 (Sub.w hw)) (Jg rfl Sr rfl (fun hw => step_gtr (Sub.w hw) Sr) (Js rfl (step_pick_or Sr Sr) (Jm rfl ?_))))
  refine Jk rfl Sr rfl (step_fieldAddr so76 Sr rfl) ?_
  refine Jg rfl Sr rfl (fun hw => step_load_ptr ty9 (Sub.w hw)) (Jg rfl Sr rfl (fun hw => step_len_str underlying9 (Sub.w hw)) (Jg rfl Sr rfl (fun hw => step_gtr (Sub.w hw) Sr) (Js rfl (step_pick_or Sr Sr) (JL_nil ?_))))
  refine J_cond Sr (fun h37 => ?_) (fun h37 => ?_)
  ·
   try simp only [NF] at h37
   refine Jr (Ja rfl (JL_nil (J_ret ?_)))
   refine K_ret1 (t := 2) rfl () ?_
   refine Sub.bool ?_
   have : smT (nth s.Tables i) = false := by
    unfold smT
    rcases h37 with (h | h) | h
    ·
     simp [show ¬ (nth s.Tables i).Attrs.length ≤ 20 by omega]
    ·
     simp [show ¬ (nth s.Tables i).Key.length ≤ 20 by omega]
    simp [show ¬ (nth s.Tables i).Name.size ≤ 100 by omega]
   simp [smS, all_f hlt this]
  try simp only [NF] at h37
  refine J_skip (Jr (Ja rfl (JL_nil (J_block ?_))))
  refine J_loopL (σ := Nat) (fun k => k ≤ (nth s.Tables i).Attrs.length ∧ ∀ j, j < k → smA (nth (nth s.Tables i).Attrs j) = true) (fun k => upd (upd (upd (upd env0 1 (tPtr rSchema s)) 3 (tV (.int .i64 i))) 4 (tPtr rTable (nth s.Tables i))) 5 (tV (.int .i64 k))) (fun k => []) (fun k => (nth s.Tables i).Attrs.length - k) 0 ⟨by omega, fun j hj => by omega⟩ (zU) (LSub.rfl) ?_
  rintro k ⟨hk, hw⟩
  refine J_seq (Jr (Jm rfl (Js rfl (step_fieldAddr so76 Sr rfl) (Jl rfl ty44 Sr (Js rfl (step_len_sl underlying44 Sr) ?_)))))
  refine Js rfl (step_lss Sr Sr) (JL_nil ?_)
  refine J_cond Sr (fun h42 => ?_) (fun h42 => ?_)
  ·
   try simp only [NF] at h42
   have hkt : k < (nth s.Tables i).Attrs.length := by omega
   refine J_skip (J_seq (J_block (Jr (Js rfl (step_fieldAddr so76 Sr rfl) (Jl rfl ty44 Sr ?_)))))
   refine Jm rfl ?_
   refine Js rfl (step_indexAddr_sl (i := k) underlying44 ty89 Sr Sr (by rfl) (gb (by exact hkt))) ?_
   refine Js rfl (step_fieldAddr so89 Sr rfl) (Jl rfl ty85 Sr (Js rfl (step_len_sl underlying85 Sr) (Js rfl (step_gtr Sr Sr) (Jm rfl ?_))))
   refine Jk rfl Sr rfl (step_fieldAddr so76 Sr rfl) ?_
   refine Jg rfl Sr rfl (fun hw => step_load_ptr ty44 (Sub.w hw)) ?_
   refine Jk rfl Sr rfl (step_move Sr) ?_
   refine Jg rfl Sr rfl (fun hw => step_indexAddr_sl (i := k) underlying44 ty89 (Sub.w hw) (Sub.w hw) (by rfl) (gb (by have hwq := hw; (try simp only [beqB_t, beqB_f, NF] at hwq); exact hkt))) ?_
   refine Jg rfl Sr rfl (fun hw => step_fieldAddr so89 (Sub.w hw) rfl) (Jg rfl Sr rfl (fun hw => step_fieldAddr so87 (Sub.w hw) rfl) (Jg rfl Sr rfl (fun hw => step_load_ptr ty9 (Sub.w hw)) (Jg rfl Sr rfl (fun hw => step_len_str underlying9 (Sub.w hw)) (Jg rfl Sr rfl (fun hw => step_gtr (Sub.w hw) Sr) (Js rfl (step_pick_or Sr Sr) ?_)))))
   refine JL_nil ?_
   refine J_cond Sr (fun h63 => ?_) (fun h63 => ?_)
   ·
    try simp only [NF] at h63
    refine Jr (Ja rfl (JL_nil (J_ret ?_)))
    refine K_ret1 (t := 2) rfl () ?_
    refine Sub.bool ?_
    have : smA (nth (nth s.Tables i).Attrs k) = false := by
     unfold smA
     rcases h63 with h | h
     ·
      simp [show ¬ (nth (nth s.Tables i).Attrs k).Was.length ≤ 10 by omega]
     simp [show ¬ (nth (nth s.Tables i).Attrs k).Default.Text.size ≤ 300 by omega]
    have : smT (nth s.Tables i) = false := by unfold smT; simp [all_f hkt this]
    simp [smS, all_f hlt this]
   try simp only [NF] at h63
   refine J_skip (J_region (Jm rfl (Js rfl (step_add Sr Sr z6) (Ja rfl (JL_nil ?_)))))
   refine K_againL (σ := Nat) (s := k) (k + 1) zO ?_ (zU) (LSub.rfl)
   refine ⟨by omega, fun j hj => ?_⟩
   by_cases e : j = k
   ·
    rw [e]; unfold smA; simp; omega
   exact hw j zG
  try simp only [NF] at h42
  have hat : (nth s.Tables i).Attrs.all smA = true := all_t (fun j hj => hw j zG)
  refine J_exit (J_region (Jm rfl (Js rfl (step_add Sr Sr z6) (Ja rfl (JL_nil ?_)))))
  refine K_againL (σ := Nat) (s := i) (i + 1) zO ?_ (zU) (LSub.rfl)
  refine ⟨by omega, fun k hk => ?_⟩
  by_cases e : k = i
  ·
   rw [e]; unfold smT; rw [hat]; simp; omega
  exact hv k zG
 try simp only [NF] at h14
 have hall : s.Tables.all smT = true := all_t (fun k hk => hv k zG)
 refine J_exit (Jr (Ja rfl (JL_nil (J_ret ?_))))
 refine K_ret1 (t := 2) rfl () ?_
 refine Sub.bool ?_
 have : s.Tables.length ≤ 24 := by omega
 simp only [smS, hall, this]; simp
set_option maxHeartbeats 1000000 in
theorem rcnt1_spec (n : Nat) (p : GPlan) (hl : PlLen (n + 1) p) (ih : CntS n) : Fun1 prog 58 [(rPlan (n + 1)).ty p] (tV (.int .i64 (cntW (n + 1) p))) := by
 refine Spec.enter func58 rfl rfl fun h0 w0 fr0 => ?_
 obtain ⟨hl1, hl2⟩ := hl
 refine Jr (Js rfl (step_box (R := (rPlan (n + 1))) Sr) (Ja rfl (JL_nil (Jr (Ja rfl ?_)))))
 refine JL_nil (J_seq (Jr (Ja rfl (JL_nil (J_block ?_)))))
 refine J_loopL (σ := Nat × Int) (fun ⟨i, a⟩ => i ≤ p.Kids.length ∧ cntL (cntW n) a (p.Kids.drop i) = cntL (cntW n) 1 p.Kids) (fun ⟨i, a⟩ => upd (upd (upd (upd env0 1 (tPtr (rPlan (n + 1)) p)) 2 (tV (.int .i64 0))) 3 (tV (.int .i64 a))) 4 (tV (.int .i64 i))) (fun ⟨i, a⟩ => []) (fun ⟨i, a⟩ => p.Kids.length - i) (0, 1) ⟨by omega, by rw [List.drop_zero]⟩ (zU) (LSub.rfl) ?_
 rintro ⟨i, a⟩ ⟨hi, hv⟩
 refine J_seq (Jr (Jm rfl (Js rfl (step_fieldAddr so46 Sr rfl) (Jl rfl ty42 Sr (Js rfl (step_len_sl underlying42 Sr) ?_)))))
 refine Js rfl (step_lss Sr Sr) (Jm rfl ?_)
 refine Jk rfl Sr rfl (step_move Sr) ?_
 refine Jg rfl Sr rfl (fun hw => step_lss (Sub.w hw) Sr) (Js rfl (step_pick_and Sr Sr) (JL_nil ?_))
 refine J_cond Sr (fun h13 => ?_) (fun h13 => ?_)
 ·
  try simp only [NF] at h13
  have hlt : i < p.Kids.length := by omega
  have ha : a < 1000 := h13.2
  have hdr := dropB hlt
  refine J_skip (J_seq (J_block (J_region (Jm rfl (Js rfl (step_fieldAddr so46 Sr rfl) ?_)))))
  refine Jl rfl ty42 Sr (Jm rfl ?_)
  refine Js rfl (step_indexAddr_sl (i := i) underlying42 ty46 Sr Sr (by rfl) (gb (by exact hlt))) ?_
  refine Jl rfl ty46 Sr (Js rfl (step_call0 (ih _ (hl2 _ (nth_mem hlt))) ⟨Sr, trivial⟩ call58) (Js rfl (step_addW Sr Sr) (Ja rfl (JL_nil (J_region ?_)))))
  refine Jm rfl (Js rfl (step_add Sr Sr z6) (Ja rfl (JL_nil ?_)))
  refine K_againL (σ := Nat × Int) (s := (i, a)) (i + 1, IntKind.i64.wrap (a + cntW n (nth p.Kids i))) zO ?_ (zU) (LSub.rfl)
  refine ⟨by omega, ?_⟩
  rw [← hv, hdr]
  show _ = if a < 1000 then _ else a
  rw [if_pos ha]
 try simp only [NF] at h13
 refine J_exit (Jr (Jm rfl (Ja rfl (JL_nil (J_ret ?_)))))
 refine K_ret1 (t := 2) rfl () (Sub.int ?_)
 show a = cntL (cntW n) 1 p.Kids
 rw [← hv]
 by_cases ha : a < 1000
 ·
  have : i = p.Kids.length := by omega
  rw [this, List.drop_length]; rfl
 rw [cntL_stop _ ha]
theorem rcnt_spec : ∀ n, CntS n
 | 0 => fun p hl => by
  refine Spec.enter func58 rfl rfl fun h0 w0 fr0 => ?_
  exact K_fact 0 (fun _ _ r => (show False from r)) fun q => q.elim
 | n + 1 => fun p hl => rcnt1_spec n p hl (rcnt_spec n)
set_option maxHeartbeats 1000000 in
theorem rnar1_spec (n : Nat) (p : GPlan) (hl : PlLen (n + 1) p) (ih : NarS n) : Fun1 prog 59 [(rPlan (n + 1)).ty p] (tV (.bool (narM (n + 1) p))) := by
 refine Spec.enter func59 rfl rfl fun h0 w0 fr0 => ?_
 obtain ⟨hl1, hl2⟩ := hl
 refine Jr (Js rfl (step_box (R := (rPlan (n + 1))) Sr) (Ja rfl (JL_nil (J_seq (Jr ?_)))))
 refine Ja rfl (JL_nil (J_block ?_))
 refine J_loopL (σ := Nat) (fun i => i ≤ p.Kids.length ∧ ∀ k, k < i → narM n (nth p.Kids k) = true) (fun i => upd (upd env0 1 (tPtr (rPlan (n + 1)) p)) 3 (tV (.int .i64 i))) (fun i => []) (fun i => p.Kids.length - i) 0 ⟨by omega, fun k hk => by omega⟩ (zU) (LSub.rfl) ?_
 rintro i ⟨hi, hv⟩
 refine J_seq (Jr (Jm rfl (Js rfl (step_fieldAddr so46 Sr rfl) (Jl rfl ty42 Sr (Js rfl (step_len_sl underlying42 Sr) ?_)))))
 refine Js rfl (step_lss Sr Sr) (JL_nil ?_)
 refine J_cond Sr (fun h8 => ?_) (fun h8 => ?_)
 ·
  try simp only [NF] at h8
  have hlt : i < p.Kids.length := by omega
  refine J_skip (J_seq (J_block (Jr (Js rfl (step_fieldAddr so46 Sr rfl) (Jl rfl ty42 Sr ?_)))))
  refine Jm rfl ?_
  refine Js rfl (step_indexAddr_sl (i := i) underlying42 ty46 Sr Sr (by rfl) (gb (by exact hlt))) ?_
  refine Jl rfl ty46 Sr (Js rfl (step_call0 (ih _ (hl2 _ (nth_mem hlt))) ⟨Sr, trivial⟩ call59) (Js rfl (step_not Sr) (JL_nil ?_)))
  refine J_cond Sr (fun h17 => ?_) (fun h17 => ?_)
  ·
   try simp only [NF] at h17
   refine Jr (Ja rfl (JL_nil (J_ret ?_)))
   refine K_ret1 (t := 2) rfl () ?_
   refine Sub.bool ?_
   have : p.Kids.all (narM n) = false := all_f hlt (by simpa using h17)
   simp only [narM, this, Bool.false_and]
  try simp only [NF] at h17
  refine J_skip (J_region (Jm rfl (Js rfl (step_add Sr Sr z6) (Ja rfl (JL_nil ?_)))))
  refine K_againL (σ := Nat) (s := i) (i + 1) zO ?_ (zU) (LSub.rfl)
  exact pred_again (p := fun q => narM n q = true) hlt hv (by simpa using h17)
 try simp only [NF] at h8
 have hall : p.Kids.all (narM n) = true := all_t (fun k hk => hv k zG)
 refine J_exit (Jr (Js rfl (step_fieldAddr so46 Sr rfl) (Jl rfl ty44 Sr (Js rfl (step_len_sl underlying44 Sr) (Js rfl (step_leq Sr Sr) ?_)))))
 refine Jm rfl ?_
 refine Jk rfl Sr rfl (step_fieldAddr so46 Sr rfl) ?_
 refine Jg rfl Sr rfl (fun hw => step_load_ptr ty43 (Sub.w hw)) (Jg rfl Sr rfl (fun hw => step_len_sl underlying43 (Sub.w hw)) (Jg rfl Sr rfl (fun hw => step_leq (Sub.w hw) Sr) (Js rfl (step_pick_and Sr Sr) (Jm rfl ?_))))
 refine Jk rfl Sr rfl (step_fieldAddr so46 Sr rfl) ?_
 refine Jg rfl Sr rfl (fun hw => step_load_ptr ty36 (Sub.w hw)) (Jg rfl Sr rfl (fun hw => step_len_sl underlying36 (Sub.w hw)) (Jg rfl Sr rfl (fun hw => step_leq (Sub.w hw) Sr) (Js rfl (step_pick_and Sr Sr) (Ja rfl (JL_nil ?_)))))
 refine J_ret ?_
 refine K_ret1 (t := 2) rfl () ?_
 refine Sub.bool ?_
 have e : ∀ a b : Nat, decide ((a : Int) ≤ (b : Int)) = decide (a ≤ b) := fun a b => by rw [decide_eq_decide]; omega
 simp only [narM, hall, Bool.true_and]
 have e1 := e p.Attrs.length 40
 have e2 := e p.Tests.length 20
 have e3 := e p.Cols.length 40
 simp only [← e1, ← e2, ← e3]; rfl
theorem rnar_spec : ∀ n, NarS n
 | 0 => fun p hl => by
  refine Spec.enter func59 rfl rfl fun h0 w0 fr0 => ?_
  exact K_fact 0 (fun _ _ r => (show False from r)) fun q => q.elim
 | n + 1 => fun p hl => rnar1_spec n p hl (rnar_spec n)
set_option maxHeartbeats 2000000 in
theorem rSmall_spec (s : GSchema) (n : Nat) (p : GPlan) (hl : PlLen n p) (ts : List (List (List GValue))) (m : Int) (hz : ∀ t ∈ ts, t.length ≤ 9223372036854775807) : Fun1 prog 19 [rSchema.ty s, (rPlan n).ty p, tSl (rSl (rSl rValue)) ts, tV (.int .i64 m)] (tV (.bool (smallM s n p ts m))) := by
 refine Spec.enter func19 rfl rfl fun h0 w0 fr0 => ?_
 refine Jr (Js rfl (step_box (R := rSchema) Sr) (Js rfl (step_box (R := (rPlan n)) Sr) (Ja rfl (JL_nil (J_seq ?_)))))
 refine Jr (Jl rfl ty41 Sr (Js rfl (step_call0 (rsSmall_spec _) ⟨Sr, trivial⟩ call57) (Js rfl (step_not Sr) (Jm rfl ?_))))
 refine Jk rfl Sr rfl (step_load_ptr ty46 Sr) ?_
 refine Jg rfl Sr rfl (fun hw => step_call0 (rcnt_spec n p hl) ⟨Sub.w hw, trivial⟩ call58) (Jg rfl Sr rfl (fun hw => step_gtr (Sub.w hw) Sr) (Js rfl (step_pick_or Sr Sr) (Jm rfl ?_)))
 refine Jk rfl Sr rfl (step_load_ptr ty46 Sr) ?_
 refine Jg rfl Sr rfl (fun hw => step_call0 (rnar_spec n p hl) ⟨Sub.w hw, trivial⟩ call59) (Jg rfl Sr rfl (fun hw => step_not (Sub.w hw)) (Js rfl (step_pick_or Sr Sr) (Jm rfl ?_)))
 refine Jk rfl Sr rfl (step_move Sr) ?_
 refine Jg rfl Sr rfl (fun hw => step_len_sl underlying61 (Sub.w hw)) (Jg rfl Sr rfl (fun hw => step_gtr (Sub.w hw) Sr) (Js rfl (step_pick_or Sr Sr) (JL_nil ?_)))
 refine J_cond Sr (fun h28 => ?_) (fun h28 => ?_)
 ·
  try simp only [NF] at h28
  refine Jr (Ja rfl (JL_nil (J_ret ?_)))
  refine K_ret1 (t := 8) rfl () ?_
  refine Sub.bool ?_
  unfold smallM
  rcases h28 with ((h | h) | h) | h
  ·
   simp [h]
  ·
   simp [show ¬ cntW n p ≤ 40 by omega]
  ·
   simp [h]
  simp [show ¬ ts.length ≤ 30 by omega]
 try simp only [NF] at h28
 have hb : smS s = true ∧ cntW n p ≤ 40 ∧ narM n p = true ∧ ts.length ≤ 30 := ⟨h28.1.1.1, h28.1.1.2, h28.1.2, by omega⟩
 refine J_skip (J_seq (Jr (Ja rfl (JL_nil (J_block ?_)))))
 refine J_loopL (σ := Nat) (fun i => i ≤ ts.length ∧ ∀ k, k < i → rowsOk m (nth ts k) = true) (fun i => upd (upd (upd env0 2 (tSl (rSl (rSl rValue)) ts)) 3 (tV (.int .i64 m))) 9 (tV (.int .i64 i))) (fun i => []) (fun i => ts.length - i) 0 ⟨by omega, fun k hk => by omega⟩ (zU) (LSub.rfl) ?_
 rintro i ⟨hi, hv⟩
 refine J_seq (Jr (Jm rfl (Jm rfl (Js rfl (step_len_sl underlying61 Sr) (Js rfl (step_lss Sr Sr) ?_)))))
 refine JL_nil ?_
 refine J_cond Sr (fun h32 => ?_) (fun h32 => ?_)
 ·
  try simp only [NF] at h32
  have hlt : i < ts.length := by omega
  have hzi := hz _ (nth_mem hlt)
  refine J_skip (J_seq (J_block (J_seq (Jr (Jm rfl ?_)))))
  refine Jm rfl ?_
  refine Js rfl (step_indexAddr_sl (i := i) underlying61 ty73 Sr Sr (by rfl) (gb (by exact hlt))) ?_
  refine Jl rfl ty73 Sr (Js rfl (step_len_sl underlying73 Sr) (Jm rfl (Js rfl (step_gtr Sr Sr) (JL_nil ?_))))
  refine J_cond Sr (fun h41 => ?_) (fun h41 => ?_)
  ·
   try simp only [NF] at h41
   refine Jr (Ja rfl (JL_nil (J_ret ?_)))
   refine K_ret1 (t := 8) rfl () ?_
   refine Sub.bool ?_
   have : rowsOk m (nth ts i) = false := by unfold rowsOk; simp [show ¬ ((nth ts i).length : Int) ≤ m by omega]
   simp [smallM, all_f hlt this]
  try simp only [NF] at h41
  refine J_skip (Jr (Ja rfl (JL_nil (J_block ?_))))
  refine J_loopL (σ := Nat) (fun k => k ≤ (nth ts i).length ∧ ∀ j, j < k → decide ((nth (nth ts i) j).length ≤ 20) = true) (fun k => upd (upd (upd (upd env0 2 (tSl (rSl (rSl rValue)) ts)) 3 (tV (.int .i64 m))) 9 (tV (.int .i64 i))) 10 (tV (.int .i64 k))) (fun k => []) (fun k => (nth ts i).length - k) 0 ⟨by omega, fun j hj => by omega⟩ (zU) (LSub.rfl) ?_
  rintro k ⟨hk, hw⟩
  refine J_seq (Jr (Jm rfl (Jm rfl (Jm rfl ?_))))
  refine Js rfl (step_indexAddr_sl (i := i) underlying61 ty73 Sr Sr (by rfl) (gb (by exact hlt))) ?_
  refine Jl rfl ty73 Sr (Js rfl (step_len_sl underlying73 Sr) (Js rfl (step_lss Sr Sr) (JL_nil ?_)))
  refine J_cond Sr (fun h48 => ?_) (fun h48 => ?_)
  ·
   try simp only [NF] at h48
   have hkt : k < (nth ts i).length := by omega
   refine J_skip (J_seq (J_block (Jr (Jm rfl (Jm rfl ?_)))))
   refine Js rfl (step_indexAddr_sl (i := i) underlying61 ty73 Sr Sr (by rfl) (gb (by exact hlt))) ?_
   refine Jl rfl ty73 Sr (Jm rfl ?_)
   refine Js rfl (step_indexAddr_sl (i := k) underlying73 ty22 Sr Sr (by rfl) (gb (by exact hkt))) ?_
   refine Jl rfl ty22 Sr (Js rfl (step_len_sl underlying22 Sr) (Js rfl (step_gtr Sr Sr) (JL_nil ?_)))
   refine J_cond Sr (fun h59 => ?_) (fun h59 => ?_)
   ·
    try simp only [NF] at h59
    refine Jr (Ja rfl (JL_nil (J_ret ?_)))
    refine K_ret1 (t := 8) rfl () ?_
    refine Sub.bool ?_
    have h1 : ((nth ts i).all fun r => decide (r.length ≤ 20)) = false := all_f hkt (by rw [decide_eq_false_iff_not]; omega)
    have : rowsOk m (nth ts i) = false := by unfold rowsOk; rw [h1, Bool.and_false]
    simp [smallM, all_f hlt this]
   try simp only [NF] at h59
   refine J_skip (J_region (Jm rfl (Js rfl (step_add Sr Sr z6) (Ja rfl (JL_nil ?_)))))
   refine K_againL (σ := Nat) (s := k) (k + 1) zO ?_ (zU) (LSub.rfl)
   refine ⟨by omega, fun j hj => ?_⟩
   by_cases e : j = k
   ·
    rw [e, decide_eq_true_eq]; omega
   exact hw j zG
  try simp only [NF] at h48
  have hrt : ((nth ts i).all fun r => decide (r.length ≤ 20)) = true := all_t (fun j hj => hw j zG)
  refine J_exit (J_region (Jm rfl (Js rfl (step_add Sr Sr z6) (Ja rfl (JL_nil ?_)))))
  refine K_againL (σ := Nat) (s := i) (i + 1) zO ?_ (zU) (LSub.rfl)
  refine ⟨by omega, fun k hk => ?_⟩
  by_cases e : k = i
  ·
   rw [e]; unfold rowsOk; rw [hrt]; simp; omega
  exact hv k zG
 try simp only [NF] at h32
 have hall : ts.all (rowsOk m) = true := all_t (fun k hk => hv k zG)
 refine J_exit (Jr (Ja rfl (JL_nil (J_ret ?_))))
 refine K_ret1 (t := 8) rfl () ?_
 refine Sub.bool ?_
 simp [smallM, hb.1, hb.2.1, hb.2.2.1, hb.2.2.2, hall]
open Go Go.Proofs Go.Proofs.Tryz
theorem atom_ext {x y : GAtom} (h1 : x.Table = y.Table) (h2 : x.Key = y.Key) (h3 : x.Cols = y.Cols) (h4 : x.Terms = y.Terms) : x = y := by cases x; cases y; simp_all
theorem conj_ext {x y : GConj} (h1 : x.Vars = y.Vars) (h2 : x.Consts = y.Consts) (h3 : x.Atoms = y.Atoms) : x = y := by cases x; cases y; simp_all
instance : DecidableEq GAtom := fun a b => decidable_of_iff (a.Table = b.Table ∧ a.Key = b.Key ∧ a.Cols = b.Cols ∧ a.Terms = b.Terms) ⟨fun ⟨h1, h2, h3, h4⟩ => atom_ext h1 h2 h3 h4, fun h => by subst h; exact ⟨rfl, rfl, rfl, rfl⟩⟩
instance : DecidableEq GConj := fun a b => decidable_of_iff (a.Vars = b.Vars ∧ a.Consts = b.Consts ∧ a.Atoms = b.Atoms) ⟨fun ⟨h1, h2, h3⟩ => conj_ext h1 h2 h3, fun h => by subst h; exact ⟨rfl, rfl, rfl⟩⟩
open Go
section
variable {C : Cx} {E : Env} {L : List SP} {d : Option Nat} {ty : Nat} {pos : String} {af : Array Edge} {g : Option (Nat × Bool)}
theorem step_fieldAt {α : Type} {T n b o o' : Nat} {fs : List (SF α)} {x : Operand} {f : SF α} (S : StructOf C.P T fs) (hx : Sub (opTy E x) (tAt b o)) (hf : fs[n]? = some f) (ho : o + SF.off fs n = o') :
    Step1 C ⟨d, .fieldAddr T x n, ty, pos, af, g⟩ E L (tAt b o') := by
  have := step_fieldAddr_box (C := C) (E := E) (L := L) (d := d) (ty := ty) (pos := pos) (af := af) (g := g) S hx hf
  rwa [ho] at this
theorem step_field {α : Type} {T n : Nat} {fs : List (SF α)} {x : Operand} {y : α} {f : SF α} (S : StructOf C.P T fs) (hx : Sub (opTy E x) ((rStruct fs).ty y)) (hf : fs[n]? = some f) :
    Step1 C ⟨d, .field T x n, ty, pos, af, g⟩ E L (f.R.ty (f.get y)) :=
  Step.of_same (by intro c h; cases h) fun a w h hw fr => by
    obtain ⟨cs, r, hv⟩ := fr.get hx
    have hv : a.eval x = .agg cs.toArray := hv
    obtain ⟨fls, hu, hl⟩ := S.lays
    obtain ⟨fl, h1, h2, h3, h4, h5⟩ := hl.get hf
    have h1' : fls[n]? = some fl := by simpa using h1
    rw [Nat.zero_add] at h3
    obtain ⟨c, rc, hc⟩ := SF.rel_field r hf
    have hcl := f.R.len rc
    refine ⟨packV f.R.agg c, ?_, f.R.pack rc⟩
    have hpt : (part fl.type cs.toArray fl.offset).run C.P w = .ok (packV f.R.agg c) w := by
      unfold part
      rw [h2, h3]
      have hbd : SF.off fs n + f.R.k ≤ cs.length := by
        have := hc (f.R.k - 1) (c[f.R.k - 1]'(by omega)) (List.getElem?_eq_getElem (by omega))
        have := (List.getElem?_eq_some_iff.1 this).1
        omega
      cases hg : f.R.agg with
      | true =>
        have he : cs.toArray.extract (SF.off fs n) (SF.off fs n + f.R.k) = c.toArray := by
          rw [List.extract_toArray]
          congr 1
          refine List.ext_getElem? fun i => ?_
          simp only [List.getElem?_take, List.getElem?_drop]
          by_cases hi : i < f.R.k
          · rw [if_pos (by omega), hc i (c[i]'(by omega)) (List.getElem?_eq_getElem (by omega)), List.getElem?_eq_getElem (by omega)]
          · rw [if_neg (by omega), List.getElem?_eq_none (by omega)]
        have ha := h4.agg w
        rw [hg] at ha
        simp only [Sem.run_bind, ha, Result.andThen_ok, h4.size, if_true, packV]
        simp [he]
      | false =>
        have hk := f.R.scalar hg
        have ha := h4.agg w
        rw [hg] at ha
        match c, hcl, hc with
        | [u], _, hc =>
          have := hc 0 u rfl
          simp only [Nat.add_zero] at this
          simp [Sem.run_bind, ha, packV, this]
        | [], hcl, _ => simp [hk] at hcl
        | _ :: _ :: _, hcl, _ => simp [hk] at hcl
    simp [execOp, Instr.field, hv, run_underlying hu, h1', asAgg, hpt]
theorem step_maxI {T U : Nat} {x y : Operand} {a b : Int} (hx : Sub (opTy E x) (tV (.int .i64 a))) (hy : Sub (opTy E y) (tV (.int .i64 b))) :
    Step1 C ⟨d, .call { callee := .builtin .max, args := #[x, y], argTypes := #[T, U] }, ty, pos, af, g⟩ E L (tV (.int .i64 (max a b))) := by
  have := step_max (C := C) (E := E) (L := L) (d := d) (ty := ty) (pos := pos) (af := af) (g := g) (T := T) (U := U) hx hy
  rwa [show (if b > a then b else a) = max a b by omega] at this
theorem step_minI {T U : Nat} {x y : Operand} {a b : Int} (hx : Sub (opTy E x) (tV (.int .i64 a))) (hy : Sub (opTy E y) (tV (.int .i64 b))) :
    Step1 C ⟨d, .call { callee := .builtin .min, args := #[x, y], argTypes := #[T, U] }, ty, pos, af, g⟩ E L (tV (.int .i64 (min a b))) := by
  have := step_min (C := C) (E := E) (L := L) (d := d) (ty := ty) (pos := pos) (af := af) (g := g) (T := T) (U := U) hx hy
  rwa [show (if b < a then b else a) = min a b by omega] at this
end
/-- A slice: immutable, or just a value. -/
inductive SO (α : Type) where
  | imm (xs : List α)
  | raw (v : Value)
def SO.ty {α : Type} (R : Rp α) : SO α → Ty
  | .imm xs => tSl R xs
  | .raw v => rV.ty v
def rSO {α : Type} (R : Rp α) : Rp (SO α) := rT (SO.ty R) (by
  rintro h x v hv
  cases x with
  | imm xs => obtain ⟨ao, cap, rfl, _⟩ := hv; rfl
  | raw u => obtain ⟨e, h1⟩ := hv; exact e ▸ h1)
theorem SO.imm_rel {α : Type} {R : Rp α} {h : PH} {xs : List α} {cs : List Value} (r : (rSl R).rel h xs cs) : (rSO R).rel h (.imm xs) cs := r
theorem SO.raw_rel {α : Type} {R : Rp α} {h : PH} {v : Value} {cs : List Value} (r : rV.rel h v cs) : (rSO R).rel h (.raw v) cs := ⟨v, r.1, rfl, r.2⟩
/-- Own memory S, of which a part is made immutable, is then F. -/
def Frz2 (S : List SP) (F : SP) : Prop := ∀ h m : PH, h.disj m → (stars S).p h m → ∃ m1 m2 : PH, m1.disj m2 ∧ m = m1.join m2 ∧ F.p (h.join m1) m2
theorem Frz2.box {α α' : Type} {b T : Nat} {fs : List (SF α)} {fs' : List (SF α')} {x : α} {y : α'} {S : List SP} (hup : ∀ h m cs, h.disj m → (stars S).p h m → SF.rel h x fs cs → SF.rel (h.join m) y fs' cs) :
    Frz2 (Lg.box b T (rStruct fs) x :: S) (Lg.box b T (rStruct fs') y) := fun h m d ⟨m1, m2, d12, e0, ⟨cs, r, e1⟩, hs⟩ => by
  subst e0
  have hd := PH.disj_join'.1 d
  exact ⟨m2, m1, PH.disj_symm d12, PH.join_comm d12, cs, hup h m2 cs hd.2 hs r, e1⟩
theorem K_frz2 {C : Cx} {k : Act → World → Prop} {E : Env} {L S R : List SP} {F : SP} (sel : Sel L S R) (f : Frz2 S F) (hk : K C k E (F :: R)) : K C k E L :=
  fun a w ⟨n, ds, h, m, l, sp, st, fr⟩ => by
  obtain ⟨m1, m2, d12, rfl, s1, s2⟩ := sel.stars.1 st
  have hd := PH.disj_join'.1 sp.hm
  obtain ⟨a1, a2, da, rfl, hF⟩ := f h m1 hd.1 s1
  have hle := PH.le_join_left h a1
  have hdj := PH.disj_join'.1 (PH.disj_symm d12)
  rw [PH.join_assoc] at sp
  have hda : a1.disj (a2.join m2) := PH.disj_join'.2 ⟨da, PH.disj_symm hdj.1⟩
  refine hk a w ⟨n, ds, h.join a1, a2.join m2, HL.trans l ⟨hle, Same.refl _⟩, sp.freeze hda, ⟨a2, m2, PH.disj_symm hdj.2, rfl, hF, (stars R).mono hle s2⟩, fun u => (E u).mono hle (fr u)⟩
open Go Go.Proofs Go.Proofs.Tryz
structure Gsize where
  rows : Int
  cost : Int
  distinct : List Int
def zsize : Gsize := { rows := 0, cost := 0, distinct := [] }
instance : Inhabited Gsize := ⟨zsize⟩
def fssize : List (SF Gsize) := [⟨Int, 3, rInt, Gsize.rows⟩, ⟨Int, 3, rInt, Gsize.cost⟩, ⟨List Int, 36, (rSl rInt), Gsize.distinct⟩]
abbrev rsize : Rp Gsize := rStruct fssize
theorem ty150 : TyOf Tryz.prog 150 rsize := ⟨fun w => Tryz.isAgg150 w, fun w => Tryz.sizeOf150 w⟩
theorem so150 : StructOf Tryz.prog 150 fssize := ⟨⟨_, Tryz.underlying150, ⟨rfl, rfl, ty3, by decide, ⟨rfl, rfl, ty3, by decide, ⟨rfl, rfl, ty36, by decide, trivial⟩⟩⟩⟩, ty150⟩
theorem zr150 : ∀ h, (rsize.ty zsize).p h (.agg #[Value.int .i64 0, Value.int .i64 0, Value.slice none 0 0]) := fun _ => ⟨_, ⟨[Value.int .i64 0], _, rfl, rfl, ⟨[Value.int .i64 0], _, rfl, rfl, ⟨[Value.slice none 0 0], _, rfl, ⟨_, rfl, none, ⟨0, Nat.le_refl _⟩, rfl, fun q => absurd rfl q⟩, rfl⟩⟩⟩, rfl⟩
structure Gplanner where
  s : GSchema
  st : GStats
def zplanner : Gplanner := { s := zSchema, st := zStats }
instance : Inhabited Gplanner := ⟨zplanner⟩
def fsplanner : List (SF Gplanner) := [⟨GSchema, 41, rSchema, Gplanner.s⟩, ⟨GStats, 60, rStats, Gplanner.st⟩]
abbrev rplanner : Rp Gplanner := rStruct fsplanner
theorem ty146 : TyOf Tryz.prog 146 rplanner := ⟨fun w => Tryz.isAgg146 w, fun w => Tryz.sizeOf146 w⟩
theorem so146 : StructOf Tryz.prog 146 fsplanner := ⟨⟨_, Tryz.underlying146, ⟨rfl, rfl, ty41, by decide, ⟨rfl, rfl, ty60, by decide, trivial⟩⟩⟩, ty146⟩
theorem zr146 : ∀ h, (rplanner.ty zplanner).p h (.agg #[Value.slice none 0 0, Value.slice none 0 0, Value.slice none 0 0]) := fun _ => ⟨_, ⟨[Value.slice none 0 0], _, rfl, ⟨[Value.slice none 0 0], _, rfl, ⟨_, rfl, none, ⟨0, Nat.le_refl _⟩, rfl, fun q => absurd rfl q⟩, rfl⟩, ⟨[Value.slice none 0 0, Value.slice none 0 0], _, rfl, ⟨[Value.slice none 0 0], _, rfl, ⟨_, rfl, none, ⟨0, Nat.le_refl _⟩, rfl, fun q => absurd rfl q⟩, ⟨[Value.slice none 0 0], _, rfl, ⟨_, rfl, none, ⟨0, Nat.le_refl _⟩, rfl, fun q => absurd rfl q⟩, rfl⟩⟩, rfl⟩⟩, rfl⟩
/-- A query with its estimate. -/
structure Gnode where
  Plan : GPlan
  size : Gsize
instance : Inhabited Gnode := ⟨⟨GPl.zero, zsize⟩⟩
def fsnode (n : Nat) : List (SF Gnode) := [⟨GPlan, 46, rPlan n, Gnode.Plan⟩, ⟨Gsize, 150, rsize, Gnode.size⟩]
abbrev rnode (n : Nat) : Rp Gnode := rStruct (fsnode n)
theorem kplan {n : Nat} : (rPlan n).k = 8 := rPl_k cPl rAttr rTest n
theorem knode {n : Nat} : (rnode n).k = 11 := by show (rPlan n).k + 3 = 11; rw [kplan]
theorem ty152 {n : Nat} : TyOf Tryz.prog 152 (rnode n) := ⟨fun w => Tryz.isAgg152 w, fun w => by rw [knode]; exact Tryz.sizeOf152 w⟩
theorem so152 {n : Nat} : StructOf Tryz.prog 152 (fsnode n) := ⟨⟨_, Tryz.underlying152, ⟨rfl, rfl, ty46, (by rw [kplan]; decide), ⟨rfl, (by rw [kplan]), ty150, by decide, trivial⟩⟩⟩, ty152⟩
theorem ty197 {n : Nat} : TyOf Tryz.prog 197 (rSl (rnode n)) := ⟨fun w => Tryz.isAgg197 w, fun w => Tryz.sizeOf197 w⟩
theorem ty197V : TyOf Tryz.prog 197 rV := ⟨fun w => Tryz.isAgg197 w, fun w => Tryz.sizeOf197 w⟩
theorem zr152 {n : Nat} : ∀ h, ((rnode (n + 1)).ty ⟨GPl.zero, zsize⟩).p h (.agg #[Value.int .i64 0, Value.int .i64 0, Value.slice none 0 0, Value.slice none 0 0, Value.slice none 0 0, Value.int .i64 0, Value.int .i64 0, Value.slice none 0 0, Value.int .i64 0, Value.int .i64 0, Value.slice none 0 0]) := fun h => ⟨_, ⟨_, _, rfl, (rPlan (n + 1)).cells (zr46 h), ⟨_, [], by rw [List.append_nil]; rfl, rsize.cells (zr150 h), rfl⟩⟩, rfl⟩
theorem el152 {n : Nat} : ElT Tryz.prog 152 (rnode (n + 1)) 168 ⟨GPl.zero, zsize⟩ := ⟨ty152, (by rw [knode]; decide), Tryz.t152, (.agg #[Value.int .i64 0, Value.int .i64 0, Value.slice none 0 0, Value.slice none 0 0, Value.slice none 0 0, Value.int .i64 0, Value.int .i64 0, Value.slice none 0 0, Value.int .i64 0, Value.int .i64 0, Value.slice none 0 0]), by kernel_rfl, by kernel_rfl, by kernel_rfl, by kernel_rfl, zr152⟩
/-- The same, flat, with slices that may be one's own. -/
structure GnodeF where
  Kind : Int
  Table : Int
  Kids : SO GPlan
  Tests : List GTest
  Cols : List Int
  Col : Int
  Agg : Int
  Attrs : List GAttr
  rows : Int
  cost : Int
  ds : SO Int
def fsnodeF (n : Nat) : List (SF GnodeF) := [⟨Int, 3, rInt, GnodeF.Kind⟩, ⟨Int, 3, rInt, GnodeF.Table⟩, ⟨SO GPlan, 42, rSO (rPlan n), GnodeF.Kids⟩, ⟨List GTest, 43, rSl rTest, GnodeF.Tests⟩, ⟨List Int, 36, rSl rInt, GnodeF.Cols⟩, ⟨Int, 3, rInt, GnodeF.Col⟩, ⟨Int, 3, rInt, GnodeF.Agg⟩, ⟨List GAttr, 44, rSl rAttr, GnodeF.Attrs⟩, ⟨Int, 3, rInt, GnodeF.rows⟩, ⟨Int, 3, rInt, GnodeF.cost⟩, ⟨SO Int, 36, rSO rInt, GnodeF.ds⟩]
abbrev rnodeF (n : Nat) : Rp GnodeF := rStruct (fsnodeF n)
theorem ty152F {n : Nat} : TyOf Tryz.prog 152 (rnodeF n) := ⟨fun w => Tryz.isAgg152 w, fun w => Tryz.sizeOf152 w⟩
theorem ty42S {n : Nat} : TyOf Tryz.prog 42 (rSO (rPlan n)) := ⟨fun w => Tryz.isAgg42 w, fun w => Tryz.sizeOf42 w⟩
theorem ty36S : TyOf Tryz.prog 36 (rSO rInt) := ⟨fun w => Tryz.isAgg36 w, fun w => Tryz.sizeOf36 w⟩
structure GsizeR where
  rows : Int
  cost : Int
  ds : SO Int
def fssizeR : List (SF GsizeR) := [⟨Int, 3, rInt, GsizeR.rows⟩, ⟨Int, 3, rInt, GsizeR.cost⟩, ⟨SO Int, 36, rSO rInt, GsizeR.ds⟩]
abbrev rsizeR : Rp GsizeR := rStruct fssizeR
theorem ty150R : TyOf Tryz.prog 150 rsizeR := ⟨fun w => Tryz.isAgg150 w, fun w => Tryz.sizeOf150 w⟩
structure GnodeR where
  Plan : GPlan
  size : GsizeR
def fsnodeR (n : Nat) : List (SF GnodeR) := [⟨GPlan, 46, rPlan n, GnodeR.Plan⟩, ⟨GsizeR, 150, rsizeR, GnodeR.size⟩]
abbrev rnodeR (n : Nat) : Rp GnodeR := rStruct (fsnodeR n)
theorem ty152R {n : Nat} : TyOf Tryz.prog 152 (rnodeR n) := ⟨fun w => Tryz.isAgg152 w, fun w => by rw [show (rnodeR n).k = 11 by show (rPlan n).k + 3 = 11; rw [kplan]]; exact Tryz.sizeOf152 w⟩
theorem so152R {n : Nat} : StructOf Tryz.prog 152 (fsnodeR n) := ⟨⟨_, Tryz.underlying152, ⟨rfl, rfl, ty46, (by rw [kplan]; decide), ⟨rfl, (by rw [kplan]), ty150R, by decide, trivial⟩⟩⟩, ty152R⟩
def flatN (p : GPlan) (z : GsizeR) : GnodeF := ⟨p.Kind, p.Table, .imm p.Kids, p.Tests, p.Cols, p.Col, p.Agg, p.Attrs, z.rows, z.cost, z.ds⟩
theorem flat_rel {n : Nat} {h : PH} {p : GPlan} {z : GsizeR} {cs : List Value} (r : (rnodeR (n + 1)).rel h ⟨p, z⟩ cs) : (rnodeF n).rel h (flatN p z) cs := by
  obtain ⟨c1, _, rfl, r1, c2, _, rfl, r2, rfl⟩ := r
  obtain ⟨c, _, rfl, q0, c, _, rfl, q1, c, _, rfl, q2, c, _, rfl, q3, c, _, rfl, q4, c, _, rfl, q5, c, _, rfl, q6, c, _, rfl, q7, rfl⟩ := r1
  obtain ⟨c, _, rfl, s0, c, _, rfl, s1, c, _, rfl, s2, rfl⟩ := r2
  simp only [List.append_assoc, List.nil_append]
  exact ⟨_, _, rfl, q0, _, _, rfl, q1, _, _, rfl, q2, _, _, rfl, q3, _, _, rfl, q4, _, _, rfl, q5, _, _, rfl, q6, _, _, rfl, q7, _, _, rfl, s0, _, _, rfl, s1, _, _, rfl, s2, rfl⟩
theorem flat_ty {n : Nat} {p : GPlan} {z : GsizeR} : Sub ((rnodeR (n + 1)).ty ⟨p, z⟩) ((rnodeF n).ty (flatN p z)) := fun h v ⟨cs, r, e⟩ => ⟨cs, flat_rel r, e⟩
/-- Back, when what is one's own has been made immutable. -/
theorem unflat_rel {n : Nat} {h : PH} {x : GnodeF} {ks : List GPlan} {ds : List Int} {cs : List Value} (r : (rnodeF n).rel h x cs) (hk : ∀ v, (SO.ty (rPlan n) x.Kids).p h v → (tSl (rPlan n) ks).p h v) (hd : ∀ v, (SO.ty rInt x.ds).p h v → (tSl rInt ds).p h v) :
    (rnode (n + 1)).rel h ⟨GPl.mk x.Kind x.Table ks x.Tests x.Cols x.Col x.Agg x.Attrs, ⟨x.rows, x.cost, ds⟩⟩ cs := by
  obtain ⟨c0, _, rfl, q0, c1, _, rfl, q1, c2, _, rfl, ⟨v2, rfl, q2⟩, c3, _, rfl, q3, c4, _, rfl, q4, c5, _, rfl, q5, c6, _, rfl, q6, c7, _, rfl, q7, c8, _, rfl, s0, c9, _, rfl, s1, c10, _, rfl, ⟨v10, rfl, s2⟩, rfl⟩ := r
  refine ⟨c0 ++ (c1 ++ ([v2] ++ (c3 ++ (c4 ++ (c5 ++ (c6 ++ (c7 ++ []))))))), c8 ++ (c9 ++ ([v10] ++ [])), by simp only [List.append_assoc, List.nil_append, List.append_nil], ?_, ?_⟩
  · exact ⟨_, _, rfl, q0, _, _, rfl, q1, _, _, rfl, ⟨_, rfl, hk _ q2⟩, _, _, rfl, q3, _, _, rfl, q4, _, _, rfl, q5, _, _, rfl, q6, _, _, rfl, q7, rfl⟩
  · exact ⟨_, [], by simp only [List.append_nil], ⟨_, _, rfl, s0, _, _, rfl, s1, _, _, rfl, ⟨_, rfl, hd _ s2⟩, rfl⟩, rfl⟩
theorem zrel_sizeR (h : PH) : rsizeR.rel h ⟨0, 0, .raw (.slice none 0 0)⟩ [Value.int .i64 0, Value.int .i64 0, Value.slice none 0 0] := ⟨[Value.int .i64 0], _, rfl, rfl, [Value.int .i64 0], _, rfl, rfl, [Value.slice none 0 0], [], rfl, ⟨_, rfl, rfl, rfl⟩, rfl⟩
def zsizeR : GsizeR := ⟨0, 0, .raw (.slice none 0 0)⟩
theorem zr152F {n : Nat} : ∀ h, ((rnodeF n).ty (flatN GPl.zero zsizeR)).p h (.agg #[Value.int .i64 0, Value.int .i64 0, Value.slice none 0 0, Value.slice none 0 0, Value.slice none 0 0, Value.int .i64 0, Value.int .i64 0, Value.slice none 0 0, Value.int .i64 0, Value.int .i64 0, Value.slice none 0 0]) := fun h => flat_ty h _ ⟨_, ⟨_, _, rfl, (rPlan (n + 1)).cells (zr46 h), ⟨_, [], by rw [List.append_nil], zrel_sizeR h, rfl⟩⟩, rfl⟩
theorem zr152P {n m : Nat} (hm : n = m + 1) : ∀ h, ((rnode n).ty ⟨GPl.zero, zsize⟩).p h (.agg #[Value.int .i64 0, Value.int .i64 0, Value.slice none 0 0, Value.slice none 0 0, Value.slice none 0 0, Value.int .i64 0, Value.int .i64 0, Value.slice none 0 0, Value.int .i64 0, Value.int .i64 0, Value.slice none 0 0]) := hm ▸ zr152
theorem el46P {n m : Nat} (hm : n = m + 1) : ElT Tryz.prog 46 (rPlan n) 128 GPl.zero := hm ▸ el46
theorem el152P {n m : Nat} (hm : n = m + 1) : ElT Tryz.prog 152 (rnode n) 168 ⟨GPl.zero, zsize⟩ := hm ▸ el152
theorem nodes_pos {n : Nat} {xs : List Gnode} {h : PH} {v : Value} (hv : (tSl (rnode n) xs).p h v) : ∃ m, 0 < xs.length → n = m + 1 := by
  obtain ⟨ao, cap, e, H⟩ := hv
  cases xs with
  | nil => exact ⟨0, fun q => absurd q (by simp)⟩
  | cons x xs =>
    obtain ⟨b, off, ea, H2⟩ := H (by simp)
    obtain ⟨cs, _, r⟩ := H2 0 x rfl
    obtain ⟨c1, _, _, r1, _⟩ := (show SF.rel h x (fsnode n) cs from r)
    obtain ⟨m, hm⟩ := rPl_pos cPl rAttr rTest r1
    exact ⟨m, fun _ => hm⟩
/-- A node with kids that are one's own has no depth yet. -/
theorem flat_raw {b m n : Nat} {x : GnodeF} {v : Value} (hx : x.Kids = .raw v) : SPs (box b 152 (rnodeF m) x) (box b 152 (rnodeF n) x) := fun h q ⟨cs, r, e⟩ => by
  refine ⟨cs, ?_, e⟩
  obtain ⟨c, _, rfl, q0, c, _, rfl, q1, c, _, rfl, ⟨u, e2, q2⟩, rest⟩ := (show SF.rel h x (fsnodeF m) cs from r)
  exact ⟨_, _, rfl, q0, _, _, rfl, q1, _, _, rfl, ⟨u, e2, by show (SO.ty (rPlan n) x.Kids).p h u; rw [hx]; have q2 : (SO.ty (rPlan m) x.Kids).p h u := q2; rw [hx] at q2; exact q2⟩, rest⟩
theorem Frz2.ds {b n : Nat} {v : Value} {xs : List Int} {a1 a2 : Int} {a3 : SO GPlan} {a4 : List GTest} {a5 : List Int} {a6 a7 : Int} {a8 : List GAttr} {a9 a10 : Int} {S : List SP} :
    Frz2 (Lg.box b 152 (rnodeF n) ⟨a1, a2, a3, a4, a5, a6, a7, a8, a9, a10, .raw v⟩ :: Lg.own 3 rInt v xs :: S) (Lg.box b 152 (rnodeF n) ⟨a1, a2, a3, a4, a5, a6, a7, a8, a9, a10, .imm xs⟩) :=
  Frz2.box fun h m cs d st r => by
    have hv := Frz.ownV h m v d st rfl
    obtain ⟨c0, _, rfl, q0, c1, _, rfl, q1, c2, _, rfl, q2, c3, _, rfl, q3, c4, _, rfl, q4, c5, _, rfl, q5, c6, _, rfl, q6, c7, _, rfl, q7, c8, _, rfl, s0, c9, _, rfl, s1, c10, _, rfl, ⟨v10, rfl, s2⟩, rfl⟩ := r
    have le := PH.le_join_left h m
    have s2 : v10 = v := s2.1
    subst s2
    exact ⟨_, _, rfl, rInt.mono le q0, _, _, rfl, rInt.mono le q1, _, _, rfl, (rSO (rPlan n)).mono le q2, _, _, rfl, (rSl rTest).mono le q3, _, _, rfl, (rSl rInt).mono le q4, _, _, rfl, rInt.mono le q5, _, _, rfl, rInt.mono le q6, _, _, rfl, (rSl rAttr).mono le q7, _, _, rfl, rInt.mono le s0, _, _, rfl, rInt.mono le s1, _, _, rfl, ⟨_, rfl, hv⟩, rfl⟩
theorem Frz.node {b n : Nat} {vk vd : Value} {ks : List GPlan} {ds : List Int} {a1 a2 : Int} {a4 : List GTest} {a5 : List Int} {a6 a7 : Int} {a8 : List GAttr} {a9 a10 : Int} {S : List SP} :
    Frz (Lg.box b 152 (rnodeF n) ⟨a1, a2, .raw vk, a4, a5, a6, a7, a8, a9, a10, .raw vd⟩ :: Lg.own 46 (rPlan n) vk ks :: Lg.own 3 rInt vd ds :: S) (tAt b 0) (tPtr (rnode (n + 1)) ⟨GPl.mk a1 a2 ks a4 a5 a6 a7 a8, ⟨a9, a10, ds⟩⟩) :=
  Frz.upS fun h m cs d st r => by
    have le := PH.le_join_left h m
    obtain ⟨m1, m2, d12, e, ho, st2⟩ := st
    have hd := PH.disj_join'.1 (e ▸ d)
    have hk : (tSl (rPlan n) ks).p (h.join m) vk := by
      have := Frz.ownV (S := []) h m1 vk hd.1 ⟨m1, PH.emp, PH.disj_emp _, (PH.join_emp _).symm, ho, rfl⟩ rfl
      refine (tSl (rPlan n) ks).mono ?_ this
      subst e; rw [← PH.join_assoc]; exact PH.le_join_left _ _
    have hdv : (tSl rInt ds).p (h.join m) vd := by
      have := Frz.ownV h m2 vd hd.2 st2 rfl
      refine (tSl rInt ds).mono ?_ this
      subst e; rw [PH.join_comm d12, ← PH.join_assoc]; exact PH.le_join_left _ _
    exact unflat_rel ((rnodeF n).mono le r) (fun v hv => by have hv : v = vk := hv.1; rw [hv]; exact hk) (fun v hv => by have hv : v = vd := hv.1; rw [hv]; exact hdv)
open Go Go.Proofs Go.Proofs.Tryz
theorem fold_take {α β : Type} [Inhabited α] {f : β → α → β} {a : β} {l : List α} {i : Nat} (h : i < l.length) : (l.take (i + 1)).foldl f a = f ((l.take i).foldl f a) (nth l i) := by rw [takeB h, List.foldl_append]; rfl
theorem fold_rng {β : Type} {f : β → Nat → β} {a : β} {i : Nat} : (List.range (i + 1)).foldl f a = f ((List.range i).foldl f a) i := by rw [List.range_succ, List.foldl_append]; rfl
theorem fold_rule {α β : Type} {P : β → Prop} {f : β → α → β} {l : List α} {a : β} (h : ∀ b, P b → ∀ x ∈ l, P (f b x)) (h0 : P a) : P (l.foldl f a) := by
  induction l generalizing a with
  | nil => exact h0
  | cons y l ih => exact ih (fun b hb x hx => h b hb x (List.mem_cons_of_mem _ hx)) (h a h0 y List.mem_cons_self)
/-! ### What the planner reckons -/
def shareM (n b : Int) : Int := (n + max b 1 - 1) / max b 1
def divS (d : List Int) (a : Int) (s : GSide) : Int := if s.Var = 0 then max a (nth d s.Col.toNat) else a
def divM (t : GTest) (d : List Int) : Int := if t.Op = 2 then 1 else if t.Op ≠ 1 ∨ t.Add ≠ 0 then 3 else [t.Left, t.Right].foldl (divS d) 1
def prodM (d cols : List Int) : Int := cols.foldl (fun a c => min 1000000000 (a * (nth d c.toNat + 1))) 1
def sevM (k : Gnode) (cols : List Int) : Int := min k.size.rows (prodM k.size.distinct cols)
def selR (d : List Int) (l : List GTest) (r : Int) : Int := l.foldl (fun r t => shareM r (divM t d)) r
def jCol (l r : Gnode) (i : Nat) : Int := columnL r.Plan.Attrs (nth l.Plan.Attrs i).Name
def jStep (l r : Gnode) (a : Int) (i : Nat) : Int := if 0 ≤ jCol l r i then shareM a (max (nth l.size.distinct i) (nth r.size.distinct (jCol l r i).toNat)) else a
def jRows (l r : Gnode) (n : Nat) : Int := (List.range n).foldl (jStep l r) (min 1000000000 (l.size.rows * r.size.rows))
def jNew (l r : Gnode) (n : Nat) : List Nat := (List.range n).filter fun k => decide (columnL l.Plan.Attrs (nth r.Plan.Attrs k).Name < 0)
def jDs (l r : Gnode) (n : Nat) : List Int := l.size.distinct ++ (jNew l r n).map fun k => nth r.size.distinct k
def uDs (a b : List Int) (n : Nat) : List Int := (List.range n).map fun i => nth a i + nth b i
def ngrpR (k : Gnode) (cols : List Int) : Int := if cols.length = 0 then 1 else sevM k cols
def pickD (d cols : List Int) : List Int := cols.map fun c => nth d c.toNat
def rowsM (x : Gplanner) (p : GPlan) (ks : List Gnode) : Int :=
  if p.Kind = 1 then nth x.st.Rows p.Table.toNat
  else if p.Kind = 2 then selR (nth ks 0).size.distinct p.Tests (nth ks 0).size.rows
  else if p.Kind = 3 then sevM (nth ks 0) p.Cols
  else if p.Kind = 8 then ngrpR (nth ks 0) p.Cols
  else if p.Kind = 4 then jRows (nth ks 0) (nth ks 1) (nth ks 0).Plan.Attrs.length
  else if p.Kind = 5 then min 1000000000 ((nth ks 0).size.rows + (nth ks 1).size.rows)
  else (nth ks 0).size.rows
def dsM (x : Gplanner) (p : GPlan) (ks : List Gnode) : List Int :=
  if p.Kind = 1 then nth x.st.Distinct p.Table.toNat
  else if p.Kind = 2 then (nth ks 0).size.distinct
  else if p.Kind = 3 then pickD (nth ks 0).size.distinct p.Cols
  else if p.Kind = 8 then pickD (nth ks 0).size.distinct p.Cols ++ [ngrpR (nth ks 0) p.Cols]
  else if p.Kind = 4 then jDs (nth ks 0) (nth ks 1) (nth ks 1).Plan.Attrs.length
  else if p.Kind = 5 then uDs (nth ks 0).size.distinct (nth ks 1).size.distinct (nth ks 0).size.distinct.length
  else (nth ks 0).size.distinct
def costK (ks : List Gnode) : Int := ks.foldl (fun c k => min 1000000000 (c + k.size.cost)) 0
def makeM (x : Gplanner) (p : GPlan) (ks : List Gnode) : Gnode := ⟨GPl.mk p.Kind p.Table (ks.map Gnode.Plan) p.Tests p.Cols p.Col p.Agg p.Attrs, ⟨rowsM x p ks, min 1000000000 (costK ks + rowsM x p ks), (dsM x p ks).map fun d => min d (rowsM x p ks)⟩⟩
/-- Numbers up to the limit. -/
def Upto (n : Int) : Prop := 0 ≤ n ∧ n ≤ 1000000000
def DsOk (d : List Int) : Prop := ∀ x ∈ d, Upto x
theorem DsOk.nth {d : List Int} (h : DsOk d) (i : Nat) : Upto (nth d i) := by
  by_cases hi : i < d.length
  · exact h _ (nth_mem hi)
  · rw [nth_out hi]; exact ⟨by decide, by decide⟩
structure NdOk (k : Gnode) : Prop where
  r : Upto k.size.rows
  c : Upto k.size.cost
  d : DsOk k.size.distinct
  n : k.size.distinct.length = k.Plan.Attrs.length
  a : k.Plan.Attrs.length ≤ 1000000
def tstIn (k : Nat) (t : GTest) : Prop := ∀ s ∈ [t.Left, t.Right], s.Var = 0 → 0 ≤ s.Col ∧ s.Col < k
def colsIn (k : Nat) (l : List Int) : Prop := ∀ c ∈ l, 0 ≤ c ∧ c < k
theorem share_bd {n : Int} (b : Int) (h : 0 ≤ n) : 0 ≤ shareM n b ∧ shareM n b ≤ n := by
  unfold shareM
  have hb : 1 ≤ max b 1 := by omega
  generalize max b 1 = c at hb
  refine ⟨Int.ediv_nonneg (by omega) (by omega), ?_⟩
  have h2 : n * 1 ≤ n * c := Int.mul_le_mul_of_nonneg_left hb h
  have h3 : (n + 1) * c = n * c + c := by rw [Int.add_mul, Int.one_mul]
  have : (n + c - 1) / c < n + 1 := Int.ediv_lt_of_lt_mul (by omega) (by omega)
  omega
theorem divS_bd {d : List Int} (hd : DsOk d) {a : Int} (s : GSide) (ha : 1 ≤ a ∧ a ≤ 1000000000) : 1 ≤ divS d a s ∧ divS d a s ≤ 1000000000 := by
  unfold divS
  have := hd.nth s.Col.toNat
  unfold Upto at this
  split <;> omega
theorem divM_bd {d : List Int} (hd : DsOk d) (t : GTest) : 1 ≤ divM t d ∧ divM t d ≤ 1000000000 := by
  unfold divM
  split
  · omega
  · split
    · omega
    · exact fold_rule (P := fun a => 1 ≤ a ∧ a ≤ 1000000000) (fun b hb x _ => divS_bd hd x hb) (by omega)
theorem prod_step {d : List Int} (hd : DsOk d) (c a : Int) (ha : 1 ≤ a ∧ a ≤ 1000000000) : (1 ≤ a * (nth d c.toNat + 1) ∧ a * (nth d c.toNat + 1) ≤ 1000000001000000000) := by
  have h1 := hd.nth c.toNat
  unfold Upto at h1
  have h2 : 1 * 1 ≤ a * (nth d c.toNat + 1) := Int.mul_le_mul (by omega) (by omega) (by omega) (by omega)
  have h3 : a * (nth d c.toNat + 1) ≤ 1000000000 * 1000000001 := Int.mul_le_mul (by omega) (by omega) (by omega) (by omega)
  omega
theorem prod_bd {d : List Int} (hd : DsOk d) (cols : List Int) : 1 ≤ prodM d cols ∧ prodM d cols ≤ 1000000000 :=
  fold_rule (P := fun a => 1 ≤ a ∧ a ≤ 1000000000) (fun b hb x _ => by have := prod_step hd x b hb; omega) (by omega)
theorem sev_bd {k : Gnode} (h : NdOk k) (cols : List Int) : Upto (sevM k cols) := by
  have := prod_bd h.d cols
  have := h.r
  unfold Upto sevM at *; omega
theorem grp_bd {k : Gnode} (h : NdOk k) (cols : List Int) : Upto (ngrpR k cols) := by
  unfold ngrpR
  split
  · exact ⟨by decide, by decide⟩
  · exact sev_bd h cols
theorem sel_bd {d : List Int} {r : Int} (h : Upto r) (l : List GTest) : Upto (selR d l r) := by
  unfold selR
  exact fold_rule (P := Upto) (fun b hb x _ => by have := share_bd (divM x d) hb.1; exact ⟨this.1, by have := hb.2; omega⟩) h
theorem mul_bd {a b : Int} (ha : Upto a) (hb : Upto b) : 0 ≤ a * b ∧ a * b ≤ 1000000000000000000 := by
  obtain ⟨a1, a2⟩ := ha
  obtain ⟨b1, b2⟩ := hb
  have h2 : a * b ≤ 1000000000 * 1000000000 := Int.mul_le_mul a2 b2 b1 (by omega)
  exact ⟨Int.mul_nonneg a1 b1, by omega⟩
theorem jstep_bd {l r : Gnode} {a : Int} (h : Upto a) (i : Nat) : Upto (jStep l r a i) := by
  unfold jStep
  split
  · have := share_bd (max (nth l.size.distinct i) (nth r.size.distinct (jCol l r i).toNat)) h.1
    exact ⟨this.1, by have := h.2; omega⟩
  · exact h
theorem jrows_bd {l r : Gnode} (hl : NdOk l) (hr : NdOk r) (n : Nat) : Upto (jRows l r n) :=
  fold_rule (P := Upto) (fun b hb x _ => jstep_bd hb x) (by have := mul_bd hl.r hr.r; unfold Upto; omega)
theorem cost_bd {ks : List Gnode} (h : ∀ k ∈ ks, NdOk k) : Upto (costK ks) :=
  fold_rule (P := Upto) (fun b hb x hx => by have := (h x hx).c; unfold Upto at *; omega) ⟨by decide, by decide⟩
theorem share_spec (n b : Int) (hn : 0 ≤ n ∧ n ≤ 1000000000) (hb : b ≤ 1000000000) : Fun1 prog 217 [tV (.int .i64 n), tV (.int .i64 b)] (tV (.int .i64 (shareM n b))) := by
 refine Spec.enter func217 rfl rfl fun h0 w0 fr0 => ?_
 have hq := share_bd b hn.1
 refine Jr (Ja rfl (JL_nil (Jr (Jm rfl (Js rfl (step_maxI Sr Sr) ?_)))))
 refine Ja rfl (JL_nil (Jr (Jm rfl (Jm rfl (Js rfl (step_add Sr Sr z6) ?_)))))
 refine Js rfl (step_sub Sr Sr z6) (Jm rfl ?_)
 refine Js rfl (step_quo Sr Sr zG zG (by unfold shareM at hq; generalize (n + max b 1 - 1) / max b 1 = q at hq ⊢; unfold in64; omega)) ?_
 refine Ja rfl (JL_nil (J_ret ?_))
 refine K_ret1 (t := 4) rfl () Sr
set_option maxHeartbeats 1000000 in
theorem divisor_spec (t : GTest) (d : List Int) (ht : t.Op = 1 → tstIn d.length t) : Fun1 prog 218 [rTest.ty t, tSl rInt d] (tV (.int .i64 (divM t d))) := by
 refine Spec.enter func218 rfl rfl fun h0 w0 fr0 => ?_
 have hlen : [t.Left, t.Right].length = 2 := rfl
 refine Jr (Js rfl (step_box (R := rTest) Sr) (Ja rfl (JL_nil (J_seq (J_block ?_)))))
 refine Jr (Js rfl (step_fieldAddr so93 Sr rfl) (Jl rfl ty3 Sr (Js rfl (step_eql Sr Sr) (Ja rfl (JL_nil ?_)))))
 refine J_cond Sr (fun h8 => ?_) (fun h8 => ?_)
 ·
  try simp only [NF] at h8
  refine Jr (Ja rfl (JL_nil (J_ret ?_)))
  refine K_ret1 (t := 4) rfl () (Sub.int ?_)
  rw [divM, if_pos h8]
 try simp only [NF] at h8
 refine Jr (Js rfl (step_fieldAddr so93 Sr rfl) (Jl rfl ty3 Sr (Js rfl (step_neq Sr Sr) (Jm rfl ?_))))
 refine Jk rfl Sr rfl (step_fieldAddr so93 Sr rfl) ?_
 refine Jg rfl Sr rfl (fun hw => step_load_ptr ty3 (Sub.w hw)) (Jg rfl Sr rfl (fun hw => step_neq (Sub.w hw) Sr) (Js rfl (step_pick_or Sr Sr) (Ja rfl (JL_nil ?_))))
 refine J_cond Sr (fun h12 => ?_) (fun h12 => ?_)
 ·
  try simp only [NF] at h12
  refine Jr (Ja rfl (JL_nil (J_ret ?_)))
  refine K_ret1 (t := 4) rfl () (Sub.int ?_)
  rw [divM, if_neg h8, if_pos zG]
 try simp only [NF] at h12
 have h1 : t.Op = 1 ∧ t.Add = 0 := by omega
 have ht2 := ht h1.1
 refine J_skip (Jr (Ja rfl (JL_nil (J_seq (Jr ?_)))))
 refine Js rfl (step_fieldAddr so93 Sr rfl) (Jl rfl ty91 Sr (Js rfl (step_fieldAddr so93 Sr rfl) (Jl rfl ty91 Sr ?_)))
 refine Js rfl (step_literal (ys := [t.Left, t.Right]) underlying295 el91 ⟨rfl, Sr, rfl, Sr, trivial⟩ rfl (by decide)) ?_
 refine Js rfl (step_len_sl underlying295 Sr) (Jm rfl (JL_nil (J_block ?_)))
 refine J_loopL (σ := Nat) (fun i => i ≤ [t.Left, t.Right].length) (fun i => upd (upd (upd (upd (upd (upd env0 1 (tSl rInt d)) 4 (tV (.int .i64 0))) 5 (tV (.int .i64 (([t.Left, t.Right].take i).foldl (divS d) 1)))) 25 (tSl rSide [t.Left, t.Right])) 26 (tV (.int .i64 ([t.Left, t.Right].length : Nat)))) 27 (tV (.int .i64 i))) (fun i => []) (fun i => [t.Left, t.Right].length - i) 0 (by simp) (zU) (LSub.rfl) ?_
 rintro i hi
 refine Jr (Js rfl (step_lss Sr Sr) (JL_nil (J_seq ?_)))
 refine J_cond Sr (fun h28 => ?_) (fun h28 => ?_)
 ·
  try simp only [NF] at h28
  have hlt : i < [t.Left, t.Right].length := by omega
  have hin := ht2 _ (nth_mem hlt)
  refine J_skip (J_seq (J_block (Jr ?_)))
  refine Js rfl (step_indexAddr_sl (i := i) underlying295 ty91 Sr Sr (by rfl) (gb (by exact hlt))) ?_
  refine Jl rfl ty91 Sr ?_
  refine Jx rfl (step_alloc (fun w => zeroValue91 w) zr91) fun v7 => ?_
  refine Ju (step_store_box ty91 Sr Sr zS) fun _ => ?_
  refine JL_freeze (t := 7) (Sel.take (Sel.none _)) Frz.box ?_
  refine JL_nil (Jr (Js rfl (step_fieldAddr so91 Sr rfl) (Jl rfl ty3 Sr (Js rfl (step_eql Sr Sr) (JL_nil ?_)))))
  refine J_cond Sr (fun h33 => ?_) (fun h33 => ?_)
  ·
   try simp only [NF] at h33
   have hin2 := hin h33
   refine J_region (Jm rfl (Jm rfl (Js rfl (step_fieldAddr so91 Sr rfl) (Jl rfl ty3 Sr ?_))))
   refine Js rfl (step_indexAddr_sl (i := (nth [t.Left, t.Right] i).Col.toNat) underlying36 ty3 Sr Sr (by show (nth [t.Left, t.Right] i).Col = _; omega) (gb zG)) ?_
   refine Jl rfl ty3 Sr (Js rfl (step_maxI Sr Sr) (Ja rfl (JL_nil (J_region (Js rfl (step_add Sr Sr z6) ?_)))))
   refine Jm rfl (JL_nil ?_)
   refine K_againL (σ := Nat) (s := i) (i + 1) zO zG (.u (.u (.u (SubE.upd (Sub.int (by rw [fold_take hlt, divS, if_pos h33])) (zU))))) (LSub.rfl)
  try simp only [NF] at h33
  refine J_skip (J_region (Js rfl (step_add Sr Sr z6) (Jm rfl (JL_nil ?_))))
  refine K_againL (σ := Nat) (s := i) (i + 1) zO zG (.u (.u (.u (SubE.upd (Sub.int (by rw [fold_take hlt, divS, if_neg h33])) (zU))))) (LSub.rfl)
 try simp only [NF] at h28
 obtain rfl : i = 2 := by omega
 refine J_exit (Jr (Jm rfl (Ja rfl (JL_nil (J_ret ?_)))))
 refine K_ret1 (t := 4) rfl () (Sub.int ?_)
 rw [divM, if_neg h8, if_neg zG]; rfl
theorem pcolF_spec (t : GAttr) (n : ByteArray) : Fun1 prog 288 [rAttr.ty t, tPtr rStr n] (tV (.bool (decide (t.Name = n)))) := by
 refine Spec.enter func288 rfl rfl fun h0 w0 fr0 => ?_
 refine Jr (Js rfl (step_box (R := rAttr) Sr) (Ja rfl (JL_nil (Jr (Js rfl (step_fieldAddr so89 Sr rfl) ?_)))))
 refine Jl rfl ty9 Sr (Jl rfl ty9 Sr (Js rfl (step_eql_str Sr Sr) (Ja rfl (JL_nil (J_ret ?_)))))
 exact K_ret1 (t := 3) rfl () Sr
theorem pcolumn_spec (l : List GAttr) (n : ByteArray) (hl : l.length ≤ 1000000000000) : Fun1 prog 219 [tSl rAttr l, tV (.string n)] (tV (.int .i64 (columnL l n))) := by
 refine Spec.enter func219 rfl rfl fun h0 w0 fr0 => ?_
 refine Jr (Js rfl (step_box (R := rStr) Sr) (Ja rfl (JL_nil (Jr (Jm rfl ?_)))))
 refine Js rfl (step_makeFunc (As := [_]) ⟨Sr, trivial⟩) (Js rfl (step_call0 (IndexFuncAttr_spec l hl 288 [tPtr rStr n] (fun a => decide (a.Name = n)) (fun x _ => pcolF_spec x n) call288) ⟨Sr, Sr, trivial⟩ call114) (Ja rfl (JL_nil (J_ret ?_))))
 exact K_ret1 (t := 4) rfl () Sr
set_option maxHeartbeats 1000000 in
theorem several_spec (n m : Nat) (p : GPlan) (ks : List Gnode) (hk0 : 0 < ks.length) (hk : NdOk (nth ks 0)) (hc : colsIn (nth ks 0).size.distinct.length p.Cols) (hl : p.Cols.length ≤ 1000000000) : Fun1 prog 216 [tPtr (rPlan (m + 1)) p, tPtr (rSl (rnode n)) ks] (tV (.int .i64 (sevM (nth ks 0) p.Cols))) := by
 refine Spec.enter func216 rfl rfl fun h0 w0 fr0 => ?_
 have hd := hk.d
 refine Jr (Ja rfl (JL_nil (Jr (Ja rfl (JL_nil ?_)))))
 refine J_seq (Jr (Js rfl (step_fieldAddr so46 Sr rfl) (Jl rfl ty36 Sr (Js rfl (step_len_sl underlying36 Sr) (Jm rfl ?_)))))
 refine JL_nil (J_block ?_)
 refine J_loopL (σ := Nat) (fun i => i ≤ p.Cols.length) (fun i => upd (upd (upd (upd (upd (upd env0 1 (tPtr (rSl (rnode n)) ks)) 2 (tV (.int .i64 0))) 3 (tV (.int .i64 (prodM (nth ks 0).size.distinct (p.Cols.take i))))) 7 (tSl rInt p.Cols)) 8 (tV (.int .i64 p.Cols.length))) 9 (tV (.int .i64 i))) (fun i => []) (fun i => p.Cols.length - i) 0 zG (zU) (LSub.rfl) ?_
 rintro i hi
 refine Jr (Js rfl (step_lss Sr Sr) (JL_nil (J_seq ?_)))
 refine J_cond Sr (fun h10 => ?_) (fun h10 => ?_)
 ·
  try simp only [NF] at h10
  have hlt : i < p.Cols.length := by omega
  have hci := hc _ (nth_mem hlt)
  have hpb := prod_bd hd (p.Cols.take i)
  have hps := prod_step hd (nth p.Cols i) _ hpb
  have hdn := hd.nth (nth p.Cols i).toNat
  unfold Upto at hdn
  refine J_skip (J_seq (J_block (Jr ?_)))
  refine Js rfl (step_indexAddr_sl (i := i) underlying36 ty3 Sr Sr (by rfl) (gb (by exact hlt))) ?_
  refine Jl rfl ty3 Sr (Ja rfl (JL_nil (J_region (Jm rfl (Jl rfl ty197 Sr ?_)))))
  refine Js rfl (step_indexAddr_sl (i := 0) underlying197 ty152 Sr Sr (by rfl) (gb (by exact hk0))) ?_
  refine Js rfl (step_fieldAddr so152 Sr rfl) (Js rfl (step_fieldAddr so150 Sr rfl) (Jl rfl ty36 Sr (Jm rfl ?_)))
  refine Js rfl (step_indexAddr_sl (i := (nth p.Cols i).toNat) underlying36 ty3 Sr Sr (by show nth p.Cols i = _; omega) (gb (by show _ < (nth ks 0).size.distinct.length; omega))) ?_
  refine Jl rfl ty3 Sr ?_
  refine Js rfl (step_add Sr Sr (by show in64 (nth (nth ks 0).size.distinct (nth p.Cols i).toNat + 1); unfold in64; omega)) ?_
  refine Js rfl (step_mul Sr Sr (by show in64 (prodM (nth ks 0).size.distinct (p.Cols.take i) * (nth (nth ks 0).size.distinct (nth p.Cols i).toNat + 1)); unfold in64; omega)) ?_
  refine Js rfl (step_minI Sr Sr) (Ja rfl (JL_nil (J_region (Js rfl (step_add Sr Sr z6) (Jm rfl ?_)))))
  refine JL_nil ?_
  refine K_againL (σ := Nat) (s := i) (i + 1) zO zG (.u (.u (.u (SubE.upd (Sub.int (by rw [show prodM (nth ks 0).size.distinct (p.Cols.take (i + 1)) = _ from fold_take hlt]; rfl)) (zU))))) (LSub.rfl)
 try simp only [NF] at h10
 obtain rfl : i = p.Cols.length := by omega
 refine J_exit (Jr (Jl rfl ty197 Sr ?_))
 refine Js rfl (step_indexAddr_sl (i := 0) underlying197 ty152 Sr Sr (by rfl) (gb (by exact hk0))) ?_
 refine Js rfl (step_fieldAddr so152 Sr rfl) (Js rfl (step_fieldAddr so150 Sr rfl) (Jl rfl ty3 Sr (Jm rfl (Js rfl (step_minI Sr Sr) (Ja rfl ?_)))))
 refine JL_nil (J_ret ?_)
 refine K_ret1 (t := 2) rfl () (Sub.int ?_)
 rw [List.take_length]; rfl
end Lg
