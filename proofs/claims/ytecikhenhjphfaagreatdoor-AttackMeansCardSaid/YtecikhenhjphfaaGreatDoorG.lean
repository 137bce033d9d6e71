/- A part of the proofs of the laws of cleanselaw33 and cleanselaw36: contracts of functions that the law reaches, and facts about what they compute. -/
import Derived.Test.YtecikhenhjphfaaGreatDoorF
set_option linter.unusedVariables false
set_option linter.unusedSimpArgs false
set_option linter.unusedSectionVars false
set_option maxHeartbeats 16000000
namespace Lg
open Go Go.Proofs Go.Proofs.Tryz
theorem wm (e : Gev) (n : Nat) (p : aQ) (l : List (List LV)) (hpos : 0 < l.length) (hl : (nth l 0).length <= 4000) (hcl : p.Cols.length <= 1000) (hc : p.Agg ≠ 1 -> 0 <= p.Col) (hr : p.Agg ≠ 1 -> ∀ r ∈ (nth l 0), p.Col < (r.length : Int)) (hN : NumOk (nth l 0)) : SpecP (X := PLift (gaB p (nth l 0) = true)) prog 81 [bx rev e, (aX (n + 1)).ty p, tSl (rSl (rSl rValue)) l] ([]) (fun _ => tSl (rSl rValue) (gaR p (nth l 0))) (fun _ => []) (Bh (gaB p (nth l 0) = false)) := by
  refine SpecP.enter func81 rfl rfl fun h0 w0 fr0 => ?_
  refine Jr ?_
  refine Zs (aF (R := (aX (n + 1))) Sr) ?_
  refine Za ?_
  refine ab ?_
  refine Jr ?_
  refine Za ?_
  refine ab ?_
  refine Jr ?_
  refine dr rfl rfl rfl (eO (kv := kvS) (R := rV)) fun v18 => ?_
  refine Za ?_
  refine ab ?_
  refine Jr ?_
  refine Za ?_
  refine ab ?_
  refine ap ?_
  refine Jr ?_
  refine Zs (aa cq Sr rfl) ?_
  refine Zl dn Sr ?_
  refine Zs (ag underlying27 Sr) ?_
  refine Zs (aJ Sr Sr) ?_
  refine ab ?_
  refine CW (X := Value) (fun vk => upd (upd (upd (upd (upd (upd (upd (upd (upd co 0 (bx rev e)) 1 ((aX (n + 1)).ty p)) 2 (tSl (rSl (rSl rValue)) l)) 4 (bx (aX (n + 1)) p)) 6 (tV (.slice none 0 0))) 7 (rV.ty vk)) 8 (rV.ty v18)) 9 (tV (.func (.func 130) #[] #[]))) 18 (rV.ty v18)) (fun vk => [own 45 (rSl rValue) vk (yx p.Cols), bD kvS rV v18 ([] : List (ByteArray × Value))]) ?_ ?_
  · skip
    refine am Sr (fun h22 => ?_) (fun h22 => ?_)
    · try simp only [NF] at h22
      refine ah ?_
      refine Zm ?_
      refine Zs (aB (ys := [[]]) underlying38 lS ⟨rfl, F6, trivial⟩ rfl (by decide)) ?_
      refine oO (FR (e := 45) (R := rSl rValue)) ?_
      refine dr rfl rfl rfl (aH underlying38 lS (FT rfl) Sr zS (by simp) (by simp)) fun v25 => ?_
      refine Za ?_
      refine ab ?_
      refine zm (E := fun _ => co) v25 (SubE.upd Sr (SubE.upd Sr (SubE.upd Sr (SubE.upd Sr (SubE.upd Sr (SubE.upd Sr (SubE.upd Sr (SubE.upd Sr (SubE.upd Sr SubE.any))))))))) (LSub.cons zS (SPs.of (A := own 45 (rSl rValue) v25 ([] ++ [[]])) (by rw [yx, if_pos (by omega)]; rfl)) (LSub.cons zS (SPs.rfl) (LSub.nil)))
    · try simp only [NF] at h22
      refine av ?_
      refine zm (E := fun _ => co) (.slice none 0 0) (SubE.upd Sr (SubE.upd Sr (SubE.upd Sr (SubE.upd (FT rfl) (SubE.upd Sr (SubE.upd Sr (SubE.upd Sr (SubE.upd Sr (SubE.upd Sr SubE.any))))))))) (LSub.trans (FR (e := 45) (R := rSl rValue)) (LSub.cons zS (SPs.of (A := own 45 (rSl rValue) (.slice none 0 0) ([] : List LV)) (by rw [yx, if_neg (by omega)])) (LSub.cons zS (SPs.rfl) (LSub.nil))))
  · rintro vk
    refine ap ?_
    refine Jr ?_
    refine Zm ?_
    refine Zs (ae (i := 0) underlying35 fX Sr Sr ?sg1 (gb ?sg2)) ?_
    case sg1 => rfl
    case sg2 => exact hpos
    refine Zl fX Sr ?_
    refine Zs (ag underlying38 Sr) ?_
    refine Zm ?_
    refine ab ?_
    refine au ?_
    refine aK (σ := Nat × Value × eh ByteArray LV) (fun ⟨i, va, qq⟩ => i <= (nth l 0).length /\ ko qq = (grM p.Cols ((nth l 0).take i)).2) (fun ⟨i, va, qq⟩ => upd (upd (upd (upd (upd (upd (upd (upd co 4 (bx (aX (n + 1)) p)) 6 (tV (.slice none 0 0))) 7 (rV.ty va)) 8 (rV.ty v18)) 9 (tV (.func (.func 130) #[] #[]))) 28 (tSl (rSl rValue) (nth l 0))) 29 (tV (.int .i64 (nth l 0).length))) 30 (tV (.int .i64 i))) (fun ⟨i, va, qq⟩ => [own 45 (rSl rValue) va (grM p.Cols ((nth l 0).take i)).1, bD kvS rV v18 (vals qq), iM 45 (rSl rValue) qq]) (fun ⟨i, va, qq⟩ => (nth l 0).length - i) (0, vk, []) ⟨by omega, rfl⟩ (SubE.upd Sr (SubE.upd Sr (SubE.upd Sr (SubE.upd Sr (SubE.upd Sr (SubE.upd Sr (SubE.upd Sr (SubE.upd Sr SubE.any)))))))) (LSub.trans (B := [own 45 (rSl rValue) vk (yx p.Cols), iM 45 (rSl rValue) ([] : eh ByteArray LV), bD kvS rV v18 ([] : List (ByteArray × Value))]) (LSub.trans (LSub.trans tw LSub.swap) (LSub.rfl)) (LSub.cons zS (SPs.rfl) (LSub.cons zS (SPs.rfl) (LSub.cons zS (SPs.rfl) (LSub.nil))))) ?_
    rintro ⟨i, va, qq⟩ ⟨hi, hqq⟩
    refine Jr ?_
    refine Zs (az Sr Sr) ?_
    refine ab ?_
    refine ap ?_
    refine am Sr (fun h31 => ?_) (fun h31 => ?_)
    · try simp only [NF] at h31
      have hlt : i < (nth l 0).length := by omega
      have hgi := ut p.Cols ((nth l 0).take i)
      have hgl := hgi.2.2 (cx (bM (nth (nth l 0) i) p.Cols))
      rw [List.length_take] at hgi hgl
      have hbl : (nR qq (cx (bM (nth (nth l 0) i) p.Cols))).2.length <= 4000 := by rw [dT, hqq]; show (byG (grM p.Cols ((nth l 0).take i)).2 _).length <= _; omega
      refine av ?_
      refine ap ?_
      refine au ?_
      refine Jr ?_
      refine Zs (ae (i := i) underlying38 dt Sr Sr ?sg1 (gb ?sg2)) ?_
      case sg1 => rfl
      case sg2 => exact hlt
      refine Zl dt Sr ?_
      refine Za ?_
      refine ab ?_
      refine Jr ?_
      refine Zm ?_
      refine Zs (aa cq Sr rfl) ?_
      refine Zl dn Sr ?_
      refine dr rfl rfl rfl (aR (FN _) (kM (nth (nth l 0) i) p.Cols (by omega)) ⟨Sr, Sr, trivial⟩ call123) fun v38 => ?_
      refine Zm ?_
      refine Zs (aL Sr rfl) ?_
      refine Zs (aL Sr rfl) ?_
      refine Za ?_
      refine Za ?_
      refine ab ?_
      refine Jr ?_
      refine aN (t := 12) (A' := tSl rValue (bM (nth (nth l 0) i) p.Cols)) (Sel.take (FN _)) Frz.own ?_
      refine Zm ?_
      refine Zm ?_
      refine Zs (bp (aT := [_]) F5 (oz (bM (nth (nth l 0) i) p.Cols) (by have := rt (nth (nth l 0) i) p.Cols; omega)) ⟨Sr, trivial⟩ call130) ?_
      refine Za ?_
      refine ab ?_
      refine ap ?_
      refine Jr ?_
      refine Zm ?_
      refine Zm ?_
      refine Zs (fy (kv := kvS) (q := qq) (k := (cx (bM (nth (nth l 0) i) p.Cols))) (KeyT.str underlying9) underlying172 (fun w => zeroValue38 w) F9 Sr zS) ?_
      refine oO (LSub.trans (B := [iM 45 (rSl rValue) qq, bD kvS rV v18 (vals qq), own 45 (rSl rValue) va (grM p.Cols ((nth l 0).take i)).1]) (LSub.cons zS (SPs.rfl) (LSub.cons zS (SPs.rfl) (LSub.cons zS (SPs.rfl) (LSub.nil)))) (kn (cx (bM (nth (nth l 0) i) p.Cols)))) ?_
      refine Zs (bC underlying38 Sr zS) ?_
      refine Zs (aJ Sr Sr) ?_
      refine Zm ?_
      refine dD rfl rfl rfl (FS Sr) rfl rfl (fun hw => aa cq Sr rfl) ?_
      refine dD rfl rfl rfl (FS Sr) rfl rfl (fun hw => ad dn (Sub.w hw)) ?_
      refine dD rfl rfl rfl (FS Sr) rfl rfl (fun hw => ag underlying27 (Sub.w hw)) ?_
      refine dD rfl rfl rfl (FS Sr) rfl rfl (fun hw => bj (Sub.w hw) Sr) ?_
      refine Zs (aw Sr Sr) ?_
      refine ab ?_
      refine am Sr (fun h54 => ?_) (fun h54 => ?_)
      · try simp only [NF] at h54
        have hc54 : (byG (grM p.Cols ((nth l 0).take i)).2 (cx (bM (nth (nth l 0) i) p.Cols))).length = 0 /\ 0 < p.Cols.length := by rw [dT, hqq] at h54; exact ⟨by have := h54.1; show ((mget (grM p.Cols ((nth l 0).take i)).2 _).getD []).length = 0; omega, by omega⟩
        refine ah ?_
        refine Zm ?_
        refine Zm ?_
        refine Zs (aB (ys := [_]) underlying38 lS ⟨rfl, Sr, trivial⟩ rfl (by decide)) ?_
        refine dr rfl rfl rfl (aH underlying38 lS Sr Sr zS (by simp; omega) (by simp; omega)) fun v58 => ?_
        refine Za ?_
        refine ab ?_
        refine ah ?_
        refine Zm ?_
        refine Zm ?_
        refine Zm ?_
        refine Zm ?_
        refine Zs (fy (kv := kvS) (q := qq) (k := (cx (bM (nth (nth l 0) i) p.Cols))) (KeyT.str underlying9) underlying172 (fun w => zeroValue38 w) F9 Sr zS) ?_
        refine Zm ?_
        refine Zs (aB (ys := [_]) underlying38 lS ⟨rfl, Sr, trivial⟩ rfl (by decide)) ?_
        refine dr rfl rfl rfl (aH underlying38 lS Sr Sr zS (by simp; omega) (by simp; omega)) fun v66 => ?_
        refine eu rfl rfl (dc (kv := kvS) (R := rV) (KeyT.str underlying9) underlying172 F9 Sr Sr zS) fun _ => ?_
        refine ab ?_
        refine ah ?_
        refine Zs (ax Sr Sr ?sg1) ?_
        case sg1 => unfold iu; omega
        refine Zm ?_
        refine ab ?_
        refine ay (σ := Nat × Value × eh ByteArray LV) (s := (i, va, qq)) (i + 1, v58, rQ qq (cx (bM (nth (nth l 0) i) p.Cols)) v66 ((nR qq (cx (bM (nth (nth l 0) i) p.Cols))).2 ++ [(nth (nth l 0) i)])) (by first | omega | (dsimp only; omega) | (simp_all; omega)) ⟨hlt, by show ko (rQ _ _ _ _) = _; rw [iH, Cs hlt, dT, hqq]; rfl⟩ (SubE.upd Sr (SubE.upd Sr (SubE.upd Sr (SubE.upd Sr (SubE.upd Sr (SubE.upd Sr (SubE.upd Sr (SubE.upd Sr SubE.any)))))))) (LSub.trans (B := [own 45 (rSl rValue) v66 ((nR qq (cx (bM (nth (nth l 0) i) p.Cols))).2 ++ [(nth (nth l 0) i)]), iM 45 (rSl rValue) (rmv qq (cx (bM (nth (nth l 0) i) p.Cols))), bD kvS rV v18 (mput (vals qq) (cx (bM (nth (nth l 0) i) p.Cols)) v66), own 45 (rSl rValue) v58 ((grM p.Cols ((nth l 0).take i)).1 ++ [(bM (nth (nth l 0) i) p.Cols)])]) (LSub.cons zS (SPs.rfl) (LSub.cons zS (SPs.rfl) (LSub.cons zS (SPs.rfl) (LSub.cons zS (SPs.rfl) (LSub.nil))))) (LSub.trans (jy (cx (bM (nth (nth l 0) i) p.Cols)) v66 _) (LSub.cons zS (SPs.of (A := own 45 (rSl rValue) v58 ((grM p.Cols ((nth l 0).take i)).1 ++ [(bM (nth (nth l 0) i) p.Cols)])) (by rw [uq hlt hc54])) (LSub.cons zS (SPs.of (A := bD kvS rV v18 (mput (vals qq) (cx (bM (nth (nth l 0) i) p.Cols)) v66)) (by rw [lw])) (LSub.cons zS (SPs.rfl) (LSub.nil))))))
      · try simp only [NF] at h54
        have hc54 : ¬ ((byG (grM p.Cols ((nth l 0).take i)).2 (cx (bM (nth (nth l 0) i) p.Cols))).length = 0 /\ 0 < p.Cols.length) := fun q => by rw [dT, hqq] at h54; have q1 : ((mget (grM p.Cols ((nth l 0).take i)).2 (cx (bM (nth (nth l 0) i) p.Cols))).getD []).length = 0 := q.1; omega
        refine av ?_
        refine ah ?_
        refine Zm ?_
        refine Zm ?_
        refine Zm ?_
        refine Zm ?_
        refine Zs (fy (kv := kvS) (q := qq) (k := (cx (bM (nth (nth l 0) i) p.Cols))) (KeyT.str underlying9) underlying172 (fun w => zeroValue38 w) F9 Sr zS) ?_
        refine Zm ?_
        refine Zs (aB (ys := [_]) underlying38 lS ⟨rfl, Sr, trivial⟩ rfl (by decide)) ?_
        refine dr rfl rfl rfl (aH underlying38 lS Sr Sr zS (by simp; omega) (by simp; omega)) fun v66 => ?_
        refine eu rfl rfl (dc (kv := kvS) (R := rV) (KeyT.str underlying9) underlying172 F9 Sr Sr zS) fun _ => ?_
        refine ab ?_
        refine ah ?_
        refine Zs (ax Sr Sr ?sg1) ?_
        case sg1 => unfold iu; omega
        refine Zm ?_
        refine ab ?_
        refine ay (σ := Nat × Value × eh ByteArray LV) (s := (i, va, qq)) (i + 1, va, rQ qq (cx (bM (nth (nth l 0) i) p.Cols)) v66 ((nR qq (cx (bM (nth (nth l 0) i) p.Cols))).2 ++ [(nth (nth l 0) i)])) (by first | omega | (dsimp only; omega) | (simp_all; omega)) ⟨hlt, by show ko (rQ _ _ _ _) = _; rw [iH, Cs hlt, dT, hqq]; rfl⟩ (SubE.upd Sr (SubE.upd Sr (SubE.upd Sr (SubE.upd Sr (SubE.upd Sr (SubE.upd Sr (SubE.upd Sr (SubE.upd Sr SubE.any)))))))) (LSub.trans (B := [own 45 (rSl rValue) v66 ((nR qq (cx (bM (nth (nth l 0) i) p.Cols))).2 ++ [(nth (nth l 0) i)]), iM 45 (rSl rValue) (rmv qq (cx (bM (nth (nth l 0) i) p.Cols))), bD kvS rV v18 (mput (vals qq) (cx (bM (nth (nth l 0) i) p.Cols)) v66), own 45 (rSl rValue) va (grM p.Cols ((nth l 0).take i)).1]) (LSub.cons zS (SPs.rfl) (LSub.cons zS (SPs.rfl) (LSub.cons zS (SPs.rfl) (LSub.cons zS (SPs.rfl) (LSub.nil))))) (LSub.trans (jy (cx (bM (nth (nth l 0) i) p.Cols)) v66 _) (LSub.cons zS (SPs.of (A := own 45 (rSl rValue) va (grM p.Cols ((nth l 0).take i)).1) (by rw [ur hlt hc54])) (LSub.cons zS (SPs.of (A := bD kvS rV v18 (mput (vals qq) (cx (bM (nth (nth l 0) i) p.Cols)) v66)) (by rw [lw])) (LSub.cons zS (SPs.rfl) (LSub.nil))))))
    · try simp only [NF] at h31
      obtain rfl : i = (nth l 0).length := by omega
      simp only [List.take_length]
      rw [List.take_length] at hqq
      have hgo := ut p.Cols (nth l 0)
      refine aV ?_
      refine Jr ?_
      refine Za ?_
      refine ab ?_
      refine cA (t := 8) (A' := d6 kvS (rSl (rSl rValue)) (grM p.Cols (nth l 0)).2) (Sel.skip (Sel.take (Sel.take (FN _)))) (Frz.rowsV hqq) ?_
      refine cA (t := 7) (A' := tSl (rSl rValue) (grM p.Cols (nth l 0)).1) (Sel.take (FN _)) Frz.own ?_
      refine ap ?_
      refine Jr ?_
      refine Zm ?_
      refine Zs (ag underlying38 Sr) ?_
      refine Zm ?_
      refine ab ?_
      refine au ?_
      refine aK (σ := Nat × Value) (fun ⟨k, vo⟩ => k <= (grM p.Cols (nth l 0)).1.length /\ ∀ j, j < k -> pW p (byG (grM p.Cols (nth l 0)).2 (cx (nth (grM p.Cols (nth l 0)).1 j))) = true) (fun ⟨k, vo⟩ => upd (upd (upd (upd (upd (upd (upd (upd co 4 (bx (aX (n + 1)) p)) 6 (tV (.slice none 0 0))) 8 (d6 kvS (rSl (rSl rValue)) (grM p.Cols (nth l 0)).2)) 9 (tV (.func (.func 130) #[] #[]))) 15 (rV.ty vo)) 68 (tSl (rSl rValue) (grM p.Cols (nth l 0)).1)) 69 (tV (.int .i64 (grM p.Cols (nth l 0)).1.length))) 70 (tV (.int .i64 k))) (fun ⟨k, vo⟩ => [own 45 (rSl rValue) vo (gaO p (nth l 0) k)]) (fun ⟨k, vo⟩ => (grM p.Cols (nth l 0)).1.length - k) (0, .slice none 0 0) ⟨by omega, fun j hj => by omega⟩ (SubE.upd Sr (SubE.upd Sr (SubE.upd Sr (SubE.upd (FT rfl) (SubE.upd Sr (SubE.upd Sr (SubE.upd Sr (SubE.upd Sr SubE.any)))))))) (FR) ?_
      rintro ⟨k, vo⟩ ⟨hk, hag⟩
      refine Jr ?_
      refine Zs (az Sr Sr) ?_
      refine ab ?_
      refine ap ?_
      refine am Sr (fun h71 => ?_) (fun h71 => ?_)
      · try simp only [NF] at h71
        have hlk : k < (grM p.Cols (nth l 0)).1.length := by omega
        have hkl := hgo.1 _ (nth_mem hlk)
        have hgb := hgo.2.2 (cx (nth (grM p.Cols (nth l 0)).1 k))
        refine av ?_
        refine ap ?_
        refine au ?_
        refine Jr ?_
        refine Zs (ae (i := k) underlying38 dt Sr Sr ?sg1 (gb ?sg2)) ?_
        case sg1 => rfl
        case sg2 => exact hlk
        refine Zl dt Sr ?_
        refine Za ?_
        refine ab ?_
        refine yu [⟨0, [15], true⟩, ⟨1, [17], true⟩, ⟨3, [4], true⟩, ⟨4, [8], true⟩, ⟨5, [9], true⟩, ⟨6, [17], true⟩, ⟨2, [75], false⟩, ⟨7, [79, 80], true⟩, ⟨8, [78, 81], true⟩, ⟨9, [77, 82], false⟩, ⟨10, [83], true⟩, ⟨11, [76, 84], false⟩, ⟨12, [85], false⟩, ⟨13, [74, 86], false⟩, ⟨14, [87], true⟩] rfl (by kernel_rfl) ?_
        refine cJ rfl rfl rfl rfl (fun _ => ar Sr) ?_
        refine cJ rfl rfl rfl rfl (fun _ => ar Sr) ?_
        refine cJ rfl rfl rfl rfl (fun _ => ad da Sr) ?_
        refine cJ rfl rfl rfl rfl (fun _ => ar Sr) ?_
        refine cJ rfl rfl rfl rfl (fun _ => ar Sr) ?_
        refine cJ rfl rfl rfl rfl (fun _ => ar Sr) ?_
        refine j4 rfl rfl rfl rfl (aR (FN _) (py (nth (grM p.Cols (nth l 0)).1 k) (by omega)) ⟨Sr, trivial⟩ call27) fun v76 => ?_
        refine cJ rfl rfl rfl rfl (fun _ => bp (aT := [_]) F5 (oz (nth (grM p.Cols (nth l 0)).1 k) (by omega)) ⟨Sr, trivial⟩ call130) ?_
        refine cJ rfl rfl rfl rfl (fun _ => eD (kv := kvS) (R := rSl (rSl rValue)) (z := []) (KeyT.str underlying9) underlying172 (fun w => zeroValue38 w) D8 Sr Sr) ?_
        refine ul rfl rfl rfl rfl (kO (FN _) (nM n p (byG (grM p.Cols (nth l 0)).2 (cx (nth (grM p.Cols (nth l 0)).1 k))) (by omega) hc (fun h r hm => hr h r (hgb.2 r hm)) (fun r hm => hN r (hgb.2 r hm))) ⟨Sr, Sr, trivial⟩ call131 (yq (fun ch q => ⟨List.all_eq_false.2 ⟨_, nth_mem hlk, by rw [q.1]; simp⟩, q.2⟩))) fun x83 => ?_
        refine cJ rfl rfl rfl rfl (fun _ => aB (ys := [_]) underlying45 pS ⟨rfl, Sr, trivial⟩ rfl (by decide)) ?_
        refine j4 rfl rfl rfl rfl (aH underlying45 pS Sr Sr zS (by simp; omega) (by simp; omega)) fun v85 => ?_
        refine j4 rfl rfl rfl rfl (Step.freeze (t := 85) (A' := tSl rValue ((nth (grM p.Cols (nth l 0)).1 k) ++ [(pF p (byG (grM p.Cols (nth l 0)).2 (cx (nth (grM p.Cols (nth l 0)).1 k))))])) zS Frz.own (aB (ys := [_]) underlying38 lS ⟨rfl, Sr, trivial⟩ rfl (by decide))) fun v86 => ?_
        refine j4 rfl rfl rfl rfl (aH underlying38 lS Sr Sr zS (by simp [gaO]; omega) (by simp [gaO]; omega)) fun v87 => ?_
        refine cJ rfl rfl rfl rfl (fun _ => bd Sr) ?_
        refine Bi ?_
        refine ah ?_
        refine Zs (ax Sr Sr ?sg1) ?_
        case sg1 => unfold iu; omega
        refine Zm ?_
        refine ab ?_
        refine ay (σ := Nat × Value) (s := (k, vo)) (k + 1, v87) (by first | omega | (dsimp only; omega) | (simp_all; omega)) ⟨by omega, fun j hj => by by_cases ej : j = k; subst ej; exact x83.down; exact hag j (by omega)⟩ (SubE.upd Sr (SubE.upd Sr (SubE.upd Sr (SubE.upd Sr (SubE.upd Sr (SubE.upd Sr (SubE.upd Sr (SubE.upd Sr SubE.any)))))))) (LSub.cons zS (SPs.of (A := own 45 (rSl rValue) v87 (gaO p (nth l 0) k ++ [((nth (grM p.Cols (nth l 0)).1 k) ++ [(pF p (byG (grM p.Cols (nth l 0)).2 (cx (nth (grM p.Cols (nth l 0)).1 k))))])])) (by rw [Aw hlk])) (LSub.nil))
      · try simp only [NF] at h71
        obtain rfl : k = (grM p.Cols (nth l 0)).1.length := by omega
        refine aV ?_
        refine Jr ?_
        refine Zm ?_
        refine Za ?_
        refine ab ?_
        refine aC ?_
        refine sZ ?_
        refine aY (rv := .tmp 6) rfl (PLift.up ?_) (Sel.take (FN _)) (.tmp Sr) (Gi (Cr p (nth l 0)))
        exact List.all_eq_true.2 fun q hq => by obtain ⟨j, hj, rfl⟩ := List.getElem_of_mem hq; rw [<- nth_get hj]; exact hag j hj
theorem yy {l : List LV} {x : LV} (h : x ∈ l) : x ∈ jg l := by
 have key : ∀ (n i : Nat), i <= n -> i < l.length -> nth l i = x -> x ∈ jg l := by
  intro n
  induction n with
  | zero =>
    intro i hi hl hx
    obtain rfl : i = 0 := by omega
    unfold jg compI
    exact List.mem_map.2 ⟨0, List.mem_filter.2 ⟨List.mem_range.2 hl, by simp [ic]⟩, hx⟩
  | succ n ih =>
    intro i hi hl hx
    by_cases hk : ic l i = true
    · unfold jg compI
      exact List.mem_map.2 ⟨i, List.mem_filter.2 ⟨List.mem_range.2 hl, hk⟩, hx⟩
    · unfold ic at hk
      simp only [Bool.or_eq_true, decide_eq_true_eq, Bool.not_eq_true', decide_eq_false_iff_not, not_or, Decidable.not_not] at hk
      exact ih (i - 1) (by omega) (by omega) (by rw [<- hk.2]; exact hx)
 obtain ⟨i, hi, rfl⟩ := List.getElem_of_mem h
 exact key i i (Nat.le_refl _) hi (nth_get hi)
theorem s7 {l : List LV} (hs : l.Pairwise fun a b => leR a b = true) : (jg l).Nodup := by
 have hle : ∀ i j, i <= j -> j < l.length -> leR (nth l i) (nth l j) = true := fun i j hij hj => by
  rcases Nat.lt_or_eq_of_le hij with h | rfl
  · rw [nth_get (by omega), nth_get hj]
    exact List.pairwise_iff_getElem.1 hs i j (by omega) hj h
  · have := sM (nth l i) (nth l i); simpa using this
 unfold jg compI List.Nodup
 rw [List.pairwise_map]
 refine List.Pairwise.imp_of_mem (R := fun i j : Nat => i < j) (fun {i j} hi hj hij => ?_) ((List.pairwise_lt_range).filter _)
 have hj := List.mem_filter.1 hj
 have hjl := List.mem_range.1 hj.1
 intro e
 have h1 := hle i (j - 1) (by omega) (by omega)
 have h2 := hle (j - 1) j (by omega) hjl
 have h3 : nth l j = nth l (j - 1) := tY (by rw [<- e]; exact h1) h2
 have hk := hj.2
 unfold ic at hk
 simp only [Bool.or_eq_true, decide_eq_true_eq, Bool.not_eq_true', decide_eq_false_iff_not] at hk
 rcases hk with hk | hk
 · omega
 · exact hk h3
theorem wo (l : List LV) : (tZ l).Nodup := s7 (ie l)
theorem uu {l : List LV} {x : LV} : x ∈ tZ l ↔ x ∈ l := ⟨lC, fun h => yy ((eV l).mem_iff.2 h)⟩
abbrev Ka (p : aQ) (i : Nat) : List GAttr := (nth p.Kids i).Attrs
def rowsV (ts : List (List LV)) (p : aQ) (ks : List (List LV)) : List LV :=
  if p.Kind = 1 then nth ts p.Table.toNat else if p.Kind = 2 then Ck p.Tests (nth ks 0) else if p.Kind = 3 then mT p.Cols (nth ks 0) else if p.Kind = 4 then rj (Ka p 0) (Ka p 1) (nth ks 0) (nth ks 1)
  else if p.Kind = 5 then nth ks 0 ++ nth ks 1 else if p.Kind = 6 then D2 (nth ks 0) (nth ks 1) else if p.Kind = 7 then nth ks 0 else gaR p (nth ks 0)
def kS (p : aQ) (ks : List (List LV)) : Bool := if p.Kind = 8 then gaB p (nth ks 0) else true
def evV (ts : List (List LV)) : Nat -> aQ -> List LV
  | 0, _ => []
  | n + 1, p => tZ (rowsV ts p (p.Kids.map (evV ts n)))
def evB (ts : List (List LV)) : Nat -> aQ -> Bool
  | 0, _ => false
  | n + 1, p => p.Kids.all (evB ts n) && (kS p (p.Kids.map (evV ts n)) && decide ((evV ts (n + 1) p).length <= 4000))
structure EvOk (k : Nat) (v : List LV) : Prop where
  len : v.length <= 4000
  row : ∀ r ∈ v, r.length = k
  num : NumOk v
  str : StrR v
structure TbOk (s : GSchema) (ts : List (List LV)) : Prop where
  len : ts.length = s.Tables.length
  row : ∀ i, i < ts.length -> ∀ r ∈ nth ts i, r.length = (nth s.Tables i).Attrs.length
  num : ∀ i, NumOk (nth ts i)
  big : ∀ i, (nth ts i).length <= 1000000000
theorem Ax (l : List LV) : StrR (tZ l) := by
  have hn := wo l
  have hs : (tZ l).Pairwise fun a b => leR a b = true := by
    have h0 := ie l
    have hle : ∀ i j, i <= j -> j < (jV l).length -> leR (nth (jV l) i) (nth (jV l) j) = true := fun i j hij hj => by
      rcases Nat.lt_or_eq_of_le hij with h | rfl
      · rw [nth_get (by omega), nth_get hj]
        exact List.pairwise_iff_getElem.1 h0 i j (by omega) hj h
      · have := sM (nth (jV l) i) (nth (jV l) i); simpa using this
    unfold tZ jg compI
    rw [List.pairwise_map]
    refine List.Pairwise.imp_of_mem (R := fun i j : Nat => i < j) (fun {i j} hi hj hij => ?_) ((List.pairwise_lt_range).filter _)
    exact hle i j (by omega) (List.mem_range.1 (List.mem_filter.1 hj).1)
  unfold StrR
  refine (List.pairwise_and_iff.2 ⟨hs, List.nodup_iff_pairwise_ne.1 hn⟩).imp fun {a b} h => ?_
  have h1 := h.1
  unfold leR at h1
  simp only [decide_eq_true_eq] at h1
  have h2 : ¬ cmpR a b = 0 := fun q => h.2 (sK.eq.1 q)
  omega
theorem NumOk.sub {a b : List LV} (h : NumOk b) (hs : ∀ r ∈ a, r ∈ b) : NumOk a := fun r hr => h r (hs r hr)
theorem oB {r : LV} (h : ∀ v ∈ r, -1000000000 <= v.N /\ v.N <= 1000000000) (c : Nat) : -1000000000 <= (nth r c).N /\ (nth r c).N <= 1000000000 := by
  by_cases hc : c < r.length
  · exact h _ (nth_mem hc)
  · rw [hY (by omega)]; show -1000000000 <= c9.N /\ c9.N <= 1000000000; decide
theorem Ct {l : List LV} (h : NumOk l) {r : LV} (hr : r ∈ l) {v : GValue} (hv : v ∈ r) : -1000000000 <= v.N /\ v.N <= 1000000000 := by
  obtain ⟨j, hj, rfl⟩ := List.getElem_of_mem hv
  rw [<- nth_get hj]; exact h r hr j
theorem mV {r : LV} {cols : List Int} (h : ∀ c, -1000000000 <= (nth r c).N /\ (nth r c).N <= 1000000000) : ∀ v ∈ bM r cols, -1000000000 <= v.N /\ v.N <= 1000000000 := fun v hv => by
  unfold bM iQ at hv
  split at hv
  · obtain ⟨c, _, rfl⟩ := List.mem_map.1 hv; exact h _
  · cases hv
theorem j5 {r : LV} {cols : List Int} (h : ∀ c ∈ cols, 0 <= c /\ c < r.length) : bM r cols = iQ r cols := by
  unfold bM; rw [if_pos]
  unfold dX; rw [List.all_eq_true]
  intro c hc; have := h c hc; simp [this.1, this.2]
theorem mW (r : LV) (cols : List Int) : (iQ r cols).length = cols.length := by simp [iQ]
theorem ru {m : List (ByteArray × List LV)} {left : List Int} : ∀ (rows : List LV) (out : List LV) (x : LV), x ∈ rows.foldl (fm m left) out ↔ x ∈ out \/ ∃ r ∈ rows, kg r left = true /\ ∃ y ∈ byG m (keyS r left), x = r ++ y
  | [], out, x => by simp
  | r :: rows, out, x => by
    rw [List.foldl_cons, ru rows (fm m left out r) x]
    have hs : x ∈ fm m left out r ↔ x ∈ out \/ (kg r left = true /\ ∃ y ∈ byG m (keyS r left), x = r ++ y) := by
      unfold fm
      by_cases hk : kg r left = true
      · rw [if_pos hk]
        have hc : x ∈ zi (nL m left out r (byG m (keyS r left)).length) ↔ x ∈ nL m left out r (byG m (keyS r left)).length := by
          unfold zi; split
          · exact uu
          · exact Iff.rfl
        rw [hc]
        unfold nL
        rw [List.take_length, List.mem_append, List.mem_map]
        constructor
        · rintro (h | ⟨y, hy, rfl⟩)
          · exact .inl h
          · exact .inr ⟨hk, y, hy, rfl⟩
        · rintro (h | ⟨_, y, hy, rfl⟩)
          · exact .inl h
          · exact .inr ⟨y, hy, rfl⟩
      · rw [if_neg hk]; simp [hk]
    rw [hs]
    constructor
    · rintro ((h | ⟨h1, h2⟩) | ⟨r', h1, h2⟩)
      · exact .inl h
      · exact .inr ⟨r, by simp, h1, h2⟩
      · exact .inr ⟨r', by simp [h1], h2⟩
    · rintro (h | ⟨r', h1, h2⟩)
      · exact .inl (.inl h)
      · rcases List.mem_cons.1 h1 with rfl | h1
        · exact .inl (.inr h2)
        · exact .inr ⟨r', h1, h2⟩
theorem j6 {a b : List GAttr} {l0 l1 : List LV} {x : LV} : x ∈ rj a b l0 l1 ↔ ∃ r ∈ l0, ∃ q ∈ l1, kg r (lefJ a b b.length) = true /\ kg q (rigJ a b b.length) = true /\ keyS q (rigJ a b b.length) = keyS r (lefJ a b b.length) /\ x = r ++ bM q (resJ a b b.length) := by
  unfold rj gq
  rw [ru]
  constructor
  · rintro (h | ⟨r, hr, hk, y, hy, rfl⟩)
    · cases h
    · rw [pC] at hy
      obtain ⟨q, hq, rfl⟩ := List.mem_map.1 hy
      obtain ⟨h1, h2⟩ := List.mem_filter.1 hq
      simp only [Bool.and_eq_true, decide_eq_true_eq] at h2
      exact ⟨r, hr, q, h1, hk, h2.1, h2.2, rfl⟩
  · rintro ⟨r, hr, q, hq, h1, h2, h3, rfl⟩
    refine .inr ⟨r, hr, h1, _, ?_, rfl⟩
    rw [pC]
    exact List.mem_map.2 ⟨q, List.mem_filter.2 ⟨hq, by simp [h2, h3]⟩, rfl⟩
theorem Ay (a b : List GAttr) (n : Nat) : (resJ a b n).length = ((List.range n).filter fun i => decide (aM a (nth b i).Name < 0)).length := by
  unfold resJ; rw [List.length_map]; congr 1
  refine List.filter_congr fun i _ => ?_
  rw [Bool.eq_iff_iff]; simp
theorem wp (a b : List GAttr) : (dv a b).length = a.length + (resJ a b b.length).length := by
  rw [Ay]
  unfold dv
  rw [List.length_append]
  congr 1
  have h : b = (List.range b.length).map (nth b) := by
    apply List.ext_getElem
    · simp
    · intro i h1 h2; simp [nth_get h1]
  conv => lhs; rw [h]
  rw [List.filter_map, List.length_map]; rfl
theorem DL {a b : List GAttr} {n : Nat} : ∀ c ∈ resJ a b n, 0 <= c /\ c < n := fun c hc => by
  obtain ⟨i, hi, rfl⟩ := List.mem_map.1 hc
  have h1 := List.mem_range.1 (List.mem_filter.1 hi).1
  omega
section
variable {s : GSchema} {l : Nat} {p : aQ}
theorem CT (h : validM s l p = true) (hk : p.Kind = 5 \/ p.Kind = 6) : p.Kids.length = 2 /\ p.Attrs.length = (Ka p 0).length /\ (Ka p 1).length = (Ka p 0).length := by
  obtain ⟨l', _, _, hn, _, h1, h2⟩ := cG h
  have e : colsM s p = ((Ka p 0), jG (Ka p 0) (Ka p 1)) := by rcases hk with hk | hk <;> simp [colsM, hk]
  rw [e] at h1 h2
  have hn2 : kidsN p.Kind = 2 := by rcases hk with hk | hk <;> simp [kidsN, hk]
  rw [hn2] at hn
  exact ⟨by omega, h2.symm, (qB h1).symm⟩
theorem vk8 (h : validM s l p = true) (hk : p.Kind = 8) : p.Kids.length = 1 /\ (∀ c ∈ p.Cols, 0 <= c /\ c < (Ka p 0).length) /\ p.Attrs.length = p.Cols.length + 1 /\ (p.Agg ≠ 1 -> 0 <= p.Col /\ p.Col < (Ka p 0).length) := by
  obtain ⟨l', _, _, hn, _, h1, h2⟩ := cG h
  have e : colsM s p = if kw p = true then (o3 p, ly p) else ([], false) := by simp [colsM, hk]
  rw [e] at h1 h2
  rw [hk] at hn
  simp [kidsN] at hn
  split at h1
  · rename_i q
    unfold kw at q
    simp only [Bool.and_eq_true, decide_eq_true_eq, dX, List.all_eq_true] at q
    refine ⟨by omega, fun c hc => q.1 c hc, q.2.1, fun ha => ?_⟩
    have h1 : ly p = true := h1
    unfold ly at h1
    rw [if_neg ha] at h1
    split at h1
    · cases h1
    · rename_i hg
      have hg : qg p = true := by simpa using hg
      unfold qg at hg
      simpa using hg
  · cases h1
end
theorem Cu {p : aQ} {l : List LV} (hl : l.length <= 4000) (hN : NumOk l) (hB : pW p l = true) : -1000000000 <= (pF p l).N /\ (pF p l).N <= 1000000000 := by
  have hv : ∀ v ∈ kR p.Col l, -1000000000 <= v.N /\ v.N <= 1000000000 := fun v hv => by
    unfold kR at hv
    obtain ⟨r, hr, rfl⟩ := List.mem_map.1 hv
    exact hN r (List.mem_filter.1 hr).1 _
  have hf : ∀ (f : GValue -> GValue -> GValue), (∀ a b, f a b = a \/ f a b = b) -> ∀ (x : LV) (a : GValue), (∀ v ∈ x, -1000000000 <= v.N /\ v.N <= 1000000000) -> (-1000000000 <= a.N /\ a.N <= 1000000000) -> -1000000000 <= (x.foldl f a).N /\ (x.foldl f a).N <= 1000000000 := by
    intro f hf x
    induction x with
    | nil => intro a _ h; exact h
    | cons y x ih =>
      intro a hx ha
      refine ih (f a y) (fun v hv => hx v (by simp [hv])) ?_
      rcases hf a y with e | e <;> rw [e]
      · exact ha
      · exact hx y (by simp)
  unfold pF
  split
  · show -1000000000 <= (l.length : Int) /\ (l.length : Int) <= 1000000000; omega
  · split
    · rename_i h2
      unfold pW at hB
      simp only [h2, decide_true, Bool.true_and, Bool.not_eq_true', Bool.or_eq_false_iff, decide_eq_false_iff_not] at hB
      show -1000000000 <= eG p.Col l /\ eG p.Col l <= 1000000000; omega
    · split
      · exact ⟨by decide, by decide⟩
      · split
        · unfold wk; exact hf kP (fun a b => by unfold kP; split; exact .inr rfl; exact .inl rfl) _ _ (fun v hvv => hv v (List.mem_of_mem_drop hvv)) (oB hv 0)
        · unfold wl; exact hf kQ (fun a b => by unfold kQ; split; exact .inr rfl; exact .inl rfl) _ _ (fun v hvv => hv v (List.mem_of_mem_drop hvv)) (oB hv 0)
theorem Cv {cols : List Int} {rows : List LV} (hc : ∀ r ∈ rows, ∀ c ∈ cols, 0 <= c /\ c < (r.length : Int)) (hN : NumOk rows) : ∀ k ∈ (grM cols rows).1, k.length = cols.length /\ ∀ v ∈ k, -1000000000 <= v.N /\ v.N <= 1000000000 := by
  have H : ∀ i, i <= rows.length -> ∀ k ∈ (grM cols (rows.take i)).1, k.length = cols.length /\ ∀ v ∈ k, -1000000000 <= v.N /\ v.N <= 1000000000 := by
    intro i
    induction i with
    | zero =>
      intro _ k hk
      have : k ∈ yx cols := hk
      unfold yx at this; split at this
      · rename_i h; rw [List.mem_singleton.1 this]; exact ⟨by simp [h], fun v hv => by cases hv⟩
      · cases this
    | succ i ih =>
      intro hi k hk
      by_cases hcc : (byG (grM cols (rows.take i)).2 (cx (bM (nth rows i) cols))).length = 0 /\ 0 < cols.length
      · rw [uq (by omega) hcc] at hk
        rcases List.mem_append.1 hk with hk | hk
        · exact ih (by omega) k hk
        · rw [List.mem_singleton.1 hk]
          have hm := nth_mem (l := rows) (i := i) (by omega)
          refine ⟨by rw [j5 (hc _ hm), mW], mV (hN _ hm)⟩
      · rw [ur (by omega) hcc] at hk; exact ih (by omega) k hk
  have := H rows.length (Nat.le_refl _)
  rwa [List.take_length] at this
structure KsOk (p : aQ) (ks : List (List LV)) : Prop where
  len : ks.length = p.Kids.length
  ok : ∀ i, i < p.Kids.length -> EvOk (Ka p i).length (nth ks i)
theorem yz {s : GSchema} {ts : List (List LV)} {l : Nat} {p : aQ} {ks : List (List LV)} (hv : validM s l p = true) (ht : TbOk s ts) (hk : KsOk p ks) (hB : kS p ks = true) :
    (∀ r ∈ rowsV ts p ks, r.length = p.Attrs.length) /\ NumOk (rowsV ts p ks) := by
  obtain ⟨l', _, hkd, _⟩ := cG hv
  rcases dS hkd with h | h | h | h | h | h | h | h
  · obtain ⟨h1, h2⟩ := vk1 hv h
    have e : rowsV ts p ks = nth ts p.Table.toNat := by simp [rowsV, h]
    rw [e]
    exact ⟨fun r hr => by rw [h2]; exact ht.row _ (by have := ht.len; omega) r hr, ht.num _⟩
  · obtain ⟨h1, _, h2⟩ := vk2 hv h
    have e : rowsV ts p ks = Ck p.Tests (nth ks 0) := by simp [rowsV, h]
    rw [e]
    have h0 := hk.ok 0 (by omega)
    exact ⟨fun r hr => by rw [h2]; exact h0.row r (List.mem_filter.1 hr).1, h0.num.sub fun r hr => (List.mem_filter.1 hr).1⟩
  · obtain ⟨h1, h3, h2⟩ := vk3 hv h
    have e : rowsV ts p ks = mT p.Cols (nth ks 0) := by simp [rowsV, h]
    rw [e]
    have h0 := hk.ok 0 (by omega)
    refine ⟨fun r hr => ?_, fun r hr => ?_⟩
    · obtain ⟨q, hq, rfl⟩ := List.mem_map.1 hr
      rw [j5 (fun c hc => by have := h3 c hc; rw [h0.row q hq]; exact this), mW, h2]
    · obtain ⟨q, hq, rfl⟩ := List.mem_map.1 hr
      exact oB (mV (h0.num q hq))
  · obtain ⟨h1, h2⟩ := vk4 hv h
    have e : rowsV ts p ks = rj (Ka p 0) (Ka p 1) (nth ks 0) (nth ks 1) := by simp [rowsV, h]
    rw [e]
    have h0 := hk.ok 0 (by omega)
    have h3 := hk.ok 1 (by omega)
    refine ⟨fun r hr => ?_, fun r hr => ?_⟩
    · obtain ⟨a, ha, b, hb, _, _, _, rfl⟩ := j6.1 hr
      rw [List.length_append, h0.row a ha, j5 (fun c hc => by have := DL c hc; rw [h3.row b hb]; exact this), mW, h2, wp]
    · obtain ⟨a, ha, b, hb, _, _, _, rfl⟩ := j6.1 hr
      refine oB fun v hvv => ?_
      rcases List.mem_append.1 hvv with hvv | hvv
      · exact Ct h0.num ha hvv
      · exact mV (h3.num b hb) v hvv
  · obtain ⟨h1, h2, h4⟩ := CT hv (.inl h)
    have e : rowsV ts p ks = nth ks 0 ++ nth ks 1 := by simp [rowsV, h]
    rw [e]
    have h0 := hk.ok 0 (by omega)
    have h3 := hk.ok 1 (by omega)
    refine ⟨fun r hr => ?_, fun r hr => ?_⟩
    · rcases List.mem_append.1 hr with hr | hr
      · rw [h2]; exact h0.row r hr
      · rw [h2, <- h4]; exact h3.row r hr
    · rcases List.mem_append.1 hr with hr | hr
      · exact h0.num r hr
      · exact h3.num r hr
  · obtain ⟨h1, h2, h4⟩ := CT hv (.inr h)
    have e : rowsV ts p ks = D2 (nth ks 0) (nth ks 1) := by simp [rowsV, h]
    rw [e]
    have h0 := hk.ok 0 (by omega)
    exact ⟨fun r hr => by rw [h2]; exact h0.row r (List.mem_filter.1 hr).1, h0.num.sub fun r hr => (List.mem_filter.1 hr).1⟩
  · obtain ⟨h1, h2⟩ := vk7 hv h
    have e : rowsV ts p ks = nth ks 0 := by simp [rowsV, h]
    rw [e]
    have h0 := hk.ok 0 (by omega)
    exact ⟨fun r hr => by rw [h2]; exact h0.row r hr, h0.num⟩
  · obtain ⟨h1, h3, h2, h4⟩ := vk8 hv h
    have e : rowsV ts p ks = gaR p (nth ks 0) := by simp [rowsV, h]
    rw [e]
    have h0 := hk.ok 0 (by omega)
    have hg : gaB p (nth ks 0) = true := by simpa [kS, h] using hB
    have hkey := Cv (cols := p.Cols) (rows := nth ks 0) (fun r hr c hc => by have := h3 c hc; rw [h0.row r hr]; exact this) h0.num
    have hgo := ut p.Cols (nth ks 0)
    refine ⟨fun r hr => ?_, fun r hr => ?_⟩
    · obtain ⟨q, hq, rfl⟩ := List.mem_map.1 hr
      rw [List.length_append, (hkey q hq).1, h2]; rfl
    · obtain ⟨q, hq, rfl⟩ := List.mem_map.1 hr
      refine oB fun v hvv => ?_
      rcases List.mem_append.1 hvv with hvv | hvv
      · exact (hkey q hq).2 v hvv
      · rw [List.mem_singleton.1 hvv]
        have hb := hgo.2.2 (cx q)
        exact Cu (by have := h0.len; omega) (h0.num.sub hb.2) (List.all_eq_true.1 hg q hq)
theorem pH {p : aQ} {f : aQ -> List LV} {i : Nat} (h : i < p.Kids.length) : nth (p.Kids.map f) i = f (nth p.Kids i) := by
  rw [nth_get (by simpa using h), List.getElem_map, nth_get h]
theorem Cw {s : GSchema} {ts : List (List LV)} (ht : TbOk s ts) : ∀ (n l : Nat) (p : aQ), validM s l p = true -> evB ts n p = true -> EvOk p.Attrs.length (evV ts n p)
  | 0, _, _, _, h => by simp [evB] at h
  | n + 1, l, p, hv, h => by
    simp only [evB, Bool.and_eq_true, decide_eq_true_eq, List.all_eq_true] at h
    obtain ⟨l', _, _, _, hq, _⟩ := cG hv
    have hk : KsOk p (p.Kids.map (evV ts n)) := ⟨by simp, fun i hi => by
      rw [pH hi]
      exact Cw ht n l' _ (hq _ (nth_mem hi)) (h.1 _ (nth_mem hi))⟩
    have hr := yz hv ht hk h.2.1
    refine ⟨h.2.2, fun r hr' => hr.1 r (lC hr'), hr.2.sub fun r hr' => lC hr', Ax _⟩
theorem Fun1.toPX {P : Program} {f : Nat} {As : List Ty} {B : Ty} {b : Prop} {φ : List PanicEntry -> Prop} (hb : b) (h : Fun1 P f As B) : SpecP (X := PLift b) P f As [] (fun _ => B) (fun _ => []) φ :=
  fun vs h0 m r w ha sp st => (h vs h0 m r w ha sp st).mono fun e w' ⟨x, v, h', m', e1, l, s, st', hv⟩ => .inl ⟨⟨hb⟩, v, h', m', e1, l, s, st', hv⟩
theorem yA {x : GSide} {n : Nat} (h : iN x n = true) : ox x n := fun hv => by
  unfold iN at h; rw [if_neg hv] at h
  simp only [Bool.and_eq_true, decide_eq_true_eq] at h
  exact ⟨h.1.1.2, h.1.2⟩
section
variable {Q : Exit -> Act -> World -> Prop} {ro : Option Nat} {N : Nat} {dds : List Deferred} {h0 : PH} {w0 : World} {r : PH} {E : Env} {L : List SP} {d : Option Nat} {ty : Nat} {pos : String} {af : Array Edge} {g : Option (Nat × Bool)} {x y z u : Operand} {ts : Array Nat}
theorem yB {s : GSchema} {e : Gev} {n lv : Nat} {p : aQ} {ks : List (List LV)} (hK : e.kinds = fh) (hv : validM s lv p = true) (hz : n8 (n + 1) p) (ht : TbOk s e.tables) (hk : KsOk p ks) (hn : 0 < p.Kids.length -> ∃ m, n = m + 1)
    (hx : Sub (opTy E x) (rV.ty ((mget e.kinds p.Kind).getD r7).rows)) (hy : Sub (opTy E y) (bx rev e)) (hp : Sub (opTy E z) ((aX (n + 1)).ty p)) (hu : Sub (opTy E u) (tSl (rSl (rSl rValue)) ks))
    (hQ : Aq (Bh (kS p ks = false)) ⟨prog, ro, N, dds, h0, w0, r⟩ Q E (Ap :: L)) :
    rl Q ⟨prog, ro, N, dds, h0, w0, r⟩ ⟨d, .call { callee := .value x, args := #[y, z, u], argTypes := ts }, ty, pos, af, g⟩ E L (fun _ : PLift (kS p ks = true) => tSl (rSl rValue) (rowsV e.tables p ks)) (fun _ => L) := by
  obtain ⟨_, _, hkd, hkn, _⟩ := cG hv
  obtain ⟨z1, z2, z3, z4, z5⟩ := hz
  have hA : ∀ i, i < p.Kids.length -> (Ka p i).length <= 1000 := fun i hi => (z5 _ (nth_mem hi)).2
  have hkl := hk.len
  have hrow : ∀ i, i < p.Kids.length -> ∀ r ∈ nth ks i, r.length <= 4398046511104 := fun i hi r hr => by have := (hk.ok i hi).row r hr; have := hA i hi; omega
  have go : ∀ (f : Nat) (B : List LV) (v : Value), v = .func (.func f) #[] #[] -> ((mget e.kinds p.Kind).getD r7).rows = v -> rowsV e.tables p ks = B -> SpecP (X := PLift (kS p ks = true)) prog f [bx rev e, (aX (n + 1)).ty p, tSl (rSl (rSl rValue)) ks] [] (fun _ => tSl (rSl rValue) B) (fun _ => []) (Bh (kS p ks = false)) ->
      (∀ args w, (callFunc f args).run prog w = .ok (.enter f args) w) -> rl Q ⟨prog, ro, N, dds, h0, w0, r⟩ ⟨d, .call { callee := .value x, args := #[y, z, u], argTypes := ts }, ty, pos, af, g⟩ E L (fun _ : PLift (kS p ks = true) => tSl (rSl rValue) (rowsV e.tables p ks)) (fun _ => L) := by
    intro f B v hf he hB sp hc
    rw [hB]
    exact s4 (C := ⟨prog, ro, N, dds, h0, w0, r⟩) (xs := #[y, z, u]) (aT := [bx rev e, (aX (n + 1)).ty p, tSl (rSl (rSl rValue)) ks]) (As := []) (Sub.trans hx (Dq (by rw [he, hf]))) (FN _) sp ⟨hy, hp, hu, trivial⟩ hc hQ
  have hb1 : ∀ k, p.Kind = k -> k ≠ 8 -> kS p ks = true := fun k h1 h2 => by unfold kS; rw [if_neg (by omega)]
  rcases dS hkd with h | h | h | h | h | h | h | h
  · have h1 := (vk1 hv h).1
    exact go 65 _ _ rfl (by rw [hK, h]; rfl) (by simp [rowsV, h]) ((qW e n p ks (by have := ht.len; omega)).toPX (hb1 _ h (by omega))) call65
  · obtain ⟨h1, h2, h3⟩ := vk2 hv h
    have h0 := hk.ok 0 (by omega)
    exact go 68 _ _ rfl (by rw [hK, h]; rfl) (by simp [rowsV, h]) ((wa e n p ks (by omega) (by have := h0.len; omega) z2 (fun r hr t htt => by rw [h0.row r hr]; have hh := h2 t htt; unfold dY at hh; simp only [Bool.and_eq_true] at hh; exact ⟨yA hh.1.1.2, yA hh.1.2⟩)).toPX (hb1 _ h (by omega))) call68
  · obtain ⟨h1, h2, h3⟩ := vk3 hv h
    have h0 := hk.ok 0 (by omega)
    exact go 71 _ _ rfl (by rw [hK, h]; rfl) (by simp [rowsV, h]) ((sV e n p ks (by omega) (by have := h0.len; omega) z3).toPX (hb1 _ h (by omega))) call71
  · obtain ⟨h1, h2⟩ := vk4 hv h
    obtain ⟨m, rfl⟩ := hn (by omega)
    have h0 := hk.ok 0 (by omega)
    have h3 := hk.ok 1 (by omega)
    exact go 73 _ _ rfl (by rw [hK, h]; rfl) (by simp [rowsV, h]) ((sY e m p ks h1 (hA 0 (by omega)) (hA 1 (by omega)) (by omega) h0.len h3.len h0.row h3.row).toPX (hb1 _ h (by omega))) call73
  · obtain ⟨h1, h2, h4⟩ := CT hv (.inl h)
    have h0 := hk.ok 0 (by omega)
    have h3 := hk.ok 1 (by omega)
    exact go 75 _ _ rfl (by rw [hK, h]; rfl) (by simp [rowsV, h]) ((wc e n p ks (by omega) (by have := h0.len; have := h3.len; omega)).toPX (hb1 _ h (by omega))) call75
  · obtain ⟨h1, h2, h4⟩ := CT hv (.inr h)
    have h0 := hk.ok 0 (by omega)
    have h3 := hk.ok 1 (by omega)
    exact go 76 _ _ rfl (by rw [hK, h]; rfl) (by simp [rowsV, h]) ((wb e n p ks (by omega) (by have := h0.len; omega) h3.str (by have := h3.len; omega) (hrow 0 (by omega)) (hrow 1 (by omega))).toPX (hb1 _ h (by omega))) call76
  · obtain ⟨h1, h2⟩ := vk7 hv h
    exact go 78 _ _ rfl (by rw [hK, h]; rfl) (by simp [rowsV, h]) ((we e n p ks (by omega)).toPX (hb1 _ h (by omega))) call78
  · obtain ⟨h1, h2, h3, h4⟩ := vk8 hv h
    have h0 := hk.ok 0 (by omega)
    have e1 : kS p ks = gaB p (nth ks 0) := by simp [kS, h]
    refine go 81 (gaR p (nth ks 0)) _ rfl (by rw [hK, h]; rfl) (by simp [rowsV, h]) ?_ call81
    rw [e1]
    exact wm e n p ks (by omega) h0.len z3 (fun ha => (h4 ha).1) (fun ha r hr => by rw [h0.row r hr]; exact (h4 ha).2) h0.num
end
theorem Cy {ts : List (List LV)} {n : Nat} {p : aQ} {i : Nat} (hi : i < p.Kids.length) (h : evB ts n (nth p.Kids i) = false) : evB ts (n + 1) p = false := by
  have : p.Kids.all (evB ts n) = false := List.all_eq_false.2 ⟨_, nth_mem hi, by rw [h]; simp⟩
  rw [evB, this, Bool.false_and]
theorem Az {ts : List (List LV)} {n : Nat} {p : aQ} (h : kS p (p.Kids.map (evV ts n)) = false) : evB ts (n + 1) p = false := by rw [evB, h, Bool.false_and, Bool.and_false]
theorem Cz {ts : List (List LV)} {n : Nat} {p : aQ} (h : ¬ (evV ts (n + 1) p).length <= 4000) : evB ts (n + 1) p = false := by rw [evB, decide_eq_false h, Bool.and_false, Bool.and_false]
theorem AA {k : Nat} {c : Int} (h : (k : Int) = kidsN c) : k <= 2 := by
  unfold kidsN at h; split at h
  · omega
  · split at h <;> omega
def DM (s : GSchema) (e : Gev) (n : Nat) : Prop := ∀ (lv : Nat) (p : aQ), validM s lv p = true -> n8 n p -> SpecP (X := PLift (evB e.tables n p = true)) prog 36 [bx rev e, (aX n).ty p] [] (fun _ => tSl (rSl rValue) (evV e.tables n p)) (fun _ => []) (Bh (evB e.tables n p = false))
theorem AB {p : aQ} {f : aQ -> List LV} {i : Nat} (h : i < p.Kids.length) : (p.Kids.take (i + 1)).map f = (p.Kids.take i).map f ++ [f (nth p.Kids i)] := by rw [di h, List.map_append]; rfl
theorem yC {s : GSchema} {ts : List (List LV)} {l : Nat} {p : aQ} {ks : List (List LV)} (hv : validM s l p = true) (ht : TbOk s ts) (hk : KsOk p ks) : (rowsV ts p ks).length <= 1000000000 := by
  obtain ⟨l', _, hkd, _⟩ := cG hv
  have hkl := hk.len
  rcases dS hkd with h | h | h | h | h | h | h | h
  · have e : rowsV ts p ks = nth ts p.Table.toNat := by simp [rowsV, h]
    rw [e]; exact ht.big _
  · have h1 := (vk2 hv h).1
    have e : rowsV ts p ks = Ck p.Tests (nth ks 0) := by simp [rowsV, h]
    have := (hk.ok 0 (by omega)).len
    rw [e]; exact Nat.le_trans (List.length_filter_le _ _) (by omega)
  · have h1 := (vk3 hv h).1
    have e : rowsV ts p ks = mT p.Cols (nth ks 0) := by simp [rowsV, h]
    have := (hk.ok 0 (by omega)).len
    rw [e]; unfold mT; rw [List.length_map]; omega
  · have h1 := (vk4 hv h).1
    have e : rowsV ts p ks = rj (Ka p 0) (Ka p 1) (nth ks 0) (nth ks 1) := by simp [rowsV, h]
    have h0 := (hk.ok 0 (by omega)).len
    have h3 := (hk.ok 1 (by omega)).len
    have hr := (hk.ok 0 (by omega)).row
    rw [e]
    have hb := (pE (m := byM (rigJ (Ka p 0) (Ka p 1) (Ka p 1).length) (resJ (Ka p 0) (Ka p 1) (Ka p 1).length) (nth ks 1)) (left := lefJ (Ka p 0) (Ka p 1) (Ka p 1).length) (A := (Ka p 0).length) (B := (resJ (Ka p 0) (Ka p 1) (Ka p 1).length).length) (n := 4000)
      (fun q => ⟨Nat.le_trans (pD _ _ _ _) h3, fun x hx => sW hx⟩) (nth ks 0) [] (fun r h => by rw [hr r h]; exact Nat.le_refl _) (fun r h => by cases h)).1
    have hb : (rj (Ka p 0) (Ka p 1) (nth ks 0) (nth ks 1)).length <= [].length + (nth ks 0).length * 4000 := hb
    simp only [List.length_nil] at hb
    omega
  · have h1 := (CT hv (.inl h)).1
    have e : rowsV ts p ks = nth ks 0 ++ nth ks 1 := by simp [rowsV, h]
    have h0 := (hk.ok 0 (by omega)).len
    have h3 := (hk.ok 1 (by omega)).len
    rw [e, List.length_append]; omega
  · have h1 := (CT hv (.inr h)).1
    have e : rowsV ts p ks = D2 (nth ks 0) (nth ks 1) := by simp [rowsV, h]
    have := (hk.ok 0 (by omega)).len
    rw [e]; exact Nat.le_trans (List.length_filter_le _ _) (by omega)
  · have h1 := (vk7 hv h).1
    have e : rowsV ts p ks = nth ks 0 := by simp [rowsV, h]
    have := (hk.ok 0 (by omega)).len
    rw [e]; omega
  · have h1 := (vk8 hv h).1
    have e : rowsV ts p ks = gaR p (nth ks 0) := by simp [rowsV, h]
    have := (hk.ok 0 (by omega)).len
    have := (ut p.Cols (nth ks 0)).2.1
    rw [e]; unfold gaR; rw [List.length_map]; omega
theorem wq (s : GSchema) (e : Gev) (hK : e.kinds = fh) (ht : TbOk s e.tables) (n lv : Nat) (p : aQ) (hv : validM s lv p = true) (hz : n8 (n + 1) p) (ih : DM s e n) : SpecP (X := PLift (evB e.tables (n + 1) p = true)) prog 36 [bx rev e, (aX (n + 1)).ty p] ([]) (fun _ => tSl (rSl rValue) (evV e.tables (n + 1) p)) (fun _ => []) (Bh (evB e.tables (n + 1) p = false)) := by
  refine SpecP.enter func36 rfl rfl fun h0 w0 fr0 => ?_
  have hk2 := AA (cG hv).choose_spec.2.2.1
  obtain ⟨lv2, _, hkd, hkn, hvk, _⟩ := cG hv
  obtain ⟨z1, z2, z3, z4, z5⟩ := id hz
  refine Jr ?_
  refine Zs (aF (R := (aX (n + 1))) Sr) ?_
  refine Za ?_
  refine ab ?_
  refine Jr ?_
  refine Za ?_
  refine ab ?_
  refine ap ?_
  refine Jr ?_
  refine Zs (aa cq Sr rfl) ?_
  refine Zl lW Sr ?_
  refine Zs (ag underlying25 Sr) ?_
  refine Zm ?_
  refine ab ?_
  refine au ?_
  refine aK (σ := Nat × Value) (fun ⟨i, vk⟩ => i <= p.Kids.length /\ ∀ j, j < i -> evB e.tables n (nth p.Kids j) = true) (fun ⟨i, vk⟩ => upd (upd (upd (upd (upd (upd (upd co 0 (bx rev e)) 3 (bx (aX (n + 1)) p)) 4 (tV (.slice none 0 0))) 5 (rV.ty vk)) 10 (tSl (aX n) p.Kids)) 11 (tV (.int .i64 p.Kids.length))) 12 (tV (.int .i64 i))) (fun ⟨i, vk⟩ => [own 38 (rSl (rSl rValue)) vk ((p.Kids.take i).map (evV e.tables n))]) (fun ⟨i, vk⟩ => p.Kids.length - i) (0, .slice none 0 0) ⟨by omega, fun j hj => by omega⟩ (SubE.upd Sr (SubE.upd Sr (SubE.upd Sr (SubE.upd (FT rfl) (SubE.upd Sr (SubE.upd Sr (SubE.upd Sr SubE.any))))))) (FR) ?_
  rintro ⟨i, vk⟩ ⟨hi, hb⟩
  refine Jr ?_
  refine Zs (az Sr Sr) ?_
  refine ab ?_
  refine ap ?_
  refine am Sr (fun h13 => ?_) (fun h13 => ?_)
  · try simp only [NF] at h13
    have hlt : i < p.Kids.length := by omega
    refine fF 10 (fun _ _ r => jI (by omega) r) fun ⟨m, hm⟩ => ?_
    subst hm
    refine av ?_
    refine ap ?_
    refine au ?_
    refine Jr ?_
    refine Zs (ae (i := i) underlying25 da Sr Sr ?sg1 (gb ?sg2)) ?_
    case sg1 => rfl
    case sg2 => exact hlt
    refine Zl da Sr ?_
    refine dr rfl rfl rfl (aE (fun w => zeroValue30 w) (tC (n := m))) fun v7 => ?_
    refine eu rfl rfl (ai da Sr Sr zS) fun _ => ?_
    refine aN (t := 7) (Sel.take (FN _)) Frz.box ?_
    refine ab ?_
    refine ah ?_
    refine Zm ?_
    refine Zm ?_
    refine Zl da Sr ?_
    refine uh rfl rfl rfl (kO (FN _) (ih lv2 (nth p.Kids i) (hvk _ (nth_mem hlt)) (z5 _ (nth_mem hlt)).1) ⟨Sr, Sr, trivial⟩ call36 (yq (fun ch q => ⟨Cy hlt q.1, q.2⟩))) fun x19 => ?_
    refine Zs (aB (ys := [_]) underlying35 D9 ⟨rfl, Sr, trivial⟩ rfl (by decide)) ?_
    refine dr rfl rfl rfl (aH underlying35 D9 Sr Sr zS (by simp; omega) (by simp; omega)) fun v21 => ?_
    refine Za ?_
    refine ab ?_
    refine ah ?_
    refine Zs (ax Sr Sr ?sg1) ?_
    case sg1 => unfold iu; omega
    refine Zm ?_
    refine ab ?_
    refine ay (σ := Nat × Value) (s := (i, vk)) (i + 1, v21) (by first | omega | (dsimp only; omega) | (simp_all; omega)) ⟨by omega, fun j hj => by by_cases ej : j = i; subst ej; exact x19.down; exact hb j (by omega)⟩ (SubE.upd Sr (SubE.upd Sr (SubE.upd Sr (SubE.upd Sr (SubE.upd Sr (SubE.upd Sr (SubE.upd Sr SubE.any))))))) (LSub.cons zS (SPs.of (A := own 38 (rSl (rSl rValue)) v21 (((p.Kids.take i).map (evV e.tables (m + 1))) ++ [evV e.tables (m + 1) (nth p.Kids i)])) (by rw [AB hlt])) (LSub.nil))
  · try simp only [NF] at h13
    obtain rfl : i = p.Kids.length := by omega
    have hka : p.Kids.all (evB e.tables n) = true := l4 (fun k hk => hb k hk)
    refine fF 10 (fun _ _ r => fun hp => jI hp r) fun hm2 => ?_
    have hks : KsOk p (p.Kids.map (evV e.tables n)) := ⟨by simp, fun i hi => by rw [pH hi]; exact Cw ht n lv2 _ (hvk _ (nth_mem hi)) (hb i hi)⟩
    have hbig := yC hv ht hks
    refine cA (t := 5) (A' := tSl (rSl (rSl rValue)) (p.Kids.map (evV e.tables n))) (Sel.take (FN _)) (Gi (by rw [List.take_length])) ?_
    refine aV ?_
    refine ap ?_
    refine yu [⟨0, [0], true⟩, ⟨1, [23], true⟩, ⟨2, [24], true⟩, ⟨3, [25], true⟩, ⟨4, [3], true⟩, ⟨5, [27], true⟩, ⟨6, [26, 28], true⟩, ⟨7, [29], true⟩, ⟨8, [0], true⟩, ⟨9, [3], true⟩, ⟨10, [5], true⟩, ⟨11, [30, 31, 32, 33], false⟩, ⟨12, [34], false⟩, ⟨13, [35], true⟩] rfl (by kernel_rfl) ?_
    refine cJ rfl rfl rfl rfl (fun _ => ar Sr) ?_
    refine cJ rfl rfl rfl rfl (fun _ => aZ Sr) ?_
    refine cJ rfl rfl rfl rfl (fun _ => aa Ev Sr rfl) ?_
    refine cJ rfl rfl rfl rfl (fun _ => ad E7 Sr) ?_
    refine cJ rfl rfl rfl rfl (fun _ => aa cq Sr rfl) ?_
    refine cJ rfl rfl rfl rfl (fun _ => ad ty3 Sr) ?_
    refine cJ rfl rfl rfl rfl (fun _ => eD (kv := kvI) (R := fQ) (z := r7) (KeyT.int underlying3) underlying80 (fun w => zeroValue125 w) BM Sr Sr) ?_
    refine cJ rfl rfl rfl rfl (fun _ => vL lk Sr rfl) ?_
    refine cJ rfl rfl rfl rfl (fun _ => ar Sr) ?_
    refine cJ rfl rfl rfl rfl (fun _ => ad da Sr) ?_
    refine cJ rfl rfl rfl rfl (fun _ => ar Sr) ?_
    refine ul rfl rfl rfl rfl (yB hK hv hz ht hks hm2 Sr Sr Sr Sr (yq (fun ch q => ⟨Az q.1, q.2⟩))) fun x34 => ?_
    refine j4 rfl rfl rfl rfl (aR (FN _) (qV (rowsV e.tables p (p.Kids.map (evV e.tables n))) hbig (fun r hr => by have := (yz hv ht hks x34.down).1 r hr; omega)) ⟨Sr, trivial⟩ call28) fun v35 => ?_
    refine cJ rfl rfl rfl rfl (fun _ => bd Sr) ?_
    refine Bi ?_
    refine ap ?_
    refine Jr ?_
    refine Zm ?_
    refine Zs (bC underlying38 Sr zS) ?_
    refine Zs (bj Sr Sr) ?_
    refine ab ?_
    refine am Sr (fun h38 => ?_) (fun h38 => ?_)
    · try simp only [NF] at h38
      refine ah ?_
      refine Zs (gZ underlying40 (by intro m h; cases h) Sr) ?_
      refine uj (Sub.trans Sr yw) (yq (ψ := Bh (evB e.tables (n + 1) p = false)) (fun _ h => h) _ ⟨?_, 3, by decide, rfl⟩)
      exact Cz (by show ¬ (tZ (rowsV e.tables p (p.Kids.map (evV e.tables n)))).length <= 4000; omega)
    · try simp only [NF] at h38
      refine av ?_
      refine Jr ?_
      refine Zm ?_
      refine Za ?_
      refine ab ?_
      refine aC ?_
      refine sZ ?_
      refine aY (rv := .tmp 4) rfl (PLift.up ?_) (Sel.take (FN _)) (.tmp Sr) Frz.own
      simp only [evB, Bool.and_eq_true, decide_eq_true_eq]
      exact ⟨hka, x34.down, by show (tZ (rowsV e.tables p (p.Kids.map (evV e.tables n)))).length <= 4000; omega⟩
theorem rA (s : GSchema) (e : Gev) (hK : e.kinds = fh) (ht : TbOk s e.tables) : ∀ n, DM s e n
  | 0 => fun lv p hv hz => SpecP.enter func36 rfl rfl fun h0 w0 fr0 => fF 1 (fun _ _ r => (show False from r)) fun q => q.elim
  | n + 1 => fun lv p hv hz => wq s e hK ht n lv p hv hz (rA s e hK ht n)
def wD (s : GSchema) (n : Nat) (p : aQ) (ts : List (List LV)) : Bool := jW s p ts && evB ts n p
def evR (s : GSchema) (n : Nat) (p : aQ) (ts : List (List LV)) : List LV := if wD s n p ts = true then evV ts n p else []
def pI (s : GSchema) (n : Nat) (p : aQ) (ts : List (List LV)) (c : Int) : Prop := (c = 0 ↔ wD s n p ts = true) /\ (jW s p ts = false -> c = 1)
theorem EH {s : GSchema} {ts : List (List LV)} (hl : ts.length = s.Tables.length) (ht : pz s ts = true) (hb : ∀ t ∈ ts, t.length <= 4000) : TbOk s ts := by
  unfold pz at ht
  simp only [List.all_eq_true, List.mem_range, Bool.not_eq_true', List.any_eq_false] at ht
  have hf : ∀ i, i < ts.length -> ∀ r ∈ nth ts i, iP (nth s.Tables i) r = true := fun i hi r hr => by have := ht i hi r hr; simpa using this
  refine ⟨hl, fun i hi r hr => ?_, fun i => ?_, fun i => ?_⟩
  · have := hf i hi r hr
    simp only [iP, Bool.and_eq_true, decide_eq_true_eq] at this
    exact this.1
  · by_cases hi : i < ts.length
    · intro r hr
      have := hf i hi r hr
      simp only [iP, Bool.and_eq_true, decide_eq_true_eq, List.all_eq_true, List.mem_range] at this
      refine oB fun v hv => ?_
      obtain ⟨j, hj, rfl⟩ := List.getElem_of_mem hv
      have h2 := this.2 j hj
      unfold zC at h2
      simp only [Bool.and_eq_true] at h2
      rw [nth_get hj] at h2
      exact lZ h2.1
    · rw [hY (by omega)]; intro r hr; cases hr
  · by_cases hi : i < ts.length
    · have := hb _ (nth_mem hi); omega
    · rw [hY (by omega)]; exact Nat.zero_le _
theorem DN {ts : List (List LV)} {n : Nat} {p : aQ} (h : n8 n p) (hb : evB ts n p = true) : p.Attrs.length <= 1000000 := by
  cases n with
  | zero => simp [evB] at hb
  | succ n => exact Nat.le_trans h.2.2.2.1 (by omega)
theorem yD (s : GSchema) (hz : SchSz s) (n : Nat) (p : aQ) (hp : n8 n p) (ts : List (List LV)) (hl : ∀ t ∈ ts, t.length <= 4000) (hr : ∀ t ∈ ts, ∀ r ∈ t, r.length <= 4398046511104) : Spec (X := { c : Int // pI s n p ts c }) prog 11 [bB.ty s, (aX n).ty p, tSl (rSl (rSl rValue)) ts] ([]) (fun c => fW [tSl (rSl rValue) (evR s n p ts), tV (.int .i64 c.1)]) (fun c => []) := by
 refine Spec.enter func11 rfl rfl fun h0 w0 fr0 => ?_
 have htl := hz.tabs
 refine Jr (Zs (aF (R := bB) Sr) (Zs (aF (R := (aX n)) Sr) ?_))
 refine Zx (aE (R := rV) (z := Value.slice none 0 0) (fun w => zeroValue38 w) (fun _ => ⟨rfl, rfl⟩)) fun b6 => ?_
 refine Zx (aE (fun w => zeroValue40 w) Fu) fun b7 => ?_
 refine ab (ap (Jr (Zl lV Sr (Zl da Sr (Zs (aj (gE s hz n p hp) ⟨Sr, Sr, trivial⟩ call16) ?_)))))
 refine Zs (bc Sr) (Zm ?_)
 refine Zk (ar Sr) ?_
 refine Zg (fun hw => ag underlying35 (Sub.w hw)) ?_
 refine Zk (aa qb Sr rfl) ?_
 refine Zg (fun hw => ad qa (Sub.w hw)) (Zg (fun hw => ag underlying22 (Sub.w hw)) (Zg (fun hw => be (Sub.w hw) (Sub.w hw)) (Zs (aD Sr Sr) (ab ?_))))
 refine am Sr (fun h24 => ?_) (fun h24 => ?_)
 ·
  try simp only [NF] at h24
  refine Jr ?_
  refine Ju (ai (R := rV) lT Sr (FT rfl) zS) fun _ => ?_
  refine Ju (ai Bd Sr Sr zS) fun _ => ?_
  refine ab (aC ?_)
  have hf : jW s p ts = false := by
   unfold jW
   rcases h24 with h | h
   ·
    have : np s p = false := by simpa using h
    simp [this]
   simp [show ¬ (ts.length : Int) = s.Tables.length by omega]
  have hR : evR s n p ts = [] := by rw [evR, wD, hf]; rfl
  have hE : pI s n p ts 1 := ⟨by rw [wD, hf]; simp, fun _ => rfl⟩
  refine bI (rv := .cell 6 38) (rv' := .cell 7 40) rfl (⟨1, hE⟩ : { c : Int // pI s n p ts c }) (Sel.all _) (.cell (R := rV) lT Sr zS Sr) (.cell (R := aO) Bd Sr zS Sr) (B := tSl (rSl rValue) (evR s n p ts)) (B' := tV (.int .i64 1)) (Frz.sub ?_) (Frz.sub Sr) Sr
  rw [hR]
  exact mI
 try simp only [NF] at h24
 have hv1 : np s p = true := by simpa using h24.1
 have hlen : ts.length = s.Tables.length := by have := h24.2; omega
 refine av (ap (Jr (Zm (Zs (ag underlying35 Sr) (Zm ?_)))))
 refine ab (au ?_)
 refine aK (σ := Nat) (fun i => i <= ts.length /\ ∀ k, k < i -> (!((nth ts k).any fun row => !iP (nth s.Tables k) row)) = true) (fun i => upd (upd (upd (upd (upd (upd (upd (upd co 2 (tSl (rSl (rSl rValue)) ts)) 3 (bx bB s)) 4 (bx (aX n) p)) 6 (tAt b6 0)) 7 (tAt b7 0)) 25 (tSl (rSl (rSl rValue)) ts)) 26 (tV (.int .i64 ts.length))) 27 (tV (.int .i64 i))) (fun i => [box b7 40 aO 0, box b6 38 rV (.slice none 0 0)]) (fun i => ts.length - i) 0 ⟨by omega, fun k hk => by omega⟩ (zU) (LSub.rfl) ?_
 rintro i ⟨hi, hv⟩
 refine Jr (Zs (az Sr Sr) (ab (ap ?_)))
 refine am Sr (fun h28 => ?_) (fun h28 => ?_)
 ·
  try simp only [NF] at h28
  have hlt : i < ts.length := by omega
  have hlt3 : i < s.Tables.length := by omega
  refine av (ap (au (Jr (Zm ?_))))
  refine Zs (ae (i := i) underlying35 fX Sr Sr (by rfl) (gb (by exact hlt))) ?_
  refine Zl fX Sr ?_
  refine Zx (aE (fun w => zeroValue3 w) zr3) fun b8 => ?_
  refine Ju (ai ty3 Sr Sr zS) fun _ => ?_
  refine aN (t := 8) (Sel.take (FN _)) Frz.box ?_
  refine Za (ab (Jr (Zm (Zs (bl (As := [_, _]) ⟨Sr, Sr, trivial⟩) ?_))))
  refine Zs (aj (ig (nth ts i) (by have := hl _ (nth_mem hlt); omega) 32 [bx bB s, bx aO (i : Int)] (fun row => !iP (nth s.Tables i) row) (fun x hx => sO s i hlt3 x (by have := hr _ (nth_mem hlt) x hx; omega)) call32) ⟨Sr, Sr, trivial⟩ call31) ?_
  refine ab ?_
  refine am Sr (fun h34 => ?_) (fun h34 => ?_)
  ·
   try simp only [NF] at h34
   have hft : ((nth ts i).any fun row => !iP (nth s.Tables i) row) = true := h34
   refine Jr ?_
   refine Ju (ai (R := rV) lT Sr (FT rfl) zS) fun _ => ?_
   refine Ju (ai Bd Sr Sr zS) fun _ => ?_
   refine ab (aC ?_)
   have hf : jW s p ts = false := by
    have : pz s ts = false := f9 hlt (by rw [hft]; rfl)
    rw [jW, this, Bool.and_false]
   have hR : evR s n p ts = [] := by rw [evR, wD, hf]; rfl
   have hE : pI s n p ts 1 := ⟨by rw [wD, hf]; simp, fun _ => rfl⟩
   refine bI (rv := .cell 6 38) (rv' := .cell 7 40) rfl (⟨1, hE⟩ : { c : Int // pI s n p ts c }) (Sel.all _) (.cell (R := rV) lT Sr zS Sr) (.cell (R := aO) Bd Sr zS Sr) (B := tSl (rSl rValue) (evR s n p ts)) (B' := tV (.int .i64 1)) (Frz.sub ?_) (Frz.sub Sr) Sr
   rw [hR]
   exact mI
  try simp only [NF] at h34
  have hft : (!((nth ts i).any fun row => !iP (nth s.Tables i) row)) = true := by rw [Bool.not_eq_true']; simpa using h34
  refine av (ah (Zs (ax Sr Sr z6) (Zm (ab ?_))))
  refine ay (σ := Nat) (s := i) (i + 1) zO ⟨by omega, fun k hk => by by_cases e : k = i; exact e ▸ hft; exact hv k zG⟩ (zU) (LSub.rfl)
 try simp only [NF] at h28
 have hall : pz s ts = true := fE (fun k hk => hv k zG)
 have hok : jW s p ts = true := by rw [jW, hv1, hall]; simp; omega
 have htb := EH hlen hall hl
 have hvp := (Bool.and_eq_true_iff.1 hv1).2
 refine aV (Jr (Zs (bl (As := [_, _]) ⟨Sr, Sr, trivial⟩) ?_))
 refine Ac (f := 34) (cap := [.pointer (some ⟨b6, 0, none⟩), .pointer (some ⟨b7, 0, none⟩)]) xT ?_
 refine ab (Jr (Zm (Zs (aj (n9 ) trivial call35) (Zs (aP (x := (⟨ts, fh⟩ : Gev)) (zs := [[Value.slice none 0 0], [Value.map none]]) Ev (fun w => zeroValue83 w) ⟨Sr, Sr, trivial⟩ ⟨⟨Sr, rfl⟩, ⟨Sr, rfl⟩, trivial⟩) (Zs (aF (R := rev) Sr) ?_)))))
 refine Za (ab (ap (Jr (Zm (Zl da Sr ?_)))))
 refine uh rfl rfl rfl (kO (FN _) (rA s ⟨ts, fh⟩ rfl htb n 12 p hvp hp) ⟨Sr, Sr, trivial⟩ call36 (by intro ch hch; obtain ⟨hb, c, hc, rfl⟩ := hch; have hR : evR s n p ts = [] := (by rw [evR, wD, hb, Bool.and_false]; rfl); have hE : pI s n p ts c := ⟨by rw [wD, hb, Bool.and_false]; exact ⟨fun q => absurd q hc, fun q => (by cases q)⟩, fun q => (by rw [hok] at q; cases q)⟩; refine a7 (L' := [box b6 38 rV (.slice none 0 0), box b7 40 aO 0, Ap]) (zL) ?_; refine wi ?_; refine bI (rv := .cell 6 38) (rv' := .cell 7 40) rfl (⟨c, hE⟩ : { c : Int // pI s n p ts c }) (Sel.all _) (.cell (R := rV) lT Sr zS Sr) (.cell (R := aO) Bd Sr zS Sr) (B := tSl (rSl rValue) (evR s n p ts)) (B' := tV (.int .i64 c)) (Frz.sub ?_) (Frz.sub Sr) Sr; rw [hR]; exact mI)) fun x43 => ?_
 refine Zs (ag underlying38 Sr) (Zm (ab ?_))
 have hEv := Cw htb n 12 p hvp x43.down
 have hl4 := hEv.len
 have hrr : ∀ i, (nth (evV ts n p) i).length <= 1000000 := fun i => by
  by_cases hi : i < (evV ts n p).length
  ·
   exact Nat.le_trans (Nat.le_of_eq (hEv.row _ (nth_mem hi))) (DN hp x43.down)
  rw [hY zG]; exact Nat.zero_le _
 refine au ?_
 refine aK (σ := Nat × Value) (fun ⟨k, vr⟩ => k <= (evV ts n p).length) (fun ⟨k, vr⟩ => upd (upd (upd (upd (upd co 6 (tAt b6 0)) 7 (tAt b7 0)) 43 (tSl (rSl rValue) (evV ts n p))) 44 (tV (.int .i64 (evV ts n p).length))) 45 (tV (.int .i64 k))) (fun ⟨k, vr⟩ => [own 45 (rSl rValue) vr ((evV ts n p).take k), box b7 40 aO 0, box b6 38 rV vr]) (fun ⟨k, vr⟩ => (evV ts n p).length - k) (0, .slice none 0 0) (by exact Nat.zero_le _) (zU) (FR) ?_
 rintro ⟨k, vr⟩ hk
 try dsimp only at hk
 refine Jr (Zs (az Sr Sr) (ab (ap ?_)))
 refine am Sr (fun h46 => ?_) (fun h46 => ?_)
 ·
  try simp only [NF] at h46
  have hlk : k < (evV ts n p).length := by omega
  refine av (ap (au (Jr ?_)))
  refine Zs (ae (i := k) underlying38 dt Sr Sr (by rfl) (gb (by exact hlk))) ?_
  refine Zl dt Sr (Za (ab ?_))
  refine BI [⟨1, [12], 0⟩, ⟨2, [50], 0⟩, ⟨3, [51], 0⟩, ⟨0, [6], 1⟩, ⟨4, [49, 52], 2⟩, ⟨5, [6, 53], 2⟩] rfl (by kernel_rfl) ?_
  refine ZX rfl (ar Sr) ?_
  refine ZX rfl (aj (nF _ (by have := hrr k; omega)) ⟨Sr, trivial⟩ call27) ?_
  refine ZX rfl (aB (ys := [_]) underlying38 lS ⟨rfl, Sr, trivial⟩ rfl (by decide)) ?_
  refine BE rfl rfl rfl rfl (bb lT Sr zS) ?_
  refine tz rfl rfl rfl rfl (aH underlying38 lS Sr Sr zS (by simp only [List.length_append, List.length_cons, List.length_nil, List.length_take]; omega) (by simp only [List.length_append, List.length_cons, List.length_nil, List.length_take]; omega)) fun v53 => ?_
  refine fB rfl rfl rfl (ai (R := rV) lT Sr Sr zS) fun _ => ?_
  refine nT (ah (Zs (ax Sr Sr z6) (Zm (ab ?_))))
  refine ay (σ := Nat × Value) (s := (k, vr)) (k + 1, v53) zO (by show k + 1 <= _; omega) (zU) (.c zS (SPs.of (A := own 45 (rSl rValue) v53 ((evV ts n p).take k ++ [nth (evV ts n p) k])) (by rw [di hlk])) (zL))
 try simp only [NF] at h46
 obtain rfl : k = (evV ts n p).length := by omega
 refine aV (Jr ?_)
 refine Zs (bb lT Sr zS) ?_
 refine Ju (ai (R := rV) lT Sr Sr zS) fun _ => ?_
 refine Ju (ai Bd Sr Sr zS) fun _ => ?_
 refine ab (aC ?_)
 have hR : evR s n p ts = (evV ts n p) := by rw [evR, wD, hok, x43.down]; rfl
 have hE : pI s n p ts 0 := ⟨by rw [wD, hok, x43.down]; simp, fun q => by rw [hok] at q; cases q⟩
 refine a7 (L' := [own 45 (rSl rValue) vr (evV ts n p), box b7 40 aO 0, box b6 38 rV vr]) (.c zS (SPs.of (A := own 45 (rSl rValue) vr ((evV ts n p).take (evV ts n p).length)) (by rw [List.take_length])) (zL)) ?_
 refine vO (call34 _) (recNil _ _) ?_
 refine bI (rv := .cell 6 38) (rv' := .cell 7 40) rfl (⟨0, hE⟩ : { c : Int // pI s n p ts c }) (Sel.all _) (.cell (R := rV) lT Sr zS Sr) (.cell (R := aO) Bd Sr zS Sr) (B := tSl (rSl rValue) (evR s n p ts)) (B' := tV (.int .i64 0)) (Gi hR.symm) (Frz.sub Sr) Sr
theorem fo (a b : ByteArray) : aA (a ++ b) = aA a ++ aA b := by
 unfold aA
 rw [show (a ++ b).data = a.data ++ b.data from ByteArray.data_append]
 simp
theorem mX {a b : ByteArray} (h : aA a = aA b) : a = b := by rw [<- d4 a, h, d4]
def kT (n : Int) : List Int := (Lib.itoa n).map fun c => (c.toNat : Int)
theorem oC (n : Int) : aA (sS n) = kT n := by
 show ((Lib.itoa n).toArray.toList).map _ = _
 simp [kT]
theorem CA {a b : UInt8} (h : (a.toNat : Int) = b.toNat) : a = b := UInt8.toNat.inj (by omega)
theorem rB {a b : Int} (h : kT a = kT b) : a = b := by
 have h1 : Lib.itoa a = Lib.itoa b := by
  unfold kT at h
  exact List.map_inj_right (fun x y e => CA e) |>.1 h
 have hd := kK a.toNat
 have hd2 := kK b.toNat
 have hn : ∀ {n m : Nat}, Lib.decDigits n ≠ 45 :: Lib.decDigits m := by
  intro n m e
  have := (kK n).1 45 (by rw [e]; simp)
  simp at this
 unfold Lib.itoa at h1
 split at h1 <;> split at h1
 · injection h1 with _ h2
   have := x4 h2
   omega
 · exact absurd h1.symm hn
 · exact absurd h1 hn
 · have := x4 h1
   omega
theorem j7 (n : Int) : ∀ c ∈ kT n, c = 45 \/ (48 <= c /\ c <= 57) := by
 intro c hc
 unfold kT at hc
 obtain ⟨u, hu, rfl⟩ := List.mem_map.1 hc
 unfold Lib.itoa at hu
 split at hu
 · rcases List.mem_cons.1 hu with rfl | hu
   · left; rfl
   · have := (kK _).1 u hu
     right; omega
 · have := (kK _).1 u hu
   right; omega
theorem itoaI_ne (n : Int) : kT n ≠ [] := by
 unfold kT Lib.itoa
 split
 · simp
 · have := (kK n.toNat).2
   simpa using this
def txL (v : GValue) : List Int := if v.Kind = 1 then 34 :: (eW (aA v.Text) ++ [34]) else if v.Kind = 2 then kT v.N else if v.Kind = 3 then 64 :: kT v.N else if v.Kind = 4 then (if v.N = 1 then [116, 114, 117, 101] else [102, 97, 108, 115, 101]) else [110, 117, 108, 108]
theorem AC {l : List Int} (h : ∀ x ∈ l, 0 <= x /\ x < 256) : aA (ef l) = l := by
 unfold aA ef
 simp only [List.map_map]
 conv => rhs; rw [<- List.map_id l]
 refine List.map_congr_left fun x hx => ?_
 have := h x hx
 simp only [Function.comp, id, UInt8.toNat_ofNat']
 omega
theorem AD {l : List Int} (h : ∀ x ∈ l, 0 <= x /\ x < 256) : ∀ x ∈ eW l, 0 <= x /\ x < 256 := by
 intro x hx
 unfold eW at hx
 obtain ⟨c, hc, hx⟩ := List.mem_flatMap.1 hx
 have := h c hc
 unfold pV at hx
 repeat' split at hx
 all_goals simp at hx; omega
theorem EI {v : GValue} (h : bh v = true) : aA (eK v) = txL v := by
 unfold eK txL
 rw [if_neg (by rw [h]; simp)]
 by_cases h1 : v.Kind = 1
 · rw [if_pos h1, if_pos h1]
   unfold q7
   rw [fo, fo, AC (AD (dK _))]
   rfl
 · rw [if_neg h1, if_neg h1]
   by_cases h2 : v.Kind = 2
   · rw [if_pos h2, if_pos h2]; exact oC _
   · rw [if_neg h2, if_neg h2]
     by_cases h3 : v.Kind = 3
     · rw [if_pos h3, if_pos h3, fo, oC]; rfl
     · rw [if_neg h3, if_neg h3]
       by_cases h4 : v.Kind = 4
       · rw [if_pos h4, if_pos h4]
         by_cases h5 : v.N = 1
         · rw [if_pos h5, decide_eq_true h5]; rfl
         · rw [if_neg h5, decide_eq_false h5]; rfl
       · rw [if_neg h4, if_neg h4]; rfl
theorem ep {v : GValue} (h : bh v = true) : (v.Kind ≠ 1 -> v.Text = ⟨#[]⟩) /\ (v.Kind = 0 \/ v.Kind = 1 \/ v.Kind = 2 \/ v.Kind = 3 \/ v.Kind = 4) /\ (v.Kind = 0 \/ v.Kind = 1 -> v.N = 0) /\ (v.Kind = 4 -> v.N = 0 \/ v.N = 1) := by
 unfold bh at h
 split at h
 · cases h
 rename_i hn
 refine ⟨fun h1 => Classical.byContradiction fun h2 => hn ⟨h1, h2⟩, ?_⟩
 split at h
 · rename_i h0
   simp at h
   exact ⟨.inl h0, fun _ => by omega, fun e => by omega⟩
 split at h
 · rename_i h1
   split at h
   · cases h
   simp at h
   exact ⟨.inr (.inl h1), fun _ => by omega, fun e => by omega⟩
 split at h
 · rename_i h0 h1 h2
   exact ⟨.inr (.inr (.inl h2)), fun e => by omega, fun e => by omega⟩
 split at h
 · rename_i h0 h1 h2 h3
   exact ⟨.inr (.inr (.inr (.inl h3))), fun e => by omega, fun e => by omega⟩
 split at h
 · rename_i h0 h1 h2 h3 h4
   simp at h
   exact ⟨.inr (.inr (.inr (.inr h4))), fun e => by omega, fun _ => by omega⟩
 · cases h
theorem uv {v : GValue} (h1 : v.Kind ≠ 1) : (10 : Int) ∉ txL v /\ ∃ c r, txL v = c :: r /\ c ≠ 34 := by
 unfold txL
 rw [if_neg h1]
 by_cases h2 : v.Kind = 2
 · rw [if_pos h2]
   refine ⟨fun hm => by have := j7 _ _ hm; omega, ?_⟩
   cases e : kT v.N with
   | nil => exact absurd e (itoaI_ne _)
   | cons c r => exact ⟨c, r, rfl, by have := j7 v.N c (by rw [e]; simp); omega⟩
 · rw [if_neg h2]
   by_cases h3 : v.Kind = 3
   · rw [if_pos h3]
     refine ⟨fun hm => ?_, 64, _, rfl, by decide⟩
     rcases List.mem_cons.1 hm with h | h
     · cases h
     · have := j7 _ _ h; omega
   · rw [if_neg h3]
     by_cases h4 : v.Kind = 4
     · rw [if_pos h4]
       by_cases h5 : v.N = 1
       · rw [if_pos h5]; exact ⟨by decide, 116, _, rfl, by decide⟩
       · rw [if_neg h5]; exact ⟨by decide, 102, _, rfl, by decide⟩
     · rw [if_neg h4]; exact ⟨by decide, 110, _, rfl, by decide⟩
theorem gvalue_ext {v w : GValue} (h1 : v.Kind = w.Kind) (h2 : v.N = w.N) (h3 : v.Text = w.Text) : v = w := by
 cases v; cases w; simp_all
theorem CC {v w : GValue} (hv : bh v = true) (hw : bh w = true) (k1 : v.Kind ≠ 1) (k2 : w.Kind ≠ 1) (h : txL v = txL w) : v = w := by
 obtain ⟨a1, a2, a3, a4⟩ := ep hv
 obtain ⟨b1, b2, b3, b4⟩ := ep hw
 have ht : v.Text = w.Text := by rw [a1 k1, b1 k2]
 have hd : ∀ n : Int, ∀ c r, kT n = c :: r -> c = 45 \/ (48 <= c /\ c <= 57) := fun n c r e => j7 n c (by rw [e]; simp)
 unfold txL at h
 rw [if_neg k1, if_neg k2] at h
 rcases a2 with k | k | k | k | k <;> rcases b2 with j | j | j | j | j <;> first | exact absurd k k1 | exact absurd j k2 | skip
 all_goals simp only [k, j] at h
 · exact gvalue_ext (by omega) (by rw [a3 (.inl k), b3 (.inl j)]) ht
 · exfalso; simp at h; have := hd _ _ _ h.symm; omega
 · exfalso; simp at h
 · exfalso; rcases b4 j with e | e <;> simp [e] at h
 · exfalso; simp at h; have := hd _ _ _ h; omega
 · simp at h; exact gvalue_ext (by omega) (rB h) ht
 · exfalso; simp at h; have := hd _ _ _ h; omega
 · exfalso; rcases b4 j with e | e <;> simp [e] at h <;> (have := hd _ _ _ h; omega)
 · exfalso; simp at h
 · exfalso; simp at h; have := hd _ _ _ h.symm; omega
 · simp at h; exact gvalue_ext (by omega) (rB h) ht
 · exfalso; rcases b4 j with e | e <;> simp [e] at h
 · exfalso; rcases a4 k with e | e <;> simp [e] at h
 · exfalso; rcases a4 k with e | e <;> simp [e] at h <;> (have := hd _ _ _ h.symm; omega)
 · exfalso; rcases a4 k with e | e <;> simp [e] at h
 · rcases a4 k with e | e <;> rcases b4 j with e2 | e2 <;> simp [e, e2] at h <;> exact gvalue_ext (by omega) (by omega) ht
theorem DO {v w : GValue} (hv : bh v = true) (hw : bh w = true) {t t' : List Int} (h : txL v ++ 10 :: t = txL w ++ 10 :: t') : v = w /\ t = t' := by
 by_cases k1 : v.Kind = 1
 · by_cases k2 : w.Kind = 1
   · unfold txL at h
     rw [if_pos k1, if_pos k2] at h
     simp only [List.cons_append, List.append_assoc, List.nil_append, List.cons.injEq, true_and] at h
     obtain ⟨e1, e2⟩ := x3 h
     have := (ep hv).2.2.1 (.inr k1)
     have := (ep hw).2.2.1 (.inr k2)
     simp at e2
     exact ⟨gvalue_ext (by omega) (by omega) (mX e1), e2⟩
   · obtain ⟨_, c, r, e, hc⟩ := uv k2
     rw [e] at h
     unfold txL at h
     rw [if_pos k1] at h
     simp at h
     exact absurd h.1.symm hc
 · by_cases k2 : w.Kind = 1
   · obtain ⟨_, c, r, e, hc⟩ := uv k1
     rw [e] at h
     unfold txL at h
     rw [if_pos k2] at h
     simp at h
     exact absurd h.1 hc
   · obtain ⟨e1, e2⟩ := Be (uv k1).1 (uv k2).1 h
     exact ⟨CC hv hw k1 k2 e1, e2⟩
theorem gr {row : LV} : ∀ {cols : List Int} {s : ByteArray}, (∀ c ∈ cols, bh (nth row c.toNat) = true) -> aA (cols.foldl (jl row) s) = aA s ++ cols.flatMap fun c => txL (nth row c.toNat) ++ [10]
 | [], s, _ => by simp
 | c :: cols, s, h => by
   rw [List.foldl_cons, gr fun x hx => h x (List.mem_cons_of_mem _ hx)]
   unfold jl
   rw [fo, fo, EI (h c List.mem_cons_self), show aA nlB = [10] from rfl]
   simp [List.flatMap_cons]
theorem AE {r q : LV} : ∀ {l : List (Int × Int)}, (∀ x ∈ l, bh (nth r x.1.toNat) = true /\ bh (nth q x.2.toNat) = true) -> (keyS q (l.map (·.2)) = keyS r (l.map (·.1)) ↔ ∀ x ∈ l, nth r x.1.toNat = nth q x.2.toNat) := by
 have H : ∀ {l : List (Int × Int)}, (∀ x ∈ l, bh (nth r x.1.toNat) = true /\ bh (nth q x.2.toNat) = true) -> ((l.map (·.2)).flatMap (fun c => txL (nth q c.toNat) ++ [10]) = (l.map (·.1)).flatMap (fun c => txL (nth r c.toNat) ++ [10]) ↔ ∀ x ∈ l, nth r x.1.toNat = nth q x.2.toNat) := by
  intro l
  induction l with
  | nil => intro _; simp
  | cons a l ih =>
    intro h
    have ih := ih fun x hx => h x (List.mem_cons_of_mem _ hx)
    have ha := h a List.mem_cons_self
    simp only [List.map_cons, List.flatMap_cons, List.mem_cons, forall_eq_or_imp]
    rw [<- ih]
    constructor
    · intro e
      rw [List.append_assoc, List.append_assoc] at e
      obtain ⟨e1, e2⟩ := DO ha.2 ha.1 e
      exact ⟨e1.symm, e2⟩
    · rintro ⟨e1, e2⟩
      rw [e1, e2]
 intro l h
 rw [<- H h]
 constructor
 · intro e
   have := congrArg aA e
   unfold keyS at this
   rw [gr (fun c hc => by obtain ⟨x, hx, rfl⟩ := List.mem_map.1 hc; exact (h x hx).2), gr (fun c hc => by obtain ⟨x, hx, rfl⟩ := List.mem_map.1 hc; exact (h x hx).1)] at this
   exact List.append_cancel_left this
 · intro e
   refine mX ?_
   unfold keyS
   rw [gr (fun c hc => by obtain ⟨x, hx, rfl⟩ := List.mem_map.1 hc; exact (h x hx).2), gr (fun c hc => by obtain ⟨x, hx, rfl⟩ := List.mem_map.1 hc; exact (h x hx).1), e]
theorem fV {a b : GValue} : fU a 1 b 0 = true ↔ a = b /\ bh a = true /\ a.Kind ≠ 0 := by
 unfold fU
 constructor
 · intro h
   split at h
   · cases h
   rename_i hn
   have hva : bh a = true := by by_cases q : bh a = true; exact q; exact absurd (.inl (by simpa using q)) hn
   have hvb : bh b = true := by by_cases q : bh b = true; exact q; exact absurd (.inr (.inl (by simpa using q))) hn
   have hk : a.Kind = b.Kind := Classical.byContradiction fun q => hn (.inr (.inr q))
   obtain ⟨a1, a2, a3, a4⟩ := ep hva
   obtain ⟨b1, b2, b3, b4⟩ := ep hvb
   split at h
   · rename_i h2
     have h0 : ordI (a.N - b.N) 0 = 0 := by simpa [dJ] using h
     have := Eu.eq.1 h0
     exact ⟨gvalue_ext hk (by omega) (by rw [a1 (by omega), b1 (by omega)]), hva, by omega⟩
   split at h
   · rename_i h2 h3
     rw [if_neg (by simp)] at h
     have h0 : kJ a b = 0 := by simpa [dJ] using h
     rw [t7] at h0
     exact ⟨z8.eq.1 h0, hva, by omega⟩
   · cases h
 · rintro ⟨rfl, hv, h0⟩
   obtain ⟨a1, a2, a3, a4⟩ := ep hv
   rw [if_neg (by simp [hv])]
   split
   · simp [dJ, ordI]
   · rename_i h2
     rw [if_pos (by omega), if_neg (by simp)]
     have : kJ a a = 0 := by rw [t7]; exact z8.eq.2 rfl
     simp [dJ, this]
structure Sat (ρ : Nat -> GValue) (s : Bst) : Prop where
 eq : ∀ x y, x < s.P.length -> y < s.P.length -> x ≠ y -> topM s.P x = topM s.P y -> ρ x = ρ y /\ (ρ x).Kind ≠ 0
 cv : ∀ x, x < s.P.length -> ∀ v, cvT s.P x = some v -> ρ x = v
 self : ∀ f ∈ s.F, (ρ f.toNat).Kind ≠ 0
def NNs (s : Bst) : Prop := ∀ x, x < s.P.length -> ∀ v, cvT s.P x = some v -> v.Kind ≠ 0 /\ bh v = true
theorem NNs.nn {s : Bst} (h : NNs s) : ∀ x, x < s.P.length -> ∀ v, cvT s.P x = some v -> v.Kind ≠ 0 := fun x hx v hv => (h x hx v hv).1
theorem mY {P : List Gplace} {x y : Nat} (h : topM P x = topM P y) : cvT P x = cvT P y := by unfold cvT; rw [h]
theorem yE {s : Bst} {i : Nat} {v : GValue} (hb : s.bad = false) (h : (oe s i v).bad = false) : v.Kind ≠ 0 /\ ∀ w, cvT s.P i = some w -> w = v := by
 have h2 : (s.bad || wB s.P i v) = false := h
 rw [hb, Bool.false_or] at h2
 unfold wB at h2
 simp only [Bool.or_eq_false_iff, decide_eq_false_iff_not, Bool.and_eq_false_iff, Bool.not_eq_false', decide_eq_true_eq] at h2
 refine ⟨h2.1, fun w hw => ?_⟩
 obtain ⟨h3, h4⟩ := zY hw
 rcases h2.2 with q | q
 · rw [h3] at q; cases q
 · rw [<- h4]; exact q
theorem yF {s : Bst} (h : POk s.P) (hb : s.bad = false) (nn : NNs s) {i : Nat} (hi : i < s.P.length) {v : GValue} (hv : bh v = true) (h2 : (oe s i v).bad = false) :
  NNs (oe s i v) /\ ∀ ρ, (Sat ρ (oe s i v) ↔ Sat ρ s /\ ρ i = v) := by
 obtain ⟨h3, h4⟩ := yE hb h2
 have hl : (oe s i v).P.length = s.P.length := jf _ _ _
 have ht : ∀ {x}, x < s.P.length -> topM (oe s i v).P x = topM s.P x := fun hx => pq h hi v hx
 have hc : ∀ {x}, x < s.P.length -> cvT (oe s i v).P x = if topM s.P x = topM s.P i then some v else cvT s.P x := fun hx => xL h hi v hx
 refine ⟨fun x hx w hw => ?_, fun ρ => ⟨fun q => ⟨⟨fun x y hx hy hne e => ?_, fun x hx w hw => ?_, q.self⟩, ?_⟩, fun ⟨q, e0⟩ => ⟨fun x y hx hy hne e => ?_, fun x hx w hw => ?_, q.self⟩⟩⟩
 · rw [hl] at hx
   rw [hc hx] at hw
   split at hw
   · cases hw; exact ⟨h3, hv⟩
   · exact nn x hx w hw
 · exact q.eq x y (by rw [hl]; exact hx) (by rw [hl]; exact hy) hne (by rw [ht hx, ht hy]; exact e)
 · by_cases e : topM s.P x = topM s.P i
   · have e1 : w = v := h4 w (by rw [<- mY e]; exact hw)
     rw [e1]; exact q.cv x (by rw [hl]; exact hx) v (by rw [hc hx, if_pos e])
   · exact q.cv x (by rw [hl]; exact hx) w (by rw [hc hx, if_neg e]; exact hw)
 · exact q.cv i (by rw [hl]; exact hi) v (by rw [hc hi, if_pos rfl])
 · rw [hl] at hx hy
   rw [ht hx, ht hy] at e
   exact q.eq x y hx hy hne e
 · rw [hl] at hx
   rw [hc hx] at hw
   split at hw
   · rename_i e
     cases hw
     by_cases hne : x = i
     · rw [hne]; exact e0
     · rw [(q.eq x i hx hi hne e).1]; exact e0
   · exact q.cv x hx w hw
theorem uw {s : Bst} (h : POk s.P) (hb : s.bad = false) (nn : NNs s) {i k : Nat} (hi : i < s.P.length) (hk : k < s.P.length) (h2 : (bY s i k).bad = false) :
  NNs (bY s i k) /\ ∀ ρ, (Sat ρ (bY s i k) ↔ Sat ρ s /\ ρ i = ρ k /\ (ρ i).Kind ≠ 0) := by
 obtain ⟨b1, b2, b3⟩ := zX h hb nn.nn hi hk
 rw [h2] at b2
 have hcf := b2.symm
 have hl : (bY s i k).P.length = s.P.length := pb s i k
 have hconf : ∀ u w, cvT s.P i = some u -> cvT s.P k = some w -> u = w := fun u w e1 e2 => by
  rw [e1, e2] at hcf; simpa [vH] using hcf
 have hF := Dp s i k
 refine ⟨fun x hx w hw => ?_, fun ρ => ⟨fun q => ⟨⟨fun x y hx hy hne e => ?_, fun x hx w hw => ?_, fun f hf => ?_⟩, ?_⟩, fun ⟨q, e0, e1⟩ => ⟨fun x y hx hy hne e => ?_, fun x hx w hw => ?_, fun f hf => ?_⟩⟩⟩
 · rw [hl] at hx
   rw [b3 x hx hcf] at hw
   split at hw
   · cases hck : cvT s.P k with
     | some u => rw [hck] at hw; cases hw; exact nn k hk _ hck
     | none => rw [hck] at hw; exact nn i hi w hw
   · exact nn x hx w hw
 · exact q.eq x y (by rw [hl]; exact hx) (by rw [hl]; exact hy) hne ((b1 x y hx hy).2 (.inl e))
 · have hx' : x < (bY s i k).P.length := by rw [hl]; exact hx
   by_cases e : topM s.P x = topM s.P i \/ topM s.P x = topM s.P k
   · refine q.cv x hx' w ?_
     rw [b3 x hx hcf, if_pos e]
     rcases e with e | e
     · have ci : cvT s.P i = some w := by rw [<- mY e]; exact hw
       cases hck : cvT s.P k with
       | some u => rw [hconf w u ci hck]; rfl
       | none => rw [ci]; rfl
     · have ck : cvT s.P k = some w := by rw [<- mY e]; exact hw
       rw [ck]; rfl
   · exact q.cv x hx' w (by rw [b3 x hx hcf, if_neg e]; exact hw)
 · refine q.self f ?_
   rw [hF]; split
   · exact List.mem_append_left _ hf
   · exact hf
 · by_cases e : i = k
   · refine ⟨by rw [e], ?_⟩
     have := q.self (i : Int) (by rw [hF, if_pos e]; exact List.mem_append_right _ (List.mem_singleton.2 rfl))
     simpa using this
   · exact q.eq i k (by rw [hl]; exact hi) (by rw [hl]; exact hk) e ((b1 i k hi hk).2 (.inr (.inl ⟨rfl, rfl⟩)))
 · rw [hl] at hx hy
   have to : ∀ {z w}, z < s.P.length -> w < s.P.length -> topM s.P z = topM s.P w -> ρ z = ρ w := fun {z w} hz hw e => by
    by_cases hne : z = w
    · rw [hne]
    · exact (q.eq z w hz hw hne e).1
   rcases (b1 x y hx hy).1 e with e | ⟨e2, e3⟩ | ⟨e2, e3⟩
   · exact q.eq x y hx hy hne e
   · rw [to hx hi e2, to hy hk e3]; exact ⟨e0, e1⟩
   · rw [to hx hk e2, to hy hi e3]; exact ⟨e0.symm, by rw [<- e0]; exact e1⟩
 · rw [hl] at hx
   have to : ∀ {z w}, z < s.P.length -> w < s.P.length -> topM s.P z = topM s.P w -> ρ z = ρ w := fun {z w} hz hw e => by
    by_cases hne : z = w
    · rw [hne]
    · exact (q.eq z w hz hw hne e).1
   rw [b3 x hx hcf] at hw
   split at hw
   · rename_i e
     have hxi : ρ x = ρ i := e.elim (to hx hi) fun e => (to hx hk e).trans e0.symm
     cases hck : cvT s.P k with
     | some u => rw [hck] at hw; cases hw; rw [hxi, e0]; exact q.cv k hk _ hck
     | none => rw [hck] at hw; rw [hxi]; exact q.cv i hi w hw
   · exact q.cv x hx w hw
 · rw [hF] at hf
   split at hf
   · rcases List.mem_append.1 hf with hf | hf
     · exact q.self f hf
     · rw [List.mem_singleton.1 hf]; simpa using e1
   · exact q.self f hf
theorem yG {sc : GSchema} {s : Bst} (h : POk s.P) (nn : NNs s) (t : Int) : NNs (eL sc s t) /\ ∀ ρ, (Sat ρ (eL sc s t) ↔ Sat ρ s) := by
 have hl : (eL sc s t).P.length = s.P.length + (nth sc.Tables t.toNat).Attrs.length := by
  show (s.P ++ cI _ _).length = _; rw [List.length_append, cO]
 refine ⟨fun x hx w hw => ?_, fun ρ => ⟨fun q => ⟨fun x y hx hy hne e => ?_, fun x hx w hw => ?_, q.self⟩, fun q => ⟨fun x y hx hy hne e => ?_, fun x hx w hw => ?_, q.self⟩⟩⟩
 · rw [hl] at hx
   have hw : cvT (s.P ++ cI s.P.length (nth sc.Tables t.toNat).Attrs.length) x = some w := hw
   by_cases hx2 : x < s.P.length
   · rw [sI h hx2] at hw; exact nn x hx2 w hw
   · rw [xM h (by omega) hx] at hw; cases hw
 · refine q.eq x y (by rw [hl]; omega) (by rw [hl]; omega) hne ?_
   show topM (s.P ++ cI _ _) x = topM (s.P ++ cI _ _) y
   rw [gG h hx, gG h hy]; exact e
 · refine q.cv x (by rw [hl]; omega) w ?_
   show cvT (s.P ++ cI _ _) x = _
   rw [sI h hx]; exact hw
 · rw [hl] at hx hy
   have e : topM (s.P ++ cI s.P.length (nth sc.Tables t.toNat).Attrs.length) x = topM (s.P ++ cI s.P.length (nth sc.Tables t.toNat).Attrs.length) y := e
   by_cases hx2 : x < s.P.length <;> by_cases hy2 : y < s.P.length
   · rw [gG h hx2, gG h hy2] at e; exact q.eq x y hx2 hy2 hne e
   · rw [gG h hx2, jU h (by omega) hy] at e; have := (iY h hx2).2; omega
   · rw [gG h hy2, jU h (by omega) hx] at e; have := (iY h hy2).2; omega
   · rw [jU h (by omega) hx, jU h (by omega) hy] at e; exact absurd e hne
 · rw [hl] at hx
   have hw : cvT (s.P ++ cI s.P.length (nth sc.Tables t.toNat).Attrs.length) x = some w := hw
   by_cases hx2 : x < s.P.length
   · rw [sI h hx2] at hw; exact q.cv x hx2 w hw
   · rw [xM h (by omega) hx] at hw; cases hw
theorem yH {ρ σ : Nat -> GValue} {s : Bst} (hF : ∀ f ∈ s.F, 0 <= f /\ f < s.P.length) (h : ∀ x, x < s.P.length -> σ x = ρ x) (q : Sat ρ s) : Sat σ s :=
 ⟨fun x y hx hy hne e => by rw [h x hx, h y hy]; exact q.eq x y hx hy hne e, fun x hx v hv => by rw [h x hx]; exact q.cv x hx v hv, fun f hf => by have := hF f hf; rw [h _ (by omega)]; exact q.self f hf⟩
def fP (ρ : Nat -> GValue) (cols : List Int) : LV := cols.map fun c => ρ c.toNat
theorem lF (ρ : Nat -> GValue) (cols : List Int) : (fP ρ cols).length = cols.length := by simp [fP]
theorem j8 {ρ : Nat -> GValue} {cols : List Int} {j : Nat} (h : j < cols.length) : nth (fP ρ cols) j = ρ (nth cols j).toNat := by
 rw [nth_get (by rw [lF]; exact h), nth_get h]; simp [fP]
theorem AF {x : GSide} {n : Nat} (h : iN x n = true) (hv : x.Var ≠ -1) : 0 <= x.Col /\ x.Col < n := by
 unfold iN at h
 rw [if_neg hv] at h
 simp only [Bool.and_eq_true, decide_eq_true_eq] at h
 omega
theorem AG {sc : GSchema} {s : Bst} (h : BdInv sc s) (hb : s.bad = false) (nn : NNs s) {t : GTest} {cols : List Int} (hcb : ∀ c ∈ cols, 0 <= c /\ c < s.P.length) (ht : dY t cols.length = true) (h2 : (br s t cols).bad = false) :
  NNs (br s t cols) /\ ∀ ρ, (∀ c ∈ cols, bh (ρ c.toNat) = true) -> (Sat ρ (br s t cols) ↔ Sat ρ s /\ Al t (fP ρ cols) = true) := by
 unfold dY at ht
 simp only [Bool.and_eq_true, Bool.or_eq_true, decide_eq_true_eq] at ht
 obtain ⟨⟨⟨_, hl⟩, hr⟩, hlr⟩ := ht
 have hat : ∀ {x : GSide}, iN x cols.length = true -> x.Var ≠ -1 -> cY cols x.Col < s.P.length /\ ∀ ρ : Nat -> GValue, ofS x (fP ρ cols) = ρ (cY cols x.Col) /\ ((∀ c ∈ cols, bh (ρ c.toNat) = true) -> bh (ρ (cY cols x.Col)) = true) := fun {x} hx hv => by
  have h3 := AF hx hv
  have hm : nth cols x.Col.toNat ∈ cols := nth_mem (by omega)
  have := hcb _ hm
  refine ⟨by unfold cY; omega, fun ρ => ⟨?_, fun hc => hc _ hm⟩⟩
  unfold ofS; rw [if_neg hv, j8 (by omega)]; rfl
 unfold br at h2 ⊢
 by_cases c1 : t.Op ≠ 1 \/ t.Add ≠ 0
 · rw [if_pos c1] at h2; cases h2
 rw [if_neg c1] at h2 ⊢
 have hop : t.Op = 1 /\ t.Add = 0 := by constructor <;> (apply Classical.byContradiction; intro q; exact c1 (by first | exact .inl q | exact .inr q))
 have htst : ∀ r, Al t r = fU (ofS t.Left r) 1 (ofS t.Right r) 0 := fun r => by unfold Al; rw [hop.1, hop.2]
 by_cases c2 : t.Left.Var = -1
 · rw [if_pos c2] at h2 ⊢
   have hrv : t.Right.Var ≠ -1 := by omega
   obtain ⟨g1, g2⟩ := hat hr hrv
   have hvl : bh t.Left.Value = true := by unfold iN at hl; rw [if_pos c2] at hl; simp only [Bool.and_eq_true] at hl; exact hl.2
   obtain ⟨n1, n2⟩ := yF h.pok hb nn g1 hvl h2
   have h0 := (yE hb h2).1
   refine ⟨n1, fun ρ hρ => ?_⟩
   rw [n2, htst, fV, (g2 ρ).1, show ofS t.Left (fP ρ cols) = t.Left.Value by unfold ofS; rw [if_pos c2]]
   constructor
   · rintro ⟨q, e⟩; exact ⟨q, e.symm, hvl, h0⟩
   · rintro ⟨q, e, _⟩; exact ⟨q, e.symm⟩
 rw [if_neg c2] at h2 ⊢
 obtain ⟨g1, g2⟩ := hat hl c2
 by_cases c3 : t.Right.Var = -1
 · rw [if_pos c3] at h2 ⊢
   have hvl : bh t.Right.Value = true := by unfold iN at hr; rw [if_pos c3] at hr; simp only [Bool.and_eq_true] at hr; exact hr.2
   obtain ⟨n1, n2⟩ := yF h.pok hb nn g1 hvl h2
   have h0 := (yE hb h2).1
   refine ⟨n1, fun ρ hρ => ?_⟩
   rw [n2, htst, fV, (g2 ρ).1, show ofS t.Right (fP ρ cols) = t.Right.Value by unfold ofS; rw [if_pos c3]]
   constructor
   · rintro ⟨q, e⟩; exact ⟨q, e, by rw [e]; exact hvl, by rw [e]; exact h0⟩
   · rintro ⟨q, e, _⟩; exact ⟨q, e⟩
 · rw [if_neg c3] at h2 ⊢
   obtain ⟨k1, k2⟩ := hat hr c3
   obtain ⟨n1, n2⟩ := uw h.pok hb nn g1 k1 h2
   refine ⟨n1, fun ρ hρ => ?_⟩
   rw [n2, htst, fV, (g2 ρ).1, (k2 ρ).1]
   constructor
   · rintro ⟨q, e, e2⟩; exact ⟨q, e, (g2 ρ).2 hρ, e2⟩
   · rintro ⟨q, e, _, e2⟩; exact ⟨q, e, e2⟩
theorem oD {cols : List Int} : ∀ {l : List GTest} {s : Bst}, s.bad = true -> (l.foldl (fun s t => br s t cols) s).bad = true
 | [], s, h => h
 | t :: l, s, h => by rw [List.foldl_cons]; exact oD (vI h t cols)
theorem nb {b c : Bool} (h : b = true -> c = true) (hc : c = false) : b = false := by cases b; rfl; rw [h rfl] at hc; cases hc
theorem rC {sc : GSchema} {cols : List Int} : ∀ {l : List GTest} {s : Bst}, BdInv sc s -> s.bad = false -> NNs s -> (∀ c ∈ cols, 0 <= c /\ c < s.P.length) -> (∀ t ∈ l, dY t cols.length = true) -> (l.foldl (fun s t => br s t cols) s).bad = false ->
  NNs (l.foldl (fun s t => br s t cols) s) /\ ∀ ρ, (∀ c ∈ cols, bh (ρ c.toNat) = true) -> (Sat ρ (l.foldl (fun s t => br s t cols) s) ↔ Sat ρ s /\ ∀ t ∈ l, Al t (fP ρ cols) = true)
 | [], s, _, _, nn, _, _, _ => ⟨nn, fun ρ _ => by simp⟩
 | t :: l, s, h, hb, nn, hc, ht, h2 => by
   rw [List.foldl_cons] at h2 ⊢
   have hb1 : (br s t cols).bad = false := nb oD h2
   have ht1 := ht t List.mem_cons_self
   obtain ⟨n1, n2⟩ := AG h hb nn hc ht1 hb1
   obtain ⟨m1, m2⟩ := rC (l := l) (qA h hc ht1) hb1 n1 (by rw [(om s t cols).pl]; exact hc) (fun t' h' => ht t' (List.mem_cons_of_mem _ h')) h2
   refine ⟨m1, fun ρ hρ => ?_⟩
   rw [m2 ρ hρ, n2 ρ hρ]
   simp only [List.mem_cons, forall_eq_or_imp, and_assoc]
theorem rD {a : List GAttr} {k0 k1 : List Int} : ∀ {l : List (GAttr × Int)} {st : Bst × List Int}, st.1.bad = true -> (l.foldl (bT a k0 k1) st).1.bad = true
 | [], st, h => h
 | x :: l, st, h => by
   rw [List.foldl_cons]
   refine rD ?_
   unfold bT; split
   · exact qN h _ _
   · exact h
theorem pJ {sc : GSchema} {a : List GAttr} {k0 k1 : List Int} : ∀ {l : List (GAttr × Int)} {s : Bst} {o : List Int}, BdInv sc s -> s.bad = false -> NNs s -> (∀ c ∈ k0, 0 <= c /\ c < s.P.length) -> k0.length = a.length -> (∀ x ∈ l, 0 <= x.2 /\ x.2 < s.P.length) -> (l.foldl (bT a k0 k1) (s, o)).1.bad = false ->
  NNs (l.foldl (bT a k0 k1) (s, o)).1 /\ (l.foldl (bT a k0 k1) (s, o)).2 = o ++ (l.filter fun x => !decide (0 <= aM a x.1.Name)).map (·.2) ∧
  ∀ ρ, (Sat ρ (l.foldl (bT a k0 k1) (s, o)).1 ↔ Sat ρ s /\ ∀ x ∈ l, 0 <= aM a x.1.Name -> ρ (cY k0 (aM a x.1.Name)) = ρ x.2.toNat /\ (ρ x.2.toNat).Kind ≠ 0)
 | [], s, o, _, _, nn, _, _, _, _ => ⟨nn, by simp, fun ρ => by simp⟩
 | x :: l, s, o, h, hb, nn, hc, hl, hx, h2 => by
   rw [List.foldl_cons] at h2 ⊢
   unfold bT at h2 ⊢
   have hx1 := hx x List.mem_cons_self
   have hx2 : ∀ y ∈ l, 0 <= y.2 /\ y.2 < s.P.length := fun y hy => hx y (List.mem_cons_of_mem _ hy)
   by_cases hk : 0 <= aM a x.1.Name
   · rw [if_pos hk] at h2 ⊢
     have hb1 : (bY s (cY k0 (aM a x.1.Name)) x.2.toNat).bad = false := nb (fun q => rD (k1 := k1) (st := (bY s (cY k0 (aM a x.1.Name)) x.2.toNat, o)) q) h2
     have hcl := tH a x.1.Name
     have hm := hc (nth k0 (aM a x.1.Name).toNat) (nth_mem (by omega))
     have hci : cY k0 (aM a x.1.Name) < s.P.length := by unfold cY; omega
     obtain ⟨n1, n2⟩ := uw h.pok hb nn hci (show x.2.toNat < s.P.length by omega) hb1
     have hpl := (jN s (cY k0 (aM a x.1.Name)) x.2.toNat).pl
     obtain ⟨m1, m2, m3⟩ := pJ (sc := sc) (a := a) (k0 := k0) (k1 := k1) (l := l) (o := o) (pf h hci (show x.2.toNat < s.P.length by omega)) hb1 n1 (by rw [hpl]; exact hc) hl (by rw [hpl]; exact hx2) h2
     refine ⟨m1, ?_, fun ρ => ?_⟩
     · refine m2.trans ?_
       rw [List.filter_cons_of_neg (by simpa using hk)]
     · refine (m3 ρ).trans ?_
       rw [n2 ρ]
       simp only [List.mem_cons, forall_eq_or_imp, and_assoc]
       constructor
       · rintro ⟨q, e1, e2, e3⟩; exact ⟨q, fun _ => ⟨e1, by rw [<- e1]; exact e2⟩, e3⟩
       · rintro ⟨q, e1, e3⟩; obtain ⟨e1, e2⟩ := e1 hk; exact ⟨q, e1, by rw [e1]; exact e2, e3⟩
   · rw [if_neg hk] at h2 ⊢
     obtain ⟨m1, m2, m3⟩ := pJ (sc := sc) (a := a) (k0 := k0) (k1 := k1) (l := l) (o := o ++ [x.2]) h hb nn hc hl hx2 h2
     refine ⟨m1, ?_, fun ρ => ?_⟩
     · refine m2.trans ?_
       rw [List.filter_cons_of_pos (by simpa using hk)]
       simp
     · refine (m3 ρ).trans ?_
       simp only [List.mem_cons, forall_eq_or_imp]
       constructor
       · rintro ⟨q, e3⟩; exact ⟨q, fun q => absurd q hk, e3⟩
       · rintro ⟨q, _, e3⟩; exact ⟨q, e3⟩
structure TbV (sc : GSchema) (ts : List (List LV)) : Prop where
 len : ts.length = sc.Tables.length
 row : ∀ i, i < ts.length -> ∀ r ∈ nth ts i, r.length = (nth sc.Tables i).Attrs.length
 val : ∀ i, i < ts.length -> ∀ r ∈ nth ts i, ∀ v ∈ r, bh v = true
theorem Bl {sc : GSchema} {ts : List (List LV)} (hl : ts.length = sc.Tables.length) (ht : pz sc ts = true) : TbV sc ts := by
 unfold pz at ht
 simp only [List.all_eq_true, List.mem_range, Bool.not_eq_true', List.any_eq_false] at ht
 have hf : ∀ i, i < ts.length -> ∀ r ∈ nth ts i, iP (nth sc.Tables i) r = true := fun i hi r hr => by have := ht i hi r hr; simpa using this
 refine ⟨hl, fun i hi r hr => ?_, fun i hi r hr v hv => ?_⟩
 · have := hf i hi r hr
   simp only [iP, Bool.and_eq_true, decide_eq_true_eq] at this
   exact this.1
 · have := hf i hi r hr
   simp only [iP, Bool.and_eq_true, decide_eq_true_eq, List.all_eq_true, List.mem_range] at this
   obtain ⟨j, hj, rfl⟩ := List.getElem_of_mem hv
   have h2 := this.2 j hj
   unfold zC at h2
   simp only [Bool.and_eq_true] at h2
   rw [nth_get hj] at h2
   exact h2.1
def arOf (sc : GSchema) (t : Int) : Nat := (nth sc.Tables t.toNat).Attrs.length
def nN (sc : GSchema) : Nat -> List Int -> List Int
 | _, [] => []
 | o, t :: l => (o : Int) :: nN sc (o + arOf sc t) l
def tot (sc : GSchema) (l : List Int) : Nat := (l.map (arOf sc)).sum
theorem iI (sc : GSchema) (t : Int) (l : List Int) : tot sc (t :: l) = arOf sc t + tot sc l := by simp [tot]
theorem CD (sc : GSchema) (a b : List Int) : tot sc (a ++ b) = tot sc a + tot sc b := by simp [tot]
theorem ux (sc : GSchema) : ∀ (a b : List Int) (o : Nat), nN sc o (a ++ b) = nN sc o a ++ nN sc (o + tot sc a) b
 | [], b, o => by simp [nN, tot]
 | t :: a, b, o => by rw [List.cons_append, nN, ux sc a b, nN, iI, Nat.add_assoc]; rfl
structure OffB (sc : GSchema) (s : Bst) : Prop where
 o : s.S = nN sc 0 s.T
 p : s.P.length = tot sc s.T
 nd : s.T.Nodup
def kU (ρ : Nat -> GValue) (o k : Nat) : LV := (List.range k).map fun c => ρ (o + c)
def du (sc : GSchema) (ts : List (List LV)) (ρ : Nat -> GValue) : Nat -> List Int -> Prop
 | _, [] => True
 | o, t :: l => kU ρ o (arOf sc t) ∈ nth ts t.toNat /\ du sc ts ρ (o + arOf sc t) l
theorem mZ {sc : GSchema} {ts : List (List LV)} {ρ : Nat -> GValue} : ∀ {a b : List Int} {o : Nat}, du sc ts ρ o (a ++ b) ↔ du sc ts ρ o a /\ du sc ts ρ (o + tot sc a) b
 | [], b, o => by simp [du, tot]
 | t :: a, b, o => by
   rw [List.cons_append, du, mZ (a := a), du, iI, Nat.add_assoc, and_assoc]
theorem m6 {ρ σ : Nat -> GValue} {o k : Nat} (h : ∀ x, o <= x -> x < o + k -> σ x = ρ x) : kU σ o k = kU ρ o k := by
 unfold kU
 refine List.map_congr_left fun c hc => ?_
 have := List.mem_range.1 hc
 exact h _ (by omega) (by omega)
theorem jn {sc : GSchema} {ts : List (List LV)} {ρ σ : Nat -> GValue} : ∀ {l : List Int} {o : Nat}, (∀ x, o <= x -> x < o + tot sc l -> σ x = ρ x) -> du sc ts ρ o l -> du sc ts σ o l
 | [], o, _, _ => trivial
 | t :: l, o, h, hr => by
   rw [iI] at h
   exact ⟨by rw [m6 fun x h1 h2 => h x h1 (by omega)]; exact hr.1, jn (fun x h1 h2 => h x (by omega) (by omega)) hr.2⟩
theorem m7 {sc : GSchema} {ts : List (List LV)} (ht : TbV sc ts) {ρ : Nat -> GValue} : ∀ {l : List Int} {o : Nat}, (∀ t ∈ l, 0 <= t /\ t < sc.Tables.length) -> du sc ts ρ o l -> ∀ x, o <= x -> x < o + tot sc l -> bh (ρ x) = true
 | [], o, _, _, x, h1, h2 => by simp [tot] at h2; omega
 | t :: l, o, hl, hr, x, h1, h2 => by
   rw [iI] at h2
   by_cases hx : x < o + arOf sc t
   · have ht0 := hl t List.mem_cons_self
     refine ht.val t.toNat (by have := ht.len; omega) _ hr.1 _ (List.mem_map.2 ⟨x - o, List.mem_range.2 (by omega), by rw [show o + (x - o) = x by omega]⟩)
   · exact m7 ht (fun t' h' => hl t' (List.mem_cons_of_mem _ h')) hr.2 x (by omega) (by omega)
theorem m8 {sc : GSchema} {s : Bst} (h : BdInv sc s) : ∀ t ∈ s.T, 0 <= t /\ t < sc.Tables.length := fun t ht => by
 obtain ⟨i, hi, rfl⟩ := List.getElem_of_mem ht
 have := (h.tin i hi).1
 rwa [nth_get hi] at this
theorem ws {ρ σ : Nat -> GValue} {cols : List Int} {N : Nat} (hc : ∀ c ∈ cols, 0 <= c /\ c < N) (h : ∀ x, x < N -> σ x = ρ x) : fP σ cols = fP ρ cols := by
 unfold fP
 refine List.map_congr_left fun c q => ?_
 have := hc c q
 exact h _ (by omega)
structure Mean (sc : GSchema) (ts : List (List LV)) (n : Nat) (s : Bst) (p : aQ) (r : Bst × List Int) : Prop where
 off : OffB sc r.1
 nn : NNs r.1
 ext : ∃ l, r.1.T = s.T ++ l
 snd : ∀ ρ, du sc ts ρ 0 r.1.T -> Sat ρ r.1 -> Sat ρ s /\ fP ρ r.2 ∈ evV ts n p
 cmp : ∀ ρ row, du sc ts ρ 0 s.T -> Sat ρ s -> row ∈ evV ts n p -> ∃ σ, (∀ x, x < s.P.length -> σ x = ρ x) /\ du sc ts σ 0 r.1.T /\ Sat σ r.1 /\ fP σ r.2 = row
structure KMean (sc : GSchema) (ts : List (List LV)) (n : Nat) (s : Bst) (l : List aQ) (r : Bst × List (List Int)) : Prop where
 off : OffB sc r.1
 nn : NNs r.1
 ext : ∃ l, r.1.T = s.T ++ l
 snd : ∀ ρ, du sc ts ρ 0 r.1.T -> Sat ρ r.1 -> Sat ρ s /\ ∀ i, i < l.length -> fP ρ (nth r.2 i) ∈ evV ts n (nth l i)
 cmp : ∀ (ρ : Nat -> GValue) (rows : List LV), du sc ts ρ 0 s.T -> Sat ρ s -> rows.length = l.length -> (∀ i, i < l.length -> nth rows i ∈ evV ts n (nth l i)) ->
  ∃ σ, (∀ x, x < s.P.length -> σ x = ρ x) /\ du sc ts σ 0 r.1.T /\ Sat σ r.1 /\ ∀ i, i < l.length -> fP σ (nth r.2 i) = nth rows i
theorem rE {sc : GSchema} {ts : List (List LV)} {n : Nat} {f : Bst -> aQ -> Bst × List Int} : ∀ {l : List aQ} {s : Bst}, (∀ q ∈ l, ∀ s, BdInv sc s -> WOk sc n s q (f s q)) -> (∀ q ∈ l, ∀ s, BdInv sc s -> s.bad = false -> OffB sc s -> NNs s -> (f s q).1.bad = false -> Mean sc ts n s q (f s q)) ->
  BdInv sc s -> s.bad = false -> OffB sc s -> NNs s -> (kidsS f s l).1.bad = false -> KMean sc ts n s l (kidsS f s l)
 | [], s, _, _, hi, hb, ho, nn, _ => ⟨ho, nn, ⟨[], by simp [kidsS]⟩, fun ρ _ q => ⟨q, fun i hi => by simp at hi⟩, fun ρ rows hr q _ _ => ⟨ρ, fun _ _ => rfl, hr, q, fun i hi => by simp at hi⟩⟩
 | q :: l, s, hw, hf, hi, hb, ho, nn, h2 => by
   unfold kidsS at h2 ⊢
   by_cases hb1 : (f s q).1.bad = true
   · rw [if_pos hb1] at h2
     rw [show (f s q).1.bad = false from h2] at hb1; cases hb1
   rw [if_neg hb1] at h2 ⊢
   have hb1 : (f s q).1.bad = false := by simpa using hb1
   have w1 := hw q List.mem_cons_self s hi
   have m1 := hf q List.mem_cons_self s hi hb ho nn hb1
   have m2 := rE (l := l) (fun q' h' => hw q' (List.mem_cons_of_mem _ h')) (fun q' h' => hf q' (List.mem_cons_of_mem _ h')) w1.inv hb1 m1.off m1.nn h2
   obtain ⟨l1, e1⟩ := m1.ext
   obtain ⟨l2, e2⟩ := m2.ext
   refine ⟨m2.off, m2.nn, ⟨l1 ++ l2, by rw [<- List.append_assoc, <- e1]; exact e2⟩, fun ρ hr hs => ?_, fun ρ rows hr hs hl hrow => ?_⟩
   · obtain ⟨s1, r1⟩ := m2.snd ρ hr hs
     have hr1 : du sc ts ρ 0 (f s q).1.T := by rw [e2] at hr; exact (mZ.1 hr).1
     obtain ⟨s0, r0⟩ := m1.snd ρ hr1 s1
     refine ⟨s0, fun i hi => ?_⟩
     cases i with
     | zero => exact r0
     | succ i => exact r1 i (by simpa using hi)
   · cases rows with
     | nil => simp at hl
     | cons row rows =>
       obtain ⟨σ, g1, g2, g3, g4⟩ := m1.cmp ρ row hr hs (hrow 0 (by simp))
       obtain ⟨τ, k1, k2, k3, k4⟩ := m2.cmp σ rows g2 g3 (by simpa using hl) (fun i hi => hrow (i + 1) (by simpa using hi))
       have hpl := w1.pl
       refine ⟨τ, fun x hx => by rw [k1 x (by omega), g1 x hx], k2, k3, fun i hi => ?_⟩
       cases i with
       | zero =>
         show fP τ (f s q).2 = row
         rw [ws (w1.li hb1).2 k1]; exact g4
       | succ i => exact k4 i (by simpa using hi)
theorem AH {a b : List GAttr} {r q : LV} (hq : q.length = b.length) (hr : r.length = a.length) (hvr : ∀ v ∈ r, bh v = true) (hvq : ∀ v ∈ q, bh v = true) :
  (kg r (lefJ a b b.length) = true /\ kg q (rigJ a b b.length) = true /\ keyS q (rigJ a b b.length) = keyS r (lefJ a b b.length)) ↔ ∀ i, i < b.length -> 0 <= aM a (nth b i).Name -> nth r (aM a (nth b i).Name).toNat = nth q i /\ (nth q i).Kind ≠ 0 := by
 have el : ∀ z : LV, kg z (lefJ a b b.length) = true ↔ ∀ i, i < b.length -> 0 <= aM a (nth b i).Name -> (nth z (aM a (nth b i).Name).toNat).Kind ≠ 0 := fun z => by
  unfold kg lefJ cIx DC
  simp only [List.all_eq_true, List.mem_map, List.mem_filter, List.mem_range, decide_eq_true_eq, Bool.not_eq_true', decide_eq_false_iff_not, forall_exists_index, and_imp]
  constructor
  · intro h i h1 h2; exact h _ i h1 h2 rfl
  · rintro h _ i h1 h2 rfl; exact h i h1 h2
 have er : ∀ z : LV, kg z (rigJ a b b.length) = true ↔ ∀ i, i < b.length -> 0 <= aM a (nth b i).Name -> (nth z i).Kind ≠ 0 := fun z => by
  unfold kg rigJ cIx DC
  simp only [List.all_eq_true, List.mem_map, List.mem_filter, List.mem_range, decide_eq_true_eq, Bool.not_eq_true', decide_eq_false_iff_not, forall_exists_index, and_imp]
  constructor
  · intro h i h1 h2; exact h _ i h1 h2 rfl
  · rintro h _ i h1 h2 rfl; exact h i h1 h2
 have hk := AE (r := r) (q := q) (l := (cIx a b b.length).map fun i => (aM a (nth b i).Name, (i : Int))) (fun x hx => by
  obtain ⟨i, hi, rfl⟩ := List.mem_map.1 hx
  have h1 := List.mem_filter.1 hi
  have h2 := List.mem_range.1 h1.1
  have h3 : 0 <= aM a (nth b i).Name := by simpa using h1.2
  have h4 := kN a (nth b i).Name
  exact ⟨hvr _ (nth_mem (by show (aM a (nth b i).Name).toNat < _; omega)), hvq _ (nth_mem (by show ((i : Int)).toNat < _; omega))⟩)
 rw [List.map_map, List.map_map] at hk
 have hk : keyS q (rigJ a b b.length) = keyS r (lefJ a b b.length) ↔ _ := hk
 rw [el, er, hk]
 simp only [List.mem_map, forall_exists_index, and_imp, cIx, List.mem_filter, List.mem_range, decide_eq_true_eq]
 constructor
 · rintro ⟨h1, h2, h3⟩ i hi h0
   exact ⟨by have := h3 _ i hi h0 rfl; simpa using this, h2 i hi h0⟩
 · intro h
   refine ⟨fun i hi h0 => by rw [(h i hi h0).1]; exact (h i hi h0).2, fun i hi h0 => (h i hi h0).2, ?_⟩
   rintro _ i hi h0 rfl
   simpa using (h i hi h0).1
theorem yI {α β : Type} [Inhabited α] [Inhabited β] {a : List α} {b : List β} (h : b.length = a.length) : a.zip b = (List.range a.length).map fun i => (nth a i, nth b i) := by
 apply List.ext_getElem
 · simp [h]
 · intro i h1 h2
   have h3 : i < a.length := by simpa using h2
   simp [nth_get h3, nth_get (show i < b.length by omega)]
theorem pK {l : List LV} {x : LV} : x ∈ tZ l ↔ x ∈ l := uu
theorem j9 {sc : GSchema} {ts : List (List LV)} {n k : Nat} {p : aQ} {s s1 s2 : Bst} {ks : List (List Int)} {o : List Int} {Q : (Nat -> GValue) -> Prop} (hk : KMean sc ts n s p.Kids (s1, ks)) (hkp : Keep s1 s2 k) (nn : NNs s2)
  (hs : ∀ ρ, du sc ts ρ 0 s1.T -> (Sat ρ s2 ↔ Sat ρ s1 /\ Q ρ))
  (h1 : ∀ ρ, du sc ts ρ 0 s1.T -> Q ρ -> (∀ i, i < p.Kids.length -> fP ρ (nth ks i) ∈ evV ts n (nth p.Kids i)) -> fP ρ o ∈ rowsV ts p (p.Kids.map (evV ts n)))
  (h2 : ∀ row ∈ rowsV ts p (p.Kids.map (evV ts n)), ∃ rows : List LV, rows.length = p.Kids.length /\ (∀ i, i < p.Kids.length -> nth rows i ∈ evV ts n (nth p.Kids i)) /\ ∀ ρ, du sc ts ρ 0 s1.T -> (∀ i, i < p.Kids.length -> fP ρ (nth ks i) = nth rows i) -> Q ρ /\ fP ρ o = row) :
  Mean sc ts (n + 1) s p (s2, o) := by
 have et : s2.T = s1.T := hkp.t
 have ho : OffB sc s1 := hk.off
 obtain ⟨l, hl⟩ := hk.ext
 have hl : s1.T = s.T ++ l := hl
 refine ⟨⟨by show s2.S = nN sc 0 s2.T; rw [hkp.s, et]; exact ho.o, by show s2.P.length = tot sc s2.T; rw [hkp.pl, et]; exact ho.p, by show s2.T.Nodup; rw [et]; exact ho.nd⟩, nn, ⟨l, by show s2.T = _; rw [et]; exact hl⟩, fun ρ hr q => ?_, fun ρ row hr q hrow => ?_⟩
 · have hr : du sc ts ρ 0 s1.T := by rw [<- et]; exact hr
   obtain ⟨q1, q2⟩ := (hs ρ hr).1 q
   obtain ⟨q3, q4⟩ := hk.snd ρ hr q1
   refine ⟨q3, ?_⟩
   rw [evV, pK]
   exact h1 ρ hr q2 q4
 · rw [evV, pK] at hrow
   obtain ⟨rows, g1, g2, g3⟩ := h2 row hrow
   obtain ⟨σ, k1, k2, k3, k4⟩ := hk.cmp ρ rows hr q g1 g2
   obtain ⟨j1, j2⟩ := g3 σ k2 k4
   exact ⟨σ, k1, by show du sc ts σ 0 s2.T; rw [et]; exact k2, (hs σ k2).2 ⟨k3, j1⟩, j2⟩
theorem wt {sc : GSchema} {ts : List (List LV)} (ht : TbV sc ts) {n : Nat} {p : aQ} {s : Bst} (hi : BdInv sc s) (ho : OffB sc s) (nn : NNs s) (hk : p.Kind = 1) (htb : 0 <= p.Table /\ p.Table < sc.Tables.length) (hkids : p.Kids = []) (hb : (eL sc s p.Table).bad = false) :
  Mean sc ts (n + 1) s p (eL sc s p.Table, ge s.P.length (nth sc.Tables p.Table.toNat).Attrs.length) := by
 obtain ⟨n1, n2⟩ := yG (sc := sc) hi.pok nn p.Table
 have eT : (eL sc s p.Table).T = s.T ++ [p.Table] := rfl
 have ev : ∀ row, row ∈ evV ts (n + 1) p ↔ row ∈ nth ts p.Table.toNat := fun row => by
  rw [evV, pK]; simp [rowsV, hk]
 have hmap : ∀ ρ, fP ρ (ge s.P.length (nth sc.Tables p.Table.toNat).Attrs.length) = kU ρ s.P.length (arOf sc p.Table) := fun ρ => by
  unfold fP ge kU arOf
  rw [List.map_map]
  refine List.map_congr_left fun c _ => ?_
  simp only [Function.comp]
  congr 1
 have hone : ∀ ρ, du sc ts ρ 0 (s.T ++ [p.Table]) ↔ du sc ts ρ 0 s.T /\ kU ρ s.P.length (arOf sc p.Table) ∈ nth ts p.Table.toNat := fun ρ => by
  rw [mZ, Nat.zero_add, <- ho.p]; simp [du]
 refine ⟨⟨?_, ?_, ?_⟩, n1, ⟨[p.Table], eT⟩, fun ρ hr q => ?_, fun ρ row hr q hrow => ?_⟩
 · show s.S ++ [(s.P.length : Int)] = nN sc 0 (s.T ++ [p.Table])
   rw [ux, <- ho.o, Nat.zero_add, <- ho.p]; rfl
 · show (s.P ++ cI _ _).length = tot sc (s.T ++ [p.Table])
   rw [List.length_append, cO, CD, <- ho.p]; simp [tot, arOf]
 · show (s.T ++ [p.Table]).Nodup
   have hb2 : (s.bad || s.T.any fun x => decide (p.Table = x)) = false := hb
   simp only [Bool.or_eq_false_iff, List.any_eq_false, decide_eq_true_eq] at hb2
   refine List.nodup_append.2 ⟨ho.nd, by simp, fun x hx y hy => ?_⟩
   rw [List.mem_singleton.1 hy]
   exact fun e => hb2.2 x hx e.symm
 · have hr : du sc ts ρ 0 (s.T ++ [p.Table]) := hr
   refine ⟨(n2 ρ).1 q, ?_⟩
   rw [ev]
   show fP ρ (ge _ _) ∈ _
   rw [hmap]; exact ((hone ρ).1 hr).2
 · rw [ev] at hrow
   have hlen : row.length = arOf sc p.Table := ht.row _ (by have := ht.len; omega) row hrow
   let σ : Nat -> GValue := fun x => if x < s.P.length then ρ x else nth row (x - s.P.length)
   have hσ : ∀ x, x < s.P.length -> σ x = ρ x := fun x hx => if_pos hx
   have hrw : kU σ s.P.length (arOf sc p.Table) = row := by
    unfold kU
    apply List.ext_getElem
    · simp [hlen]
    · intro i h1 h2
      simp only [List.getElem_map, List.getElem_range]
      show (if _ then _ else _) = _
      rw [if_neg (by omega), show s.P.length + i - s.P.length = i by omega, nth_get h2]
   refine ⟨σ, hσ, ?_, (n2 σ).2 (yH hi.fin hσ q), ?_⟩
   · show du sc ts σ 0 (s.T ++ [p.Table])
     rw [hone, hrw]
     exact ⟨jn (fun x _ hx => hσ x (by rw [ho.p]; omega)) hr, hrow⟩
   · show fP σ (ge _ _) = row
     rw [hmap, hrw]
theorem rF {sc : GSchema} (hs : no sc = true) {ts : List (List LV)} (ht : TbV sc ts) : ∀ {n l : Nat} {p : aQ} {s : Bst}, Dep n p -> validM sc l p = true -> BdInv sc s -> s.bad = false -> OffB sc s -> NNs s -> (walkS sc n s p).1.bad = false -> Mean sc ts n s p (walkS sc n s p)
 | 0, _, _, _, hd, _, _, _, _, _, _ => hd.elim
 | n + 1, l, p, s, hd, hv, hi, hb, ho, nn, h2 => by
   obtain ⟨l', rfl, _, hkn, hvk, _, _⟩ := cG hv
   have hkw : ∀ q ∈ p.Kids, ∀ s, BdInv sc s -> WOk sc n s q (walkS sc n s q) := fun q hq s' hs' => kA hs (hd q hq) (hvk q hq) hs'
   have hko : KOk sc n s p.Kids (kidsS (walkS sc n) s p.Kids) := pg hkw hi
   unfold walkS at h2 ⊢
   by_cases hw : bX p.Kind = false
   · rw [if_pos hw] at h2; cases h2
   rw [if_neg hw] at h2 ⊢
   by_cases hbk : (kidsS (walkS sc n) s p.Kids).1.bad = true
   · rw [if_pos hbk] at h2; rw [show (kidsS (walkS sc n) s p.Kids).1.bad = false from h2] at hbk; cases hbk
   rw [if_neg hbk] at h2 ⊢
   have hbk : (kidsS (walkS sc n) s p.Kids).1.bad = false := by simpa using hbk
   have hkm := rE (ts := ts) hkw (fun q hq s' a b c d e => rF hs ht (hd q hq) (hvk q hq) a b c d e) hi hb ho nn hbk
   have hli := hko.li hbk
   have hi1 : BdInv sc (kidsS (walkS sc n) s p.Kids).1 := hko.inv
   have hvp := cG hv
   cases hst : kidsS (walkS sc n) s p.Kids with
   | mk s1 ks =>
   rw [hst] at h2 hbk hkm hli hi1
   have hbk : s1.bad = false := hbk
   have hi1 : BdInv sc s1 := hi1
   have nn1 : NNs s1 := hkm.nn
   have ho1 : OffB sc s1 := hkm.off
   have hli2 : ∀ i, i < p.Kids.length -> (nth ks i).length = (nth p.Kids i).Attrs.length /\ ∀ x ∈ nth ks i, 0 <= x /\ x < s1.P.length := hli.2
   have h2 : (nC sc p s1 ks).1.bad = false := h2
   show Mean sc ts (n + 1) s p (nC sc p s1 ks)
   have hval : ∀ {ρ : Nat -> GValue}, du sc ts ρ 0 s1.T -> ∀ {i}, i < p.Kids.length -> ∀ c ∈ nth ks i, bh (ρ c.toNat) = true := fun {ρ} hr {i} hi c hc => by
    have := (hli2 i hi).2 c hc
    exact m7 ht (m8 hi1) hr _ (Nat.zero_le _) (by have := ho1.p; omega)
   have hk1 : ∀ i, i < p.Kids.length -> nth (p.Kids.map (evV ts n)) i = evV ts n (nth p.Kids i) := fun i hi => pH hi
   unfold nC at h2 ⊢
   by_cases c1 : p.Kind = 1
   · rw [if_pos c1] at h2 ⊢
     have hk0 : p.Kids = [] := by
      rw [c1] at hkn
      have hkn : (p.Kids.length : Int) = 0 := hkn
      exact List.length_eq_zero_iff.1 (by omega)
     have e0 : s1 = s := by rw [hk0] at hst; simp only [kidsS, Prod.mk.injEq] at hst; exact hst.1.symm
     subst e0
     exact wt ht hi1 ho1 nn1 c1 (vk1 hv c1).1 hk0 h2
   rw [if_neg c1] at h2 ⊢
   by_cases c2 : p.Kind = 2
   · rw [if_pos c2] at h2 ⊢
     obtain ⟨hn, htst, hal⟩ := vk2 hv c2
     have h0 := hli2 0 (by omega)
     have htk : ∀ t ∈ p.Tests, dY t (nth ks 0).length = true := by rw [h0.1]; exact htst
     obtain ⟨g1, g2⟩ := jO (cols := nth ks 0) (l := p.Tests) hi1 h0.2 htk
     obtain ⟨n1, n2⟩ := rC hi1 hbk nn1 h0.2 htk h2
     have e : ∀ kk, rowsV ts p kk = Ck p.Tests (nth kk 0) := fun kk => by simp [rowsV, c2]
     have hsel : ∀ (r : LV) (l : List LV), r ∈ Ck p.Tests l ↔ r ∈ l /\ ∀ t ∈ p.Tests, Al t r = true := fun r l => by
      unfold Ck ya D1
      rw [List.mem_filter]
      simp
     refine j9 (Q := fun ρ => ∀ t ∈ p.Tests, Al t (fP ρ (nth ks 0)) = true) hkm g2 n1 (fun ρ hr => n2 ρ (hval hr (by omega))) (fun ρ hr q hrow => ?_) (fun row hrow => ?_)
     · rw [e, hsel, hk1 0 (by omega)]; exact ⟨hrow 0 (by omega), q⟩
     · rw [e, hsel, hk1 0 (by omega)] at hrow
       refine ⟨[row], by simp [hn], fun i hi => ?_, fun ρ hr hm => ?_⟩
       · obtain rfl : i = 0 := by omega
         exact hrow.1
       · have := hm 0 (by omega)
         have : fP ρ (nth ks 0) = row := this
         rw [this]; exact ⟨hrow.2, rfl⟩
   rw [if_neg c2] at h2 ⊢
   by_cases c3 : p.Kind = 3
   · rw [if_pos c3] at h2 ⊢
     obtain ⟨hn, hcol, hal⟩ := vk3 hv c3
     have h0 := hli2 0 (by omega)
     have e : ∀ kk, rowsV ts p kk = mT p.Cols (nth kk 0) := fun kk => by simp [rowsV, c3]
     have hpk : ∀ ρ, fP ρ (p.Cols.map fun c => nth (nth ks 0) c.toNat) = bM (fP ρ (nth ks 0)) p.Cols := fun ρ => by
      rw [j5 (fun c hc => by rw [lF, h0.1]; exact hcol c hc)]
      unfold iQ
      conv => lhs; unfold fP
      rw [List.map_map]
      refine List.map_congr_left fun c hc => ?_
      have := hcol c hc
      rw [j8 (by rw [h0.1]; omega)]; rfl
     refine j9 (Q := fun _ => True) hkm (Keep.refl s1) nn1 (fun ρ hr => by simp) (fun ρ hr q hrow => ?_) (fun row hrow => ?_)
     · rw [e, hpk, hk1 0 (by omega)]
       exact List.mem_map.2 ⟨_, hrow 0 (by omega), rfl⟩
     · rw [e, hk1 0 (by omega)] at hrow
       obtain ⟨q, hq, rfl⟩ := List.mem_map.1 hrow
       refine ⟨[q], by simp [hn], fun i hi => ?_, fun ρ hr hm => ⟨trivial, ?_⟩⟩
       · obtain rfl : i = 0 := by omega
         exact hq
       · have : fP ρ (nth ks 0) = q := hm 0 (by omega)
         rw [hpk, this]
   rw [if_neg c3] at h2 ⊢
   by_cases c4 : p.Kind = 4
   · rw [if_pos c4] at h2 ⊢
     obtain ⟨hn, hal⟩ := vk4 hv c4
     have h0 := hli2 0 (by omega)
     have h1 := hli2 1 (by omega)
     have hz : ∀ x ∈ (nth p.Kids 1).Attrs.zip (nth ks 1), 0 <= x.2 /\ x.2 < s1.P.length := fun x hx => h1.2 _ (ph hx)
     obtain ⟨g1, g2, g3, g4⟩ := iF (sc := sc) (a := (nth p.Kids 0).Attrs) (k0 := nth ks 0) (k1 := nth ks 1) (l := (nth p.Kids 1).Attrs.zip (nth ks 1)) (o := nth ks 0) hi1 h0.2 h0.1 h0.2 hz
     obtain ⟨n1, n3, n2⟩ := pJ (sc := sc) (a := (nth p.Kids 0).Attrs) (k0 := nth ks 0) (k1 := nth ks 1) (l := (nth p.Kids 1).Attrs.zip (nth ks 1)) (o := nth ks 0) hi1 hbk nn1 h0.2 h0.1 hz h2
     have e : ∀ kk, rowsV ts p kk = rj (Ka p 0) (Ka p 1) (nth kk 0) (nth kk 1) := fun kk => by simp [rowsV, c4]
     have hzr := yI (a := (nth p.Kids 1).Attrs) (b := nth ks 1) h1.1
     have hQ : ∀ ρ : Nat -> GValue, (∀ x ∈ (nth p.Kids 1).Attrs.zip (nth ks 1), 0 <= aM (nth p.Kids 0).Attrs x.1.Name -> ρ (cY (nth ks 0) (aM (nth p.Kids 0).Attrs x.1.Name)) = ρ x.2.toNat /\ (ρ x.2.toNat).Kind ≠ 0) ↔
       ∀ i, i < (Ka p 1).length -> 0 <= aM (Ka p 0) (nth (Ka p 1) i).Name -> nth (fP ρ (nth ks 0)) (aM (Ka p 0) (nth (Ka p 1) i).Name).toNat = nth (fP ρ (nth ks 1)) i /\ (nth (fP ρ (nth ks 1)) i).Kind ≠ 0 := fun ρ => by
      rw [hzr]
      simp only [List.mem_map, List.mem_range, forall_exists_index, and_imp]
      have hc : ∀ i, i < (Ka p 1).length -> 0 <= aM (Ka p 0) (nth (Ka p 1) i).Name -> nth (fP ρ (nth ks 0)) (aM (Ka p 0) (nth (Ka p 1) i).Name).toNat = ρ (cY (nth ks 0) (aM (Ka p 0) (nth (Ka p 1) i).Name)) /\ nth (fP ρ (nth ks 1)) i = ρ (nth (nth ks 1) i).toNat := fun i hi h0' => by
       have := kN (Ka p 0) (nth (Ka p 1) i).Name
       exact ⟨j8 (by rw [h0.1]; show _ < (Ka p 0).length; omega), j8 (by rw [h1.1]; exact hi)⟩
      constructor
      · intro h i hi h0'
        rw [(hc i hi h0').1, (hc i hi h0').2]
        exact h _ i hi rfl h0'
      · rintro h _ i hi rfl h0'
        have := h i hi h0'
        rw [(hc i hi h0').1, (hc i hi h0').2] at this
        exact this
     have hout : ∀ ρ, fP ρ (((nth p.Kids 1).Attrs.zip (nth ks 1)).foldl (bT (nth p.Kids 0).Attrs (nth ks 0) (nth ks 1)) (s1, nth ks 0)).2 = fP ρ (nth ks 0) ++ bM (fP ρ (nth ks 1)) (resJ (Ka p 0) (Ka p 1) (Ka p 1).length) := fun ρ => by
      rw [n3, j5 (fun c hc => by rw [lF, h1.1]; exact DL c hc)]
      conv => lhs; unfold fP
      rw [List.map_append]
      congr 1
      rw [hzr, List.filter_map, List.map_map, List.map_map]
      unfold iQ resJ
      rw [List.map_map]
      refine List.map_congr_left fun i hi => ?_
      have := List.mem_range.1 (List.mem_filter.1 hi).1
      simp only [Function.comp]
      rw [show ((i : Int)).toNat = i by omega, j8 (by rw [h1.1]; exact this)]
     have hrl : ∀ {ρ : Nat -> GValue}, du sc ts ρ 0 s1.T -> ∀ {i}, i < p.Kids.length -> (fP ρ (nth ks i)).length = (Ka p i).length /\ ∀ v ∈ fP ρ (nth ks i), bh v = true := fun {ρ} hr {i} hi => by
      refine ⟨by rw [lF]; exact (hli2 i hi).1, fun v hv => ?_⟩
      obtain ⟨c, hc, rfl⟩ := List.mem_map.1 hv
      exact hval hr hi c hc
     have hsm : ∀ {ρ : Nat -> GValue}, du sc ts ρ 0 s1.T -> _ := fun {ρ} hr => AH (a := Ka p 0) (b := Ka p 1) (hrl hr (i := 1) (by omega)).1 (hrl hr (i := 0) (by omega)).1 (hrl hr (i := 0) (by omega)).2 (hrl hr (i := 1) (by omega)).2
     refine j9 (o := (((nth p.Kids 1).Attrs.zip (nth ks 1)).foldl (bT (nth p.Kids 0).Attrs (nth ks 0) (nth ks 1)) (s1, nth ks 0)).2) hkm g2 n1 (fun ρ hr => n2 ρ) (fun ρ hr q hrow => ?_) (fun row hrow => ?_)
     · rw [e, hout, hk1 0 (by omega), hk1 1 (by omega), j6]
       obtain ⟨j1, j2, j3⟩ := (hsm hr).2 ((hQ ρ).1 q)
       exact ⟨_, hrow 0 (by omega), _, hrow 1 (by omega), j1, j2, j3, rfl⟩
     · rw [e, hk1 0 (by omega), hk1 1 (by omega), j6] at hrow
       obtain ⟨r, hr0, q, hq0, j1, j2, j3, rfl⟩ := hrow
       refine ⟨[r, q], by simp [hn], fun i hi => ?_, fun ρ hr hm => ?_⟩
       · have : i = 0 \/ i = 1 := by omega
         rcases this with rfl | rfl
         · exact hr0
         · exact hq0
       · have m0 : fP ρ (nth ks 0) = r := hm 0 (by omega)
         have m1 : fP ρ (nth ks 1) = q := hm 1 (by omega)
         refine ⟨(hQ ρ).2 ((hsm hr).1 ⟨by rw [m0]; exact j1, by rw [m1]; exact j2, by rw [m0, m1]; exact j3⟩), ?_⟩
         rw [hout, m0, m1]
   rw [if_neg c4] at h2 ⊢
   have c7 : p.Kind = 7 := by
    have hw : bX p.Kind = true := by simpa using hw
    unfold bX at hw; simp only [Bool.or_eq_true, decide_eq_true_eq] at hw; omega
   obtain ⟨hn, hal⟩ := vk7 hv c7
   have h0 := hli2 0 (by omega)
   have e : ∀ kk, rowsV ts p kk = nth kk 0 := fun kk => by simp [rowsV, c7]
   refine j9 (Q := fun _ => True) hkm (Keep.refl s1) nn1 (fun ρ hr => by simp) (fun ρ hr q hrow => ?_) (fun row hrow => ?_)
   · rw [e, hk1 0 (by omega)]; exact hrow 0 (by omega)
   · rw [e, hk1 0 (by omega)] at hrow
     refine ⟨[row], by simp [hn], fun i hi => ?_, fun ρ hr hm => ⟨trivial, hm 0 (by omega)⟩⟩
     obtain rfl : i = 0 := by omega
     exact hrow
theorem m9 {sc : GSchema} (hs : no sc = true) {ts : List (List LV)} (ht : TbV sc ts) {n l : Nat} {p : aQ} (hd : Dep n p) (hv : validM sc l p = true) (h2 : (walkS sc n st0 p).1.bad = false) :
  OffB sc (walkS sc n st0 p).1 /\ NNs (walkS sc n st0 p).1 /\ (evV ts n p ≠ [] ↔ ∃ ρ, du sc ts ρ 0 (walkS sc n st0 p).1.T /\ Sat ρ (walkS sc n st0 p).1) := by
 have h0 : BdInv sc st0 := mE sc
 have q0 : ∀ ρ, Sat ρ st0 := fun ρ => ⟨fun x y hx => absurd hx (Nat.not_lt_zero _), fun x hx => absurd hx (Nat.not_lt_zero _), fun f hf => by cases hf⟩
 have m := rF hs ht hd hv h0 rfl ⟨rfl, rfl, List.nodup_nil⟩ (fun x hx => absurd hx (Nat.not_lt_zero _)) h2
 refine ⟨m.off, m.nn, fun h => ?_, fun ⟨ρ, hr, q⟩ => ?_⟩
 · cases hev : evV ts n p with
   | nil => exact absurd hev h
   | cons row rest =>
     obtain ⟨σ, _, g2, g3, _⟩ := m.cmp (fun _ => c9) row trivial (q0 _) (by rw [hev]; simp)
     exact ⟨σ, g2, g3⟩
 · have := (m.snd ρ hr q).2
   exact List.ne_nil_of_mem this
structure TG (t : Tst) : Prop where
 cn : t.C.Nodup
 cv : ∀ v ∈ t.C, v.Kind ≠ 0 /\ bh v = true
 mb : ∀ k v, mget t.M k = some v -> 0 <= v /\ v < t.M.length
 mi : ∀ k k' v, mget t.M k = some v -> mget t.M k' = some v -> k = k'
structure TExt (t t' : Tst) : Prop where
 c : ∃ l, t'.C = t.C ++ l
 m : ∀ k v, mget t.M k = some v -> mget t'.M k = some v
theorem TExt.refl (t : Tst) : TExt t t := ⟨⟨[], by simp⟩, fun _ _ h => h⟩
theorem TExt.trans {a b c : Tst} (h : TExt a b) (k : TExt b c) : TExt a c := by
 obtain ⟨l, e⟩ := h.c
 obtain ⟨m, e2⟩ := k.c
 exact ⟨⟨l ++ m, by rw [e2, e, List.append_assoc]⟩, fun q v hv => k.m q v (h.m q v hv)⟩
def iJ (P : List Gplace) (t : Tst) (x : Nat) : Int :=
 match cvT P x with
 | some v => -1 - findI (fun y => decide (v = y)) 0 t.C
 | none => (mget t.M (topM P x : Int)).getD 0
def Has (P : List Gplace) (t : Tst) (x : Nat) : Prop :=
 (∀ v, cvT P x = some v -> v ∈ t.C) /\ (cvT P x = none -> ∃ k, mget t.M (topM P x : Int) = some k)
theorem rG {α : Type} {p : α -> Bool} : ∀ {l m : List α} {i : Int}, l.any p = true -> findI p i (l ++ m) = findI p i l
 | [], m, i, h => by cases h
 | x :: l, m, i, h => by
   rw [List.cons_append]
   unfold findI
   by_cases hx : p x = true
   · rw [if_pos hx, if_pos hx]
   · rw [if_neg hx, if_neg hx]
     refine rG ?_
     simp only [List.any_cons, Bool.or_eq_true] at h
     exact h.resolve_left hx
theorem s8 {P : List Gplace} {t t' : Tst} {x : Nat} (e : TExt t t') (h : Has P t x) : Has P t' x /\ iJ P t' x = iJ P t x := by
 obtain ⟨l, el⟩ := e.c
 refine ⟨⟨fun v hv => by rw [el]; exact List.mem_append_left _ (h.1 v hv), fun hn => by obtain ⟨k, hk⟩ := h.2 hn; exact ⟨k, e.m _ _ hk⟩⟩, ?_⟩
 unfold iJ
 cases hc : cvT P x with
 | some v =>
   simp only
   rw [el, rG]
   rw [List.any_eq_true]
   exact ⟨v, h.1 v hc, by simp⟩
 | none =>
   obtain ⟨k, hk⟩ := h.2 hc
   simp only
   rw [hk, e.m _ _ hk]
theorem CE {P : List Gplace} {t : Tst} (g : TG t) {x : Nat} (hx : ∀ v, cvT P x = some v -> v.Kind ≠ 0 /\ bh v = true) :
  TG (dj P t x).1 /\ TExt t (dj P t x).1 /\ Has P (dj P t x).1 x /\ (dj P t x).2 = iJ P (dj P t x).1 x := by
 unfold dj
 by_cases hf : (nth P (topM P x)).fixed = true
 · have hcv : cvT P x = some (nth P (topM P x)).value := by unfold cvT pn; rw [if_pos hf]
   have hv := hx _ hcv
   rw [if_pos hf]
   generalize (nth P (topM P x)).value = v at hcv hv
   rcases eF (fun y => decide (v = y)) t.C 0 (by omega) with ⟨h1, h2⟩ | ⟨k, h1, h2, h3, h4⟩
   · rw [if_pos (by omega)]
     have hnv : v ∉ t.C := fun hm => by have := h2 v hm; simp at this
     refine ⟨⟨List.nodup_append.2 ⟨g.cn, by simp, fun a ha b hb e => hnv (by rw [<- List.mem_singleton.1 hb, <- e]; exact ha)⟩, fun w hw => ?_, g.mb, g.mi⟩, ⟨⟨[v], rfl⟩, fun _ _ h => h⟩, ⟨fun w hw => ?_, fun hn => ?_⟩, ?_⟩
     · rcases List.mem_append.1 hw with hw | hw
       · exact g.cv w hw
       · rw [List.mem_singleton.1 hw]; exact hv
     · rw [hcv] at hw; cases hw; simp
     · rw [hcv] at hn; cases hn
     · unfold iJ
       rw [hcv]
       show -1 - (t.C.length : Int) = -1 - findI _ 0 (t.C ++ [v])
       rw [zN (i := t.C.length) (by simp) (fun k hk => by
        rw [gF hk]; exact h2 _ (nth_mem hk)) (by rw [nth_get (by simp)]; simp)]
   · rw [if_neg (by omega)]
     refine ⟨g, TExt.refl t, ⟨fun w hw => ?_, fun hn => ?_⟩, ?_⟩
     · rw [hcv] at hw; cases hw
       have : v = nth t.C k := by simpa using h3
       rw [this]; exact nth_mem h1
     · rw [hcv] at hn; cases hn
     · unfold iJ; rw [hcv]
 · have hcv : cvT P x = none := by unfold cvT pn; rw [if_neg hf]
   rw [if_neg hf]
   cases hm : mget t.M (topM P x : Int) with
   | some k =>
     refine ⟨g, TExt.refl t, ⟨fun w hw => (by rw [hcv] at hw; cases hw), fun _ => ⟨k, hm⟩⟩, ?_⟩
     unfold iJ; rw [hcv]; simp only; rw [hm]; rfl
   | none =>
     have hl := zZ (y := (t.M.length : Int)) hm
     have hg : ∀ k, mget (mput t.M (topM P x : Int) (t.M.length : Int)) k = if k = (topM P x : Int) then some (t.M.length : Int) else mget t.M k := fun k => p7 _ _ _ _
     refine ⟨⟨g.cn, g.cv, fun k v hk => ?_, fun k k' v h1 h2 => ?_⟩, ⟨⟨[], by simp⟩, fun k v hk => ?_⟩, ⟨fun w hw => (by rw [hcv] at hw; cases hw), fun _ => ⟨_, (hg _).trans (if_pos rfl)⟩⟩, ?_⟩
     · have hk : mget (mput t.M (topM P x : Int) (t.M.length : Int)) k = some v := hk
       show 0 <= v /\ v < ((mput t.M (topM P x : Int) (t.M.length : Int)).length : Int)
       rw [hg] at hk; rw [hl]
       split at hk
       · cases hk; omega
       · have := g.mb k v hk; omega
     · have h1 : mget (mput t.M (topM P x : Int) (t.M.length : Int)) k = some v := h1
       have h2 : mget (mput t.M (topM P x : Int) (t.M.length : Int)) k' = some v := h2
       rw [hg] at h1 h2
       split at h1 <;> split at h2
       · rename_i e1 e2; rw [e1, e2]
       · cases h1; have := g.mb _ _ h2; omega
       · cases h2; have := g.mb _ _ h1; omega
       · exact g.mi k k' v h1 h2
     · show mget (mput t.M (topM P x : Int) (t.M.length : Int)) k = some v
       rw [hg, if_neg (fun e => by rw [e, hm] at hk; cases hk)]; exact hk
     · unfold iJ; rw [hcv]; simp only
       show (t.M.length : Int) = (mget (mput t.M (topM P x : Int) (t.M.length : Int)) (topM P x : Int)).getD 0
       rw [hg, if_pos rfl]; rfl
theorem uy {P : List Gplace} {o : Nat} : ∀ {l : List Int} {t : Tst}, TG t -> (∀ c ∈ l, ∀ v, cvT P (o + c.toNat) = some v -> v.Kind ≠ 0 /\ bh v = true) ->
  TG (bR P o t l).1 /\ TExt t (bR P o t l).1 /\ (∀ c ∈ l, Has P (bR P o t l).1 (o + c.toNat)) /\ (bR P o t l).2 = l.map fun c => iJ P (bR P o t l).1 (o + c.toNat)
 | [], t, g, _ => ⟨g, TExt.refl t, by simp, rfl⟩
 | c :: l, t, g, h => by
   obtain ⟨g1, g2, g3, g4⟩ := CE g (h c List.mem_cons_self)
   obtain ⟨k1, k2, k3, k4⟩ := uy (P := P) (o := o) (l := l) g1 fun d hd => h d (List.mem_cons_of_mem _ hd)
   have hx := s8 k2 g3
   refine ⟨k1, g2.trans k2, fun d hd => ?_, ?_⟩
   · rcases List.mem_cons.1 hd with rfl | hd
     · exact hx.1
     · exact k3 d hd
   · show (dj P t (o + c.toNat)).2 :: (bR P o (dj P t (o + c.toNat)).1 l).2 = iJ P (bR P o (dj P t (o + c.toNat)).1 l).1 (o + c.toNat) :: l.map _
     rw [hx.2, <- g4, k4]; rfl
def tbl (sc : GSchema) (t : Int) : GTable := nth sc.Tables t.toNat
def AtF (sc : GSchema) (P : List Gplace) (u : Tst) : Nat -> List Int -> List GAtom -> Prop
 | _, [], A => A = []
 | o, t :: T, A => ∃ a B, A = a :: B /\ a.Table = t /\ a.Cols = colsK (tbl sc t) /\ a.Key = (tbl sc t).Key.length /\ a.Terms = (colsK (tbl sc t)).map (fun c => iJ P u (o + c.toNat)) /\ (∀ c ∈ colsK (tbl sc t), Has P u (o + c.toNat)) /\ AtF sc P u (o + arOf sc t) T B
theorem uz {sc : GSchema} {P : List Gplace} (nn : ∀ x, x < P.length -> ∀ v, cvT P x = some v -> v.Kind ≠ 0 /\ bh v = true) (hk : ∀ t : Int, 0 <= t -> t < sc.Tables.length -> ∀ c ∈ colsK (tbl sc t), 0 <= c /\ c < arOf sc t) :
  ∀ {T : List Int} {t : Tst} {o : Nat}, TG t -> (∀ x ∈ T, 0 <= x /\ x < sc.Tables.length) -> o + tot sc T <= P.length ->
  TG (atomsS sc P t (T.zip (nN sc o T))).1 /\ TExt t (atomsS sc P t (T.zip (nN sc o T))).1 /\ AtF sc P (atomsS sc P t (T.zip (nN sc o T))).1 o T (atomsS sc P t (T.zip (nN sc o T))).2
 | [], t, o, g, _, _ => ⟨g, TExt.refl t, rfl⟩
 | a :: T, t, o, g, hT, hl => by
   rw [iI] at hl
   have ha := hT a List.mem_cons_self
   have hka := hk a ha.1 ha.2
   have hoff : T.zip (nN sc (o + arOf sc a) T) = T.zip (nN sc (o + arOf sc a) T) := rfl
   have e0 : (a :: T).zip (nN sc o (a :: T)) = (a, (o : Int)) :: T.zip (nN sc (o + arOf sc a) T) := rfl
   rw [e0]
   obtain ⟨g1, g2, g3, g4⟩ := uy (P := P) (o := o) (l := colsK (tbl sc a)) g fun c hc => nn _ (by have := hka c hc; omega)
   obtain ⟨k1, k2, k3⟩ := uz nn hk (T := T) (t := (bR P o t (colsK (tbl sc a))).1) (o := o + arOf sc a) g1 (fun x hx => hT x (List.mem_cons_of_mem _ hx)) (by omega)
   have ea : atomsS sc P t ((a, (o : Int)) :: T.zip (nN sc (o + arOf sc a) T)) = ((atomsS sc P (bR P o t (colsK (tbl sc a))).1 (T.zip (nN sc (o + arOf sc a) T))).1, ⟨a, colsK (tbl sc a), (bR P o t (colsK (tbl sc a))).2, (tbl sc a).Key.length⟩ :: (atomsS sc P (bR P o t (colsK (tbl sc a))).1 (T.zip (nN sc (o + arOf sc a) T))).2) := rfl
   rw [ea]
   refine ⟨k1, g2.trans k2, _, _, rfl, rfl, rfl, rfl, ?_, fun c hc => (s8 k2 (g3 c hc)).1, k3⟩
   show (bR P o t (colsK (tbl sc a))).2 = _
   rw [g4]
   exact List.map_congr_left fun c hc => (s8 k2 (g3 c hc)).2.symm
theorem CF {t : GTable} (h : rightM t = true) : (1 <= t.Attrs.length /\ t.Attrs.length <= 12 /\ 1 <= t.Key.length) /\ (∀ c ∈ t.Key, 0 <= c /\ c < t.Attrs.length) /\ t.Key.Nodup := by
 unfold rightM szT at h
 simp only [Bool.and_eq_true, decide_eq_true_eq] at h
 have hk : ∀ i, i < t.Key.length -> ml t i = true := ez.1 h.2
 have hinc : ∀ i, i + 1 < t.Key.length -> nth t.Key i < nth t.Key (i + 1) := fun i hi => by
  have := hk (i + 1) hi
  unfold ml at this
  simp only [Bool.and_eq_true, Bool.or_eq_true, decide_eq_true_eq] at this
  rcases this.2 with q | q
  · omega
  · exact q
 have hlt : ∀ j i, i < j -> j < t.Key.length -> nth t.Key i < nth t.Key j := fun j => by
  induction j with
  | zero => intro i hi; omega
  | succ j ih =>
    intro i hi hj
    have h1 := hinc j hj
    by_cases e : i = j
    · rw [e]; exact h1
    · have := ih i (by omega) (by omega); omega
 refine ⟨h.1.1.1.1.2, fun c hc => ?_, ?_⟩
 · obtain ⟨i, hi, rfl⟩ := List.getElem_of_mem hc
   have := hk i hi
   unfold ml at this
   simp only [Bool.and_eq_true, decide_eq_true_eq] at this
   rw [<- nth_get hi]; exact this.1
 · rw [List.nodup_iff_pairwise_ne, List.pairwise_iff_getElem]
   intro i j hi hj hij e
   have := hlt j i hij hj
   rw [nth_get hi, nth_get hj, e] at this
   omega
theorem yJ {t : GTable} (hk : ∀ c ∈ t.Key, 0 <= c /\ c < t.Attrs.length) {c : Int} : c ∈ colsK t ↔ 0 <= c /\ c < t.Attrs.length := by
 refine ⟨tU hk c, fun h => ?_⟩
 unfold colsK
 rw [List.mem_append]
 by_cases hc : c ∈ t.Key
 · exact .inl hc
 · refine .inr (List.mem_map.2 ⟨c.toNat, List.mem_filter.2 ⟨List.mem_range.2 (by omega), ?_⟩, by omega⟩)
   rw [Bool.not_eq_true', List.any_eq_false]
   intro x hx e
   have : ((c.toNat : Nat) : Int) = x := by simpa using e
   exact hc (by rw [show c = x by omega]; exact hx)
theorem AI {t : GTable} (hk : ∀ c ∈ t.Key, 0 <= c /\ c < t.Attrs.length) (hn : t.Key.Nodup) : (colsK t).Nodup := by
 unfold colsK
 refine List.nodup_append.2 ⟨hn, ?_, fun a ha b hb e => ?_⟩
 · rw [List.nodup_iff_pairwise_ne, List.pairwise_map]
   have h0 := (List.nodup_iff_pairwise_ne.1 (List.nodup_range (n := t.Attrs.length))).filter fun (c : Nat) => !(t.Key.any fun x => decide ((c : Int) = x))
   refine h0.imp ?_
   intro a b h e
   have e : (a : Int) = b := e
   exact h (by omega)
 · obtain ⟨c, hc, rfl⟩ := List.mem_map.1 hb
   have h1 := (List.mem_filter.1 hc).2
   rw [Bool.not_eq_true', List.any_eq_false] at h1
   exact h1 a ha (by rw [e]; simp)
theorem wu {l : List Int} {n : Nat} (h : l.Nodup) (hm : ∀ x, x ∈ l ↔ 0 <= x /\ x < (n : Int)) : l.length = n := by
 have h2 : ((List.range n).map fun c : Nat => (c : Int)).Nodup := by
  rw [List.nodup_iff_pairwise_ne, List.pairwise_map]
  refine (List.nodup_iff_pairwise_ne.1 (List.nodup_range (n := n))).imp ?_
  intro a b h e
  have e : (a : Int) = b := e
  exact h (by omega)
 have h3 : l.Perm ((List.range n).map fun c : Nat => (c : Int)) := (List.perm_ext_iff_of_nodup h h2).2 fun x => by
  rw [hm, List.mem_map]
  constructor
  · intro q; exact ⟨x.toNat, List.mem_range.2 (by omega), by omega⟩
  · rintro ⟨c, hc, rfl⟩; have := List.mem_range.1 hc; omega
 have := h3.length_eq
 simpa using this
structure TabK (sc : GSchema) (t : Int) : Prop where
 mem : ∀ c, c ∈ colsK (tbl sc t) ↔ 0 <= c /\ c < (arOf sc t : Int)
 nd : (colsK (tbl sc t)).Nodup
 len : (colsK (tbl sc t)).length = arOf sc t
 sz : 1 <= arOf sc t /\ arOf sc t <= 12
 key : 1 <= (tbl sc t).Key.length /\ (tbl sc t).Key.length <= arOf sc t
theorem pL {sc : GSchema} (hs : no sc = true) {t : Int} (h0 : 0 <= t) (h1 : t < sc.Tables.length) : TabK sc t := by
 have hs2 := hs
 unfold no at hs2
 simp only [Bool.and_eq_true, decide_eq_true_eq] at hs2
 have h2 := ez.1 hs2.2 t.toNat (by omega)
 simp only [Bool.and_eq_true] at h2
 obtain ⟨k1, k2, k3⟩ := CF h2.1
 have hm : ∀ c, c ∈ colsK (tbl sc t) ↔ 0 <= c /\ c < (arOf sc t : Int) := fun c => yJ (t := tbl sc t) k2
 have hn : (colsK (tbl sc t)).Nodup := AI (t := tbl sc t) k2 k3
 have hl := wu hn hm
 refine ⟨hm, hn, hl, ⟨k1.1, k1.2.1⟩, k1.2.2, ?_⟩
 have : (colsK (tbl sc t)).length = (tbl sc t).Key.length + _ := List.length_append
 omega
def plT (sc : GSchema) : Nat -> List Int -> List Nat
 | _, [] => []
 | o, t :: T => ((colsK (tbl sc t)).map fun c => o + c.toNat) ++ plT sc (o + arOf sc t) T
theorem s9 {sc : GSchema} : ∀ {T : List Int} {o : Nat}, (∀ t ∈ T, TabK sc t) -> ∀ x, x ∈ plT sc o T ↔ o <= x /\ x < o + tot sc T
 | [], o, _, x => by simp [plT, tot]
 | t :: T, o, h, x => by
   have ht := h t List.mem_cons_self
   rw [plT, List.mem_append, s9 (T := T) (fun t' h' => h t' (List.mem_cons_of_mem _ h')), iI, List.mem_map]
   constructor
   · rintro (⟨c, hc, rfl⟩ | q)
     · have := (ht.mem c).1 hc; omega
     · omega
   · intro q
     by_cases hx : x < o + arOf sc t
     · exact .inl ⟨((x - o : Nat) : Int), (ht.mem _).2 (by omega), by omega⟩
     · exact .inr (by omega)
theorem Bm {sc : GSchema} : ∀ {T : List Int} {o : Nat}, (∀ t ∈ T, TabK sc t) -> (plT sc o T).Nodup
 | [], o, _ => List.nodup_nil
 | t :: T, o, h => by
   have ht := h t List.mem_cons_self
   have hT := fun t' h' => h t' (List.mem_cons_of_mem _ h')
   rw [plT]
   refine List.nodup_append.2 ⟨?_, Bm hT, fun a ha b hb e => ?_⟩
   · rw [List.nodup_iff_pairwise_ne, List.pairwise_map]
     refine List.Pairwise.imp_of_mem (R := fun a b : Int => a ≠ b) (fun {a b} ha hb h e => h ?_) (List.nodup_iff_pairwise_ne.1 ht.nd)
     have := (ht.mem a).1 ha
     have := (ht.mem b).1 hb
     omega
   · obtain ⟨c, hc, rfl⟩ := List.mem_map.1 ha
     have := (ht.mem c).1 hc
     have := (s9 hT b).1 hb
     omega
def fv (a : GAtom) (row : LV) : List (Int × GValue) := (List.range a.Cols.length).map fun j => (nth a.Terms j, nth row (nth a.Cols j).toNat)
def oE (C : List GValue) (st : List GValue × List Bool) (x : Int × GValue) : Bool := if x.1 < 0 then fU x.2 1 (nth C (-1 - x.1).toNat) 0 else !(nth st.2 x.1.toNat) || fU x.2 1 (nth st.1 x.1.toNat) 0
def tc (st : List GValue × List Bool) (x : Int × GValue) : List GValue × List Bool := if x.1 < 0 then st else (st.1.set x.1.toNat x.2, st.2.set x.1.toNat true)
def eC (C : List GValue) : List GValue × List Bool -> List (Int × GValue) -> Bool × (List GValue × List Bool)
 | st, [] => (true, st)
 | st, x :: l => if oE C st x = true then eC C (tc st x) l else (false, st)
def gS (C : List GValue) (ts : List (List LV)) : List GValue × List Bool -> List GAtom -> Bool
 | _, [] => true
 | st, a :: A => (nth ts a.Table.toNat).any fun row => (eC C st (fv a row)).1 && gS C ts (eC C st (fv a row)).2 A
theorem iK {C : List GValue} {st : List GValue × List Bool} {x : Int × GValue} {l : List (Int × GValue)} : eC C st (x :: l) = if oE C st x = true then eC C (tc st x) l else (false, st) := by rw [eC]
theorem te {C : List GValue} : ∀ {l m : List (Int × GValue)} {st : List GValue × List Bool}, (eC C st (l ++ m)).1 = ((eC C st l).1 && (eC C (eC C st l).2 m).1)
 | [], m, st => by simp [eC]
 | x :: l, m, st => by
   rw [List.cons_append, iK, iK]
   by_cases h : oE C st x = true
   · rw [if_pos h, if_pos h]; exact te
   · rw [if_neg h, if_neg h]; rfl
def i6 (sc : GSchema) (ρ : Nat -> GValue) : Nat -> List Int -> List GAtom -> List (Int × GValue)
 | o, t :: T, a :: A => fv a (kU ρ o (arOf sc t)) ++ i6 sc ρ (o + arOf sc t) T A
 | _, _, _ => []
theorem lg {sc : GSchema} {ρ σ : Nat -> GValue} : ∀ {T : List Int} {A : List GAtom} {o : Nat}, (∀ x, o <= x -> σ x = ρ x) -> i6 sc σ o T A = i6 sc ρ o T A
 | [], A, o, h => rfl
 | t :: T, [], o, h => rfl
 | t :: T, a :: A, o, h => by
   unfold i6
   rw [m6 fun x h1 _ => h x h1, lg fun x h1 => h x (by omega)]
theorem pM {sc : GSchema} {ts : List (List LV)} (ht : TbV sc ts) {C : List GValue} {P : List Gplace} {u : Tst} : ∀ {T : List Int} {A : List GAtom} {o : Nat} {st : List GValue × List Bool}, (∀ t ∈ T, 0 <= t /\ t < sc.Tables.length) -> AtF sc P u o T A ->
  (gS C ts st A = true ↔ ∃ ρ, du sc ts ρ o T /\ (eC C st (i6 sc ρ o T A)).1 = true)
 | [], A, o, st, _, h => by
   rw [show A = [] from h]
   exact ⟨fun _ => ⟨fun _ => c9, trivial, rfl⟩, fun _ => rfl⟩
 | t :: T, A, o, st, hT, ⟨a, B, e1, e2, e3, e4, e5, e6, e7⟩ => by
   subst e1
   have ht0 := hT t List.mem_cons_self
   have hT' := fun t' h' => hT t' (List.mem_cons_of_mem _ h')
   unfold gS
   rw [List.any_eq_true, e2]
   constructor
   · rintro ⟨row, hrow, h2⟩
     rw [Bool.and_eq_true] at h2
     obtain ⟨ρ, r1, r2⟩ := (pM ht hT' e7).1 h2.2
     have hlen : row.length = arOf sc t := ht.row _ (by have := ht.len; omega) row hrow
     let σ : Nat -> GValue := fun x => if x < o + arOf sc t then nth row (x - o) else ρ x
     have hσ : ∀ x, o + arOf sc t <= x -> σ x = ρ x := fun x hx => if_neg (by omega)
     have hrw : kU σ o (arOf sc t) = row := by
      unfold kU
      apply List.ext_getElem
      · simp [hlen]
      · intro i h1 h2
        simp only [List.getElem_map, List.getElem_range]
        show (if _ then _ else _) = _
        rw [if_pos (by omega), show o + i - o = i by omega, nth_get h2]
     refine ⟨σ, ⟨by rw [hrw]; exact hrow, jn (fun x h1 _ => hσ x h1) r1⟩, ?_⟩
     unfold i6
     rw [te, hrw, lg hσ, h2.1, r2]; rfl
   · rintro ⟨ρ, r1, r2⟩
     unfold i6 at r2
     rw [te, Bool.and_eq_true] at r2
     refine ⟨_, r1.1, ?_⟩
     rw [r2.1, Bool.true_and]
     exact (pM ht hT' e7).2 ⟨ρ, r1.2, r2.2⟩
theorem uA {sc : GSchema} {P : List Gplace} {u : Tst} {ρ : Nat -> GValue} : ∀ {T : List Int} {A : List GAtom} {o : Nat}, (∀ t ∈ T, TabK sc t) -> AtF sc P u o T A -> i6 sc ρ o T A = (plT sc o T).map fun x => (iJ P u x, ρ x)
 | [], A, o, _, h => by rw [show A = [] from h]; rfl
 | t :: T, A, o, hT, ⟨a, B, e1, e2, e3, e4, e5, e6, e7⟩ => by
   subst e1
   have htk := hT t List.mem_cons_self
   unfold i6 plT
   rw [List.map_append, <- uA (fun t' h' => hT t' (List.mem_cons_of_mem _ h')) e7]
   congr 1
   unfold fv
   rw [e3, e5, List.map_map]
   apply List.ext_getElem
   · simp
   · intro i h1 h2
     have hi : i < (colsK (tbl sc t)).length := by simpa using h2
     have hc := (htk.mem _).1 (List.getElem_mem hi)
     simp only [List.getElem_map, List.getElem_range, Function.comp]
     rw [nth_get (by simpa using hi), nth_get hi]
     simp only [List.getElem_map]
     congr 1
     unfold kU
     rw [nth_get (by rw [List.length_map, List.length_range]; omega)]
     simp
abbrev EqV (a b : GValue) : Prop := fU a 1 b 0 = true
theorem yK {C : List GValue} {n : Nat} : ∀ {l : List (Int × GValue)} {st : List GValue × List Bool}, st.1.length = n -> st.2.length = n -> (∀ x ∈ l, x.1 < n) ->
  ((eC C st l).1 = true ↔ (∀ x ∈ l, oE C st x = true) /\ l.Pairwise fun x y => x.1 = y.1 -> 0 <= x.1 -> EqV y.2 x.2)
 | [], st, _, _, _ => by simp [eC]
 | x :: l, st, h1, h2, hl => by
   have hx := hl x List.mem_cons_self
   have hl' := fun y hy => hl y (List.mem_cons_of_mem _ hy)
   have e1 : (tc st x).1.length = n := by unfold tc; split <;> simp [h1]
   have e2 : (tc st x).2.length = n := by unfold tc; split <;> simp [h2]
   have ih := yK (C := C) (l := l) (st := tc st x) e1 e2 hl'
   -- a term behind x
   have hstep : ∀ y : Int × GValue, y.1 < n -> oE C st x = true -> (oE C (tc st x) y = true ↔ oE C st y = true /\ (x.1 = y.1 -> 0 <= x.1 -> EqV y.2 x.2)) := fun y hy hax => by
    by_cases hx0 : x.1 < 0
    · have : tc st x = st := if_pos hx0
      rw [this]
      exact ⟨fun q => ⟨q, fun _ q => by omega⟩, fun q => q.1⟩
    · have ea : tc st x = (st.1.set x.1.toNat x.2, st.2.set x.1.toNat true) := if_neg hx0
      rw [ea]
      by_cases hy0 : y.1 < 0
      · unfold oE; rw [if_pos hy0, if_pos hy0]
        exact ⟨fun q => ⟨q, fun e => by omega⟩, fun q => q.1⟩
      · unfold oE at hax ⊢
        rw [if_neg hx0] at hax
        rw [if_neg hy0, if_neg hy0]
        rw [Lg.nth_set (by rw [h2]; omega), Lg.nth_set (by rw [h1]; omega)]
        by_cases e : x.1 = y.1
        · rw [if_pos (by rw [e]), if_pos (by rw [e])]
          simp only [Bool.not_true, Bool.false_or]
          rw [<- e]
          constructor
          · intro q
            refine ⟨?_, fun _ _ => q⟩
            simp only [Bool.or_eq_true, Bool.not_eq_true'] at hax ⊢
            rcases hax with hax | hax
            · exact .inl hax
            · right
              obtain ⟨a1, a2, a3⟩ := fV.1 q
              rw [a1]; exact hax
          · intro q; exact q.2 rfl (by omega)
        · rw [if_neg (by omega), if_neg (by omega)]
          exact ⟨fun q => ⟨q, fun e' => absurd e' e⟩, fun q => q.1⟩
   rw [iK]
   by_cases h : oE C st x = true
   · rw [if_pos h, ih]
     simp only [List.mem_cons, forall_eq_or_imp, List.pairwise_cons]
     constructor
     · rintro ⟨q1, q2⟩
       exact ⟨⟨h, fun y hy => ((hstep y (hl' y hy) h).1 (q1 y hy)).1⟩, fun y hy => ((hstep y (hl' y hy) h).1 (q1 y hy)).2, q2⟩
     · rintro ⟨⟨_, q1⟩, q2, q3⟩
       exact ⟨fun y hy => (hstep y (hl' y hy) h).2 ⟨q1 y hy, q2 y hy⟩, q3⟩
   · rw [if_neg h]
     constructor
     · intro q; cases q
     · rintro ⟨q, _⟩; exact absurd (q x List.mem_cons_self) h
theorem rH {α : Type} {R : α -> α -> Prop} (hs : ∀ x y, R x y -> R y x) {l : List α} (hn : l.Nodup) : l.Pairwise R ↔ ∀ x ∈ l, ∀ y ∈ l, x ≠ y -> R x y := by
 rw [List.pairwise_iff_getElem]
 constructor
 · intro h x hx y hy hne
   obtain ⟨i, hi, rfl⟩ := List.getElem_of_mem hx
   obtain ⟨j, hj, rfl⟩ := List.getElem_of_mem hy
   rcases Nat.lt_trichotomy i j with q | q | q
   · exact h i j hi hj q
   · subst q; exact absurd rfl hne
   · exact hs _ _ (h j i hj hi q)
 · intro h i j hi hj hij
   refine h _ (List.getElem_mem hi) _ (List.getElem_mem hj) fun e => ?_
   have := (List.pairwise_iff_getElem.1 (List.nodup_iff_pairwise_ne.1 hn)) i j hi hj hij
   exact this e
theorem yL {sc : GSchema} {P : List Gplace} {u : Tst} : ∀ {T : List Int} {A : List GAtom} {o : Nat}, AtF sc P u o T A -> ∀ x ∈ plT sc o T, Has P u x
 | [], _, _, _, x, hx => by cases hx
 | t :: T, A, o, ⟨a, B, e1, e2, e3, e4, e5, e6, e7⟩, x, hx => by
   rw [plT] at hx
   rcases List.mem_append.1 hx with hx | hx
   · obtain ⟨c, hc, rfl⟩ := List.mem_map.1 hx; exact e6 c hc
   · exact yL e7 x hx
theorem tf {sc : GSchema} {P : List Gplace} {u : Tst} : ∀ {T : List Int} {A : List GAtom} {o : Nat}, AtF sc P u o T A -> A.length = T.length /\ ∀ i, i < T.length -> ∃ o', (nth A i).Table = nth T i /\ (nth A i).Cols = colsK (tbl sc (nth T i)) /\ (nth A i).Key = (tbl sc (nth T i)).Key.length /\ (nth A i).Terms = (colsK (tbl sc (nth T i))).map (fun c => iJ P u (o' + c.toNat)) /\ ∀ c ∈ colsK (tbl sc (nth T i)), Has P u (o' + c.toNat)
 | [], A, o, h => by rw [show A = [] from h]; exact ⟨rfl, fun i hi => by cases hi⟩
 | t :: T, A, o, ⟨a, B, e1, e2, e3, e4, e5, e6, e7⟩ => by
   subst e1
   obtain ⟨h1, h2⟩ := tf e7
   refine ⟨by simp [h1], fun i hi => ?_⟩
   cases i with
   | zero => exact ⟨o, e2, e3, e4, e5, e6⟩
   | succ i => exact h2 i (by simpa using hi)
theorem tm_none {P : List Gplace} {u : Tst} (g : TG u) {x : Nat} (h : Has P u x) (hc : cvT P x = none) : 0 <= iJ P u x /\ iJ P u x < u.M.length /\ mget u.M (topM P x : Int) = some (iJ P u x) := by
 obtain ⟨k, hk⟩ := h.2 hc
 have e : iJ P u x = k := by unfold iJ; rw [hc]; simp only; rw [hk]; rfl
 rw [e]
 have := g.mb _ _ hk
 exact ⟨this.1, this.2, hk⟩
theorem jo {P : List Gplace} {u : Tst} {x : Nat} (h : Has P u x) {v : GValue} (hc : cvT P x = some v) : ∃ j : Nat, j < u.C.length /\ iJ P u x = -1 - (j : Int) /\ nth u.C j = v := by
 have hm := h.1 v hc
 rcases eF (fun y => decide (v = y)) u.C 0 (by omega) with ⟨h1, h2⟩ | ⟨k, h1, h2, h3, h4⟩
 · have := h2 v hm; simp at this
 · refine ⟨k, h1, ?_, by simpa using (of_decide_eq_true h3).symm⟩
   unfold iJ; rw [hc]; simp only; rw [h2]; omega
theorem yM (P : Nat -> Bool) {n f : Nat} (hf : f < n) (h1 : P f = true) (h : ∀ k, k < n -> k ≠ f -> P k = false) : (List.range n).countP P = 1 := by
 induction n with
 | zero => omega
 | succ n ih =>
   rw [List.range_succ, List.countP_append, List.countP_singleton]
   by_cases e : f = n
   · subst e
     rw [h1, if_pos rfl]
     have : (List.range f).countP P = 0 := by
      rw [List.countP_eq_zero]
      intro k hk
      have := List.mem_range.1 hk
      rw [h k (by omega) (by omega)]; simp
     omega
   · rw [h n (by omega) (fun q => e q.symm), if_neg (by simp), ih (by omega) fun k hk => h k (by omega)]
theorem yN {P : List Gplace} {f : Nat} (hf : f < P.length) (h : fJ P f = false) : (∃ v, cvT P f = some v) \/ ∃ k, k < P.length /\ k ≠ f /\ topM P k = topM P f := by
 by_cases hx : (nth P (topM P f)).fixed = true
 · exact .inl ⟨_, by unfold cvT pn; rw [if_pos hx]⟩
 · refine .inr (Classical.byContradiction fun hn => ?_)
   have := yM (fun k => decide (topM P k = topM P f)) hf (by simp) fun k hk hne => by
    simp only [decide_eq_false_iff_not]
    exact fun e => hn ⟨k, hk, hne, e⟩
   unfold fJ at h
   rw [this] at h
   simp only [decide_true, Bool.true_and, Bool.not_eq_false'] at h
   exact hx h
theorem kV {sc : GSchema} (hs : no sc = true) {s : Bst} (hi : BdInv sc s) (ho : OffB sc s) (nn : NNs s) :
  TG (atomsS sc s.P ⟨[], []⟩ (s.T.zip s.S)).1 /\ AtF sc s.P (atomsS sc s.P ⟨[], []⟩ (s.T.zip s.S)).1 0 s.T (atomsS sc s.P ⟨[], []⟩ (s.T.zip s.S)).2 := by
 have h := uz (sc := sc) (P := s.P) nn (fun t h0 h1 c hc => ((pL hs h0 h1).mem c).1 hc) (T := s.T) (t := ⟨[], []⟩) (o := 0) ⟨List.nodup_nil, fun v hv => by (cases hv), fun k v hk => by (cases hk), fun k k' v hk => by (cases hk)⟩ (m8 hi) (by rw [ho.p]; omega)
 rw [ho.o]
 exact ⟨h.1, h.2.2⟩
theorem AJ {sc : GSchema} (hs : no sc = true) {ts : List (List LV)} (ht : TbV sc ts) {s : Bst} (hi : BdInv sc s) (ho : OffB sc s) (nn : NNs s) (hself : (s.F.any fun i => fJ s.P i.toNat) = false) :
  gS (kz sc s).Consts ts (List.replicate (kz sc s).Vars.toNat c9, List.replicate (kz sc s).Vars.toNat false) (kz sc s).Atoms = true ↔ ∃ ρ, du sc ts ρ 0 s.T /\ Sat ρ s := by
 obtain ⟨g, af⟩ := kV hs hi ho nn
 unfold kz
 generalize (atomsS sc s.P ⟨[], []⟩ (s.T.zip s.S)).1 = u at g af
 generalize (atomsS sc s.P ⟨[], []⟩ (s.T.zip s.S)).2 = A at af
 show gS u.C ts (List.replicate ((u.M.length : Nat) : Int).toNat c9, List.replicate ((u.M.length : Nat) : Int).toNat false) A = true ↔ _
 rw [Int.toNat_natCast]
 have hT := m8 hi
 have hK : ∀ t ∈ s.T, TabK sc t := fun t h => pL hs (hT t h).1 (hT t h).2
 rw [pM ht hT af]
 have hmem : ∀ x, x ∈ plT sc 0 s.T ↔ x < s.P.length := fun x => by rw [s9 hK, ho.p]; omega
 have hhas : ∀ x, x < s.P.length -> Has s.P u x := fun x hx => yL af x ((hmem x).2 hx)
 have hkey : ∀ ρ, du sc ts ρ 0 s.T -> ((eC u.C (List.replicate u.M.length c9, List.replicate u.M.length false) (i6 sc ρ 0 s.T A)).1 = true ↔ Sat ρ s) := fun ρ hr => by
  have hval : ∀ x, x < s.P.length -> bh (ρ x) = true := fun x hx => m7 ht hT hr x (Nat.zero_le _) (by rw [ho.p] at hx; omega)
  have hlt : ∀ x, x < s.P.length -> iJ s.P u x < u.M.length := fun x hx => by
   cases hc : cvT s.P x with
   | none => exact (tm_none g (hhas x hx) hc).2.1
   | some v => obtain ⟨j, _, e, _⟩ := jo (hhas x hx) hc; omega
  rw [uA hK af, yK (n := u.M.length) (by simp) (by simp) (fun y hy => by
   obtain ⟨x, hx, rfl⟩ := List.mem_map.1 hy
   exact hlt x ((hmem x).1 hx))]
  rw [List.pairwise_map]
  have h1 : (∀ y ∈ (plT sc 0 s.T).map (fun x => (iJ s.P u x, ρ x)), oE u.C (List.replicate u.M.length c9, List.replicate u.M.length false) y = true) ↔ ∀ x, x < s.P.length -> ∀ v, cvT s.P x = some v -> ρ x = v := by
   constructor
   · intro h x hx v hv
     have := h _ (List.mem_map.2 ⟨x, (hmem x).2 hx, rfl⟩)
     obtain ⟨j, j1, j2, j3⟩ := jo (hhas x hx) hv
     unfold oE at this
     rw [if_pos (show iJ s.P u x < 0 by omega)] at this
     have := (fV.1 this).1
     rw [show (-1 - iJ s.P u x).toNat = j by omega, j3] at this
     exact this
   · intro h y hy
     obtain ⟨x, hx, rfl⟩ := List.mem_map.1 hy
     have hx := (hmem x).1 hx
     unfold oE
     cases hc : cvT s.P x with
     | some v =>
       obtain ⟨j, j1, j2, j3⟩ := jo (hhas x hx) hc
       rw [if_pos (show iJ s.P u x < 0 by omega)]
       show fU (ρ x) 1 (nth u.C (-1 - iJ s.P u x).toNat) 0 = true
       rw [show (-1 - iJ s.P u x).toNat = j by omega, j3, fV, h x hx v hc]
       exact ⟨rfl, (nn x hx v hc).2, (nn x hx v hc).1⟩
     | none =>
       obtain ⟨k1, k2, _⟩ := tm_none g (hhas x hx) hc
       rw [if_neg (show ¬ iJ s.P u x < 0 by omega)]
       have : nth (List.replicate u.M.length false) (iJ s.P u x).toNat = false := by rw [nth_get (by simp; omega)]; simp
       show (!(nth (List.replicate u.M.length false) (iJ s.P u x).toNat) || _) = true
       rw [this]; rfl
  have h2 : (plT sc 0 s.T).Pairwise (fun x y => iJ s.P u x = iJ s.P u y -> 0 <= iJ s.P u x -> EqV (ρ y) (ρ x)) ↔ ∀ x, x < s.P.length -> ∀ y, y < s.P.length -> x ≠ y -> cvT s.P x = none -> topM s.P x = topM s.P y -> ρ x = ρ y /\ (ρ x).Kind ≠ 0 := by
   rw [rH (fun x y h e h0 => by
    obtain ⟨a1, a2, a3⟩ := fV.1 (h e.symm (by rw [<- e]; exact h0))
    exact fV.2 ⟨a1.symm, by rw [<- a1]; exact a2, by rw [<- a1]; exact a3⟩) (Bm hK)]
   constructor
   · intro h x hx y hy hne hc e
     have hcy : cvT s.P y = none := by rw [<- mY e]; exact hc
     obtain ⟨a1, a2, a3⟩ := tm_none g (hhas x hx) hc
     obtain ⟨b1, b2, b3⟩ := tm_none g (hhas y hy) hcy
     rw [e, b3] at a3
     obtain ⟨q1, q2, q3⟩ := fV.1 (h x ((hmem x).2 hx) y ((hmem y).2 hy) hne (Option.some.inj a3).symm a1)
     exact ⟨q1.symm, by rw [<- q1]; exact q3⟩
   · intro h x hx y hy hne e h0
     have hx := (hmem x).1 hx
     have hy := (hmem y).1 hy
     have hcx : cvT s.P x = none := by
      cases hc : cvT s.P x with
      | none => rfl
      | some v => obtain ⟨j, _, e2, _⟩ := jo (hhas x hx) hc; omega
     have hcy : cvT s.P y = none := by
      cases hc : cvT s.P y with
      | none => rfl
      | some v => obtain ⟨j, _, e2, _⟩ := jo (hhas y hy) hc; omega
     obtain ⟨a1, a2, a3⟩ := tm_none g (hhas x hx) hcx
     obtain ⟨b1, b2, b3⟩ := tm_none g (hhas y hy) hcy
     have := g.mi _ _ _ a3 (by rw [e]; exact b3)
     obtain ⟨q1, q2⟩ := h x hx y hy hne hcx (by omega)
     exact fV.2 ⟨q1.symm, hval y hy, by rw [<- q1]; exact q2⟩
  rw [h1, h2]
  constructor
  · rintro ⟨c1, c2⟩
    have heq : ∀ x y, x < s.P.length -> y < s.P.length -> x ≠ y -> topM s.P x = topM s.P y -> ρ x = ρ y /\ (ρ x).Kind ≠ 0 := fun x y hx hy hne e => by
     cases hc : cvT s.P x with
     | none => exact c2 x hx y hy hne hc e
     | some v =>
       have hcy : cvT s.P y = some v := by rw [<- mY e]; exact hc
       rw [c1 x hx v hc, c1 y hy v hcy]
       exact ⟨rfl, (nn x hx v hc).1⟩
    refine ⟨heq, c1, fun f hf => ?_⟩
    have hfl := hi.fin f hf
    rw [List.any_eq_false] at hself
    have hal : fJ s.P f.toNat = false := by simpa using hself f hf
    rcases yN (show f.toNat < s.P.length by omega) hal with ⟨v, hv⟩ | ⟨k, k1, k2, k3⟩
    · rw [c1 _ (by omega) v hv]; exact (nn _ (by omega) v hv).1
    · exact (heq f.toNat k (by omega) k1 (fun e => k2 e.symm) k3.symm).2
  · intro q
    exact ⟨q.cv, fun x hx y hy hne _ e => q.eq x y hx hy hne e⟩
 exact ⟨fun ⟨ρ, r1, r2⟩ => ⟨ρ, r1, (hkey ρ r1).1 r2⟩, fun ⟨ρ, r1, r2⟩ => ⟨ρ, r1, (hkey ρ r1).2 r2⟩⟩
theorem tg {T : List Int} {n : Nat} (hn : T.Nodup) (h : ∀ t ∈ T, 0 <= t /\ t < n) : T.length <= n := by
 have h1 : ∀ (n : Nat) (T : List Int), T.Nodup -> (∀ t ∈ T, 0 <= t /\ t < n) -> T.length <= n := by
  intro n
  induction n with
  | zero =>
    intro T _ h
    cases T with
    | nil => exact Nat.le_refl _
    | cons t T => have := h t List.mem_cons_self; omega
  | succ n ih =>
    intro T hn h
    have h2 := ih (T.filter fun t => !decide (t = (n : Int))) (hn.filter _) fun t ht => by
     obtain ⟨q1, q2⟩ := List.mem_filter.1 ht
     have := h t q1
     have q3 : ¬ t = (n : Int) := by simpa using q2
     omega
    have h3 : T.length <= (T.filter fun t => !decide (t = (n : Int))).length + 1 := by
     clear h2 h
     induction T with
     | nil => simp
     | cons t T iT =>
       rw [List.nodup_cons] at hn
       by_cases e : t = (n : Int)
       · rw [List.filter_cons_of_neg (by simp [e])]
         have : (T.filter fun t => !decide (t = (n : Int))) = T := List.filter_eq_self.2 fun x hx => by
          simp only [Bool.not_eq_true', decide_eq_false_iff_not]
          exact fun q => hn.1 (by rw [e, <- q]; exact hx)
         rw [this]; simp
       · rw [List.filter_cons_of_pos (by simp [e])]
         have := iT hn.2
         simp only [List.length_cons]; omega
    omega
 exact h1 n T hn h
theorem wv {sc : GSchema} (hs : no sc = true) {s : Bst} (hi : BdInv sc s) (ho : OffB sc s) (nn : NNs s) : bE (kz sc s) = true := by
 obtain ⟨g, af⟩ := kV hs hi ho nn
 have hT := m8 hi
 have hK : ∀ t ∈ s.T, TabK sc t := fun t h => pL hs (hT t h).1 (hT t h).2
 have h20 : s.T.length <= 20 := by
  have h1 := hs
  unfold no at h1
  simp only [Bool.and_eq_true, decide_eq_true_eq] at h1
  exact Nat.le_trans (tg ho.nd hT) h1.1
 have hlen := kF sc s.P 12 (s.T.zip s.S) ⟨[], []⟩ fun x hx => by
  have hx1 : x.1 ∈ s.T := (List.of_mem_zip hx).1
  have := hK _ hx1
  have h1 := this.len
  have h2 := this.sz
  unfold tbl at h1
  omega
 have hz : (s.T.zip s.S).length = s.T.length := by rw [List.length_zip, hi.ts]; simp
 rw [hz] at hlen
 unfold kz
 generalize (atomsS sc s.P ⟨[], []⟩ (s.T.zip s.S)).1 = u at g af hlen
 generalize (atomsS sc s.P ⟨[], []⟩ (s.T.zip s.S)).2 = A at af hlen
 obtain ⟨l1, l2, l3⟩ := hlen
 have l1 : u.C.length <= 0 + s.T.length * 12 := l1
 have l2 : u.M.length <= 0 + s.T.length * 12 := l2
 obtain ⟨hAl, hA⟩ := tf af
 unfold bE
 simp only [Bool.and_eq_true, decide_eq_true_eq]
 refine ⟨⟨⟨by show 0 <= (u.M.length : Int); omega, by show (u.M.length : Int) <= 240; omega, by show (u.C.length : Nat) <= 240; omega, by show A.length <= 20; omega⟩, fE fun i hic => ?_⟩, fE fun i hia => ?_⟩
 · have hic : i < u.C.length := hic
   show okC ⟨(u.M.length : Int), u.C, A⟩ i = true
   unfold okC
   have hv := g.cv _ (nth_mem hic)
   simp only [Bool.and_eq_true, Bool.not_eq_true', decide_eq_false_iff_not, List.any_eq_false, decide_eq_true_eq]
   refine ⟨⟨hv.2, hv.1⟩, fun x hx e => ?_⟩
   obtain ⟨j, hj, rfl⟩ := List.getElem_of_mem hx
   rw [List.length_take] at hj
   rw [List.getElem_take] at e
   have h2 := List.pairwise_iff_getElem.1 (List.nodup_iff_pairwise_ne.1 g.cn) j i (by omega) hic (by omega)
   have e : nth u.C i = u.C[j] := e
   rw [nth_get hic] at e
   exact h2 e.symm
 · have hia : i < A.length := hia
   have hiT : i < s.T.length := by omega
   obtain ⟨o', a1, a2, a3, a4, a5⟩ := hA i hiT
   have hti := nth_mem hiT
   have hki := hK _ hti
   have hr := hT _ hti
   have hcl : (nth A i).Cols.length = arOf sc (nth s.T i) := by rw [a2, hki.len]
   have htl : (nth A i).Terms.length = (nth A i).Cols.length := by rw [a4, a2, List.length_map]
   have hks := hki.sz
   have hkk := hki.key
   show okA ⟨(u.M.length : Int), u.C, A⟩ i = true
   unfold okA
   show (decide (0 <= (nth A i).Table) && !((A.take i).any fun x => decide (x.Table = (nth A i).Table)) && decide (1 <= (nth A i).Cols.length /\ (nth A i).Cols.length <= 12 /\ (nth A i).Terms.length = (nth A i).Cols.length /\ 1 <= (nth A i).Key /\ (nth A i).Key <= (nth A i).Cols.length) && (List.range (nth A i).Cols.length).all (okK ⟨(u.M.length : Int), u.C, A⟩ (nth A i))) = true
   simp only [Bool.and_eq_true, Bool.not_eq_true', decide_eq_true_eq, List.any_eq_false]
   refine ⟨⟨⟨by rw [a1]; exact hr.1, fun x hx e => ?_⟩, by omega, by omega, htl, by rw [a3]; omega, by rw [a3, hcl]; omega⟩, fE fun k hk => ?_⟩
   · obtain ⟨j, hj, rfl⟩ := List.getElem_of_mem hx
     rw [List.length_take] at hj
     rw [List.getElem_take, <- nth_get (by omega)] at e
     obtain ⟨_, b1, _⟩ := hA j (by omega)
     have h2 := List.pairwise_iff_getElem.1 (List.nodup_iff_pairwise_ne.1 ho.nd) j i (by omega) hiT (by omega)
     rw [b1, a1, nth_get (by omega), nth_get hiT] at e
     exact h2 e
   · have hk2 : k < (colsK (tbl sc (nth s.T i))).length := by rw [<- a2]; exact hk
     have hc := (hki.mem _).1 (nth_mem hk2)
     have hterm : nth (nth A i).Terms k = iJ s.P u (o' + (nth (colsK (tbl sc (nth s.T i))) k).toNat) := by
      rw [a4, nth_get (by simpa using hk2), List.getElem_map, nth_get hk2]
     have hhas := a5 _ (nth_mem hk2)
     unfold okK
     simp only [Bool.and_eq_true, Bool.not_eq_true', decide_eq_true_eq, List.any_eq_false]
     refine ⟨⟨⟨by rw [a2]; exact hc.1, fun x hx e => ?_⟩, ?_⟩, ?_⟩
     · rw [a2] at hx e
       obtain ⟨j, hj, rfl⟩ := List.getElem_of_mem hx
       rw [List.length_take] at hj
       rw [List.getElem_take, nth_get hk2] at e
       exact List.pairwise_iff_getElem.1 (List.nodup_iff_pairwise_ne.1 hki.nd) j k (by omega) hk2 (by omega) e.symm
     · rw [hterm]
       cases hcv : cvT s.P (o' + (nth (colsK (tbl sc (nth s.T i))) k).toNat) with
       | none => exact (tm_none g hhas hcv).2.1
       | some v => obtain ⟨j, _, e, _⟩ := jo hhas hcv; show _ < (u.M.length : Int); omega
     · rw [hterm]
       show -(u.C.length : Int) <= _
       cases hcv : cvT s.P (o' + (nth (colsK (tbl sc (nth s.T i))) k).toNat) with
       | none => have := (tm_none g hhas hcv).1; omega
       | some v => obtain ⟨j, _, e, _⟩ := jo hhas hcv; omega
theorem rI {sc : GSchema} {n : Nat} {p : aQ} (hd : Dep n p) (h : (ofM sc n p).2 = 0) :
  bE (ofM sc n p).1 = true /\ ∀ ts, ts.length = sc.Tables.length -> pz sc ts = true ->
   (gS (ofM sc n p).1.Consts ts (List.replicate (ofM sc n p).1.Vars.toNat c9, List.replicate (ofM sc n p).1.Vars.toNat false) (ofM sc n p).1.Atoms = decide (0 < (evV ts n p).length)) := by
 unfold ofM at h ⊢
 by_cases hv : np sc p = false
 · rw [if_pos hv] at h; cases h
 rw [if_neg hv] at h ⊢
 have hv : np sc p = true := by simpa using hv
 unfold np at hv
 rw [Bool.and_eq_true] at hv
 by_cases hb : (walkS sc n st0 p).1.bad = true \/ ((walkS sc n st0 p).1.F.any fun i => fJ (walkS sc n st0 p).1.P i.toNat) = true
 · rw [if_pos hb] at h; cases h
 rw [if_neg hb]
 have hb1 : (walkS sc n st0 p).1.bad = false := by
  cases e : (walkS sc n st0 p).1.bad with
  | false => rfl
  | true => exact absurd (.inl e) hb
 have hb2 : ((walkS sc n st0 p).1.F.any fun i => fJ (walkS sc n st0 p).1.P i.toNat) = false := by
  cases e : ((walkS sc n st0 p).1.F.any fun i => fJ (walkS sc n st0 p).1.P i.toNat) with
  | false => rfl
  | true => exact absurd (.inr e) hb
 have h0 : BdInv sc st0 := mE sc
 have hi := (kA hv.1 hd hv.2 h0).inv
 have m0 : TbV sc (sc.Tables.map fun _ => []) := ⟨by simp, fun i hi r hr => by
  rw [nth_get hi] at hr; simp at hr, fun i hi r hr => by
  rw [nth_get hi] at hr; simp at hr⟩
 obtain ⟨ho, nn, _⟩ := m9 hv.1 m0 hd hv.2 hb1
 refine ⟨wv hv.1 hi ho nn, fun ts hl ht => ?_⟩
 have htb := Bl hl ht
 obtain ⟨_, _, hw⟩ := m9 hv.1 htb hd hv.2 hb1
 have hc := AJ hv.1 htb hi ho nn hb2
 rw [<- hw] at hc
 rw [Bool.eq_iff_iff]
 refine hc.trans ?_
 rw [decide_eq_true_eq, List.length_pos_iff]
theorem CG {sc : GSchema} {n : Nat} {p : aQ} (hd : Dep n p) (h : (ofM sc n p).2 = 0) : ∀ i, i < (ofM sc n p).1.Atoms.length -> (0 <= (nth (ofM sc n p).1.Atoms i).Table /\ (nth (ofM sc n p).1.Atoms i).Table < sc.Tables.length) /\ ∀ c ∈ (nth (ofM sc n p).1.Atoms i).Cols, 0 <= c /\ c < (nth sc.Tables (nth (ofM sc n p).1.Atoms i).Table.toNat).Attrs.length := by
 unfold ofM at h ⊢
 by_cases hv : np sc p = false
 · rw [if_pos hv] at h; cases h
 rw [if_neg hv] at h ⊢
 have hv : np sc p = true := by simpa using hv
 unfold np at hv
 rw [Bool.and_eq_true] at hv
 by_cases hb : (walkS sc n st0 p).1.bad = true \/ ((walkS sc n st0 p).1.F.any fun i => fJ (walkS sc n st0 p).1.P i.toNat) = true
 · rw [if_pos hb] at h; cases h
 rw [if_neg hb]
 have hb1 : (walkS sc n st0 p).1.bad = false := by
  cases e : (walkS sc n st0 p).1.bad with
  | false => rfl
  | true => exact absurd (.inl e) hb
 have hi := (kA hv.1 hd hv.2 (mE sc)).inv
 have m0 : TbV sc (sc.Tables.map fun _ => []) := ⟨by simp, fun i hi r hr => by
  rw [nth_get hi] at hr; simp at hr, fun i hi r hr => by
  rw [nth_get hi] at hr; simp at hr⟩
 obtain ⟨ho, nn, _⟩ := m9 hv.1 m0 hd hv.2 hb1
 obtain ⟨g, af⟩ := kV hv.1 hi ho nn
 obtain ⟨A, eA⟩ : ∃ A, A = (atomsS sc (walkS sc n st0 p).1.P ⟨[], []⟩ ((walkS sc n st0 p).1.T.zip (walkS sc n st0 p).1.S)).2 := ⟨_, rfl⟩
 have e0 : (kz sc (walkS sc n st0 p).1, (0 : Int)).1.Atoms = A := by rw [eA]; rfl
 rw [e0]
 rw [<- eA] at af
 obtain ⟨hAl, hA⟩ := tf af
 intro i hia
 have hiT : i < (walkS sc n st0 p).1.T.length := by omega
 obtain ⟨o', a1, a2, _⟩ := hA i hiT
 have hr := m8 hi _ (nth_mem hiT)
 have hK := pL hv.1 hr.1 hr.2
 rw [a1, a2]
 exact ⟨hr, fun c hc => (hK.mem c).1 hc⟩
theorem DP {sc : GSchema} {n : Nat} {p : aQ} (h : (ofM sc n p).2 ≠ 0) : (ofM sc n p).1.Atoms = [] /\ ((ofM sc n p).2 = 1 ↔ np sc p = false) := by
 unfold ofM at h ⊢
 by_cases hv : np sc p = false
 · rw [if_pos hv]; exact ⟨rfl, fun _ => hv, fun _ => rfl⟩
 rw [if_neg hv] at h ⊢
 by_cases hb : (walkS sc n st0 p).1.bad = true \/ ((walkS sc n st0 p).1.F.any fun i => fJ (walkS sc n st0 p).1.P i.toNat) = true
 · rw [if_pos hb]; exact ⟨rfl, fun q => (by cases q), fun q => absurd q hv⟩
 · rw [if_neg hb] at h; exact absurd rfl h
structure AtR (q : GConj) (ts : List (List LV)) (a : GAtom) : Prop where
 tab : 0 <= a.Table /\ a.Table < ts.length
 len : a.Terms.length = a.Cols.length
 row : ∀ r ∈ nth ts a.Table.toNat, ∀ j, j < a.Cols.length -> 0 <= nth a.Cols j /\ nth a.Cols j < r.length
 trm : ∀ j, j < a.Cols.length -> nth a.Terms j < q.Vars /\ -(q.Consts.length : Int) <= nth a.Terms j
 col : a.Cols.length <= 12
structure HolR (q : GConj) (ts : List (List LV)) : Prop where
 atom : ∀ i, i < q.Atoms.length -> AtR q ts (nth q.Atoms i)
 con : q.Consts.length <= 240
 var : 0 <= q.Vars /\ q.Vars <= 240
 ats : q.Atoms.length <= 20
theorem DQ {sc : GSchema} {n : Nat} {p : aQ} (hd : Dep n p) (h : (ofM sc n p).2 = 0) {ts : List (List LV)} (hl : ts.length = sc.Tables.length) (ht : pz sc ts = true) : HolR (ofM sc n p).1 ts := by
 have hv := (rI hd h).1
 have hc := CG hd h
 generalize (ofM sc n p).1 = q at hv hc
 have htb := Bl hl ht
 unfold bE at hv
 simp only [Bool.and_eq_true, decide_eq_true_eq] at hv
 obtain ⟨⟨⟨h1, h2, h3, h4⟩, _⟩, h6⟩ := hv
 refine ⟨fun i hi => ?_, h3, ⟨h1, h2⟩, h4⟩
 obtain ⟨c1, c2⟩ := hc i hi
 have h7 := ez.1 h6 i hi
 unfold okA at h7
 simp only [Bool.and_eq_true, decide_eq_true_eq] at h7
 obtain ⟨⟨_, k1, k2, k3, _⟩, h8⟩ := h7
 have hok := ez.1 h8
 refine ⟨⟨c1.1, by omega⟩, k3, fun r hr j hj => ?_, fun j hj => ?_, by omega⟩
 · have hrl := htb.row _ (by omega) r hr
   have := c2 _ (nth_mem hj)
   omega
 · have := hok j hj
   unfold okK at this
   simp only [Bool.and_eq_true, decide_eq_true_eq] at this
   exact ⟨this.1.2, this.2⟩
theorem uB (a : GAtom) (row : LV) : (fv a row).length = a.Cols.length := by simp [fv]
theorem yO {a : GAtom} {row : LV} {i : Nat} (h : i < a.Cols.length) : (fv a row).drop i = (nth a.Terms i, nth row (nth a.Cols i).toNat) :: (fv a row).drop (i + 1) := by
 rw [List.drop_eq_getElem_cons (by rw [uB]; exact h)]
 simp [fv]
theorem AK (a : GAtom) (row : LV) : (fv a row).drop a.Cols.length = [] := by rw [List.drop_eq_nil_iff, uB]; exact Nat.le_refl _
theorem uC {C : List GValue} : ∀ {l : List (Int × GValue)} {st : List GValue × List Bool}, (eC C st l).2.1.length = st.1.length /\ (eC C st l).2.2.length = st.2.length
 | [], st => ⟨rfl, rfl⟩
 | x :: l, st => by
   rw [iK]
   by_cases h : oE C st x = true
   · rw [if_pos h]
     have := uC (C := C) (l := l) (st := tc st x)
     rw [this.1, this.2]
     unfold tc; split <;> simp
   · rw [if_neg h]; exact ⟨rfl, rfl⟩
theorem Bn {C : List GValue} {st : List GValue × List Bool} {x : Int × GValue} {l : List (Int × GValue)} (h : oE C st x = false) : eC C st (x :: l) = (false, st) := by
 rw [iK, if_neg (by rw [h]; simp)]
theorem yP {C : List GValue} {st : List GValue × List Bool} {x : Int × GValue} {l : List (Int × GValue)} (h : oE C st x = true) : eC C st (x :: l) = eC C (tc st x) l := by
 rw [iK, if_pos h]
theorem wx {C : List GValue} {ts : List (List LV)} {st : List GValue × List Bool} {A : List GAtom} {i : Nat} (h : i < A.length) : gS C ts st (A.drop i) = ((nth ts (nth A i).Table.toNat).any fun row => (eC C st (fv (nth A i) row)).1 && gS C ts (eC C st (fv (nth A i) row)).2 (A.drop (i + 1))) := by
 rw [fq h, gS]
open Go
theorem pN {X : Type} {C : Cx} {E : Env} {L S R : List SP} {d : Option Nat} {ty : Nat} {pos : String} {af : Array Edge} {g : Option (Nat × Bool)} {f : Nat} {xs : Array Operand} {ts : Array Nat} {asT : List Ty} {res : X -> Ty}
  (sel : Sel L S R) (sp : Fun C.P f asT res) (ha : ArgsF E S xs.toList asT) (he : ∀ args w, (callFunc f args).run C.P w = .ok (.enter f args) w) :
  Step C ⟨d, .call { callee := .value (.func f), args := xs, argTypes := ts }, ty, pos, af, g⟩ E L res (fun _ => R) := fun a w h m n l se st fr next Q hk => by
 obtain ⟨m1, m2, d12, rfl, s1, s2⟩ := sel.stars.1 st
 have hd := PH.disj_join'.1 se.hm
 have hr := PH.disj_join.1 se.mr
 have hA := ha.args hd.1 s1 fr
 have hc := sp _ (h.join m1) PH.emp (m2.join C.r) w hA ⟨(by first | exact Sep.inv (by assumption) | exact Inv.mono (FM _ _) (Sep.inv (by assumption))), FX _, PH.disj_join'.2 ⟨PH.disj_join.2 ⟨hd.2, d12⟩, PH.disj_join.2 ⟨se.hr, hr.1⟩⟩, F8 _, FW se.hw (fun b o e => se.mw _ _ (FM _ _ _ _ e)), (fun b o e => (by cases e)),
  FW (fun b o e => se.mw _ _ (FO d12 _ _ e)) se.rw⟩ rfl
 refine ⟨fun _ _ => trivial, ?_⟩
 rw [Fw_round, Oper.semAt_eq _ _ _ (by intro c h; cases h)]
 have hrun : (execOp a.eval ⟨d, .call { callee := .value (.func f), args := xs, argTypes := ts }, ty, pos, af, g⟩).run C.P w = .ok (.enter f (xs.toList.map a.eval).toArray) w := by
  simp only [execOp, resolve, show a.eval (.func f) = .func (.func f) #[] #[] from rfl, Deferred.ofValue]
  simp [invoke, he]
  rw [<- Array.toList_map]
 rw [hrun]
 refine ⟨by simp, (callsIn_wide (n := 0 - 1)).2 (hc.mono ?_)⟩
 rintro e w' ⟨x, v, h', m', rfl, l', se', st', hv⟩
 have e1 := PH.disj_join'.1 se'.hr
 have e2 := PH.disj_join'.1 se'.mr
 rw [show m' = PH.emp from st'] at *
 exact hk x v w' h' m2 ⟨fun b o e => l'.1 _ _ (FM _ _ _ _ e), l'.2⟩ ⟨(by first | exact Sep.inv (by assumption) | exact Inv.mono (FM _ _) (Sep.inv (by assumption))), e1.1, e1.2, hr.2, se'.hw, fun b o e => se'.rw _ _ (FM _ _ _ _ e), fun b o e => se'.rw _ _ (FO hr.2 _ _ e)⟩
  ((stars R).mono (fun b o e => l'.1 _ _ (FM _ _ _ _ e)) s2) hv
open Classical in
theorem Bo {q : GConj} {u v : Nat} : ed (fH q) u v ↔ u < q.Atoms.length /\ v < q.Atoms.length /\ RcQ q u v /\ v ≠ u := by
 rw [tK]
 by_cases hu : u < q.Atoms.length
 · rw [lz q hu, jK]
   constructor
   · rintro ⟨hv, h⟩
     unfold wA at h
     rw [nth_get (by simpa using hv)] at h
     simp at h
     exact ⟨hu, hv, h⟩
   · rintro ⟨_, hv, h⟩
     refine ⟨hv, ?_⟩
     unfold wA
     rw [nth_get (by simpa using hv)]
     simpa using h
 · constructor
   · rintro ⟨h1, h2⟩
     exfalso
     have h0 : ∀ (l : List (List Bool)) (v : Nat), l.length <= v -> nth l v = [] := by
      intro l
      induction l with
      | nil => intro v _; cases v <;> rfl
      | cons a l ih => intro v hv; obtain ⟨w, rfl⟩ : ∃ w, v = w + 1 := ⟨v - 1, by simp at hv; omega⟩; exact ih w (by simpa using hv)
     rw [h0 _ u (by rw [eQ]; omega)] at h1
     simp at h1
   · rintro ⟨h, _⟩; exact absurd h hu
theorem th {q : GConj} (h : d8 q = false) : zJ (fH q) := by
 unfold d8 at h
 have h : (ga (fH q) (q.Atoms.length + 1) (List.range q.Atoms.length) (List.replicate q.Atoms.length 0)).1 = true := by simpa using h
 have hn : ∀ v, nth (List.replicate q.Atoms.length (0 : Int)) v = 0 := by
  intro v
  by_cases hv : v < q.Atoms.length
  · rw [nth_get (by simpa using hv)]; simp
  · have : ∀ (n v : Nat), n <= v -> nth (List.replicate n (0 : Int)) v = 0 := by
      intro n
      induction n with
      | zero => intro v _; cases v <;> rfl
      | succ n ih => intro v hv; obtain ⟨w, rfl⟩ : ∃ w, v = w + 1 := ⟨v - 1, by omega⟩; exact ih w (by omega)
    exact this _ _ (by omega)
 have F : Fits (fH q) (List.replicate q.Atoms.length (0 : Int)) [] := ⟨fun v => by rw [hn]; simp, fun pre v post e => by simp at e, fun v => .inl (hn v)⟩
 refine mp (fH q) _ _ _ [] F (fun f hf => by rw [List.length_replicate]; exact List.mem_range.1 hf) (fun v g hv => ?_) ?_ (fun v => by rw [hn]; decide) h
 · rw [List.length_replicate]; exact (Bo.1 hv).2.1
 · unfold zeros
   have := List.count_le_length (a := (0 : Int)) (l := List.replicate q.Atoms.length (0 : Int))
   simp at this ⊢
def dw (n : Int) (ts : List Int) : List Bool := (List.range n.toNat).map fun (v : Nat) => decide ((v : Int) ∈ ts)
theorem io (n : Int) (ts : List Int) : (dw n ts).length = n.toNat := by simp [dw]
theorem db {n : Int} {ts : List Int} {v : Nat} (h : v < n.toNat) : nth (dw n ts) v = decide ((v : Int) ∈ ts) := gC h
def dL (a b : List Bool) : Bool := (List.range a.length).all fun i => !nth a i || nth b i
def orM (out all : List Bool) (v : Nat) : List Bool := (List.range out.length).map fun u => nth out u || (decide (u < v) && nth all u)
theorem na (out all : List Bool) (v : Nat) : (orM out all v).length = out.length := by simp [orM]
theorem nc {out all : List Bool} {v u : Nat} (h : u < out.length) : nth (orM out all v) u = (nth out u || (decide (u < v) && nth all u)) := gC h
def gu (q : GConj) (w : Int) (out : List Bool) (i : Nat) : List Bool := if (i : Int) = w \/ dL (dw q.Vars (keyT q i)) out = false then out else orM out (dw q.Vars (nth q.Atoms i).Terms) q.Vars.toNat
def AL (q : GConj) (w : Int) (out : List Bool) (n : Nat) : List Bool := (List.range n).foldl (gu q w) out
def closedM (q : GConj) (w : Int) (set : List Bool) : Nat -> List Bool
  | 0 => set
  | n + 1 => AL q w (closedM q w set n) q.Atoms.length
theorem AM (q : GConj) (w : Int) (out : List Bool) (n : Nat) : AL q w out (n + 1) = gu q w (AL q w out n) n := by unfold AL; rw [List.range_succ, List.foldl_append]; rfl
theorem oF (q : GConj) (w : Int) (out : List Bool) (i : Nat) : (gu q w out i).length = out.length := by unfold gu; split; rfl; exact na _ _ _
theorem tj (q : GConj) (w : Int) (out : List Bool) : ∀ n, (AL q w out n).length = out.length
  | 0 => rfl
  | n + 1 => by rw [AM, oF, tj q w out n]
theorem kW (q : GConj) (w : Int) (set : List Bool) : ∀ n, (closedM q w set n).length = set.length
  | 0 => rfl
  | n + 1 => by show (AL _ _ _ _).length = _; rw [tj, kW q w set n]
structure AtV (q : GConj) (i : Nat) : Prop where
  tl : (nth q.Atoms i).Terms.length <= 12
  k0 : 0 <= (nth q.Atoms i).Key
  kt : (nth q.Atoms i).Key.toNat <= (nth q.Atoms i).Terms.length
  up : ∀ t ∈ (nth q.Atoms i).Terms, t < q.Vars
theorem E8 {q : GConj} (hq : bE q = true) {i : Nat} (hi : i < q.Atoms.length) : AtV q i := by
  obtain ⟨h1, h2, h3, h4, h5⟩ := vn hq (nth_mem hi)
  refine ⟨by omega, by omega, by omega, fun t ht => ?_⟩
  obtain ⟨k, hk, rfl⟩ := List.getElem_of_mem ht
  rw [<- nth_get hk]
  exact (h5 k (by omega)).2.1
def CU (q : GConj) (plus : List Bool) (g h : Nat) (n : Nat) : Bool := (List.range n).any fun v => (nth (dw q.Vars (nth q.Atoms g).Terms) v && nth (dw q.Vars (nth q.Atoms h).Terms) v) && !nth plus v
def AN (q : GConj) (plus : List Bool) (g : Nat) (r : List Bool) (n : Nat) : List Bool := (List.range n).foldl (fun r h => r.set h (nth r h || CU q plus g h q.Vars.toNat)) r
def lh (q : GConj) (plus : List Bool) (r : List Bool) (g : Nat) : List Bool := if nth r g = true then AN q plus g r q.Atoms.length else r
def rJ (q : GConj) (plus : List Bool) (r : List Bool) (n : Nat) : List Bool := (List.range n).foldl (lh q plus) r
def reachM (q : GConj) (plus : List Bool) (r : List Bool) : Nat -> List Bool
  | 0 => r
  | n + 1 => rJ q plus (reachM q plus r n) q.Atoms.length
theorem pO (q : GConj) (plus : List Bool) (g : Nat) (r : List Bool) (n : Nat) : AN q plus g r (n + 1) = (AN q plus g r n).set n (nth (AN q plus g r n) n || CU q plus g n q.Vars.toNat) := by unfold AN; rw [List.range_succ, List.foldl_append]; rfl
theorem ne (q : GConj) (plus : List Bool) (g : Nat) (r : List Bool) : ∀ n, (AN q plus g r n).length = r.length
  | 0 => rfl
  | n + 1 => by rw [pO, List.length_set, ne q plus g r n]
theorem oG (q : GConj) (plus : List Bool) (r : List Bool) (g : Nat) : (lh q plus r g).length = r.length := by unfold lh; split; exact ne _ _ _ _ _; rfl
theorem CH (q : GConj) (plus : List Bool) (r : List Bool) (n : Nat) : rJ q plus r (n + 1) = lh q plus (rJ q plus r n) n := by unfold rJ; rw [List.range_succ, List.foldl_append]; rfl
theorem Bp (q : GConj) (plus : List Bool) (r : List Bool) : ∀ n, (rJ q plus r n).length = r.length
  | 0 => rfl
  | n + 1 => by rw [CH, oG, Bp q plus r n]
theorem nf (q : GConj) (plus : List Bool) (r : List Bool) : ∀ n, (reachM q plus r n).length = r.length
  | 0 => rfl
  | n + 1 => by show (rJ _ _ _ _).length = _; rw [Bp, nf q plus r n]
theorem uD (q : GConj) (plus : List Bool) (g : Nat) (r : List Bool) (j : Nat) (hj : j < r.length) (h : nth r j = true) : ∀ n, nth (AN q plus g r n) j = true
  | 0 => h
  | n + 1 => by
    rw [pO, Lg.nth_set (by rw [ne]; exact hj)]
    have := uD q plus g r j hj h n
    split
    · rename_i e; subst e; rw [this]; rfl
    · exact this
def iR (q : GConj) (f : Nat) : List Bool := closedM q f (dw q.Vars (keyT q f)) q.Atoms.length
def DR (q : GConj) (f : Nat) : List Bool := (reachM q (iR q f) ((List.replicate q.Atoms.length false).set f true) q.Atoms.length).set f false
def frS (l : List (List Bool)) (gone : List Bool) (f n : Nat) : Bool := (List.range n).all fun g => !nth (nth l g) f || nth gone g
def nO (l : List (List Bool)) (gone : List Bool) (n : Nat) : List Bool := (List.range n).foldl (fun r f => r.set f (nth r f || frS l r f l.length)) gone
def ip (l : List (List Bool)) : Nat -> List Bool
  | 0 => List.replicate l.length false
  | n + 1 => nO l (ip l n) l.length
theorem CI (l : List (List Bool)) (gone : List Bool) (n : Nat) : nO l gone (n + 1) = (nO l gone n).set n (nth (nO l gone n) n || frS l (nO l gone n) n l.length) := by unfold nO; rw [List.range_succ, List.foldl_append]; rfl
theorem Bq (l : List (List Bool)) (gone : List Bool) : ∀ n, (nO l gone n).length = gone.length
  | 0 => rfl
  | n + 1 => by rw [CI, List.length_set, Bq l gone n]
theorem pP (l : List (List Bool)) : ∀ n, (ip l n).length = l.length
  | 0 => by simp [ip]
  | n + 1 => by show (nO _ _ _).length = _; rw [Bq, pP l n]
def ng (l : List (List Bool)) : Bool := (List.range l.length).all (nth (ip l l.length))
def AO (q : GConj) : List (List Bool) := (List.range q.Atoms.length).map (DR q)
theorem uE (q : GConj) (f : Nat) : (DR q f).length = q.Atoms.length := by unfold DR; rw [List.length_set, nf]; simp
def leB (a b : List Bool) : Prop := a.length = b.length /\ ∀ v, v < a.length -> nth a v = true -> nth b v = true
theorem leB.rfl {a : List Bool} : leB a a := ⟨Eq.refl _, fun _ _ h => h⟩
theorem leB.trans {a b c : List Bool} (h : leB a b) (h2 : leB b c) : leB a c := ⟨h.1.trans h2.1, fun v hv e => h2.2 v (h.1 ▸ hv) (h.2 v hv e)⟩
theorem leB.antisymm {a b : List Bool} (h : leB a b) (h2 : leB b a) : a = b := o9 h.1 fun i hi => by
 have x := h.2 i hi
 have y := h2.2 i (h.1 ▸ hi)
 cases e : nth a i with
 | true => exact (x e).symm
 | false =>
   cases e2 : nth b i with
   | true => rw [y e2] at e; cases e
   | false => rfl
theorem leB.diff {a b : List Bool} (h : leB a b) (hne : b ≠ a) : ∃ v, v < a.length /\ nth a v = false /\ nth b v = true := by
 refine Classical.byContradiction fun hc => hne (leB.antisymm ⟨h.1.symm, fun v hv e => ?_⟩ h)
 cases e2 : nth a v with
 | true => rfl
 | false => exact absurd ⟨v, h.1 ▸ hv, e2, e⟩ hc
section
variable {step : List Bool -> Nat -> List Bool}
theorem iq (s : List Bool) (n : Nat) : (List.range (n + 1)).foldl step s = step ((List.range n).foldl step s) n := by rw [List.range_succ, List.foldl_append]; rfl
theorem tk (hinf : ∀ s i, leB s (step s i)) (s : List Bool) (i : Nat) : ∀ n, leB ((List.range i).foldl step s) ((List.range (i + n)).foldl step s)
 | 0 => leB.rfl
 | n + 1 => by rw [<- Nat.add_assoc, iq]; exact (tk hinf s i n).trans (hinf _ _)
theorem gK (hinf : ∀ s i, leB s (step s i)) (s : List Bool) (n : Nat) : leB s ((List.range n).foldl step s) := by
 have := tk hinf s 0 n
 rwa [Nat.zero_add] at this
theorem ka (hinf : ∀ s i, leB s (step s i)) {s : List Bool} : ∀ {n}, (List.range n).foldl step s = s -> ∀ i, i < n -> step s i = s
 | 0, _, i, hi => absurd hi (Nat.not_lt_zero _)
 | n + 1, h, i, hi => by
   rw [iq] at h
   have h1 : (List.range n).foldl step s = s := leB.antisymm (by have := hinf ((List.range n).foldl step s) n; rwa [h] at this) (gK hinf s n)
   rcases Nat.lt_or_ge i n with h2 | h2
   · exact ka hinf h1 i h2
   · obtain rfl : i = n := by omega
     rwa [h1] at h
theorem rK {s : List Bool} : ∀ {n}, (List.range n).foldl step s ≠ s -> ∃ i, i < n /\ step ((List.range i).foldl step s) i ≠ (List.range i).foldl step s
 | 0, h => absurd rfl h
 | n + 1, h => by
   by_cases h1 : (List.range n).foldl step s = s
   · exact ⟨n, Nat.lt_succ_self _, fun e => h (by rw [iq, e, h1])⟩
   · obtain ⟨i, hi, h2⟩ := rK h1
     exact ⟨i, by omega, h2⟩
theorem lG {P : List Bool -> Prop} {N : Nat} (hs : ∀ s i, i < N -> P s -> P (step s i)) {s : List Bool} (h : P s) : ∀ {n}, n <= N -> P ((List.range n).foldl step s)
 | 0, _ => h
 | n + 1, hn => by rw [iq]; exact hs _ _ (by omega) (lG hs h (by omega))
end
theorem pQ {S : Type} {F : S -> S} {c : S -> Nat} {N : Nat} {g : Nat -> S} (hg : ∀ n, g (n + 1) = F (g n)) (hc : ∀ n, c (g n) <= N) (hs : ∀ n, F (g n) ≠ g n -> c (g n) < c (F (g n))) : F (g N) = g N := by
 have key : ∀ n, F (g n) = g n \/ n <= c (g n) := by
  intro n
  induction n with
  | zero => exact .inr (Nat.zero_le _)
  | succ n ih =>
    by_cases e : F (g n) = g n
    · left; rw [hg, e, e]
    · right
      have h1 := hs n e
      rw [hg]
      rcases ih with h2 | h2
      · exact absurd h2 e
      · omega
 refine Classical.byContradiction fun hne => ?_
 have h1 := hs N hne
 have h2 := hc (N + 1)
 rw [hg] at h2
 rcases key N with h | h
 · exact hne h
 · omega
theorem nh {α : Type} {p r : α -> Bool} : ∀ {l : List α}, (∀ x ∈ l, p x = true -> r x = true) -> ∀ {a}, a ∈ l -> p a = false -> r a = true -> l.countP p < l.countP r
 | x :: l, h, a, ha, hp, hr => by
   have hm := List.countP_mono_left (p := p) (q := r) fun y hy => h y (List.mem_cons_of_mem _ hy)
   rw [List.countP_cons, List.countP_cons]
   rcases List.mem_cons.1 ha with e | e
   · subst e; rw [hp, hr]; simp; omega
   · have := nh (fun y hy => h y (List.mem_cons_of_mem _ hy)) e hp hr
     have hx := h x (List.mem_cons_self ..)
     cases e1 : p x with
     | true => rw [hx e1]; simp; omega
     | false => cases r x <;> simp <;> omega
theorem Br {a b : List Bool} {N : Nat} (hl : a.length = N) (h : leB a b) (hne : b ≠ a) : (List.range N).countP (nth a) < (List.range N).countP (nth b) := by
 obtain ⟨v, hv, h1, h2⟩ := h.diff hne
 exact nh (fun x hx e => h.2 x (by rw [hl]; exact List.mem_range.1 hx) e) (List.mem_range.2 (hl ▸ hv)) h1 h2
theorem yQ (p : Nat -> Bool) (N : Nat) : (List.range N).countP p <= N := by have := List.countP_le_length (p := p) (l := List.range N); rwa [List.length_range] at this
theorem eX {n : Int} {ts : List Int} {s : List Bool} : dL (dw n ts) s = true ↔ ∀ v : Nat, v < n.toNat -> (v : Int) ∈ ts -> nth s v = true := by
 unfold dL
 rw [List.all_eq_true, io]
 constructor
 · intro h v hv hm
   have := h v (List.mem_range.2 hv)
   rw [db hv, decide_eq_true hm] at this
   simpa using this
 · intro h v hv
   have hv := List.mem_range.1 hv
   rw [db hv]
   by_cases hm : (v : Int) ∈ ts
   · rw [h v hv hm]; simp
   · simp [hm]
theorem jp {n : Int} {ts : List Int} {a b : List Bool} (hl : a.length = n.toNat) (h : leB a b) (hw : dL (dw n ts) a = true) : dL (dw n ts) b = true :=
 eX.2 fun v hv hm => h.2 v (hl ▸ hv) (eX.1 hw v hv hm)
theorem EJ (out all : List Bool) (v : Nat) : leB out (orM out all v) := ⟨(na _ _ _).symm, fun u hu e => by rw [nc hu, e]; rfl⟩
theorem rL (q : GConj) (w : Int) (s : List Bool) (i : Nat) : leB s (gu q w s i) := by
 unfold gu
 split
 · exact leB.rfl
 · exact EJ _ _ _
theorem AP {q : GConj} {w : Int} {s : List Bool} {i : Nat} (h : (i : Int) = w \/ dL (dw q.Vars (keyT q i)) s = false) : gu q w s i = s := if_pos h
theorem uF {q : GConj} {w : Int} {s : List Bool} {i : Nat} (h : ¬ ((i : Int) = w \/ dL (dw q.Vars (keyT q i)) s = false)) : gu q w s i = orM s (dw q.Vars (nth q.Atoms i).Terms) q.Vars.toNat := if_neg h
theorem EK {n : Int} {ts : List Int} {s : List Bool} (hl : s.length = n.toNat) : dL (dw n ts) (orM s (dw n ts) n.toNat) = true := eX.2 fun v hv hm => by
 rw [nc (hl ▸ hv), db hv]; simp [hv, hm]
theorem CJ {n : Int} {ts : List Int} {s : List Bool} (hl : s.length = n.toNat) (h : dL (dw n ts) s = true) : orM s (dw n ts) n.toNat = s := o9 (na _ _ _) fun v hv => by
 rw [na] at hv
 rw [nc hv]
 have hv2 := hl ▸ hv
 rw [db hv2]
 by_cases hm : (v : Int) ∈ ts
 · rw [eX.1 h v hv2 hm]; rfl
 · simp [hm]
theorem wy (q : GConj) (w : Int) (set : List Bool) (hl : set.length = q.Vars.toNat) : AL q w (closedM q w set q.Atoms.length) q.Atoms.length = closedM q w set q.Atoms.length := by
 refine pQ (F := fun s => AL q w s q.Atoms.length) (c := fun s => (List.range q.Atoms.length).countP fun i => dL (dw q.Vars (nth q.Atoms i).Terms) s) (g := closedM q w set) (fun _ => rfl) (fun _ => yQ _ _) fun n hne => ?_
 have hl2 : (closedM q w set n).length = q.Vars.toNat := by rw [kW, hl]
 generalize closedM q w set n = s at hne hl2
 obtain ⟨i, hi, hm⟩ := rK hne
 have hb : ((List.range i).foldl (gu q w) s).length = q.Vars.toNat := (tj q w s i).trans hl2
 have hle : leB s ((List.range i).foldl (gu q w) s) := gK (rL q w) s i
 have hle2 : leB ((List.range (i + 1)).foldl (gu q w) s) (AL q w s q.Atoms.length) := by
  have := tk (rL q w) s (i + 1) (q.Atoms.length - (i + 1))
  rwa [show i + 1 + (q.Atoms.length - (i + 1)) = q.Atoms.length by omega] at this
 rw [iq] at hle2
 have hc : ¬ ((i : Int) = w \/ dL (dw q.Vars (keyT q i)) ((List.range i).foldl (gu q w) s) = false) := fun hc => hm (AP hc)
 rw [uF hc] at hm hle2
 refine nh (a := i) (fun x _ hx => jp hl2 (gK (rL q w) s q.Atoms.length) hx) (List.mem_range.2 hi) ?_ (jp (by rw [na, hb]) hle2 (EK hb))
 cases e : dL (dw q.Vars (nth q.Atoms i).Terms) s with
 | false => rfl
 | true => exact absurd (CJ hb (jp hl2 hle e)) hm
theorem rM (q : GConj) (w : Int) (set : List Bool) : ∀ n, leB set (closedM q w set n)
 | 0 => leB.rfl
 | n + 1 => (rM q w set n).trans (gK (rL q w) _ _)
theorem lj {q : GConj} (hq : bE q = true) {w : Int} {ts : List Int} : ∀ n, (closedM q w (dw q.Vars ts) n).length = q.Vars.toNat /\ ∀ v : Nat, v < q.Vars.toNat -> nth (closedM q w (dw q.Vars ts) n) v = true -> ClV q w ts v
 | 0 => ⟨io _ _, fun v hv h => ClV.base (by have h : nth (dw q.Vars ts) v = true := h; rw [db hv] at h; exact of_decide_eq_true h)⟩
 | n + 1 => by
   refine lG (P := fun s : List Bool => s.length = q.Vars.toNat /\ ∀ v : Nat, v < q.Vars.toNat -> nth s v = true -> ClV q w ts v) (N := q.Atoms.length) (fun s i hi ⟨hl, h⟩ => ⟨by rw [oF, hl], fun v hv e => ?_⟩) (lj hq n) (Nat.le_refl _)
   unfold gu at e
   split at e
   · exact h v hv e
   · rename_i hc
     rw [nc (hl ▸ hv), Bool.or_eq_true] at e
     rcases e with e | e
     · exact h v hv e
     · rw [db hv] at e
       have hm : (v : Int) ∈ (nth q.Atoms i).Terms := by simpa [hv] using e
       have hk : dL (dw q.Vars (keyT q i)) s = true := by
        cases e2 : dL (dw q.Vars (keyT q i)) s with
        | true => rfl
        | false => exact absurd (.inr e2) hc
       refine ClV.step hi (fun e2 => hc (.inl e2)) (fun t' ht' h0 => ?_) hm
       have hu := (E8 hq hi).up t' (List.mem_of_mem_take ht')
       have := h t'.toNat (by omega) (eX.1 hk t'.toNat (by omega) (by rw [Int.toNat_of_nonneg h0]; exact ht'))
       rwa [Int.toNat_of_nonneg h0] at this
theorem oH {q : GConj} (hq : bE q = true) {w : Int} {ts : List Int} {v : Nat} (hv : v < q.Vars.toNat) : nth (closedM q w (dw q.Vars ts) q.Atoms.length) v = true ↔ ClV q w ts v := by
 refine ⟨(lj hq _).2 v hv, fun h => ?_⟩
 have key : ∀ t : Int, ClV q w ts t -> 0 <= t -> t < q.Vars -> nth (closedM q w (dw q.Vars ts) q.Atoms.length) t.toNat = true := by
  intro t h
  induction h with
  | @base t hm =>
    intro h0 h1
    refine (rM q w (dw q.Vars ts) _).2 _ (by rw [io]; omega) ?_
    rw [db (by omega), Int.toNat_of_nonneg h0]
    exact decide_eq_true hm
  | @step H t hH hne _ hm ih =>
    intro h0 h1
    have hf := ka (rL q w) (wy q w (dw q.Vars ts) (io _ _)) H hH
    have hlen : (closedM q w (dw q.Vars ts) q.Atoms.length).length = q.Vars.toNat := by rw [kW, io]
    have hk : dL (dw q.Vars (keyT q H)) (closedM q w (dw q.Vars ts) q.Atoms.length) = true := eX.2 fun u hu hmu => by
     have := ih u hmu (by omega) (by omega) (by omega)
     simpa using this
    rw [uF (by rintro (e | e); exact hne e; rw [hk] at e; cases e)] at hf
    rw [<- hf, nc (by rw [hlen]; omega), db (by omega), Int.toNat_of_nonneg h0, decide_eq_true hm]
    have : t.toNat < q.Vars.toNat := by omega
    simp [this]
 have := key v h (by omega) (by omega)
 simpa using this
theorem yR (r : List Bool) (h : Nat) (b : Bool) : leB r (r.set h (nth r h || b)) := ⟨(List.length_set ..).symm, fun v hv e => by
 rw [Lg.nth_set hv]
 split
 · rename_i e2; subst e2; rw [e]; rfl
 · exact e⟩
theorem DS (q : GConj) (plus : List Bool) (g : Nat) (r : List Bool) (n : Nat) : leB r (AN q plus g r n) := ⟨(ne ..).symm, fun j hj e => uD q plus g r j hj e n⟩
theorem yS (q : GConj) (plus r : List Bool) (g : Nat) : leB r (lh q plus r g) := by
 unfold lh
 split
 · exact DS _ _ _ _ _
 · exact leB.rfl
theorem yT (q : GConj) (plus r : List Bool) (hl : r.length = q.Atoms.length) : rJ q plus (reachM q plus r q.Atoms.length) q.Atoms.length = reachM q plus r q.Atoms.length := by
 refine pQ (F := fun s => rJ q plus s q.Atoms.length) (c := fun s => (List.range q.Atoms.length).countP (nth s)) (g := reachM q plus r) (fun _ => rfl) (fun _ => yQ _ _) fun n hne => ?_
 exact Br ((nf q plus r n).trans hl) (gK (yS q plus) _ _) hne
theorem uG (q : GConj) (plus r : List Bool) : ∀ n, leB r (reachM q plus r n)
 | 0 => leB.rfl
 | n + 1 => (uG q plus r n).trans (gK (yS q plus) _ _)
theorem uH {q : GConj} (hq : bE q = true) {f g h : Nat} (hg : g < q.Atoms.length) (hh : h < q.Atoms.length) : CU q (iR q f) g h q.Vars.toNat = true ↔ ∃ t, t ∈ (nth q.Atoms g).Terms /\ t ∈ (nth q.Atoms h).Terms /\ 0 <= t /\ ¬ ClV q f (keyT q f) t := by
 unfold CU
 rw [List.any_eq_true]
 constructor
 · rintro ⟨v, hv, e⟩
   have hv := List.mem_range.1 hv
   rw [db hv, db hv, Bool.and_eq_true, Bool.and_eq_true, decide_eq_true_eq, decide_eq_true_eq] at e
   refine ⟨v, e.1.1, e.1.2, by omega, fun hc => ?_⟩
   have h2 := (oH hq hv).2 hc
   have h1 := e.2
   unfold iR at h1
   rw [h2] at h1; cases h1
 · rintro ⟨t, h1, h2, h0, hc⟩
   have hu := (E8 hq hg).up t h1
   refine ⟨t.toNat, List.mem_range.2 (by omega), ?_⟩
   rw [db (by omega), db (by omega), Int.toNat_of_nonneg h0, decide_eq_true h1, decide_eq_true h2]
   have : nth (iR q f) t.toNat = false := by
    cases e : nth (iR q f) t.toNat with
    | false => rfl
    | true =>
      have := (oH hq (w := f) (ts := keyT q f) (v := t.toNat) (by omega)).1 e
      rw [Int.toNat_of_nonneg h0] at this
      exact absurd this hc
   rw [this]; rfl
theorem gL {q : GConj} (hq : bE q = true) {f : Nat} (hf : f < q.Atoms.length) : ∀ n, (reachM q (iR q f) ((List.replicate q.Atoms.length false).set f true) n).length = q.Atoms.length /\ ∀ h, h < q.Atoms.length -> nth (reachM q (iR q f) ((List.replicate q.Atoms.length false).set f true) n) h = true -> RcQ q f h
 | 0 => ⟨by simp [reachM], fun h hh e => by
     have e : nth ((List.replicate q.Atoms.length false).set f true) h = true := e
     rw [Lg.nth_set (by simpa using hh)] at e
     split at e
     · rename_i e2; subst e2; exact RcQ.refl
     · rw [nth_get (by simpa using hh)] at e; simp at e⟩
 | n + 1 => by
   refine lG (P := fun r : List Bool => r.length = q.Atoms.length /\ ∀ h, h < q.Atoms.length -> nth r h = true -> RcQ q f h) (N := q.Atoms.length) (fun r g hg ⟨hl, h⟩ => ⟨by rw [oG, hl], fun k hk e => ?_⟩) (gL hq hf n) (Nat.le_refl _)
   unfold lh at e
   split at e
   · rename_i hr
     have hrg := h g hg hr
     have key : ∀ m, m <= q.Atoms.length -> ∀ k, k < q.Atoms.length -> nth (AN q (iR q f) g r m) k = true -> RcQ q f k := by
      intro m
      induction m with
      | zero => intro _ k hk e; exact h k hk e
      | succ m ih =>
        intro hm k hk e
        rw [pO, Lg.nth_set (by rw [ne, hl]; exact hk)] at e
        split at e
        · rename_i e2; subst e2
          rw [Bool.or_eq_true] at e
          rcases e with e | e
          · exact ih (by omega) m hk e
          · obtain ⟨t, h1, h2, h0, hc⟩ := (uH hq hg hk).1 e
            exact RcQ.step hrg hg hk h1 h2 h0 hc
        · exact ih (by omega) k hk e
     exact key _ (Nat.le_refl _) k hk e
   · exact h k hk e
theorem reach_iff {q : GConj} (hq : bE q = true) {f h : Nat} (hf : f < q.Atoms.length) (hh : h < q.Atoms.length) : nth (reachM q (iR q f) ((List.replicate q.Atoms.length false).set f true) q.Atoms.length) h = true ↔ RcQ q f h := by
 refine ⟨(gL hq hf _).2 h hh, fun r => ?_⟩
 have hlen := (gL hq hf q.Atoms.length).1
 have hfix := yT q (iR q f) ((List.replicate q.Atoms.length false).set f true) (by simp)
 have hle := uG q (iR q f) ((List.replicate q.Atoms.length false).set f true) q.Atoms.length
 generalize reachM q (iR q f) ((List.replicate q.Atoms.length false).set f true) q.Atoms.length = s at hlen hfix hle ⊢
 clear hh
 induction r with
 | refl => exact hle.2 f (by simpa using hf) (by rw [Lg.nth_set (by simpa using hf), if_pos rfl])
 | @step H K t r hH hK h1 h2 h0 hc ih =>
   have e := ka (yS q (iR q f)) hfix H hH
   unfold lh at e
   rw [if_pos ih] at e
   have e2 := ka (step := fun r h => r.set h (nth r h || CU q (iR q f) H h q.Vars.toNat)) (fun s i => yR s i _) e K hK
   have e3 : nth (s.set K (nth s K || CU q (iR q f) H K q.Vars.toNat)) K = nth s K := by rw [e2]
   rw [Lg.nth_set (by rw [hlen]; exact hK), if_pos rfl, (uH hq hH hK).2 ⟨t, h1, h2, h0, hc⟩, Bool.or_true] at e3
   exact e3.symm
open Classical in
theorem CK {q : GConj} (hq : bE q = true) {f : Nat} (hf : f < q.Atoms.length) : DR q f = wA q f := o9 (by rw [uE, jK]) fun h hh => by
 rw [uE] at hh
 have hlen := (gL hq hf q.Atoms.length).1
 have e1 : nth (wA q f) h = decide (RcQ q f h /\ h ≠ f) := gC hh
 rw [e1]
 unfold DR
 rw [Lg.nth_set (by rw [hlen]; exact hh)]
 split
 · rename_i e; subst e; simp
 · rename_i e
   have e2 : h ≠ f := fun x => e x.symm
   cases e3 : nth (reachM q (iR q f) ((List.replicate q.Atoms.length false).set f true) q.Atoms.length) h with
   | true => symm; rw [decide_eq_true_eq]; exact ⟨(reach_iff hq hf hh).1 e3, e2⟩
   | false =>
     symm; rw [decide_eq_false_iff_not]
     intro hc
     rw [(reach_iff hq hf hh).2 hc.1] at e3; cases e3
theorem uI {q : GConj} (hq : bE q = true) : AO q = fH q := List.map_congr_left fun f hf => CK hq (List.mem_range.1 hf)
theorem AQ (l : List (List Bool)) : nO l (ip l l.length) l.length = ip l l.length := by
 refine pQ (F := fun s => nO l s l.length) (c := fun s => (List.range l.length).countP (nth s)) (g := ip l) (fun _ => rfl) (fun _ => yQ _ _) fun n hne => ?_
 exact Br (pP l n) (gK (fun s i => yR s i _) _ _) hne
theorem Bt {l : List (List Bool)} {gone : List Bool} {f n : Nat} : frS l gone f n = true ↔ ∀ g, g < n -> nth (nth l g) f = true -> nth gone g = true := by
 unfold frS
 rw [List.all_eq_true]
 constructor
 · intro h g hg e
   have := h g (List.mem_range.2 hg)
   rw [e] at this; simpa using this
 · intro h g hg
   cases e : nth (nth l g) f with
   | true => rw [h g (List.mem_range.1 hg) e]; rfl
   | false => rfl
theorem yU {l : List (List Bool)} {f : Nat} (hf : f < l.length) (h : ∀ g, g < l.length -> nth (nth l g) f = true -> nth (ip l l.length) g = true) : nth (ip l l.length) f = true := by
 have e := ka (step := fun r f => r.set f (nth r f || frS l r f l.length)) (fun s i => yR s i _) (AQ l) f hf
 have e2 : nth ((ip l l.length).set f (nth (ip l l.length) f || frS l (ip l l.length) f l.length)) f = nth (ip l l.length) f := by rw [e]
 rw [Lg.nth_set (by rw [pP]; exact hf), if_pos rfl, Bt.2 h, Bool.or_true] at e2
 exact e2.symm
theorem rN {l : List (List Bool)} (hl : ∀ f, f < l.length -> (nth l f).length = l.length) {fin : List Nat} (T : Topo l fin) (hall : ∀ f, f < l.length -> f ∈ fin) : ∀ (n : Nat) (pre : List Nat) (v : Nat) (post : List Nat), fin = pre ++ v :: post -> v ∉ pre -> fin.length - pre.length <= n -> v < l.length -> nth (ip l l.length) v = true
 | 0, pre, v, post, e, _, hn, _ => by rw [e, List.length_append, List.length_cons] at hn; omega
 | n + 1, pre, v, post, e, hp, hn, hv => by
   refine yU hv fun g hg hed => ?_
   obtain ⟨pre2, post2, e2, hp2⟩ := List.eq_append_cons_of_mem (hall g hg)
   have hin := T pre2 g post2 e2 v (tK.2 ⟨by rw [hl g hg]; exact hv, hed⟩)
   have hlt : pre.length < pre2.length := by
    refine Classical.byContradiction fun hc => hp ?_
    have p1 : pre2 <+: fin := ⟨g :: post2, e2.symm⟩
    have p2 : pre <+: fin := ⟨v :: post, e.symm⟩
    exact (List.prefix_of_prefix_length_le p1 p2 (by omega)).subset hin
   have hpl : pre2.length <= fin.length := by rw [e2]; simp
   exact rN hl T hall n pre2 g post2 e2 hp2 (by omega) hg
theorem AR {l : List (List Bool)} {a w : Nat} (h : Rch l a w) : a = w \/ ∃ x, Rch l a x /\ ed l x w := by
 induction h with
 | refl => exact .inl rfl
 | step h1 h2 ih =>
   rcases ih with e | ⟨x, h3, h4⟩
   · subst e; exact .inr ⟨_, Rch.refl _, h1⟩
   · exact .inr ⟨x, Rch.step h1 h3, h4⟩
theorem oI {l : List (List Bool)} (hl : ∀ f, f < l.length -> (nth l f).length = l.length) (hx : ∀ f, l.length <= f -> (nth l f).length = 0) {u v : Nat} (h1 : ed l u v) (h2 : Rch l v u) : ∀ n, (ip l n).length = l.length /\ ∀ w, w < l.length -> Rch l v w -> Rch l w u -> nth (ip l n) w = false
 | 0 => ⟨by simp [ip], fun w hw _ _ => by show nth (List.replicate l.length false) w = false; rw [nth_get (by simpa using hw)]; simp⟩
 | n + 1 => by
   refine lG (P := fun s : List Bool => s.length = l.length /\ ∀ w, w < l.length -> Rch l v w -> Rch l w u -> nth s w = false) (N := l.length) (fun s f hf ⟨hs, h⟩ => ⟨by rw [List.length_set, hs], fun w hw c1 c2 => ?_⟩) (oI hl hx h1 h2 n) (Nat.le_refl _)
   rw [Lg.nth_set (by rw [hs]; exact hw)]
   split
   · rename_i e; subst e
     rw [h f hw c1 c2]
     show frS l s f l.length = false
     obtain ⟨x, hxw, hvx, hxu⟩ : ∃ x, ed l x f /\ Rch l v x /\ Rch l x u := by
      rcases AR c1 with e | ⟨x, h3, h4⟩
      · subst e; exact ⟨u, h1, h2, Rch.refl _⟩
      · exact ⟨x, h4, h3, Rch.step h4 c2⟩
     have hi := tK.1 hxw
     have hxl : x < l.length := by
      refine Classical.byContradiction fun hc => ?_
      have := hx x (by omega)
      omega
     cases e : frS l s f l.length with
     | false => rfl
     | true => exact absurd (Bt.1 e x hxl hi.2) (by rw [h x hxl hvx hxu]; simp)
   · exact h w hw c1 c2
theorem AS (q : GConj) : ng (fH q) = d8 q := by
 have hl : ∀ f, f < (fH q).length -> (nth (fH q) f).length = (fH q).length := fun f hf => by rw [eQ] at hf; rw [lz q hf, jK, eQ]
 have hx : ∀ f, (fH q).length <= f -> (nth (fH q) f).length = 0 := fun f hf => by
  have : nth (fH q) f = default := tL hf
  rw [this]; rfl
 cases h : d8 q with
 | true =>
   obtain ⟨fin, T, hall⟩ := vq h
   unfold ng
   rw [List.all_eq_true]
   intro f hf
   have hf := List.mem_range.1 hf
   obtain ⟨pre, post, e, hp⟩ := List.eq_append_cons_of_mem (hall f (by rwa [eQ] at hf))
   exact rN hl T (fun f hf => hall f (by rwa [eQ] at hf)) fin.length pre f post e hp (by omega) hf
 | false =>
   obtain ⟨u, v, h1, h2⟩ := th h
   have hv : v < (fH q).length := by rw [eQ]; exact (Bo.1 h1).2.1
   unfold ng
   rw [List.all_eq_false]
   exact ⟨v, List.mem_range.2 hv, by rw [(oI hl hx h1 h2 _).2 v hv (Rch.refl _) h2]; simp⟩
theorem yV {q : GConj} (hq : bE q = true) : ng (AO q) = d8 q := by rw [uI hq, AS]
def atE (t k : Int) (ts : List Int) : GAtom := ⟨t, (List.range ts.length).map fun (i : Nat) => (i : Int), ts, k⟩
def boE (a b : GAtom) : GConj := ⟨3, [], [a, b]⟩
theorem pR {q : GConj} {l : List (List Bool)} (hq : bE q = true) (h : AO q = l) : fH q = l := by rw [<- uI hq, h]
theorem kb {q : GConj} {b : Bool} (hq : bE q = true) (h : ng (AO q) = b) : d8 q = b := by rw [<- yV hq, h]
abbrev aq1 : GConj := boE (atE 0 1 [0, 1]) (atE 1 1 [1, 2])
abbrev aq2 : GConj := boE (atE 0 1 [0, 1]) (atE 1 1 [1, 0])
abbrev aq3 : GConj := boE (atE 0 1 [0, 1]) (atE 1 1 [2, 1])
abbrev aq4 : GConj := boE (atE 0 2 [0, 1]) (atE 1 1 [0, 1])
theorem yW : bE aq1 = true /\ fH aq1 = [[false, true], [false, false]] /\ d8 aq1 = true := by
 have h : bE aq1 = true := by decide +kernel
 exact ⟨h, pR h (by decide +kernel), kb h (by decide +kernel)⟩
theorem yX : bE aq2 = true /\ fH aq2 = [[false, true], [true, false]] /\ d8 aq2 = false := by
 have h : bE aq2 = true := by decide +kernel
 exact ⟨h, pR h (by decide +kernel), kb h (by decide +kernel)⟩
theorem yY : bE aq3 = true /\ fH aq3 = [[false, true], [true, false]] /\ d8 aq3 = false := by
 have h : bE aq3 = true := by decide +kernel
 exact ⟨h, pR h (by decide +kernel), kb h (by decide +kernel)⟩
theorem yZ : bE aq4 = true /\ fH aq4 = [[false, false], [true, false]] /\ d8 aq4 = true := by
 have h : bE aq4 = true := by decide +kernel
 exact ⟨h, pR h (by decide +kernel), kb h (by decide +kernel)⟩
end Lg
