/- The walk and the plain law of AttackMeans. -/
import Derived.Test.YtecikhenhjphfaaGreatDoorH
set_option linter.unusedVariables false
set_option linter.unusedSimpArgs false
set_option linter.unusedSectionVars false
set_option maxHeartbeats 16000000
namespace Lg
open Go Go.Proofs Go.Proofs.Tryz
def DZ (q : GConj) (ts : List (List LV)) (k : Nat) : Prop := ∀ (j0 : Nat) (vs : List GValue) (ss : List Bool), j0 <= q.Atoms.length -> q.Atoms.length - j0 <= k -> (vs.length : Int) = q.Vars -> ss.length = vs.length ->
  Fun1 prog 19 [bK.ty q, tSl (rSl (rSl rValue)) ts, tV (.int .i64 j0), tSl rValue vs, tSl bN ss] (tV (.bool (gS q.Consts ts (vs, ss) (q.Atoms.drop j0))))
theorem Step.frzU {X : Type} {C : Cx} {o : Oper} {E : Env} {L R : List SP} {A : X -> Ty} {S : X -> SP} {B : Ty} (st : Step C o E L A (fun x => S x :: R)) (f : ∀ x, Frz [S x] (A x) B) : Step C o E L (fun _ : Unit => B) (fun _ => R) := fun a w h m n l se s0 fr next Q hk =>
  st a w h m n l se s0 fr next Q fun x v w' h' m' l' se' s' hv => by
    obtain ⟨m1, m2, d12, rfl, s1, s2⟩ := s'
    have hd := PH.disj_join'.1 se'.hm
    refine hk () v w' (h'.join m1) m2 (HL.trans l' ⟨FM _ _, Same.refl _⟩) (se'.freeze d12) ((stars R).mono (FM _ _) s2) (f x h' m1 v hd.1 ⟨m1, PH.emp, FX _, (FY _).symm, s1, _root_.rfl⟩ hv)
theorem ni (q : GConj) (hc : q.Consts.length <= 240) (a : GAtom) (row : LV) (vs : List GValue) (ss : List Bool) (htl : a.Terms.length = a.Cols.length) (hcol : ∀ j, j < a.Cols.length -> 0 <= nth a.Cols j /\ nth a.Cols j < row.length) (htr : ∀ j, j < a.Cols.length -> nth a.Terms j < vs.length /\ -(q.Consts.length : Int) <= nth a.Terms j) (hcl : a.Cols.length <= 12) (hls : ss.length = vs.length) (v3 v4 : Value) : Spec (X := Unit) prog 53 [bK.ty q, cg.ty a, tSl rValue row, rV.ty v3, rV.ty v4] ([own 4 bN v4 ss, own 62 rValue v3 vs]) (fun _ => tV (.bool (eC q.Consts (vs, ss) (fv a row)).1)) (fun _ => [own 4 bN v4 (eC q.Consts (vs, ss) (fv a row)).2.2, own 62 rValue v3 (eC q.Consts (vs, ss) (fv a row)).2.1]) := by
 refine Spec.enter func53 rfl rfl fun h0 w0 fr0 => ?_
 refine Jr (Zs (aF (R := bK) Sr) (Zs (aF (R := cg) Sr) (Za (ab (ap ?_)))))
 refine Jr (Za (ab (au ?_)))
 refine aK (σ := Nat × List GValue × List Bool) (fun ⟨i, xs, bs⟩ => i <= a.Cols.length /\ xs.length = vs.length /\ bs.length = vs.length /\ (eC q.Consts (vs, ss) (fv a row)) = eC q.Consts (xs, bs) ((fv a row).drop i)) (fun ⟨i, xs, bs⟩ => upd (upd (upd (upd (upd (upd co 2 (tSl rValue row)) 3 (rV.ty v3)) 4 (rV.ty v4)) 5 (bx bK q)) 6 (bx cg a)) 11 (tV (.int .i64 i))) (fun ⟨i, xs, bs⟩ => [own 4 bN v4 bs, own 62 rValue v3 xs]) (fun ⟨i, xs, bs⟩ => a.Cols.length - i) (0, vs, ss) ⟨Nat.zero_le _, rfl, hls, by rw [List.drop_zero]⟩ (zU) (LSub.rfl) ?_
 rintro ⟨i, xs, bs⟩ ⟨hi, hx, hb, hag⟩
 refine ap (Jr (Zm (Zs (aa fY Sr rfl) (Zl dn Sr (Zs (ag underlying27 Sr) ?_)))))
 refine Zs (az Sr Sr) (ab ?_)
 refine am Sr (fun h18 => ?_) (fun h18 => ?_)
 ·
  try simp only [NF] at h18
  have hlt : i < a.Cols.length := by omega
  obtain ⟨hc1, hc2⟩ := hcol i hlt
  obtain ⟨ht1, ht2⟩ := htr i hlt
  have hdr := yO (row := row) hlt
  refine av (ap (au (ap (Jr (Zs (aa fY Sr rfl) ?_)))))
  refine Zl dn Sr (Zm ?_)
  refine Zs (ae (i := i) underlying27 ty3 Sr Sr (by rfl) (gb (by exact hlt))) ?_
  refine Zl ty3 Sr (Zm (Zs (ag underlying45 Sr) (Zs (bA Sr Sr) (ab ?_))))
  refine am Sr (fun h28 => ?_) (fun h28 => ?_)
  ·
   try simp only [NF] at h28
   exfalso; omega
  try simp only [NF] at h28
  refine av (Jr (Zm (Zs (aa fY Sr rfl) (Zl dn Sr (Zm ?_)))))
  refine Zs (ae (i := i) underlying27 ty3 Sr Sr (by rfl) (gb (by exact hlt))) ?_
  refine Zl ty3 Sr ?_
  refine Zs (ae (i := (nth a.Cols i).toNat) underlying45 bZ Sr Sr (by show nth a.Cols i = _; omega) (gb zG)) ?_
  refine Zl bZ Sr ?_
  refine Zx (aE (fun w => zeroValue62 w) wz) fun b12 => ?_
  refine Ju (ai bZ Sr Sr zS) fun _ => ?_
  refine aN (t := 12) (Sel.take (FN _)) Frz.box ?_
  refine ab (Jr (Zs (aa fY Sr rfl) (Zl dn Sr (Zm ?_))))
  refine Zs (ae (i := i) underlying27 ty3 Sr Sr (by rfl) (gb (by show i < a.Terms.length; omega))) ?_
  refine Zl ty3 Sr (Za (ab (Jr (Zm (Zs (az Sr Sr) ?_)))))
  refine ab ?_
  refine am Sr (fun h43 => ?_) (fun h43 => ?_)
  ·
   try simp only [NF] at h43
   have h43 : (nth a.Terms i) < 0 := h43
   refine ap ?_
   refine bQ [⟨0, [12], true⟩, ⟨1, [5], true⟩, ⟨2, [45], true⟩, ⟨3, [13], true⟩, ⟨4, [47], true⟩, ⟨5, [46, 48], true⟩, ⟨6, [49], true⟩, ⟨7, [44, 50], true⟩, ⟨8, [51], true⟩] rfl (by kernel_rfl) ?_
   refine Zf rfl (ad bZ Sr) (Zf rfl (aa ft Sr rfl) (Zf rfl (ad dt Sr) (Zv rfl ?_)))
   refine Zf rfl (cK Sr Sr (by show iu (-1 - (nth a.Terms i)); unfold iu; omega)) ?_
   refine Zf rfl (ae (i := (-1 - (nth a.Terms i)).toNat) underlying45 bZ Sr Sr (by show -1 - nth a.Terms i = _; omega) (gb (by show (-1 - nth a.Terms i).toNat < q.Consts.length; omega))) ?_
   refine Zf rfl (ad bZ Sr) (Zf rfl (aj (mJ (nth row (nth a.Cols i).toNat) (nth q.Consts (-1 - (nth a.Terms i)).toNat) 1 0) ⟨Sr, Sr, Sr, Sr, trivial⟩ call106) (Zf rfl (bc Sr) (bP ?_)))
   refine am Sr (fun h52 => ?_) (fun h52 => ?_)
   ·
    try simp only [NF] at h52
    refine Jr (Za (ab (aC ?_)))
    have e : (eC q.Consts (vs, ss) (fv a row)) = (false, (xs, bs)) := by rw [hag, hdr]; exact Bn (by unfold oE; rw [if_pos h43]; simpa using h52)
    rw [e]
    exact aI (t := 10) rfl () Sr
   try simp only [NF] at h52
   refine av (ah (Zm (Zs (ax Sr Sr z6) (Za (ab ?_)))))
   refine ay (σ := Nat × List GValue × List Bool) (s := (i, xs, bs)) (i + 1, xs, bs) zO ?_ (zU) (LSub.rfl)
   refine ⟨by omega, hx, hb, ?_⟩
   show (eC q.Consts (vs, ss) (fv a row)) = eC q.Consts (xs, bs) ((fv a row).drop (i + 1))
   rw [hag, hdr, yP (by unfold oE; rw [if_pos h43]; simpa using h52)]
   unfold tc; rw [if_pos h43]
  try simp only [NF] at h43
  have h43 : 0 <= (nth a.Terms i) := by omega
  refine ap ?_
  refine km [⟨0, [4], true⟩, ⟨1, [13], true⟩, ⟨2, [53, 54], true⟩, ⟨3, [55], true⟩, ⟨4, [56], true⟩, ⟨5, [12, 57], true⟩, ⟨6, [3, 57], true⟩, ⟨7, [13, 57], true⟩, ⟨8, [57, 59, 60], true⟩, ⟨9, [57, 61], true⟩, ⟨10, [57, 58, 62], true⟩, ⟨11, [57, 63], true⟩, ⟨12, [57, 64], true⟩] rfl (by kernel_rfl) rfl ?_
  refine bf rfl rfl rfl rfl (ar Sr) ?_
  refine bf rfl rfl rfl rfl (ar Sr) ?_
  refine bf rfl rfl rfl rfl (aG (i := (nth a.Terms i).toNat) underlying56 ty4 Sr zS Sr (by show nth a.Terms i = _; omega) zG) ?_
  refine bf rfl rfl rfl rfl (bH ty4 Sr zS (gb zG)) ?_
  refine bf rfl rfl rfl rfl (ar Sr) ?_
  refine bw rfl rfl rfl rfl (FS Sr) rfl rfl (fun hw => ad bZ Sr) ?_
  refine bw rfl rfl rfl rfl (FS Sr) rfl rfl (fun hw => ar Sr) ?_
  refine bw rfl rfl rfl rfl (FS Sr) rfl rfl (fun hw => ar Sr) ?_
  refine bw rfl rfl rfl rfl (FS Sr) rfl rfl (fun hw => aG (i := (nth a.Terms i).toNat) underlying45 bZ (Sub.w hw) zS (Sub.w hw) (by have hwq := hw; (try simp only [beqB_t, beqB_f, NF] at hwq); show nth a.Terms i = _; omega) (by have hwq := hw; (try simp only [beqB_t, beqB_f, NF] at hwq); omega)) ?_
  refine bw rfl rfl rfl rfl (FS Sr) rfl rfl (fun hw => bH bZ (Sub.w hw) zS (gb (by have hwq := hw; (try simp only [beqB_t, beqB_f, NF] at hwq); omega))) ?_
  refine bw rfl rfl rfl rfl (FS Sr) rfl rfl (fun hw => aj (mJ (nth row (nth a.Cols i).toNat) (nth xs (nth a.Terms i).toNat) 1 0) ⟨(Sub.w hw), Sr, (Sub.w hw), Sr, trivial⟩ call106) ?_
  refine bw rfl rfl rfl rfl (FS Sr) rfl rfl (fun hw => bc (Sub.w hw)) ?_
  refine bf rfl rfl rfl rfl (aw Sr Sr) ?_
  refine nQ ?_
  refine am Sr (fun h65 => ?_) (fun h65 => ?_)
  ·
   try simp only [NF] at h65
   refine Jr (Za (ab (aC ?_)))
   have e : (eC q.Consts (vs, ss) (fv a row)) = (false, (xs, bs)) := by rw [hag, hdr]; exact Bn (by unfold oE; rw [if_neg (show ¬ (nth a.Terms i) < 0 by omega)]; simp [h65.1, h65.2])
   rw [e]
   exact aI (t := 10) rfl () Sr
  try simp only [NF] at h65
  refine ah (Zm (Zm (Zm (Zm (Zl bZ Sr ?_)))))
  refine Zs (aG (i := (nth a.Terms i).toNat) underlying45 bZ Sr zS Sr (by show nth a.Terms i = _; omega) zG) ?_
  refine Ju (bL bZ Sr Sr zS zG) fun _ => ?_
  refine Zs (aG (i := (nth a.Terms i).toNat) underlying56 ty4 Sr zS Sr (by show nth a.Terms i = _; omega) zG) ?_
  refine Ju (bL ty4 Sr Sr zS zG) fun _ => ?_
  refine ab (ah (Zm (Zs (ax Sr Sr z6) (Za (ab ?_)))))
  refine ay (σ := Nat × List GValue × List Bool) (s := (i, xs, bs)) (i + 1, xs.set (nth a.Terms i).toNat (nth row (nth a.Cols i).toNat), bs.set (nth a.Terms i).toNat true) zO ?_ (zU) (zL)
  refine ⟨by omega, by simp [hx], by simp [hb], ?_⟩
  show (eC q.Consts (vs, ss) (fv a row)) = eC q.Consts (xs.set (nth a.Terms i).toNat (nth row (nth a.Cols i).toNat), bs.set (nth a.Terms i).toNat true) ((fv a row).drop (i + 1))
  rw [hag, hdr, yP (by unfold oE; rw [if_neg (show ¬ (nth a.Terms i) < 0 by omega)]; rcases h65 with h65 | h65 <;> simp [h65])]
  unfold tc; rw [if_neg (show ¬ (nth a.Terms i) < 0 by omega)]
 try simp only [NF] at h18
 obtain rfl : i = a.Cols.length := by omega
 refine aV (Jr (Za (ab (aC ?_))))
 have e : (eC q.Consts (vs, ss) (fv a row)) = (true, (xs, bs)) := by rw [hag, AK]; rfl
 rw [e]
 exact aI (t := 10) rfl () Sr
theorem nj (q : GConj) (ts : List (List LV)) (H : HolR q ts) (hts : ∀ t ∈ ts, t.length <= 4000) (k : Nat) (j0 : Nat) (vs : List GValue) (ss : List Bool) (hj : j0 <= q.Atoms.length) (hk : q.Atoms.length - j0 <= k) (hv : (vs.length : Int) = q.Vars) (hs : ss.length = vs.length) (ih : ∀ k', k = k' + 1 -> DZ q ts k') : Fun1 prog 19 [bK.ty q, tSl (rSl (rSl rValue)) ts, tV (.int .i64 j0), tSl rValue vs, tSl bN ss] (tV (.bool (gS q.Consts ts (vs, ss) (q.Atoms.drop j0)))) := by
 refine Spec.enter func19 rfl rfl fun h0 w0 fr0 => ?_
 have hat20 := H.ats
 have hvr := H.var
 have hcn := H.con
 refine Jr (Zs (aF (R := bK) Sr) (Za (ab (ap (Jr ?_)))))
 refine Zm (Zs (aa ft Sr rfl) (Zl lx Sr (Zs (ag underlying47 Sr) (Zs (aJ Sr Sr) (ab ?_)))))
 refine am Sr (fun h19 => ?_) (fun h19 => ?_)
 ·
  try simp only [NF] at h19
  have hje : j0 = q.Atoms.length := by omega
  refine Jr (Za (ab (aC ?_)))
  refine aI (t := 10) rfl () (Sub.bool ?_)
  rw [hje, List.drop_length]; rfl
 try simp only [NF] at h19
 have hat : j0 < q.Atoms.length := by omega
 obtain ⟨k, rfl⟩ : ∃ k', k = k' + 1 := ⟨k - 1, by omega⟩
 have ihn := ih k rfl
 have hA := H.atom j0 hat
 have hAt := hA.tab
 have hhd := wx (C := q.Consts) (ts := ts) (st := (vs, ss)) hat
 refine av (Jr (Zs (aa ft Sr rfl) (Zl lx Sr (Zm ?_))))
 refine Zs (ae (i := j0) underlying47 gO Sr Sr (by rfl) (gb (by exact hat))) ?_
 refine Zl gO Sr ?_
 refine Zx (aE (fun w => zeroValue88 w) zu) fun b11 => ?_
 refine Ju (ai gO Sr Sr zS) fun _ => ?_
 refine aN (t := 11) (Sel.take (FN _)) Frz.box ?_
 refine ab (ap (Jr (Zs (aa fY Sr rfl) (Zl ty3 Sr (Zm ?_)))))
 refine Zs (ag underlying35 Sr) (Zs (bA Sr Sr) (ab ?_))
 refine am Sr (fun h29 => ?_) (fun h29 => ?_)
 ·
  try simp only [NF] at h29
  exfalso; omega
 try simp only [NF] at h29
 refine av (ap (Jr (Za (ab (au ?_)))))
 refine aK (σ := Nat) (fun i => i <= (nth ts (nth q.Atoms j0).Table.toNat).length /\ ∀ t, t < i -> ((eC q.Consts (vs, ss) (fv (nth q.Atoms j0) (nth (nth ts (nth q.Atoms j0).Table.toNat) t))).1 && gS q.Consts ts (eC q.Consts (vs, ss) (fv (nth q.Atoms j0) (nth (nth ts (nth q.Atoms j0).Table.toNat) t))).2 (q.Atoms.drop (j0 + 1))) = false) (fun i => upd (upd (upd (upd (upd (upd (upd co 1 (tSl (rSl (rSl rValue)) ts)) 2 (tV (.int .i64 j0))) 3 (tSl rValue vs)) 4 (tSl bN ss)) 5 (bx bK q)) 11 (bx cg (nth q.Atoms j0))) 12 (tV (.int .i64 i))) (fun i => []) (fun i => (nth ts (nth q.Atoms j0).Table.toNat).length - i) 0 ⟨Nat.zero_le _, fun t h => absurd h (Nat.not_lt_zero _)⟩ (zU) (LSub.rfl) ?_
 rintro i ⟨hi, hno⟩
 refine ap (Jr (Zm (Zm (Zs (aa fY Sr rfl) (Zl ty3 Sr ?_)))))
 refine Zs (ae (i := (nth q.Atoms j0).Table.toNat) underlying35 fX Sr Sr (by show (nth q.Atoms j0).Table = _; omega) (gb zG)) ?_
 refine Zl fX Sr (Zs (ag underlying38 Sr) (Zs (az Sr Sr) (ab ?_)))
 refine am Sr (fun h37 => ?_) (fun h37 => ?_)
 ·
  try simp only [NF] at h37
  have hlt : i < (nth ts (nth q.Atoms j0).Table.toNat).length := by omega
  have hrl := hts _ (nth_mem (show (nth q.Atoms j0).Table.toNat < ts.length by omega))
  have hln := uC (C := q.Consts) (l := fv (nth q.Atoms j0) (nth (nth ts (nth q.Atoms j0).Table.toNat) i)) (st := (vs, ss))
  refine av (ap (au (Jr ?_)))
  refine Zx (bO (ys := []) underlying45 pS trivial rfl (by decide)) fun v40 => ?_
  refine Zm ?_
  refine Zx (aH underlying45 pS Sr Sr zS (by simp; omega) (by simp; omega)) fun v42 => ?_
  refine Za (ab (Jr ?_))
  refine Zx (bO (ys := []) underlying56 el4 trivial rfl (by decide)) fun v43 => ?_
  refine Zm ?_
  refine Zx (aH underlying56 el4 Sr Sr zS (by simp; omega) (by simp; omega)) fun v45 => ?_
  refine Za (ab (ap ?_))
  by_cases hgd : (eC q.Consts (vs, ss) (fv (nth q.Atoms j0) (nth (nth ts (nth q.Atoms j0).Table.toNat) i))).1 = true
  ·
   skip
   refine bQ [⟨0, [5], true⟩, ⟨1, [11], true⟩, ⟨2, [1], true⟩, ⟨3, [11], true⟩, ⟨4, [49], true⟩, ⟨5, [48, 50], true⟩, ⟨6, [51], true⟩, ⟨7, [12], true⟩, ⟨8, [52, 53], true⟩, ⟨9, [54], true⟩, ⟨10, [13], true⟩, ⟨11, [14], true⟩, ⟨12, [46, 47, 55, 56, 57], false⟩, ⟨13, [58], true⟩, ⟨14, [5, 59], true⟩, ⟨15, [1, 59], true⟩, ⟨16, [2, 59], true⟩, ⟨17, [59, 62], true⟩, ⟨18, [13, 59], true⟩, ⟨19, [14, 59], true⟩, ⟨20, [59, 60, 61, 63, 64, 65], false⟩, ⟨21, [59, 66], true⟩] rfl (by kernel_rfl) ?_
   refine Zf rfl (ad g7 Sr) (Zf rfl (ad gO Sr) (Zv rfl (Zf rfl (aa fY Sr rfl) (Zf rfl (ad ty3 Sr) ?_))))
   refine Zf rfl (ae (i := (nth q.Atoms j0).Table.toNat) underlying35 fX Sr Sr (by show (nth q.Atoms j0).Table = _; omega) (gb zG)) ?_
   refine Zf rfl (ad fX Sr) (Zv rfl ?_)
   refine Zf rfl (ae (i := i) underlying38 dt Sr Sr (by rfl) (gb (by exact hlt))) ?_
   refine Zf rfl (ad dt Sr) (Zv rfl (Zv rfl ?_))
   refine cN rfl rfl rfl rfl (aR (Sel.all _) (ni q hcn (nth q.Atoms j0) (nth (nth ts (nth q.Atoms j0).Table.toNat) i) vs ss hA.len (hA.row _ (nth_mem hlt)) (fun j h => by have := hA.trm j h; omega) hA.col hs v42 v45) ⟨Sr, Sr, Sr, Sr, Sr, trivial⟩ call53) fun c58 => ?_
   refine Zv rfl ?_
   refine df rfl rfl rfl rfl (Gf (u := true) (by show gT (eC q.Consts (vs, ss) (fv (nth q.Atoms j0) (nth (nth ts (nth q.Atoms j0).Table.toNat) i))).1 true = true; rw [hgd]; rfl) (FS Sr)) rfl rfl (fun hw _ => ad g7 Sr) ?_
   refine df rfl rfl rfl rfl (Gf (u := true) (by show gT (eC q.Consts (vs, ss) (fv (nth q.Atoms j0) (nth (nth ts (nth q.Atoms j0).Table.toNat) i))).1 true = true; rw [hgd]; rfl) (FS Sr)) rfl rfl (fun hw _ => ar Sr) ?_
   refine df rfl rfl rfl rfl (Gf (u := true) (by show gT (eC q.Consts (vs, ss) (fv (nth q.Atoms j0) (nth (nth ts (nth q.Atoms j0).Table.toNat) i))).1 true = true; rw [hgd]; rfl) (FS Sr)) rfl rfl (fun hw _ => ar Sr) ?_
   refine df rfl rfl rfl rfl (Gf (u := true) (by show gT (eC q.Consts (vs, ss) (fv (nth q.Atoms j0) (nth (nth ts (nth q.Atoms j0).Table.toNat) i))).1 true = true; rw [hgd]; rfl) (FS Sr)) rfl rfl (fun hw _ => ax (Sub.w hw) Sr (by have hwq := hw; (try simp only [beqB_t, beqB_f, NF] at hwq); unfold iu; omega)) ?_
   refine df rfl rfl rfl rfl (Gf (u := true) (by show gT (eC q.Consts (vs, ss) (fv (nth q.Atoms j0) (nth (nth ts (nth q.Atoms j0).Table.toNat) i))).1 true = true; rw [hgd]; rfl) (FS Sr)) rfl rfl (fun hw _ => ar Sr) ?_
   refine df rfl rfl rfl rfl (Gf (u := true) (by show gT (eC q.Consts (vs, ss) (fv (nth q.Atoms j0) (nth (nth ts (nth q.Atoms j0).Table.toNat) i))).1 true = true; rw [hgd]; rfl) (FS Sr)) rfl rfl (fun hw _ => ar Sr) ?_
   refine wH rfl rfl rfl rfl (Gf (by show gT (eC q.Consts (vs, ss) (fv (nth q.Atoms j0) (nth (nth ts (nth q.Atoms j0).Table.toNat) i))).1 true = true; rw [hgd]; rfl) (FS Sr)) rfl rfl (pN (Sel.all _) (ihn (j0 + 1) (eC q.Consts (vs, ss) (fv (nth q.Atoms j0) (nth (nth ts (nth q.Atoms j0).Table.toNat) i))).2.1 (eC q.Consts (vs, ss) (fv (nth q.Atoms j0) (nth (nth ts (nth q.Atoms j0).Table.toNat) i))).2.2 zG zG (by rw [hln.1]; exact hv) (by rw [hln.1, hln.2]; exact hs)) ⟨Frz.sub (Sub.w rfl), Frz.sub (Sub.w rfl), Frz.sub (Sub.trans (Sub.w rfl) (Sub.int zG)), Frz.w rfl (Frz.skip Frz.own), Frz.w rfl Frz.own, trivial⟩ call19) fun c66 => ?_
   refine Zf rfl (ns Sr Sr) (bP ?_)
   refine lH (Sel.all _) ?_
   refine am Sr (fun h67 => ?_) (fun h67 => ?_)
   ·
    try simp only [NF] at h67
    refine Jr (Za (ab (aC ?_)))
    refine aI (t := 10) rfl () (Sub.bool ?_)
    rw [hhd]
    symm
    rw [List.any_eq_true]
    exact ⟨_, nth_mem hlt, by rw [h67.1, h67.2]; rfl⟩
   try simp only [NF] at h67
   refine av (ah (Zm (Zs (ax Sr Sr z6) (Za (ab ?_)))))
   refine ay (σ := Nat) (s := i) (i + 1) zO ?_ (zU) (LSub.rfl)
   refine ⟨by omega, fun t ht => ?_⟩
   by_cases e : t = i
   ·
    subst e; rcases h67 with h67 | h67
    ·
     exact absurd hgd (by rw [h67]; simp)
    rw [h67, Bool.and_false]
   exact hno t zG
  skip
  refine bQ [⟨0, [5], true⟩, ⟨1, [11], true⟩, ⟨2, [1], true⟩, ⟨3, [11], true⟩, ⟨4, [49], true⟩, ⟨5, [48, 50], true⟩, ⟨6, [51], true⟩, ⟨7, [12], true⟩, ⟨8, [52, 53], true⟩, ⟨9, [54], true⟩, ⟨10, [13], true⟩, ⟨11, [14], true⟩, ⟨12, [46, 47, 55, 56, 57], false⟩, ⟨13, [58], true⟩, ⟨14, [5, 59], true⟩, ⟨15, [1, 59], true⟩, ⟨16, [2, 59], true⟩, ⟨17, [59, 62], true⟩, ⟨18, [13, 59], true⟩, ⟨19, [14, 59], true⟩, ⟨20, [59, 60, 61, 63, 64, 65], true⟩, ⟨21, [59, 66], true⟩] rfl (by kernel_rfl) ?_
  refine Zf rfl (ad g7 Sr) (Zf rfl (ad gO Sr) (Zv rfl (Zf rfl (aa fY Sr rfl) (Zf rfl (ad ty3 Sr) ?_))))
  refine Zf rfl (ae (i := (nth q.Atoms j0).Table.toNat) underlying35 fX Sr Sr (by show (nth q.Atoms j0).Table = _; omega) (gb zG)) ?_
  refine Zf rfl (ad fX Sr) (Zv rfl ?_)
  refine Zf rfl (ae (i := i) underlying38 dt Sr Sr (by rfl) (gb (by exact hlt))) ?_
  refine Zf rfl (ad dt Sr) (Zv rfl (Zv rfl ?_))
  refine cN rfl rfl rfl rfl (aR (Sel.all _) (ni q hcn (nth q.Atoms j0) (nth (nth ts (nth q.Atoms j0).Table.toNat) i) vs ss hA.len (hA.row _ (nth_mem hlt)) (fun j h => by have := hA.trm j h; omega) hA.col hs v42 v45) ⟨Sr, Sr, Sr, Sr, Sr, trivial⟩ call53) fun c58 => ?_
  refine Zv rfl ?_
  refine df (w := false) (B := tAny) rfl rfl rfl rfl (Gf (by show gT (eC q.Consts (vs, ss) (fv (nth q.Atoms j0) (nth (nth ts (nth q.Atoms j0).Table.toNat) i))).1 true = false; rw [Bool.eq_false_iff.2 hgd]; rfl) (FS Sr)) rfl rfl (fun hw _ => by cases hw) ?_
  refine df (w := false) (B := tAny) rfl rfl rfl rfl (Gf (by show gT (eC q.Consts (vs, ss) (fv (nth q.Atoms j0) (nth (nth ts (nth q.Atoms j0).Table.toNat) i))).1 true = false; rw [Bool.eq_false_iff.2 hgd]; rfl) (FS Sr)) rfl rfl (fun hw _ => by cases hw) ?_
  refine df (w := false) (B := tAny) rfl rfl rfl rfl (Gf (by show gT (eC q.Consts (vs, ss) (fv (nth q.Atoms j0) (nth (nth ts (nth q.Atoms j0).Table.toNat) i))).1 true = false; rw [Bool.eq_false_iff.2 hgd]; rfl) (FS Sr)) rfl rfl (fun hw _ => by cases hw) ?_
  refine df (w := false) (B := tAny) rfl rfl rfl rfl (Gf (by show gT (eC q.Consts (vs, ss) (fv (nth q.Atoms j0) (nth (nth ts (nth q.Atoms j0).Table.toNat) i))).1 true = false; rw [Bool.eq_false_iff.2 hgd]; rfl) (FS Sr)) rfl rfl (fun hw _ => by cases hw) ?_
  refine df (w := false) (B := tAny) rfl rfl rfl rfl (Gf (by show gT (eC q.Consts (vs, ss) (fv (nth q.Atoms j0) (nth (nth ts (nth q.Atoms j0).Table.toNat) i))).1 true = false; rw [Bool.eq_false_iff.2 hgd]; rfl) (FS Sr)) rfl rfl (fun hw _ => by cases hw) ?_
  refine df (w := false) (B := tAny) rfl rfl rfl rfl (Gf (by show gT (eC q.Consts (vs, ss) (fv (nth q.Atoms j0) (nth (nth ts (nth q.Atoms j0).Table.toNat) i))).1 true = false; rw [Bool.eq_false_iff.2 hgd]; rfl) (FS Sr)) rfl rfl (fun hw _ => by cases hw) ?_
  refine df (w := false) (B := tAny) rfl rfl rfl rfl (Gf (by show gT (eC q.Consts (vs, ss) (fv (nth q.Atoms j0) (nth (nth ts (nth q.Atoms j0).Table.toNat) i))).1 true = false; rw [Bool.eq_false_iff.2 hgd]; rfl) (FS Sr)) rfl rfl (fun hw _ => by cases hw) ?_
  refine Zf rfl (aw Sr (Sub.wf (A := tV (.bool false)) (by show gT (eC q.Consts (vs, ss) (fv (nth q.Atoms j0) (nth (nth ts (nth q.Atoms j0).Table.toNat) i))).1 true = false; rw [Bool.eq_false_iff.2 hgd]; rfl))) ?_
  refine bP ?_
  refine lH (Sel.all _) ?_
  refine am Sr (fun h67 => ?_) (fun h67 => ?_)
  ·
   try simp only [NF] at h67
   refine Jr (Za (ab (aC ?_)))
   exfalso; simp at h67
  try simp only [NF] at h67
  refine av (ah (Zm (Zs (ax Sr Sr z6) (Za (ab ?_)))))
  refine ay (σ := Nat) (s := i) (i + 1) zO ?_ (zU) (LSub.rfl)
  refine ⟨by omega, fun t ht => ?_⟩
  by_cases e : t = i
  ·
   subst e; rw [Bool.eq_false_iff.2 hgd]; rfl
  exact hno t zG
 try simp only [NF] at h37
 refine aV (Jr (Za (ab (aC ?_))))
 refine aI (t := 10) rfl () (Sub.bool ?_)
 rw [hhd]
 symm
 rw [List.any_eq_false]
 intro r hr
 obtain ⟨t, ht, rfl⟩ := List.getElem_of_mem hr
 rw [<- nth_get ht, hno t zG]; simp
theorem oK (q : GConj) (ts : List (List LV)) (H : HolR q ts) (hts : ∀ t ∈ ts, t.length <= 4000) : ∀ k, DZ q ts k
  | 0 => fun j0 vs ss h1 h2 h3 h4 => nj q ts H hts 0 j0 vs ss h1 h2 h3 h4 fun k e => by cases e
  | k + 1 => fun j0 vs ss h1 h2 h3 h4 => nj q ts H hts (k + 1) j0 vs ss h1 h2 h3 h4 fun k' e => by
    have : k' = k := by omega
    subst this
    exact oK q ts H hts k'
theorem lawMeans_spec (s : GSchema) (hn : ∀ t ∈ s.Tables, ∀ x ∈ namesL t.Attrs, x.size <= 9223372036854775807) (n : Nat) (p : aQ) (hpl : kG n p) (hd : Dep n p) (ts : List (List LV)) (htl : ∀ t ∈ ts, t.length <= 9223372036854775807) : Fun1 prog 4 [bB.ty s, (aX n).ty p, tSl (rSl (rSl rValue)) ts] (tV (.bool true)) := by
 refine Spec.enter func4 rfl rfl fun h0 w0 fr0 => ?_
 refine Jr (Zs (aF (R := bB) Sr) (Zs (aF (R := (aX n)) Sr) (Za (ab (Jr ?_)))))
 refine Zs (aj (tm ) trivial call14) (Za (ab (ap (Jr (Zl lV Sr ?_)))))
 refine Zl da Sr (Zm (Zs (aj (sJ s n p hpl ts 6 htl) ⟨Sr, Sr, Sr, Sr, trivial⟩ call6) (Zs (bc Sr) (ab ?_))))
 refine am Sr (fun h17 => ?_) (fun h17 => ?_)
 ·
  try simp only [NF] at h17
  refine Jr (Zm (Za (ab (aC ?_))))
  refine aI (t := 6) rfl () Sr
 try simp only [NF] at h17
 have hsm : mG s n p ts 6 = true := by simpa using h17
 have hsm2 := hsm
 unfold mG at hsm2
 simp only [Bool.and_eq_true, decide_eq_true_eq, List.all_eq_true] at hsm2
 obtain ⟨⟨⟨⟨hss, _⟩, hna⟩, _⟩, hrw⟩ := hsm2
 have hz : SchSz s := Et hss hn
 have hp : n8 n p := (Bc hd hna hpl).1
 have htb : ∀ t ∈ ts, t.length <= 4000 := fun t ht => by
  have := hrw t ht
  unfold iZ at this
  simp only [Bool.and_eq_true, decide_eq_true_eq] at this
  omega
 have htr : ∀ t ∈ ts, ∀ r ∈ t, r.length <= 4398046511104 := fun t ht r hr => by
  have := hrw t ht
  unfold iZ at this
  simp only [Bool.and_eq_true, decide_eq_true_eq, List.all_eq_true] at this
  have := this.2 r hr
  omega
 refine av (Jr (Zl lV Sr (Zl da Sr (Zs (aj (pk s hz n p hp hd (fun hv => (ot hd hv hna).1) (fun hv => (ot hd hv hna).2)) ⟨Sr, Sr, trivial⟩ call15) (Zm ?_)))))
 refine Zs (aL Sr rfl) (Zs (aL Sr rfl) ?_)
 refine Zx (aE (fun w => zeroValue49 w) zw) fun b8 => ?_
 refine Ju (ai g7 Sr Sr zS) fun _ => ?_
 refine aN (t := 8) (Sel.take (FN _)) Frz.box ?_
 refine Za (ab (ap (Jr (Zm (Zs (be Sr Sr) ?_)))))
 refine ab ?_
 refine am Sr (fun h26 => ?_) (fun h26 => ?_)
 ·
  try simp only [NF] at h26
  obtain ⟨he1, he2⟩ := DP (sc := s) (n := n) (p := p) (by simpa using h26)
  refine Jr (Zm (Zm ?_))
  refine Zk (aa ft Sr rfl) ?_
  refine Zg (fun hw => ad lx (Sub.w hw)) (Zg (fun hw => ag underlying47 (Sub.w hw)) (Zg (fun hw => aJ (Sub.w hw) Sr) (Zs (aw Sr Sr) (Zm ?_))))
  refine Zk (ar Sr) ?_
  refine Zg (fun hw => aJ (Sub.w hw) Sr) ?_
  refine Zk (ad lV Sr) ?_
  refine Zk (ad da Sr) ?_
  refine Zg (fun hw => aj (gE s hz n p hp) ⟨(Sub.w hw), (Sub.w hw), trivial⟩ call16) (Zg (fun hw => bc (Sub.w hw)) (Zg (fun hw => dW underlying4 (Sub.w hw) (Sub.w hw)) (Zs (aw Sr Sr) (Za (ab ?_)))))
  refine aC ?_
  refine aI (t := 6) rfl () (Sub.bool ?_)
  show (true && decide ((((ofM s n p).1.Atoms.length : Nat) : Int) = 0) && (decide ((ofM s n p).2 = 1) == !np s p)) = true
  rw [he1]
  by_cases hv : np s p = false
  ·
   rw [hv, he2.2 hv]; rfl
  have hv2 : np s p = true := by simpa using hv
  have h1 : ¬ (ofM s n p).2 = 1 := fun q => hv (he2.1 q)
  simp [hv2, h1]
 try simp only [NF] at h26
 have hok : (ofM s n p).2 = 0 := by simpa using h26
 obtain ⟨hvq, hmn⟩ := rI hd hok
 have hal : (ofM s n p).1.Atoms.length <= 20 := by
  have h := hvq
  unfold bE at h
  simp only [Bool.and_eq_true, decide_eq_true_eq] at h
  omega
 refine av (Jr (Zl lV Sr (Zl da Sr (Zm ?_))))
 refine Zx (aR (FN _) (yD s hz n p hp ts htb htr) ⟨Sr, Sr, Sr, trivial⟩ call11) fun c47 => ?_
 refine Zm (Zs (aL Sr rfl) (Zs (aL Sr rfl) (Za (Za (ab ?_)))))
 refine ap (Jr (Zm (Zs (be Sr Sr) (Zm ?_))))
 refine Zk (aa ft Sr rfl) ?_
 refine Zg (fun hw => ad lx (Sub.w hw)) (Zg (fun hw => ag underlying47 (Sub.w hw)) (Zg (fun hw => bj (Sub.w hw) Sr) (Zs (aD Sr Sr) (Zm ?_))))
 refine Zk (ad g7 Sr) ?_
 refine Zg (fun hw => aj (AU (ofM s n p).1 5 zG) ⟨(Sub.w hw), Sr, trivial⟩ call17) (Zg (fun hw => bc (Sub.w hw)) (Zs (aD Sr Sr) (ab ?_)))
 refine am Sr (fun h62 => ?_) (fun h62 => ?_)
 ·
  try simp only [NF] at h62
  refine Jr (Zm (Zm ?_))
  refine Zk (ad g7 Sr) ?_
  refine Zg (fun hw => aj (dG (ofM s n p).1) ⟨(Sub.w hw), trivial⟩ call18) (Zs (aw Sr Sr) (Za (ab (aC ?_))))
  refine aI (t := 6) rfl () (Sub.bool ?_)
  rw [hvq]; rfl
 try simp only [NF] at h62
 obtain ⟨⟨hc1, _⟩, _⟩ := h62
 have ho1 : wD s n p ts = true := c47.2.1.1 (by simpa using hc1)
 have ex : (evR s n p ts) = evV ts n p := by rw [evR, if_pos ho1]
 have ho2 := ho1
 unfold wD jW at ho2
 simp only [Bool.and_eq_true, decide_eq_true_eq] at ho2
 obtain ⟨⟨⟨_, hlen⟩, htab⟩, _⟩ := ho2
 have hH := DQ hd hok zG htab
 have hHv := hH.var
 have hmt := hmn ts zG htab
 refine av (ap ?_)
 refine bQ [⟨0, [7], true⟩, ⟨1, [68], true⟩, ⟨2, [8, 69], true⟩, ⟨3, [69, 70], true⟩, ⟨4, [69, 71], true⟩, ⟨5, [72], true⟩, ⟨6, [8, 73], true⟩, ⟨7, [2, 73], true⟩, ⟨8, [8, 73], true⟩, ⟨9, [73, 76], true⟩, ⟨10, [73, 77], true⟩, ⟨11, [8, 73], true⟩, ⟨12, [73, 79], true⟩, ⟨13, [73, 80], true⟩, ⟨14, [73, 74, 75, 78, 81], true⟩, ⟨15, [10, 73], true⟩, ⟨16, [73, 83], true⟩, ⟨17, [73, 84], true⟩, ⟨18, [73, 82, 85], true⟩, ⟨19, [73, 86], true⟩, ⟨20, [87], true⟩] rfl (by kernel_rfl) ?_
 refine Zv rfl (Zv rfl ?_)
 refine Mk rfl rfl Sr rfl (ad g7 Sr) ?_
 refine Mg rfl rfl Sr rfl (fun hw => aj (dG (ofM s n p).1) ⟨(Sub.w hw), trivial⟩ call18) (Zf rfl (aw Sr Sr) (Zv rfl ?_))
 refine Mk rfl rfl Sr rfl (ad g7 Sr) ?_
 refine Mk rfl rfl Sr rfl (ar Sr) ?_
 refine Mk rfl rfl Sr rfl (aa ft Sr rfl) ?_
 refine Mg rfl rfl Sr rfl (fun hw => ad ty3 (Sub.w hw)) ?_
 refine Mg rfl rfl Sr rfl (fun hw => Step.frzU (f3 (n := (ofM s n p).1.Vars.toNat) underlying45 pS (Sub.w hw) (Sub.w hw) (show (ofM s n p).1.Vars = (((ofM s n p).1.Vars.toNat : Nat) : Int) by omega) zG zG) fun _ => Frz.own) ?_
 refine Mk rfl rfl Sr rfl (aa ft Sr rfl) ?_
 refine Mg rfl rfl Sr rfl (fun hw => ad ty3 (Sub.w hw)) ?_
 refine Mg rfl rfl Sr rfl (fun hw => Step.frzU (f3 (n := (ofM s n p).1.Vars.toNat) underlying56 el4 (Sub.w hw) (Sub.w hw) (show (ofM s n p).1.Vars = (((ofM s n p).1.Vars.toNat : Nat) : Int) by omega) zG zG) fun _ => Frz.own) ?_
 refine Mg rfl rfl Sr rfl (fun hw => aj (oK (ofM s n p).1 ts hH htb 20 0 (List.replicate (ofM s n p).1.Vars.toNat c9) (List.replicate (ofM s n p).1.Vars.toNat false) (Nat.zero_le _) (by have := hH.ats; omega) (by simp; omega) (by simp)) ⟨Sub.w hw, Sub.w hw, Sr, Sub.w hw, Sub.w hw, trivial⟩ call19) ?_
 refine Mk rfl rfl Sr rfl (ar Sr) ?_
 refine Mg rfl rfl Sr rfl (fun hw => ag underlying38 (Sub.w hw)) (Mg rfl rfl Sr rfl (fun hw => bj (Sub.w hw) Sr) (Mg rfl rfl Sr rfl (fun hw => dW underlying4 (Sub.w hw) (Sub.w hw)) (Zf rfl (aw Sr Sr) (Zf rfl (bd Sr) (bP ?_)))))
 refine aC ?_
 refine aI (t := 6) rfl () (Sub.bool ?_)
 rw [hvq, ex]
 simp [hmt, List.drop_zero]
end Lg
