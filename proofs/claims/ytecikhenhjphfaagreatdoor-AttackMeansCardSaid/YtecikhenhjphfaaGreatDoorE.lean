/- A part of the proofs of the laws of cleanselaw33 and cleanselaw36: contracts of functions that the law reaches, and facts about what they compute. -/
import Derived.Test.YtecikhenhjphfaaGreatDoorD
import Derived.Shelf.SlSortCmp.NoneTotal
import Derived.Test.YtecikhenhjphfaaGreatDoorProg
import Derived.Ground.SlsfProg
import Derived.Ground.NamesProg
import Derived.Lib.Small
import Derived.Shelf.Abstract
import Derived.Lib.Walk
import Derived.WalkKit
import Derived.Deep.LoopGhost
import Derived.Deep.Draws
import Derived.Sort.Grow
import Derived.Deep.QuietTactic
import Derived.Shelf.SlSortCmp.QuietGrown
import Derived.Lib.SliceRun
import Derived.RecoverIn
import Derived.Tactics
import Derived.Tactics2
import Derived.Defers
import Derived.Laws.Pointers
import Derived.Laws.LoneSync
import Derived.Laws.NewBlocks
import Derived.RegionTactic
import Derived.RegionCalls
import Derived.ChangeAlike
import Derived.Laws.CopyRow
set_option linter.unusedVariables false
set_option linter.unusedSimpArgs false
set_option linter.unusedSectionVars false
set_option maxHeartbeats 16000000
namespace Lg
open Go Go.Proofs Go.Proofs.Tryz
theorem Do (sc : GSchema) (s : Bst) (h : s.T.length = s.S.length) : atI sc s s.T.length = atomsS sc s.P ⟨[], []⟩ (s.T.zip s.S) := by
  unfold atI; rw [List.take_of_length_le (by rw [List.length_zip]; omega)]
theorem BX (sc : GSchema) (s : Bst) (h : s.T.length = s.S.length) {i : Nat} (hi : i < s.T.length) : atI sc s (i + 1) = ((hU sc s.P (atI sc s i).1 (nth s.T i) (nth s.S i).toNat).1, (atI sc s i).2 ++ [(hU sc s.P (atI sc s i).1 (nth s.T i) (nth s.S i).toNat).2]) := by
  unfold atI
  rw [di (by rw [sC h.symm]; exact hi), xA hi (by omega), mC]
theorem Bb (sc : GSchema) (s : Bst) (hk : ∀ t ∈ sc.Tables, t.Key.length <= 12 /\ t.Attrs.length <= 12 /\ ∀ c ∈ t.Key, 0 <= c /\ c < t.Attrs.length) (hI : BdInv sc s) (i : Nat) (hi : i <= s.T.length) : (atI sc s i).1.C.length <= i * 24 /\ (atI sc s i).1.M.length <= i * 24 /\ (atI sc s i).2.length = i := by
  have hts := hI.ts
  have h := kF sc s.P 24 ((s.T.zip s.S).take i) ⟨[], []⟩ (fun x hx => by
    obtain ⟨j, hj, rfl⟩ := List.getElem_of_mem (List.mem_of_mem_take hx)
    rw [List.length_zip] at hj
    have hj' : j < s.T.length := by omega
    obtain ⟨⟨h1, h2⟩, _⟩ := hI.tin j hj'
    rw [List.getElem_zip]
    have := qJ (nth sc.Tables (nth s.T j).toNat)
    have h3 := hk _ (nth_mem (show (nth s.T j).toNat < sc.Tables.length by omega))
    rw [nth_get hj'] at this h3
    show (colsK (nth sc.Tables (s.T[j]).toNat)).length <= 24
    omega)
  rw [List.length_take, sC (show s.S.length = s.T.length by omega)] at h
  have e : min i s.T.length = i := by omega
  rw [e] at h
  simpa [atI] using h
theorem xH (sc : GSchema) (s : Bst) (hI : BdInv sc s) (hk : ∀ t ∈ sc.Tables, t.Key.length <= 12 /\ t.Attrs.length <= 12 /\ ∀ c ∈ t.Key, 0 <= c /\ c < t.Attrs.length) (hT : s.T.length <= 1000000) (hP : s.P.length <= 100000000) : Fun1 prog 45 [bx cU (bldO sc s)] (bK.ty (kz sc s)) := by
 refine Spec.enter func45 rfl rfl fun h0 w0 fr0 => ?_
 have hts := hI.ts
 refine Jr (Zs (aF (R := uR (bx cU (bldO sc s)) xG) (y := ()) Sr) ?_)
 refine Zx (aE (fun w => zeroValue49 w) zw) fun v2 => ?_
 refine ab (Jr ?_)
 refine Zx (aE (fun w => zeroValue49 w) Eg) fun v3 => ?_
 refine ab (Jr ?_)
 refine Zx (eO (kv := kvI) (R := aO)) fun v13 => ?_
 refine Zx (aE (R := rV) (z := Value.map none) (fun w => zeroValue143 w) (fun _ => ⟨rfl, rfl⟩)) fun v4 => ?_
 refine Ju (ai (R := rV) qM Sr Sr zS) fun _ => ?_
 refine ab ?_
 refine cA (t := 4) (A' := bx rV v13) (Sel.take (FN _)) Frz.box ?_
 refine Jr (Zs (bl (As := [_, _, _]) ⟨Sr, Sr, Sr, trivial⟩) (Za (ab (ap (Jr ?_)))))
 refine Zl gh Sr (Zs (aZ Sr) (Zs (aa zf Sr rfl) (Zl dn Sr (Zs (ag underlying27 Sr) (Zm ?_)))))
 refine ab (au ?_)
 refine aK (σ := Nat × Value) (fun ⟨i, va⟩ => i <= s.T.length) (fun ⟨i, va⟩ => upd (upd (upd (upd (upd (upd (upd (upd co 1 (CP (bldO sc s))) 2 (tAt v2 0)) 3 (tAt v3 0)) 4 (bx rV v13)) 5 (eZ 98 [CP (bldO sc s), tAt v3 0, bx rV v13])) 18 (tSl aO s.T)) 19 (tV (.int .i64 s.T.length))) 20 (tV (.int .i64 i))) (fun ⟨i, va⟩ => [qS v3 v13 va (atI sc s i).1, own 88 cg va (atI sc s i).2, box v2 49 bK jB]) (fun ⟨i, va⟩ => s.T.length - i) (0, (.slice none 0 0)) (by simp) (zU) (LSub.trans (FR (e := 62) (R := rValue)) (LSub.trans (FR (e := 88) (R := cg)) (LSub.trans (B := [box v3 49 f8 ⟨0, (.slice none 0 0), (.slice none 0 0)⟩, own 62 rValue (.slice none 0 0) [], bD kvI aO v13 [], own 88 cg (.slice none 0 0) [], box v2 49 bK jB]) (zL) (Gz (s := ⟨[], []⟩))))) ?_
 rintro ⟨i, va⟩ hil
 try dsimp only at hil
 refine Jr (Zs (az Sr Sr) (ab (ap ?_)))
 refine am Sr (fun h21 => ?_) (fun h21 => ?_)
 ·
  try simp only [NF] at h21
  have hlt : i < s.T.length := by omega
  obtain ⟨⟨ht1, ht2⟩, hs1, hs2⟩ := hI.tin i hlt
  have htt : (nth s.T i).toNat < sc.Tables.length := by omega
  obtain ⟨hk1, hk2, hk3⟩ := hk _ (nth_mem htt)
  have hcl := qJ (nth sc.Tables (nth s.T i).toNat)
  obtain ⟨hA1, hA2, hA3⟩ := Bb sc s hk hI i zG
  have hstep := BX sc s hts hlt
  have hsl : i < s.S.length := by omega
  refine av (ap (au (Jr (Zm ?_))))
  refine Zs (ae  underlying27 ty3 Sr Sr rfl (gb (by exact hlt))) ?_
  refine Zl ty3 Sr (Za (Za (ab (Jr (Zl gh Sr ?_)))))
  refine Zs (aZ Sr) (Zs (aa zf Sr rfl) (Zs (aa qb Sr rfl) (Zl qa Sr (Zm ?_))))
  refine Zs (ae (i := (nth s.T i).toNat) underlying22 nl Sr Sr (by show nth s.T i = _; omega) (gb (by exact htt))) ?_
  refine Zl nl Sr ?_
  refine Zx (aE (fun w => zeroValue77 w) D0) fun v8 => ?_
  refine Ju (ai nl Sr Sr zS) fun _ => ?_
  refine aN (t := 8) (Sel.take (FN _)) Frz.box ?_
  refine ab (ap ?_)
  refine zV [] [⟨0, [7], 0⟩, ⟨1, [8], 0⟩, ⟨2, [34], 0⟩, ⟨4, [8], 0⟩, ⟨5, [37], 0⟩, ⟨6, [38], 0⟩] ⟨3, [35], 36, SP.emp, fun v => rV.ty v, fun v => own 3 aO v (nth sc.Tables (nth s.T i).toNat).Key⟩ [⟨7, [33, 36, 39], 0⟩] [⟨8, [], 9, SP.emp, fun v => tAt (vN v) 0, fun v => box (vN v) 88 jD A4⟩] [⟨9, [9, 40], 2⟩] (L := [qS v3 v13 va (atI sc s i).1, own 88 cg va (atI sc s i).2, box v2 49 bK jB]) (LSub.trans LSub.emp LSub.emp) rfl (by kernel_rfl) (Nat.le_of_ble_eq_true rfl) ?_
  refine ba rfl rfl rfl rfl (fun _ => ar Sr) ?_
  refine ba rfl rfl rfl rfl (fun _ => aa jC Sr rfl) ?_
  refine ba rfl rfl rfl rfl (fun _ => ad dn Sr) ?_
  refine ba rfl rfl rfl rfl (fun _ => aa jC Sr rfl) ?_
  refine ba rfl rfl rfl rfl (fun _ => ad dn Sr) ?_
  refine ba rfl rfl rfl rfl (fun _ => ag underlying27 Sr) ?_
  refine oo ?_
  refine ⟨⟨_, rfl, rfl, rfl, rfl, fun _ => by refine Gp ?_; exact Gt id (aR (FN _) (mz (nth sc.Tables (nth s.T i).toNat).Key zG) ⟨Sr, trivial⟩ call92) (fun _ => rfl) (fun _ => rfl)⟩, fun v36 => ?_⟩
  refine ba rfl rfl rfl rfl (fun _ => aP (x := (⟨nth s.T i, v36, (.slice none 0 0), ((nth sc.Tables (nth s.T i).toNat).Key.length : Int)⟩ : GAtomW)) (zs := [[Value.int .i64 0], [Value.slice none 0 0], [Value.slice none 0 0], [Value.int .i64 0]]) uV (fun w => zeroValue88 w) ⟨Sr, (by first | exact Sr | exact FT rfl), Sr, trivial⟩ ⟨⟨Sr, rfl⟩, ⟨(by first | exact Sr | exact FT rfl), rfl⟩, fun _ => ⟨rfl, rfl⟩, ⟨Sr, rfl⟩, trivial⟩) ?_
  refine oo ?_
  refine ⟨⟨_, rfl, rfl, rfl, rfl, fun _ => by refine Gp ?_; exact Gt Es (aE (fun w => zeroValue88 w) Ei) (fun _ => rfl) (fun _ => rfl)⟩, fun v9 => ?_⟩
  refine qG ?_
  refine fB rfl rfl rfl (ai C6 Sr Sr zS) fun _ => ?_
  refine nT (ap (Jr (Zs (aa jC Sr rfl) (Zl eP Sr (Zs (ag underlying28 Sr) ?_)))))
  refine Zm (ab (au ?_))
  refine aK (σ := Nat × Value) (fun ⟨j, vk⟩ => j <= (nth sc.Tables (nth s.T i).toNat).Attrs.length) (fun ⟨j, vk⟩ => upd (upd (upd (upd (upd (upd (upd (upd (upd (upd (upd (upd (upd (upd (upd (upd (upd (upd co 1 (CP (bldO sc s))) 2 (tAt v2 0)) 3 (tAt v3 0)) 4 (bx rV v13)) 5 (eZ 98 [CP (bldO sc s), tAt v3 0, bx rV v13])) 6 (tV (.int .i64 i))) 8 (bx cS (nth sc.Tables (nth s.T i).toNat))) 9 (tAt (vN v9) 0)) 18 (tSl aO s.T)) 19 (tV (.int .i64 s.T.length))) 20 (tV (.int .i64 i))) 22 (tV (.int .i64 i))) 25 (bx cU (bldO sc s))) 26 (bx cU (bldO sc s))) 32 (cS.ty (nth sc.Tables (nth s.T i).toNat))) 36 (rV.ty v36)) 43 (tV (.int .i64 (nth sc.Tables (nth s.T i).toNat).Attrs.length))) 44 (tV (.int .i64 j))) (fun ⟨j, vk⟩ => [box (vN v9) 88 jD (⟨nth s.T i, vk, (.slice none 0 0), ((nth sc.Tables (nth s.T i).toNat).Key.length : Int)⟩ : GAtomW), own 3 aO vk (jR (nth sc.Tables (nth s.T i).toNat) j), qS v3 v13 va (atI sc s i).1, own 88 cg va (atI sc s i).2, box v2 49 bK jB]) (fun ⟨j, vk⟩ => (nth sc.Tables (nth s.T i).toNat).Attrs.length - j) (0, v36) (by simp) (zU) (.r zS (.c zS (SPs.of (A := own 3 aO v36 (nth sc.Tables (nth s.T i).toNat).Key) (by rw [vE])) (zL))) ?_
  rintro ⟨j, vk⟩ hjl0
  try dsimp only at hjl0
  refine Jr (Zs (az Sr Sr) (ab (ap ?_)))
  refine am Sr (fun h45 => ?_) (fun h45 => ?_)
  ·
   try simp only [NF] at h45
   have hjt : j < (nth sc.Tables (nth s.T i).toNat).Attrs.length := by omega
   have hjl := xE (nth sc.Tables (nth s.T i).toNat) j
   refine av (ap (au (Jr (Zm (Za ?_)))))
   refine ab (Jr (Zs (aa jC Sr rfl) (Zl dn Sr (Zm (Zs (aj (ey (nth sc.Tables (nth s.T i).toNat).Key (j : Int) zG) ⟨Sr, Sr, trivial⟩ call52) ?_)))))
   refine Zs (bc Sr) (ab ?_)
   refine am Sr (fun h51 => ?_) (fun h51 => ?_)
   ·
    try simp only [NF] at h51
    have hcj := xD (t := (nth sc.Tables (nth s.T i).toNat)) (j := j) (by simpa using h51)
    refine ah (Zs (aq uV Sr rfl) ?_)
    refine Zs (a6 fR Sr rfl zS) ?_
    refine Zm ?_
    refine Zs (aB (ys := [_]) underlying27 el3 ⟨rfl, Sr, trivial⟩ rfl (by decide)) ?_
    refine Zx (aH underlying27 el3 Sr Sr zS (by simp; omega) (by simp; omega)) fun v56 => ?_
    refine Zs (aq uV Sr rfl) ?_
    refine Ju (aS (R := rV) (y' := (⟨nth s.T i, v56, (.slice none 0 0), ((nth sc.Tables (nth s.T i).toNat).Key.length : Int)⟩ : GAtomW)) fR Sr Sr zS (by exact ⟨rfl, ⟨fun _ _ q => q, rfl, by intro g hg; simp only [List.mem_cons, List.not_mem_nil, or_false] at hg; rcases hg with rfl | rfl <;> rfl⟩⟩)) fun _ => ?_
    refine ab (ah (Zs (ax Sr Sr z6) (Zm (ab ?_))))
    refine ay (σ := Nat × Value) (s := (j, vk)) (j + 1, v56) zO zG (zU) (.r zS (.c zS (SPs.of (A := own 3 aO v56 (jR (nth sc.Tables (nth s.T i).toNat) j ++ [(j : Int)])) (by rw [hcj])) (zL)))
   try simp only [NF] at h51
   have hcj := zT (t := (nth sc.Tables (nth s.T i).toNat)) (j := j) (by simpa using h51)
   refine av (ah (Zs (ax Sr Sr z6) (Zm (ab ?_))))
   refine ay (σ := Nat × Value) (s := (j, vk)) (j + 1, vk) zO zG (zU) (.r zS (.c zS (SPs.of (A := own 3 aO vk (jR (nth sc.Tables (nth s.T i).toNat) j)) (by rw [hcj])) (zL)))
  try simp only [NF] at h45
  obtain rfl : j = (nth sc.Tables (nth s.T i).toNat).Attrs.length := by omega
  refine aV (ap (ap ?_))
  refine a7 (L' := [box (vN v9) 88 jD (⟨nth s.T i, vk, (.slice none 0 0), ((nth sc.Tables (nth s.T i).toNat).Key.length : Int)⟩ : GAtomW), own 3 aO vk (colsK (nth sc.Tables (nth s.T i).toNat)), qS v3 v13 va (atI sc s i).1, own 88 cg va (atI sc s i).2, box v2 49 bK jB]) (.r zS (.c zS (SPs.of (A := own 3 aO vk (jR (nth sc.Tables (nth s.T i).toNat) (nth sc.Tables (nth s.T i).toNat).Attrs.length)) rfl) (zL))) ?_
  refine ah (Zs (aq uV Sr rfl) ?_)
  refine Zs (a6 fR Sr rfl zS) ?_
  refine Zs (bC underlying27 Sr zS) ?_
  refine Zm (ab (au ?_))
  refine aK (σ := Nat × Value) (fun ⟨k, vt⟩ => k <= (colsK (nth sc.Tables (nth s.T i).toNat)).length) (fun ⟨k, vt⟩ => upd (upd (upd (upd (upd (upd (upd (upd (upd (upd (upd (upd (upd (upd (upd (upd (upd (upd co 1 (CP (bldO sc s))) 2 (tAt v2 0)) 3 (tAt v3 0)) 4 (bx rV v13)) 5 (eZ 98 [CP (bldO sc s), tAt v3 0, bx rV v13])) 6 (tV (.int .i64 i))) 8 (bx cS (nth sc.Tables (nth s.T i).toNat))) 9 (tAt (vN v9) 0)) 18 (tSl aO s.T)) 19 (tV (.int .i64 s.T.length))) 20 (tV (.int .i64 i))) 22 (tV (.int .i64 i))) 25 (bx cU (bldO sc s))) 26 (bx cU (bldO sc s))) 32 (cS.ty (nth sc.Tables (nth s.T i).toNat))) 60 (rV.ty vk)) 61 (tV (.int .i64 (colsK (nth sc.Tables (nth s.T i).toNat)).length))) 62 (tV (.int .i64 k))) (fun ⟨k, vt⟩ => [box (vN v9) 88 jD (⟨nth s.T i, vk, vt, ((nth sc.Tables (nth s.T i).toNat).Key.length : Int)⟩ : GAtomW), own 3 aO vk (colsK (nth sc.Tables (nth s.T i).toNat)), own 3 aO vt (bR s.P (nth s.S i).toNat (atI sc s i).1 ((colsK (nth sc.Tables (nth s.T i).toNat)).take k)).2, qS v3 v13 va (bR s.P (nth s.S i).toNat (atI sc s i).1 ((colsK (nth sc.Tables (nth s.T i).toNat)).take k)).1, own 88 cg va (atI sc s i).2, box v2 49 bK jB]) (fun ⟨k, vt⟩ => (colsK (nth sc.Tables (nth s.T i).toNat)).length - k) (0, (.slice none 0 0)) (by simp) (zU) (LSub.trans (FR (e := 3) (R := aO)) (zL)) ?_
  rintro ⟨k, vt⟩ hkl0
  try dsimp only at hkl0
  refine Jr (Zs (az Sr Sr) (ab (ap ?_)))
  refine am Sr (fun h63 => ?_) (fun h63 => ?_)
  ·
   try simp only [NF] at h63
   have hkt : k < (colsK (nth sc.Tables (nth s.T i).toNat)).length := by omega
   obtain ⟨hc1, hc2⟩ := tU hk3 _ (nth_mem hkt)
   have htl := kE s.P (nth s.S i).toNat ((colsK (nth sc.Tables (nth s.T i).toNat)).take k) (atI sc s i).1
   rw [List.length_take] at htl
   obtain ⟨hl1, hl2, hl3⟩ := htl
   have hts2 := mB s.P (nth s.S i).toNat (nth (colsK (nth sc.Tables (nth s.T i).toNat)) k) ((colsK (nth sc.Tables (nth s.T i).toNat)).take k) (atI sc s i).1
   rw [<- di hkt] at hts2
   refine av (ap (au (Jr ?_)))
   refine Zs (aG (i := k) underlying27 ty3 Sr zS Sr (by rfl) (by exact hkt)) ?_
   refine Zs (bH ty3 Sr zS (gb (by exact hkt))) ?_
   refine Za (ab ?_)
   refine pj [box (vN v9) 88 jD (⟨nth s.T i, vk, vt, ((nth sc.Tables (nth s.T i).toNat).Key.length : Int)⟩ : GAtomW)] [⟨0, [9], 0⟩, ⟨1, [66], 1⟩, ⟨2, [5], 0⟩, ⟨3, [1], 0⟩, ⟨4, [69], 0⟩, ⟨5, [70], 0⟩, ⟨6, [71], 0⟩, ⟨7, [6], 0⟩, ⟨8, [72, 73], 0⟩, ⟨9, [74], 0⟩, ⟨10, [12], 0⟩, ⟨11, [75, 76], 0⟩] [⟨12, [68, 77], 78, qS v3 v13 va (bR s.P (nth s.S i).toNat (atI sc s i).1 ((colsK (nth sc.Tables (nth s.T i).toNat)).take k)).1, fun v => tV (.int .i64 (dj s.P (bR s.P (nth s.S i).toNat (atI sc s i).1 ((colsK (nth sc.Tables (nth s.T i).toNat)).take k)).1 ((nth s.S i).toNat + (nth (colsK (nth sc.Tables (nth s.T i).toNat)) k).toNat)).2), fun v => qS v3 v13 va (dj s.P (bR s.P (nth s.S i).toNat (atI sc s i).1 ((colsK (nth sc.Tables (nth s.T i).toNat)).take k)).1 ((nth s.S i).toNat + (nth (colsK (nth sc.Tables (nth s.T i).toNat)) k).toNat)).1⟩] [⟨13, [78], 0⟩, ⟨14, [67, 79], 2⟩, ⟨15, [9], 0⟩, ⟨16, [80, 81], 2⟩] (L := [own 3 aO vk (colsK (nth sc.Tables (nth s.T i).toNat)), own 3 aO vt (bR s.P (nth s.S i).toNat (atI sc s i).1 ((colsK (nth sc.Tables (nth s.T i).toNat)).take k)).2, own 88 cg va (atI sc s i).2, box v2 49 bK jB]) (zL) rfl (by kernel_rfl) (Nat.le_of_ble_eq_true rfl) ?_
   refine ba rfl rfl rfl rfl (fun _ => aq uV Sr rfl) ?_
   refine kB rfl rfl rfl rfl (fun _ => a6 fR Sr rfl zS) ?_
   refine ba rfl rfl rfl rfl (fun _ => ar Sr) ?_
   refine ba rfl rfl rfl rfl (fun _ => ad gh Sr) ?_
   refine ba rfl rfl rfl rfl (fun _ => aZ Sr) ?_
   refine ba rfl rfl rfl rfl (fun _ => aa zf Sr rfl) ?_
   refine ba rfl rfl rfl rfl (fun _ => ad dn Sr) ?_
   refine ba rfl rfl rfl rfl (fun _ => ar Sr) ?_
   refine ba rfl rfl rfl rfl (fun _ => ae (i := i) underlying27 ty3 Sr Sr (by rfl) (gb (by show i < s.S.length; omega))) ?_
   refine ba rfl rfl rfl rfl (fun _ => ad ty3 Sr) ?_
   refine ba rfl rfl rfl rfl (fun _ => ar Sr) ?_
   refine ba rfl rfl rfl rfl (fun _ => ax Sr Sr (by show iu (nth s.S i + nth (colsK (nth sc.Tables (nth s.T i).toNat)) k); unfold iu; omega)) ?_
   refine oo ?_
   refine ⟨⟨_, rfl, rfl, rfl, rfl, fun _ => by exact Gt id (eR (aT := [_]) Sr (Sel.take (FN _)) (vG (bldO sc s) hI.pok v3 v13 va (bR s.P (nth s.S i).toNat (atI sc s i).1 ((colsK (nth sc.Tables (nth s.T i).toNat)).take k)).1 ((nth s.S i).toNat + (nth (colsK (nth sc.Tables (nth s.T i).toNat)) k).toNat) (by show _ < s.P.length; omega) zG zG) ⟨Sub.int (by show nth s.S i + nth (colsK (nth sc.Tables (nth s.T i).toNat)) k = _; omega), trivial⟩ call98) (fun _ => rfl) (fun _ => rfl)⟩, fun v78 => ?_⟩
   refine qG ?_
   refine ZX rfl (aB (ys := [_]) underlying27 el3 ⟨rfl, Sr, trivial⟩ rfl (by decide)) ?_
   refine tz rfl rfl rfl rfl (aH underlying27 el3 Sr Sr zS (by simp; omega) (by simp; omega)) fun v80 => ?_
   refine ZX rfl (aq uV Sr rfl) ?_
   refine fB rfl rfl rfl (aS (R := rV) (y' := (⟨nth s.T i, vk, v80, ((nth sc.Tables (nth s.T i).toNat).Key.length : Int)⟩ : GAtomW)) fR Sr Sr zS (by exact ⟨rfl, ⟨rfl, ⟨fun _ _ q => q, rfl, by intro g hg; simp only [List.mem_cons, List.not_mem_nil, or_false] at hg; subst hg; rfl⟩⟩⟩)) fun _ => ?_
   refine nT (ah (Zs (ax Sr Sr z6) (Zm (ab ?_))))
   refine ay (σ := Nat × Value) (s := (k, vt)) (k + 1, v80) zO zG (zU) (.r zS (.r zS (.c zS (SPs.of (A := own 3 aO v80 ((bR s.P (nth s.S i).toNat (atI sc s i).1 ((colsK (nth sc.Tables (nth s.T i).toNat)).take k)).2 ++ [(dj s.P (bR s.P (nth s.S i).toNat (atI sc s i).1 ((colsK (nth sc.Tables (nth s.T i).toNat)).take k)).1 ((nth s.S i).toNat + (nth (colsK (nth sc.Tables (nth s.T i).toNat)) k).toNat)).2])) (by rw [hts2])) (.c zS (SPs.of (A := qS v3 v13 va (dj s.P (bR s.P (nth s.S i).toNat (atI sc s i).1 ((colsK (nth sc.Tables (nth s.T i).toNat)).take k)).1 ((nth s.S i).toNat + (nth (colsK (nth sc.Tables (nth s.T i).toNat)) k).toNat)).1) (by rw [hts2])) (zL)))))
  try simp only [NF] at h63
  obtain rfl : k = (colsK (nth sc.Tables (nth s.T i).toNat)).length := by omega
  refine aV ?_
  refine a7 (L' := [box (vN v9) 88 jD (⟨nth s.T i, vk, vt, ((nth sc.Tables (nth s.T i).toNat).Key.length : Int)⟩ : GAtomW), own 3 aO vk (colsK (nth sc.Tables (nth s.T i).toNat)), own 3 aO vt (bR s.P (nth s.S i).toNat (atI sc s i).1 (colsK (nth sc.Tables (nth s.T i).toNat))).2, qS v3 v13 va (hU sc s.P (atI sc s i).1 (nth s.T i) (nth s.S i).toNat).1, own 88 cg va (atI sc s i).2, box v2 49 bK jB]) (.r zS (.r zS (.c zS (SPs.of (A := own 3 aO vt (bR s.P (nth s.S i).toNat (atI sc s i).1 ((colsK (nth sc.Tables (nth s.T i).toNat)).take (colsK (nth sc.Tables (nth s.T i).toNat)).length)).2) (by rw [List.take_length])) (.c zS (SPs.of (A := qS v3 v13 va (bR s.P (nth s.S i).toNat (atI sc s i).1 ((colsK (nth sc.Tables (nth s.T i).toNat)).take (colsK (nth sc.Tables (nth s.T i).toNat)).length)).1) (by rw [List.take_length]; rfl)) (zL))))) ?_
  refine cA (t := 9) (A' := bx cg (hU sc s.P (atI sc s i).1 (nth s.T i) (nth s.S i).toNat).2) (Sel.take (Sel.take (Sel.take (FN _)))) Frz.atom ?_
  refine K_q fun vc => ?_
  refine ah (Zs (aq sa Sr rfl) ?_)
  refine Zs (a6 r9 Sr rfl zS) ?_
  refine Zl gO Sr ?_
  refine Zs (aB (ys := [_]) underlying47 CY ⟨rfl, Sr, trivial⟩ rfl (by decide)) ?_
  refine Zx (aH underlying47 CY Sr Sr zS (by simp; omega) (by simp; omega)) fun v87 => ?_
  refine Zs (aq sa Sr rfl) ?_
  refine Ju (aS (R := rV) (y' := (⟨0, vc, v87⟩ : GConjW)) r9 Sr Sr zS (by exact ⟨rfl, ⟨rfl, ⟨fun _ _ q => q, rfl, by intro g hg; cases hg⟩⟩⟩)) fun _ => ?_
  refine ab (ah (Zs (ax Sr Sr z6) (Zm (ab ?_))))
  refine ay (σ := Nat × Value) (s := (i, va)) (i + 1, v87) zO zG (zU) (LSub.trans (B := [box v3 49 f8 ⟨0, vc, v87⟩, own 62 rValue vc (hU sc s.P (atI sc s i).1 (nth s.T i) (nth s.S i).toNat).1.C, bD kvI aO v13 (hU sc s.P (atI sc s i).1 (nth s.T i) (nth s.S i).toNat).1.M, own 88 cg v87 ((atI sc s i).2 ++ [(hU sc s.P (atI sc s i).1 (nth s.T i) (nth s.S i).toNat).2]), box v2 49 bK jB]) (zL) (LSub.trans (Gz (s := (hU sc s.P (atI sc s i).1 (nth s.T i) (nth s.S i).toNat).1)) (.c zS (SPs.of (A := qS v3 v13 v87 (hU sc s.P (atI sc s i).1 (nth s.T i) (nth s.S i).toNat).1) (by rw [hstep])) (.c zS (SPs.of (A := own 88 cg v87 ((atI sc s i).2 ++ [(hU sc s.P (atI sc s i).1 (nth s.T i) (nth s.S i).toNat).2])) (by rw [hstep])) (zL)))))
 try simp only [NF] at h21
 obtain rfl : i = s.T.length := by omega
 obtain ⟨hA1, hA2, hA3⟩ := Bb sc s hk hI s.T.length (Nat.le_refl _)
 have hend := Do sc s hts
 refine aV (ap ?_)
 refine K_q fun vc => ?_
 refine ah (Zl qM Sr ?_)
 refine Zs (fA underlying143 Sr zS) ?_
 refine Zs (aq sa Sr rfl) ?_
 refine Ju (aS (R := aO) (y' := (⟨((atI sc s s.T.length).1.M.length : Int), vc, va⟩ : GConjW)) ty3 Sr Sr zS (by exact ⟨fun _ _ q => q, rfl, by intro g hg; simp only [List.mem_cons, List.not_mem_nil, or_false] at hg; rcases hg with rfl | rfl <;> rfl⟩)) fun _ => ?_
 refine ab (ap ?_)
 refine a7 (L' := [box v3 49 f8 (⟨((atI sc s s.T.length).1.M.length : Int), vc, va⟩ : GConjW), own 62 rValue vc (atI sc s s.T.length).1.C, own 88 cg va (atI sc s s.T.length).2, bD kvI aO v13 (atI sc s s.T.length).1.M, box v2 49 bK jB]) (zL) ?_
 refine cA (t := 3) (A' := bx bK (kz sc s)) (Sel.take (Sel.take (Sel.take (FN _)))) (by unfold kz; rw [<- hend]; exact Frz.conj) ?_
 refine ah (Zl g7 Sr ?_)
 refine Ju (ai g7 Sr Sr zS) fun _ => ?_
 refine ab (aC ?_)
 refine aY (rv := .cell 2 49) rfl () (Sel.all _) (.cell g7 Sr zS Sr) (Frz.sub Sr)
theorem mE (sc : GSchema) : BdInv sc st0 := by
  refine ⟨⟨⟨fun _ => 0, fun i hi => ?_⟩, fun i hi => ?_⟩, fun f hf => ?_, rfl, fun i hi => ?_⟩ <;> simp [st0] at *
theorem zW {s : GSchema} (h : no s = true) : ∀ t ∈ s.Tables, t.Key.length <= 12 /\ t.Attrs.length <= 12 /\ ∀ c ∈ t.Key, 0 <= c /\ c < t.Attrs.length := by
  intro t ht
  obtain ⟨i, hi, rfl⟩ := List.getElem_of_mem ht
  rw [<- nth_get hi]
  have ha := mv h hi
  unfold no at h
  simp only [Bool.and_eq_true, decide_eq_true_eq] at h
  have h1 := ez.1 h.2 i hi
  simp only [Bool.and_eq_true] at h1
  have h2 := h1.1
  unfold rightM at h2
  simp only [Bool.and_eq_true] at h2
  have h3 := ez.1 h2.2
  generalize nth s.Tables i = t at h3 ha ⊢
  have hk : ∀ j, j < t.Key.length -> 0 <= nth t.Key j /\ nth t.Key j < t.Attrs.length /\ (j = 0 \/ nth t.Key (j - 1) < nth t.Key j) := fun j hj => by
    have := h3 j hj
    unfold ml at this
    simp only [Bool.and_eq_true, Bool.or_eq_true, decide_eq_true_eq] at this
    exact ⟨this.1.1, this.1.2, this.2⟩
  have hge : ∀ j, j < t.Key.length -> (j : Int) <= nth t.Key j := by
    intro j
    induction j with
    | zero => intro hj; exact (hk 0 hj).1
    | succ j ih =>
      intro hj
      have h4 := ih (by omega)
      have h5 := (hk (j + 1) hj).2.2
      simp at h5
      omega
  refine ⟨?_, ha, fun c hc => ?_⟩
  · cases hl : t.Key.length with
    | zero => omega
    | succ L =>
      have h4 := hge L (by omega)
      have h5 := (hk L (by omega)).2.1
      omega
  · obtain ⟨j, hj, rfl⟩ := List.getElem_of_mem hc
    rw [<- nth_get hj]
    exact ⟨(hk j hj).1, (hk j hj).2.1⟩
theorem xI {sc : GSchema} {n : Nat} {p : aQ} {r : Bst × List Int} (hw : WOk sc n st0 p r) : r.1.P.length <= 12 * cZ n p /\ r.1.T.length <= cZ n p /\ r.1.F.length <= binds n p :=
  ⟨by have := hw.pm; simpa [st0] using this, by have := hw.tl; simpa [st0] using this, by have := hw.fl; simpa [st0] using this⟩
theorem xJ {sc : GSchema} {s : Bst} (hI : BdInv sc s) (hl : s.P.length <= 1000000000) : ∀ x ∈ s.F, Fun1 prog 44 ([bx cU (bldO sc s)] ++ [tV (.int .i64 x)]) (tV (.bool (fJ s.P x.toNat))) := fun x hx => by
  have hb := hI.fin x hx
  obtain ⟨k, rfl⟩ := Int.eq_ofNat_of_zero_le hb.1
  exact sG (bldO sc s) hI.pok hl k (by show k < s.P.length; omega)
theorem pk (sc : GSchema) (hz : SchSz sc) (n : Nat) (p : aQ) (hp : n8 n p) (hd : Dep n p) (hP : np sc p = true -> 12 * cZ n p <= 1000000) (hF : np sc p = true -> binds n p <= 1000000000) : Fun1 prog 15 [bB.ty sc, (aX n).ty p] (fW [bK.ty (ofM sc n p).1, tV (.int .i64 (ofM sc n p).2)]) := by
 refine Spec.enter func15 rfl rfl fun h0 w0 fr0 => ?_
 refine Jr (Zs (aF (R := bB) Sr) (Zs (aF (R := (aX n)) Sr) ?_))
 refine Zx (aE (fun w => zeroValue49 w) zw) fun v4 => ?_
 refine Za (ab (ap (Jr (Zl lV Sr (Zl da Sr ?_)))))
 refine Zs (aj (gE sc hz n p hp) ⟨Sr, Sr, trivial⟩ call16) (Zs (bc Sr) (ab ?_))
 refine am Sr (fun h10 => ?_) (fun h10 => ?_)
 ·
  try simp only [NF] at h10
  refine Jr (Zs (aP (x := (⟨0, [], []⟩ : GConj)) (zs := [[Value.int .i64 0], [Value.slice none 0 0], [Value.slice none 0 0]]) ft (fun w => zeroValue49 w) trivial ⟨fun _ => rfl, fun _ => ⟨_, rfl, none, ⟨0, Nat.le_refl _⟩, rfl, fun q => absurd rfl q⟩, fun _ => ⟨_, rfl, none, ⟨0, Nat.le_refl _⟩, rfl, fun q => absurd rfl q⟩, trivial⟩) ?_)
  refine Ju (ai g7 Sr Sr zS) fun _ => ?_
  refine Za (ab (aC ?_))
  have hO : ofM sc n p = (oh, 1) := by unfold ofM; rw [if_pos h10]
  refine bI (rv := .cell 4 49) (rv' := .tmp 5) rfl () (Sel.all _) (.cell g7 Sr zS Sr) (.tmp Sr) (Frz.sub (Gg (by rw [hO] <;> rfl))) (Frz.sub (Gg (by rw [hO] <;> rfl))) Sr
 try simp only [NF] at h10
 have hval : np sc p = true := by simpa using h10
 have hP := hP hval
 have hF := hF hval
 have hval2 := hval
 unfold np at hval2
 simp only [Bool.and_eq_true] at hval2
 obtain ⟨hs, hv⟩ := hval2
 have hw := kA hs (s := st0) hd hv (mE sc)
 obtain ⟨hb1, hb2, hb3⟩ := xI hw
 have hfl : (walkS sc n st0 p).1.F.length <= 1000000000000 := by omega
 have hal := xJ hw.inv zG
 refine av (Jr (Zl lV Sr (Zs (aP (x := (⟨sc, (.slice none 0 0), (.slice none 0 0), (.slice none 0 0), (.slice none 0 0), false⟩ : GbuilderW)) (zs := [[Value.slice none 0 0], [Value.slice none 0 0], [Value.slice none 0 0], [Value.slice none 0 0], [Value.slice none 0 0], [Value.bool false]]) fc (fun w => zeroValue98 w) ⟨Sr, trivial⟩ ⟨⟨Sr, rfl⟩, fun _ => ⟨rfl, rfl⟩, fun _ => ⟨rfl, rfl⟩, fun _ => ⟨rfl, rfl⟩, fun _ => ⟨rfl, rfl⟩, fun _ => rfl, trivial⟩) ?_)))
 refine Zx (cL (R := cm) Sr) fun v14 => ?_
 refine Za (ab (ap ?_))
 refine a7 (L' := [bsS v14 sc st0, box v4 49 bK jB]) (LSub.trans (FR (e := 3) (R := aO)) (LSub.trans (FR (e := 3) (R := aO)) (LSub.trans (FR (e := 3) (R := aO)) (LSub.trans (FR (e := 135) (R := bm)) (LSub.trans (B := [gP v14 sc (.slice none 0 0) (.slice none 0 0) (.slice none 0 0) (.slice none 0 0) false, own 135 bm (.slice none 0 0) [], own 3 aO (.slice none 0 0) [], own 3 aO (.slice none 0 0) [], own 3 aO (.slice none 0 0) [], box v4 49 bK jB]) (zL) (Gq (s := st0))))))) ?_
 refine bQ [⟨0, [6], true⟩, ⟨1, [6], true⟩, ⟨2, [16], true⟩, ⟨3, [3], true⟩, ⟨4, [15, 17, 18], false⟩] rfl (by kernel_rfl) ?_
 refine Zv rfl (Zv rfl (Zf rfl (aj (vC v14) ⟨Sr, trivial⟩ call42) (Zf rfl (ad da Sr) ?_)))
 refine cN rfl rfl rfl rfl (aR (Sel.take (FN _)) (qI v14 sc hs n 12 p st0 hv hp hd (mE sc) rfl (by simp [st0]; omega) (by simp [st0]; omega) (by simp [st0]; omega)) ⟨Sr, Sr, Sr, trivial⟩ call41) fun v19 => ?_
 refine bP ?_
 refine CQ fun vt vs vp vf => ?_
 refine cA (t := 6) (A' := bx cU (bldO sc (walkS sc n st0 p).1)) (Sel.take (Sel.take (Sel.take (Sel.take (Sel.take (FN _)))))) Frz.bldO ?_
 refine ap (Jr (Zm (Zs (aZ Sr) (Zs (aa zf Sr rfl) (Zl ty4 Sr ?_)))))
 refine Zm ?_
 refine Zk (ar Sr) ?_
 refine Zg (fun hw => aZ (Sub.w hw)) (Zg (fun hw => aa zf (Sub.w hw) rfl) (Zg (fun hw => ad dn (Sub.w hw)) ?_))
 refine Zk (ar Sr) ?_
 refine Zg (fun hw => nD (As := [_]) ⟨Sub.w hw, trivial⟩) (Zg (fun hw => aj (jT (walkS sc n st0 p).1.F hfl 44 [bx cU (bldO sc (walkS sc n st0 p).1)] (fun i => fJ (walkS sc n st0 p).1.P i.toNat) hal call44) ⟨Sub.w hw, Sub.w hw, trivial⟩ call43) (Zs (aD Sr Sr) (ab ?_)))
 refine am Sr (fun h32 => ?_) (fun h32 => ?_)
 ·
  try simp only [NF] at h32
  refine Jr (Zs (aP (x := (⟨0, [], []⟩ : GConj)) (zs := [[Value.int .i64 0], [Value.slice none 0 0], [Value.slice none 0 0]]) ft (fun w => zeroValue49 w) trivial ⟨fun _ => rfl, fun _ => ⟨_, rfl, none, ⟨0, Nat.le_refl _⟩, rfl, fun q => absurd rfl q⟩, fun _ => ⟨_, rfl, none, ⟨0, Nat.le_refl _⟩, rfl, fun q => absurd rfl q⟩, trivial⟩) ?_)
  refine Ju (ai g7 Sr Sr zS) fun _ => ?_
  refine Za (ab (aC ?_))
  have hO : ofM sc n p = (oh, 11) := by unfold ofM; rw [if_neg (by rw [hval]; simp), if_pos h32]
  refine bI (rv := .cell 4 49) (rv' := .tmp 5) rfl () (Sel.all _) (.cell g7 Sr zS Sr) (.tmp Sr) (Frz.sub (Gg (by rw [hO] <;> rfl))) (Frz.sub (Gg (by rw [hO] <;> rfl))) Sr
 try simp only [NF] at h32
 refine av (Jr (Zm (Zs (aj (xH sc (walkS sc n st0 p).1 hw.inv (zW hs) zG zG) ⟨Sr, trivial⟩ call45) ?_)))
 refine Ju (ai g7 Sr Sr zS) fun _ => ?_
 refine Za (ab (aC ?_))
 have hO : ofM sc n p = (kz sc (walkS sc n st0 p).1, 0) := by unfold ofM; rw [if_neg (by rw [hval]; simp), if_neg (by rintro (q | q) <;> simp_all)]
 refine bI (rv := .cell 4 49) (rv' := .tmp 5) rfl () (Sel.all _) (.cell g7 Sr zS Sr) (.tmp Sr) (Frz.sub (Gg (by rw [hO] <;> rfl))) (Frz.sub (Gg (by rw [hO] <;> rfl))) Sr
def pn (P : List Gplace) (j : Nat) : Option GValue := if (nth P j).fixed = true then some (nth P j).value else none
def cvT (P : List Gplace) (x : Nat) : Option GValue := pn P (topM P x)
theorem hY {α : Type} [Inhabited α] {l : List α} {i : Nat} (h : ¬ i < l.length) : nth l i = default := by
 induction l generalizing i with
 | nil => rfl
 | cons a l ih =>
   cases i with
   | zero => exact absurd (Nat.succ_pos _) h
   | succ i => exact ih (by simpa using h)
theorem xK {P : List Gplace} {k : Nat} {x : Gplace} (hk : k < P.length) : upN (P.set k x) = fun j => if j = k then x.up.toNat else upN P j := by
 funext j
 unfold upN
 by_cases hj : j < P.length
 · rw [Lg.nth_set hj]
   by_cases e : k = j
   · rw [if_pos e, if_pos e.symm]
   · rw [if_neg e, if_neg fun q => e q.symm]
 · rw [hY (by rw [List.length_set]; exact hj), hY hj, if_neg (by omega)]
theorem BY {P : List Gplace} (h : POk P) {i : Nat} (hi : i < P.length) (v : GValue) : upN (nq P i v) = upN P := by
 unfold nq
 rw [xK (h.top_lt hi)]
 funext j
 by_cases e : j = topM P i
 · rw [if_pos e, e]; rfl
 · rw [if_neg e]
theorem pq {P : List Gplace} (h : POk P) {i : Nat} (hi : i < P.length) (v : GValue) {x : Nat} (hx : x < P.length) : topM (nq P i v) x = topM P x :=
 qx (h.fix hi v) (by rw [jf]; exact hx) (by rw [BY h hi]; exact (iY h hx).1)
theorem BZ {P : List Gplace} (h : POk P) {i : Nat} (hi : i < P.length) (v : GValue) {j : Nat} (hj : j < P.length) : pn (nq P i v) j = if j = topM P i then some v else pn P j := by
 unfold pn nq
 rw [Lg.nth_set hj]
 by_cases e : topM P i = j
 · rw [if_pos e, if_pos e.symm]; simp
 · rw [if_neg e]
   exact (if_neg fun q : j = topM P i => e q.symm).symm
theorem xL {P : List Gplace} (h : POk P) {i : Nat} (hi : i < P.length) (v : GValue) {x : Nat} (hx : x < P.length) : cvT (nq P i v) x = if topM P x = topM P i then some v else cvT P x := by
 unfold cvT
 rw [pq h hi v hx, BZ h hi v (h.top_lt hx)]
theorem B0 {P : List Gplace} {i k : Nat} (hk : k < P.length) : upN (ky P i k) = tM (upN P) k i := by
 unfold ky
 rw [xK hk]
 funext j
 unfold tM
 by_cases e : j = k
 · rw [if_pos e, if_pos e]; simp
 · rw [if_neg e, if_neg e]
theorem B1 {P : List Gplace} (h : POk P) {i k : Nat} (hi : i < P.length) (hk : k < P.length) (ui : upN P i = i) (uk : upN P k = k) (hne : i ≠ k) {x : Nat} (hx : x < P.length) : topM (ky P i k) x = if topM P x = k then i else topM P x :=
 qx (h.lnk hi hk ui hne) (by rw [fj]; exact hx) (by rw [B0 hk]; exact Dg uk ui hne (iY h hx).1)
theorem B2 {P : List Gplace} {i k j : Nat} (hk : k < P.length) (hj : j < P.length) : pn (ky P i k) j = pn P j := by
 unfold pn ky
 rw [Lg.nth_set hj]
 by_cases e : k = j
 · rw [if_pos e, <- e]
 · rw [if_neg e]
def vH (a b : Option GValue) : Bool := match a, b with | some u, some w => !decide (u = w) | _, _ => false
theorem zX {s : Bst} (h : POk s.P) (hb : s.bad = false) (nn : ∀ x, x < s.P.length -> ∀ v, cvT s.P x = some v -> v.Kind ≠ 0) {i k : Nat} (hi : i < s.P.length) (hk : k < s.P.length) :
  (∀ x y, x < s.P.length -> y < s.P.length -> (topM (bY s i k).P x = topM (bY s i k).P y ↔ topM s.P x = topM s.P y \/ (topM s.P x = topM s.P i /\ topM s.P y = topM s.P k) \/ (topM s.P x = topM s.P k /\ topM s.P y = topM s.P i))) ∧
  (bY s i k).bad = vH (cvT s.P i) (cvT s.P k) ∧
  (∀ x, x < s.P.length -> vH (cvT s.P i) (cvT s.P k) = false -> cvT (bY s i k).P x = if topM s.P x = topM s.P i \/ topM s.P x = topM s.P k then (cvT s.P k).or (cvT s.P i) else cvT s.P x) := by
 have hti := h.top_lt hi
 have htk := h.top_lt hk
 have ui := tN h hi
 have uk := tN h hk
 by_cases e : topM s.P i = topM s.P k
 · have hB : bY s i k = { s with F := if i = k then s.F ++ [(i : Int)] else s.F } := by unfold bY; rw [if_pos e]
   have hc : cvT s.P i = cvT s.P k := by unfold cvT; rw [e]
   rw [hB, hc]
   refine ⟨fun x y _ _ => ?_, ?_, fun x _ _ => ?_⟩
   · show topM s.P x = topM s.P y ↔ _
     rw [e]
     constructor
     · exact .inl
     · rintro (q | q | q)
       · exact q
       · exact q.1.trans q.2.symm
       · exact q.1.trans q.2.symm
   · show s.bad = _; rw [hb]; cases cvT s.P k <;> simp [vH]
   · show cvT s.P x = _
     by_cases q : topM s.P x = topM s.P k
     · rw [if_pos (.inr q)]
       have : cvT s.P x = cvT s.P k := by unfold cvT; rw [q]
       rw [this]; cases cvT s.P k <;> rfl
     · rw [if_neg (by rw [e]; simp [q])]
 · have hl := h.lnk hti htk ui e
   have ht := fun {x : Nat} (hx : x < s.P.length) => B1 h hti htk ui uk e hx
   have hvl := fun {j : Nat} (hj : j < s.P.length) => B2 (i := topM s.P i) htk hj
   have htog : ∀ x y, x < s.P.length -> y < s.P.length -> (topM (ky s.P (topM s.P i) (topM s.P k)) x = topM (ky s.P (topM s.P i) (topM s.P k)) y ↔ topM s.P x = topM s.P y \/ (topM s.P x = topM s.P i /\ topM s.P y = topM s.P k) \/ (topM s.P x = topM s.P k /\ topM s.P y = topM s.P i)) := by
    intro x y hx hy
    rw [ht hx, ht hy]
    by_cases e1 : topM s.P x = topM s.P k <;> by_cases e2 : topM s.P y = topM s.P k
    · rw [if_pos e1, if_pos e2]; simp [e1, e2]
    · rw [if_pos e1, if_neg e2]
      constructor
      · intro q; exact .inr (.inr ⟨e1, q.symm⟩)
      · rintro (q | q | q)
        · exact absurd (q.symm.trans e1) e2
        · exact absurd q.2 e2
        · exact q.2.symm
    · rw [if_neg e1, if_pos e2]
      constructor
      · intro q; exact .inr (.inl ⟨q, e2⟩)
      · rintro (q | q | q)
        · exact absurd (q.trans e2) e1
        · exact q.1
        · exact absurd q.1 e1
    · rw [if_neg e1, if_neg e2]
      constructor
      · exact .inl
      · rintro (q | q | q)
        · exact q
        · exact absurd q.2 e2
        · exact absurd q.1 e1
   have hci : cvT s.P i = pn s.P (topM s.P i) := rfl
   have hck : cvT s.P k = pn s.P (topM s.P k) := rfl
   have hlt : topM s.P i < (ky s.P (topM s.P i) (topM s.P k)).length := by rw [fj]; exact hti
   have hself : topM (ky s.P (topM s.P i) (topM s.P k)) (topM s.P i) = topM s.P i := by
    rw [ht hti, lA h hti ui, if_neg e]
   have hcl : ∀ x, x < s.P.length -> cvT (ky s.P (topM s.P i) (topM s.P k)) x = if topM s.P x = topM s.P i \/ topM s.P x = topM s.P k then cvT s.P i else cvT s.P x := by
    intro x hx
    show pn _ (topM _ x) = _
    rw [ht hx]
    by_cases e1 : topM s.P x = topM s.P k
    · rw [if_pos e1, if_pos (.inr e1), hvl hti]; rfl
    · rw [if_neg e1, hvl (h.top_lt hx)]
      by_cases e2 : topM s.P x = topM s.P i
      · rw [if_pos (.inl e2), e2]; rfl
      · rw [if_neg (by simp [e1, e2])]; rfl
   by_cases hf : (nth s.P (topM s.P k)).fixed = true
   · have hB : bY s i k = oe { s with F := (if i = k then s.F ++ [(i : Int)] else s.F), P := ky s.P (topM s.P i) (topM s.P k) } (topM s.P i) (nth s.P (topM s.P k)).value := by unfold bY; rw [if_neg e, if_pos hf]
     have hvk : cvT s.P k = some (nth s.P (topM s.P k)).value := by rw [hck]; unfold pn; rw [if_pos hf]
     have hkn := nn k hk _ hvk
     rw [hB]
     refine ⟨fun x y hx hy => ?_, ?_, fun x hx hcf => ?_⟩
     · show topM (nq _ _ _) x = topM (nq _ _ _) y ↔ _
       rw [pq hl hlt _ (by rw [fj]; exact hx), pq hl hlt _ (by rw [fj]; exact hy)]
       exact htog x y hx hy
     · show (s.bad || wB _ _ _) = _
       rw [hb, Bool.false_or, hvk]
       unfold wB
       rw [hself, decide_eq_false hkn, Bool.false_or]
       have hfi : (nth (ky s.P (topM s.P i) (topM s.P k)) (topM s.P i)) = nth s.P (topM s.P i) := by
        unfold ky; rw [Lg.nth_set hti, if_neg fun q => e q.symm]
       rw [hfi, hci]
       unfold pn
       by_cases g : (nth s.P (topM s.P i)).fixed = true
       · rw [if_pos g, g]; simp [vH]
       · rw [if_neg g, Bool.eq_false_iff.2 g]; simp [vH]
     · show cvT (nq _ _ _) x = _
       rw [xL hl hlt _ (by rw [fj]; exact hx), hself, hcl x hx, ht hx, hvk]
       by_cases e1 : topM s.P x = topM s.P k
       · rw [if_pos e1, if_pos rfl, if_pos (.inr e1)]; rfl
       · rw [if_neg e1]
         by_cases e2 : topM s.P x = topM s.P i
         · rw [if_pos e2, if_pos (.inl e2)]; rfl
         · rw [if_neg e2, if_neg (by simp [e1, e2]), if_neg (by simp [e1, e2])]
   · have hB : bY s i k = { s with F := (if i = k then s.F ++ [(i : Int)] else s.F), P := ky s.P (topM s.P i) (topM s.P k) } := by unfold bY; rw [if_neg e, if_neg hf]
     have hvk : cvT s.P k = none := by rw [hck]; unfold pn; rw [if_neg hf]
     rw [hB, hvk]
     refine ⟨htog, ?_, fun x hx _ => ?_⟩
     · show s.bad = _; rw [hb]; cases cvT s.P i <;> rfl
     · refine (hcl x hx).trans ?_
       cases cvT s.P i <;> rfl
theorem tX {s : Bst} (h : s.bad = true) (i : Nat) (v : GValue) : (oe s i v).bad = true := by unfold oe; simp [h]
theorem qN {s : Bst} (h : s.bad = true) (i k : Nat) : (bY s i k).bad = true := by
 unfold bY
 split
 · exact h
 · split
   · unfold oe; simp [h]
   · exact h
theorem Dp (s : Bst) (i k : Nat) : (bY s i k).F = if i = k then s.F ++ [(i : Int)] else s.F := by
 unfold bY
 split
 · rfl
 · split <;> rfl
theorem vI {s : Bst} (h : s.bad = true) (t : GTest) (cols : List Int) : (br s t cols).bad = true := by
 unfold br
 split
 · rfl
 · split
   · exact tX h _ _
   · split
     · exact tX h _ _
     · exact qN h _ _
theorem Rt.congr {up vp : Nat -> Nat} {n : Nat} (hn : ∀ j, j < n -> up j < n) (he : ∀ j, j < n -> up j = vp j) {x t : Nat} (h : Rt up x t) (hx : x < n) : Rt vp x t := by
 induction h with
 | @here i h => exact .here (by rw [<- he i hx]; exact h)
 | @go i t hne _ ih =>
   refine .go (by rw [<- he i hx]; exact hne) ?_
   rw [<- he i hx]
   exact ih (hn i hx)
theorem B3 {P : List Gplace} {k j : Nat} (hj : j < P.length) : upN (P ++ cI P.length k) j = upN P j := by unfold upN; rw [gF hj]
theorem B4 {P : List Gplace} {k j : Nat} (h1 : P.length <= j) (h2 : j < P.length + k) : upN (P ++ cI P.length k) j = j := by
 unfold upN; rw [iE h1 (by rw [cO]; exact h2), jP (by omega)]
 show (((P.length + (j - P.length) : Nat) : Int)).toNat = j; omega
theorem gG {P : List Gplace} (h : POk P) {k x : Nat} (hx : x < P.length) : topM (P ++ cI P.length k) x = topM P x :=
 qx (h.new k) (by rw [List.length_append]; omega) (Rt.congr (fun j hj => h.ult hj) (fun j hj => (B3 hj).symm) (iY h hx).1 hx)
theorem jU {P : List Gplace} (h : POk P) {k x : Nat} (h1 : P.length <= x) (h2 : x < P.length + k) : topM (P ++ cI P.length k) x = x :=
 lA (h.new k) (by rw [List.length_append, cO]; exact h2) (B4 h1 h2)
theorem sI {P : List Gplace} (h : POk P) {k x : Nat} (hx : x < P.length) : cvT (P ++ cI P.length k) x = cvT P x := by
 unfold cvT pn
 rw [gG h hx, gF (h.top_lt hx)]
theorem xM {P : List Gplace} (h : POk P) {k x : Nat} (h1 : P.length <= x) (h2 : x < P.length + k) : cvT (P ++ cI P.length k) x = none := by
 unfold cvT pn
 rw [jU h h1 h2, iE h1 (by rw [cO]; exact h2), jP (by omega)]
 rfl
theorem zY {P : List Gplace} {i : Nat} {v : GValue} (h : cvT P i = some v) : (nth P (topM P i)).fixed = true /\ (nth P (topM P i)).value = v := by
 unfold cvT pn at h
 split at h
 · rename_i g; exact ⟨g, by injection h⟩
 · cases h
theorem B5 {m : List (Int × Int)} {q : Int} (h : mget m q = none) : q ∉ m.map (·.1) := by
 induction m with
 | nil => simp
 | cons a m ih =>
   obtain ⟨k, x⟩ := a
   simp only [mget] at h
   split at h
   · cases h
   · rename_i hne
     simp only [List.map_cons, List.mem_cons, not_or]
     exact ⟨hne, ih h⟩
theorem zZ {m : List (Int × Int)} {q y : Int} (h : mget m q = none) : (mput m q y).length = m.length + 1 := by
 have := congrArg List.length (lK m q y)
 rw [if_neg (B5 h)] at this
 simpa using this
theorem mF {s : GSchema} : ∀ {n l : Nat} {p : aQ}, Dep n p -> validM s l p = true -> cZ n p + 1 <= 2 ^ l
 | 0, _, _, hd, _ => hd.elim
 | n + 1, l, p, hd, hv => by
   obtain ⟨l', rfl, _, hn, hvk, _, _⟩ := cG hv
   have h2 : p.Kids.length <= 2 := by unfold kidsN at hn; split at hn <;> (try split at hn) <;> omega
   have hs : ∀ l : List aQ, (∀ q ∈ l, cZ n q + 1 <= 2 ^ l') -> (l.map (cZ n)).sum + l.length <= l.length * 2 ^ l' := by
    intro l
    induction l with
    | nil => intro _; simp
    | cons a l ih =>
      intro h
      have h1 := h a List.mem_cons_self
      have h3 := ih fun q hq => h q (List.mem_cons_of_mem _ hq)
      simp only [List.map_cons, List.sum_cons, List.length_cons, Nat.add_mul, Nat.one_mul]
      omega
   have h3 := hs p.Kids fun q hq => mF (hd q hq) (hvk q hq)
   have hp : 0 < 2 ^ l' := Nat.two_pow_pos l'
   show 1 + (p.Kids.map (cZ n)).sum + 1 <= 2 ^ (l' + 1)
   rw [Nat.pow_succ]
   have h4 : p.Kids.length = 0 \/ p.Kids.length = 1 \/ p.Kids.length = 2 := by omega
   rcases h4 with h4 | h4 | h4 <;> rw [h4] at h3 <;> omega
def smA (a : GAttr) : Bool := decide (a.Was.length <= 10) && decide (a.Default.Text.size <= 300)
def smT (t : GTable) : Bool := decide (t.Attrs.length <= 20) && decide (t.Key.length <= 20) && decide (t.Name.size <= 100) && t.Attrs.all smA
def smS (s : GSchema) : Bool := decide (s.Tables.length <= 24) && s.Tables.all smT
def kG : Nat -> aQ -> Prop
  | 0, _ => True
  | n + 1, p => p.Kids.length <= 9223372036854775807 /\ ∀ q ∈ p.Kids, kG n q
def pU : Nat -> aQ -> Bool
  | 0, _ => true
  | n + 1, p => p.Kids.all (pU n) && (decide (p.Attrs.length <= 40) && decide (p.Tests.length <= 20) && decide (p.Cols.length <= 40))
def B6 (f : aQ -> Int) : Int -> List aQ -> Int
  | a, [] => a
  | a, q :: l => if a < 1000 then B6 f (IntKind.i64.wrap (a + f q)) l else a
def zg : Nat -> aQ -> Int
  | 0, _ => 1
  | n + 1, p => B6 (zg n) 1 p.Kids
theorem xN (f : aQ -> Int) {a : Int} (h : ¬ a < 1000) (l : List aQ) : B6 f a l = a := by
  cases l with
  | nil => rfl
  | cons q l => unfold B6; rw [if_neg h]
def iZ (m : Int) (t : List (List GValue)) : Bool := decide ((t.length : Int) <= m) && t.all fun r => decide (r.length <= 20)
def mG (s : GSchema) (n : Nat) (p : aQ) (ts : List (List (List GValue))) (m : Int) : Bool := smS s && decide (zg n p <= 40) && pU n p && decide (ts.length <= 30) && ts.all (iZ m)
def E4 (n : Nat) : Prop := ∀ (p : aQ), kG n p -> Fun1 prog 7 [(aX n).ty p] (tV (.int .i64 (zg n p)))
def E5 (n : Nat) : Prop := ∀ (p : aQ), kG n p -> Fun1 prog 26 [(aX n).ty p] (tV (.bool (pU n p)))
theorem Et {s : GSchema} (h : smS s = true) (hn : ∀ t ∈ s.Tables, ∀ x ∈ namesL t.Attrs, x.size <= 9223372036854775807) : SchSz s := by
  unfold smS at h
  simp only [Bool.and_eq_true, decide_eq_true_eq, List.all_eq_true] at h
  refine ⟨by omega, fun t ht => ?_⟩
  have h1 := h.2 t ht
  unfold smT at h1
  simp only [Bool.and_eq_true, decide_eq_true_eq, List.all_eq_true] at h1
  refine ⟨by omega, by omega, by omega, fun a ha => ?_, hn t ht⟩
  have h2 := h1.2 a ha
  unfold smA at h2
  simp only [Bool.and_eq_true, decide_eq_true_eq] at h2
  omega
theorem Bc : ∀ {n : Nat} {p : aQ}, Dep n p -> pU n p = true -> kG n p -> n8 n p /\ p.Attrs.length <= 1000
  | 0, _, hd, _, _ => hd.elim
  | n + 1, p, hd, h, hl => by
    obtain ⟨h1, h2⟩ := hl
    simp only [pU, Bool.and_eq_true, decide_eq_true_eq, List.all_eq_true] at h
    exact ⟨⟨h1, by omega, by omega, by omega, fun q hq => Bc (hd q hq) (h.1 q hq) (h2 q hq)⟩, by omega⟩
theorem xO {n : Nat} {p : aQ} (hd : Dep n p) (h : pU n p = true) : p.Attrs.length <= 40 := by
  cases n with
  | zero => exact hd.elim
  | succ n => simp only [pU, Bool.and_eq_true, decide_eq_true_eq] at h; exact h.2.1.1
theorem qO : ∀ {n : Nat} {p : aQ}, Dep n p -> pU n p = true -> binds n p <= 60 * cZ n p
  | 0, _, hd, _ => hd.elim
  | n + 1, p, hd, h => by
    have h0 := h
    simp only [pU, Bool.and_eq_true, decide_eq_true_eq, List.all_eq_true] at h
    have ha : (nth p.Kids 1).Attrs.length <= 40 := by
      by_cases hk : 1 < p.Kids.length
      · exact xO (hd _ (nth_mem hk)) (h.1 _ (nth_mem hk))
      · rw [hY hk]; exact Nat.zero_le _
    have hs : ∀ l : List aQ, (∀ q ∈ l, binds n q <= 60 * cZ n q) -> (l.map (binds n)).sum <= 60 * (l.map (cZ n)).sum := by
      intro l
      induction l with
      | nil => intro _; simp
      | cons a l ih =>
        intro h
        have h1 := h a List.mem_cons_self
        have h3 := ih fun q hq => h q (List.mem_cons_of_mem _ hq)
        simp only [List.map_cons, List.sum_cons, Nat.mul_add]
        omega
    have h3 := hs p.Kids fun q hq => qO (hd q hq) (h.1 q hq)
    show p.Tests.length + (nth p.Kids 1).Attrs.length + (p.Kids.map (binds n)).sum <= 60 * (1 + (p.Kids.map (cZ n)).sum)
    omega
theorem ot {s : GSchema} {n : Nat} {p : aQ} (hd : Dep n p) (hv : np s p = true) (hn : pU n p = true) : 12 * cZ n p <= 1000000 /\ binds n p <= 1000000000 := by
  unfold np at hv
  have h1 := mF hd (Bool.and_eq_true_iff.1 hv).2
  have h2 := qO hd hn
  have : (2 : Nat) ^ 12 = 4096 := by decide
  omega
theorem qP (s : GSchema) : Fun1 prog 25 [bB.ty s] (tV (.bool (smS s))) := by
 refine Spec.enter func25 rfl rfl fun h0 w0 fr0 => ?_
 refine Jr (Zs (aF (R := bB) Sr) (Za (ab (ap (Jr ?_)))))
 refine Zs (aa qb Sr rfl) (Zl qa Sr (Zs (ag underlying22 Sr) (Zs (bj Sr Sr) (ab ?_))))
 refine am Sr (fun h9 => ?_) (fun h9 => ?_)
 ·
  try simp only [NF] at h9
  refine Jr (Za (ab (aC ?_)))
  refine aI (t := 2) rfl () ?_
  refine Sub.bool ?_
  have : ¬ s.Tables.length <= 24 := by omega
  simp [smS, this]
 try simp only [NF] at h9
 refine av (ap (Jr (Za (ab (au ?_)))))
 refine aK (σ := Nat) (fun i => i <= s.Tables.length /\ ∀ k, k < i -> smT (nth s.Tables k) = true) (fun i => upd (upd co 1 (bx bB s)) 3 (tV (.int .i64 i))) (fun i => []) (fun i => s.Tables.length - i) 0 ⟨by omega, fun k hk => by omega⟩ (zU) (LSub.rfl) ?_
 rintro i ⟨hi, hv⟩
 refine ap (Jr (Zm (Zs (aa qb Sr rfl) (Zl qa Sr (Zs (ag underlying22 Sr) ?_)))))
 refine Zs (az Sr Sr) (ab ?_)
 refine am Sr (fun h14 => ?_) (fun h14 => ?_)
 ·
  try simp only [NF] at h14
  have hlt : i < s.Tables.length := by omega
  refine av (ap (au (Jr (Zs (aa qb Sr rfl) (Zl qa Sr ?_)))))
  refine Zm ?_
  refine Zs (ae (i := i) underlying22 nl Sr Sr (by rfl) (gb (by exact hlt))) ?_
  refine Zl nl Sr ?_
  refine Zx (aE (fun w => zeroValue77 w) D0) fun b4 => ?_
  refine Ju (ai nl Sr Sr zS) fun _ => ?_
  refine aN (t := 4) (Sel.take (FN _)) Frz.box ?_
  refine ab (ap (Jr (Zs (aa jC Sr rfl) (Zl eP Sr (Zs (ag underlying28 Sr) ?_)))))
  refine Zs (bj Sr Sr) (Zm ?_)
  refine Zk (aa jC Sr rfl) ?_
  refine Zg (fun hw => ad dn (Sub.w hw)) (Zg (fun hw => ag underlying27 (Sub.w hw)) (Zg (fun hw => bj (Sub.w hw) Sr) (Zs (aD Sr Sr) (Zm ?_))))
  refine Zk (aa jC Sr rfl) ?_
  refine Zg (fun hw => ad ty9 (Sub.w hw)) (Zg (fun hw => bF underlying9 (Sub.w hw)) (Zg (fun hw => bj (Sub.w hw) Sr) (Zs (aD Sr Sr) (ab ?_))))
  refine am Sr (fun h37 => ?_) (fun h37 => ?_)
  ·
   try simp only [NF] at h37
   refine Jr (Za (ab (aC ?_)))
   refine aI (t := 2) rfl () ?_
   refine Sub.bool ?_
   have : smT (nth s.Tables i) = false := by
    unfold smT
    rcases h37 with (h | h) | h
    ·
     simp [show ¬ (nth s.Tables i).Attrs.length <= 20 by omega]
    ·
     simp [show ¬ (nth s.Tables i).Key.length <= 20 by omega]
    simp [show ¬ (nth s.Tables i).Name.size <= 100 by omega]
   simp [smS, ll hlt this]
  try simp only [NF] at h37
  refine av (Jr (Za (ab (au ?_))))
  refine aK (σ := Nat) (fun k => k <= (nth s.Tables i).Attrs.length /\ ∀ j, j < k -> smA (nth (nth s.Tables i).Attrs j) = true) (fun k => upd (upd (upd (upd co 1 (bx bB s)) 3 (tV (.int .i64 i))) 4 (bx cS (nth s.Tables i))) 5 (tV (.int .i64 k))) (fun k => []) (fun k => (nth s.Tables i).Attrs.length - k) 0 ⟨by omega, fun j hj => by omega⟩ (zU) (LSub.rfl) ?_
  rintro k ⟨hk, hw⟩
  refine ap (Jr (Zm (Zs (aa jC Sr rfl) (Zl eP Sr (Zs (ag underlying28 Sr) ?_)))))
  refine Zs (az Sr Sr) (ab ?_)
  refine am Sr (fun h42 => ?_) (fun h42 => ?_)
  ·
   try simp only [NF] at h42
   have hkt : k < (nth s.Tables i).Attrs.length := by omega
   refine av (ap (au (Jr (Zs (aa jC Sr rfl) (Zl eP Sr ?_)))))
   refine Zm ?_
   refine Zs (ae (i := k) underlying28 eS Sr Sr (by rfl) (gb (by exact hkt))) ?_
   refine Zs (aa gV Sr rfl) (Zl wU Sr (Zs (ag underlying60 Sr) (Zs (bj Sr Sr) (Zm ?_))))
   refine Zk (aa jC Sr rfl) ?_
   refine Zg (fun hw => ad eP (Sub.w hw)) ?_
   refine Zk (ar Sr) ?_
   refine Zg (fun hw => ae (i := k) underlying28 eS (Sub.w hw) (Sub.w hw) (by rfl) (gb (by have hwq := hw; (try simp only [beqB_t, beqB_f, NF] at hwq); exact hkt))) ?_
   refine Zg (fun hw => aa gV (Sub.w hw) rfl) (Zg (fun hw => aa fp (Sub.w hw) rfl) (Zg (fun hw => ad ty9 (Sub.w hw)) (Zg (fun hw => bF underlying9 (Sub.w hw)) (Zg (fun hw => bj (Sub.w hw) Sr) (Zs (aD Sr Sr) ?_)))))
   refine ab ?_
   refine am Sr (fun h63 => ?_) (fun h63 => ?_)
   ·
    try simp only [NF] at h63
    refine Jr (Za (ab (aC ?_)))
    refine aI (t := 2) rfl () ?_
    refine Sub.bool ?_
    have : smA (nth (nth s.Tables i).Attrs k) = false := by
     unfold smA
     rcases h63 with h | h
     ·
      simp [show ¬ (nth (nth s.Tables i).Attrs k).Was.length <= 10 by omega]
     simp [show ¬ (nth (nth s.Tables i).Attrs k).Default.Text.size <= 300 by omega]
    have : smT (nth s.Tables i) = false := by unfold smT; simp [ll hkt this]
    simp [smS, ll hlt this]
   try simp only [NF] at h63
   refine av (ah (Zm (Zs (ax Sr Sr z6) (Za (ab ?_)))))
   refine ay (σ := Nat) (s := k) (k + 1) zO ?_ (zU) (LSub.rfl)
   refine ⟨by omega, fun j hj => ?_⟩
   by_cases e : j = k
   ·
    rw [e]; unfold smA; simp; omega
   exact hw j zG
  try simp only [NF] at h42
  have hat : (nth s.Tables i).Attrs.all smA = true := l4 (fun j hj => hw j zG)
  refine aV (ah (Zm (Zs (ax Sr Sr z6) (Za (ab ?_)))))
  refine ay (σ := Nat) (s := i) (i + 1) zO ?_ (zU) (LSub.rfl)
  refine ⟨by omega, fun k hk => ?_⟩
  by_cases e : k = i
  ·
   rw [e]; unfold smT; rw [hat]; simp; omega
  exact hv k zG
 try simp only [NF] at h14
 have hall : s.Tables.all smT = true := l4 (fun k hk => hv k zG)
 refine aV (Jr (Za (ab (aC ?_))))
 refine aI (t := 2) rfl () ?_
 refine Sub.bool ?_
 have : s.Tables.length <= 24 := by omega
 simp only [smS, hall, this]; simp
theorem vJ (n : Nat) (p : aQ) (hl : kG (n + 1) p) (ih : E4 n) : Fun1 prog 7 [(aX (n + 1)).ty p] (tV (.int .i64 (zg (n + 1) p))) := by
 refine Spec.enter func7 rfl rfl fun h0 w0 fr0 => ?_
 obtain ⟨hl1, hl2⟩ := hl
 refine Jr (Zs (aF (R := (aX (n + 1))) Sr) (Za (ab (Jr (Za ?_)))))
 refine ab (ap (Jr (Za (ab (au ?_)))))
 refine aK (σ := Nat × Int) (fun ⟨i, a⟩ => i <= p.Kids.length /\ B6 (zg n) a (p.Kids.drop i) = B6 (zg n) 1 p.Kids) (fun ⟨i, a⟩ => upd (upd (upd (upd co 1 (bx (aX (n + 1)) p)) 2 (tV (.int .i64 0))) 3 (tV (.int .i64 a))) 4 (tV (.int .i64 i))) (fun ⟨i, a⟩ => []) (fun ⟨i, a⟩ => p.Kids.length - i) (0, 1) ⟨by omega, by rw [List.drop_zero]⟩ (zU) (LSub.rfl) ?_
 rintro ⟨i, a⟩ ⟨hi, hv⟩
 refine ap (Jr (Zm (Zs (aa cq Sr rfl) (Zl lW Sr (Zs (ag underlying25 Sr) ?_)))))
 refine Zs (az Sr Sr) (Zm ?_)
 refine Zk (ar Sr) ?_
 refine Zg (fun hw => az (Sub.w hw) Sr) (Zs (aw Sr Sr) (ab ?_))
 refine am Sr (fun h13 => ?_) (fun h13 => ?_)
 ·
  try simp only [NF] at h13
  have hlt : i < p.Kids.length := by omega
  have ha : a < 1000 := h13.2
  have hdr := fq hlt
  refine av (ap (au (ah (Zm (Zs (aa cq Sr rfl) ?_)))))
  refine Zl lW Sr (Zm ?_)
  refine Zs (ae (i := i) underlying25 da Sr Sr (by rfl) (gb (by exact hlt))) ?_
  refine Zl da Sr (Zs (aj (ih _ (hl2 _ (nth_mem hlt))) ⟨Sr, trivial⟩ call7) (Zs (xq Sr Sr) (Za (ab (ah ?_)))))
  refine Zm (Zs (ax Sr Sr z6) (Za (ab ?_)))
  refine ay (σ := Nat × Int) (s := (i, a)) (i + 1, IntKind.i64.wrap (a + zg n (nth p.Kids i))) zO ?_ (zU) (LSub.rfl)
  refine ⟨by omega, ?_⟩
  rw [<- hv, hdr]
  show _ = if a < 1000 then _ else a
  rw [if_pos ha]
 try simp only [NF] at h13
 refine aV (Jr (Zm (Za (ab (aC ?_)))))
 refine aI (t := 2) rfl () (Sub.int ?_)
 show a = B6 (zg n) 1 p.Kids
 rw [<- hv]
 by_cases ha : a < 1000
 ·
  have : i = p.Kids.length := by omega
  rw [this, List.drop_length]; rfl
 rw [xN _ ha]
theorem qQ : ∀ n, E4 n
 | 0 => fun p hl => by
  refine Spec.enter func7 rfl rfl fun h0 w0 fr0 => ?_
  exact fF 0 (fun _ _ r => (show False from r)) fun q => q.elim
 | n + 1 => fun p hl => vJ n p hl (qQ n)
theorem vK (n : Nat) (p : aQ) (hl : kG (n + 1) p) (ih : E5 n) : Fun1 prog 26 [(aX (n + 1)).ty p] (tV (.bool (pU (n + 1) p))) := by
 refine Spec.enter func26 rfl rfl fun h0 w0 fr0 => ?_
 obtain ⟨hl1, hl2⟩ := hl
 refine Jr (Zs (aF (R := (aX (n + 1))) Sr) (Za (ab (ap (Jr ?_)))))
 refine Za (ab (au ?_))
 refine aK (σ := Nat) (fun i => i <= p.Kids.length /\ ∀ k, k < i -> pU n (nth p.Kids k) = true) (fun i => upd (upd co 1 (bx (aX (n + 1)) p)) 3 (tV (.int .i64 i))) (fun i => []) (fun i => p.Kids.length - i) 0 ⟨by omega, fun k hk => by omega⟩ (zU) (LSub.rfl) ?_
 rintro i ⟨hi, hv⟩
 refine ap (Jr (Zm (Zs (aa cq Sr rfl) (Zl lW Sr (Zs (ag underlying25 Sr) ?_)))))
 refine Zs (az Sr Sr) (ab ?_)
 refine am Sr (fun h8 => ?_) (fun h8 => ?_)
 ·
  try simp only [NF] at h8
  have hlt : i < p.Kids.length := by omega
  refine av (ap (au (Jr (Zs (aa cq Sr rfl) (Zl lW Sr ?_)))))
  refine Zm ?_
  refine Zs (ae (i := i) underlying25 da Sr Sr (by rfl) (gb (by exact hlt))) ?_
  refine Zl da Sr (Zs (aj (ih _ (hl2 _ (nth_mem hlt))) ⟨Sr, trivial⟩ call26) (Zs (bc Sr) (ab ?_)))
  refine am Sr (fun h17 => ?_) (fun h17 => ?_)
  ·
   try simp only [NF] at h17
   refine Jr (Za (ab (aC ?_)))
   refine aI (t := 2) rfl () ?_
   refine Sub.bool ?_
   have : p.Kids.all (pU n) = false := ll hlt (by simpa using h17)
   simp only [pU, this, Bool.false_and]
  try simp only [NF] at h17
  refine av (ah (Zm (Zs (ax Sr Sr z6) (Za (ab ?_)))))
  refine ay (σ := Nat) (s := i) (i + 1) zO ?_ (zU) (LSub.rfl)
  exact nU (p := fun q => pU n q = true) hlt hv (by simpa using h17)
 try simp only [NF] at h8
 have hall : p.Kids.all (pU n) = true := l4 (fun k hk => hv k zG)
 refine aV (Jr (Zs (aa cq Sr rfl) (Zl eP Sr (Zs (ag underlying28 Sr) (Zs (bS Sr Sr) ?_)))))
 refine Zm ?_
 refine Zk (aa cq Sr rfl) ?_
 refine Zg (fun hw => ad ze (Sub.w hw)) (Zg (fun hw => ag underlying26 (Sub.w hw)) (Zg (fun hw => bS (Sub.w hw) Sr) (Zs (aw Sr Sr) (Zm ?_))))
 refine Zk (aa cq Sr rfl) ?_
 refine Zg (fun hw => ad dn (Sub.w hw)) (Zg (fun hw => ag underlying27 (Sub.w hw)) (Zg (fun hw => bS (Sub.w hw) Sr) (Zs (aw Sr Sr) (Za (ab ?_)))))
 refine aC ?_
 refine aI (t := 2) rfl () ?_
 refine Sub.bool ?_
 have e : ∀ a b : Nat, decide ((a : Int) <= (b : Int)) = decide (a <= b) := fun a b => by rw [decide_eq_decide]; omega
 simp only [pU, hall, Bool.true_and]
 have e1 := e p.Attrs.length 40
 have e2 := e p.Tests.length 20
 have e3 := e p.Cols.length 40
 simp only [<- e1, <- e2, <- e3]; rfl
theorem qR : ∀ n, E5 n
 | 0 => fun p hl => by
  refine Spec.enter func26 rfl rfl fun h0 w0 fr0 => ?_
  exact fF 0 (fun _ _ r => (show False from r)) fun q => q.elim
 | n + 1 => fun p hl => vK n p hl (qR n)
theorem sJ (s : GSchema) (n : Nat) (p : aQ) (hl : kG n p) (ts : List (List (List GValue))) (m : Int) (hz : ∀ t ∈ ts, t.length <= 9223372036854775807) : Fun1 prog 6 [bB.ty s, (aX n).ty p, tSl (rSl (rSl rValue)) ts, tV (.int .i64 m)] (tV (.bool (mG s n p ts m))) := by
 refine Spec.enter func6 rfl rfl fun h0 w0 fr0 => ?_
 refine Jr (Zs (aF (R := bB) Sr) (Zs (aF (R := (aX n)) Sr) (Za (ab (ap ?_)))))
 refine Jr (Zl lV Sr (Zs (aj (qP _) ⟨Sr, trivial⟩ call25) (Zs (bc Sr) (Zm ?_))))
 refine Zk (ad da Sr) ?_
 refine Zg (fun hw => aj (qQ n p hl) ⟨Sub.w hw, trivial⟩ call7) (Zg (fun hw => bj (Sub.w hw) Sr) (Zs (aD Sr Sr) (Zm ?_)))
 refine Zk (ad da Sr) ?_
 refine Zg (fun hw => aj (qR n p hl) ⟨Sub.w hw, trivial⟩ call26) (Zg (fun hw => bc (Sub.w hw)) (Zs (aD Sr Sr) (Zm ?_)))
 refine Zk (ar Sr) ?_
 refine Zg (fun hw => ag underlying35 (Sub.w hw)) (Zg (fun hw => bj (Sub.w hw) Sr) (Zs (aD Sr Sr) (ab ?_)))
 refine am Sr (fun h28 => ?_) (fun h28 => ?_)
 ·
  try simp only [NF] at h28
  refine Jr (Za (ab (aC ?_)))
  refine aI (t := 8) rfl () ?_
  refine Sub.bool ?_
  unfold mG
  rcases h28 with ((h | h) | h) | h
  ·
   simp [h]
  ·
   simp [show ¬ zg n p <= 40 by omega]
  ·
   simp [h]
  simp [show ¬ ts.length <= 30 by omega]
 try simp only [NF] at h28
 have hb : smS s = true /\ zg n p <= 40 /\ pU n p = true /\ ts.length <= 30 := ⟨h28.1.1.1, h28.1.1.2, h28.1.2, by omega⟩
 refine av (ap (Jr (Za (ab (au ?_)))))
 refine aK (σ := Nat) (fun i => i <= ts.length /\ ∀ k, k < i -> iZ m (nth ts k) = true) (fun i => upd (upd (upd co 2 (tSl (rSl (rSl rValue)) ts)) 3 (tV (.int .i64 m))) 9 (tV (.int .i64 i))) (fun i => []) (fun i => ts.length - i) 0 ⟨by omega, fun k hk => by omega⟩ (zU) (LSub.rfl) ?_
 rintro i ⟨hi, hv⟩
 refine ap (Jr (Zm (Zm (Zs (ag underlying35 Sr) (Zs (az Sr Sr) ?_)))))
 refine ab ?_
 refine am Sr (fun h32 => ?_) (fun h32 => ?_)
 ·
  try simp only [NF] at h32
  have hlt : i < ts.length := by omega
  have hzi := hz _ (nth_mem hlt)
  refine av (ap (au (ap (Jr (Zm ?_)))))
  refine Zm ?_
  refine Zs (ae (i := i) underlying35 fX Sr Sr (by rfl) (gb (by exact hlt))) ?_
  refine Zl fX Sr (Zs (ag underlying38 Sr) (Zm (Zs (bj Sr Sr) (ab ?_))))
  refine am Sr (fun h41 => ?_) (fun h41 => ?_)
  ·
   try simp only [NF] at h41
   refine Jr (Za (ab (aC ?_)))
   refine aI (t := 8) rfl () ?_
   refine Sub.bool ?_
   have : iZ m (nth ts i) = false := by unfold iZ; simp [show ¬ ((nth ts i).length : Int) <= m by omega]
   simp [mG, ll hlt this]
  try simp only [NF] at h41
  refine av (Jr (Za (ab (au ?_))))
  refine aK (σ := Nat) (fun k => k <= (nth ts i).length /\ ∀ j, j < k -> decide ((nth (nth ts i) j).length <= 20) = true) (fun k => upd (upd (upd (upd co 2 (tSl (rSl (rSl rValue)) ts)) 3 (tV (.int .i64 m))) 9 (tV (.int .i64 i))) 10 (tV (.int .i64 k))) (fun k => []) (fun k => (nth ts i).length - k) 0 ⟨by omega, fun j hj => by omega⟩ (zU) (LSub.rfl) ?_
  rintro k ⟨hk, hw⟩
  refine ap (Jr (Zm (Zm (Zm ?_))))
  refine Zs (ae (i := i) underlying35 fX Sr Sr (by rfl) (gb (by exact hlt))) ?_
  refine Zl fX Sr (Zs (ag underlying38 Sr) (Zs (az Sr Sr) (ab ?_)))
  refine am Sr (fun h48 => ?_) (fun h48 => ?_)
  ·
   try simp only [NF] at h48
   have hkt : k < (nth ts i).length := by omega
   refine av (ap (au (Jr (Zm (Zm ?_)))))
   refine Zs (ae (i := i) underlying35 fX Sr Sr (by rfl) (gb (by exact hlt))) ?_
   refine Zl fX Sr (Zm ?_)
   refine Zs (ae (i := k) underlying38 dt Sr Sr (by rfl) (gb (by exact hkt))) ?_
   refine Zl dt Sr (Zs (ag underlying45 Sr) (Zs (bj Sr Sr) (ab ?_)))
   refine am Sr (fun h59 => ?_) (fun h59 => ?_)
   ·
    try simp only [NF] at h59
    refine Jr (Za (ab (aC ?_)))
    refine aI (t := 8) rfl () ?_
    refine Sub.bool ?_
    have h1 : ((nth ts i).all fun r => decide (r.length <= 20)) = false := ll hkt (by rw [decide_eq_false_iff_not]; omega)
    have : iZ m (nth ts i) = false := by unfold iZ; rw [h1, Bool.and_false]
    simp [mG, ll hlt this]
   try simp only [NF] at h59
   refine av (ah (Zm (Zs (ax Sr Sr z6) (Za (ab ?_)))))
   refine ay (σ := Nat) (s := k) (k + 1) zO ?_ (zU) (LSub.rfl)
   refine ⟨by omega, fun j hj => ?_⟩
   by_cases e : j = k
   ·
    rw [e, decide_eq_true_eq]; omega
   exact hw j zG
  try simp only [NF] at h48
  have hrt : ((nth ts i).all fun r => decide (r.length <= 20)) = true := l4 (fun j hj => hw j zG)
  refine aV (ah (Zm (Zs (ax Sr Sr z6) (Za (ab ?_)))))
  refine ay (σ := Nat) (s := i) (i + 1) zO ?_ (zU) (LSub.rfl)
  refine ⟨by omega, fun k hk => ?_⟩
  by_cases e : k = i
  ·
   rw [e]; unfold iZ; rw [hrt]; simp; omega
  exact hv k zG
 try simp only [NF] at h32
 have hall : ts.all (iZ m) = true := l4 (fun k hk => hv k zG)
 refine aV (Jr (Za (ab (aC ?_))))
 refine aI (t := 8) rfl () ?_
 refine Sub.bool ?_
 simp [mG, hb.1, hb.2.1, hb.2.2.1, hb.2.2.2, hall]
instance : DecidableEq GSide := fun a b => decidable_of_iff (a.Var = b.Var /\ a.Col = b.Col /\ a.Value = b.Value) ⟨fun ⟨h1, h2, h3⟩ => by cases a; cases b; simp_all, fun h => by subst h; exact ⟨rfl, rfl, rfl⟩⟩
instance : DecidableEq GTest := fun a b => decidable_of_iff (a.Left = b.Left /\ a.Op = b.Op /\ a.Right = b.Right /\ a.Add = b.Add) ⟨fun ⟨h1, h2, h3, h4⟩ => by cases a; cases b; simp_all, fun h => by subst h; exact ⟨rfl, rfl, rfl, rfl⟩⟩
theorem val_cells {h : PH} {x : GValue} {cs : List Value} (r : rValue.rel h x cs) : cs = [.int .i64 x.Kind, .int .i64 x.N, .string x.Text] := by
 obtain ⟨c0, _, rfl, r0, c1, _, rfl, r1, c2, _, rfl, r2, rz⟩ := r
 have r0 : c0 = [.int .i64 x.Kind] := r0
 have r1 : c1 = [.int .i64 x.N] := r1
 have r2 : c2 = [.string x.Text] := r2
 subst r0 r1 r2; rw [show _ = [] from rz]; rfl
open Go
open Go.Sort (SWO SortedIn PermIn)
section
variable {β : Type} (R : Rp β)
abbrev El (p : β -> Prop) (h : PH) : Type := { q : Value × β // (R.ty q.2).p h q.1 /\ p q.2 }
variable {R}
theorem El.of_relAll {p : β -> Prop} {h : PH} (hR : R.agg = false) : ∀ {xs : List β} {cs : List Value}, (∀ x ∈ xs, p x) -> relAll R h xs cs -> ∃ ds : List (El R p h), ds.map (fun x => x.1.2) = xs /\ ds.map (fun x => x.1.1) = cs
 | [], _, _, r => by cases r; exact ⟨[], rfl, rfl⟩
 | x :: xs, _, hp, ⟨c1, c2, e, r1, r2⟩ => by
   subst e
   obtain ⟨ds, h1, h2⟩ := El.of_relAll hR (fun x hx => hp x (by simp [hx])) r2
   have hl := R.len r1
   rw [R.scalar hR] at hl
   match c1, hl with
   | [v], _ =>
     have hv : (R.ty x).p h v := by have := R.pack r1; rw [hR] at this; exact this
     exact ⟨⟨(v, x), hv, hp x (by simp)⟩ :: ds, by simp [h1], by simp [h2]⟩
theorem El.relAll {p : β -> Prop} {h : PH} (hR : R.agg = false) : ∀ (ds : List (El R p h)), Lg.relAll R h (ds.map fun x => x.1.2) (ds.map fun x => x.1.1)
 | [] => rfl
 | ⟨(v, x), hv, _⟩ :: ds => by
   refine ⟨[v], ds.map (fun x => x.1.1), rfl, ?_, El.relAll hR ds⟩
   obtain ⟨cs, r, e⟩ := R.iff.1 hv
   have hl := R.len r
   rw [R.scalar hR] at hl
   match cs, hl with
   | [u], _ =>
     simp only [packV, hR, Bool.false_eq_true, if_false, List.headD_cons] at e
     subst e; exact r
end
theorem pr {P : Program} {ρ : Shelf.Ren} (LL : Go.Proofs.SlLaysF.n6 P ρ) {β : Type} {R : Rp β} (hR : R.agg = false) (cf : β -> β -> Int) (hO : SWO (Go.Proofs.ltOf cf)) {gf e : Nat} (eg : ∀ args w, (callFunc gf args).run P w = .ok (.enter gf args) w)
  (p : β -> Prop) (hc : ∀ x y, p x -> p y -> ∀ (u u' : Value) (h : PH) (W : World), h.inw W -> (R.ty x).p h u -> (R.ty y).p h u' -> Calls P gf #[u, u'] W fun e' w' => e' = .returned (.int .i64 (cf x y)) /\ ∃ q os, w' = Sort.grow (W.drewN q) os) (v : Value) (xs : List β) (hpx : ∀ x ∈ xs, p x) (hn : xs.length < 4611686018427387904) :
  Spec (X := { ys : List β // ys.Perm xs /\ ys.Pairwise fun a b => Go.Proofs.ltOf cf b a = false }) P (ρ.f 6) [rV.ty v, tV (.func (.func gf) #[] #[])] [own e R v xs] (fun _ => fW []) (fun ys => [own e R v ys.1]) := by
 intro vs h m r w ha sp st
 match vs, ha with
 | [u1, u2], ⟨a1, a2, _⟩ =>
 obtain ⟨e1, _⟩ := a1
 have e2 : u2 = .func (.func gf) #[] #[] := a2
 subst e1; subst e2
 obtain ⟨m1, m2, d12, rfl, ho, e3⟩ := st
 rw [eY] at e3; subst e3
 rw [FY] at sp
 have none_case : ∀ (p : Option Addr) (cap : Nat), u1 = .slice p 0 cap -> xs = [] -> Calls P (ρ.f 6) [u1, .func (.func gf) #[] #[]].toArray w (Ret (X := { ys : List β // ys.Perm xs /\ ys.Pairwise fun a b => Go.Proofs.ltOf cf b a = false }) h w r (fun _ => fW []) (fun ys => [own e R u1 ys.1])) := by
  intro p cap hu hx
  subst hu; subst hx
  refine (Go.Proofs.AnyF.slices_SortFunc_none (P := P) (ρ := ρ) { LL with } p cap _ w).mono ?_
  rintro e' w' ⟨rfl, rfl⟩
  refine ⟨⟨[], List.Perm.refl _, List.Pairwise.nil⟩, _, h, m1, rfl, HL.refl, sp, ⟨m1, PH.emp, FX _, (FY _).symm, ho, rfl⟩, ⟨[], rfl, trivial⟩⟩
 rcases ho with ⟨rfl, rfl, rfl⟩ | ⟨g, cap, cur, rfl, rfl, hl, hm, hs, hr⟩
 · exact none_case none 0 rfl rfl
 · by_cases hx : xs = []
   · subst hx; exact none_case _ cap rfl rfl
   · obtain ⟨ds, hd1, hd2⟩ := El.of_relAll (p := p) hR hpx hr
     have hk := R.scalar hR
     rw [hk, Nat.mul_one] at hd2 hs
     have hlen : ds.length = xs.length := by rw [<- hd1]; simp
     have hne : ds ≠ [] := fun q => hx (by rw [<- hd1, q]; rfl)
     haveI : Inhabited (El R p h) := ⟨ds.head hne⟩
     have hb := sp.mw g _ (F3 _ _)
     have hgh : h g = none := PH.disj_one_iff.1 sp.hm
     have hget : ∀ j, j < ds.toArray.size -> cur[j]? = some (ds.toArray[j]!).1.1 := fun j hj => by
      have hj' : j < ds.length := by simpa using hj
      have : (cur.toList.take xs.length)[j]? = some (ds[j]).1.1 := by rw [<- hd2]; simp [hj']
      rw [List.getElem?_take, if_pos (by omega)] at this
      rw [getElem!_pos _ j hj]
      simpa using this
     have hH : Sort.Holds (fun x : El R p h => x.1.1) w g 0 ds.toArray := fun j hj => ⟨by
      rw [Nat.zero_add]; simp only [World.cell?, hb]
      exact hget j hj, by simp [World.frozen?, hb]⟩
     have hcell : ∀ x : El R p h, x.1.1.oneCell' = true := fun x => by
      obtain ⟨cs, rx, ex⟩ := R.iff.1 x.2.1
      have hlx := R.len rx
      rw [hk] at hlx
      match cs, hlx with
      | [u], _ => simp only [packV, hR, Bool.false_eq_true, if_false, List.headD_cons] at ex; rw [ex]; exact R.one rx u (by simp)
     have hblk : g < w.heap.size := (Array.getElem?_eq_some_iff.1 hb).1
     have hcmp : Go.Proofs.CmpLays1 P gf #[] (fun x : El R p h => x.1.1) (fun x y => cf x.1.2 y.1.2) g 0 ds.toArray.size w := by
      intro n os dk hdk x y
      have hw : h.inw (Go.Proofs.sortWorld (fun x : El R p h => x.1.1) w g 0 n dk os) := fun b o eb => by
       have hne' : b ≠ g := fun q => by rw [q, hgh] at eb; cases eb
       rw [fd (Gr sp.hw eb) hne']; exact sp.hw b o eb
      refine (hc x.1.2 y.1.2 x.2.2 y.2.2 x.1.1 y.1.1 h _ hw x.2.1 y.2.1).mono ?_
      rintro e' w' ⟨he, q, os', hq⟩
      exact ⟨he, q, os', hq⟩
     have hO' : SWO (Go.Proofs.ltOf fun x y : El R p h => cf x.1.2 y.1.2) := ⟨fun x => hO.irrefl _, fun x y z => hO.trans _ _ _, fun x y z => hO.ntrans _ _ _⟩
     have hS := Go.Proofs.Any.slices_SortFunc LL (fun x : El R p h => x.1.1) hcell (fun x y => cf x.1.2 y.1.2) hO' gf #[] g 0 cap ds.toArray w eg hcmp hH hblk (by simpa [hlen] using hn)
     have hsz : ds.toArray.size = xs.length := by simp [hlen]
     rw [hsz] at hS
     refine hS.mono ?_
     rintro e' w' ⟨rfl, d', n, os, ⟨p1, _, p3⟩, hso, rfl⟩
     have hd's : d'.size = xs.length := by rw [p1, hsz]
     have hperm : d'.toList.Perm ds := by
      have q1 : (d'.extract 0 xs.length) = d' := by rw [<- hd's]; simp
      have q2 : (ds.toArray.extract 0 xs.length) = ds.toArray := by rw [<- hsz]; simp
      rw [q1, q2] at p3
      simpa using p3
     have hcur : (Sort.putCells (fun x : El R p h => x.1.1) 0 d' cur).toList.take xs.length = d'.toList.map (fun x => x.1.1) := by
      apply List.ext_getElem?
      intro j
      rw [List.getElem?_take]
      split
      · rename_i hj
        have hjc : j < cur.size := by omega
        have hjd : j < d'.size := by omega
        simp [Sort.putCells, hjc, hjd, hj, hd's]
      · rw [List.getElem?_eq_none (by simp; omega)]
     refine ⟨⟨d'.toList.map (fun x => x.1.2), ?_, ?_⟩, _, h, PH.one g (.cells (Sort.putCells (fun x : El R p h => x.1.1) 0 d' cur) e (0, 0)), rfl, HL.same ⟨rfl, rfl, rfl⟩, ?_, ⟨_, PH.emp, FX _, (FY _).symm, .inr ⟨g, cap, _, by simp [hd's], rfl, by simpa [hd's] using hl, hm, ?_, ?_⟩, rfl⟩, ⟨[], rfl, trivial⟩⟩
     · have := hperm.map (fun x : El R p h => x.1.2)
       rw [hd1] at this; exact this
     · rw [List.pairwise_map]
       rw [List.pairwise_iff_getElem]
       intro i j hi hj hij
       have hi' : i < d'.size := by simpa using hi
       have hj' : j < d'.size := by simpa using hj
       have := hso i j (by omega) hij (by omega)
       rw [getElem!_pos d' i hi', getElem!_pos d' j hj'] at this
       simp only [Array.getElem_toList]
       exact this
     · have sp' : Sep h ((PH.one g (.cells cur e (0, 0))).join PH.emp) r w := by rw [FY]; exact sp
       have := F4 (o' := .cells (Sort.putCells (fun x : El R p h => x.1.1) 0 d' cur) e (0, 0)) (FX _) sp' (fun b hne' hb' => fd (enc := fun x : El R p h => x.1.1) (off := 0) (m := n) (dk := d') (os := os) hb' hne') (jJ hb)
       rw [FY] at this; exact this
     · simp [Sort.putCells, hs, hk]
     · have e5 : (d'.toList.map (fun x : El R p h => x.1.2)).length = xs.length := by simp [hd's]
       rw [e5, hk, Nat.mul_one, hcur]
       exact El.relAll hR d'.toList
open Go.Sort (SWO)
theorem bytesLess_iff : ∀ (a b : List UInt8), Op.bytesLess a b = true ↔ a < b
 | [], [] => by simp [Op.bytesLess]
 | [], _ :: _ => by simp [Op.bytesLess]
 | _ :: _, [] => by simp [Op.bytesLess]
 | a :: ra, b :: rb => by
   have ih := bytesLess_iff ra rb
   simp only [Op.bytesLess, List.cons_lt_cons_iff]
   by_cases h1 : a < b
   · simp [h1]
   · by_cases h2 : b < a
     · have : a ≠ b := fun e => by subst e; exact h1 h2
       simp [h1, h2, this]
     · have : a = b := UInt8.le_antisymm (UInt8.not_lt.1 h2) (UInt8.not_lt.1 h1)
       subst this
       simp [h1, ih]
structure Cmp3 {α : Type} (c : α -> α -> Int) : Prop where
 eq : ∀ {a b}, c a b = 0 ↔ a = b
 anti : ∀ {a b}, c a b < 0 ↔ 0 < c b a
 tr : ∀ {a b d}, c a b < 0 -> c b d < 0 -> c a d < 0
theorem Cmp3.swo {α : Type} {c : α -> α -> Int} (h : Cmp3 c) : SWO (Go.Proofs.ltOf c) where
 irrefl x := by
  have : c x x = 0 := h.eq.2 rfl
  unfold Go.Proofs.ltOf; rw [this]; rfl
 trans x y z h1 h2 := by
  unfold Go.Proofs.ltOf at *
  simp only [decide_eq_true_eq] at *
  exact h.tr h1 h2
 ntrans x y z h1 h2 := by
  unfold Go.Proofs.ltOf at *
  simp only [decide_eq_false_iff_not] at *
  intro h3
  by_cases h4 : c y x < 0
  · exact h2 (h.tr h4 h3)
  · have : c x y = 0 := by
      have := h.anti (a := y) (b := x)
      omega
    have := h.eq.1 this
    subst this
    exact h2 h3
def ordI (a b : Int) : Int := if a < b then -1 else if b < a then 1 else 0
def ordS (a b : ByteArray) : Int := if ofB a < ofB b then -1 else if ofB b < ofB a then 1 else 0
def cmpV (a b : GValue) : Int := if ordI a.Kind b.Kind ≠ 0 then ordI a.Kind b.Kind else if ordI a.N b.N ≠ 0 then ordI a.N b.N else ordS a.Text b.Text
def cmpR : List GValue -> List GValue -> Int
 | [], [] => 0
 | [], _ :: _ => -1
 | _ :: _, [] => 1
 | a :: x, b :: y => if cmpV a b ≠ 0 then cmpV a b else cmpR x y
theorem Eu : Cmp3 ordI where
 eq := by intro a b; unfold ordI; split; omega; split <;> omega
 anti := by intro a b; unfold ordI; by_cases h1 : a < b <;> by_cases h2 : b < a <;> simp [h1, h2] <;> omega
 tr := by
  intro a b d h1 h2
  unfold ordI at *
  split at h1
  · split at h2
    · rw [if_pos (by omega)]; omega
    · split at h2 <;> omega
  · split at h1 <;> omega
theorem ofB_inj' {x y : ByteArray} (h : ofB x = ofB y) : x = y := by rw [<- oQ x, h, oQ]
theorem Fs : Cmp3 ordS where
 eq := by
  intro a b
  unfold ordS
  constructor
  · intro h
    split at h
    · omega
    · rename_i h1
      split at h
      · omega
      · rename_i h2
        exact ofB_inj' (List.le_antisymm (List.not_lt.1 h2) (List.not_lt.1 h1))
  · rintro rfl
    rw [if_neg (List.lt_irrefl _), if_neg (List.lt_irrefl _)]
 anti := by
  intro a b
  unfold ordS
  by_cases h : ofB a < ofB b
  · have h2 : ¬ ofB b < ofB a := fun q => List.lt_irrefl _ (List.lt_trans h q)
    simp [h, h2]
  · by_cases h2 : ofB b < ofB a <;> simp [h, h2]
 tr := by
  intro a b d h1 h2
  unfold ordS at *
  have h1 : ofB a < ofB b := by
   split at h1
   · assumption
   · split at h1 <;> omega
  have h2 : ofB b < ofB d := by
   split at h2
   · assumption
   · split at h2 <;> omega
  rw [if_pos (List.lt_trans h1 h2)]; omega
theorem Cmp3.lex {α β γ : Type} {c : α -> α -> Int} {e : β -> β -> Int} (hc : Cmp3 c) (he : Cmp3 e) (f : γ -> α) (g : γ -> β) (hi : ∀ x y, f x = f y -> g x = g y -> x = y) : Cmp3 fun x y => if c (f x) (f y) ≠ 0 then c (f x) (f y) else e (g x) (g y) where
 eq := by
  intro a b
  have h1 := hc.eq (a := f a) (b := f b)
  have h2 := he.eq (a := g a) (b := g b)
  try dsimp only
  constructor
  · intro h
    split at h
    · omega
    · exact hi _ _ (h1.1 (by omega)) (h2.1 h)
  · rintro rfl
    rw [if_neg (by rw [h1.2 rfl]; simp)]
    exact h2.2 rfl
 anti := by
  intro a b
  have h1 := hc.anti (a := f a) (b := f b)
  have h1' := hc.anti (a := f b) (b := f a)
  have h2 := he.anti (a := g a) (b := g b)
  try dsimp only
  split <;> split <;> omega
 tr := by
  intro a b d h1 h2
  try dsimp only at *
  have e1 := hc.eq (a := f a) (b := f b)
  have e2 := hc.eq (a := f b) (b := f d)
  split at h1
  · split at h2
    · have := hc.tr h1 h2
      rw [if_pos (by omega)]; exact this
    · rw [<- e2.1 (by omega)]
      rw [if_pos (by assumption)]; exact h1
  · split at h2
    · rw [e1.1 (by omega), if_pos (by assumption)]; exact h2
    · have q1 := e1.1 (by omega)
      have q2 := e2.1 (by omega)
      rw [if_neg (by rw [q1, q2, hc.eq.2 rfl]; simp)]
      exact he.tr h1 h2
theorem z8 : Cmp3 cmpV := by
 have h := Cmp3.lex Eu Fs (fun v : { v : Int × ByteArray // True } => v.1.1) (fun v => v.1.2) (fun x y h1 h2 => Subtype.ext (Prod.ext h1 h2))
 exact Cmp3.lex Eu h (fun v : GValue => v.Kind) (fun v => (⟨(v.N, v.Text), trivial⟩ : { v : Int × ByteArray // True })) (fun x y h1 h2 => by
  have h3 := congrArg (fun v => v.1.1) h2
  have h4 := congrArg (fun v => v.1.2) h2
  cases x; cases y; simp_all)
theorem sK : Cmp3 cmpR := by
 have e : ∀ a b : List GValue, cmpR a b = 0 ↔ a = b := by
  intro a
  induction a with
  | nil => intro b; cases b <;> simp [cmpR]
  | cons x a ih =>
    intro b
    cases b with
    | nil => simp [cmpR]
    | cons y b =>
      have h1 := z8.eq (a := x) (b := y)
      have h2 := ih b
      simp only [cmpR, List.cons.injEq]
      split <;> simp_all
 have n : ∀ a b : List GValue, cmpR a b < 0 ↔ 0 < cmpR b a := by
  intro a
  induction a with
  | nil => intro b; cases b <;> simp [cmpR]
  | cons x a ih =>
    intro b
    cases b with
    | nil => simp [cmpR]
    | cons y b =>
      have h1 := z8.anti (a := x) (b := y)
      have h1' := z8.anti (a := y) (b := x)
      have h2 := ih b
      simp only [cmpR]
      split <;> split <;> omega
 refine ⟨e _ _, n _ _, ?_⟩
 intro a
 induction a with
 | nil =>
   intro b d h1 h2
   cases b with
   | nil => simp [cmpR] at h1
   | cons y b =>
     cases d with
     | nil => simp [cmpR] at h2
     | cons z d => simp [cmpR]
 | cons x a ih =>
   intro b d h1 h2
   cases b with
   | nil => simp [cmpR] at h1
   | cons y b =>
     cases d with
     | nil => simp [cmpR] at h2
     | cons z d =>
       simp only [cmpR] at *
       have e1 := z8.eq (a := x) (b := y)
       have e2 := z8.eq (a := y) (b := z)
       split at h1
       · split at h2
         · have := z8.tr h1 h2
           rw [if_pos (by omega)]; exact this
         · rw [<- e2.1 (by omega)]
           rw [if_pos (by assumption)]; exact h1
       · split at h2
         · rw [e1.1 (by omega), if_pos (by assumption)]; exact h2
         · have q1 := e1.1 (by omega)
           have q2 := e2.1 (by omega)
           rw [if_neg (by rw [q1, q2, z8.eq.2 rfl]; simp)]
           exact ih h1 h2
end Lg
namespace Go.Proofs
open Go.Shelf
def Tryz.sortVK_ren : Go.Shelf.Ren := ⟨fun | 6 => 55 | 15 => 108 | 14 => 107 | 28 => 154 | 29 => 155 | 20 => 146 | 21 => 147 | 22 => 148 | 23 => 149 | 24 => 150 | 25 => 151 | 26 => 152 | 27 => 153 | 46 => 179 | 47 => 180 | 48 => 181 | 49 => 182 | 50 => 183 | 57 => 200 | n => n, fun | 22 => 38 | 24 => 45 | 25 => 113 | 3 => 3 | 39 => 157 | 0 => 0 | 53 => 199 | 55 => 201 | 4 => 4 | 46 => 193 | 45 => 192 | 50 => 145 | 5 => 5 | 9 => 9 | 66 => 221 | 70 => 225 | 76 => 252 | 77 => 253 | n => n, fun | n => n⟩
theorem Tryz.sortVK : Go.Proofs.SlLaysF.n6 Tryz.prog Tryz.sortVK_ren := {
 mixed := by kernel_rfl
 f6 := ⟨Tryz.f55.name, by decide, Tryz.func55.trans (congrArg some (by kernel_rfl))⟩
 f14 := ⟨Tryz.f107.name, by decide, Tryz.func107.trans (congrArg some (by kernel_rfl))⟩
 f15 := Tryz.func108.trans (congrArg some (by kernel_rfl))
 f20 := ⟨Tryz.f146.name, by decide, Tryz.func146.trans (congrArg some (by kernel_rfl))⟩
 f21 := ⟨Tryz.f147.name, by decide, Tryz.func147.trans (congrArg some (by kernel_rfl))⟩
 f22 := ⟨Tryz.f148.name, by decide, Tryz.func148.trans (congrArg some (by kernel_rfl))⟩
 f23 := ⟨Tryz.f149.name, by decide, Tryz.func149.trans (congrArg some (by kernel_rfl))⟩
 f24 := ⟨Tryz.f150.name, by decide, Tryz.func150.trans (congrArg some (by kernel_rfl))⟩
 f25 := ⟨Tryz.f151.name, by decide, Tryz.func151.trans (congrArg some (by kernel_rfl))⟩
 f26 := ⟨Tryz.f152.name, by decide, Tryz.func152.trans (congrArg some (by kernel_rfl))⟩
 f27 := ⟨Tryz.f153.name, by decide, Tryz.func153.trans (congrArg some (by kernel_rfl))⟩
 f28 := Tryz.func154.trans (congrArg some (by kernel_rfl))
 f29 := Tryz.func155.trans (congrArg some (by kernel_rfl))
 f46 := ⟨Tryz.f179.name, by decide, Tryz.func179.trans (congrArg some (by kernel_rfl))⟩
 f47 := Tryz.func180.trans (congrArg some (by kernel_rfl))
 f48 := Tryz.func181.trans (congrArg some (by kernel_rfl))
 f49 := ⟨Tryz.f182.name, by decide, Tryz.func182.trans (congrArg some (by kernel_rfl))⟩
 f50 := ⟨Tryz.f183.name, by decide, Tryz.func183.trans (congrArg some (by kernel_rfl))⟩
 f57 := ⟨Tryz.f200.name, by decide, Tryz.func200.trans (congrArg some (by kernel_rfl))⟩
 t0 := Tryz.underlying0
 a0 := Tryz.isAgg0
 z0 := Tryz.sizeOf0
 v0 := Tryz.zeroValue0
 t3 := Tryz.underlying3
 a3 := Tryz.isAgg3
 z3 := Tryz.sizeOf3
 v3 := Tryz.zeroValue3
 t4 := Tryz.underlying4
 a4 := Tryz.isAgg4
 z4 := Tryz.sizeOf4
 v4 := Tryz.zeroValue4
 t5 := Tryz.underlying5
 a5 := Tryz.isAgg5
 z5 := Tryz.sizeOf5
 v5 := Tryz.zeroValue5
 t9 := Tryz.underlying9
 a9 := Tryz.isAgg9
 z9 := Tryz.sizeOf9
 v9 := Tryz.zeroValue9
 t22 := Tryz.underlying38
 a22 := Tryz.isAgg38
 z22 := Tryz.sizeOf38
 v22 := Tryz.zeroValue38
 a24 := Tryz.isAgg45
 z24 := Tryz.sizeOf45
 t25 := Tryz.underlying113
 a25 := Tryz.isAgg113
 z25 := Tryz.sizeOf113
 v25 := Tryz.zeroValue113
 t39 := Tryz.underlying157
 a39 := Tryz.isAgg157
 z39 := Tryz.sizeOf157
 v39 := Tryz.zeroValue157
 t45 := Tryz.underlying192
 a45 := Tryz.isAgg192
 z45 := Tryz.sizeOf192
 v45 := Tryz.zeroValue192
 t46 := Tryz.underlying193
 a46 := Tryz.isAgg193
 z46 := Tryz.sizeOf193
 v46 := Tryz.zeroValue193
 t50 := Tryz.underlying145
 a50 := Tryz.isAgg145
 z50 := Tryz.sizeOf145
 v50 := Tryz.zeroValue145
 t53 := Tryz.underlying199
 a53 := Tryz.isAgg199
 z53 := Tryz.sizeOf199
 v53 := Tryz.zeroValue199
 t55 := Tryz.underlying201
 a55 := Tryz.isAgg201
 z55 := Tryz.sizeOf201
 v55 := Tryz.zeroValue201
 t66 := Tryz.underlying221
 a66 := Tryz.isAgg221
 z66 := Tryz.sizeOf221
 v66 := Tryz.zeroValue221
 t70 := Tryz.underlying225
 a70 := Tryz.isAgg225
 z70 := Tryz.sizeOf225
 v70 := Tryz.zeroValue225
 t76 := Tryz.underlying252
 a76 := Tryz.isAgg252
 z76 := Tryz.sizeOf252
 v76 := Tryz.zeroValue252
 t77 := Tryz.underlying253
 a77 := Tryz.isAgg253
 z77 := Tryz.sizeOf253
 v77 := Tryz.zeroValue253 }
end Go.Proofs
namespace Go.Proofs
open Go.Lib Go.Sort
theorem vOrdI (x y : Int) (w : World) : Calls Tryz.prog 110 #[.int .i64 x, .int .i64 y] w fun e w' => e = .returned (.int .i64 (Lg.ordI x y)) /\ w' = w := by
 go_enter Tryz.func110, Tryz.ntmps110
 by_cases h1 : x < y
 · go_wp2
   go_ret
   exact ⟨by simp [Lg.ordI, h1], rfl⟩
 · by_cases h2 : y < x
   · go_wp2
     go_ret
     exact ⟨by simp [Lg.ordI, h1, h2], rfl⟩
   · go_wp2
     go_ret
     exact ⟨by rw [Lg.ordI, if_neg (by omega), if_neg (by omega)]; rfl, rfl⟩
theorem vOrdS (x y : ByteArray) (w : World) : Calls Tryz.prog 156 #[.string x, .string y] w fun e w' => e = .returned (.int .i64 (Lg.ordS x y)) /\ w' = w := by
 have e1 : Op.bytesLess x.toList y.toList = decide (Lg.ofB x < Lg.ofB y) := by
  rw [Bool.eq_iff_iff, Lg.bytesLess_iff, ByteArray.toList_eq, ByteArray.toList_eq, decide_eq_true_eq]
 have e2 : (x.toList == y.toList) = decide (x = y) := Lg.toL_eq x y
 have e3 : (!(Op.bytesLess x.toList y.toList || x.toList == y.toList)) = decide (Lg.ofB y < Lg.ofB x) := by
  rw [e1, e2]
  by_cases h1 : Lg.ofB x < Lg.ofB y
  · have : ¬ Lg.ofB y < Lg.ofB x := fun q => List.lt_irrefl _ (List.lt_trans h1 q)
    simp [h1, this]
  · by_cases h2 : Lg.ofB y < Lg.ofB x
    · have hne : ¬ x = y := fun e => by rw [e] at h2; exact List.lt_irrefl _ h2
      simp [h1, h2, hne]
    · have he : x = y := Lg.ofB_inj' (List.le_antisymm (List.not_lt.1 h2) (List.not_lt.1 h1))
      simp [h1, h2, he]
 have e4 : Lg.ordS x y = if Op.bytesLess x.toList y.toList then -1 else if (!(Op.bytesLess x.toList y.toList || x.toList == y.toList)) then 1 else 0 := by
  rw [e3, e1]; unfold Lg.ordS; simp only [decide_eq_true_eq]
 rw [e4]
 clear e1 e2 e3 e4
 have hg : ∀ w : World, (binOp .gtr 9 (.string x) (.string y)).run Tryz.prog w = .ok (.bool (!(Op.bytesLess x.toList y.toList || x.toList == y.toList))) w := fun w => by simp [binOp, Op.stringOp]
 go_enter Tryz.func156, Tryz.ntmps156
 by_cases h1 : Op.bytesLess x.toList y.toList = true
 · go_wp2
   go_ret
   exact ⟨by simp [h1], rfl⟩
 · have h1 : Op.bytesLess x.toList y.toList = false := by simpa using h1
   generalize hq : (!(Op.bytesLess x.toList y.toList || x.toList == y.toList)) = q at hg ⊢
   cases q
   · go_wp2
     go_ret
     exact ⟨by simp [h1], rfl⟩
   · go_wp2
     go_ret
     exact ⟨by simp [h1], rfl⟩
theorem vCmp (a b : Lg.GValue) (w : World) : Calls Tryz.prog 109 #[Lg.kvV a, Lg.kvV b] w fun e w' => e = .returned (.int .i64 (Lg.cmpV a b)) /\ ∃ q os, w' = grow (w.drewN q) os := by
 obtain ⟨ak, an, at'⟩ := a
 obtain ⟨bk, bn, bt⟩ := b
 have hA := vOrdI ak bk
 have hB := vOrdI an bn
 have hC := vOrdS at' bt
 have hV : Lg.cmpV ⟨ak, an, at'⟩ ⟨bk, bn, bt⟩ = if Lg.ordI ak bk ≠ 0 then Lg.ordI ak bk else if Lg.ordI an bn ≠ 0 then Lg.ordI an bn else Lg.ordS at' bt := rfl
 rw [hV]
 generalize Lg.ordI ak bk = x at hA ⊢
 generalize Lg.ordI an bn = y at hB ⊢
 generalize Lg.ordS at' bt = z at hC ⊢
 have hend : ((w.alloc (Obj.cells #[Value.int IntKind.i64 ak, Value.int IntKind.i64 an, Value.string at'] 62)).alloc (Obj.cells #[Value.int IntKind.i64 bk, Value.int IntKind.i64 bn, Value.string bt] 62)) = grow (w.drewN 0) #[Obj.cells #[Value.int IntKind.i64 ak, Value.int IntKind.i64 an, Value.string at'] 62, Obj.cells #[Value.int IntKind.i64 bk, Value.int IntKind.i64 bn, Value.string bt] 62] := by
  show ({ w with heap := (w.heap.push _).push _ } : World) = { w with heap := w.heap ++ _ }
  congr 1
 have x0 : (grow (w.drewN 0) #[Obj.cells #[Value.int IntKind.i64 ak, Value.int IntKind.i64 an, Value.string at'] 62, Obj.cells #[Value.int IntKind.i64 bk, Value.int IntKind.i64 bn, Value.string bt] 62]).cell? ⟨w.heap.size, 0, none⟩ = some (.int .i64 ak) := by simp [Sort.grow, World.cell?, World.drewN]
 have x1 : (grow (w.drewN 0) #[Obj.cells #[Value.int IntKind.i64 ak, Value.int IntKind.i64 an, Value.string at'] 62, Obj.cells #[Value.int IntKind.i64 bk, Value.int IntKind.i64 bn, Value.string bt] 62]).cell? ⟨w.heap.size, 1, none⟩ = some (.int .i64 an) := by simp [Sort.grow, World.cell?, World.drewN]
 have x2 : (grow (w.drewN 0) #[Obj.cells #[Value.int IntKind.i64 ak, Value.int IntKind.i64 an, Value.string at'] 62, Obj.cells #[Value.int IntKind.i64 bk, Value.int IntKind.i64 bn, Value.string bt] 62]).cell? ⟨w.heap.size, 2, none⟩ = some (.string at') := by simp [Sort.grow, World.cell?, World.drewN]
 have y0 : (grow (w.drewN 0) #[Obj.cells #[Value.int IntKind.i64 ak, Value.int IntKind.i64 an, Value.string at'] 62, Obj.cells #[Value.int IntKind.i64 bk, Value.int IntKind.i64 bn, Value.string bt] 62]).cell? ⟨w.heap.size + 1, 0, none⟩ = some (.int .i64 bk) := by simp [Sort.grow, World.cell?, World.drewN]
 have y1 : (grow (w.drewN 0) #[Obj.cells #[Value.int IntKind.i64 ak, Value.int IntKind.i64 an, Value.string at'] 62, Obj.cells #[Value.int IntKind.i64 bk, Value.int IntKind.i64 bn, Value.string bt] 62]).cell? ⟨w.heap.size + 1, 1, none⟩ = some (.int .i64 bn) := by simp [Sort.grow, World.cell?, World.drewN]
 have y2 : (grow (w.drewN 0) #[Obj.cells #[Value.int IntKind.i64 ak, Value.int IntKind.i64 an, Value.string at'] 62, Obj.cells #[Value.int IntKind.i64 bk, Value.int IntKind.i64 bn, Value.string bt] 62]).cell? ⟨w.heap.size + 1, 2, none⟩ = some (.string bt) := by simp [Sort.grow, World.cell?, World.drewN]
 have hfin : ∃ q os, grow (w.drewN 0) #[Obj.cells #[Value.int IntKind.i64 ak, Value.int IntKind.i64 an, Value.string at'] 62, Obj.cells #[Value.int IntKind.i64 bk, Value.int IntKind.i64 bn, Value.string bt] 62] = grow (w.drewN q) os := ⟨0, _, rfl⟩
 generalize grow (w.drewN 0) #[Obj.cells #[Value.int IntKind.i64 ak, Value.int IntKind.i64 an, Value.string at'] 62, Obj.cells #[Value.int IntKind.i64 bk, Value.int IntKind.i64 bn, Value.string bt] 62] = W at hend x0 x1 x2 y0 y1 y2 hfin
 clear hV
 show Calls Tryz.prog 109 #[.agg #[.int .i64 ak, .int .i64 an, .string at'], .agg #[.int .i64 bk, .int .i64 bn, .string bt]] w _
 go_enter Tryz.func109, Tryz.ntmps109
 by_cases h1 : x = 0
 · subst h1
   by_cases h2 : y = 0
   · subst h2
     go_wp2_with (first | (go_at_call 110; with_reducible refine (hA _).mono ?_; rintro e w' ⟨rfl, hw⟩; rw [hw]) | (go_at_call 110; with_reducible refine (hB _).mono ?_; rintro e w' ⟨rfl, hw⟩; rw [hw]) | (go_at_call 156; with_reducible refine (hC _).mono ?_; rintro e w' ⟨rfl, hw⟩; rw [hw]))
     go_ret
     exact ⟨by simp, hfin⟩
   · go_wp2_with (first | (go_at_call 110; with_reducible refine (hA _).mono ?_; rintro e w' ⟨rfl, hw⟩; rw [hw]) | (go_at_call 110; with_reducible refine (hB _).mono ?_; rintro e w' ⟨rfl, hw⟩; rw [hw]))
     go_ret
     exact ⟨by simp [h2], hfin⟩
 · go_wp2_with (first | (go_at_call 110; with_reducible refine (hA _).mono ?_; rintro e w' ⟨rfl, hw⟩; rw [hw]))
   go_ret
   exact ⟨by simp [h1], hfin⟩
theorem cmpR_drop {a b : List Lg.GValue} {i : Nat} (ha : i < a.length) (hb : i < b.length) : Lg.cmpR (a.drop i) (b.drop i) = if Lg.cmpV (Lg.nth a i) (Lg.nth b i) ≠ 0 then Lg.cmpV (Lg.nth a i) (Lg.nth b i) else Lg.cmpR (a.drop (i + 1)) (b.drop (i + 1)) := by
 rw [List.drop_eq_getElem_cons ha, List.drop_eq_getElem_cons hb, Lg.nth_get ha, Lg.nth_get hb]; rfl
theorem uM {a b : List Lg.GValue} {i : Nat} (h : i = a.length \/ i = b.length) (ha : i <= a.length) (hb : i <= b.length) : Lg.cmpR (a.drop i) (b.drop i) = Lg.ordI a.length b.length := by
 by_cases h1 : i = a.length
 · by_cases h2 : i = b.length
   · rw [List.drop_of_length_le (by omega), List.drop_of_length_le (by omega), show a.length = b.length by omega]
     simp [Lg.cmpR, Lg.ordI]
   · rw [List.drop_of_length_le (by omega), List.drop_eq_getElem_cons (by omega)]
     simp [Lg.cmpR, Lg.ordI]; omega
 · have h2 : i = b.length := by omega
   rw [List.drop_of_length_le (l := b) (by omega), List.drop_eq_getElem_cons (by omega)]
   simp only [Lg.cmpR, Lg.ordI]
   rw [if_neg (by omega), if_pos (by omega)]
theorem grow_of (w : World) (q n : Nat) (os os' : Array Obj) : grow ((grow (w.drewN q) os).drewN n) os' = grow (w.drewN (q + n)) (os ++ os') := by
 show grow (grow ((w.drewN q).drewN n) os) os' = _; rw [grow_grow, World.drewN_drewN]
def VCells (w : World) (b o : Nat) (v : Lg.GValue) : Prop := w.cell? ⟨b, o, none⟩ = some (.int .i64 v.Kind) /\ w.cell? ⟨b, o + 1, none⟩ = some (.int .i64 v.N) /\ w.cell? ⟨b, o + 2, none⟩ = some (.string v.Text)
theorem vRow (xs ys : List Lg.GValue) (a a' : Option Addr) (c c' : Nat) (w : World) (hbx : xs.length <= 4398046511104) (hby : ys.length <= 4398046511104)
  (hx : ∀ i, i < xs.length -> ∃ b o, a = some ⟨b, o, none⟩ /\ ∀ n os, VCells (grow (w.drewN n) os) b (o + i * 3) (Lg.nth xs i))
  (hy : ∀ i, i < ys.length -> ∃ b o, a' = some ⟨b, o, none⟩ /\ ∀ n os, VCells (grow (w.drewN n) os) b (o + i * 3) (Lg.nth ys i)) :
  Calls Tryz.prog 56 #[.slice a xs.length c, .slice a' ys.length c'] w fun e w' => e = .returned (.int .i64 (Lg.cmpR xs ys)) /\ ∃ q os, w' = grow (w.drewN q) os := by
 have mixed : Tryz.prog.follows .mixedOrders = true := by kernel_rfl
 generalize hn : xs.length = n
 generalize hm : ys.length = m
 rw [hn] at hx hbx
 rw [hm] at hy hby
 have hlen := vOrdI n m
 have hz : ∀ {i : Nat}, i = n \/ i = m -> i <= n -> i <= m -> Lg.cmpR (xs.drop i) (ys.drop i) = Lg.ordI n m := fun h1 h2 h3 => by have := uM (a := xs) (b := ys) (by rw [hn, hm]; exact h1) (by omega) (by omega); rw [hn, hm] at this; exact this
 all_goals
  go_enter Tryz.func56, Tryz.ntmps56
  go_wp2
  go_loopg [5, 6, 12, 13, 14] (n + m) (fun gg _ _ s12 _ _ wr => ∃ (kk q : Nat) (os : Array Obj), kk <= n /\ kk <= m /\ n + m - kk <= gg /\ s12 = .int .i64 kk /\ wr = grow (w.drewN q) os /\ Aside (Lg.cmpR xs ys = Lg.cmpR (xs.drop kk) (ys.drop kk)))
  case atStart => exact ⟨0, 0, #[], Nat.zero_le _, Nat.zero_le _, by omega, rfl, by rw [grow_empty]; rfl, rfl⟩
  case round =>
   obtain ⟨kk, q, os, hk1, hk2, hg, rfl, rfl, A⟩ := hrel
   by_cases h1 : kk < n /\ kk < m
   · obtain ⟨h1, h2⟩ := h1
     obtain ⟨b, o, ea, gx⟩ := hx kk h1
     obtain ⟨b', o', ea', gy⟩ := hy kk h2
     have hd : Lg.cmpR (xs.drop kk) (ys.drop kk) = _ := cmpR_drop (a := xs) (b := ys) (i := kk) (by omega) (by omega)
     clear hx hy
     subst ea; subst ea'
     have gx : ∀ n' os', VCells (grow ((grow (w.drewN q) os).drewN n') os') b (o + kk * 3) (Lg.nth xs kk) := fun n' os' => by rw [grow_of]; exact gx _ _
     have gy : ∀ n' os', VCells (grow ((grow (w.drewN q) os).drewN n') os') b' (o' + kk * 3) (Lg.nth ys kk) := fun n' os' => by rw [grow_of]; exact gy _ _
     generalize Lg.nth xs kk = x at gx hd
     generalize Lg.nth ys kk = y at gy hd
     have hc := vCmp x y
     obtain ⟨xk, xn, xt⟩ := x
     obtain ⟨yk, yn, yt⟩ := y
     have gx0 := fun n' os' => (gx n' os').1
     have gx1 := fun n' os' => (gx n' os').2.1
     have gx2 := fun n' os' => (gx n' os').2.2
     have gy0 := fun n' os' => (gy n' os').1
     have gy1 := fun n' os' => (gy n' os').2.1
     have gy2 := fun n' os' => (gy n' os').2.2
     clear gx gy
     simp only at gx0 gx1 gx2 gy0 gy1 gy2
     generalize hz0 : Lg.cmpV ⟨xk, xn, xt⟩ ⟨yk, yn, yt⟩ = z at hc hd
     have hc : ∀ W, Calls Tryz.prog 109 #[.agg #[.int .i64 xk, .int .i64 xn, .string xt], .agg #[.int .i64 yk, .int .i64 yn, .string yt]] W fun e w' => e = .returned (.int .i64 z) /\ ∃ q os, w' = grow (W.drewN q) os := hc
     clear hz0
     generalize hwr : grow (w.drewN q) os = wr at gx0 gx1 gx2 gy0 gy1 gy2 ⊢
     go_wp2_with fail
     go_quiet_grown (first | (go_at_call 109; refine Calls.grown_of (hc _)))
     subst hwr
     rw [grow_of]
     clear gx0 gx1 gx2 gy0 gy1 gy2 hc hlen hz
     by_cases h0 : z = 0
     · rw [if_neg (by simpa using h0)] at hd
       subst h0
       go_wp2_with fail
       go_roundg (n + m - (kk + 1))
       case measure => omega
       case rel => exact ⟨kk + 1, _, _, by omega, by omega, by omega, by go_num, rfl, (show Aside _ from A.out.trans hd)⟩
     · rw [if_pos h0] at hd
       go_wp2_with fail
       go_ret
       exact ⟨by rw [A.out, hd]; rfl, _, _, rfl⟩
   · have hr := A.out.trans (hz (by omega) hk1 hk2)
     clear hx hy hz
     generalize Lg.ordI n m = z at hlen hr
     go_wp2_with (go_at_call 110; with_reducible refine (hlen _).mono ?_; rintro e w' ⟨rfl, hw⟩; rw [hw])
     go_ret
     exact ⟨by rw [hr]; rfl, _, _, rfl⟩
theorem inw_grow {h : Lg.PH} {W : World} (hw : h.inw W) (n : Nat) (os : Array Obj) : h.inw (grow (W.drewN n) os) := fun b o e => by
 have h1 := hw b o e
 have hlt := (Array.getElem?_eq_some_iff.1 h1).1
 show (W.heap ++ os)[b]? = some o
 rw [Array.getElem?_append_left hlt]; exact h1
theorem cmpR_calls (x y : List Lg.GValue) (hbx : x.length <= 4398046511104) (hby : y.length <= 4398046511104) (u u' : Value) (h : Lg.PH) (W : World) (hw : h.inw W) (hu : ((Lg.rSl Lg.rValue).ty x).p h u) (hu' : ((Lg.rSl Lg.rValue).ty y).p h u') :
  Calls Tryz.prog 56 #[u, u'] W fun e' w' => e' = .returned (.int .i64 (Lg.cmpR x y)) /\ ∃ q os, w' = Sort.grow (W.drewN q) os := by
 have key : ∀ (l : List Lg.GValue) (ao : Option Addr), (l ≠ [] -> ∃ b off, ao = some ⟨b, off, none⟩ /\ ∀ (i : Nat) x, l[i]? = some x -> ∃ cs, Lg.Holds h b (off + i * Lg.rValue.k) cs /\ Lg.rValue.rel h x cs) -> ∀ i, i < l.length -> ∃ b o, ao = some ⟨b, o, none⟩ /\ ∀ n os, VCells (grow (W.drewN n) os) b (o + i * 3) (Lg.nth l i) := by
  intro l ao H i hi
  obtain ⟨b, off, rfl, H'⟩ := H (fun e => by rw [e] at hi; exact absurd hi (Nat.not_lt_zero _))
  obtain ⟨cs, Hc, r⟩ := H' i _ (Lg.gb hi)
  have r := Lg.val_cells r
  subst r
  refine ⟨b, off, rfl, fun n os => ?_⟩
  have hg := inw_grow hw n os
  exact ⟨Hc.cell hg (i := 0) rfl, Hc.cell hg (i := 1) rfl, Hc.cell hg (i := 2) rfl⟩
 obtain ⟨ao, cap, rfl, H⟩ := hu
 obtain ⟨ao', cap', rfl, H'⟩ := hu'
 exact vRow x y ao ao' cap cap' W hbx hby (key x ao H) (key y ao' H')
end Go.Proofs
namespace Lg
open Go Go.Proofs Go.Proofs.Tryz
theorem pt (v : Value) (xs : List (List GValue)) (hx : ∀ e ∈ xs, e.length <= 4398046511104) (hn : xs.length <= 1000000000) : Spec (X := { ys : List (List GValue) // ys.Perm xs /\ ys.Pairwise fun a b => ¬ cmpR b a < 0 }) Tryz.prog 55 [rV.ty v, tV (.func (.func 56) #[] #[])] [own 45 (rSl rValue) v xs] (fun _ => fW []) (fun ys => [own 45 (rSl rValue) v ys.1]) := by
 have h := pr (ρ := Tryz.sortVK_ren) Tryz.sortVK (R := rSl rValue) rfl cmpR sK.swo (gf := 56) (e := 45) Tryz.call56 (fun x => x.length <= 4398046511104) (fun x y hx hy u u' h W hw hu hu' => cmpR_calls x y hx hy u u' h W hw hu hu') v xs hx (by omega)
 intro vs h0 m r w ha sp st
 refine (h vs h0 m r w ha sp st).mono ?_
 rintro e w' ⟨⟨ys, hp, hs⟩, u, h', m', rfl, l, s, st', hu⟩
 exact ⟨⟨ys, hp, hs.imp fun {a b} q => by simpa [Go.Proofs.ltOf] using q⟩, u, h', m', rfl, l, s, st', hu⟩
open Go
section
variable {C : Cx} {E : Env} {L : List SP} {d : Option Nat} {ty : Nat} {pos : String} {af : Array Edge} {g : Option (Nat × Bool)}
theorem vL {α : Type} {T n : Nat} {fs : List (SF α)} {x : Operand} {y : α} {f : SF α} (S : StructOf C.P T fs) (hx : Sub (opTy E x) ((aU fs).ty y)) (hf : fs[n]? = some f) :
  a8 C ⟨d, .field T x n, ty, pos, af, g⟩ E L (f.R.ty (f.get y)) :=
 FP (by intro c h; cases h) fun a w h hw fr => by
  obtain ⟨cs, r, hv⟩ := fr.get hx
  have hv : a.eval x = .agg cs.toArray := hv
  obtain ⟨fls, hu, hl⟩ := S.lays
  obtain ⟨fl, h1, h2, h3, h4, h5⟩ := hl.get hf
  have h1' : fls[n]? = some fl := by simpa using h1
  rw [Nat.zero_add] at h3
  obtain ⟨c, rc, hc⟩ := Gj r hf
  have hcl := f.R.len rc
  refine ⟨packV f.R.agg c, ?_, f.R.pack rc⟩
  have hpt : (part fl.type cs.toArray fl.offset).run C.P w = .ok (packV f.R.agg c) w := by
   unfold part
   rw [h2, h3]
   have hbd : SF.off fs n + f.R.k <= cs.length := by
    have := hc (f.R.k - 1) (c[f.R.k - 1]'(by omega)) (List.getElem?_eq_getElem (by omega))
    have := (List.getElem?_eq_some_iff.1 this).1
    omega
   cases hg : f.R.agg with
   | true =>
     have he : cs.toArray.extract (SF.off fs n) (SF.off fs n + f.R.k) = c.toArray := by
      rw [List.extract_toArray]
      congr 1
      refine List.ext_getElem? fun i => ?_
      simp only [List.getElem?_take, List.getElem?_drop]
      by_cases hi : i < f.R.k
      · rw [if_pos (by omega), hc i (c[i]'(by omega)) (List.getElem?_eq_getElem (by omega)), List.getElem?_eq_getElem (by omega)]
      · rw [if_neg (by omega), List.getElem?_eq_none (by omega)]
     have ha := h4.agg w
     rw [hg] at ha
     simp only [Sem.run_bind, ha, Result.andThen_ok, h4.size, if_true, packV]
     simp [he]
   | false =>
     have hk := f.R.scalar hg
     have ha := h4.agg w
     rw [hg] at ha
     match c, hcl, hc with
     | [u], _, hc =>
       have := hc 0 u rfl
       simp only [Nat.add_zero] at this
       simp [Sem.run_bind, ha, packV, this]
     | [], hcl, _ => simp [hk] at hcl
     | _ :: _ :: _, hcl, _ => simp [hk] at hcl
  simp [execOp, Instr.field, hv, run_underlying hu, h1', asAgg, hpt]
end
def kH (v : Value) (K k : Nat) : Value := match v with
 | .slice (some a) n c => .slice (some ⟨a.block, a.off + k * K, none⟩) (n - k) (c - k)
 | _ => undef
theorem pu {P : Program} {w : World} {t e ty : TypeId} {z : Value} (ht : P.underlying t = some (.slice e)) (hv : ∀ w, (zeroValue e).run P w = .ok z w) (hz : z.cells = #[z]) (h1 : z.oneCell' = true) {b o n c el : Nat} {cur : Array Value} (hn : 0 < n)
  (hb : w.heap[b]? = some (.cells cur el (0, 0))) (hl : o + n <= cur.size) :
  ∃ w', (Builtin.clear_ #[t] ty #[.slice (some ⟨b, o, none⟩) n c]).run P w = .ok (.tuple #[]) w' /\ (∀ b', b' ≠ b -> w'.heap[b']? = w.heap[b']?) /\ Same w w' ∧
   w'.heap[b]? = some (.cells (cur.toList.take o ++ List.replicate n z ++ cur.toList.drop (o + n)).toArray el (0, 0)) := by
 have hzc : (Builtin.zeroCells z.cells n).toList = List.replicate n z := by
  rw [hz]
  simp [Builtin.zeroCells]
  apply List.ext_getElem
  · simp
  · intro i h1 h2
    simp [Nat.mod_one]
 have hst := run_storeCells_at P b o el (List.replicate n z) 0 cur w hb (by simpa using hl) (by intro v hv'; rw [List.eq_of_mem_replicate hv']; exact h1)
 simp only [Nat.add_zero, List.length_replicate] at hst
 refine ⟨_, ?_, fun b' hne => setRow_other w b b' _ hne, ⟨rfl, rfl, rfl⟩, setRow_heap w b cur _ el _ hb⟩
 obtain ⟨m, rfl⟩ : ∃ m, n = m + 1 := ⟨n - 1, by omega⟩
 simp [Builtin.clear_, run_underlying ht, hv, hzc, hst]
section
variable {C : Cx} {E : Env} {L : List SP} {d : Option Nat} {ty : Nat} {pos : String} {af : Array Edge} {g : Option (Nat × Bool)}
theorem mH {α : Type} {T e k : Nat} {R : Rp α} {x y : Operand} {v : Value} {xs : List α} {S : List SP} {i : Int} (hu : C.P.underlying T = some (.slice e)) (hR : TyOf C.P e R)
  (hx : Sub (opTy E x) (rV.ty v)) (hy : Sub (opTy E y) (tV (.int .i64 i))) (hi : i = k) (sel : Sel L [own e R v xs] S) (hn : k < xs.length) :
  a8 C ⟨d, .slice T x (some y) none none, ty, pos, af, g⟩ E L (tV (kH v R.k k)) :=
 FQ (by intro c h; cases h) fun a w h m l sp st fr => by
  have hv : a.eval x = v := (fr.get hx).1
  have h2 : a.eval y = .int .i64 i := fr.get hy
  subst hi
  obtain ⟨m1, m2, d12, rfl, ho, s2⟩ := sel.one.1 st
  refine ⟨(), kH v R.k k, w, h, _, ?_, HL.refl, sp, st, rfl⟩
  rcases ho with ⟨rfl, rfl, rfl⟩ | ⟨b, cap, cur, rfl, rfl, hl, hm, hs, r⟩
  · simp at hn
  · simp [execOp, Instr.sliceAt, run_underlying hu, hv, h2, Instr.slice, Instr.sliceBounds, Instr.sliceBound, asIntOf, hR.size, show k <= xs.length by omega, show k <= cap by omega, ce, kH]
    intro q; exfalso; omega
theorem pv {α : Type} {T e k : Nat} {R : Rp α} {K : Nat} {x : Operand} {v : Value} {xs : List α} {S : List SP} (hu : C.P.underlying T = some (.slice e)) (hx : Sub (opTy E x) (tV (kH v K k))) (sel : Sel L [own e R v xs] S) (hn : k < xs.length) :
  a8 C ⟨d, .call { callee := .builtin .len, args := #[x], argTypes := #[T] }, ty, pos, af, g⟩ E L (tV (.int .i64 ((xs.length - k : Nat) : Int))) :=
 FQ (by intro c h; cases h) fun a w h m l sp st fr => by
  have hv : a.eval x = kH v K k := fr.get hx
  obtain ⟨m1, m2, d12, rfl, ho, s2⟩ := sel.one.1 st
  refine ⟨(), _, w, h, _, ?_, HL.refl, sp, st, rfl⟩
  rcases ho with ⟨rfl, rfl, rfl⟩ | ⟨b, cap, cur, rfl, rfl, hl, hm, hs, r⟩
  · simp at hn
  · simp [execOp, resolve, invoke, builtin, Builtin.len_, hv, run_underlying hu, goInt, kH]
theorem fS {α : Type} {R : Rp α} {T e k : Nat} {x ix : Operand} {v : Value} {xs : List α} {z : Int} {i : Nat} {S : List SP} (hu : C.P.underlying T = some (.slice e)) (hR : TyOf C.P e R)
  (hx : Sub (opTy E x) (tV (kH v R.k k))) (sel : Sel L [own e R v xs] S) (hi : Sub (opTy E ix) (tV (.int .i64 z))) (hz : z = i) (hlt : k + i < xs.length) :
  a8 C ⟨d, .indexAddr T x ix, ty, pos, af, g⟩ E L (tV (dM v R.k (k + i))) :=
 FQ (by intro c h; cases h) fun a w h m l sp st fr => by
  have hv : a.eval x = kH v R.k k := fr.get hx
  have h2 : a.eval ix = .int .i64 z := fr.get hi
  obtain ⟨m1, m2, d12, rfl, ho, s2⟩ := sel.one.1 st
  subst hz
  refine ⟨(), dM v R.k (k + i), w, h, _, ?_, HL.refl, sp, st, rfl⟩
  rcases ho with ⟨rfl, rfl, _⟩ | ⟨b, cap, _, rfl, _⟩
  · simp at hlt
  · have : k * R.k + i * R.k = (k + i) * R.k := (Nat.add_mul _ _ _).symm
    simp [execOp, Instr.indexAt, hv, h2, asIntOf, run_underlying hu, hR.size, show i < xs.length - k by omega, ce, dM, kH, this]
theorem hZ {α : Type} {R : Rp α} {T e k : Nat} {x : Operand} {v : Value} {xs : List α} {z : α} {zv : Value} {S : List SP} (hu : C.P.underlying T = some (.slice e)) (hzv : ∀ w, (zeroValue e).run C.P w = .ok zv w) (hzc : zv.cells = #[zv]) (h1 : zv.oneCell' = true) (hR : R.k = 1) (hr : ∀ h, R.rel h z [zv])
  (hx : Sub (opTy E x) (tV (kH v R.k k))) (sel : Sel L [own e R v xs] S) (hk : k < xs.length) :
  Step C ⟨d, .call { callee := .builtin .clear, args := #[x], argTypes := #[T] }, ty, pos, af, g⟩ E L (fun _ : Unit => tAny) (fun _ => own e R v (xs.take k ++ List.replicate (xs.length - k) z) :: S) :=
 FQ (by intro c h; cases h) fun a w h m l sp st fr => by
  have hv : a.eval x = kH v R.k k := fr.get hx
  obtain ⟨m1, m2, d12, rfl, ho, s2⟩ := sel.one.1 st
  rcases ho with ⟨rfl, rfl, _⟩ | ⟨b, cap, cur, rfl, rfl, hl, hm, hs, r⟩
  · simp at hk
  · have hb := sp.heap_own
    simp only [kH, hR, Nat.mul_one, Nat.zero_add] at hv
    rw [hR, Nat.mul_one] at hs r
    obtain ⟨w', hrun, hoth, hsame, hnew⟩ := pu (P := C.P) (ty := ty) (c := cap - k) hu hzv hzc h1 (n := xs.length - k) (o := k) (by omega) hb (by omega)
    refine ⟨(), .tuple #[], w', h, (PH.one b _).join m2, ?_, HL.same hsame, F4 d12 sp (fun b' hne _ => hoth b' hne) hnew, ?_, trivial⟩
    · simp [execOp, resolve, invoke, builtin, hv, hrun]
    · have hcl : cur.toList.length = cap := by simpa using hs
      refine ⟨_, m2, PH.one_disj_iff.2 (PH.one_disj_iff.1 d12), rfl, .inr ⟨b, cap, _, ?_, rfl, ?_, hm, ?_, ?_⟩, s2⟩
      · simp only [List.length_append, List.length_take, List.length_replicate]
        rw [show min k xs.length + (xs.length - k) = xs.length by omega]
      · simp only [List.length_append, List.length_take, List.length_replicate]; omega
      · simp only [List.size_toArray, List.length_append, List.length_take, List.length_drop, List.length_replicate, hcl, hR]; omega
      · have e1 : (xs.take k ++ List.replicate (xs.length - k) z).length = xs.length := by simp only [List.length_append, List.length_take, List.length_replicate]; omega
        have e2 : (cur.toList.take k ++ List.replicate (xs.length - k) zv ++ cur.toList.drop (k + (xs.length - k))).take xs.length = cur.toList.take k ++ List.replicate (xs.length - k) zv := by
         refine List.take_left' ?_
         simp only [List.length_append, List.length_take, List.length_replicate, hcl]; omega
        rw [e1, hR, Nat.mul_one, e2]
        refine eN ?_ ?_
        · have := i8 k r
          rwa [List.take_take, hR, Nat.mul_one, Nat.min_eq_left (by omega)] at this
        · have := gM (hr h) (xs.length - k)
          rwa [show (List.replicate (xs.length - k) [zv]).flatten = List.replicate (xs.length - k) zv by simp] at this
end
abbrev LV : Type := List GValue
def ic (l : List LV) (i : Nat) : Bool := decide (i = 0) || !decide (nth l i = nth l (i - 1))
def compI (l : List LV) (n : Nat) : List LV := ((List.range n).filter (ic l)).map (nth l)
theorem gk {l : List LV} {n : Nat} : compI l (n + 1) = if ic l n = true then compI l n ++ [nth l n] else compI l n := by
  unfold compI
  rw [List.range_succ, List.filter_append]
  split <;> simp [*]
theorem pw (l : List LV) (n : Nat) : (compI l n).length <= n := by
  unfold compI
  rw [List.length_map]
  exact Nat.le_trans (List.length_filter_le _ _) (by simp)
theorem px {l : List LV} {n : Nat} (hn : n <= l.length) (h : ∀ j, j < n -> 1 <= j -> ¬ nth l j = nth l (j - 1)) : compI l n = l.take n := by
  induction n with
  | zero => simp [compI]
  | succ n ih =>
    have hk : ic l n = true := by
      unfold ic
      by_cases h0 : n = 0
      · simp [h0]
      · simp [h n (by omega) (by omega)]
    rw [gk, if_pos hk, ih (by omega) (fun j hj => h j (by omega)), di (by omega)]
def d7 (l : List LV) (j : Nat) : List LV := compI l j ++ l.drop (compI l j).length
theorem xP {l : List LV} {j : Nat} (h : j <= l.length) : (d7 l j).length = l.length := by
  have := pw l j
  unfold d7
  rw [List.length_append, List.length_drop]; omega
theorem qT {l : List LV} {j i : Nat} (h : (compI l j).length <= i) (hi : i < l.length) : nth (d7 l j) i = nth l i := by
  have h1 : i < (d7 l j).length := by unfold d7; rw [List.length_append, List.length_drop]; omega
  rw [nth_get h1, nth_get hi]
  have h2 : i < (compI l j ++ l.drop (compI l j).length).length := h1
  show (compI l j ++ l.drop (compI l j).length)[i]'h2 = _
  rw [List.getElem_append_right h]
  simp only [List.getElem_drop]
  congr 1; omega
theorem xQ {l : List LV} {j : Nat} (hj : j < l.length) (hk : ic l j = true) : (d7 l j).set (compI l j).length (nth l j) = d7 l (j + 1) := by
  have hc := pw l j
  unfold d7
  rw [gk, if_pos hk, List.set_append_right _ _ (Nat.le_refl _), Nat.sub_self]
  have hd : l.drop (compI l j).length = nth l (compI l j).length :: l.drop ((compI l j).length + 1) := by rw [nth_get (by omega)]; exact List.drop_eq_getElem_cons (by omega)
  rw [hd]
  simp
theorem vM {l : List LV} {j : Nat} (hk : ic l j = false) : d7 l j = d7 l (j + 1) := by
  unfold d7
  rw [gk, if_neg (by rw [hk]; simp)]
theorem kI {l : List LV} {j : Nat} (hk : ic l j = false) : compI l (j + 1) = compI l j := by
  rw [gk, if_neg (by rw [hk]; simp)]
theorem sL {l : List LV} {k : Nat} (hk : k < l.length) (h1 : 1 <= k) (hv : ∀ j, j < k -> 1 <= j -> ¬ nth l j = nth l (j - 1)) (he : nth l k = nth l (k - 1)) : d7 l (k + 1) = l /\ (compI l (k + 1)).length = k := by
  have hb : ic l k = false := by unfold ic; simp [he]; omega
  have h2 : compI l k = l.take k := px (by omega) hv
  have h3 : compI l (k + 1) = l.take k := by rw [kI hb, h2]
  refine ⟨?_, by rw [h3, List.length_take]; omega⟩
  unfold d7
  rw [h3, List.length_take, Nat.min_eq_left (by omega), List.take_append_drop]
def jg (l : List LV) : List LV := compI l l.length
theorem lp (v : Value) (xs : List LV) (hn : xs.length <= 1000000000) (gf : Nat) (hp : ∀ x y, x ∈ xs -> y ∈ xs -> Fun1 prog gf ([tSl rValue x, tSl rValue y] ++ []) (tV (.bool (decide (x = y))))) (he : ∀ args w, (callFunc gf args).run prog w = .ok (.enter gf args) w) : Spec (X := Value) prog 57 [rV.ty v, tV (.func (.func gf) #[] #[])] ([own 45 (rSl rValue) v xs]) (fun z => rV.ty z) (fun z => [own 45 (rSl rValue) z (jg xs)]) := by
 refine Spec.enter func57 rfl rfl fun h0 w0 fr0 => ?_
 refine Jr (Za (ab (ap (Jr (Zm ?_)))))
 refine Zs (bC underlying38 Sr zS) ?_
 refine Zs (az Sr Sr) (ab ?_)
 refine am Sr (fun h10 => ?_) (fun h10 => ?_)
 ·
  try simp only [NF] at h10
  refine Jr (Zm (Za (ab (aC ?_))))
  refine a7 (L' := [own 45 (rSl rValue) v (jg xs)]) (.c zS (SPs.of (A := own 45 (rSl rValue) v xs) (by unfold jg; rw [px (Nat.le_refl _) (fun j hj h1 => by omega), List.take_length])) (LSub.nil)) ?_
  refine bz (rv := .tmp 4) rfl v (.tmp Sr) Sr
 try simp only [NF] at h10
 refine av (ap (Jr (Za (ab (au ?_)))))
 refine aK (σ := Nat) (fun k => 1 <= k /\ k <= xs.length /\ ∀ j, j < k -> 1 <= j -> ¬ nth xs j = nth xs (j - 1)) (fun k => upd (upd (upd co 0 (rV.ty v)) 1 (tV (.func (.func gf) #[] #[]))) 5 (tV (.int .i64 k))) (fun k => [own 45 (rSl rValue) v xs]) (fun k => xs.length - k) 1 ⟨Nat.le_refl _, by omega, fun j hj h1 => by omega⟩ (zU) (LSub.rfl) ?_
 rintro k ⟨hk1, hk2, hv⟩
 refine ap (Jr (Zm (Zm ?_)))
 refine Zs (bC underlying38 Sr zS) ?_
 refine Zs (az Sr Sr) (ab ?_)
 refine am Sr (fun h15 => ?_) (fun h15 => ?_)
 ·
  try simp only [NF] at h15
  have hlt : k < xs.length := by omega
  refine av (ap (au (ap ?_)))
  refine km [⟨0, [1], true⟩, ⟨1, [0], true⟩, ⟨2, [5], true⟩, ⟨5, [0], true⟩, ⟨6, [5], true⟩, ⟨7, [24], true⟩, ⟨3, [19, 20], true⟩, ⟨4, [21], true⟩, ⟨8, [23, 25], true⟩, ⟨9, [26], true⟩, ⟨10, [18, 22, 27], true⟩] rfl (by kernel_rfl) rfl ?_
  refine bf rfl rfl rfl rfl (ar Sr) ?_
  refine bf rfl rfl rfl rfl (ar Sr) ?_
  refine bf rfl rfl rfl rfl (ar Sr) ?_
  refine bf rfl rfl rfl rfl (ar Sr) ?_
  refine bf rfl rfl rfl rfl (ar Sr) ?_
  refine bf rfl rfl rfl rfl (cK Sr Sr z6) ?_
  refine bf rfl rfl rfl rfl (aG (i := k) underlying38 dt Sr zS Sr (by rfl) (by exact hlt)) ?_
  refine bf rfl rfl rfl rfl (bH dt Sr zS (gb (by exact hlt))) ?_
  refine bf rfl rfl rfl rfl (aG (i := (k - 1)) underlying38 dt Sr zS Sr zG zG) ?_
  refine bf rfl rfl rfl rfl (bH dt Sr zS (gb zG)) ?_
  refine bf rfl rfl rfl rfl (bp (aT := [_, _]) (As := []) F5 (hp (nth xs k) (nth xs (k - 1)) (nth_mem hlt) (nth_mem zG)) ⟨Sr, Sr, trivial⟩ he) ?_
  refine nQ ?_
  refine am Sr (fun h28 => ?_) (fun h28 => ?_)
  ·
   try simp only [NF] at h28
   have heq : nth xs k = nth xs (k - 1) := by simpa using h28
   obtain ⟨hs1, hs2⟩ := sL hlt hk1 hv heq
   have hk := hlt
   refine Jr (Zm (Zm ?_))
   refine Zs (mH underlying38 dt Sr Sr rfl zS hlt) ?_
   refine Za (ab (ap (Jr (Za (ab ?_)))))
   refine au ?_
   refine aK (σ := Nat) (fun j => 1 <= j /\ k + j <= xs.length /\ (compI xs (k + j)).length + 1 <= k + j) (fun j => upd (upd (upd (upd (upd co 0 (rV.ty v)) 1 (tV (.func (.func gf) #[] #[]))) 5 (tV (.int .i64 (compI xs (k + j)).length))) 6 (tV (kH v (rSl rValue).k k))) 7 (tV (.int .i64 j))) (fun j => [own 45 (rSl rValue) v (d7 xs (k + j))]) (fun j => xs.length - j) 1 ⟨Nat.le_refl _, by omega, by omega⟩ (.u (.u (SubE.upd (Sub.int (by rw [hs2])) (zU)))) (.c zS (SPs.of (A := own 45 (rSl rValue) v xs) (by rw [hs1])) (LSub.nil)) ?_
   rintro j ⟨hj1, hj2, hC⟩
   have hAl := xP hj2
   refine ap (Jr (Zm (Zm ?_)))
   refine Zs (pv (e := 45) (R := rSl rValue) underlying38 Sr zS (by rw [hAl]; exact hk)) ?_
   refine Zs (az Sr Sr) (ab ?_)
   refine am Sr (fun h35 => ?_) (fun h35 => ?_)
   ·
    try simp only [NF] at h35
    have hjn : k + j < xs.length := by rw [hAl] at h35; omega
    have hn1 : nth (d7 xs (k + j)) (k + j) = nth xs (k + j) := qT zG hjn
    have hn2 : nth (d7 xs (k + j)) (k + (j - 1)) = nth xs (k + j - 1) := by rw [qT zG zG]; congr 1; omega
    have hm1 : nth (d7 xs (k + j)) (k + j) ∈ xs := by rw [hn1]; exact nth_mem hjn
    have hm2 : nth (d7 xs (k + j)) (k + (j - 1)) ∈ xs := by rw [hn2]; exact nth_mem zG
    refine av (ap (au (ap ?_)))
    refine km [⟨0, [1], true⟩, ⟨1, [6], true⟩, ⟨2, [7], true⟩, ⟨5, [6], true⟩, ⟨6, [7], true⟩, ⟨7, [44], true⟩, ⟨3, [39, 40], true⟩, ⟨4, [41], true⟩, ⟨8, [43, 45], true⟩, ⟨9, [46], true⟩, ⟨10, [38, 42, 47], true⟩, ⟨11, [48], true⟩] rfl (by kernel_rfl) rfl ?_
    refine bf rfl rfl rfl rfl (ar Sr) ?_
    refine bf rfl rfl rfl rfl (ar Sr) ?_
    refine bf rfl rfl rfl rfl (ar Sr) ?_
    refine bf rfl rfl rfl rfl (ar Sr) ?_
    refine bf rfl rfl rfl rfl (ar Sr) ?_
    refine bf rfl rfl rfl rfl (cK Sr Sr z6) ?_
    refine bf rfl rfl rfl rfl (fS (R := rSl rValue) (i := j) underlying38 dt Sr zS Sr rfl (by rw [hAl]; omega)) ?_
    refine bf rfl rfl rfl rfl (bH dt Sr zS (gb (by rw [hAl]; omega))) ?_
    refine bf rfl rfl rfl rfl (fS (R := rSl rValue) (i := j - 1) underlying38 dt Sr zS Sr zG (by rw [hAl]; omega)) ?_
    refine bf rfl rfl rfl rfl (bH dt Sr zS (gb (by rw [hAl]; omega))) ?_
    refine bf rfl rfl rfl rfl (bp (aT := [_, _]) (As := []) F5 (hp (nth (d7 xs (k + j)) (k + j)) (nth (d7 xs (k + j)) (k + (j - 1))) (hm1) (hm2)) ⟨Sr, Sr, trivial⟩ he) ?_
    refine bf rfl rfl rfl rfl (bc Sr) ?_
    refine nQ ?_
    refine am Sr (fun h49 => ?_) (fun h49 => ?_)
    ·
     try simp only [NF] at h49
     have hkb : ic xs (k + j) = true := by unfold ic; rw [<- hn1, <- hn2]; simp; right; simpa using h49
     refine Jr (Zm (Zm (Zm (Zm ?_))))
     refine Zs (fS (R := rSl rValue) (i := j) underlying38 dt Sr zS Sr rfl (by rw [hAl]; omega)) ?_
     refine Zs (bH dt Sr zS (gb (by rw [hAl]; omega))) ?_
     refine Zs (aG (i := (compI xs (k + j)).length) underlying38 dt Sr zS Sr (by rfl) (by rw [hAl]; omega)) ?_
     refine Ju (bL dt Sr Sr zS (by rw [hAl]; omega)) fun _ => ?_
     refine ab (ah (Zm (Zs (ax Sr Sr z6) (Za (ab ?_)))))
     refine ah (Zm (Zs (ax Sr Sr z6) (Za (ab ?_))))
     refine ay (σ := Nat) (s := j) (j + 1) zG ⟨by omega, by omega, by show (compI xs (k + j + 1)).length + 1 <= _; rw [gk, if_pos hkb, List.length_append]; simp; omega⟩ (.u (.u (SubE.upd (Sub.int (by show _ = (((compI xs (k + j + 1)).length : Nat) : Int); rw [gk, if_pos hkb, List.length_append]; simp)) (zU)))) (.c zS (SPs.of (A := own 45 (rSl rValue) v ((d7 xs (k + j)).set (compI xs (k + j)).length (nth (d7 xs (k + j)) (k + j)))) (by rw [hn1, xQ hjn hkb]; rfl)) (LSub.nil))
    try simp only [NF] at h49
    have hkb : ic xs (k + j) = false := by unfold ic; rw [<- hn1, <- hn2]; simp; exact ⟨by omega, by simpa using h49⟩
    refine av (ah (Zm (Zs (ax Sr Sr z6) (Za (ab ?_)))))
    refine ay (σ := Nat) (s := j) (j + 1) zG ⟨by omega, by omega, by show (compI xs (k + j + 1)).length + 1 <= _; rw [kI hkb]; omega⟩ (.u (.u (SubE.upd (Sub.int (by show _ = (((compI xs (k + j + 1)).length : Nat) : Int); rw [kI hkb])) (zU)))) (.c zS (SPs.of (A := own 45 (rSl rValue) v (d7 xs (k + j))) (by rw [vM hkb]; rfl)) (LSub.nil))
   try simp only [NF] at h35
   have hje : k + j = xs.length := by rw [hAl] at h35; omega
   rw [hje] at hC hAl
   refine aV (ap ?_)
   refine a7 (L' := [own 45 (rSl rValue) v (d7 xs xs.length)]) (.c zS (SPs.of (A := own 45 (rSl rValue) v (d7 xs (k + j))) (by rw [hje])) (LSub.nil)) ?_
   refine ah (Zm (Zm ?_))
   refine Zs (mH (k := (compI xs xs.length).length) underlying38 dt Sr Sr (by rw [hje]) zS (by rw [hAl]; omega)) ?_
   refine Ju (hZ (R := rSl rValue) (zv := Value.slice none 0 0) (z := []) underlying38 (fun w => zeroValue45 w) rfl rfl rfl (fun h => ⟨_, rfl, none, ⟨0, Nat.le_refl _⟩, rfl, fun q => absurd rfl q⟩) Sr zS (by rw [hAl]; omega)) fun _ => ?_
   refine ab (Jr (Zm (Zm ?_)))
   refine Zx (ew (n := (compI xs xs.length).length) underlying38 dt Sr Sr (by first | rfl | (rw [hje])) zS (by simp only [List.length_append, List.length_take, List.length_replicate]; rw [hAl]; omega)) fun v64 => ?_
   refine Za (ab (aC ?_))
   refine a7 (L' := [own 45 (rSl rValue) v64 (jg xs)]) (.c zS (SPs.of (A := own 45 (rSl rValue) v64 (((d7 xs xs.length).take (compI xs xs.length).length ++ List.replicate ((d7 xs xs.length).length - (compI xs xs.length).length) []).take (compI xs xs.length).length)) (by rw [List.take_left' (by rw [List.length_take, hAl]; omega)]; unfold d7 jg; rw [List.take_left' rfl])) (LSub.nil)) ?_
   refine bz (rv := .tmp 4) rfl v64 (.tmp Sr) Sr
  try simp only [NF] at h28
  have hne : ¬ nth xs k = nth xs (k - 1) := by simpa using h28
  refine av (ah (Zm (Zs (ax Sr Sr z6) (Za (ab ?_)))))
  refine ay (σ := Nat) (s := k) (k + 1) zO ⟨by omega, by omega, fun j hj h1 => by by_cases e : j = k; rw [e]; exact hne; exact hv j zG h1⟩ (zU) (LSub.rfl)
 try simp only [NF] at h15
 have hall := px (l := xs) (n := xs.length) (Nat.le_refl _) (fun j hj h1 => hv j zG h1)
 refine aV (Jr (Zm (Za (ab (aC ?_)))))
 refine a7 (L' := [own 45 (rSl rValue) v (jg xs)]) (.c zS (SPs.of (A := own 45 (rSl rValue) v xs) (by unfold jg; rw [hall, List.take_length])) (LSub.nil)) ?_
 refine bz (rv := .tmp 4) rfl v (.tmp Sr) Sr
theorem eJ (x y : LV) (hx : x.length <= 4398046511104) (hy : y.length <= 4398046511104) : Fun1 prog 56 [tSl rValue x, tSl rValue y] (tV (.int .i64 (cmpR x y))) := by
  intro vs h m r w ha sp st
  match vs, ha with
  | [u, u'], ⟨a1, a2, _⟩ =>
  refine (cmpR_calls x y hx hy u u' h w sp.hw a1 a2).mono ?_
  rintro e w' ⟨rfl, q, os, rfl⟩
  exact ⟨(), _, h, m, rfl, HL.same ⟨rfl, rfl, rfl⟩, ⟨sp.inv, sp.hm, sp.hr, sp.mr, inw_grow sp.hw q os, inw_grow sp.mw q os, inw_grow sp.rw q os⟩, st, rfl⟩
def leR (a b : LV) : Bool := decide (cmpR a b <= 0)
def jV (l : List LV) : List LV := l.mergeSort leR
theorem sM (a b : LV) : (leR a b || leR b a) = true := by
  unfold leR
  have := sK.anti (a := a) (b := b)
  have := sK.anti (a := b) (b := a)
  simp only [Bool.or_eq_true, decide_eq_true_eq]; omega
theorem xR (a b c : LV) (h1 : leR a b = true) (h2 : leR b c = true) : leR a c = true := by
  unfold leR at *
  simp only [decide_eq_true_eq] at *
  have e1 := sK.eq (a := a) (b := b)
  have e2 := sK.eq (a := b) (b := c)
  by_cases h3 : cmpR a b = 0
  · rw [e1.1 h3]; exact h2
  · by_cases h4 : cmpR b c = 0
    · rw [<- e2.1 h4]; exact h1
    · have := sK.tr (a := a) (b := b) (d := c) (by omega) (by omega)
      omega
theorem tY {a b : LV} (h1 : leR a b = true) (h2 : leR b a = true) : a = b := by
  unfold leR at *
  simp only [decide_eq_true_eq] at *
  have := sK.anti (a := a) (b := b)
  exact sK.eq.1 (by omega)
theorem eV (l : List LV) : (jV l).Perm l := List.mergeSort_perm _ _
theorem ie (l : List LV) : (jV l).Pairwise fun a b => leR a b = true := List.pairwise_mergeSort xR sM l
theorem qU (l : List LV) : (jV l).length = l.length := (eV l).length_eq
theorem Aa {xs ys : List LV} (hp : ys.Perm xs) (hs : ys.Pairwise fun a b => ¬ cmpR b a < 0) : ys = jV xs :=
  (hp.trans (eV xs).symm).eq_of_pairwise (le := fun a b => leR a b = true) (fun a b _ _ h1 h2 => tY h1 h2) (hs.imp fun {a b} h => by
    unfold leR
    have := sK.anti (a := b) (b := a)
    simp only [decide_eq_true_eq]; omega) (ie xs)
def tZ (l : List LV) : List LV := jg (jV l)
theorem Ab (l : List LV) : (tZ l).length <= l.length := Nat.le_trans (pw (jV l) (jV l).length) (Nat.le_of_eq (qU l))
theorem xS {l : List LV} {n : Nat} (hn : n <= l.length) {x : LV} (h : x ∈ compI l n) : x ∈ l := by
  unfold compI at h
  simp only [List.mem_map, List.mem_filter, List.mem_range] at h
  obtain ⟨i, ⟨hi, _⟩, rfl⟩ := h
  exact nth_mem (by omega)
theorem lC {l : List LV} {x : LV} (h : x ∈ tZ l) : x ∈ l := (eV l).mem_iff.1 (xS (Nat.le_refl _) h)
theorem B7 {x y : LV} : decide (cmpR x y = 0) = decide (x = y) := by rw [decide_eq_decide]; exact sK.eq
theorem nE (v : Value) (xs : List LV) (hx : ∀ e ∈ xs, e.length <= 4398046511104) (hn : xs.length <= 1000000000) : Spec (X := Unit) prog 55 [rV.ty v, tV (.func (.func 56) #[] #[])] [own 45 (rSl rValue) v xs] (fun _ => fW []) (fun _ => [own 45 (rSl rValue) v (jV xs)]) := by
  intro vs h0 m r w ha sp st
  refine (pt v xs hx hn vs h0 m r w ha sp st).mono ?_
  rintro e w' ⟨⟨ys, hp, hs⟩, u, h', m', rfl, l, s, st', hu⟩
  have := Aa hp hs
  subst this
  exact ⟨(), u, h', m', rfl, l, s, st', hu⟩
theorem sN (x y : LV) (hx : x.length <= 4398046511104) (hy : y.length <= 4398046511104) : Fun1 prog 58 [tSl rValue x, tSl rValue y] (tV (.bool (decide (x = y)))) := by
 refine Spec.enter func58 rfl rfl fun h0 w0 fr0 => ?_
 refine Jr (Za (ab (Jr (Zm (Zm ?_)))))
 refine Zs (aj (eJ _ _ hx hy) ⟨Sr, Sr, trivial⟩ call56) (Zs (aJ Sr Sr) (Za (ab (aC ?_))))
 refine aI (t := 4) rfl () (Sub.bool ?_)
 exact B7
theorem fT (l : List LV) (hl : l.length <= 1000000000) : Spec (X := Value) prog 54 [tSl (rSl rValue) l] ([]) (fun v => rV.ty v) (fun v => [own 45 (rSl rValue) v l]) := by
 refine Spec.enter func54 rfl rfl fun h0 w0 fr0 => ?_
 refine Jr (Za (ab (ap (Jr (Zm ?_)))))
 refine Zx (dA underlying38 Sr) fun v4 => ?_
 refine ab ?_
 refine am Sr (fun h4 => ?_) (fun h4 => ?_)
 ·
  try simp only [NF] at h4
  refine Jr (Za (ab (aC ?_)))
  have hl0 := v4.2 h4
  subst hl0
  refine a7 (FR (e := 45) (R := rSl rValue)) ?_
  refine aY (rv := .tmp 2) rfl (.slice none 0 0) (FN _) (.tmp (FT rfl)) (Frz.sub Sr)
 try simp only [NF] at h4
 refine av (Jr ?_)
 refine Zx (bO (ys := []) underlying38 lS trivial rfl (by decide)) fun v5 => ?_
 refine Zm ?_
 refine Zx (aH underlying38 lS Sr Sr zS (by simp; omega) (by simp; omega)) fun v7 => ?_
 refine Za (ab (aC ?_))
 refine aY (rv := .tmp 2) rfl v7 (FN _) (.tmp Sr) (Frz.sub Sr)
theorem py (l : LV) (hl : l.length <= 4398046511104) : Spec (X := Value) prog 27 [tSl rValue l] ([]) (fun v => rV.ty v) (fun v => [own 62 rValue v l]) := by
 refine Spec.enter func27 rfl rfl fun h0 w0 fr0 => ?_
 refine Jr (Za (ab (ap (Jr (Zm ?_)))))
 refine Zx (dA underlying45 Sr) fun v4 => ?_
 refine ab ?_
 refine am Sr (fun h4 => ?_) (fun h4 => ?_)
 ·
  try simp only [NF] at h4
  refine Jr (Za (ab (aC ?_)))
  have hl0 := v4.2 h4
  subst hl0
  refine a7 (FR (e := 62) (R := rValue)) ?_
  refine aY (rv := .tmp 2) rfl (.slice none 0 0) (FN _) (.tmp (FT rfl)) (Frz.sub Sr)
 try simp only [NF] at h4
 refine av (Jr ?_)
 refine Zx (bO (ys := []) underlying45 pS trivial rfl (by decide)) fun v5 => ?_
 refine Zm ?_
 refine Zx (aH underlying45 pS Sr Sr zS (by simp; omega) (by simp; omega)) fun v7 => ?_
 refine Za (ab (aC ?_))
 refine aY (rv := .tmp 2) rfl v7 (FN _) (.tmp Sr) (Frz.sub Sr)
theorem qV (l : List LV) (hl : l.length <= 1000000000) (hr : ∀ e ∈ l, e.length <= 4398046511104) : Spec (X := Value) prog 28 [tSl (rSl rValue) l] ([]) (fun z => rV.ty z) (fun z => [own 45 (rSl rValue) z (tZ l)]) := by
 refine Spec.enter func28 rfl rfl fun h0 w0 fr0 => ?_
 refine Jr (Za (ab (Jr (Zm ?_))))
 refine Zx (aR (FN _) (fT l hl) ⟨Sr, trivial⟩ call54) fun v5 => ?_
 refine Za (ab (Jr (Zm ?_)))
 refine Zx (aR (Sel.take (FN _)) (nE v5 l hr hl) ⟨Sr, Sr, trivial⟩ call55) fun v7 => ?_
 refine ab (Jr (Zm ?_))
 refine Zx (aR (Sel.take (FN _)) (lp v5 (jV l) (by rw [qU]; exact hl) 58 (fun x y hx hy => sN x y (hr x ((eV l).mem_iff.1 hx)) (hr y ((eV l).mem_iff.1 hy))) call58) ⟨Sr, Sr, trivial⟩ call57) fun v9 => ?_
 refine Za (ab (aC ?_))
 refine bz (rv := .tmp 2) rfl v9 (.tmp Sr) Sr
end Lg
namespace Go.Proofs
open Go
theorem recNil (x y : Value) (w : World) : CallsDIn Fence.wide 0 Tryz.prog 34 #[x, y] .returning w fun e u' w' => e = .returned (.tuple #[]) /\ u' = .returning /\ w' = w := by
 refine callsDIn_of_wpSIn Tryz.func34 rfl trivial fun c₀ cs hu => ?_
 apply wpSIn_seq
 apply wpSIn_region
 simp [wpOpsSIn, go_sem, recoverD, hu, Tryz.ntmps34, Exit.thenS]
 apply wpSIn_seq
 apply wpSIn_region
 simp [wpOpsSIn, go_sem, recoverD, hu, Tryz.ntmps34, Exit.thenS]
 refine wpSIn_cond (t := false) (by simp [Act.eval, Array.replicate]) ?_
 simp only [Bool.false_eq_true, if_false]
 refine wpSIn_of_wpIn rfl (wpIn_skip ?_)
 cases c₀
 simp_all [bodyPostS, results, Tryz.results34]
end Go.Proofs
namespace Lg
open Go
theorem Ac {P : Program} {N : Nat} {ds : List Deferred} {h0 : PH} {w0 : World} {r : PH} {ops : Array Oper} {rest : List Oper} {Q : Exit -> Act -> World -> Prop} {E : Env} {L : List SP} {x : Operand} {f : Nat} {cap : List Value} {ty : Nat} {pos : String} {af : Array Edge}
  (hx : Sub (opTy E x) (tV (.func (.func f) #[] cap.toArray))) (hk : JL ⟨P, none, N, ⟨.fn (.func f) cap.toArray, #[]⟩ :: ds, h0, w0, r⟩ ops rest Q E L) :
  JL ⟨P, none, N, ds, h0, w0, r⟩ ops (⟨none, .defer { callee := .value x, args := #[], argTypes := #[] }, ty, pos, af, none⟩ :: rest) Q E L := fun a w ⟨n, hds, h, m, l, sp, st, fr⟩ => by
 refine wpListIn_plain rfl fun K hK => ⟨fun _ _ => trivial, ?_⟩
 have hv : a.eval x = .func (.func f) #[] cap.toArray := fr.get hx
 have hr : (execOp a.eval ⟨none, .defer { callee := .value x, args := #[], argTypes := #[] }, ty, pos, af, none⟩).run P w = .ok (.defer ⟨.fn (.func f) cap.toArray, #[]⟩) w := by
  simp [execOp, resolve, hv, Deferred.ofValue]
 show Oper.uponIn (Fw none) 0 P ⟨none, .defer { callee := .value x, args := #[], argTypes := #[] }, ty, pos, af, none⟩ a K Q ((execOp a.eval ⟨none, .defer { callee := .value x, args := #[], argTypes := #[] }, ty, pos, af, none⟩).run P w)
 rw [hr]
 exact hK _ _ (hk _ w ⟨n, by show _ :: a.defers = _; rw [hds], h, m, l, sp, st, fr⟩)
theorem vO {P : Program} {fn : Func} {N : Nat} {ds : List Deferred} {h0 : PH} {w0 : World} {r : PH} {RR : Ending -> World -> Prop} {E : Env} {L : List SP} {f : Nat} {cap : List Value}
  (hi : ∀ w, (callFunc f cap.toArray).run P w = .ok (.enter f cap.toArray) w) (hc : ∀ w, CallsDIn Fence.wide 0 P f cap.toArray .returning w fun e u' w' => e = .returned (.tuple #[]) /\ u' = .returning /\ w' = w)
  (hk : K ⟨P, none, N, ds, h0, w0, r⟩ (bodyPostM Fence.wide 0 P fn RR .ret) E L) :
  K ⟨P, none, N, ⟨.fn (.func f) cap.toArray, #[]⟩ :: ds, h0, w0, r⟩ (bodyPostM Fence.wide 0 P fn RR .ret) E L := fun a w ⟨n, hds, h, m, le, sp, st, fr⟩ => by
 show LeavesInM Fence.wide 0 P fn a.tmps RR a.defers .returning w
 rw [hds]
 refine ⟨by simp, .inr ⟨fun q => absurd q (by simp [Fence.wide]), .func f, cap.toArray, f, cap.toArray, rfl, ?_, fun _ _ => trivial, ?_⟩⟩
 · show (callFunc f (#[] ++ cap.toArray)).run P w = _
   rw [Array.empty_append]; exact hi w
 · refine (hc w).mono ?_
   rintro e u' w' ⟨rfl, rfl, rfl⟩
   exact hk { a with defers := ds } _ ⟨n, rfl, h, m, le, sp, st, fr⟩
open Go Go.Proofs Go.Proofs.Tryz
theorem Ad {h : PH} {m : List (Int × Gkind)} {v : Value} (hv : (d6 kvI fQ m).p h v) : v.oneCell' = true := by
  obtain ⟨r0, es, rfl, _⟩ := lO hv
  rfl
structure Gev where
  tables : List (List LV)
  kinds : List (Int × Gkind)
abbrev rKM : Rp (List (Int × Gkind)) := rT (d6 kvI fQ) Ad
def E6 : List (SF Gev) := [⟨List (List LV), 35, rSl (rSl (rSl rValue)), Gev.tables⟩, ⟨List (Int × Gkind), 80, rKM, Gev.kinds⟩]
abbrev rev : Rp Gev := aU E6
theorem E7 : TyOf prog 80 rKM := ⟨fun w => isAgg80 w, fun w => sizeOf80 w⟩
theorem Ft : TyOf prog 83 rev := ⟨fun w => isAgg83 w, fun w => sizeOf83 w⟩
theorem Ev : StructOf prog 83 E6 := ⟨⟨_, underlying83, ⟨rfl, rfl, CX, by decide, ⟨rfl, rfl, E7, by decide, trivial⟩⟩⟩, Ft⟩
theorem Dq {f : Nat} {v : Value} (hv : v = .func (.func f) #[] #[]) : Sub (rV.ty v) (eZ f []) := by
  subst hv
  rintro h u ⟨rfl, _⟩
  exact ⟨[], rfl, trivial⟩
theorem xT {g : Nat} {a b : Value} : Sub (eZ g [tV a, tV b]) (tV (.func (.func g) #[] [a, b].toArray)) := by
  rintro h u ⟨cap, rfl, ha⟩
  match cap, ha with
  | [x, y], ⟨h1, h2, _⟩ =>
    have h1 : x = a := h1
    have h2 : y = b := h2
    subst h1 h2; rfl
def iP (t : GTable) (row : LV) : Bool := decide (row.length = t.Attrs.length) && (List.range row.length).all fun i => zC (nth t.Attrs i).Kind (nth row i)
def pz (s : GSchema) (ts : List (List LV)) : Bool := (List.range ts.length).all fun i => !((nth ts i).any fun row => !iP (nth s.Tables i) row)
def jW (s : GSchema) (p : aQ) (ts : List (List LV)) : Bool := np s p && decide ((ts.length : Int) = s.Tables.length) && pz s ts
theorem fK (l : List LV) (hl : l.length <= 4398046511104) (gi : Nat) (As : List Ty) (p : LV -> Bool) (hp : ∀ x ∈ l, Fun1 prog gi ([tSl rValue x] ++ As) (tV (.bool (p x)))) (he : ∀ args w, (callFunc gi args).run prog w = .ok (.enter gi args) w) : Fun1 prog 60 [tSl (rSl rValue) l, eZ gi As] (tV (.int .i64 (findI p 0 l))) := by
 refine Spec.enter func60 rfl rfl fun h0 w0 fr0 => ?_
 refine Jr (Za (ab (ap (Jr (Zm ?_)))))
 refine Zs (ag underlying38 Sr) (Zm (ab (au ?_)))
 refine aK (σ := Nat) (fun i => i <= l.length /\ findI p 0 l = findI p i (l.drop i)) (fun i => upd (upd (upd (upd co 0 (tSl (rSl rValue) l)) 1 (eZ gi As)) 7 (tV (.int .i64 l.length))) 8 (tV (.int .i64 i))) (fun i => []) (fun i => l.length - i) 0 ⟨by omega, by simp⟩ (zU) (LSub.rfl) ?_
 rintro i ⟨hi, hv⟩
 refine Jr (Zs (az Sr Sr) (ab (ap ?_)))
 refine am Sr (fun h9 => ?_) (fun h9 => ?_)
 ·
  try simp only [NF] at h9
  have hlt : i < l.length := by omega
  have hd := fq hlt
  refine av (ap (au (Jr (Zm (Za ?_)))))
  refine ab (Jr (Zm (Zm (Zm ?_))))
  refine Zs (ae  underlying38 dt Sr Sr rfl (gb (by first | assumption | omega))) ?_
  refine Zl dt Sr (Zs (bp (aT := [_]) Sr (hp _ (nth_mem hlt)) ⟨Sr, trivial⟩ he) (ab ?_))
  refine am Sr (fun h16 => ?_) (fun h16 => ?_)
  ·
   try simp only [NF] at h16
   refine Jr (Zm (Za (ab (aC ?_))))
   refine bz (rv := .tmp 4) rfl () (.tmp Sr) (Sub.int ?_)
   rw [hv, hd]; simp only [findI]; rw [if_pos h16]
  try simp only [NF] at h16
  refine av (ah (Zs (ax Sr Sr z6) (Zm (ab ?_))))
  refine ay (σ := Nat) (s := i) (i + 1) zO ?_ (zU) (LSub.rfl)
  refine ⟨by omega, ?_⟩
  rw [hv, hd]; simp only [findI]; rw [if_neg (by simp [h16])]; simp
 try simp only [NF] at h9
 refine aV (Jr (Za (ab (aC ?_))))
 refine bz (rv := .tmp 4) rfl () (.tmp Sr) (Sub.int ?_)
 rw [hv, List.drop_of_length_le zG]; rfl
theorem ig (l : List LV) (hl : l.length <= 4398046511104) (gi : Nat) (As : List Ty) (p : LV -> Bool) (hp : ∀ x ∈ l, Fun1 prog gi ([tSl rValue x] ++ As) (tV (.bool (p x)))) (he : ∀ args w, (callFunc gi args).run prog w = .ok (.enter gi args) w) : Fun1 prog 31 [tSl (rSl rValue) l, eZ gi As] (tV (.bool (l.any p))) := by
 refine Spec.enter func31 rfl rfl fun h0 w0 fr0 => ?_
 refine Jr (Za (ab (Jr (Zm (Zm ?_)))))
 refine Zs (aj (fK l hl gi As p hp he) ⟨Sr, Sr, trivial⟩ call60) (Zs (bA Sr Sr) (Za (ab (aC ?_))))
 refine bz (rv := .tmp 4) rfl () (.tmp Sr) (Sub.bool ?_)
 have hq := (dg p l 0 zG).2.2
 by_cases ha : l.any p = true
 ·
  rw [ha]; simp; exact hq.2 ha
 simp only [Bool.not_eq_true] at ha; rw [ha]; simp; have : ¬ 0 <= findI p 0 l := (fun h => by rw [hq.1 h] at ha; cases ha)
 omega
theorem xU (t : GTable) (row : LV) (hl : row.length <= 4398046511104) : Fun1 prog 33 [cS.ty t, tSl rValue row] (tV (.bool (iP t row))) := by
 refine Spec.enter func33 rfl rfl fun h0 w0 fr0 => ?_
 refine Jr (Zs (aF (R := cS) Sr) (Za (ab (ap (Jr ?_)))))
 refine Zm (Zs (ag underlying45 Sr) (Zs (aa jC Sr rfl) (Zl eP Sr (Zs (ag underlying28 Sr) (Zs (be Sr Sr) ?_)))))
 refine ab ?_
 refine am Sr (fun h11 => ?_) (fun h11 => ?_)
 ·
  try simp only [NF] at h11
  refine Jr (Za (ab (aC ?_)))
  refine aI (t := 4) rfl () ?_
  refine Sub.bool ?_
  have : ¬ row.length = t.Attrs.length := by omega
  simp [iP, this]
 try simp only [NF] at h11
 have heq : row.length = t.Attrs.length := by omega
 refine av (ap (Jr (Zm (Zs (ag underlying45 Sr) (Zm ?_)))))
 refine ab (au ?_)
 refine aK (σ := Nat) (fun i => i <= row.length /\ ∀ k, k < i -> zC (nth t.Attrs k).Kind (nth row k) = true) (fun i => upd (upd (upd (upd co 1 (tSl rValue row)) 2 (bx cS t)) 13 (tV (.int .i64 row.length))) 14 (tV (.int .i64 i))) (fun i => []) (fun i => row.length - i) 0 ⟨by omega, fun k hk => by omega⟩ (zU) (LSub.rfl) ?_
 rintro i ⟨hi, hv⟩
 refine Jr (Zs (az Sr Sr) (ab (ap ?_)))
 refine am Sr (fun h15 => ?_) (fun h15 => ?_)
 ·
  try simp only [NF] at h15
  have hlt : i < row.length := by omega
  refine av (ap (au (Jr (Zm (Za ?_)))))
  refine ab (ap ?_)
  refine bQ [⟨0, [2], true⟩, ⟨1, [17], true⟩, ⟨2, [5], true⟩, ⟨3, [18, 19], true⟩, ⟨4, [20], true⟩, ⟨5, [21], true⟩, ⟨6, [1], true⟩, ⟨7, [5], true⟩, ⟨8, [23, 24], true⟩, ⟨9, [25], true⟩, ⟨10, [22, 26], true⟩, ⟨11, [27], true⟩] rfl (by kernel_rfl) ?_
  refine Zf rfl (aa jC Sr rfl) (Zf rfl (ad eP Sr) (Zv rfl ?_))
  refine Zf rfl (ae (i := i) underlying28 eS Sr Sr (by rfl) (gb (by show i < t.Attrs.length; omega))) ?_
  refine Zf rfl (aa gV Sr rfl) (Zf rfl (ad ty3 Sr) (Zv rfl (Zv rfl ?_)))
  refine Zf rfl (ae (i := i) underlying45 bZ Sr Sr (by rfl) (gb (by exact hlt))) ?_
  refine Zf rfl (ad bZ Sr) (Zf rfl (aj (tG _ _) ⟨Sr, Sr, trivial⟩ call61) (Zf rfl (bc Sr) (bP ?_)))
  refine am Sr (fun h28 => ?_) (fun h28 => ?_)
  ·
   try simp only [NF] at h28
   have hf : zC (nth t.Attrs i).Kind (nth row i) = false := by simpa using h28
   refine Jr (Za (ab (aC ?_)))
   refine aI (t := 4) rfl () ?_
   refine Sub.bool ?_
   rw [iP, f9 (f := fun i => zC (nth t.Attrs i).Kind (nth row i)) hlt hf, Bool.and_false]
  try simp only [NF] at h28
  have hf : zC (nth t.Attrs i).Kind (nth row i) = true := by simpa using h28
  refine av (ah (Zs (ax Sr Sr z6) (Zm (ab ?_))))
  refine ay (σ := Nat) (s := i) (i + 1) zO ⟨by omega, fun k hk => by by_cases e : k = i; exact e ▸ hf; exact hv k zG⟩ (zU) (LSub.rfl)
 try simp only [NF] at h15
 have hall := fE (n := row.length) (fun k hk => hv k zG)
 refine aV (Jr (Za (ab (aC ?_))))
 refine aI (t := 4) rfl () ?_
 refine Sub.bool ?_
 rw [iP, hall]; simp [heq]
theorem sO (s : GSchema) (i : Nat) (hi : i < s.Tables.length) (row : LV) (hl : row.length <= 4398046511104) : Fun1 prog 32 [tSl rValue row, bx bB s, bx aO (i : Int)] (tV (.bool (!iP (nth s.Tables i) row))) := by
 refine Spec.enter func32 rfl rfl fun h0 w0 fr0 => ?_
 refine Jr (Za (ab (Jr (Zs (aa qb Sr rfl) (Zl qa Sr ?_)))))
 refine Zl ty3 Sr ?_
 refine Zs (ae (i := i) underlying22 nl Sr Sr (by rfl) (gb (by exact hi))) ?_
 refine Zl nl Sr (Zm (Zs (aj (xU _ _ hl) ⟨Sr, Sr, trivial⟩ call33) (Zs (bc Sr) (Za (ab ?_)))))
 refine aC ?_
 exact aI (t := 4) rfl () Sr
theorem qW (e : Gev) (n : Nat) (p : aQ) (l : List (List LV)) (ht : 0 <= p.Table /\ p.Table < e.tables.length) : Fun1 prog 65 [bx rev e, (aX (n + 1)).ty p, tSl (rSl (rSl rValue)) l] (tSl (rSl rValue) (nth e.tables p.Table.toNat)) := by
 refine Spec.enter func65 rfl rfl fun h0 w0 fr0 => ?_
 refine Jr (Zs (aF (R := (aX (n + 1))) Sr) (Za (ab (ap ?_))))
 refine bQ [⟨0, [0], true⟩, ⟨1, [7], true⟩, ⟨2, [8], true⟩, ⟨3, [9], true⟩, ⟨4, [4], true⟩, ⟨5, [11], true⟩, ⟨6, [10, 12], true⟩, ⟨7, [13], true⟩, ⟨8, [14], true⟩] rfl (by kernel_rfl) ?_
 refine Zv rfl (Zf rfl (aZ Sr) (Zf rfl (aa Ev Sr rfl) (Zf rfl (ad CX Sr) (Zf rfl (aa cq Sr rfl) (Zf rfl (ad ty3 Sr) ?_)))))
 refine Zf rfl (ae (i := p.Table.toNat) underlying35 fX Sr Sr (by show p.Table = _; omega) (gb (by show _ < e.tables.length; omega))) ?_
 refine Zf rfl (ad fX Sr) (Zf rfl (bd Sr) (bP (aC ?_)))
 exact aI (t := 6) rfl () Sr
theorem Bd : TyOf prog 40 aO := ⟨fun w => isAgg40 w, fun w => sizeOf40 w⟩
theorem Fu : ∀ h, (aO.ty 0).p h (Value.int .i64 0) := fun _ => rfl
theorem mI {α : Type} {R : Rp α} : Sub (rV.ty (.slice none 0 0)) (tSl R []) := fun h v e => by
  have e : v = .slice none 0 0 := e.1
  subst e
  exact ⟨none, ⟨0, Nat.le_refl _⟩, rfl, fun q => absurd rfl q⟩
theorem nF (l : LV) (hl : l.length <= 4398046511104) : Fun1 prog 27 [tSl rValue l] (tSl rValue l) := by
 refine Spec.enter func27 rfl rfl fun h0 w0 fr0 => ?_
 refine Jr (Za (ab (ap (Jr (Zm ?_)))))
 refine Zx (dA underlying45 Sr) fun v4 => ?_
 refine ab ?_
 refine am Sr (fun h4 => ?_) (fun h4 => ?_)
 ·
  try simp only [NF] at h4
  refine Jr (Za (ab (aC ?_)))
  have hl0 := v4.2 h4
  subst hl0
  refine aI (t := 2) rfl () F6
 try simp only [NF] at h4
 refine av (Jr ?_)
 refine Zx (bO (ys := []) underlying45 pS trivial rfl (by decide)) fun v5 => ?_
 refine Zm ?_
 refine Zx (aH underlying45 pS Sr Sr zS (by simp; omega) (by simp; omega)) fun v7 => ?_
 refine Za (ab (aC ?_))
 refine aY (rv := .tmp 2) rfl () (Sel.take (FN _)) (.tmp Sr) Frz.own
structure GFixed where
 Col : Int
 Value : GValue
def Dr : GFixed := { Col := 0, Value := c9 }
instance : Inhabited GFixed := ⟨Dr⟩
structure GRule where
 Kind : Int
 Name : ByteArray
 Table : Int
 Cols : List Int
 Col : Int
 Fixed : List GFixed
 Other : Int
 OtherCol : Int
 Tables : List Int
 Tests : List GTest
def Ew : GRule := { Kind := 0, Name := ⟨#[]⟩, Table := 0, Cols := [], Col := 0, Fixed := [], Other := 0, OtherCol := 0, Tables := [], Tests := [] }
instance : Inhabited GRule := ⟨Ew⟩
structure GFact where
 Table : Int
 Entity : Int
 Variant : Int
 Row : List GValue
 Cost : Int
 From : List Int
def Ds : GFact := { Table := 0, Entity := 0, Variant := 0, Row := [], Cost := 0, From := [] }
instance : Inhabited GFact := ⟨Ds⟩
structure GOp where
 Drop : Bool
 Number : Int
 Fact : GFact
def zOp : GOp := { Drop := false, Number := 0, Fact := Ds }
instance : Inhabited GOp := ⟨zOp⟩
structure Gpair where
 rule : Int
 i : Int
 j : Int
 cols : List ((Int × Int))
def Ex : Gpair := { rule := 0, i := 0, j := 0, cols := [] }
instance : Inhabited Gpair := ⟨Ex⟩
structure Gkey where
 pair : Int
 texts : ByteArray
def Fv : Gkey := { pair := 0, texts := ⟨#[]⟩ }
instance : Inhabited Gkey := ⟨Fv⟩
structure GVigil where
 rules : List GRule
 pairs : List Gpair
 pairAt : Value
 facts : Value
 entities : Value
 index : Value
 violations : Value
 work : Int
def Dt : GVigil := { rules := [], pairs := [], pairAt := (Value.map none), facts := (Value.map none), entities := (Value.map none), index := (Value.map none), violations := (Value.map none), work := 0 }
instance : Inhabited GVigil := ⟨Dt⟩
structure GRVigil where
 Rules : List GRule
 Numbers : List Int
 Facts : List GFact
 Count : Int
def B8 : GRVigil := { Rules := [], Numbers := [], Facts := [], Count := 0 }
instance : Inhabited GRVigil := ⟨B8⟩
theorem xV : TyOf Tryz.prog 103 rV := ⟨fun w => Tryz.isAgg103 w, fun w => Tryz.sizeOf103 w⟩
structure Gcomparison where
 op : Int
 holds : Value
def jh : Gcomparison := { op := 0, holds := Value.nilFunc }
instance : Inhabited Gcomparison := ⟨jh⟩
def lf : List (SF Gcomparison) := [⟨Int, 3, aO, Gcomparison.op⟩, ⟨Value, 103, rV, Gcomparison.holds⟩]
abbrev dp : Rp Gcomparison := aU lf
theorem jX : TyOf Tryz.prog 190 dp := ⟨fun w => Tryz.isAgg190 w, fun w => Tryz.sizeOf190 w⟩
theorem lq : StructOf Tryz.prog 190 lf := ⟨⟨_, Tryz.underlying190, ⟨rfl, rfl, ty3, by decide, ⟨rfl, rfl, xV, by decide, trivial⟩⟩⟩, jX⟩
theorem xW : ∀ h, (dp.ty jh).p h (.agg #[Value.int .i64 0, Value.nilFunc]) := fun _ => ⟨_, ⟨[Value.int .i64 0], _, rfl, rfl, ⟨[Value.nilFunc], _, rfl, ⟨rfl, rfl⟩, rfl⟩⟩, rfl⟩
theorem Ey : ElT Tryz.prog 190 dp 16 jh := ⟨jX, by decide, Tryz.t190, (.agg #[Value.int .i64 0, Value.nilFunc]), by kernel_rfl, by kernel_rfl, by kernel_rfl, by kernel_rfl, xW⟩
def sP (a b : ByteArray) : Int := if Op.bytesLess a.toList b.toList then -1 else if Op.bytesLess a.toList b.toList || a.toList == b.toList then 0 else 1
def kJ (a b : GValue) : Int := if ordI a.Kind b.Kind ≠ 0 then ordI a.Kind b.Kind else if ordI a.N b.N ≠ 0 then ordI a.N b.N else sP a.Text b.Text
def dJ (op c : Int) : Bool :=
  if op = 1 then decide (c = 0) else if op = 2 then !decide (c = 0) else if op = 3 then decide (c < 0) else if op = 4 then decide (c <= 0) else false
def fU (a : GValue) (op : Int) (b : GValue) (add : Int) : Bool :=
  if bh a = false \/ bh b = false \/ a.Kind ≠ b.Kind then false
  else if a.Kind = 2 \/ a.Kind = 3 then dJ op (ordI (a.N - b.N) add)
  else if a.Kind = 1 \/ a.Kind = 4 then (if add ≠ 0 then false else dJ op (kJ a b))
  else false
theorem eB (a b : Int) : Fun1 prog 110 [tV (.int .i64 a), tV (.int .i64 b)] (tV (.int .i64 (ordI a b))) := by
 refine Spec.enter func110 rfl rfl fun h0 w0 fr0 => ?_
 refine Jr (Za (ab (ap (au (Jr ?_)))))
 refine Zm (Zm (Zs (az Sr Sr) (Za (ab ?_))))
 refine am Sr (fun hc1 => ?_) (fun hc1 => ?_)
 ·
  try simp only [NF] at hc1
  refine Jr (Za (ab (aC ?_)))
  refine aI (t := 4) rfl () ?_
  refine Sub.int ?_
  simp [ordI, *]
 try simp only [NF] at hc1
 refine Jr (Zm (Zm (Zs (bj Sr Sr) (Za (ab ?_)))))
 refine am Sr (fun hc2 => ?_) (fun hc2 => ?_)
 ·
  try simp only [NF] at hc2
  refine Jr (Za (ab (aC ?_)))
  refine aI (t := 4) rfl () ?_
  refine Sub.int ?_
  have : ¬ a < b := by omega
  simp [ordI, *]
 try simp only [NF] at hc2
 refine av (Jr (Za (ab (aC ?_))))
 refine aI (t := 4) rfl () ?_
 refine Sub.int ?_
 have h1 : ¬ a < b := by omega
 have h2 : ¬ b < a := by omega
 simp [ordI, h1, h2]
theorem nG (a b : ByteArray) : Fun1 prog 156 [tV (.string a), tV (.string b)] (tV (.int .i64 (sP a b))) := by
 refine Spec.enter func156 rfl rfl fun h0 w0 fr0 => ?_
 refine Jr (Za (ab (ap (au (Jr ?_)))))
 refine Zm (Zm (Zs (pZ Sr Sr) (Za (ab ?_))))
 refine am Sr (fun hc1 => ?_) (fun hc1 => ?_)
 ·
  try simp only [NF] at hc1
  refine Jr (Za (ab (aC ?_)))
  refine aI (t := 4) rfl () ?_
  refine Sub.int ?_
  simp [sP, hc1]
 try simp only [NF] at hc1
 refine Jr (Zm (Zm (Zs (p5 Sr Sr) (Za (ab ?_)))))
 refine am Sr (fun hc2 => ?_) (fun hc2 => ?_)
 ·
  try simp only [NF] at hc2
  refine Jr (Za (ab (aC ?_)))
  refine aI (t := 4) rfl () ?_
  refine Sub.int ?_
  simp only [sP, hc1, hc2]; simp
 try simp only [NF] at hc2
 refine av (Jr (Za (ab (aC ?_))))
 refine aI (t := 4) rfl () ?_
 refine Sub.int ?_
 simp only [sP, hc1]; simp_all
theorem fL (a b : GValue) : Fun1 prog 109 [rValue.ty a, rValue.ty b] (tV (.int .i64 (kJ a b))) := by
 refine Spec.enter func109 rfl rfl fun h0 w0 fr0 => ?_
 refine Jr (Zs (aF (R := rValue) Sr) (Zs (aF (R := rValue) Sr) (Za (ab (ap ?_)))))
 refine Jr (Zs (aa fp Sr rfl) (Zl ty3 Sr (Zs (aa fp Sr rfl) (Zl ty3 Sr (Zs (aj (eB _ _) ⟨Sr, Sr, trivial⟩ call110) ?_)))))
 refine Za (ab (Jr (Zm (Zs (be Sr Sr) (ab ?_)))))
 refine am Sr (fun hc1 => ?_) (fun hc1 => ?_)
 ·
  try simp only [NF] at hc1
  refine Jr (Zm (Za (ab (aC ?_))))
  refine aI (t := 4) rfl () ?_
  refine Sub.int ?_
  simp [kJ, hc1]
 try simp only [NF] at hc1
 refine av (ap (Jr (Zs (aa fp Sr rfl) (Zl ty3 Sr (Zs (aa fp Sr rfl) ?_)))))
 refine Zl ty3 Sr (Zs (aj (eB _ _) ⟨Sr, Sr, trivial⟩ call110) (Za (ab (Jr (Zm ?_)))))
 refine Zs (be Sr Sr) (ab ?_)
 refine am Sr (fun hc2 => ?_) (fun hc2 => ?_)
 ·
  try simp only [NF] at hc2
  refine Jr (Zm (Za (ab (aC ?_))))
  refine aI (t := 4) rfl () ?_
  refine Sub.int ?_
  simp [kJ, hc1, hc2]
 try simp only [NF] at hc2
 refine av (Jr (Zs (aa fp Sr rfl) (Zl ty9 Sr (Zs (aa fp Sr rfl) (Zl ty9 Sr ?_)))))
 refine Zs (aj (nG _ _) ⟨Sr, Sr, trivial⟩ call156) (Za (ab (aC ?_)))
 refine aI (t := 4) rfl () ?_
 refine Sub.int ?_
 simp [kJ, hc1, hc2]
theorem B9 (c : Int) : Fun1 prog 175 [tV (.int .i64 c)] (tV (.bool (decide (c = 0)))) := by
 refine Spec.enter func175 rfl rfl fun h0 w0 fr0 => ?_
 refine Jr (Za (ab (Jr (Zm (Zs (aJ Sr Sr) ?_)))))
 refine Za (ab (aC ?_))
 exact aI (t := 2) rfl () Sr
theorem Ca (c : Int) : Fun1 prog 176 [tV (.int .i64 c)] (tV (.bool (!decide (c = 0)))) := by
 refine Spec.enter func176 rfl rfl fun h0 w0 fr0 => ?_
 refine Jr (Za (ab (Jr (Zm (Zs (be Sr Sr) ?_)))))
 refine Za (ab (aC ?_))
 exact aI (t := 2) rfl () Sr
theorem Cb (c : Int) : Fun1 prog 177 [tV (.int .i64 c)] (tV (.bool (decide (c < 0)))) := by
 refine Spec.enter func177 rfl rfl fun h0 w0 fr0 => ?_
 refine Jr (Za (ab (Jr (Zm (Zs (az Sr Sr) ?_)))))
 refine Za (ab (aC ?_))
 exact aI (t := 2) rfl () Sr
theorem Cc (c : Int) : Fun1 prog 178 [tV (.int .i64 c)] (tV (.bool (decide (c <= 0)))) := by
 refine Spec.enter func178 rfl rfl fun h0 w0 fr0 => ?_
 refine Jr (Za (ab (Jr (Zm (Zs (bS Sr Sr) ?_)))))
 refine Za (ab (aC ?_))
 exact aI (t := 2) rfl () Sr
def gl : List Gcomparison := [⟨1, .func (.func 175) #[] #[]⟩, ⟨2, .func (.func 176) #[] #[]⟩, ⟨3, .func (.func 177) #[] #[]⟩, ⟨4, .func (.func 178) #[] #[]⟩]
theorem dI  : Fun1 prog 145 [] (tSl dp gl) := by
 refine Spec.enter func145 rfl rfl fun h0 w0 fr0 => ?_
 refine Jr (Za (ab (Jr ?_)))
 refine Zs (aP (x := (⟨1, .func (.func 175) #[] #[]⟩ : Gcomparison)) (zs := [[Value.int .i64 0], [Value.nilFunc]]) lq (fun w => zeroValue190 w) ⟨Sr, (by first | exact Sr | exact FT rfl), trivial⟩ ⟨⟨Sr, rfl⟩, ⟨(by first | exact Sr | exact FT rfl), rfl⟩, trivial⟩) ?_
 refine Zs (aP (x := (⟨2, .func (.func 176) #[] #[]⟩ : Gcomparison)) (zs := [[Value.int .i64 0], [Value.nilFunc]]) lq (fun w => zeroValue190 w) ⟨Sr, (by first | exact Sr | exact FT rfl), trivial⟩ ⟨⟨Sr, rfl⟩, ⟨(by first | exact Sr | exact FT rfl), rfl⟩, trivial⟩) ?_
 refine Zs (aP (x := (⟨3, .func (.func 177) #[] #[]⟩ : Gcomparison)) (zs := [[Value.int .i64 0], [Value.nilFunc]]) lq (fun w => zeroValue190 w) ⟨Sr, (by first | exact Sr | exact FT rfl), trivial⟩ ⟨⟨Sr, rfl⟩, ⟨(by first | exact Sr | exact FT rfl), rfl⟩, trivial⟩) ?_
 refine Zs (aP (x := (⟨4, .func (.func 178) #[] #[]⟩ : Gcomparison)) (zs := [[Value.int .i64 0], [Value.nilFunc]]) lq (fun w => zeroValue190 w) ⟨Sr, (by first | exact Sr | exact FT rfl), trivial⟩ ⟨⟨Sr, rfl⟩, ⟨(by first | exact Sr | exact FT rfl), rfl⟩, trivial⟩) ?_
 refine Zs (aB (ys := [_, _, _, _]) underlying187 Ey ⟨rfl, Sr, rfl, Sr, rfl, Sr, rfl, Sr, trivial⟩ rfl (by decide)) ?_
 refine Za (ab (aC ?_))
 refine aI (t := 0) rfl () Sr
theorem jY {ro : Option Nat} {N : Nat} {ds : List Deferred} {h0 : PH} {w0 : World} {r : PH} {E : Env} {L : List SP} {d : Option Nat} {ty : Nat} {pos : String} {af : Array Edge} {g : Option (Nat × Bool)} {x y : Operand} {ts : Array Nat} {i : Nat} {c : Int}
    (hi : i < 4) (hx : Sub (opTy E x) (rV.ty (nth gl i).holds)) (hy : Sub (opTy E y) (tV (.int .i64 c))) :
    Step (X := Unit) ⟨prog, ro, N, ds, h0, w0, r⟩ ⟨d, .call { callee := .value x, args := #[y], argTypes := ts }, ty, pos, af, g⟩ E L (fun _ => tV (.bool (dJ (nth gl i).op c))) (fun _ => L) := by
  have key : ∀ f v, Fun1 prog f [tV (.int .i64 c)] (tV (.bool v)) -> (∀ args w, (callFunc f args).run prog w = .ok (.enter f args) w) -> (nth gl i).holds = .func (.func f) #[] #[] -> dJ (nth gl i).op c = v ->
      Step (X := Unit) ⟨prog, ro, N, ds, h0, w0, r⟩ ⟨d, .call { callee := .value x, args := #[y], argTypes := ts }, ty, pos, af, g⟩ E L (fun _ => tV (.bool (dJ (nth gl i).op c))) (fun _ => L) := by
    intro f v hf he h1 h2
    rw [h2]
    refine bp (f := f) (aT := [tV (.int .i64 c)]) (As := []) (fun h u e => ?_) hf ⟨hy, trivial⟩ he
    obtain ⟨e1, _⟩ := hx h u e
    rw [h1] at e1
    exact ⟨[], e1, trivial⟩
  rcases i with _ | _ | _ | _ | i
  · exact key 175 _ (B9 c) call175 rfl (by simp [dJ, gl])
  · exact key 176 _ (Ca c) call176 rfl (by simp [dJ, gl])
  · exact key 177 _ (Cb c) call177 rfl (by simp [dJ, gl])
  · exact key 178 _ (Cc c) call178 rfl (by simp [dJ, gl])
  · omega
theorem fM {op c : Int} (h : ∀ k, k < 4 -> (nth gl k).op ≠ op) : dJ op c = false := by
  have h0 := h 0 (by omega); have h1 := h 1 (by omega); have h2 := h 2 (by omega); have h3 := h 3 (by omega)
  simp only [gl, nth] at h0 h1 h2 h3
  simp [dJ, Ne.symm h0, Ne.symm h1, Ne.symm h2, Ne.symm h3]
theorem t6 {a b : GValue} (ha : bh a = true) (hb : bh b = true) : iu (a.N - b.N) := by
  have := lZ ha
  have := lZ hb
  unfold iu; omega
theorem mJ (a b : GValue) (op add : Int) : Fun1 prog 106 [rValue.ty a, tV (.int .i64 op), rValue.ty b, tV (.int .i64 add)] (tV (.bool (fU a op b add))) := by
 refine Spec.enter func106 rfl rfl fun h0 w0 fr0 => ?_
 refine Jr (Zs (aF (R := rValue) Sr) (Zs (aF (R := rValue) Sr) (Za (ab (ap ?_)))))
 refine Jr (Zl bZ Sr (Zs (aj (eU _) ⟨Sr, trivial⟩ call48) (Zs (bc Sr) (Zm ?_))))
 refine Zk (ad bZ Sr) ?_
 refine Zg (fun hw => aj (eU _) ⟨(Sub.w hw), trivial⟩ call48) (Zg (fun hw => bc (Sub.w hw)) (Zs (aD Sr Sr) (Zm ?_)))
 refine Zk (aa fp Sr rfl) ?_
 refine Zg (fun hw => ad ty3 (Sub.w hw)) ?_
 refine Zk (aa fp Sr rfl) ?_
 refine Zg (fun hw => ad ty3 (Sub.w hw)) (Zg (fun hw => be (Sub.w hw) (Sub.w hw)) (Zs (aD Sr Sr) (ab ?_)))
 refine am Sr (fun hc1 => ?_) (fun hc1 => ?_)
 ·
  try simp only [NF] at hc1
  refine Jr (Za (ab (aC ?_)))
  refine aI (t := 8) rfl () ?_
  refine Sub.bool ?_
  have : (bh a = false \/ bh b = false \/ a.Kind ≠ b.Kind) := by simpa [or_assoc] using hc1
  simp only [fU, if_pos this]
 try simp only [NF] at hc1
 have hva : bh a = true := by simp_all
 have hvb : bh b = true := by simp_all
 have hk : a.Kind = b.Kind := by simp_all
 have hpre : ¬ (bh a = false \/ bh b = false \/ a.Kind ≠ b.Kind) := by simp [hva, hvb, hk]
 refine av (Jr (Za (ab (ap (Jr ?_)))))
 refine Zs (aa fp Sr rfl) (Zl ty3 Sr (ab (au (ap (Jr ?_)))))
 refine Zs (aJ Sr Sr) (Za (ab ?_))
 refine am Sr (fun hc2 => ?_) (fun hc2 => ?_)
 ·
  try simp only [NF] at hc2
  refine av ?_
  refine am Sr (fun hc3 => ?_) (fun hc3 => ?_)
  ·
   try simp only [NF] at hc3
   refine ah (Zs (aa fp Sr rfl) (Zl ty3 Sr (Zs (aa fp Sr rfl) (Zl ty3 Sr (Zs (cK Sr Sr (t6 hva hvb)) ?_)))))
   refine Zm (Zs (aj (eB _ _) ⟨Sr, Sr, trivial⟩ call110) (Za (ab (ap (Jr ?_)))))
   refine Zs (aj (dI ) trivial call145) (Zs (ag underlying187 Sr) (Zm (ab (au ?_))))
   refine aK (σ := Nat) (fun i => i <= 4 /\ ∀ k, k < i -> (nth gl k).op ≠ op) (fun i => upd (upd (upd (upd (upd co 1 (tV (.int .i64 op))) 9 (tV (.int .i64 (ordI (a.N - b.N) add)))) 47 (tSl dp gl)) 48 (tV (.int .i64 4))) 49 (tV (.int .i64 i))) (fun i => []) (fun i => 4 - i) 0 ⟨by omega, fun k hk => by omega⟩ (zU) (LSub.rfl) ?_
   rintro i ⟨hi, hv⟩
   refine Jr (Zs (az Sr Sr) (ab (ap ?_)))
   refine am Sr (fun hc4 => ?_) (fun hc4 => ?_)
   ·
    try simp only [NF] at hc4
    have hlt : i < 4 := by omega
    refine av (ap (au (Jr ?_)))
    refine Zs (ae  underlying187 jX Sr Sr rfl (gb (by exact hlt))) ?_
    refine Zl jX Sr ?_
    refine Zx (aE (fun w => zeroValue190 w) xW) fun v11 => ?_
    refine Ju (ai jX Sr Sr zS) fun _ => ?_
    refine aN (t := 11) (Sel.take (FN _)) Frz.box ?_
    refine ab (Jr (Zs (aa lq Sr rfl) (Zl ty3 Sr (Zm (Zs (aJ Sr Sr) ?_)))))
    refine ab ?_
    refine am Sr (fun hc5 => ?_) (fun hc5 => ?_)
    ·
     try simp only [NF] at hc5
     refine Jr (Zs (aa lq Sr rfl) (Zl xV Sr (Zm (Zs (jY hlt Sr Sr) (Za ?_)))))
     refine ab (aC ?_)
     refine aI (t := 8) rfl () ?_
     refine Sub.bool ?_
     rw [fU, if_neg hpre]
     simp_all
    try simp only [NF] at hc5
    refine av (ah (Zs (ax Sr Sr z6) (Zm (ab ?_))))
    refine ay (σ := Nat) (s := i) (i + 1) zO ?_ (zU) (LSub.rfl)
    refine ⟨by omega, fun k hk => ?_⟩
    by_cases e : k = i
    ·
     subst e; simp_all
    exact hv k zG
   try simp only [NF] at hc4
   have hno := fun c => fM (op := op) (c := c) (fun k hk => hv k zG)
   refine aV (Jr (Za (ab (aC ?_))))
   refine aI (t := 8) rfl () ?_
   refine Sub.bool ?_
   rw [fU, if_neg hpre]
   simp_all
  try simp only [NF] at hc3
  first | contradiction | omega | (simp_all; done)
 try simp only [NF] at hc2
 refine ah (Zs (aJ Sr Sr) (Za (ab ?_)))
 refine am Sr (fun hc6 => ?_) (fun hc6 => ?_)
 ·
  try simp only [NF] at hc6
  refine ah (Zs (aa fp Sr rfl) (Zl ty3 Sr (Zs (aa fp Sr rfl) (Zl ty3 Sr (Zs (cK Sr Sr (t6 hva hvb)) ?_)))))
  refine Zm (Zs (aj (eB _ _) ⟨Sr, Sr, trivial⟩ call110) (Za (ab (ap (Jr ?_)))))
  refine Zs (aj (dI ) trivial call145) (Zs (ag underlying187 Sr) (Zm (ab (au ?_))))
  refine aK (σ := Nat) (fun i => i <= 4 /\ ∀ k, k < i -> (nth gl k).op ≠ op) (fun i => upd (upd (upd (upd (upd co 1 (tV (.int .i64 op))) 9 (tV (.int .i64 (ordI (a.N - b.N) add)))) 47 (tSl dp gl)) 48 (tV (.int .i64 4))) 49 (tV (.int .i64 i))) (fun i => []) (fun i => 4 - i) 0 ⟨by omega, fun k hk => by omega⟩ (zU) (LSub.rfl) ?_
  rintro i ⟨hi, hv⟩
  refine Jr (Zs (az Sr Sr) (ab (ap ?_)))
  refine am Sr (fun hc7 => ?_) (fun hc7 => ?_)
  ·
   try simp only [NF] at hc7
   have hlt : i < 4 := by omega
   refine av (ap (au (Jr ?_)))
   refine Zs (ae  underlying187 jX Sr Sr rfl (gb (by exact hlt))) ?_
   refine Zl jX Sr ?_
   refine Zx (aE (fun w => zeroValue190 w) xW) fun v11 => ?_
   refine Ju (ai jX Sr Sr zS) fun _ => ?_
   refine aN (t := 11) (Sel.take (FN _)) Frz.box ?_
   refine ab (Jr (Zs (aa lq Sr rfl) (Zl ty3 Sr (Zm (Zs (aJ Sr Sr) ?_)))))
   refine ab ?_
   refine am Sr (fun hc8 => ?_) (fun hc8 => ?_)
   ·
    try simp only [NF] at hc8
    refine Jr (Zs (aa lq Sr rfl) (Zl xV Sr (Zm (Zs (jY hlt Sr Sr) (Za ?_)))))
    refine ab (aC ?_)
    refine aI (t := 8) rfl () ?_
    refine Sub.bool ?_
    rw [fU, if_neg hpre]
    simp_all
   try simp only [NF] at hc8
   refine av (ah (Zs (ax Sr Sr z6) (Zm (ab ?_))))
   refine ay (σ := Nat) (s := i) (i + 1) zO ?_ (zU) (LSub.rfl)
   refine ⟨by omega, fun k hk => ?_⟩
   by_cases e : k = i
   ·
    subst e; simp_all
   exact hv k zG
  try simp only [NF] at hc7
  have hno := fun c => fM (op := op) (c := c) (fun k hk => hv k zG)
  refine aV (Jr (Za (ab (aC ?_))))
  refine aI (t := 8) rfl () ?_
  refine Sub.bool ?_
  rw [fU, if_neg hpre]
  simp_all
 try simp only [NF] at hc6
 refine ap (Jr (Zs (aJ Sr Sr) (Za (ab ?_))))
 refine am Sr (fun hc9 => ?_) (fun hc9 => ?_)
 ·
  try simp only [NF] at hc9
  refine av ?_
  refine am Sr (fun hc10 => ?_) (fun hc10 => ?_)
  ·
   try simp only [NF] at hc10
   refine ap (Jr (Zm (Zs (be Sr Sr) (ab ?_))))
   refine am Sr (fun hc11 => ?_) (fun hc11 => ?_)
   ·
    try simp only [NF] at hc11
    refine Jr (Za (ab (aC ?_)))
    refine aI (t := 8) rfl () ?_
    refine Sub.bool ?_
    rw [fU, if_neg hpre]
    simp_all
   try simp only [NF] at hc11
   refine av (ah (Zl bZ Sr (Zl bZ Sr (Zs (aj (fL _ _) ⟨Sr, Sr, trivial⟩ call109) (Za ?_)))))
   refine ab (ap (Jr (Zs (aj (dI ) trivial call145) (Zs (ag underlying187 Sr) (Zm ?_)))))
   refine ab (au ?_)
   refine aK (σ := Nat) (fun i => i <= 4 /\ ∀ k, k < i -> (nth gl k).op ≠ op) (fun i => upd (upd (upd (upd (upd co 1 (tV (.int .i64 op))) 9 (tV (.int .i64 (kJ a b)))) 47 (tSl dp gl)) 48 (tV (.int .i64 4))) 49 (tV (.int .i64 i))) (fun i => []) (fun i => 4 - i) 0 ⟨by omega, fun k hk => by omega⟩ (zU) (LSub.rfl) ?_
   rintro i ⟨hi, hv⟩
   refine Jr (Zs (az Sr Sr) (ab (ap ?_)))
   refine am Sr (fun hc12 => ?_) (fun hc12 => ?_)
   ·
    try simp only [NF] at hc12
    have hlt : i < 4 := by omega
    refine av (ap (au (Jr ?_)))
    refine Zs (ae  underlying187 jX Sr Sr rfl (gb (by exact hlt))) ?_
    refine Zl jX Sr ?_
    refine Zx (aE (fun w => zeroValue190 w) xW) fun v11 => ?_
    refine Ju (ai jX Sr Sr zS) fun _ => ?_
    refine aN (t := 11) (Sel.take (FN _)) Frz.box ?_
    refine ab (Jr (Zs (aa lq Sr rfl) (Zl ty3 Sr (Zm (Zs (aJ Sr Sr) ?_)))))
    refine ab ?_
    refine am Sr (fun hc13 => ?_) (fun hc13 => ?_)
    ·
     try simp only [NF] at hc13
     refine Jr (Zs (aa lq Sr rfl) (Zl xV Sr (Zm (Zs (jY hlt Sr Sr) (Za ?_)))))
     refine ab (aC ?_)
     refine aI (t := 8) rfl () ?_
     refine Sub.bool ?_
     rw [fU, if_neg hpre]
     simp_all
    try simp only [NF] at hc13
    refine av (ah (Zs (ax Sr Sr z6) (Zm (ab ?_))))
    refine ay (σ := Nat) (s := i) (i + 1) zO ?_ (zU) (LSub.rfl)
    refine ⟨by omega, fun k hk => ?_⟩
    by_cases e : k = i
    ·
     subst e; simp_all
    exact hv k zG
   try simp only [NF] at hc12
   have hno := fun c => fM (op := op) (c := c) (fun k hk => hv k zG)
   refine aV (Jr (Za (ab (aC ?_))))
   refine aI (t := 8) rfl () ?_
   refine Sub.bool ?_
   rw [fU, if_neg hpre]
   simp_all
  try simp only [NF] at hc10
  first | contradiction | omega | (simp_all; done)
 try simp only [NF] at hc9
 refine ah (Zs (aJ Sr Sr) (Za (ab ?_)))
 refine am Sr (fun hc14 => ?_) (fun hc14 => ?_)
 ·
  try simp only [NF] at hc14
  refine ap (Jr (Zm (Zs (be Sr Sr) (ab ?_))))
  refine am Sr (fun hc15 => ?_) (fun hc15 => ?_)
  ·
   try simp only [NF] at hc15
   refine Jr (Za (ab (aC ?_)))
   refine aI (t := 8) rfl () ?_
   refine Sub.bool ?_
   rw [fU, if_neg hpre]
   simp_all
  try simp only [NF] at hc15
  refine av (ah (Zl bZ Sr (Zl bZ Sr (Zs (aj (fL _ _) ⟨Sr, Sr, trivial⟩ call109) (Za ?_)))))
  refine ab (ap (Jr (Zs (aj (dI ) trivial call145) (Zs (ag underlying187 Sr) (Zm ?_)))))
  refine ab (au ?_)
  refine aK (σ := Nat) (fun i => i <= 4 /\ ∀ k, k < i -> (nth gl k).op ≠ op) (fun i => upd (upd (upd (upd (upd co 1 (tV (.int .i64 op))) 9 (tV (.int .i64 (kJ a b)))) 47 (tSl dp gl)) 48 (tV (.int .i64 4))) 49 (tV (.int .i64 i))) (fun i => []) (fun i => 4 - i) 0 ⟨by omega, fun k hk => by omega⟩ (zU) (LSub.rfl) ?_
  rintro i ⟨hi, hv⟩
  refine Jr (Zs (az Sr Sr) (ab (ap ?_)))
  refine am Sr (fun hc16 => ?_) (fun hc16 => ?_)
  ·
   try simp only [NF] at hc16
   have hlt : i < 4 := by omega
   refine av (ap (au (Jr ?_)))
   refine Zs (ae  underlying187 jX Sr Sr rfl (gb (by exact hlt))) ?_
   refine Zl jX Sr ?_
   refine Zx (aE (fun w => zeroValue190 w) xW) fun v11 => ?_
   refine Ju (ai jX Sr Sr zS) fun _ => ?_
   refine aN (t := 11) (Sel.take (FN _)) Frz.box ?_
   refine ab (Jr (Zs (aa lq Sr rfl) (Zl ty3 Sr (Zm (Zs (aJ Sr Sr) ?_)))))
   refine ab ?_
   refine am Sr (fun hc17 => ?_) (fun hc17 => ?_)
   ·
    try simp only [NF] at hc17
    refine Jr (Zs (aa lq Sr rfl) (Zl xV Sr (Zm (Zs (jY hlt Sr Sr) (Za ?_)))))
    refine ab (aC ?_)
    refine aI (t := 8) rfl () ?_
    refine Sub.bool ?_
    rw [fU, if_neg hpre]
    simp_all
   try simp only [NF] at hc17
   refine av (ah (Zs (ax Sr Sr z6) (Zm (ab ?_))))
   refine ay (σ := Nat) (s := i) (i + 1) zO ?_ (zU) (LSub.rfl)
   refine ⟨by omega, fun k hk => ?_⟩
   by_cases e : k = i
   ·
    subst e; simp_all
   exact hv k zG
  try simp only [NF] at hc16
  have hno := fun c => fM (op := op) (c := c) (fun k hk => hv k zG)
  refine aV (Jr (Za (ab (aC ?_))))
  refine aI (t := 8) rfl () ?_
  refine Sub.bool ?_
  rw [fU, if_neg hpre]
  simp_all
 try simp only [NF] at hc14
 refine Jr (Za (ab (aC ?_)))
 refine aI (t := 8) rfl () ?_
 refine Sub.bool ?_
 rw [fU, if_neg hpre]
 simp_all
theorem Ae (a b : ByteArray) : sP a b = ordS a b := by
  unfold sP ordS
  rw [ByteArray.toList_eq, ByteArray.toList_eq]
  by_cases h1 : ofB a < ofB b
  · rw [if_pos ((bytesLess_iff _ _).2 h1), if_pos h1]
  · have h1' : Op.bytesLess (ofB a) (ofB b) = false := by
      cases h : Op.bytesLess (ofB a) (ofB b) with
      | false => rfl
      | true => exact absurd ((bytesLess_iff _ _).1 h) h1
    rw [h1', if_neg h1, Bool.false_or]
    by_cases h2 : ofB b < ofB a
    · rw [if_pos h2]
      have : ¬ (ofB a == ofB b) = true := fun q => by rw [eq_of_beq q] at h2; exact List.lt_irrefl _ h2
      simp [this]
    · have e : a.data.toList = b.data.toList := List.le_antisymm (List.not_lt.1 h2) (List.not_lt.1 h1)
      rw [if_neg h2, e]; simp
theorem t7 (a b : GValue) : kJ a b = cmpV a b := by unfold kJ cmpV; rw [Ae]
theorem t8 (w : World) : (callFunc 231 #[]).run prog w = .ok (.value (.tuple #[])) w := run_call_mark0 func231 (by kernel_rfl) (by kernel_rfl) (by kernel_rfl) .disable (by kernel_rfl) w
theorem xX (w : World) : (callFunc 233 #[]).run prog w = .ok (.value (.tuple #[])) w := run_call_mark0 func233 (by kernel_rfl) (by kernel_rfl) (by kernel_rfl) .enable (by kernel_rfl) w
theorem Af (a : Addr) (w : World) : (callFunc 234 #[.pointer (some a)]).run prog w = .ok (.value (.tuple #[])) w := run_call_marked func234 (by kernel_rfl) (by kernel_rfl) (by kernel_rfl) .acquire (by kernel_rfl) a w
theorem Du (a : Addr) (w : World) : (callFunc 236 #[.pointer (some a)]).run prog w = .ok (.value (.tuple #[])) w := run_call_marked func236 (by kernel_rfl) (by kernel_rfl) (by kernel_rfl) .releaseMerge (by kernel_rfl) a w
theorem nH (a : Addr) (x : Value) (u : FrameMode) (w : World) (hc : w.cell? a = some x) (hz : w.frozen? a = false) :
    CallsD prog 213 #[.pointer (some a), .bool true] u w fun e u' w' => u' = u /\ (e = .returned (.tuple #[]) /\ w' = w.drew.setCell a (.int .u32 1)) := by
  have hc' : w.drew.cell? a = some x := by go_simp
  have hz' : w.drew.frozen? a = false := by go_simp
  have hst := run_call_store (P := prog) func223 (by kernel_rfl) (by kernel_rfl) (by kernel_rfl) (by kernel_rfl) (k := .u32) (y := 1) hc' hz'
  go_enter_d func213, Tryz.ntmps213
  go_wp2
  go_region_calls
  all_goals (go_end0; exact ⟨rfl, rfl⟩)
set_option maxRecDepth 100000 in
theorem mK (a : Addr) (u : FrameMode) (w : World) (hc : w.cell? a = some (.int .i32 1)) (hz : w.frozen? a = false) :
    CallsD prog 212 #[.pointer (some a)] u w fun e u' w' => u' = u /\ (e = .returned (.tuple #[]) /\ w' = w.setCell a (.int .i32 0)) := by
  have hd := t8
  have he := xX
  have hr := Du
  have hadd := run_call_add (P := prog) func237 (by kernel_rfl) (by kernel_rfl) (by kernel_rfl) .i32 (by kernel_rfl) (y := -1) (s := 0) hc hz (by simp [go_sem]; rfl)
  have hcv := run_convert_to_unsafe (P := prog) (src := 298) (dst := 302) underlying298 underlying302 (by kernel_rfl) hc
  go_enter_d func212, Tryz.ntmps212
  go_wp2
  go_end0
  go_wp2
  go_end0
  exact ⟨rfl, rfl⟩
set_option maxRecDepth 100000 in
theorem xY (a : Addr) (w : World) (hc : w.cell? a = some (.int .i32 0)) (hz : w.frozen? a = false) :
    Calls prog 211 #[.pointer (some a)] w fun e w' => e = .returned (.tuple #[]) /\ w' = w.setCell a (.int .i32 1) := by
  have hd := t8
  have he := xX
  have ha := Af
  have hcas := run_call_cas_hit (P := prog) func232 (by kernel_rfl) (by kernel_rfl) (by kernel_rfl) .i32 (by kernel_rfl) (y := 1) hc hz
  have hc' : (w.setCell a (.int .i32 1)).cell? a = some (.int .i32 1) := World.cell?_setCell_same w a _ hc
  have hcv := run_convert_to_unsafe (P := prog) (src := 298) (dst := 302) underlying298 underlying302 (by kernel_rfl) hc'
  go_enter func211, Tryz.ntmps211
  go_wp2
  first | go_end0 | (simp only [Exit.inBlock, Exit.then]; refine bodyPost_ret (results_none rfl _ _ _) rfl ?_) | refine bodyPost_ret (results_none rfl _ _ _) rfl ?_
  go_wp2
  go_end0
  exact ⟨rfl, rfl⟩
set_option maxRecDepth 100000 in
theorem Ag (b : Nat) (w : World) (Q : World -> Prop) (h0 : w.cell? ⟨b, 0, none⟩ = some (.int .u32 0)) (h1 : w.cell? ⟨b, 1, none⟩ = some (.int .i32 0)) (f0 : w.frozen? ⟨b, 0, none⟩ = false) (f1 : w.frozen? ⟨b, 1, none⟩ = false)
    (hf : Calls prog 186 #[.pointer (some ⟨b, 0, none⟩)] (w.setCell ⟨b, 1, none⟩ (.int .i32 1)) fun e w2 => e = .returned (.tuple #[]) /\ Q w2 /\ w2.cell? ⟨b, 0, none⟩ = some (.int .u32 0) /\ w2.cell? ⟨b, 1, none⟩ = some (.int .i32 1) /\ w2.frozen? ⟨b, 0, none⟩ = false /\ w2.frozen? ⟨b, 1, none⟩ = false) :
    Calls prog 202 #[.pointer (some ⟨b, 0, none⟩), .func (.func 186) #[.pointer (some ⟨b, 0, none⟩)] #[]] w fun e w' => e = .returned (.tuple #[]) /\ ∃ w2, Q w2 /\ w' = (w2.drew.setCell ⟨b, 0, none⟩ (.int .u32 1)).setCell ⟨b, 1, none⟩ (.int .i32 0) := by
  have hl := run_call_load (P := prog) func210 (by kernel_rfl) (by kernel_rfl) (by kernel_rfl) .u32 (by kernel_rfl) (w := w.setCell ⟨b, 1, none⟩ (.int .i32 1)) (a := ⟨b, 0, none⟩) (x := 0) ((World.cell?_setCell_other _ ⟨b, 1, none⟩ ⟨b, 0, none⟩ _ (by simp)).trans h0)
  have hnot : ∀ (x : Bool) (w : World), (Op.unary .not (.bool x)).run prog w = .ok (.bool (!x)) w := fun _ _ => rfl
  go_enter_defers func202, Tryz.ntmps202
  go_wp2_with (first | (go_at_call 211; refine (xY ⟨b, 1, none⟩ _ (by first | exact h1 | go_simp) (by first | exact f1 | go_simp)).mono ?_; rintro e w' ⟨rfl, rfl⟩) | (go_at_call 186; refine hf.mono ?_; rintro e w2 ⟨rfl, hq, g0, g1, z0, z1⟩) | (go_at_call 201; go_in))
  refine leaves_cons (f := 213) (args := #[.pointer (some ⟨b, 0, none⟩), .bool true]) (by simp) (by simp [go_sem]) ?_
  refine (nH ⟨b, 0, none⟩ (.int .u32 0) .returning _ g0 z0).mono ?_
  rintro e u' w'' ⟨rfl, rfl, rfl⟩
  refine leaves_cons (f := 212) (args := #[.pointer (some ⟨b, 1, none⟩)]) (by simp [settle]) (by simp [go_sem]) ?_
  refine (mK ⟨b, 1, none⟩ _ _ ?_ (by simp [z1])).mono ?_
  · refine (World.cell?_setCell_other _ ⟨b, 0, none⟩ ⟨b, 1, none⟩ _ (by simp)).trans ?_
    rw [World.cell?_drew]; exact g1
  rintro e u' w'' ⟨rfl, rfl, rfl⟩
  simp only [Leaves, settle]
  simp [results, Tryz.results202]
  exact ⟨w2, hq, rfl⟩
set_option maxRecDepth 100000 in
theorem Ah (b : Nat) (w : World) (Q : World -> Prop) (h0 : w.cell? ⟨b, 0, none⟩ = some (.int .u32 0)) (h1 : w.cell? ⟨b, 1, none⟩ = some (.int .i32 0)) (f0 : w.frozen? ⟨b, 0, none⟩ = false) (f1 : w.frozen? ⟨b, 1, none⟩ = false)
    (hf : Calls prog 186 #[.pointer (some ⟨b, 0, none⟩)] (w.setCell ⟨b, 1, none⟩ (.int .i32 1)) fun e w2 => e = .returned (.tuple #[]) /\ Q w2 /\ w2.cell? ⟨b, 0, none⟩ = some (.int .u32 0) /\ w2.cell? ⟨b, 1, none⟩ = some (.int .i32 1) /\ w2.frozen? ⟨b, 0, none⟩ = false /\ w2.frozen? ⟨b, 1, none⟩ = false) :
    Calls prog 185 #[.pointer (some ⟨b, 0, none⟩), .func (.func 186) #[.pointer (some ⟨b, 0, none⟩)] #[]] w fun e w' => e = .returned (.tuple #[]) /\ ∃ w2, Q w2 /\ w' = (w2.drew.setCell ⟨b, 0, none⟩ (.int .u32 1)).setCell ⟨b, 1, none⟩ (.int .i32 0) := by
  have hl := run_call_load (P := prog) func210 (by kernel_rfl) (by kernel_rfl) (by kernel_rfl) .u32 (by kernel_rfl) h0
  have hnot : ∀ (x : Bool) (w : World), (Op.unary .not (.bool x)).run prog w = .ok (.bool (!x)) w := fun _ _ => rfl
  go_enter func185, Tryz.ntmps185
  go_wp2_with (first | (go_at_call 202; refine (Ag b w Q h0 h1 f0 f1 hf).mono ?_; rintro e w' ⟨rfl, w2, hq, rfl⟩) | (go_at_call 201; go_in))
  go_end0
  exact ⟨rfl, w2, hq, rfl⟩
theorem dK (s : ByteArray) : ∀ x ∈ aA s, 0 <= x /\ x < 256 := by
 intro x hx
 unfold aA at hx
 obtain ⟨b, _, rfl⟩ := List.mem_map.1 hx
 have := b.toNat_lt
 omega
def pV (c : Int) : List Int := if c = 34 then [92, 34] else if c = 92 then [92, 92] else if c = 10 then [92, 110] else [c]
def eW (l : List Int) : List Int := l.flatMap pV
theorem gm (c : Int) (l : List Int) : eW (c :: l) = pV c ++ eW l := by simp [eW]
theorem mL (a b : List Int) : eW (a ++ b) = eW a ++ eW b := by simp [eW]
theorem xZ (c : Int) (t : List Int) : ∀ {u}, pV c ++ t ≠ 34 :: u := by
 intro u h
 unfold pV at h
 by_cases h1 : c = 34
 · rw [if_pos h1] at h; simp at h
 · rw [if_neg h1] at h
   by_cases h2 : c = 92
   · rw [if_pos h2] at h; simp at h
   · rw [if_neg h2] at h
     by_cases h3 : c = 10
     · rw [if_pos h3] at h; simp at h
     · rw [if_neg h3] at h; simp at h; exact h1 h.1
theorem Ai {c d : Int} {t u : List Int} (h : pV c ++ t = pV d ++ u) : c = d /\ t = u := by
 unfold pV at h
 (repeat' split at h) <;> simp only [List.cons_append, List.nil_append, List.cons.injEq] at h <;> first | exact ⟨by omega, h.2.2⟩ | exact ⟨by omega, h.2⟩ | (exfalso; omega)
theorem x3 : ∀ {x y t t' : List Int}, eW x ++ 34 :: t = eW y ++ 34 :: t' -> x = y /\ t = t'
 | [], [], t, t', h => by simp [eW] at h; exact ⟨rfl, h⟩
 | [], d :: y, t, t', h => by
   rw [gm, List.append_assoc] at h
   exact absurd h.symm (xZ d _)
 | c :: x, [], t, t', h => by
   rw [gm, List.append_assoc] at h
   exact absurd h (xZ c _)
 | c :: x, d :: y, t, t', h => by
   rw [gm, gm, List.append_assoc, List.append_assoc] at h
   obtain ⟨rfl, h2⟩ := Ai h
   obtain ⟨rfl, h3⟩ := x3 h2
   exact ⟨rfl, h3⟩
theorem Be {z : Int} : ∀ {x y t t' : List Int}, z ∉ x -> z ∉ y -> x ++ z :: t = y ++ z :: t' -> x = y /\ t = t'
 | [], [], t, t', _, _, h => by simp at h; exact ⟨rfl, h⟩
 | [], d :: y, t, t', _, hy, h => by simp at h; simp at hy; exact absurd h.1 hy.1
 | c :: x, [], t, t', hx, _, h => by simp at h; simp at hx; exact absurd h.1.symm hx.1
 | c :: x, d :: y, t, t', hx, hy, h => by
   simp at h hx hy
   obtain ⟨rfl, h3⟩ := Be hx.2 hy.2 h.2
   exact ⟨by rw [h.1], h3⟩
def Ez (l : List UInt8) : Nat := l.foldl (fun a c => a * 10 + (c.toNat - 48)) 0
theorem ua (n : Nat) : Ez (Lib.decDigits n) = n := by
 induction n using Nat.strongRecOn with
 | _ n ih =>
   rw [Lib.decDigits]
   split
   · rename_i h
     simp only [Ez, List.foldl_cons, List.foldl_nil]
     rw [UInt8.toNat_ofNat']
     omega
   · rename_i h
     have := ih (n / 10) (by omega)
     unfold Ez at *
     rw [List.foldl_append, this]
     simp only [List.foldl_cons, List.foldl_nil]
     rw [UInt8.toNat_ofNat']
     omega
theorem x4 {a b : Nat} (h : Lib.decDigits a = Lib.decDigits b) : a = b := by rw [<- ua a, h, ua]
theorem kK (n : Nat) : (∀ c ∈ Lib.decDigits n, 48 <= c.toNat /\ c.toNat <= 57) /\ Lib.decDigits n ≠ [] := by
 induction n using Nat.strongRecOn with
 | _ n ih =>
   rw [Lib.decDigits]
   split
   · rename_i h
     refine ⟨fun c hc => ?_, by simp⟩
     simp only [List.mem_singleton] at hc
     subst hc
     rw [UInt8.toNat_ofNat']; omega
   · rename_i h
     refine ⟨fun c hc => ?_, by simp⟩
     rcases List.mem_append.1 hc with hc | hc
     · exact (ih (n / 10) (by omega)).1 c hc
     · simp only [List.mem_singleton] at hc
       subst hc
       rw [UInt8.toNat_ofNat']; omega
def Cd : List Int -> Ty
  | [] => tV (.slice none 0 0)
  | x :: xs => tSl rU8 (x :: xs)
theorem Aj : ∀ {xs : List Int} {h : PH} {v : Value}, (Cd xs).p h v -> v.oneCell' = true
  | [], h, v, a => by have a : v = .slice none 0 0 := a; subst a; rfl
  | x :: xs, h, v, a => by obtain ⟨ao, cap, rfl, _⟩ := a; rfl
theorem mM {xs : List Int} (h : xs ≠ []) : Cd xs = tSl rU8 xs := by
  cases xs with
  | nil => exact absurd rfl h
  | cons x xs => rfl
def CR : Rp (List Int) where
  k := 1
  agg := false
  rel := fun h o cs => ∃ u, cs = [u] /\ (Cd o).p h u
  ty := Cd
  len := by rintro _ _ _ ⟨u, rfl, _⟩; rfl
  one := by rintro _ _ _ ⟨u, rfl, h⟩ c hc; simp at hc; subst hc; exact Aj h
  mono := fun {h h' o cs} l ⟨u, e, a⟩ => ⟨u, e, (Cd o).mono l a⟩
  scalar := fun _ => rfl
  iff := by
    intro h x v
    constructor
    · intro h1; exact ⟨[v], ⟨v, rfl, h1⟩, rfl⟩
    · rintro ⟨cs, ⟨u, rfl, h1⟩, rfl⟩; exact h1
theorem eM : TyOf prog 271 CR := ⟨fun w => isAgg271 w, fun w => sizeOf271 w⟩
theorem Dv : TyOf prog 272 (AY 256 CR) := ⟨fun w => isAgg272 w, fun w => sizeOf272 w⟩
abbrev Dw : List (SF (List (List Int) × Value)) := [⟨List (List Int), 272, AY 256 CR, Prod.fst⟩, ⟨Value, 60, rV, Prod.snd⟩]
abbrev zh : List (SF (List (List Int) × List ByteArray)) := [⟨List (List Int), 272, AY 256 CR, Prod.fst⟩, ⟨List ByteArray, 60, rSl d5, Prod.snd⟩]
theorem Bf : TyOf prog 274 (aU Dw) := ⟨fun w => isAgg274 w, fun w => sizeOf274 w⟩
theorem EA : TyOf prog 274 (aU zh) := ⟨fun w => isAgg274 w, fun w => sizeOf274 w⟩
theorem qX : StructOf prog 274 Dw := ⟨⟨_, underlying274, ⟨rfl, rfl, Dv, by decide, ⟨rfl, rfl, BK, by decide, trivial⟩⟩⟩, Bf⟩
theorem pA : StructOf prog 274 zh := ⟨⟨_, underlying274, ⟨rfl, rfl, Dv, by decide, ⟨rfl, rfl, wU, by decide, trivial⟩⟩⟩, EA⟩
abbrev Ak : List (List Int) := List.replicate 256 []
theorem ji {h : PH} : ∀ n, relAll CR h (List.replicate n []) (List.replicate n (Value.slice none 0 0))
  | 0 => rfl
  | n + 1 => ⟨[.slice none 0 0], List.replicate n (.slice none 0 0), rfl, ⟨_, rfl, rfl⟩, ji n⟩
theorem EB : ∀ h, ((aU Dw).ty (Ak, .slice none 0 0)).p h (.agg Tryz.zeroCells274) := fun h =>
  ⟨List.replicate 256 (.slice none 0 0) ++ [.slice none 0 0], ⟨_, _, rfl, ⟨by simp, ji 256⟩, [.slice none 0 0], [], rfl, ⟨rfl, rfl⟩, rfl⟩, by kernel_rfl⟩
def nI (l : List ByteArray) : Nat -> List (List Int)
  | 0 => Ak
  | n + 1 => (nI l n).set (nth (aA (nth l (l.length - 2 - 2 * n))) 0).toNat (aA (nth l (l.length - 2 - 2 * n + 1)))
def mN (l : List ByteArray) (n : Nat) : List ByteArray := (List.range n).map fun i => nth l (l.length - 2 - 2 * i)
abbrev six : List ByteArray := [⟨#[34]⟩, ⟨#[92, 34]⟩, ⟨#[92]⟩, ⟨#[92, 92]⟩, ⟨#[10]⟩, ⟨#[92, 110]⟩]
def tRI : Ty := tIf 275 (bx (aU zh) (nI six 3, mN six 3))
def tOI : Bool -> Ty
  | false => tV .nilIface
  | true => tRI
theorem Ce : ∀ {o : Bool} {h : PH} {v : Value}, (tOI o).p h v -> v.oneCell' = true
  | false, h, v, a => by have a : v = .nilIface := a; subst a; rfl
  | true, h, v, a => by obtain ⟨u, rfl, b, off, cs, rfl, _⟩ := a; rfl
def rOI : Rp Bool where
  k := 1
  agg := false
  rel := fun h o cs => ∃ u, cs = [u] /\ (tOI o).p h u
  ty := tOI
  len := by rintro _ _ _ ⟨u, rfl, _⟩; rfl
  one := by rintro _ _ _ ⟨u, rfl, h⟩ c hc; simp at hc; subst hc; exact Ce h
  mono := fun {h h' o cs} l ⟨u, e, a⟩ => ⟨u, e, (tOI o).mono l a⟩
  scalar := fun _ => rfl
  iff := by
    intro h x v
    constructor
    · intro h1; exact ⟨[v], ⟨v, rfl, h1⟩, rfl⟩
    · rintro ⟨cs, ⟨u, rfl, h1⟩, rfl⟩; exact h1
theorem Cf : TyOf prog 240 rOI := ⟨fun w => isAgg240 w, fun w => sizeOf240 w⟩
theorem EC : TyOf prog 238 (AZ 3) := ⟨fun w => isAgg238 w, fun w => sizeOf238 w⟩
abbrev Cg := List Value × Bool × List ByteArray
abbrev gp : List (SF Cg) := [⟨List Value, 238, AZ 3, fun x => x.1⟩, ⟨Bool, 240, rOI, fun x => x.2.1⟩, ⟨List ByteArray, 60, rSl d5, fun x => x.2.2⟩]
theorem ED : TyOf prog 242 (aU gp) := ⟨fun w => isAgg242 w, fun w => sizeOf242 w⟩
theorem vP : StructOf prog 242 gp := ⟨⟨_, underlying242, ⟨rfl, rfl, EC, by decide, ⟨rfl, rfl, Cf, by decide, ⟨rfl, rfl, wU, by decide, trivial⟩⟩⟩⟩, ED⟩
abbrev nr (d m : Int) : List Value := [.int .u32 d, .int .i32 m, .int .u32 0]
theorem mO {h : PH} {y : Cg} {cs : List Value} (r : SF.rel h y gp cs) : ∃ u v, cs = y.1 ++ [u, v] /\ y.1.length = 3 := by
  obtain ⟨c0, _, rfl, ⟨rfl, hl, _⟩, c1, _, rfl, ⟨u, rfl, _⟩, c2, _, rfl, r2, rz⟩ := r
  obtain ⟨v, rfl, _⟩ := r2
  rw [show _ = [] from rz]
  exact ⟨u, v, by simp, hl⟩
theorem x5 {h : PH} {o o' : List Value} {a : Bool} {l : List ByteArray} {cs : List Value} (r : SF.rel h (o, a, l) gp cs) (hl : o'.length = 3) (ho : ∀ c ∈ o', c.oneCell' = true) : SF.rel h (o', a, l) gp (o' ++ cs.drop 3) := by
  obtain ⟨c0, c1, rfl, ⟨e0, h0, _⟩, r1⟩ := r
  have e0 : c0 = o := e0
  subst e0
  refine ⟨o', c1, ?_, ⟨rfl, hl, ho⟩, r1⟩
  rw [List.drop_left' h0]
theorem qY {w : World} {b i : Nat} {c : Array Value} {t : Nat} {v : Value} (hb : w.heap[b]? = some (.cells c t (0, 0))) : (w.setCell ⟨b, i, none⟩ v).heap[b]? = some (.cells (c.setIfInBounds i v) t (0, 0)) := by
  simpa using heap_setCell_same w b i c t v hb
theorem Sep.setCell {h m r : PH} {w : World} {b i : Nat} {c : Array Value} {t : Nat} {v : Value} (d : (PH.one b (.cells c t (0, 0))).disj m) (s : Sep h ((PH.one b (.cells c t (0, 0))).join m) r w) :
    Sep h ((PH.one b (.cells (c.setIfInBounds i v) t (0, 0))).join m) r (w.setCell ⟨b, i, none⟩ v) :=
  F4 d s (fun b' hne _ => heap_setCell_other w ⟨b, i, none⟩ b' v hne) (qY s.heap_own)
theorem Same.setCell (w : World) (a : Addr) (v : Value) : Same w (w.setCell a v) := ⟨rfl, rfl, rfl⟩
theorem Ch (b : Nat) (hB : Spec (X := Unit) prog 186 [tAt b 0] [box b 242 (aU gp) (nr 0 1, false, six)] (fun _ => fW []) (fun _ => [box b 242 (aU gp) (nr 0 1, true, [])])) :
    Spec (X := Unit) prog 185 [tAt b 0, tV (.func (.func 186) #[.pointer (some ⟨b, 0, none⟩)] #[])] [box b 242 (aU gp) (nr 0 0, false, six)] (fun _ => fW []) (fun _ => [box b 242 (aU gp) (nr 1 0, true, [])]) := by
  intro vs h m r w ha sp st
  match vs, ha with
  | [u1, u2], ⟨a1, a2, _⟩ =>
  have a1 : u1 = .pointer (some ⟨b, 0, none⟩) := a1
  have a2 : u2 = .func (.func 186) #[.pointer (some ⟨b, 0, none⟩)] #[] := a2
  subst a1; subst a2
  obtain ⟨m1, m2, d12, rfl, ⟨cs, rel, rfl⟩, e2⟩ := st
  have e2 : m2 = PH.emp := e2
  subst e2
  obtain ⟨u, v, hcs, _⟩ := mO rel
  have hcs : cs = [.int .u32 0, .int .i32 0, .int .u32 0, u, v] := hcs
  subst hcs
  have hb := sp.heap_own
  have hcell : ∀ i, w.cell? ⟨b, i, none⟩ = ([.int .u32 0, .int .i32 0, .int .u32 0, u, v] : List Value).toArray[i]? := fun i => c8 (h := h) hb i
  have hfz : ∀ i, w.frozen? ⟨b, i, none⟩ = false := fun i => by simp [World.frozen?, hb]
  have s1 := sp.setCell (i := 1) (v := .int .i32 1) d12
  have rel1 := x5 (o' := nr 0 1) rel rfl (by intro c hc; simp at hc; rcases hc with rfl | rfl | rfl <;> rfl)
  refine (Ah b w (fun w2 => ∃ h' m', HL h w h' w2 /\ Sep h' m' r w2 /\ (stars [box b 242 (aU gp) (nr 0 1, true, [])]).p h' m') (hcell 0) (hcell 1) (hfz 0) (hfz 1) ?_).mono ?_
  · refine (hB [.pointer (some ⟨b, 0, none⟩)] h _ r _ ⟨rfl, trivial⟩ s1 ⟨_, PH.emp, FX _, rfl, ⟨_, rel1, rfl⟩, rfl⟩).mono ?_
    rintro e w2 ⟨x, v2, h', m', rfl, l, s2, st2, ⟨vs, hv, hva⟩⟩
    have hvs : v2 = .tuple #[] := by
      cases vs with
      | nil => exact hv
      | cons a b => exact hva.elim
    subst hvs
    have st2' := st2
    obtain ⟨m3, m4, d34, rfl, ⟨cs2, relb, rfl⟩, e4⟩ := st2
    have e4 : m4 = PH.emp := e4
    subst e4
    obtain ⟨u', v', hcs2, _⟩ := mO relb
    have hcs2 : cs2 = [.int .u32 0, .int .i32 1, .int .u32 0, u', v'] := hcs2
    subst hcs2
    have hb2 := s2.heap_own
    have hc2 : ∀ i, w2.cell? ⟨b, i, none⟩ = ([.int .u32 0, .int .i32 1, .int .u32 0, u', v'] : List Value).toArray[i]? := fun i => c8 (h := h') hb2 i
    have hz2 : ∀ i, w2.frozen? ⟨b, i, none⟩ = false := fun i => by simp [World.frozen?, hb2]
    exact ⟨rfl, ⟨h', _, ⟨l.1, (Same.setCell w ⟨b, 1, none⟩ _).trans l.2⟩, s2, st2'⟩, hc2 0, hc2 1, hz2 0, hz2 1⟩
  · rintro e w' ⟨rfl, w2, ⟨h', m', l, s2, st2⟩, rfl⟩
    obtain ⟨m3, m4, d34, rfl, ⟨cs2, relb, rfl⟩, e4⟩ := st2
    have e4 : m4 = PH.emp := e4
    subst e4
    obtain ⟨u', v', hcs2, _⟩ := mO relb
    have hcs2 : cs2 = [.int .u32 0, .int .i32 1, .int .u32 0, u', v'] := hcs2
    subst hcs2
    have t1 := (s2.drew).setCell (i := 0) (v := .int .u32 1) d34
    have t2 := t1.setCell (i := 1) (v := .int .i32 0) (FX _)
    have rel2 := x5 (o' := nr 1 0) relb rfl (by intro c hc; simp at hc; rcases hc with rfl | rfl | rfl <;> rfl)
    exact ⟨(), .tuple #[], h', _, rfl, ⟨l.1, l.2.trans ((Same.drew _).trans ((Same.setCell _ _ _).trans (Same.setCell _ _ _)))⟩, t2, ⟨_, PH.emp, FX _, rfl, ⟨_, rel2, rfl⟩, rfl⟩, ⟨[], rfl, trivial⟩⟩
theorem pB {C : Cx} {E : Env} {L : List SP} {d : Option Nat} {ty : Nat} {pos : String} {af : Array Edge} {g : Option (Nat × Bool)} {T U e : Nat} {x : Operand} (hu : C.P.underlying T = some (.slice e)) (hx : Sub (opTy E x) (tV (.slice none 0 0))) :
    a8 C ⟨d, .binOp .eql T x (.const (.slice none 0 0)) U, ty, pos, af, g⟩ E L (tV (.bool true)) :=
  FP (by intro c h; cases h) fun a w h hw fr => by
    have hv : a.eval x = .slice none 0 0 := fr.get hx
    refine ⟨.bool true, ?_, rfl⟩
    have he : ∀ w, (eqGuard .eql T x (.const (.slice none 0 0)) (a.eval x) (.slice none 0 0)).run C.P w = .ok () w := by intro w; rw [hv]; simp [eqGuard]
    have h2 : a.eval (.const (.slice none 0 0)) = .slice none 0 0 := rfl
    have hr := Lib.run_eql_slice_nil (P := C.P) w T e none 0 0 0 0 hu
    rw [hv] at he
    simp [execOp, hv, h2, Sem.run_bind, he, hr]
theorem Dx : ∀ c, c < 3 -> nth (nI six c) (nth (aA (nth six (6 - 2 - 2 * c))) 0).toNat = [] := by decide
theorem Ci : ∀ c, c < 3 -> ef [nth (aA (nth six (6 - 2 - 2 * c))) 0] = nth six (6 - 2 - 2 * c) := by decide
theorem Dy : ∀ c, c < 3 -> aA (nth six (6 - 2 - 2 * c + 1)) ≠ [] := by decide
theorem z229 (w : World) : (zeroValue 274).run prog w = .ok (.agg ([List.replicate 256 (.slice none 0 0), [.slice none 0 0]].flatten.toArray)) w := by
  rw [zeroValue274 w]
  exact congrArg (fun c => Result.ok (Value.agg c) w) (by kernel_rfl)
theorem ou : ∀ i, i < 6 -> i % 2 = 0 -> (nth six i).size = 1 := by decide
theorem vQ : ∀ i, i < 6 -> i % 2 = 0 -> (nth six (i + 1)).size = 2 := by decide
theorem lr (l : List ByteArray) (hl : l.length <= 1000000) (he : l.length % 2 = 0) : Spec (X := Nat) prog 162 [tSl d5 l] ([]) (fun b => tAt b 0) (fun b => [box b 242 (aU gp) (nr 0 0, false, l)]) := by
 refine Spec.enter func162 rfl rfl fun h0 w0 fr0 => ?_
 refine Jr (Za (ab (ap (Jr (Zm ?_)))))
 refine Zs (ag underlying60 Sr) ?_
 refine Zs (zp Sr Sr zG (by decide)) ?_
 refine Zs (aJ Sr Sr) (ab ?_)
 refine am Sr (fun h6 => ?_) (fun h6 => ?_)
 ·
  try simp only [NF] at h6
  exfalso; have h6 : (l.length : Int) % 2 = 1 := h6; omega
 try simp only [NF] at h6
 refine av (ap ?_)
 refine a7 (FR (e := 9) (R := d5)) ?_
 refine ah (Zm ?_)
 refine Zx (aH underlying60 el9 (FT rfl) Sr zS (by simp; omega) (by simp; omega)) fun v9 => ?_
 refine aN (t := 9) (A' := tSl d5 l) (Sel.take (FN _)) (Gi (by simp)) ?_
 refine Zs (aP (x := ((nr 0 0, false, l) : Cg)) (zs := [nr 0 0, [.nilIface], [.slice none 0 0]]) vP (fun w => zeroValue242 w) ⟨Sr, trivial⟩ ⟨fun _ => ⟨rfl, rfl, by intro c hc; simp at hc; rcases hc with rfl | rfl | rfl <;> rfl⟩, fun _ => ⟨_, rfl, rfl⟩, ⟨Sr, rfl⟩, trivial⟩) ?_
 refine Zx (cL (R := aU gp) Sr) fun b11 => ?_
 refine Za (ab (aC ?_))
 refine aI (t := 2) rfl b11 Sr
theorem vR (b : Nat) : Spec (X := Unit) prog 203 [tAt b 0] ([box b 242 (aU gp) (nr 0 1, false, six)]) (fun _ => tRI) (fun _ => [box b 242 (aU gp) (nr 0 1, false, six)]) := by
 refine Spec.enter func203 rfl rfl fun h0 w0 fr0 => ?_
 refine Jr (Za (ab (Jr (Zm (Zs (aW Sr) ?_)))))
 refine Zs (aq vP Sr rfl) ?_
 refine Zs (a6 wU Sr rfl zS) ?_
 refine Za (ab (ap (Jr (Zm (Zs (ag underlying60 Sr) ?_)))))
 refine Zs (aJ Sr Sr) (Zm ?_)
 refine Zk (ar Sr) ?_
 refine Zg (fun hw => ae (i := 0) underlying60 ty9 (Sub.w hw) Sr (by rfl) (gb (by have hwq := hw; (try simp only [beqB_t, beqB_f, NF] at hwq); decide))) ?_
 refine Zg (fun hw => ad ty9 (Sub.w hw)) (Zg (fun hw => bF underlying9 (Sub.w hw)) (Zg (fun hw => bj (Sub.w hw) Sr) (Zs (aw Sr Sr) (ab ?_))))
 refine am Sr (fun h28 => ?_) (fun h28 => ?_)
 ·
  try simp only [NF] at h28
  exfalso; simp at h28
 try simp only [NF] at h28
 refine av (Jr (Za (ab (ap (Jr ?_)))))
 refine Za (ab (au ?_))
 refine aK (σ := Nat × Bool) (fun ⟨i, al⟩ => i <= 6 /\ i % 2 = 0 /\ (al = true -> i = 0)) (fun ⟨i, al⟩ => upd (upd (upd co 3 (tSl d5 six)) 4 (tV (.bool al))) 5 (tV (.int .i64 i))) (fun ⟨i, al⟩ => [box b 242 (aU gp) (nr 0 1, false, six)]) (fun ⟨i, al⟩ => 6 - i) (0, true) ⟨by omega, by omega, fun _ => rfl⟩ (zU) (LSub.rfl) ?_
 rintro ⟨i, al⟩ ⟨hi, hev, hal⟩
 refine ap (Jr (Zm (Zm (Zs (ag underlying60 Sr) (Zs (az Sr Sr) ?_)))))
 refine ab ?_
 refine am Sr (fun h40 => ?_) (fun h40 => ?_)
 ·
  try simp only [NF] at h40
  have h6 : six.length = 6 := rfl
  have hlt : i < 6 := by omega
  refine av (ap (au (ap (Jr (Zm ?_)))))
  refine Zm ?_
  refine Zs (ae  underlying60 ty9 Sr Sr rfl (gb (by exact hlt))) ?_
  refine Zl ty9 Sr (Zs (bF underlying9 Sr) (Zs (be Sr Sr) (ab ?_)))
  refine am Sr (fun h48 => ?_) (fun h48 => ?_)
  ·
   try simp only [NF] at h48
   exact absurd h48 (by have := ou i hlt hev; omega)
  try simp only [NF] at h48
  refine av (Jr (Zm (Zm (Zs (ax Sr Sr z6) ?_))))
  refine Zs (ae (i := (i + 1)) underlying60 ty9 Sr Sr zG (gb (by show i + 1 < 6; omega))) ?_
  refine Zl ty9 Sr (Zs (bF underlying9 Sr) (Zs (be Sr Sr) (ab ?_)))
  refine am Sr (fun h58 => ?_) (fun h58 => ?_)
  ·
   try simp only [NF] at h58
   refine ah (Za (ab (ah (Zm (Zs (ax Sr Sr z6) ?_)))))
   refine Za (ab ?_)
   refine ay (σ := Nat × Bool) (s := (i, al)) (i + 2, false) zO ⟨by omega, by omega, fun q => by cases q⟩ (zU) (LSub.rfl)
  try simp only [NF] at h58
  exact absurd h58 (by have := vQ i hlt hev; omega)
 try simp only [NF] at h40
 have h6 : six.length = 6 := rfl
 have hge : 6 <= i := by omega
 refine aV (ap (Jr (Zm (ab ?_))))
 refine am Sr (fun h59 => ?_) (fun h59 => ?_)
 ·
  try simp only [NF] at h59
  exfalso; have := hal h59; omega
 try simp only [NF] at h59
 refine av (Jr (Zm (Zs (ag underlying60 Sr) ?_)))
 refine Zs (zq Sr Sr (by decide) (by decide) z6) ?_
 refine Zx (uS (c := 3) underlying60 el9 Sr Sr rfl (by decide) (by decide) (by decide)) fun v94 => ?_
 refine Zs (aP (x := ((Ak, v94) : List (List Int) × Value)) (zs := [List.replicate 256 (.slice none 0 0), [.slice none 0 0]]) qX z229 ⟨Sr, trivial⟩ ⟨fun _ => ⟨by simp, ji 256⟩, ⟨Sr, rfl⟩, trivial⟩) ?_
 refine Zx (aE (R := aU Dw) (z := (Ak, .slice none 0 0)) (fun w => zeroValue274 w) EB) fun b11 => ?_
 refine Ju (ai Bf Sr Sr zS) fun _ => ?_
 refine ab (ap (Jr (Zm (Zs (ag underlying60 Sr) (Zs (cK Sr Sr z6) ?_)))))
 refine Za (ab (au ?_))
 refine aK (σ := Nat × Value) (fun ⟨c, v⟩ => c <= 3) (fun ⟨c, v⟩ => upd (upd (upd co 3 (tSl d5 six)) 11 (tAt b11 0)) 12 (tV (.int .i64 (4 - 2 * (c : Int))))) (fun ⟨c, v⟩ => [box b11 274 (aU Dw) (nI six c, v), own 9 d5 v (mN six c), box b 242 (aU gp) (nr 0 1, false, six)]) (fun ⟨c, v⟩ => 3 - c) (0, v94) zG (SubE.upd (Sub.int (by decide)) (zU)) (.r zS (.c zS (f5 rfl) (zL))) ?_
 rintro ⟨c, v⟩ hc
 try dsimp only at hc
 refine ap (Jr (Zm (Zs (bA Sr Sr) (ab ?_))))
 refine am Sr (fun h100 => ?_) (fun h100 => ?_)
 ·
  try simp only [NF] at h100
  have hc3 : c < 3 := by omega
  have htl : (mN six c).length = c := by simp [mN]
  have hs1 := ou (6 - 2 - 2 * c) zG zG
  have hk : 0 <= (nth (aA (nth six (6 - 2 - 2 * c))) 0) /\ (nth (aA (nth six (6 - 2 - 2 * c))) 0) < 256 := dK _ _ (nth_mem (by rw [cE]; omega))
  refine av (ap (au (Jr (Zm (Zm ?_)))))
  refine Zs (ae (i := (6 - 2 - 2 * c)) underlying60 ty9 Sr Sr zG (gb (by show 6 - 2 - 2 * c < 6; omega))) ?_
  refine Zl ty9 Sr ?_
  refine Zs (cR (i := 0) underlying9 Sr Sr (by rfl) zG) ?_
  refine Za (ab (Jr (Zm (Zm (Zs (ax Sr Sr z6) ?_)))))
  refine Zs (ae (i := (6 - 2 - 2 * c + 1)) underlying60 ty9 Sr Sr zG (gb (by show 6 - 2 - 2 * c + 1 < 6; omega))) ?_
  refine Zl ty9 Sr (Za (ab (ap (Jr (Zm ?_)))))
  refine Zs (aq qX Sr rfl) ?_
  refine Zs (lN (o := 0) (i := (nth (aA (nth six (6 - 2 - 2 * c))) 0).toNat) underlying272 (fun w => sizeOf271 w) Sr Sr zG zG) ?_
  refine Zs (oR (n := 256) eM rfl (Sub.v (by rw [Nat.zero_add])) zG zS) ?_
  refine Zs (pB underlying271 (Ge (by show Cd (nth (nI six c) _) = _; rw [Dx c hc3]; rfl))) ?_
  refine ab ?_
  refine am Sr (fun h117 => ?_) (fun h117 => ?_)
  ·
   try simp only [NF] at h117
   refine ah (Zs (aq qX Sr rfl) ?_)
   refine Zs (a6 BK Sr rfl zS) ?_
   refine Zm ?_
   refine Zx (bO (ys := [_]) underlying271 el5 ⟨rfl, Sr, trivial⟩ rfl (by decide)) fun v121 => ?_
   refine Zs (eI underlying271 underlying5 underlying9 Sr zS) ?_
   refine aN (t := 121) (A' := tSl rU8 [(nth (aA (nth six (6 - 2 - 2 * c))) 0)]) (Sel.take (FN _)) Frz.own ?_
   refine Zs (aB (ys := [_]) underlying60 el9 ⟨rfl, Sr, trivial⟩ rfl (by decide)) ?_
   refine Zx (aH underlying60 el9 Sr Sr zS (by simp; omega) (by simp; omega)) fun v124 => ?_
   refine Zs (aq qX Sr rfl) ?_
   refine Ju (aS (R := rV) (y := ((nI six c, v) : List (List Int) × Value)) (y' := ((nI six c, v124) : List (List Int) × Value)) BK Sr Sr zS ⟨rfl, fun h cs r => r, rfl, by intro g hg; cases hg⟩) fun _ => ?_
   refine ab (ah (Zm (Zm (Zs (jx underlying9 underlying271 underlying5 Sr) (Zs (aq qX Sr rfl) ?_)))))
   refine Zs (lN (o := 0) (i := (nth (aA (nth six (6 - 2 - 2 * c))) 0).toNat) underlying272 (fun w => sizeOf271 w) Sr Sr zG zG) ?_
   refine Ju (nv (n := 256) (z := aA (nth six (6 - 2 - 2 * c + 1))) (y' := ((nI six (c + 1), v124) : List (List Int) × Value)) eM rfl (Sub.v (by rw [Nat.zero_add])) zG (Ge (mM (Dy c hc3)).symm) zS rfl (by intro f hf; simp at hf; subst hf; rfl)) fun _ => ?_
   refine ab (ah (Zm (Zs (cK Sr Sr z6) (Za (ab ?_)))))
   refine ay (σ := Nat × Value) (s := (c, v)) (c + 1, v124) zO zG (SubE.upd (Sub.int zG) (zU)) (.r zS (.c zS (f5 (by rw [Ci c hc3]; simp [mN, List.range_succ])) (zL)))
  try simp only [NF] at h117
  exfalso; simp at h117
 try simp only [NF] at h100
 obtain rfl : c = 3 := by omega
 refine aV (Jr ?_)
 refine aN (t := 11) (A' := bx (aU zh) (nI six 3, mN six 3)) (Sel.take (Sel.take (FN _))) (Frz.up (fun h h' cs le hv r => by
 obtain ⟨c0, _, rfl, r0, c1, _, rfl, r1, rz⟩ := r
 exact ⟨c0, _, rfl, (AY 256 CR).mono le r0, c1, _, rfl, ⟨_, r1.1, hv⟩, rz⟩)) ?_
 refine Zs (gZ underlying275 (by intro m h; cases h) Sr) ?_
 refine Za (ab (aC ?_))
 refine aI (t := 2) rfl () Sr
def ub (v : Value) (n : Nat) : Value := match v with
 | .slice (some a) l c => .slice (if c = n then some a else some ⟨a.block, a.off + n, none⟩) (l - n) (c - n)
 | v => v
section
variable {C : Cx} {E : Env} {L : List SP} {d : Option Nat} {ty : Nat} {pos : String} {af : Array Edge} {g : Option (Nat × Bool)}
theorem gQ {T e n : Nat} {x y : Operand} {v : Value} {xs : List Int} {S : List SP} {k : IntKind} {i : Int} (hu : C.P.underlying T = some (.slice e)) (hR : TyOf C.P e rU8)
  (hx : Sub (opTy E x) (rV.ty v)) (hy : Sub (opTy E y) (tV (.int k i))) (hi : i = n) (sel : Sel L [own e rU8 v xs] S) (hn : n <= xs.length) :
  a8 C ⟨d, .slice T x (some y) none none, ty, pos, af, g⟩ E L (tV (ub v n)) :=
 FQ (by intro c h; cases h) fun a w h m l sp st fr => by
  have hv : a.eval x = v := (fr.get hx).1
  have h2 : a.eval y = .int k i := fr.get hy
  subst hi
  obtain ⟨m1, m2, d12, rfl, ho, s2⟩ := sel.one.1 st
  have hsz := hR.size
  have hk : rU8.k = 1 := rfl
  rw [hk] at hsz
  rcases ho with ⟨rfl, rfl, rfl⟩ | ⟨b, cap, cur, rfl, rfl, hl, hm, hs, r⟩
  · have hn0 : n = 0 := by simpa using hn
    subst hn0
    refine ⟨(), .slice none 0 0, w, h, _, ?_, HL.refl, sp, st, rfl⟩
    simp [execOp, Instr.sliceAt, run_underlying hu, hv, h2, Instr.slice, Instr.sliceBounds, Instr.sliceBound, asIntOf, hsz]
  · have hnc : (n : Int) <= cap := by omega
    refine ⟨(), .slice (if cap = n then some ⟨b, 0, none⟩ else some ⟨b, 0 + n, none⟩) (xs.length - n) (cap - n), w, h, _, ?_, HL.refl, sp, st, rfl⟩
    simp [execOp, Instr.sliceAt, run_underlying hu, hv, h2, Instr.slice, Instr.sliceBounds, Instr.sliceBound, asIntOf, hsz, hn, hl, show n <= cap by omega]
    rw [ce, Nat.zero_add]
theorem ij {T e n U : Nat} {x y : Operand} {v : Value} {xs ys : List Int} {S : List SP} (hu : C.P.underlying T = some (.slice e)) (hs : (C.P.info? e).map (·.size) = some 1)
  (hx : Sub (opTy E x) (tV (ub v n))) (hy : Sub (opTy E y) (tSl rU8 ys)) (sel : Sel L [own e rU8 v xs] S) (hn : n + ys.length <= xs.length) (hne : ys ≠ []) :
  Step C ⟨d, .call { callee := .builtin .copy, args := #[x, y], argTypes := #[T, U] }, ty, pos, af, g⟩ E L (fun _ : Unit => tV (.int .i64 (ys.length : Int))) (fun _ => own e rU8 v (xs.take n ++ ys ++ xs.drop (n + ys.length)) :: S) :=
 FQ (by intro c h; cases h) fun a w h m l sp st fr => by
  have hv : a.eval x = ub v n := fr.get hx
  obtain ⟨ao, scap, hyv, H⟩ := fr.get hy
  obtain ⟨sb, so, rfl, H2⟩ := H hne
  obtain ⟨m1, m2, d12, rfl, ho, s2⟩ := sel.one.1 st
  have hyl : 0 < ys.length := List.length_pos_iff.2 hne
  rcases ho with ⟨rfl, rfl, rfl⟩ | ⟨b, cap, cur, rfl, rfl, hl, hm, hcs, r⟩
  · have hn : n + ys.length <= 0 := hn
    omega
  · have hb := sp.heap_own
    have hk : rU8.k = 1 := rfl
    rw [hk, Nat.mul_one] at hcs
    rw [hk, Nat.mul_one] at r
    have r := f7.1 r
    have hcn : ¬ cap = n := by omega
    have hv : a.eval x = .slice (some ⟨b, n, none⟩) (xs.length - n) (cap - n) := by rw [hv]; simp [ub, hcn]
    have hsrc : ∀ (j : Nat) u, (ys.map (Value.int .u8 ·))[j]? = some u -> w.cell? ((⟨sb, so, none⟩ : Addr).add j) = some u := fun j u hj => by
     simp only [List.getElem?_map, Option.map_eq_some_iff] at hj
     obtain ⟨z, hz, rfl⟩ := hj
     obtain ⟨cs, Hc, hr⟩ := H2 j z hz
     have hr : cs = [.int .u8 z] := hr
     subst hr
     rw [ce]
     have := Hc.cell sp.hw (i := 0) (v := .int .u8 z) rfl
     simpa [hk] using this
    have hrun := run_copy_row (P := C.P) w T U ty e b n (xs.length - n) (cap - n) ⟨sb, so, none⟩ ys.length scap cur e (ys.map (Value.int .u8 ·)) hu hs hb (by rw [List.length_map]; exact (Nat.min_eq_left (by omega)).symm) hsrc (by simp; omega) (by intro u hu; obtain ⟨z, _, rfl⟩ := List.mem_map.1 hu; rfl)
    refine ⟨(), .int .i64 ys.length, w.setRow b (cur.toList.take n ++ ys.map (Value.int .u8 ·) ++ cur.toList.drop (n + ys.length)).toArray, h, (PH.one b (.cells (cur.toList.take n ++ ys.map (Value.int .u8 ·) ++ cur.toList.drop (n + ys.length)).toArray e (0, 0))).join m2, ?_, HL.same ⟨rfl, rfl, rfl⟩, F4 d12 sp (fun b' hne' _ => setRow_other w b b' _ hne') (setRow_heap w b cur _ e _ hb), ?_, rfl⟩
    · simp only [List.length_map] at hrun
      simp [execOp, resolve, invoke, builtin, hv, hyv, hrun, goInt]
    · refine ⟨_, m2, PH.one_disj_iff.2 (PH.one_disj_iff.1 d12), rfl, .inr ⟨b, cap, _, ?_, rfl, ?_, hm, ?_, ?_⟩, s2⟩
      · have : (xs.take n ++ ys ++ xs.drop (n + ys.length)).length = xs.length := by simp; omega
        rw [this]
      · simp; omega
      · simp [hk]; omega
      · rw [hk, Nat.mul_one]
        refine f7.2 ?_
        have hl2 : (xs.take n ++ ys ++ xs.drop (n + ys.length)).length = xs.length := by simp; omega
        rw [hl2]
        have := eH cur.toList (ys.map (Value.int .u8 ·)) n ys.length xs.length hn (by simp; omega) (by simp)
        rw [List.toList_toArray, this, r]
        simp [List.map_take, List.map_drop]
end
end Lg
