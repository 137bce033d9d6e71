/- A part of the proof of the law PlannerMatchesReference: contracts of functions that the law reaches, and facts about what they compute. -/
import Derived.Test.YtgaclpkapapjdaaGreatDoorE
import Derived.Shelf.SlSortCmp.NoneTotal
import Derived.Test.YtgaclpkapapjdaaGreatDoorProg
import Derived.Ground.SlsfProg
import Derived.Ground.NamesProg
import Derived.Lib.Small
import Derived.Shelf.Abstract
import Derived.Lib.Walk
import Derived.WalkKit
import Derived.Deep.LoopGhost
import Derived.Deep.Draws
import Derived.Sort.Grow
import Derived.Deep.QuietTactic
import Derived.Shelf.SlSortCmp.QuietGrown
import Derived.RecoverIn
set_option linter.unusedVariables false
set_option linter.unusedSimpArgs false
set_option linter.unusedSectionVars false
set_option maxHeartbeats 16000000
namespace Lg
open Go Go.Proofs Go.Proofs.Tryz
theorem mC {s : GSchema} : ∀ {n l : Nat} {p : aG}, validM s l p = true -> (∀ q ∈ inputsM n p, ∃ l', l' <= l /\ validM s l' q = true) /\ (inputsM n p).length <= 2 ^ l
  | 0, l, p, h => ⟨fun q hq => (by cases hq), Nat.zero_le _⟩
  | n + 1, l, p, h => by
    obtain ⟨l', hl, hkd, hkn, hkv, _⟩ := dE h
    have hkb : kidsN p.Kind <= 2 := by unfold kidsN; split; omega; split <;> omega
    have hk2 : p.Kids.length <= 2 := by omega
    rw [mu]
    have hone : ∀ k ∈ p.Kids, (∀ q ∈ inK n k, ∃ m, m <= l /\ validM s m q = true) /\ (inK n k).length <= 2 ^ l' := fun k hk => by
      have hv := hkv k hk
      by_cases h4 : k.Kind = 4
      · rw [rO h4]
        obtain ⟨h1, h2⟩ := mC (n := n) hv
        exact ⟨fun q hq => by obtain ⟨m, hm, hv⟩ := h1 q hq; exact ⟨m, by omega, hv⟩, h2⟩
      · rw [t6 h4]
        exact ⟨fun q hq => by rw [List.mem_singleton] at hq; subst hq; exact ⟨l', by omega, hv⟩, Nat.one_le_two_pow⟩
    refine ⟨fun q hq => ?_, ?_⟩
    · obtain ⟨k, hk, hq⟩ := List.mem_flatMap.1 hq
      exact (hone k hk).1 q hq
    · have hp : 2 ^ l = 2 ^ l' + 2 ^ l' := by rw [show l = l' + 1 by omega, Nat.pow_succ]; omega
      rw [List.length_flatMap]
      generalize p.Kids = ks at hk2 hone
      match ks, hk2, hone with
      | [], _, _ => simp
      | [a], _, ho => have := (ho a (by simp)).2; simp; omega
      | [a, b], _, ho => have := (ho a (by simp)).2; have := (ho b (by simp)).2; simp; omega
def Ag (x : Gplanner) (n : Nat) : Prop := ∀ (l : Nat) (p : aG) (ts : List GTest), l <= 12 -> Dep n p -> validM x.s l p = true -> PSz p -> TIn p.Attrs.length ts -> ts.length + gQ n p <= 1000 -> Fun1 prog 96 [bu.ty x, bO.ty p, tSl be ts] (bm.ty (pushM x n p ts))
theorem mE (l : List GAttr) (cols : List Int) (hc : d9 l.length cols) (hl : cols.length <= 1000000) : Fun1 prog 156 [tSl aS l, tSl bg cols] (tSl aS (bv l cols)) := (nL l cols hc hl).frz fun z => Frz.own
theorem ir (push : aG -> List GTest -> Gnode) (p : aG) (qs : List aG) (y : aG) (ts : List GTest) : joinFold push p (qs ++ [y]) ts = ((joinFold push p qs ts).1 ++ [push y (cu (mZ p y) (joinFold push p qs ts).2)], cr (mZ p y) (joinFold push p qs ts).2) := by
  unfold joinFold; rw [List.foldl_append]; rfl
theorem wm (x : Gplanner) (hst : StOk x) (n : Nat) (ih : Ag x n) (l : Nat) (p : aG) (ts : List GTest) (hl12 : l <= 12) (hd : Dep (n + 1) p) (hv : validM x.s l p = true) (hz : PSz p) (hk : p.Kind = 4) (ht : TIn p.Attrs.length ts) (hl : ts.length + gQ (n + 1) p <= 1000) : Fun1 prog 153 [bu.ty x, bO.ty p, tSl be ts] (bm.ty (fN x p (joinFold (pushM x n) p (inputsM (n + 1) p) ts))) := by
 refine Spec.enter func153 rfl rfl fun h0 w0 fr0 => ?_
 obtain ⟨i1, i2, i3, i4⟩ := io hd hv hz hk
 have hlv := mC (n := n + 1) hv
 have h2l : 2 ^ l <= 4096 := Nat.le_trans (Nat.pow_le_pow_right zG hl12) (Nat.le_refl (2 ^ 12))
 have hsz := il hz
 refine Jr (Zs (aJ (R := bu) Sr) (Zs (aJ (R := bO) Sr) ?_))
 refine Zx (cw (R := (rSl be)) Sr) fun b5 => ?_
 refine Zx (aD (fun w => zeroValue152 w) fM) fun b6 => ?_
 refine ae (Jr ?_)
 refine Zx (aD (R := rV) (z := Value.slice none 0 0) (fun w => zeroValue197 w) (fun _ => ⟨rfl, rfl⟩)) fun b7 => ?_
 refine ae (ar (Jr (Zl ba Sr (Zs (ai (my p) ⟨Sr, trivial⟩ call221) (ae ?_)))))
 refine av ?_
 refine qU (A := []) (T := tPl) (Ok := okP (inputsM (n + 1) p)) (Fin := fun l => l = (inputsM (n + 1) p)) (R := [box b6 152 bm ⟨GPl.zero, dF⟩]) (fun xs => SP.ex fun vo => stars [box b7 197 rV vo, own 152 bm vo (joinFold (pushM x n) p xs ts).1, box b5 43 (rSl be) (joinFold (pushM x n) p xs ts).2]) (fun _ _ => SP.pure False) rfl (fun _ => rfl) rfl (sO (n + 1) p hd hz) Sr call289 (LSub.ex (.slice none 0 0) (LSub.stars (LSub.cons zS SPs.rfl (LSub.trans (DB (e := 152) (R := bm)) (zL))))) ?round1 ?done1 ?stop1
 case round1 =>
  intro l1 rec1 h2 w2 fr2 pre y hle1 hst1 hpd1 hdj1 hok
  refine BM fun vo => lK ?_
  have hpre : pre ++ [y] <+: (inputsM (n + 1) p) := hok
  have hplt : pre.length < (inputsM (n + 1) p).length := by have := hpre.length_le; simp at this; omega
  have hpe : pre = (inputsM (n + 1) p).take pre.length := List.prefix_iff_eq_take.1 ((List.prefix_append _ _).trans hpre)
  have hyi : y ∈ (inputsM (n + 1) p) := hpre.subset (by simp)
  have hff := gD hst hd hv hz hk ht hl pre.length zG
  rw [<- hpe] at hff
  obtain ⟨f1, _, f3, f4, f5⟩ := hff
  obtain ⟨q1, _, q3, q4, q5⟩ := i1 y hyi
  obtain ⟨ly, hly, qv⟩ := hlv.1 y hyi
  have hya := (il q3).2.2
  have hti : TIn y.Attrs.length (cu (mZ p y) (joinFold (pushM x n) p pre ts).2) := kW (fun c _ _ _ => (iY _ _).2) f4
  have hdl := d7 (mZ p y) (joinFold (pushM x n) p pre ts).2
  refine aq ?_
  refine Zx (aD (fun w => zeroValue46 w) fL) fun b8 => ?_
  refine Ju (aj ba Sr Sr zS) fun _ => ?_
  refine bc (t := 8) (Sel.take (Dz _)) Frz.box ?_
  refine ae ?_
  refine qS hst1 hdj1 ?_
  refine av (Jr (Za (ae (Jr ?_))))
  refine Zs (aN iN Sr zS) ?_
  refine Zs (bK (As := [_, _]) ⟨Sr, Sr, trivial⟩) (Zs (ai (ji _ _ _ p.Attrs.length (mZ p y) (fun c h1 h2 => tT p y c h1 h2 zG) call222 f4 zG) ⟨Sr, Sr, trivial⟩ call154) (Zm (Zs (aM Sr rfl) (Zs (aM Sr rfl) (Za ?_)))))
  refine Ju (aj iN Sr Sr zS) fun _ => ?_
  refine ae ?_
  refine bl [⟨1, [3], true⟩, ⟨2, [8], true⟩, ⟨3, [9], true⟩, ⟨4, [26, 27, 28], true⟩, ⟨5, [29], true⟩, ⟨0, [7], false⟩, ⟨6, [25, 30], false⟩, ⟨7, [7, 31], false⟩] rfl (by kernel_rfl) ?_
  refine Zf rfl (ab dy Sr) (Zf rfl (ab ba Sr) (Zv rfl (Zf rfl (ai (ih ly y (cu (mZ p y) (joinFold (pushM x n) p pre ts).2) zG q1 qv q3 hti zG) ⟨Sr, Sr, Sr, trivial⟩ call96) ?_)))
  refine Zf rfl (ax (ys := [pushM x n y (cu (mZ p y) (joinFold (pushM x n) p pre ts).2)]) underlying197 fW ⟨rfl, Sr, trivial⟩ rfl (by decide)) ?_
  refine ff rfl rfl rfl rfl (aN yM Sr zS) ?_
  refine cB rfl rfl rfl rfl (aL underlying197 fW Sr Sr zS (by simp only [List.length_append, List.length_cons, List.length_nil]; omega) (by simp only [List.length_append, List.length_cons, List.length_nil]; omega)) fun v31 => ?_
  refine cV rfl rfl rfl (aj (R := rV) yM Sr Sr zS) fun _ => ?_
  refine bj ?_
  refine nW hst1 hpd1 ?_
  exact LSub.cons zS SPs.rfl (LSub.ex v31 (LSub.stars (LSub.cons zS SPs.rfl (.c zS (SPs.of (by rw [ir])) (.c zS (SPs.of (by rw [ir])) LSub.nil)))))
 case done1 =>
  intro D1 xs hfin
  refine BM fun vo => lK ?_
  have hfin : xs = (inputsM (n + 1) p) := hfin
  subst xs
  have hJ := nM hst hd hv hz hk ht hl
  generalize (joinFold (pushM x n) p (inputsM (n + 1) p) ts) = st at hJ ⊢
  have hl0 := hJ.l2
  have hl1 := hJ.l
  have hcl := eE (f := fO) (l := st.1) zG
  refine bF (t := 7) (A' := bx (rSl bm) st.1) (Sel.take (Sel.take (Dz _))) Frz.boxOwn ?_
  refine bF (t := 5) (A' := bx (rSl be) st.2) (Sel.take (Dz _)) Frz.box ?_
  refine ar (Jr (Zl sG Sr (Zs (ah underlying197 Sr) (Zs (aC Sr Sr) (ae ?_)))))
  refine au Sr (fun h34 => ?_) (fun h34 => ?_)
  ·
   try simp only [NF] at h34
   have h2 : st.1.length = 2 := by omega
   have hjl := hJ.two h2
   have hk0 := hJ.k _ (aH (l := st.1) (i := 0) zG)
   have hk1 := hJ.k _ (aH (l := st.1) (i := 1) zG)
   have hmj := wl hk0 hk1 zG
   have hab := jY (kD hk0 hk1 zG) hJ.tl (by show TIn (bL _ _).length st.2; rw [hjl]; exact hJ.t)
   refine ar ?_
   refine bl [⟨0, [3], true⟩, ⟨1, [3], true⟩, ⟨2, [7], true⟩, ⟨3, [37], true⟩, ⟨4, [38], true⟩, ⟨5, [7], true⟩, ⟨6, [40], true⟩, ⟨7, [41], true⟩, ⟨8, [36, 39, 42], true⟩, ⟨9, [5], true⟩, ⟨10, [35, 43, 44], true⟩, ⟨11, [6, 45], false⟩] rfl (by kernel_rfl) ?_
   refine Zf rfl (ab dy Sr) (Zf rfl (ab dy Sr) (Zf rfl (ab sG Sr) ?_))
   refine Zf rfl (ad (i := 0) underlying197 bp Sr Sr (by rfl) (gb zG)) ?_
   refine Zf rfl (ab bp Sr) (Zf rfl (ab sG Sr) ?_)
   refine Zf rfl (ad (i := 1) underlying197 bp Sr Sr (by rfl) (gb zG)) ?_
   refine Zf rfl (ab bp Sr) ?_
   refine Zf rfl (ai (jj x (nth st.1 0) (nth st.1 1) (by have := (hJ.k _ (aH (l := st.1) (i := 0) zG)).a; omega) (by have := (hJ.k _ (aH (l := st.1) (i := 1) zG)).a; omega) hmj) ⟨Sr, Sr, Sr, trivial⟩ call223) ?_
   refine Zf rfl (ab iN Sr) (Zf rfl (ai (gC x (bw x (nth st.1 0) (nth st.1 1)) st.2 hab) ⟨Sr, Sr, Sr, trivial⟩ call151) ?_)
   refine cV rfl rfl rfl (aj bp Sr Sr zS) fun _ => ?_
   refine bj (aF ?_)
   refine jx (LSub.cons zS SPs.rfl LSub.rfl) ?_
   refine aZ (rv := .cell 6 152) rfl () (Sel.all _) (.cell (R := bm) bp Sr zS Sr) (Frz.sub (DE (by rw [fN, if_pos h2])))
  try simp only [NF] at h34
  have h2 : ¬ st.1.length = 2 := by omega
  refine ay (ar ?_)
  refine bZ LSub.stn ?_
  refine aq (Zl sG Sr ?_)
  refine Zx (bz zS (jX st.1 fO 225 [] (stars []) (fun k _ => (tU k).frame) call225 zG zG) ⟨Sr, D2, trivial⟩ call224) fun _ => ?_
  refine Zm (Zs (aM Sr rfl) (Zs (aM Sr rfl) ?_))
  refine Zx (aD (fun w => zeroValue152 w) fM) fun b10 => ?_
  refine Ju (aj bp Sr Sr zS) fun _ => ?_
  refine Za (ae (ar (av ?_)))
  refine aO (σ := Nat × Gnode × List Gnode) (fun ⟨fuel, out, rest⟩ => JnOk x 1000 (nmL p.Attrs) out rest /\ rest.length <= fuel /\ rest.length <= 4096 /\ d5 x fuel out rest = (d5 x st.1.length (bC fO st.1).1 (bC fO st.1).2)) (fun ⟨fuel, out, rest⟩ => upd (upd (upd (upd (upd (upd cg 3 (bx bu x)) 4 (bx bO p)) 5 (bx (rSl be) st.2)) 6 (tAt b6 0)) 10 (tAt b10 0)) 11 (tSl bm rest)) (fun ⟨fuel, out, rest⟩ => [box b10 152 bm out, box b6 152 bm ⟨GPl.zero, dF⟩, dfB D1]) (fun ⟨fuel, out, rest⟩ => rest.length) (st.1.length, (bC fO st.1).1, (bC fO st.1).2) ⟨hJ.many, by show (bC fO st.1).2.length <= _; omega, by show (bC fO st.1).2.length <= _; omega, rfl⟩ (zU) (.r zS (.r zS (.r zS (LSub.unemp)))) ?_
  rintro ⟨fuel, out, rest⟩ ⟨hjn, hrf, hr4, hch⟩
  refine ar (Jr (Zm (Zs (ah underlying197 Sr) (Zs (bD Sr Sr) (ae ?_)))))
  refine au Sr (fun h53 => ?_) (fun h53 => ?_)
  ·
   try simp only [NF] at h53
   have hr0 : 0 < rest.length := by omega
   have hcm := im (f := (fun k => (bw x out k).size.rows)) hr0
   have hcl2 := eE (f := (fun k => (bw x out k).size.rows)) hr0
   obtain ⟨f, rfl⟩ : ∃ f, fuel = f + 1 := ⟨fuel - 1, by omega⟩
   rw [kE zG] at hch
   refine ay (av (Jr ?_))
   refine Zx (aD (fun w => zeroValue152 w) fM) fun b12 => ?_
   refine ae (Jr (Zm (Zs (bK (As := [_, _]) ⟨Sr, Sr, trivial⟩) ?_)))
   refine Zx (bz zS (jX rest (fun k => (bw x out k).size.rows) 226 [bx bu x, tAt b10 0] (box b10 152 bm out) (fun k hk => tX x out k b10 (by have := hjn.o.a; omega) (by have := (hjn.k _ hk).a; omega) (hjn.mk1 hk)) call226 zG zG) ⟨Sr, Sr, trivial⟩ call224) fun _ => ?_
   refine Zm (Zs (aM Sr rfl) (Zs (aM Sr rfl) ?_))
   refine Ju (aj bp Sr Sr zS) fun _ => ?_
   refine bc (t := 12) (Sel.take (Dz _)) Frz.box ?_
   refine Za (ae (aq (Zl dy Sr ?_)))
   refine Zs (aN bp Sr zS) ?_
   refine Zl bp Sr ?_
   refine Zs (ai (jj x out (bC (fun k => (bw x out k).size.rows) rest).1 (by have := hjn.o.a; omega) (by have := (hjn.k _ hcm).a; omega) (hjn.mk1 hcm)) ⟨Sr, Sr, Sr, trivial⟩ call223) ?_
   refine Ju (aj bp Sr Sr zS) fun _ => ?_
   refine ae ?_
   refine aE (σ := Nat × Gnode × List Gnode) (s := (f + 1, out, rest)) (f, bw x out (bC (fun k => (bw x out k).size.rows) rest).1, (bC (fun k => (bw x out k).size.rows) rest).2) ((by show (bC (fun k => (bw x out k).size.rows) rest).2.length < rest.length; omega)) ⟨hjn.next hr0 _, by show (bC (fun k => (bw x out k).size.rows) rest).2.length <= _; omega, by show (bC (fun k => (bw x out k).size.rows) rest).2.length <= _; omega, hch⟩ (zU) (zL)
  try simp only [NF] at h53
  have hr0 : rest.length = 0 := by omega
  rw [mz hr0] at hch
  obtain rfl : rest = [] := List.length_eq_zero_iff.1 hr0
  have hof := mB hjn hJ.nd (by rw [hch]; exact hJ.mem) hsz.2.2
  have hcol : (colsOf p out).length = p.Attrs.length := by simp [colsOf]
  refine aY (Jr (Za (ae (ar (Jr ?_)))))
  refine Zs (aa aX Sr rfl) (Zl bQ Sr (Zs (ah underlying44 Sr) (Zm (ae (av ?_)))))
  refine aO (σ := Nat × Value) (fun ⟨i, vo⟩ => i <= p.Attrs.length) (fun ⟨i, vo⟩ => upd (upd (upd (upd (upd (upd (upd (upd cg 3 (bx bu x)) 5 (bx (rSl be) st.2)) 6 (tAt b6 0)) 10 (tAt b10 0)) 13 (rV.ty vo)) 65 (tSl aS p.Attrs)) 66 (tV (.int .i64 p.Attrs.length))) 67 (tV (.int .i64 i))) (fun ⟨i, vo⟩ => [own 3 bg vo ((p.Attrs.take i).map fun a => columnL out.Plan.Attrs a.Name), box b10 152 bm out, box b6 152 bm ⟨GPl.zero, dF⟩, dfB D1]) (fun ⟨i, vo⟩ => p.Attrs.length - i) (0, .slice none 0 0) (by exact Nat.zero_le _) (.u (.u (.u (SubE.upd (DG rfl) (zU))))) (LSub.trans (DB (e := 3) (R := bg)) (zL)) ?_
  rintro ⟨i, vo⟩ hi
  try dsimp only at hi
  refine Jr (Zs (aA Sr Sr) (ae (ar ?_)))
  refine au Sr (fun h68 => ?_) (fun h68 => ?_)
  ·
   try simp only [NF] at h68
   have hlt : i < p.Attrs.length := by omega
   refine ay (ar (av (Jr ?_)))
   refine Zs (ad (i := i) underlying44 ct Sr Sr (by rfl) (gb (by exact hlt))) ?_
   refine Zl ct Sr ?_
   refine Zx (aD (fun w => zeroValue89 w) qY) fun b15 => ?_
   refine Ju (aj ct Sr Sr zS) fun _ => ?_
   refine bc (t := 15) (Sel.take (Dz _)) Frz.box ?_
   refine ae (aq (Zm (Zs (ap (o := 0) (o' := 0) eC Sr rfl rfl) (Zs (eh aX Sr rfl) ?_))))
   refine Zs (ef bQ Sr zS rfl) ?_
   refine Zs (aa dH Sr rfl) (Zl ty9 Sr ?_)
   refine Zs (ai (fc out.Plan.Attrs (nth p.Attrs i).Name (by have := hjn.o.a; omega)) ⟨Sr, Sr, trivial⟩ call219) ?_
   refine Zs (ax (ys := [_]) underlying36 el3 ⟨rfl, Sr, trivial⟩ rfl (by decide)) ?_
   refine Zx (aL underlying36 el3 Sr Sr zS (by simp only [List.length_append, List.length_cons, List.length_nil, List.length_map, List.length_take]; omega) (by simp only [List.length_append, List.length_cons, List.length_nil, List.length_map, List.length_take]; omega)) fun v79 => ?_
   refine Za (ae (aq (Zs (aB Sr Sr z6) (Zm (ae ?_)))))
   refine aE (σ := Nat × Value) (s := (i, vo)) (i + 1, v79) zO (by show i + 1 <= _; omega) (zU) (.c zS (SPs.of (by rw [dM hlt, List.map_append]; rfl)) (zL))
  try simp only [NF] at h68
  obtain rfl : i = p.Attrs.length := by omega
  refine aY (ar (ar ?_))
  refine bF (t := 13) (A' := tSl bg (colsOf p out)) (Sel.take (Dz _)) (DO (by rw [List.take_length]; rfl)) ?_
  refine aq (Zm ?_)
  refine Zs (ai (m7 (colsOf p out) (by rw [hcol]; omega)) ⟨Sr, trivial⟩ call227) ?_
  refine Zs (bf Sr) (ae ?_)
  refine au Sr (fun h83 => ?_) (fun h83 => ?_)
  ·
   try simp only [NF] at h83
   have hs : eD (colsOf p out) = false := by simpa using h83
   have hor : fY x p out = (makeM x (GPl.mk 3 0 [] [] (colsOf p out) 0 0 (bv out.Plan.Attrs (colsOf p out))) [out]) := if_neg (by simp [hs])
   have hab := jY hof.1 hJ.tl (by rw [hof.2.1]; exact hJ.t)
   rw [hor] at hab
   refine cl [⟨0, [3], 0⟩, ⟨1, [13], 0⟩, ⟨2, [10], 0⟩, ⟨3, [86], 0⟩, ⟨5, [13], 0⟩, ⟨4, [87], 1⟩, ⟨6, [88, 89], 0⟩, ⟨7, [85, 90], 0⟩, ⟨8, [10], 1⟩, ⟨9, [92], 0⟩, ⟨10, [84, 91, 93], 0⟩, ⟨11, [10, 94], 2⟩] rfl (by kernel_rfl) ?_
   refine ZX rfl (ab dy Sr) ?_
   refine ZX rfl (al Sr) ?_
   refine ZX rfl (ap (o := 0) (o' := 0) eC Sr rfl rfl) ?_
   refine ZX rfl (eh aX Sr rfl) ?_
   refine ZX rfl (al Sr) ?_
   refine bW rfl rfl rfl rfl (ef bQ Sr zS rfl) ?_
   refine ZX rfl (ai (mE _ _ hof.2.2.1 (by rw [hcol]; omega)) ⟨Sr, Sr, trivial⟩ call156) ?_
   refine ZX rfl (aU (x := ((GPl.mk 3 0 [] [] (colsOf p out) 0 0 (bv out.Plan.Attrs (colsOf p out))) : aG)) (zs := [[Value.int .i64 0], [Value.int .i64 0], [Value.slice none 0 0], [Value.slice none 0 0], [Value.slice none 0 0], [Value.int .i64 0], [Value.int .i64 0], [Value.slice none 0 0]]) aX (fun w => zeroValue46 w) ⟨Sr, Sr, Sr, trivial⟩ ⟨⟨Sr, rfl⟩, fun _ => rfl, fun _ => ⟨_, rfl, none, ⟨0, Nat.le_refl _⟩, rfl, fun q => absurd rfl q⟩, fun _ => ⟨_, rfl, none, ⟨0, Nat.le_refl _⟩, rfl, fun q => absurd rfl q⟩, ⟨Sr, rfl⟩, fun _ => rfl, fun _ => rfl, ⟨Sr, rfl⟩, trivial⟩) ?_
   refine bW rfl rfl rfl rfl (aN bp Sr zS) ?_
   refine ZX rfl (ax (ys := [out]) underlying197 fW ⟨rfl, Sr, trivial⟩ rfl (by decide)) ?_
   refine ZX rfl (ai (dY x (GPl.mk 3 0 [] [] (colsOf p out) 0 0 (bv out.Plan.Attrs (colsOf p out))) [out] (hof.2.2.2 (by simp [hs]))) ⟨Sr, Sr, Sr, trivial⟩ call146) ?_
   refine bI rfl rfl rfl (aj bp Sr Sr zS) fun _ => ?_
   refine cC (Jr (Zl dy Sr ?_))
   refine Zs (aN bp Sr zS) ?_
   refine Zl iN Sr (Zs (ai (gC x _ st.2 hab) ⟨Sr, Sr, Sr, trivial⟩ call151) ?_)
   refine Ju (aj bp Sr Sr zS) fun _ => ?_
   refine ae (aF ?_)
   refine jx (LSub.cons zS SPs.rfl LSub.rfl) ?_
   refine aZ (rv := .cell 6 152) rfl () (Sel.all _) (.cell (R := bm) bp Sr zS Sr) (Frz.sub (DE (by rw [fN, if_neg h2, <- hch, hor])))
  try simp only [NF] at h83
  have hs : eD (colsOf p out) = true := by simpa using h83
  have hor : fY x p out = out := if_pos hs
  have hab := jY hof.1 hJ.tl (by rw [hof.2.1]; exact hJ.t)
  rw [hor] at hab
  refine ay (Jr (Zl dy Sr ?_))
  refine Zs (aN bp Sr zS) ?_
  refine Zl iN Sr (Zs (ai (gC x _ st.2 hab) ⟨Sr, Sr, Sr, trivial⟩ call151) ?_)
  refine Ju (aj bp Sr Sr zS) fun _ => ?_
  refine ae (aF ?_)
  refine jx (LSub.cons zS SPs.rfl LSub.rfl) ?_
  refine aZ (rv := .cell 6 152) rfl () (Sel.all _) (.cell (R := bm) bp Sr zS Sr) (Frz.sub (DE (by rw [fN, if_neg h2, <- hch, hor])))
 case stop1 =>
  intro D1 c1 xs
  refine uy fun h => h.elim
section
variable {x : Gplanner}
theorem wo (hst : StOk x) {l : Nat} {p : aG} {ts : List GTest} (hv : validM x.s l p = true) (hz : PSz p) (ht : TIn p.Attrs.length ts) (hl : ts.length <= 1000) (k : p.Kind = 1) :
  MkOk x (GPl.mk p.Kind p.Table [] [] [] 0 0 p.Attrs) [] /\ (¬ ts.length = 0 -> MkOk x (GPl.mk 2 0 [] ts [] 0 0 p.Attrs) [makeM x (GPl.mk p.Kind p.Table [] [] [] 0 0 p.Attrs) []]) := by
 obtain ⟨v1, v2⟩ := vk1 hv k
 have h0 := y9 hst v1 v2 (il hz).2.2
 rw [k]
 exact ⟨fy (fun q hq => by cases hq) h0.g, jY h0 hl ht⟩
theorem qk {l : Nat} {p : aG} {ts : List GTest} (hv : validM x.s l p = true) (ht : TIn p.Attrs.length ts) (k : p.Kind = 2) : 0 < p.Kids.length /\ TIn (nth p.Kids 0).Attrs.length (p.Tests ++ ts) := by
 obtain ⟨v1, v2, v3⟩ := vk2 hv k
 refine ⟨by omega, fun t h => ?_⟩
 rcases List.mem_append.1 h with h | h
 · exact rE (v2 t h) rfl
 · rw [<- v3]; exact ht t h
theorem wp {l : Nat} {p : aG} {ts : List GTest} (hv : validM x.s l p = true) (ht : TIn p.Attrs.length ts) (k : p.Kind = 3) : 0 < p.Kids.length /\ p.Attrs.length = p.Cols.length /\ TIn (nth p.Kids 0).Attrs.length (cu (pc p) ts) := by
 obtain ⟨v1, v2, v3⟩ := vk3 hv k
 exact ⟨by omega, v3, kW (fun c h1 h2 _ => (v2 _ (aH (by omega))).2) ht⟩
theorem nN {l : Nat} {p : aG} {b : Nat} {kid : Gnode} (hv : validM x.s l p = true) (hz : PSz p) (k : p.Kind = 3) (j1 : PI x b kid) (j2 : nmL kid.Plan.Attrs = nmL (nth p.Kids 0).Attrs) :
  d9 kid.Plan.Attrs.length p.Cols /\ (¬ kid.Plan.Kind = 3 -> MkOk x (GPl.mk p.Kind 0 [] [] p.Cols 0 0 (bv kid.Plan.Attrs p.Cols)) [kid]) ∧
  (kid.Plan.Kind = 3 -> 0 < kid.Plan.Kids.length /\ x6 x (nth kid.Plan.Kids 0) /\ d9 kid.Plan.Cols.length p.Cols ∧
   MkOk x (GPl.mk p.Kind 0 [] [] (p.Cols.map fun c => nth kid.Plan.Cols c.toNat) 0 0 (bv kid.Plan.Attrs p.Cols)) [cd x (nth kid.Plan.Kids 0)]) := by
 obtain ⟨v1, v2, v3⟩ := vk3 hv k
 have hsz := il hz
 have hal := cE j2
 have hci : d9 kid.Plan.Attrs.length p.Cols := fun c hc => by rw [hal]; exact v2 c hc
 refine ⟨hci, fun _ => ?_, fun h3 => ?_⟩
 · rw [k]; exact fy (qi j1) (mn j1 hci hsz.2.1 (by simp [bv])).g
 · obtain ⟨e1, e2⟩ := iI.1 j1.g.e
   have hk0 : 0 < kid.Plan.Kids.length := by have := e1.k2 (by omega); rwa [List.length_map] at this
   have hq : nth kid.Plan.Kids 0 ∈ kid.Plan.Kids := aH hk0
   have hsub := yY j1 hq
   have h4 := e1.k4 (.inl h3)
   have h5 : nth (kid.Plan.Kids.map (cd x)) 0 = cd x (nth kid.Plan.Kids 0) := by rw [nth_get (by rw [List.length_map]; exact hk0), nth_get hk0]; simp
   rw [h5, hsub.dn] at h4
   have hcl : kid.Plan.Cols.length = kid.Plan.Attrs.length := by
    have hd2 := j1.dn
    have hw := j1.g.w
    rw [ij] at hw
    have h7 : kid.size.distinct = (dsM x kid.Plan (kid.Plan.Kids.map (cd x))).map fun d => min d (cL x kid.Plan (kid.Plan.Kids.map (cd x))) := (congrArg (fun a : Gnode => a.size.distinct) hw).symm
    rw [<- hd2, h7, List.length_map, yQ h3, cm, List.length_map]
   have hcc : d9 kid.Plan.Cols.length p.Cols := by rw [hcl]; exact hci
   refine ⟨hk0, e2 _ hq, hcc, ?_⟩
   rw [k]
   refine fy (qi hsub) (mn hsub (fun c hc => ?_) (by rw [List.length_map]; exact hsz.2.1) (by simp [bv])).g
   obtain ⟨d, hd', rfl⟩ := List.mem_map.1 hc
   have h6 := hcc d hd'
   exact h4 _ (aH (by omega))
theorem zc {l : Nat} {p : aG} {ts : List GTest} (hv : validM x.s l p = true) (ht : TIn p.Attrs.length ts) (k : p.Kind = 8) : 0 < p.Kids.length /\ p.Attrs.length = p.Cols.length + 1 /\ TIn (nth p.Kids 0).Attrs.length (cu (gH p) ts) := by
 obtain ⟨v1, v2, v3⟩ := wk8 hv k
 refine ⟨by omega, v3, kW (fun c h1 h2 h3 => ?_) ht⟩
 unfold gH at h3 ⊢
 split
 · exact (v2 _ (aH (by omega))).2
 · rename_i h4; rw [if_neg h4] at h3; omega
theorem ql {l : Nat} {p : aG} {ts : List GTest} {b : Nat} {kid : Gnode} (hv : validM x.s l p = true) (hz : PSz p) (ht : TIn p.Attrs.length ts) (hl : ts.length <= 1000) (k : p.Kind = 8) (j1 : PI x b kid) (j2 : nmL kid.Plan.Attrs = nmL (nth p.Kids 0).Attrs) :
  d9 kid.Plan.Attrs.length p.Cols /\ MkOk x (GPl.mk p.Kind 0 [] [] p.Cols p.Col p.Agg (bv kid.Plan.Attrs p.Cols ++ [nth p.Attrs p.Cols.length])) [kid] ∧
  (¬ (cr (gH p) ts).length = 0 -> MkOk x (GPl.mk 2 0 [] (cr (gH p) ts) [] 0 0 (bv kid.Plan.Attrs p.Cols ++ [nth p.Attrs p.Cols.length])) [makeM x (GPl.mk p.Kind 0 [] [] p.Cols p.Col p.Agg (bv kid.Plan.Attrs p.Cols ++ [nth p.Attrs p.Cols.length])) [kid]]) := by
 obtain ⟨v1, v2, v3⟩ := wk8 hv k
 have hsz := il hz
 have hci : d9 kid.Plan.Attrs.length p.Cols := fun c hc => by rw [cE j2]; exact v2 c hc
 have hdl := d7 (gH p) ts
 have hg := yZ j1 (cols := p.Cols) (c := p.Col) (g := p.Agg) (ats := bv kid.Plan.Attrs p.Cols ++ [nth p.Attrs p.Cols.length]) hci (by rw [List.length_append]; simp [bv]; omega) (by rw [List.length_append]; simp [bv])
 rw [k]
 refine ⟨hci, fy (qi j1) hg.g, jY hg (by omega) ?_⟩
 show TIn (bv kid.Plan.Attrs p.Cols ++ [nth p.Attrs p.Cols.length]).length _
 rw [show (bv kid.Plan.Attrs p.Cols ++ [nth p.Attrs p.Cols.length]).length = p.Attrs.length by rw [List.length_append]; simp [bv]; omega]
 exact rJ ht
theorem qm {l : Nat} {p : aG} {b : Nat} {kid : Gnode} (hv : validM x.s l p = true) (k : p.Kind = 7) (j1 : PI x b kid) (j2 : nmL kid.Plan.Attrs = nmL (nth p.Kids 0).Attrs) :
  (0 <= p.Col /\ p.Col < kid.Plan.Attrs.length /\ p.Col < p.Attrs.length) /\ MkOk x (GPl.mk p.Kind 0 [] [] [] p.Col 0 (kid.Plan.Attrs.set p.Col.toNat { nth kid.Plan.Attrs p.Col.toNat with Name := (nth p.Attrs p.Col.toNat).Name })) [kid] := by
 obtain ⟨v1, v2⟩ := vk7 hv k
 obtain ⟨⟨w1, w2⟩, w3⟩ := vn7 hv k
 have := cE j2
 refine ⟨⟨w1, by omega, by omega⟩, ?_⟩
 rw [k]
 exact fy (qi j1) (y8 j1 (by rw [List.length_set])).g
theorem wq {l : Nat} {p : aG} {b : Nat} {a c : Gnode} (hv : validM x.s l p = true) (k : p.Kind = 5 \/ p.Kind = 6) (j1 : PI x b a) (j2 : nmL a.Plan.Attrs = nmL (nth p.Kids 0).Attrs) (j3 : PI x b c) (j4 : nmL c.Plan.Attrs = nmL (nth p.Kids 1).Attrs) :
  MkOk x (GPl.mk p.Kind 0 [] [] [] 0 0 a.Plan.Attrs) [a, c] := by
 obtain ⟨v1, v2, v3⟩ := wk5 hv k
 exact fy (wk j1 j3) (vQ j1 j3 (by rw [cE j2, cE j4, v3]) k).g
end
theorem qn (a b : List GTest) (h : a.length + b.length <= 1000000) : Fun1 prog 152 [tSl (rSl be) [a, b]] (tSl be (a ++ b)) :=
  (qf [a, b] (by simp) (by simpa using h)).frz fun z => DO (by simp)
theorem qo (s : GSchema) (hz : SchSz s) (p : aG) (hp : PSz p) (st : GStats) (hd : ∀ d ∈ st.Distinct, d.length <= 1000000000000) : Fun1 prog 92 [aV.ty s, bO.ty p, bA.ty st] (fA [bu.ty (if bq s p st = true then (⟨s, st⟩ : Gplanner) else zplanner), tV (.bool (bq s p st))]) :=
  Fun1.ex (ι := Nat) (fun n => [aV.ty s, (aR n).ty p, bA.ty st]) (fun _ => fA [bu.ty (if bq s p st = true then (⟨s, st⟩ : Gplanner) else zplanner), tV (.bool (bq s p st))]) fun vs h ha => by
    obtain ⟨v1, v2, v3, rfl, a1, a2, a3⟩ := yb ha
    obtain ⟨n, a2⟩ := jQ a2
    exact ⟨n, ⟨a1, a2, a3, trivial⟩, mf s hz n p (hp n) st hd, Sr⟩
theorem m8 (s : GSchema) (hz : SchSz s) (p : aG) (hp : PSz p) : Fun1 prog 60 [aV.ty s, bO.ty p] (tV (.bool (iE s p))) :=
  Fun1.ex (ι := Nat) (fun n => [aV.ty s, (aR n).ty p]) (fun _ => tV (.bool (iE s p))) fun vs h ha => by
    obtain ⟨v1, v2, rfl, a1, a2⟩ := vU ha
    obtain ⟨n, a2⟩ := jQ a2
    exact ⟨n, ⟨a1, a2, trivial⟩, gO s hz n p (hp n), Sr⟩
theorem i8 (s : GSchema) (hz : SchSz s) (m : Nat) (p : aG) (hm : Dep m p) (hp : PSz p) (st : GStats) (hd : ∀ d ∈ st.Distinct, d.length <= 1000000000000) : Fun1 prog 38 [aV.ty s, bO.ty p, bA.ty st] (fA [tV (.int .i64 (pb s m p st)), tV (.int .i64 (tM s p st))]) :=
  Fun1.ex (ι := Nat) (fun n => [aV.ty s, (aR n).ty p, bA.ty st]) (fun n => fA [tV (.int .i64 (pb s n p st)), tV (.int .i64 (tM s p st))]) fun vs h ha => by
    obtain ⟨v1, v2, v3, rfl, a1, a2, a3⟩ := yb ha
    obtain ⟨n, a2⟩ := jQ a2
    have hd' : Dep n p := pN a2
    refine ⟨n, ⟨a1, a2, a3, trivial⟩, ov s hz n p (hp n) st hd, DE ?_⟩
    have : pb s n p st = pb s m p st := by unfold pb; rw [jS ⟨s, st⟩ hd' hm]
    rw [this]
theorem ws {α β : Type} [Inhabited α] {f : α -> β} {l : List α} {i : Nat} (h : i < l.length) : (l.take (i + 1)).map f = (l.take i).map f ++ [f (nth l i)] := by rw [dM h, List.map_append]; rfl
theorem rP (x : Gplanner) (hst : StOk x) (n : Nat) (ih : Ag x n) (l : Nat) (p : aG) (ts : List GTest) (hl12 : l <= 12) (hd : Dep (n + 1) p) (hv : validM x.s l p = true) (hz : PSz p) (ht : TIn p.Attrs.length ts) (hl : ts.length + gQ (n + 1) p <= 1000) : Fun1 prog 96 [bu.ty x, bO.ty p, tSl be ts] (bm.ty (pushM x (n + 1) p ts)) := by
 refine Spec.enter func96 rfl rfl fun h0 w0 fr0 => ?_
 obtain ⟨l', hll, hkd, hkn, hkv, _⟩ := dE hv
 have hsz := il hz
 have hps : ∀ q ∈ p.Kids, p.Tests.length + gQ n q <= gQ (n + 1) p := fun q hq => jV hq
 have IH : ∀ i, i < p.Kids.length -> ∀ ts', TIn (nth p.Kids i).Attrs.length ts' -> ts'.length <= ts.length + p.Tests.length -> Fun1 prog 96 [bu.ty x, bO.ty (nth p.Kids i), tSl be ts'] (bm.ty (pushM x n (nth p.Kids i) ts')) := fun i hi ts' h1 h2 => ih l' _ ts' zG (hd _ (aH hi)) (hkv _ (aH hi)) (fj hz (aH hi)).1 h1 (by have := hps _ (aH hi); omega)
 have IP : ∀ i, i < p.Kids.length -> ∀ ts', TIn (nth p.Kids i).Attrs.length ts' -> ts'.length <= ts.length + p.Tests.length -> PI x 1000 (pushM x n (nth p.Kids i) ts') /\ nmL (pushM x n (nth p.Kids i) ts').Plan.Attrs = nmL (nth p.Kids i).Attrs := fun i hi ts' h1 h2 => by
  have h3 := hps _ (aH hi)
  obtain ⟨h4, h5⟩ := mo hst n (hd _ (aH hi)) (hkv _ (aH hi)) (fj hz (aH hi)).1 h1 zG
  exact ⟨h4.le zG, h5⟩
 have hdiv : ∀ pl, (cu pl ts).length <= ts.length /\ (cr pl ts).length <= ts.length := fun pl => by have := d7 pl ts; omega
 refine Jr (Zs (aJ (R := bu) Sr) (Zs (aJ (R := bO) Sr) ?_))
 refine Zx (aD (fun w => zeroValue152 w) fM) fun b6 => ?_
 refine ae (ar (Jr (Zs (aa aX Sr rfl) (Zl ty3 Sr (ae ?_)))))
 refine av (Jr (Zs (aC Sr Sr) (Za (ae ?_))))
 refine au Sr (fun h24 => ?_) (fun h24 => ?_)
 ·
  try simp only [NF] at h24
  have hin := wo hst hv hz ht zG h24
  refine ar ?_
  refine bl [⟨0, [3], true⟩, ⟨1, [3], true⟩, ⟨2, [4], true⟩, ⟨3, [28], true⟩, ⟨4, [4], true⟩, ⟨5, [30], true⟩, ⟨6, [4], true⟩, ⟨7, [32], true⟩, ⟨8, [29, 31, 33], true⟩, ⟨9, [27, 34], true⟩, ⟨10, [2], true⟩, ⟨11, [26, 35, 36], true⟩, ⟨12, [6, 37], false⟩] rfl (by kernel_rfl) ?_
  refine Zf rfl (ab dy Sr) (Zf rfl (ab dy Sr) (Zf rfl (aa aX Sr rfl) (Zf rfl (ab ty3 Sr) (Zf rfl (aa aX Sr rfl) (Zf rfl (ab ty3 Sr) ?_)))))
  refine Zf rfl (aa aX Sr rfl) (Zf rfl (ab bQ Sr) (Zf rfl (aU (x := (GPl.mk p.Kind p.Table [] [] [] 0 0 p.Attrs : aG)) (zs := [[Value.int .i64 0], [Value.int .i64 0], [Value.slice none 0 0], [Value.slice none 0 0], [Value.slice none 0 0], [Value.int .i64 0], [Value.int .i64 0], [Value.slice none 0 0]]) aX (fun w => zeroValue46 w) ⟨Sr, Sr, Sr, trivial⟩ ⟨⟨Sr, rfl⟩, ⟨Sr, rfl⟩, fun _ => ⟨_, rfl, none, ⟨0, Nat.le_refl _⟩, rfl, fun q => absurd rfl q⟩, fun _ => ⟨_, rfl, none, ⟨0, Nat.le_refl _⟩, rfl, fun q => absurd rfl q⟩, fun _ => ⟨_, rfl, none, ⟨0, Nat.le_refl _⟩, rfl, fun q => absurd rfl q⟩, fun _ => rfl, fun _ => rfl, ⟨Sr, rfl⟩, trivial⟩) (Zf rfl (ai (dY x (GPl.mk p.Kind p.Table [] [] [] 0 0 p.Attrs) [] hin.1) ⟨Sr, Sr, DT, trivial⟩ call146) (Zv rfl (Zf rfl (ai (gC x _ ts hin.2) ⟨Sr, Sr, Sr, trivial⟩ call151) ?_)))))
  refine cV rfl rfl rfl (aj bp Sr Sr zS) fun _ => ?_
  refine bj (aF ?_)
  refine aZ (rv := .cell 6 152) rfl () (Sel.all _) (.cell (R := bm) bp Sr zS Sr) (Frz.sub (DE (by simp [pushM, h24])))
 try simp only [NF] at h24
 refine Jr (Zs (aC Sr Sr) (Za (ae ?_)))
 refine au Sr (fun h38 => ?_) (fun h38 => ?_)
 ·
  try simp only [NF] at h38
  have hin := qk hv ht h38
  have hk0 := hin.1
  refine ar ?_
  refine bl [⟨0, [3], true⟩, ⟨1, [4], true⟩, ⟨2, [41], true⟩, ⟨3, [42], true⟩, ⟨4, [43], true⟩, ⟨5, [4], true⟩, ⟨6, [45], true⟩, ⟨7, [2], true⟩, ⟨8, [46, 47], true⟩, ⟨9, [48], true⟩, ⟨10, [40, 44, 49], true⟩, ⟨11, [6, 50], false⟩] rfl (by kernel_rfl) ?_
  refine Zf rfl (ab dy Sr) (Zf rfl (aa aX Sr rfl) (Zf rfl (ab dQ Sr) (Zf rfl (ad (i := 0) underlying42 eO Sr Sr rfl (gb hk0)) (Zf rfl (ab ba DQ) (Zf rfl (aa aX Sr rfl) ?_)))))
  refine Zf rfl (ab iN Sr) (Zv rfl ?_)
  refine Zf rfl (ax (ys := [p.Tests, ts]) underlying241 C2 ⟨rfl, Sr, rfl, Sr, trivial⟩ rfl (by decide)) ?_
  refine Zf rfl (ai (qn p.Tests ts zG) ⟨Sr, trivial⟩ call152) ?_
  refine Zf rfl (ai (IH 0 hk0 (p.Tests ++ ts) hin.2 (by rw [List.length_append]; omega)) ⟨Sr, Sr, Sr, trivial⟩ call96) ?_
  refine cV rfl rfl rfl (aj bp Sr Sr zS) fun _ => ?_
  refine bj (aF ?_)
  refine aZ (rv := .cell 6 152) rfl () (Sel.all _) (.cell (R := bm) bp Sr zS Sr) (Frz.sub (DE (by simp [pushM, h38])))
 try simp only [NF] at h38
 refine Jr (Zs (aC Sr Sr) (Za (ae ?_)))
 refine au Sr (fun h51 => ?_) (fun h51 => ?_)
 ·
  try simp only [NF] at h51
  refine Jr (Zl dy Sr (Zl ba Sr (Zm (Zs (ai (wm x hst n ih l p ts hl12 hd hv hz h51 ht hl) ⟨Sr, Sr, Sr, trivial⟩ call153) ?_))))
  refine Ju (aj bp Sr Sr zS) fun _ => ?_
  refine ae (aF ?_)
  refine aZ (rv := .cell 6 152) rfl () (Sel.all _) (.cell (R := bm) bp Sr zS Sr) (Frz.sub (DE (by simp [pushM, h51])))
 try simp only [NF] at h51
 refine Jr (Zs (aC Sr Sr) (Za (ae ?_)))
 refine au Sr (fun h57 => ?_) (fun h57 => ?_)
 ·
  try simp only [NF] at h57
  have hin := wp hv ht h57
  have hk0 := hin.1
  have hip := IP 0 hk0 _ hin.2.2 (by have := hdiv (pc p); omega)
  refine Jr (Zm (Zs (bK (As := [_]) ⟨Sr, trivial⟩) ?_))
  refine Zs (ai (ji ts 155 [bx bO p] p.Attrs.length (pc p) (fun c h1 h2 => tR p c h1 (by have := hin.2.1; omega)) call155 ht zG) ⟨Sr, Sr, trivial⟩ call154) ?_
  refine Zm (Zs (aM Sr rfl) (Zs (aM Sr rfl) (Za (Za (ae ?_)))))
  refine ar ?_
  refine bl [⟨0, [3], true⟩, ⟨1, [4], true⟩, ⟨2, [66], true⟩, ⟨3, [67], true⟩, ⟨4, [68], true⟩, ⟨5, [7], true⟩, ⟨6, [65, 69, 70], true⟩, ⟨7, [], false⟩, ⟨8, [9, 71], false⟩] rfl (by kernel_rfl) ?_
  refine Zf rfl (ab dy Sr) (Zf rfl (aa aX Sr rfl) (Zf rfl (ab dQ Sr) (Zf rfl (ad (i := 0) underlying42 eO Sr Sr rfl (gb hk0)) (Zf rfl (ab ba DQ) (Zv rfl ?_)))))
  refine Zf rfl (ai (IH 0 hk0 (cu (pc p) ts) hin.2.2 (by have := hdiv (pc p); omega)) ⟨Sr, Sr, Sr, trivial⟩ call96) ?_
  refine cB rfl rfl rfl rfl (aD (fun w => zeroValue152 w) fM) fun b9 => ?_
  refine cV rfl rfl rfl (aj bp Sr Sr zS) fun _ => ?_
  refine bj ?_
  generalize hkd : (pushM x n (nth p.Kids 0) (cu (pc p) ts)) = kid at hip
  have hpf := nN hv hz h57 hip.1 hip.2
  refine Jr (Zs (aa aX Sr rfl) (Zl bY Sr (Za (ae (Jr ?_)))))
  refine Zs (ap (o := 0) (o' := 0) eC Sr rfl rfl) (Zs (eh aX Sr rfl) ?_)
  refine Zs (ef bQ Sr zS rfl) ?_
  refine Zm (Zs (ai (mE _ _ hpf.1 zG) ⟨Sr, Sr, trivial⟩ call156) (Za (ae (ar (Jr ?_)))))
  refine Zs (ap (o := 0) (o' := 0) eC Sr rfl rfl) (Zs (eh aX Sr rfl) ?_)
  refine Zs (ef ty3 Sr zS rfl) ?_
  refine Zs (aC Sr Sr) (ae ?_)
  refine au Sr (fun h82 => ?_) (fun h82 => ?_)
  ·
   try simp only [NF] at h82
   have h82 : kid.Plan.Kind = 3 := h82
   have hpk := hpf.2.2 h82
   refine Jr (Za (ae (ar (Jr (Zs (aa aX Sr rfl) ?_)))))
   refine Zl bY Sr (Zs (ah underlying36 Sr) (Zm (ae (av ?_))))
   refine aO (σ := Nat × Value) (fun ⟨i, vo⟩ => i <= p.Cols.length) (fun ⟨i, vo⟩ => upd (upd (upd (upd (upd (upd (upd (upd (upd (upd cg 2 (tSl be ts)) 3 (bx bu x)) 4 (bx bO p)) 6 (tAt b6 0)) 9 (tAt b9 0)) 10 (rV.ty vo)) 11 (tSl aS (bv kid.Plan.Attrs p.Cols))) 84 (tSl bg p.Cols)) 85 (tV (.int .i64 p.Cols.length))) 86 (tV (.int .i64 i))) (fun ⟨i, vo⟩ => [own 3 bg vo ((p.Cols.take i).map fun c => nth kid.Plan.Cols c.toNat), box b9 152 bm kid, box b6 152 bm ⟨GPl.zero, dF⟩]) (fun ⟨i, vo⟩ => p.Cols.length - i) (0, .slice none 0 0) (by exact Nat.zero_le _) (.u (.u (.u (.u (SubE.upd (DG rfl) (zU)))))) (LSub.trans (DB (e := 3) (R := bg)) (zL)) ?_
   rintro ⟨i, vo⟩ hi
   try dsimp only at hi
   refine Jr (Zs (aA Sr Sr) (ae (ar ?_)))
   refine au Sr (fun h87 => ?_) (fun h87 => ?_)
   ·
    try simp only [NF] at h87
    have hlt : i < p.Cols.length := by omega
    have hci := hpk.2.2.1 _ (aH hlt)
    refine ay (ar (av (Jr ?_)))
    refine Zs (ad (i := i) underlying36 ty3 Sr Sr (by rfl) (gb (by exact hlt))) ?_
    refine Zl ty3 Sr (Za (ae (aq (Zm (Zs (ap (o := 0) (o' := 0) eC Sr rfl rfl) ?_)))))
    refine Zs (eh aX Sr rfl) ?_
    refine Zs (ef bY Sr zS rfl) ?_
    refine Zm ?_
    refine Zs (ad (i := (nth p.Cols i).toNat) underlying36 ty3 Sr Sr (by show nth p.Cols i = _; omega) (gb (by show _ < kid.Plan.Cols.length; omega))) ?_
    refine Zl ty3 Sr ?_
    refine Zs (ax (ys := [_]) underlying36 el3 ⟨rfl, Sr, trivial⟩ rfl (by decide)) ?_
    refine Zx (aL underlying36 el3 Sr Sr zS (by simp only [List.length_append, List.length_cons, List.length_nil, List.length_map, List.length_take]; omega) (by simp only [List.length_append, List.length_cons, List.length_nil, List.length_map, List.length_take]; omega)) fun v98 => ?_
    refine Za (ae (aq (Zs (aB Sr Sr z6) (Zm (ae ?_)))))
    refine aE (σ := Nat × Value) (s := (i, vo)) (i + 1, v98) zO (by show i + 1 <= _; omega) (zU) (.c zS (SPs.of (by rw [ws hlt])) (zL))
   try simp only [NF] at h87
   obtain rfl : i = p.Cols.length := by omega
   refine aY ?_
   refine bF (t := 10) (A' := tSl bg (p.Cols.map fun c => nth kid.Plan.Cols c.toNat)) (Sel.take (Dz _)) (DO (by rw [List.take_length])) ?_
   refine bl [⟨0, [3], true⟩, ⟨1, [9], true⟩, ⟨2, [101], true⟩, ⟨3, [102], false⟩, ⟨4, [103], true⟩, ⟨5, [104], true⟩, ⟨6, [100, 105], true⟩, ⟨7, [9, 106], false⟩] rfl (by kernel_rfl) ?_
   refine Zf rfl (ab dy Sr) (Zf rfl (ap (o := 0) (o' := 0) eC Sr rfl rfl) (Zf rfl (eh aX Sr rfl) ?_))
   refine ff rfl rfl rfl rfl (ef dQ Sr zS rfl) ?_
   refine Zf rfl (ad (i := 0) underlying42 eO Sr Sr rfl (gb hpk.1)) (Zf rfl (ab ba DQ) (Zf rfl (ai (mp x (nth kid.Plan.Kids 0) hpk.2.1) ⟨Sr, Sr, trivial⟩ call93) ?_))
   refine cV rfl rfl rfl (aj bp Sr Sr zS) fun _ => ?_
   refine bj (Jr (Zl dy Sr (Zs (aa aX Sr rfl) (Zl ty3 Sr (Zm ?_)))))
   refine Zm ?_
   refine Zs (aU (x := (GPl.mk p.Kind 0 [] [] (p.Cols.map fun c => nth kid.Plan.Cols c.toNat) 0 0 (bv kid.Plan.Attrs p.Cols) : aG)) (zs := [[Value.int .i64 0], [Value.int .i64 0], [Value.slice none 0 0], [Value.slice none 0 0], [Value.slice none 0 0], [Value.int .i64 0], [Value.int .i64 0], [Value.slice none 0 0]]) aX (fun w => zeroValue46 w) ⟨Sr, (by dsimp only [opTy, upd, Nat.beq, jf, fsPl, List.getElem?_cons_succ, List.getElem?_cons_zero]; exact Sr), Sr, trivial⟩ ⟨⟨Sr, rfl⟩, fun _ => rfl, fun _ => ⟨_, rfl, none, ⟨0, Nat.le_refl _⟩, rfl, fun q => absurd rfl q⟩, fun _ => ⟨_, rfl, none, ⟨0, Nat.le_refl _⟩, rfl, fun q => absurd rfl q⟩, ⟨(by dsimp only [opTy, upd, Nat.beq, jf, fsPl, List.getElem?_cons_succ, List.getElem?_cons_zero]; exact Sr), rfl⟩, fun _ => rfl, fun _ => rfl, ⟨Sr, rfl⟩, trivial⟩) ?_
   refine Zs (aN bp Sr zS) ?_
   refine Zs (ax (ys := [(cd x (nth kid.Plan.Kids 0))]) underlying197 fW ⟨rfl, Sr, trivial⟩ rfl (by decide)) ?_
   refine Zs (ai (dY x (GPl.mk p.Kind 0 [] [] (p.Cols.map fun c => nth kid.Plan.Cols c.toNat) 0 0 (bv kid.Plan.Attrs p.Cols)) [(cd x (nth kid.Plan.Kids 0))] hpk.2.2.2) ⟨Sr, Sr, Sr, trivial⟩ call146) ?_
   refine Ju (aj bp Sr Sr zS) fun _ => ?_
   refine ae (aF ?_)
   refine aZ (rv := .cell 6 152) rfl () (Sel.all _) (.cell (R := bm) bp Sr zS Sr) (Frz.sub (DE (by simp [pushM, h57, hkd, rI, h82])))
  try simp only [NF] at h82
  have h82 : ¬ kid.Plan.Kind = 3 := h82
  refine ay (Jr (Zl dy Sr (Zs (aa aX Sr rfl) (Zl ty3 Sr (Zm ?_)))))
  refine Zm ?_
  refine Zs (aU (x := (GPl.mk p.Kind 0 [] [] p.Cols 0 0 (bv kid.Plan.Attrs p.Cols) : aG)) (zs := [[Value.int .i64 0], [Value.int .i64 0], [Value.slice none 0 0], [Value.slice none 0 0], [Value.slice none 0 0], [Value.int .i64 0], [Value.int .i64 0], [Value.slice none 0 0]]) aX (fun w => zeroValue46 w) ⟨Sr, (by dsimp only [opTy, upd, Nat.beq, jf, fsPl, List.getElem?_cons_succ, List.getElem?_cons_zero]; exact Sr), Sr, trivial⟩ ⟨⟨Sr, rfl⟩, fun _ => rfl, fun _ => ⟨_, rfl, none, ⟨0, Nat.le_refl _⟩, rfl, fun q => absurd rfl q⟩, fun _ => ⟨_, rfl, none, ⟨0, Nat.le_refl _⟩, rfl, fun q => absurd rfl q⟩, ⟨(by dsimp only [opTy, upd, Nat.beq, jf, fsPl, List.getElem?_cons_succ, List.getElem?_cons_zero]; exact Sr), rfl⟩, fun _ => rfl, fun _ => rfl, ⟨Sr, rfl⟩, trivial⟩) ?_
  refine Zs (aN bp Sr zS) ?_
  refine Zs (ax (ys := [kid]) underlying197 fW ⟨rfl, Sr, trivial⟩ rfl (by decide)) ?_
  refine Zs (ai (dY x (GPl.mk p.Kind 0 [] [] p.Cols 0 0 (bv kid.Plan.Attrs p.Cols)) [kid] (hpf.2.1 h82)) ⟨Sr, Sr, Sr, trivial⟩ call146) ?_
  refine Ju (aj bp Sr Sr zS) fun _ => ?_
  refine ae (aF ?_)
  refine aZ (rv := .cell 6 152) rfl () (Sel.all _) (.cell (R := bm) bp Sr zS Sr) (Frz.sub (DE (by simp [pushM, h57, hkd, rI, h82])))
 try simp only [NF] at h57
 refine Jr (Zs (aC Sr Sr) (Za (ae ?_)))
 refine au Sr (fun h116 => ?_) (fun h116 => ?_)
 ·
  try simp only [NF] at h116
  have hin := zc hv ht h116
  have hk0 := hin.1
  have hip := IP 0 hk0 _ hin.2.2 (by have := hdiv (gH p); omega)
  refine Jr (Zm (Zs (bK (As := [_]) ⟨Sr, trivial⟩) (Zs (ai (ji ts 157 [bx bO p] p.Attrs.length (gH p) (fun c h1 h2 => tS p c h1) call157 ht zG) ⟨Sr, Sr, trivial⟩ call154) (Zm (Zs (aM Sr rfl) ?_)))))
  refine Zs (aM Sr rfl) (Za (Za (ae (ar ?_))))
  refine bl [⟨0, [3], true⟩, ⟨1, [4], true⟩, ⟨2, [125], true⟩, ⟨3, [126], true⟩, ⟨4, [127], true⟩, ⟨5, [14], true⟩, ⟨6, [124, 128, 129], true⟩, ⟨7, [], false⟩, ⟨8, [16, 130], false⟩] rfl (by kernel_rfl) ?_
  refine Zf rfl (ab dy Sr) (Zf rfl (aa aX Sr rfl) (Zf rfl (ab dQ Sr) (Zf rfl (ad (i := 0) underlying42 eO Sr Sr rfl (gb hk0)) (Zf rfl (ab ba DQ) (Zv rfl ?_)))))
  refine Zf rfl (ai (IH 0 hk0 (cu (gH p) ts) hin.2.2 (by have := hdiv (gH p); omega)) ⟨Sr, Sr, Sr, trivial⟩ call96) ?_
  refine cB rfl rfl rfl rfl (aD (fun w => zeroValue152 w) fM) fun b16 => ?_
  refine cV rfl rfl rfl (aj bp Sr Sr zS) fun _ => ?_
  refine bj ?_
  generalize hkd : (pushM x n (nth p.Kids 0) (cu (gH p) ts)) = kid at hip
  refine bF (t := 16) zS Frz.box ?_
  have hgf := ql hv hz ht zG h116 hip.1 hip.2
  refine ar ?_
  refine bl [⟨0, [16], true⟩, ⟨1, [131], true⟩, ⟨2, [132], true⟩, ⟨3, [4], true⟩, ⟨4, [134], true⟩, ⟨6, [4], true⟩, ⟨7, [137], true⟩, ⟨8, [4], true⟩, ⟨9, [139], true⟩, ⟨10, [140], true⟩, ⟨11, [138, 141], true⟩, ⟨12, [142], true⟩, ⟨13, [143], true⟩, ⟨5, [133, 135], false⟩, ⟨14, [136, 144], false⟩, ⟨15, [145], true⟩] rfl (by kernel_rfl) ?_
  refine Zf rfl (aa eC Sr rfl) (Zf rfl (aa aX Sr rfl) (Zf rfl (ab bQ Sr) (Zf rfl (aa aX Sr rfl) (Zf rfl (ab bY Sr) (Zf rfl (aa aX Sr rfl) ?_)))))
  refine Zf rfl (ab bQ Sr) (Zf rfl (aa aX Sr rfl) (Zf rfl (ab bY Sr) (Zf rfl (ah underlying36 Sr) ?_)))
  refine Zf rfl (ad (i := p.Cols.length) underlying44 ct Sr Sr (by rfl) (gb (by show _ < p.Attrs.length; have := hin.2.1; omega))) ?_
  refine Zf rfl (ab ct Sr) ?_
  refine Zf rfl (ax (ys := [_]) underlying44 gv ⟨rfl, Sr, trivial⟩ rfl (by decide)) ?_
  refine cB rfl rfl rfl rfl (bz (Dz _) (nL kid.Plan.Attrs p.Cols hgf.1 zG) ⟨Sr, Sr, trivial⟩ call156) fun v136 => ?_
  refine cB rfl rfl rfl rfl (aL underlying44 gv Sr Sr zS (by simp [bv]; omega) (by simp [bv]; omega)) fun v145 => ?_
  refine Zf rfl (aW Sr) (bj ?_)
  refine bF (t := 17) (A' := tSl aS ((bv kid.Plan.Attrs p.Cols) ++ [nth p.Attrs p.Cols.length])) zS Frz.own ?_
  refine ar ?_
  refine bl [⟨0, [3], true⟩, ⟨1, [3], true⟩, ⟨2, [4], true⟩, ⟨3, [148], true⟩, ⟨4, [4], true⟩, ⟨5, [150], true⟩, ⟨6, [4], true⟩, ⟨7, [152], true⟩, ⟨8, [4], true⟩, ⟨9, [154], true⟩, ⟨10, [17], true⟩, ⟨11, [149, 151, 153, 155, 156], true⟩, ⟨12, [16], true⟩, ⟨13, [158], true⟩, ⟨14, [147, 157, 159], true⟩, ⟨15, [15], true⟩, ⟨16, [146, 160, 161], true⟩, ⟨17, [6, 162], false⟩] rfl (by kernel_rfl) ?_
  refine Zf rfl (ab dy Sr) (Zf rfl (ab dy Sr) (Zf rfl (aa aX Sr rfl) (Zf rfl (ab ty3 Sr) (Zf rfl (aa aX Sr rfl) (Zf rfl (ab bY Sr) ?_)))))
  refine Zf rfl (aa aX Sr rfl) (Zf rfl (ab ty3 Sr) (Zf rfl (aa aX Sr rfl) (Zf rfl (ab ty3 Sr) (Zv rfl (Zf rfl (aU (x := (GPl.mk p.Kind 0 [] [] p.Cols p.Col p.Agg ((bv kid.Plan.Attrs p.Cols) ++ [nth p.Attrs p.Cols.length]) : aG)) (zs := [[Value.int .i64 0], [Value.int .i64 0], [Value.slice none 0 0], [Value.slice none 0 0], [Value.slice none 0 0], [Value.int .i64 0], [Value.int .i64 0], [Value.slice none 0 0]]) aX (fun w => zeroValue46 w) ⟨Sr, Sr, Sr, Sr, Sr, trivial⟩ ⟨⟨Sr, rfl⟩, fun _ => rfl, fun _ => ⟨_, rfl, none, ⟨0, Nat.le_refl _⟩, rfl, fun q => absurd rfl q⟩, fun _ => ⟨_, rfl, none, ⟨0, Nat.le_refl _⟩, rfl, fun q => absurd rfl q⟩, ⟨Sr, rfl⟩, ⟨Sr, rfl⟩, ⟨Sr, rfl⟩, ⟨Sr, rfl⟩, trivial⟩) ?_)))))
  refine Zf rfl (ab bp Sr) ?_
  refine Zf rfl (ax (ys := [kid]) underlying197 fW ⟨rfl, Sr, trivial⟩ rfl (by decide)) ?_
  refine Zf rfl (ai (dY x (GPl.mk p.Kind 0 [] [] p.Cols p.Col p.Agg ((bv kid.Plan.Attrs p.Cols) ++ [nth p.Attrs p.Cols.length])) [kid] hgf.2.1) ⟨Sr, Sr, Sr, trivial⟩ call146) (Zv rfl (Zf rfl (ai (gC x (makeM x (GPl.mk p.Kind 0 [] [] p.Cols p.Col p.Agg ((bv kid.Plan.Attrs p.Cols) ++ [nth p.Attrs p.Cols.length])) [kid]) (cr (gH p) ts) hgf.2.2) ⟨Sr, Sr, Sr, trivial⟩ call151) ?_))
  refine cV rfl rfl rfl (aj bp Sr Sr zS) fun _ => ?_
  refine bj (aF ?_)
  refine aZ (rv := .cell 6 152) rfl () (Sel.all _) (.cell (R := bm) bp Sr zS Sr) (Frz.sub (DE (by simp [pushM, h116, hkd, AH])))
 try simp only [NF] at h116
 refine Jr (Zs (aC Sr Sr) (Za (ae ?_)))
 refine au Sr (fun h163 => ?_) (fun h163 => ?_)
 ·
  try simp only [NF] at h163
  have hvk := vk7 hv h163
  have hk0 : 0 < p.Kids.length := by omega
  have hin : TIn (nth p.Kids 0).Attrs.length ts := by rw [<- hvk.2]; exact ht
  have hip := IP 0 hk0 _ hin zG
  refine ar ?_
  refine bl [⟨0, [3], true⟩, ⟨1, [4], true⟩, ⟨2, [166], true⟩, ⟨3, [167], true⟩, ⟨4, [168], true⟩, ⟨5, [2], true⟩, ⟨6, [165, 169, 170], true⟩, ⟨7, [], false⟩, ⟨8, [18, 171], false⟩] rfl (by kernel_rfl) ?_
  refine Zf rfl (ab dy Sr) (Zf rfl (aa aX Sr rfl) (Zf rfl (ab dQ Sr) (Zf rfl (ad (i := 0) underlying42 eO Sr Sr rfl (gb hk0)) (Zf rfl (ab ba DQ) (Zv rfl ?_)))))
  refine Zf rfl (ai (IH 0 hk0 ts hin zG) ⟨Sr, Sr, Sr, trivial⟩ call96) ?_
  refine cB rfl rfl rfl rfl (aD (fun w => zeroValue152 w) fM) fun b18 => ?_
  refine cV rfl rfl rfl (aj bp Sr Sr zS) fun _ => ?_
  refine bj ?_
  generalize hkd : (pushM x n (nth p.Kids 0) ts) = kid at hip
  refine bF (t := 18) zS Frz.box ?_
  have hrf := qm hv h163 hip.1 hip.2
  refine Jr (Zs (aa eC Sr rfl) (Zs (aa aX Sr rfl) (Zl bQ Sr ?_)))
  refine Zx (bz (Dz _) (fH kid.Plan.Attrs (by have := hip.1.a; omega)) ⟨Sr, trivial⟩ call158) fun v175 => ?_
  refine Za (ae (ar ?_))
  refine bl [⟨0, [19], true⟩, ⟨1, [4], true⟩, ⟨2, [177], true⟩, ⟨3, [4], true⟩, ⟨4, [179], true⟩, ⟨5, [4], true⟩, ⟨6, [181], true⟩, ⟨7, [180, 182], true⟩, ⟨8, [183], true⟩, ⟨9, [184], true⟩, ⟨10, [176, 178], false⟩, ⟨11, [186], false⟩, ⟨12, [185, 187], false⟩] rfl (by kernel_rfl) ?_
  refine Zv rfl (Zf rfl (aa aX Sr rfl) (Zf rfl (ab ty3 Sr) (Zf rfl (aa aX Sr rfl) (Zf rfl (ab bQ Sr) (Zf rfl (aa aX Sr rfl) ?_)))))
  refine Zf rfl (ab ty3 Sr) ?_
  refine Zf rfl (ad (i := p.Col.toNat) underlying44 ct Sr Sr (by show p.Col = _; have := hrf.1; omega) (gb (by show _ < p.Attrs.length; have := hrf.1; omega))) ?_
  refine Zf rfl (aa dH Sr rfl) (Zf rfl (ab ty9 Sr) ?_)
  refine ff rfl rfl rfl rfl (bd (i := p.Col.toNat) underlying44 ct Sr zS Sr (by show p.Col = _; have := hrf.1; omega) (by show _ < kid.Plan.Attrs.length; have := hrf.1; omega)) ?_
  refine ff rfl rfl rfl rfl (bV (i := p.Col.toNat) dH Sr rfl zS (by show _ < kid.Plan.Attrs.length; have := hrf.1; omega)) ?_
  refine cV rfl rfl rfl (dg (R := eH) (i := p.Col.toNat) (y := nth kid.Plan.Attrs p.Col.toNat) (y' := { nth kid.Plan.Attrs p.Col.toNat with Name := (nth p.Attrs p.Col.toNat).Name }) ty9 Sr Sr zS (gb (by show _ < kid.Plan.Attrs.length; have := hrf.1; omega)) (by exact ⟨fun _ _ q => q, rfl, by intro g hg; simp only [List.mem_cons, List.not_mem_nil, or_false] at hg; rcases hg with rfl | rfl | rfl <;> rfl⟩)) fun _ => ?_
  refine bj ?_
  refine bF (t := 19) (A' := tSl aS (kid.Plan.Attrs.set p.Col.toNat { nth kid.Plan.Attrs p.Col.toNat with Name := (nth p.Attrs p.Col.toNat).Name })) zS Frz.own ?_
  refine Jr (Zl dy Sr (Zs (aa aX Sr rfl) (Zl ty3 Sr (Zs (aa aX Sr rfl) (Zl ty3 Sr ?_)))))
  refine Zm (Zs (aU (x := (GPl.mk p.Kind 0 [] [] [] p.Col 0 (kid.Plan.Attrs.set p.Col.toNat { nth kid.Plan.Attrs p.Col.toNat with Name := (nth p.Attrs p.Col.toNat).Name }) : aG)) (zs := [[Value.int .i64 0], [Value.int .i64 0], [Value.slice none 0 0], [Value.slice none 0 0], [Value.slice none 0 0], [Value.int .i64 0], [Value.int .i64 0], [Value.slice none 0 0]]) aX (fun w => zeroValue46 w) ⟨Sr, Sr, Sr, trivial⟩ ⟨⟨Sr, rfl⟩, fun _ => rfl, fun _ => ⟨_, rfl, none, ⟨0, Nat.le_refl _⟩, rfl, fun q => absurd rfl q⟩, fun _ => ⟨_, rfl, none, ⟨0, Nat.le_refl _⟩, rfl, fun q => absurd rfl q⟩, fun _ => ⟨_, rfl, none, ⟨0, Nat.le_refl _⟩, rfl, fun q => absurd rfl q⟩, ⟨Sr, rfl⟩, fun _ => rfl, ⟨Sr, rfl⟩, trivial⟩) (Zl bp Sr ?_))
  refine Zs (ax (ys := [kid]) underlying197 fW ⟨rfl, Sr, trivial⟩ rfl (by decide)) ?_
  refine Zs (ai (dY x (GPl.mk p.Kind 0 [] [] [] p.Col 0 (kid.Plan.Attrs.set p.Col.toNat { nth kid.Plan.Attrs p.Col.toNat with Name := (nth p.Attrs p.Col.toNat).Name })) [kid] hrf.2) ⟨Sr, Sr, Sr, trivial⟩ call146) ?_
  refine Ju (aj bp Sr Sr zS) fun _ => ?_
  refine ae (aF ?_)
  refine aZ (rv := .cell 6 152) rfl () (Sel.all _) (.cell (R := bm) bp Sr zS Sr) (Frz.sub (DE (by simp [pushM, h163, hkd, BQ])))
 try simp only [NF] at h163
 have h56 : p.Kind = 5 \/ p.Kind = 6 := by rcases cZ hkd with k | k | k | k | k | k | k | k <;> omega
 have hwk := wk5 hv h56
 have hk0 : 0 < p.Kids.length := by omega
 have hk1 : 1 < p.Kids.length := by omega
 have hin : TIn (nth p.Kids 0).Attrs.length ts := by rw [<- hwk.2.1]; exact ht
 have hin1 : TIn (nth p.Kids 1).Attrs.length ts := by rw [<- hwk.2.2, <- hwk.2.1]; exact ht
 have hip := IP 0 hk0 _ hin zG
 have hip1 := IP 1 hk1 _ hin1 zG
 have hbf := wq hv h56 hip.1 hip.2 hip1.1 hip1.2
 refine ay (ar ?_)
 refine om [] [⟨0, [3], 0⟩, ⟨1, [4], 0⟩, ⟨2, [199], 0⟩, ⟨3, [200], 0⟩, ⟨4, [201], 0⟩, ⟨5, [2], 0⟩, ⟨6, [198, 202, 203], 0⟩, ⟨7, [3], 0⟩, ⟨8, [4], 0⟩, ⟨9, [206], 0⟩, ⟨10, [207], 0⟩, ⟨11, [208], 0⟩, ⟨12, [2], 0⟩, ⟨13, [205, 209, 210], 0⟩] [⟨14, [], 20, SP.emp, fun v => tAt (vN v) 0, fun v => box (vN v) 152 bm ⟨GPl.zero, dF⟩⟩, ⟨15, [], 21, SP.emp, fun v => tAt (vN v) 0, fun v => box (vN v) 152 bm ⟨GPl.zero, dF⟩⟩] [⟨16, [20, 204], 2⟩, ⟨17, [21, 211], 2⟩] (L := [box b6 152 bm ⟨GPl.zero, dF⟩]) (LSub.trans LSub.emp LSub.emp) rfl (by kernel_rfl) (Nat.le_of_ble_eq_true rfl) ?_
 refine bN rfl rfl rfl rfl (fun _ => ab dy Sr) ?_
 refine bN rfl rfl rfl rfl (fun _ => aa aX Sr rfl) ?_
 refine bN rfl rfl rfl rfl (fun _ => ab dQ Sr) ?_
 refine bN rfl rfl rfl rfl (fun _ => ad (i := 0) underlying42 eO Sr Sr rfl (gb hk0)) ?_
 refine bN rfl rfl rfl rfl (fun _ => ab ba DQ) ?_
 refine bN rfl rfl rfl rfl (fun _ => al Sr) ?_
 refine bN rfl rfl rfl rfl (fun _ => ai (IH 0 hk0 ts hin zG) ⟨Sr, Sr, Sr, trivial⟩ call96) ?_
 refine bN rfl rfl rfl rfl (fun _ => ab dy Sr) ?_
 refine bN rfl rfl rfl rfl (fun _ => aa aX Sr rfl) ?_
 refine bN rfl rfl rfl rfl (fun _ => ab dQ Sr) ?_
 refine bN rfl rfl rfl rfl (fun _ => ad (i := 1) underlying42 eO Sr Sr rfl (gb hk1)) ?_
 refine bN rfl rfl rfl rfl (fun _ => ab ba DQ) ?_
 refine bN rfl rfl rfl rfl (fun _ => al Sr) ?_
 refine bN rfl rfl rfl rfl (fun _ => ai (IH 1 hk1 ts hin1 zG) ⟨Sr, Sr, Sr, trivial⟩ call96) ?_
 refine nE ?_
 refine ⟨⟨_, rfl, rfl, rfl, rfl, fun _ => by refine D7 ?_; exact Eb A0 (aD (fun w => zeroValue152 w) fM) (fun _ => rfl) (fun _ => rfl)⟩, fun b20 => ?_⟩
 refine ⟨⟨_, rfl, rfl, rfl, rfl, fun _ => by refine D7 ?_; exact Eb A0 (aD (fun w => zeroValue152 w) fM) (fun _ => rfl) (fun _ => rfl)⟩, fun b21 => ?_⟩
 refine pQ ?_
 refine bI rfl rfl rfl (aj bp Sr Sr zS) fun _ => ?_
 refine bI rfl rfl rfl (aj bp Sr Sr zS) fun _ => ?_
 refine cC ?_
 refine bF (t := 20) zS Frz.box ?_
 refine bF (t := 21) zS Frz.box ?_
 refine Jr (Zl dy Sr (Zs (aa aX Sr rfl) (Zl ty3 Sr (Zs (aa eC Sr rfl) (Zs (aa aX Sr rfl) ?_)))))
 refine Zl bQ Sr (Zs (aU (x := (GPl.mk p.Kind 0 [] [] [] 0 0 (pushM x n (nth p.Kids 0) ts).Plan.Attrs : aG)) (zs := [[Value.int .i64 0], [Value.int .i64 0], [Value.slice none 0 0], [Value.slice none 0 0], [Value.slice none 0 0], [Value.int .i64 0], [Value.int .i64 0], [Value.slice none 0 0]]) aX (fun w => zeroValue46 w) ⟨Sr, Sr, trivial⟩ ⟨⟨Sr, rfl⟩, fun _ => rfl, fun _ => ⟨_, rfl, none, ⟨0, Nat.le_refl _⟩, rfl, fun q => absurd rfl q⟩, fun _ => ⟨_, rfl, none, ⟨0, Nat.le_refl _⟩, rfl, fun q => absurd rfl q⟩, fun _ => ⟨_, rfl, none, ⟨0, Nat.le_refl _⟩, rfl, fun q => absurd rfl q⟩, fun _ => rfl, fun _ => rfl, ⟨Sr, rfl⟩, trivial⟩) (Zl bp Sr (Zl bp Sr ?_)))
 refine Zs (ax (ys := [(pushM x n (nth p.Kids 0) ts), (pushM x n (nth p.Kids 1) ts)]) underlying197 fW ⟨rfl, Sr, rfl, Sr, trivial⟩ rfl (by decide)) ?_
 refine Zs (ai (dY x (GPl.mk p.Kind 0 [] [] [] 0 0 (pushM x n (nth p.Kids 0) ts).Plan.Attrs) [(pushM x n (nth p.Kids 0) ts), (pushM x n (nth p.Kids 1) ts)] hbf) ⟨Sr, Sr, Sr, trivial⟩ call146) ?_
 refine Ju (aj bp Sr Sr zS) fun _ => ?_
 refine ae (aF ?_)
 refine aZ (rv := .cell 6 152) rfl () (Sel.all _) (.cell (R := bm) bp Sr zS Sr) (Frz.sub (DE (by rcases h56 with h56 | h56 <;> simp [pushM, h56])))
theorem qp (x : Gplanner) (hst : StOk x) : ∀ n, Ag x n
  | 0 => fun _ _ _ _ hd => hd.elim
  | n + 1 => fun l p ts h12 hd hv hz ht hl => rP x hst n (qp x hst n) l p ts h12 hd hv hz ht hl
def Ah (s : GSchema) (p : aG) (st : GStats) : Int := if bq s p st = true then 0 else 1
theorem wt {s : GSchema} {n : Nat} {p : aG} {st : GStats} (h : bq s p st = false) : x7 s n p st = GPl.zero /\ Ah s p st = 1 := by
  have : ¬ bq s p st = true := by simp [h]
  exact ⟨if_neg this, if_neg this⟩
theorem oG {s : GSchema} {n : Nat} {p : aG} {st : GStats} (h : bq s p st = true) (h2 : iE s (pushM ⟨s, st⟩ n p []).Plan = false \/ (cD ⟨s, st⟩ n p).size.cost < (pushM ⟨s, st⟩ n p []).size.cost) : x7 s n p st = p := by
  rw [x7, if_pos h, if_pos h2]
theorem oH {s : GSchema} {n : Nat} {p : aG} {st : GStats} (h : bq s p st = true) (h2 : ¬ (iE s (pushM ⟨s, st⟩ n p []).Plan = false \/ (cD ⟨s, st⟩ n p).size.cost < (pushM ⟨s, st⟩ n p []).size.cost)) : x7 s n p st = (pushM ⟨s, st⟩ n p []).Plan := by
  rw [x7, if_pos h, if_neg h2]
theorem wu {s : GSchema} {p : aG} {st : GStats} (h : bq s p st = true) : Ah s p st = 0 := if_pos h
theorem qq {s : GSchema} {p : aG} (h : iE s p = true) : validM s 12 p = true := by
  unfold iE at h; simp only [Bool.and_eq_true] at h; exact h.2
theorem Bi {s : GSchema} (h : ∀ t ∈ s.Tables, t.Attrs.length <= 1000) : ∀ t ∈ s.Tables, t.Attrs.length <= 1000000 := fun t ht => Nat.le_trans (h t ht) (by omega)
theorem kZ (s : GSchema) (hz : SchSz s) (hsz : ∀ t ∈ s.Tables, t.Attrs.length <= 1000) (n : Nat) (p : aG) (hd : Dep n p) (hp : PSz p) (hs : iE s p = true -> gQ n p <= 1000) (st : GStats) (hds : ∀ d ∈ st.Distinct, d.length <= 1000000000000) : Fun1 prog 40 [aV.ty s, bO.ty p, bA.ty st] (fA [bO.ty (x7 s n p st), tV (.int .i64 (Ah s p st))]) := by
 refine Spec.enter func40 rfl rfl fun h0 w0 fr0 => ?_
 refine Jr (Zs (aJ (R := aV) Sr) (Zs (aJ (R := bO) Sr) (Zs (aJ (R := bA) Sr) ?_)))
 refine Zx (aD (fun w => zeroValue46 w) fL) fun b6 => ?_
 refine Za (ae (Jr (Zl fR Sr (Zl ba Sr (Zl gh Sr ?_)))))
 refine Zs (ai (qo s hz p hp st hds) ⟨Sr, Sr, Sr, trivial⟩ call92) (Zm (Zs (aM Sr rfl) (Zs (aM Sr rfl) ?_)))
 refine Zx (aD (fun w => zeroValue146 w) zM) fun b8 => ?_
 refine Ju (aj dy Sr Sr zS) fun _ => ?_
 refine bc (t := 8) (Sel.take (Dz _)) Frz.box ?_
 refine Za (ae (ar (Jr (Zm (Zs (bf Sr) ?_)))))
 refine ae ?_
 refine au Sr (fun h19 => ?_) (fun h19 => ?_)
 ·
  try simp only [NF] at h19
  have hf : bq s p st = false := by simpa using h19
  refine Jr (Zs (aU (x := (GPl.zero : aG)) (zs := [[Value.int .i64 0], [Value.int .i64 0], [Value.slice none 0 0], [Value.slice none 0 0], [Value.slice none 0 0], [Value.int .i64 0], [Value.int .i64 0], [Value.slice none 0 0]]) aX (fun w => zeroValue46 w) trivial ⟨fun _ => rfl, fun _ => rfl, fun _ => ⟨_, rfl, none, ⟨0, Nat.le_refl _⟩, rfl, fun q => absurd rfl q⟩, fun _ => ⟨_, rfl, none, ⟨0, Nat.le_refl _⟩, rfl, fun q => absurd rfl q⟩, fun _ => ⟨_, rfl, none, ⟨0, Nat.le_refl _⟩, rfl, fun q => absurd rfl q⟩, fun _ => rfl, fun _ => rfl, fun _ => ⟨_, rfl, none, ⟨0, Nat.le_refl _⟩, rfl, fun q => absurd rfl q⟩, trivial⟩) ?_)
  refine Ju (aj ba Sr Sr zS) fun _ => ?_
  refine Za (ae (aF ?_))
  refine bJ (rv := .cell 6 46) (rv' := .tmp 7) rfl () (Sel.all _) (.cell (R := bO) ba Sr zS Sr) (.tmp Sr) (Frz.sub (DE (by rw [(wt (n := n) hf).1]))) (Frz.sub (Sub.int (by rw [(wt (n := n) hf).2]))) Sr
 try simp only [NF] at h19
 have hf : bq s p st = true := by simpa using h19
 have hpl : (if bq s p st = true then (⟨s, st⟩ : Gplanner) else zplanner) = ⟨s, st⟩ := if_pos hf
 have hplS : Sub (bx bu (if bq s p st = true then (⟨s, st⟩ : Gplanner) else zplanner)) (bx bu (⟨s, st⟩ : Gplanner)) := DE (by rw [hpl])
 obtain ⟨hvl, hst⟩ := jO hf
 have hv := qq hvl
 have hs := hs hvl
 have hpu := (mo hst n (ts := []) hd hv hp (fun t ht => by cases ht) (by show 0 + _ <= _; omega)).1
 have hwo : x6 (⟨s, st⟩ : Gplanner) p := mi _ hd (dG p) (lD hst (Bi hsz) hd hv (hp n)).1
 have hwe : cD (⟨s, st⟩ : Gplanner) n p = cd (⟨s, st⟩ : Gplanner) p := jT hd
 refine ay (Jr (Zs (ab (R := bu) dy hplS) (Zl ba Sr ?_)))
 refine Zs (ai (qp (⟨s, st⟩ : Gplanner) hst n 12 p [] zG hd hv hp (fun t ht => by cases ht) (by show 0 + _ <= _; omega)) ⟨Sr, Sr, DT, trivial⟩ call96) ?_
 refine Zx (aD (fun w => zeroValue152 w) fM) fun b10 => ?_
 refine Ju (aj bp Sr Sr zS) fun _ => ?_
 refine bc (t := 10) (Sel.take (Dz _)) Frz.box ?_
 refine ae (ar (ar ?_))
 refine bl [⟨0, [3], true⟩, ⟨1, [10], true⟩, ⟨2, [25], true⟩, ⟨3, [24, 26], true⟩, ⟨4, [27], true⟩, ⟨5, [28], true⟩, ⟨6, [10, 29], true⟩, ⟨7, [29, 30], true⟩, ⟨8, [29, 31], true⟩, ⟨9, [8, 29], true⟩, ⟨10, [4, 29], true⟩, ⟨11, [29, 33, 34], true⟩, ⟨12, [29, 35], true⟩, ⟨13, [29, 36], true⟩, ⟨14, [29, 32, 37], true⟩, ⟨15, [29, 38], true⟩] rfl (by kernel_rfl) ?_
 refine Zf rfl (ab fR Sr) (Zf rfl (aa eC Sr rfl) (Zf rfl (ab ba Sr) (Zf rfl (ai (m8 s hz (pushM (⟨s, st⟩ : Gplanner) n p []).Plan hpu.z) ⟨Sr, Sr, trivial⟩ call60) (Zf rfl (bf Sr) (Zv rfl ?_)))))
 refine Mk rfl rfl Sr rfl (aa eC Sr rfl) ?_
 refine Mg rfl rfl Sr rfl (fun hw => aa ci (Sub.w hw) rfl) (Mg rfl rfl Sr rfl (fun hw => ab ty3 (Sub.w hw)) ?_)
 refine Mk rfl rfl Sr rfl (ab (R := bu) dy hplS) ?_
 refine Mk rfl rfl Sr rfl (ab ba Sr) ?_
 refine Mg rfl rfl Sr rfl (fun hw => ai (mp (⟨s, st⟩ : Gplanner) p hwo) ⟨(Sub.w hw), (Sub.w hw), trivial⟩ call93) (Mg rfl rfl Sr rfl (fun hw => cI eC (Sub.w hw) rfl) (Mg rfl rfl Sr rfl (fun hw => cI ci (Sub.w hw) rfl) (Mg rfl rfl Sr rfl (fun hw => bD (Sub.w hw) (Sub.w hw)) (Zf rfl (az Sr Sr) (bj ?_)))))
 refine au Sr (fun h39 => ?_) (fun h39 => ?_)
 ·
  try simp only [NF] at h39
  have hal : (iE s (pushM (⟨s, st⟩ : Gplanner) n p []).Plan = false \/ (cD (⟨s, st⟩ : Gplanner) n p).size.cost < (pushM (⟨s, st⟩ : Gplanner) n p []).size.cost) := by rw [hwe]; simpa using h39
  refine Jr (Zl ba Sr ?_)
  refine Ju (aj ba Sr Sr zS) fun _ => ?_
  refine Za (ae (aF ?_))
  refine bJ (rv := .cell 6 46) (rv' := .tmp 7) rfl () (Sel.all _) (.cell (R := bO) ba Sr zS Sr) (.tmp Sr) (Frz.sub (DE (by rw [oG hf hal]))) (Frz.sub (Sub.int (by rw [wu hf]))) Sr
 try simp only [NF] at h39
 have hal : ¬ (iE s (pushM (⟨s, st⟩ : Gplanner) n p []).Plan = false \/ (cD (⟨s, st⟩ : Gplanner) n p).size.cost < (pushM (⟨s, st⟩ : Gplanner) n p []).size.cost) := by rw [hwe]; simpa using h39
 refine ay (Jr (Zs (aa eC Sr rfl) (Zl ba Sr ?_)))
 refine Ju (aj ba Sr Sr zS) fun _ => ?_
 refine Za (ae (aF ?_))
 refine bJ (rv := .cell 6 46) (rv' := .tmp 7) rfl () (Sel.all _) (.cell (R := bO) ba Sr zS Sr) (.tmp Sr) (Frz.sub (DE (by rw [oH hf hal]))) (Frz.sub (Sub.int (by rw [wu hf]))) Sr
abbrev kA : ByteArray := ⟨#[97]⟩
abbrev kB : ByteArray := ⟨#[98]⟩
abbrev kC : ByteArray := ⟨#[99]⟩
abbrev kAB : List GAttr := [attrN kA, attrN kB]
abbrev kBC : List GAttr := [attrN kB, attrN kC]
abbrev BR : List GAttr := [attrN kA, attrN kB, attrN kC]
abbrev kS : GSchema := ⟨[⟨⟨#[116]⟩, kAB, [0]⟩, ⟨⟨#[117]⟩, kBC, [0]⟩]⟩
abbrev kSt : GStats := ⟨[100, 20], [[100, 10], [10, 20]]⟩
abbrev kT : aG := GPl.mk 1 0 [] [] [] 0 0 kAB
abbrev kU : aG := GPl.mk 1 1 [] [] [] 0 0 kBC
abbrev kSome : aG := GPl.mk 2 0 [kT] [eqT 1 3] [] 0 0 kAB
abbrev kBoth : aG := GPl.mk 4 0 [kT, kU] [] [] 0 0 BR
abbrev kTop : aG := GPl.mk 2 0 [kBoth] [eqT 0 7] [] 0 0 BR
abbrev Ai : aG := GPl.mk 4 0 [GPl.mk 2 0 [kT] [eqT 0 7] [] 0 0 kAB, kU] [] [] 0 0 BR
theorem kp1 : bq kS kSome kSt = true := by decide +kernel
theorem kp2 : bq kS kBoth kSt = true := by decide +kernel
theorem kp3 : bq kS kTop kSt = true := by decide +kernel
theorem kp4 : bq kS Ai kSt = true := by decide +kernel
theorem kp5 : bq kS Ai zStats = false := by decide +kernel
theorem ke1 : pb kS 2 kSome kSt = 110 := by decide +kernel
theorem ke2 : pb kS 2 kBoth kSt = 320 := by decide +kernel
theorem ke3 : pb kS 3 kTop kSt = 322 := by decide +kernel
theorem ke4 : pb kS 3 Ai kSt = 123 := by decide +kernel
theorem Cd : x7 kS 3 kTop kSt = Ai := by
 unfold x7
 rw [if_pos kp3, if_neg (by decide +kernel)]
 rfl
theorem kSz : SchSz kS := ⟨by decide, fun t ht => by
 rcases List.mem_cons.1 ht with rfl | ht
 · exact ⟨by decide, by decide, by decide, by decide, by decide⟩
 · rw [List.mem_singleton.1 ht]
   exact ⟨by decide, by decide, by decide, by decide, by decide⟩⟩
theorem kdT : Dep 1 kT := by intro q hq; cases hq
theorem kdU : Dep 1 kU := by intro q hq; cases hq
theorem kdO {a : Int} {b c : aG} {ts : List GTest} {at' : List GAttr} {n : Nat} (h : Dep n b) : Dep (n + 1) (GPl.mk a 0 [b] ts [] 0 0 at') := by
 intro q hq; rw [List.mem_singleton.1 hq]; exact h
theorem kd2 {a : Int} {b c : aG} {at' : List GAttr} {n : Nat} (h : Dep n b) (h2 : Dep n c) : Dep (n + 1) (GPl.mk a 0 [b, c] [] [] 0 0 at') := by
 intro q hq
 rcases List.mem_cons.1 hq with rfl | hq
 · exact h
 · rw [List.mem_singleton.1 hq]; exact h2
theorem kzL {a b : Int} {at' : List GAttr} (h : at'.length <= 1000) : PSz (GPl.mk a b [] [] [] 0 0 at') := fun m => by
 cases m with
 | zero => exact trivial
 | succ m => exact ⟨by show (0 : Nat) <= _; omega, by show (0 : Nat) <= _; omega, by show (0 : Nat) <= _; omega, h, fun q hq => by cases hq⟩
theorem kzN {a : Int} {ks : List aG} {ts : List GTest} {at' : List GAttr} (hk : ks.length <= 1000) (ht : ts.length <= 1000) (h : at'.length <= 1000) (hs : ∀ q ∈ ks, PSz q /\ q.Attrs.length <= 1000) : PSz (GPl.mk a 0 ks ts [] 0 0 at') := fun m => by
 cases m with
 | zero => exact trivial
 | succ m => exact ⟨by show ks.length <= _; omega, ht, by show (0 : Nat) <= _; omega, h, fun q hq => ⟨(hs q hq).1 m, (hs q hq).2⟩⟩
theorem kz1 {a : Int} {b : aG} {ts : List GTest} {at' : List GAttr} (hb : PSz b) (hl : b.Attrs.length <= 1000) (ht : ts.length <= 1000) (h : at'.length <= 1000) : PSz (GPl.mk a 0 [b] ts [] 0 0 at') :=
 kzN (by simp) ht h fun q hq => by rw [List.mem_singleton.1 hq]; exact ⟨hb, hl⟩
theorem kz2 {a : Int} {b c : aG} {at' : List GAttr} (hb : PSz b) (hc : PSz c) (hl : b.Attrs.length <= 1000) (hl2 : c.Attrs.length <= 1000) (h : at'.length <= 1000) : PSz (GPl.mk a 0 [b, c] [] [] 0 0 at') :=
 kzN (by simp) (by simp) h fun q hq => by
  rcases List.mem_cons.1 hq with rfl | hq
  · exact ⟨hb, hl⟩
  · rw [List.mem_singleton.1 hq]; exact ⟨hc, hl2⟩
theorem kzT : PSz kT := kzL (by decide)
theorem kzU : PSz kU := kzL (by decide)
theorem kzS : PSz kSome := kz1 kzT (by decide) (by decide) (by decide)
theorem kzB : PSz kBoth := kz2 kzT kzU (by decide) (by decide) (by decide)
theorem kzP : PSz kTop := kz1 kzB (by decide) (by decide) (by decide)
theorem kzI : PSz Ai := kz2 (kz1 kzT (by decide) (by decide) (by decide)) kzU (by decide) (by decide) (by decide)
theorem kdS : Dep 2 kSome := kdO (c := kT) kdT
theorem kdB : Dep 2 kBoth := kd2 kdT kdU
theorem kdP : Dep 3 kTop := kdO (c := kT) kdB
theorem kdI : Dep 3 Ai := kd2 (kdO (c := kT) kdT) (fv (by omega) kdU)
open Go
open Go.Sort (SWO SortedIn PermIn)
section
variable {β : Type} (R : Rp β)
abbrev El (p : β -> Prop) (h : PH) : Type := { q : Value × β // (R.ty q.2).p h q.1 /\ p q.2 }
variable {R}
theorem El.of_relAll {p : β -> Prop} {h : PH} (hR : R.agg = false) : ∀ {xs : List β} {cs : List Value}, (∀ x ∈ xs, p x) -> relAll R h xs cs -> ∃ ds : List (El R p h), ds.map (fun x => x.1.2) = xs /\ ds.map (fun x => x.1.1) = cs
 | [], _, _, r => by cases r; exact ⟨[], rfl, rfl⟩
 | x :: xs, _, hp, ⟨c1, c2, e, r1, r2⟩ => by
   subst e
   obtain ⟨ds, h1, h2⟩ := El.of_relAll hR (fun x hx => hp x (by simp [hx])) r2
   have hl := R.len r1
   rw [R.scalar hR] at hl
   match c1, hl with
   | [v], _ =>
     have hv : (R.ty x).p h v := by have := R.pack r1; rw [hR] at this; exact this
     exact ⟨⟨(v, x), hv, hp x (by simp)⟩ :: ds, by simp [h1], by simp [h2]⟩
theorem El.relAll {p : β -> Prop} {h : PH} (hR : R.agg = false) : ∀ (ds : List (El R p h)), Lg.relAll R h (ds.map fun x => x.1.2) (ds.map fun x => x.1.1)
 | [] => rfl
 | ⟨(v, x), hv, _⟩ :: ds => by
   refine ⟨[v], ds.map (fun x => x.1.1), rfl, ?_, El.relAll hR ds⟩
   obtain ⟨cs, r, e⟩ := R.iff.1 hv
   have hl := R.len r
   rw [R.scalar hR] at hl
   match cs, hl with
   | [u], _ =>
     simp only [packV, hR, Bool.false_eq_true, if_false, List.headD_cons] at e
     subst e; exact r
end
theorem oI {P : Program} {ρ : Shelf.Ren} (LL : Go.Proofs.SlLaysF.n6 P ρ) {β : Type} {R : Rp β} (hR : R.agg = false) (cf : β -> β -> Int) (hO : SWO (Go.Proofs.ltOf cf)) {gf e : Nat} (eg : ∀ args w, (callFunc gf args).run P w = .ok (.enter gf args) w)
  (p : β -> Prop) (hc : ∀ x y, p x -> p y -> ∀ (u u' : Value) (h : PH) (W : World), h.inw W -> (R.ty x).p h u -> (R.ty y).p h u' -> Calls P gf #[u, u'] W fun e' w' => e' = .returned (.int .i64 (cf x y)) /\ ∃ q os, w' = Sort.grow (W.drewN q) os) (v : Value) (xs : List β) (hpx : ∀ x ∈ xs, p x) (hn : xs.length < 4611686018427387904) :
  Spec (X := { ys : List β // ys.Perm xs /\ ys.Pairwise fun a b => Go.Proofs.ltOf cf b a = false }) P (ρ.f 6) [rV.ty v, tV (.func (.func gf) #[] #[])] [own e R v xs] (fun _ => fA []) (fun ys => [own e R v ys.1]) := by
 intro vs h m r w ha sp st
 match vs, ha with
 | [u1, u2], ⟨a1, a2, _⟩ =>
 obtain ⟨e1, _⟩ := a1
 have e2 : u2 = .func (.func gf) #[] #[] := a2
 subst e1; subst e2
 obtain ⟨m1, m2, d12, rfl, ho, e3⟩ := st
 rw [en] at e3; subst e3
 rw [DJ] at sp
 have none_case : ∀ (p : Option Addr) (cap : Nat), u1 = .slice p 0 cap -> xs = [] -> Calls P (ρ.f 6) [u1, .func (.func gf) #[] #[]].toArray w (Ret (X := { ys : List β // ys.Perm xs /\ ys.Pairwise fun a b => Go.Proofs.ltOf cf b a = false }) h w r (fun _ => fA []) (fun ys => [own e R u1 ys.1])) := by
  intro p cap hu hx
  subst hu; subst hx
  refine (Go.Proofs.AnyF.slices_SortFunc_none (P := P) (ρ := ρ) { LL with } p cap _ w).mono ?_
  rintro e' w' ⟨rfl, rfl⟩
  refine ⟨⟨[], List.Perm.refl _, List.Pairwise.nil⟩, _, h, m1, rfl, HL.refl, sp, ⟨m1, PH.emp, DM _, (DJ _).symm, ho, rfl⟩, ⟨[], rfl, trivial⟩⟩
 rcases ho with ⟨rfl, rfl, rfl⟩ | ⟨g, cap, cur, rfl, rfl, hl, hm, hs, hr⟩
 · exact none_case none 0 rfl rfl
 · by_cases hx : xs = []
   · subst hx; exact none_case _ cap rfl rfl
   · obtain ⟨ds, hd1, hd2⟩ := El.of_relAll (p := p) hR hpx hr
     have hk := R.scalar hR
     rw [hk, Nat.mul_one] at hd2 hs
     have hlen : ds.length = xs.length := by rw [<- hd1]; simp
     have hne : ds ≠ [] := fun q => hx (by rw [<- hd1, q]; rfl)
     haveI : Inhabited (El R p h) := ⟨ds.head hne⟩
     have hb := sp.mw g _ (DS _ _)
     have hgh : h g = none := PH.disj_one_iff.1 sp.hm
     have hget : ∀ j, j < ds.toArray.size -> cur[j]? = some (ds.toArray[j]!).1.1 := fun j hj => by
      have hj' : j < ds.length := by simpa using hj
      have : (cur.toList.take xs.length)[j]? = some (ds[j]).1.1 := by rw [<- hd2]; simp [hj']
      rw [List.getElem?_take, if_pos (by omega)] at this
      rw [getElem!_pos _ j hj]
      simpa using this
     have hH : Sort.Holds (fun x : El R p h => x.1.1) w g 0 ds.toArray := fun j hj => ⟨by
      rw [Nat.zero_add]; simp only [World.cell?, hb]
      exact hget j hj, by simp [World.frozen?, hb]⟩
     have hcell : ∀ x : El R p h, x.1.1.oneCell' = true := fun x => by
      obtain ⟨cs, rx, ex⟩ := R.iff.1 x.2.1
      have hlx := R.len rx
      rw [hk] at hlx
      match cs, hlx with
      | [u], _ => simp only [packV, hR, Bool.false_eq_true, if_false, List.headD_cons] at ex; rw [ex]; exact R.one rx u (by simp)
     have hblk : g < w.heap.size := (Array.getElem?_eq_some_iff.1 hb).1
     have hcmp : Go.Proofs.CmpLays1 P gf #[] (fun x : El R p h => x.1.1) (fun x y => cf x.1.2 y.1.2) g 0 ds.toArray.size w := by
      intro n os dk hdk x y
      have hw : h.inw (Go.Proofs.sortWorld (fun x : El R p h => x.1.1) w g 0 n dk os) := fun b o eb => by
       have hne' : b ≠ g := fun q => by rw [q, hgh] at eb; cases eb
       rw [fI (Ed sp.hw eb) hne']; exact sp.hw b o eb
      refine (hc x.1.2 y.1.2 x.2.2 y.2.2 x.1.1 y.1.1 h _ hw x.2.1 y.2.1).mono ?_
      rintro e' w' ⟨he, q, os', hq⟩
      exact ⟨he, q, os', hq⟩
     have hO' : SWO (Go.Proofs.ltOf fun x y : El R p h => cf x.1.2 y.1.2) := ⟨fun x => hO.irrefl _, fun x y z => hO.trans _ _ _, fun x y z => hO.ntrans _ _ _⟩
     have hS := Go.Proofs.Any.slices_SortFunc LL (fun x : El R p h => x.1.1) hcell (fun x y => cf x.1.2 y.1.2) hO' gf #[] g 0 cap ds.toArray w eg hcmp hH hblk (by simpa [hlen] using hn)
     have hsz : ds.toArray.size = xs.length := by simp [hlen]
     rw [hsz] at hS
     refine hS.mono ?_
     rintro e' w' ⟨rfl, d', n, os, ⟨p1, _, p3⟩, hso, rfl⟩
     have hd's : d'.size = xs.length := by rw [p1, hsz]
     have hperm : d'.toList.Perm ds := by
      have q1 : (d'.extract 0 xs.length) = d' := by rw [<- hd's]; simp
      have q2 : (ds.toArray.extract 0 xs.length) = ds.toArray := by rw [<- hsz]; simp
      rw [q1, q2] at p3
      simpa using p3
     have hcur : (Sort.putCells (fun x : El R p h => x.1.1) 0 d' cur).toList.take xs.length = d'.toList.map (fun x => x.1.1) := by
      apply List.ext_getElem?
      intro j
      rw [List.getElem?_take]
      split
      · rename_i hj
        have hjc : j < cur.size := by omega
        have hjd : j < d'.size := by omega
        simp [Sort.putCells, hjc, hjd, hj, hd's]
      · rw [List.getElem?_eq_none (by simp; omega)]
     refine ⟨⟨d'.toList.map (fun x => x.1.2), ?_, ?_⟩, _, h, PH.one g (.cells (Sort.putCells (fun x : El R p h => x.1.1) 0 d' cur) e (0, 0)), rfl, HL.same ⟨rfl, rfl, rfl⟩, ?_, ⟨_, PH.emp, DM _, (DJ _).symm, .inr ⟨g, cap, _, by simp [hd's], rfl, by simpa [hd's] using hl, hm, ?_, ?_⟩, rfl⟩, ⟨[], rfl, trivial⟩⟩
     · have := hperm.map (fun x : El R p h => x.1.2)
       rw [hd1] at this; exact this
     · rw [List.pairwise_map]
       rw [List.pairwise_iff_getElem]
       intro i j hi hj hij
       have hi' : i < d'.size := by simpa using hi
       have hj' : j < d'.size := by simpa using hj
       have := hso i j (by omega) hij (by omega)
       rw [getElem!_pos d' i hi', getElem!_pos d' j hj'] at this
       simp only [Array.getElem_toList]
       exact this
     · have sp' : Sep h ((PH.one g (.cells cur e (0, 0))).join PH.emp) r w := by rw [DJ]; exact sp
       have := DX (o' := .cells (Sort.putCells (fun x : El R p h => x.1.1) 0 d' cur) e (0, 0)) (DM _) sp' (fun b hne' hb' => fI (enc := fun x : El R p h => x.1.1) (off := 0) (m := n) (dk := d') (os := os) hb' hne') (jD hb)
       rw [DJ] at this; exact this
     · simp [Sort.putCells, hs, hk]
     · have e5 : (d'.toList.map (fun x : El R p h => x.1.2)).length = xs.length := by simp [hd's]
       rw [e5, hk, Nat.mul_one, hcur]
       exact El.relAll hR d'.toList
open Go.Sort (SWO)
theorem bytesLess_iff : ∀ (a b : List UInt8), Op.bytesLess a b = true ↔ a < b
 | [], [] => by simp [Op.bytesLess]
 | [], _ :: _ => by simp [Op.bytesLess]
 | _ :: _, [] => by simp [Op.bytesLess]
 | a :: ra, b :: rb => by
   have ih := bytesLess_iff ra rb
   simp only [Op.bytesLess, List.cons_lt_cons_iff]
   by_cases h1 : a < b
   · simp [h1]
   · by_cases h2 : b < a
     · have : a ≠ b := fun e => by subst e; exact h1 h2
       simp [h1, h2, this]
     · have : a = b := UInt8.le_antisymm (UInt8.not_lt.1 h2) (UInt8.not_lt.1 h1)
       subst this
       simp [h1, ih]
structure Cmp3 {α : Type} (c : α -> α -> Int) : Prop where
 eq : ∀ {a b}, c a b = 0 ↔ a = b
 anti : ∀ {a b}, c a b < 0 ↔ 0 < c b a
 tr : ∀ {a b d}, c a b < 0 -> c b d < 0 -> c a d < 0
theorem Cmp3.swo {α : Type} {c : α -> α -> Int} (h : Cmp3 c) : SWO (Go.Proofs.ltOf c) where
 irrefl x := by
  have : c x x = 0 := h.eq.2 rfl
  unfold Go.Proofs.ltOf; rw [this]; rfl
 trans x y z h1 h2 := by
  unfold Go.Proofs.ltOf at *
  simp only [decide_eq_true_eq] at *
  exact h.tr h1 h2
 ntrans x y z h1 h2 := by
  unfold Go.Proofs.ltOf at *
  simp only [decide_eq_false_iff_not] at *
  intro h3
  by_cases h4 : c y x < 0
  · exact h2 (h.tr h4 h3)
  · have : c x y = 0 := by
      have := h.anti (a := y) (b := x)
      omega
    have := h.eq.1 this
    subst this
    exact h2 h3
def ordI (a b : Int) : Int := if a < b then -1 else if b < a then 1 else 0
def ordS (a b : ByteArray) : Int := if ofB a < ofB b then -1 else if ofB b < ofB a then 1 else 0
def cmpV (a b : GValue) : Int := if ordI a.Kind b.Kind ≠ 0 then ordI a.Kind b.Kind else if ordI a.N b.N ≠ 0 then ordI a.N b.N else ordS a.Text b.Text
def cmpR : List GValue -> List GValue -> Int
 | [], [] => 0
 | [], _ :: _ => -1
 | _ :: _, [] => 1
 | a :: x, b :: y => if cmpV a b ≠ 0 then cmpV a b else cmpR x y
theorem AJ : Cmp3 ordI where
 eq := by intro a b; unfold ordI; split; omega; split <;> omega
 anti := by intro a b; unfold ordI; by_cases h1 : a < b <;> by_cases h2 : b < a <;> simp [h1, h2] <;> omega
 tr := by
  intro a b d h1 h2
  unfold ordI at *
  split at h1
  · split at h2
    · rw [if_pos (by omega)]; omega
    · split at h2 <;> omega
  · split at h1 <;> omega
theorem ofB_inj' {x y : ByteArray} (h : ofB x = ofB y) : x = y := by rw [<- nY x, h, nY]
theorem C8 : Cmp3 ordS where
 eq := by
  intro a b
  unfold ordS
  constructor
  · intro h
    split at h
    · omega
    · rename_i h1
      split at h
      · omega
      · rename_i h2
        exact ofB_inj' (List.le_antisymm (List.not_lt.1 h2) (List.not_lt.1 h1))
  · rintro rfl
    rw [if_neg (List.lt_irrefl _), if_neg (List.lt_irrefl _)]
 anti := by
  intro a b
  unfold ordS
  by_cases h : ofB a < ofB b
  · have h2 : ¬ ofB b < ofB a := fun q => List.lt_irrefl _ (List.lt_trans h q)
    simp [h, h2]
  · by_cases h2 : ofB b < ofB a <;> simp [h, h2]
 tr := by
  intro a b d h1 h2
  unfold ordS at *
  have h1 : ofB a < ofB b := by
   split at h1
   · assumption
   · split at h1 <;> omega
  have h2 : ofB b < ofB d := by
   split at h2
   · assumption
   · split at h2 <;> omega
  rw [if_pos (List.lt_trans h1 h2)]; omega
theorem Cmp3.lex {α β γ : Type} {c : α -> α -> Int} {e : β -> β -> Int} (hc : Cmp3 c) (he : Cmp3 e) (f : γ -> α) (g : γ -> β) (hi : ∀ x y, f x = f y -> g x = g y -> x = y) : Cmp3 fun x y => if c (f x) (f y) ≠ 0 then c (f x) (f y) else e (g x) (g y) where
 eq := by
  intro a b
  have h1 := hc.eq (a := f a) (b := f b)
  have h2 := he.eq (a := g a) (b := g b)
  try dsimp only
  constructor
  · intro h
    split at h
    · omega
    · exact hi _ _ (h1.1 (by omega)) (h2.1 h)
  · rintro rfl
    rw [if_neg (by rw [h1.2 rfl]; simp)]
    exact h2.2 rfl
 anti := by
  intro a b
  have h1 := hc.anti (a := f a) (b := f b)
  have h1' := hc.anti (a := f b) (b := f a)
  have h2 := he.anti (a := g a) (b := g b)
  try dsimp only
  split <;> split <;> omega
 tr := by
  intro a b d h1 h2
  try dsimp only at *
  have e1 := hc.eq (a := f a) (b := f b)
  have e2 := hc.eq (a := f b) (b := f d)
  split at h1
  · split at h2
    · have := hc.tr h1 h2
      rw [if_pos (by omega)]; exact this
    · rw [<- e2.1 (by omega)]
      rw [if_pos (by assumption)]; exact h1
  · split at h2
    · rw [e1.1 (by omega), if_pos (by assumption)]; exact h2
    · have q1 := e1.1 (by omega)
      have q2 := e2.1 (by omega)
      rw [if_neg (by rw [q1, q2, hc.eq.2 rfl]; simp)]
      exact he.tr h1 h2
theorem Aj : Cmp3 cmpV := by
 have h := Cmp3.lex AJ C8 (fun v : { v : Int × ByteArray // True } => v.1.1) (fun v => v.1.2) (fun x y h1 h2 => Subtype.ext (Prod.ext h1 h2))
 exact Cmp3.lex AJ h (fun v : GValue => v.Kind) (fun v => (⟨(v.N, v.Text), trivial⟩ : { v : Int × ByteArray // True })) (fun x y h1 h2 => by
  have h3 := congrArg (fun v => v.1.1) h2
  have h4 := congrArg (fun v => v.1.2) h2
  cases x; cases y; simp_all)
theorem sP : Cmp3 cmpR := by
 have e : ∀ a b : List GValue, cmpR a b = 0 ↔ a = b := by
  intro a
  induction a with
  | nil => intro b; cases b <;> simp [cmpR]
  | cons x a ih =>
    intro b
    cases b with
    | nil => simp [cmpR]
    | cons y b =>
      have h1 := Aj.eq (a := x) (b := y)
      have h2 := ih b
      simp only [cmpR, List.cons.injEq]
      split <;> simp_all
 have n : ∀ a b : List GValue, cmpR a b < 0 ↔ 0 < cmpR b a := by
  intro a
  induction a with
  | nil => intro b; cases b <;> simp [cmpR]
  | cons x a ih =>
    intro b
    cases b with
    | nil => simp [cmpR]
    | cons y b =>
      have h1 := Aj.anti (a := x) (b := y)
      have h1' := Aj.anti (a := y) (b := x)
      have h2 := ih b
      simp only [cmpR]
      split <;> split <;> omega
 refine ⟨e _ _, n _ _, ?_⟩
 intro a
 induction a with
 | nil =>
   intro b d h1 h2
   cases b with
   | nil => simp [cmpR] at h1
   | cons y b =>
     cases d with
     | nil => simp [cmpR] at h2
     | cons z d => simp [cmpR]
 | cons x a ih =>
   intro b d h1 h2
   cases b with
   | nil => simp [cmpR] at h1
   | cons y b =>
     cases d with
     | nil => simp [cmpR] at h2
     | cons z d =>
       simp only [cmpR] at *
       have e1 := Aj.eq (a := x) (b := y)
       have e2 := Aj.eq (a := y) (b := z)
       split at h1
       · split at h2
         · have := Aj.tr h1 h2
           rw [if_pos (by omega)]; exact this
         · rw [<- e2.1 (by omega)]
           rw [if_pos (by assumption)]; exact h1
       · split at h2
         · rw [e1.1 (by omega), if_pos (by assumption)]; exact h2
         · have q1 := e1.1 (by omega)
           have q2 := e2.1 (by omega)
           rw [if_neg (by rw [q1, q2, Aj.eq.2 rfl]; simp)]
           exact ih h1 h2
end Lg
namespace Go.Proofs
open Go.Shelf
def Tryz.sortVK_ren : Go.Shelf.Ren := ⟨fun | 6 => 137 | 15 => 129 | 14 => 210 | 28 => 204 | 29 => 205 | 20 => 278 | 21 => 279 | 22 => 280 | 23 => 281 | 24 => 282 | 25 => 283 | 26 => 284 | 27 => 285 | 46 => 312 | 47 => 272 | 48 => 273 | 49 => 313 | 50 => 314 | 57 => 333 | n => n, fun | 22 => 73 | 24 => 22 | 25 => 140 | 3 => 3 | 39 => 182 | 0 => 0 | 53 => 230 | 55 => 232 | 4 => 4 | 46 => 223 | 45 => 222 | 50 => 175 | 5 => 5 | 9 => 9 | 66 => 284 | 70 => 288 | 76 => 318 | 77 => 319 | n => n, fun | n => n⟩
theorem Tryz.sortVK : Go.Proofs.SlLaysF.n6 Tryz.prog Tryz.sortVK_ren := {
 mixed := by kernel_rfl
 f6 := ⟨Tryz.f137.name, by decide, Tryz.func137.trans (congrArg some (by kernel_rfl))⟩
 f14 := ⟨Tryz.f210.name, by decide, Tryz.func210.trans (congrArg some (by kernel_rfl))⟩
 f15 := Tryz.func129.trans (congrArg some (by kernel_rfl))
 f20 := ⟨Tryz.f278.name, by decide, Tryz.func278.trans (congrArg some (by kernel_rfl))⟩
 f21 := ⟨Tryz.f279.name, by decide, Tryz.func279.trans (congrArg some (by kernel_rfl))⟩
 f22 := ⟨Tryz.f280.name, by decide, Tryz.func280.trans (congrArg some (by kernel_rfl))⟩
 f23 := ⟨Tryz.f281.name, by decide, Tryz.func281.trans (congrArg some (by kernel_rfl))⟩
 f24 := ⟨Tryz.f282.name, by decide, Tryz.func282.trans (congrArg some (by kernel_rfl))⟩
 f25 := ⟨Tryz.f283.name, by decide, Tryz.func283.trans (congrArg some (by kernel_rfl))⟩
 f26 := ⟨Tryz.f284.name, by decide, Tryz.func284.trans (congrArg some (by kernel_rfl))⟩
 f27 := ⟨Tryz.f285.name, by decide, Tryz.func285.trans (congrArg some (by kernel_rfl))⟩
 f28 := Tryz.func204.trans (congrArg some (by kernel_rfl))
 f29 := Tryz.func205.trans (congrArg some (by kernel_rfl))
 f46 := ⟨Tryz.f312.name, by decide, Tryz.func312.trans (congrArg some (by kernel_rfl))⟩
 f47 := Tryz.func272.trans (congrArg some (by kernel_rfl))
 f48 := Tryz.func273.trans (congrArg some (by kernel_rfl))
 f49 := ⟨Tryz.f313.name, by decide, Tryz.func313.trans (congrArg some (by kernel_rfl))⟩
 f50 := ⟨Tryz.f314.name, by decide, Tryz.func314.trans (congrArg some (by kernel_rfl))⟩
 f57 := ⟨Tryz.f333.name, by decide, Tryz.func333.trans (congrArg some (by kernel_rfl))⟩
 t0 := Tryz.underlying0
 a0 := Tryz.isAgg0
 z0 := Tryz.sizeOf0
 v0 := Tryz.zeroValue0
 t3 := Tryz.underlying3
 a3 := Tryz.isAgg3
 z3 := Tryz.sizeOf3
 v3 := Tryz.zeroValue3
 t4 := Tryz.underlying4
 a4 := Tryz.isAgg4
 z4 := Tryz.sizeOf4
 v4 := Tryz.zeroValue4
 t5 := Tryz.underlying5
 a5 := Tryz.isAgg5
 z5 := Tryz.sizeOf5
 v5 := Tryz.zeroValue5
 t9 := Tryz.underlying9
 a9 := Tryz.isAgg9
 z9 := Tryz.sizeOf9
 v9 := Tryz.zeroValue9
 t22 := Tryz.underlying73
 a22 := Tryz.isAgg73
 z22 := Tryz.sizeOf73
 v22 := Tryz.zeroValue73
 a24 := Tryz.isAgg22
 z24 := Tryz.sizeOf22
 t25 := Tryz.underlying140
 a25 := Tryz.isAgg140
 z25 := Tryz.sizeOf140
 v25 := Tryz.zeroValue140
 t39 := Tryz.underlying182
 a39 := Tryz.isAgg182
 z39 := Tryz.sizeOf182
 v39 := Tryz.zeroValue182
 t45 := Tryz.underlying222
 a45 := Tryz.isAgg222
 z45 := Tryz.sizeOf222
 v45 := Tryz.zeroValue222
 t46 := Tryz.underlying223
 a46 := Tryz.isAgg223
 z46 := Tryz.sizeOf223
 v46 := Tryz.zeroValue223
 t50 := Tryz.underlying175
 a50 := Tryz.isAgg175
 z50 := Tryz.sizeOf175
 v50 := Tryz.zeroValue175
 t53 := Tryz.underlying230
 a53 := Tryz.isAgg230
 z53 := Tryz.sizeOf230
 v53 := Tryz.zeroValue230
 t55 := Tryz.underlying232
 a55 := Tryz.isAgg232
 z55 := Tryz.sizeOf232
 v55 := Tryz.zeroValue232
 t66 := Tryz.underlying284
 a66 := Tryz.isAgg284
 z66 := Tryz.sizeOf284
 v66 := Tryz.zeroValue284
 t70 := Tryz.underlying288
 a70 := Tryz.isAgg288
 z70 := Tryz.sizeOf288
 v70 := Tryz.zeroValue288
 t76 := Tryz.underlying318
 a76 := Tryz.isAgg318
 z76 := Tryz.sizeOf318
 v76 := Tryz.zeroValue318
 t77 := Tryz.underlying319
 a77 := Tryz.isAgg319
 z77 := Tryz.sizeOf319
 v77 := Tryz.zeroValue319 }
end Go.Proofs
namespace Go.Proofs
open Go.Lib Go.Sort
theorem vOrdI (x y : Int) (w : World) : Calls Tryz.prog 140 #[.int .i64 x, .int .i64 y] w fun e w' => e = .returned (.int .i64 (Lg.ordI x y)) /\ w' = w := by
 go_enter Tryz.func140, Tryz.ntmps140
 by_cases h1 : x < y
 · go_wp2
   go_ret
   exact ⟨by simp [Lg.ordI, h1], rfl⟩
 · by_cases h2 : y < x
   · go_wp2
     go_ret
     exact ⟨by simp [Lg.ordI, h1, h2], rfl⟩
   · go_wp2
     go_ret
     exact ⟨by rw [Lg.ordI, if_neg (by omega), if_neg (by omega)]; rfl, rfl⟩
theorem vOrdS (x y : ByteArray) (w : World) : Calls Tryz.prog 211 #[.string x, .string y] w fun e w' => e = .returned (.int .i64 (Lg.ordS x y)) /\ w' = w := by
 have e1 : Op.bytesLess x.toList y.toList = decide (Lg.ofB x < Lg.ofB y) := by
  rw [Bool.eq_iff_iff, Lg.bytesLess_iff, ByteArray.toList_eq, ByteArray.toList_eq, decide_eq_true_eq]
 have e2 : (x.toList == y.toList) = decide (x = y) := Lg.toL_eq x y
 have e3 : (!(Op.bytesLess x.toList y.toList || x.toList == y.toList)) = decide (Lg.ofB y < Lg.ofB x) := by
  rw [e1, e2]
  by_cases h1 : Lg.ofB x < Lg.ofB y
  · have : ¬ Lg.ofB y < Lg.ofB x := fun q => List.lt_irrefl _ (List.lt_trans h1 q)
    simp [h1, this]
  · by_cases h2 : Lg.ofB y < Lg.ofB x
    · have hne : ¬ x = y := fun e => by rw [e] at h2; exact List.lt_irrefl _ h2
      simp [h1, h2, hne]
    · have he : x = y := Lg.ofB_inj' (List.le_antisymm (List.not_lt.1 h2) (List.not_lt.1 h1))
      simp [h1, h2, he]
 have e4 : Lg.ordS x y = if Op.bytesLess x.toList y.toList then -1 else if (!(Op.bytesLess x.toList y.toList || x.toList == y.toList)) then 1 else 0 := by
  rw [e3, e1]; unfold Lg.ordS; simp only [decide_eq_true_eq]
 rw [e4]
 clear e1 e2 e3 e4
 have hg : ∀ w : World, (binOp .gtr 9 (.string x) (.string y)).run Tryz.prog w = .ok (.bool (!(Op.bytesLess x.toList y.toList || x.toList == y.toList))) w := fun w => by simp [binOp, Op.stringOp]
 go_enter Tryz.func211, Tryz.ntmps211
 by_cases h1 : Op.bytesLess x.toList y.toList = true
 · go_wp2
   go_ret
   exact ⟨by simp [h1], rfl⟩
 · have h1 : Op.bytesLess x.toList y.toList = false := by simpa using h1
   generalize hq : (!(Op.bytesLess x.toList y.toList || x.toList == y.toList)) = q at hg ⊢
   cases q
   · go_wp2
     go_ret
     exact ⟨by simp [h1], rfl⟩
   · go_wp2
     go_ret
     exact ⟨by simp [h1], rfl⟩
theorem vCmp (a b : Lg.GValue) (w : World) : Calls Tryz.prog 139 #[Lg.kvV a, Lg.kvV b] w fun e w' => e = .returned (.int .i64 (Lg.cmpV a b)) /\ ∃ q os, w' = grow (w.drewN q) os := by
 obtain ⟨ak, an, at'⟩ := a
 obtain ⟨bk, bn, bt⟩ := b
 have hA := vOrdI ak bk
 have hB := vOrdI an bn
 have hC := vOrdS at' bt
 have hV : Lg.cmpV ⟨ak, an, at'⟩ ⟨bk, bn, bt⟩ = if Lg.ordI ak bk ≠ 0 then Lg.ordI ak bk else if Lg.ordI an bn ≠ 0 then Lg.ordI an bn else Lg.ordS at' bt := rfl
 rw [hV]
 generalize Lg.ordI ak bk = x at hA ⊢
 generalize Lg.ordI an bn = y at hB ⊢
 generalize Lg.ordS at' bt = z at hC ⊢
 have hend : ((w.alloc (Obj.cells #[Value.int IntKind.i64 ak, Value.int IntKind.i64 an, Value.string at'] 87)).alloc (Obj.cells #[Value.int IntKind.i64 bk, Value.int IntKind.i64 bn, Value.string bt] 87)) = grow (w.drewN 0) #[Obj.cells #[Value.int IntKind.i64 ak, Value.int IntKind.i64 an, Value.string at'] 87, Obj.cells #[Value.int IntKind.i64 bk, Value.int IntKind.i64 bn, Value.string bt] 87] := by
  show ({ w with heap := (w.heap.push _).push _ } : World) = { w with heap := w.heap ++ _ }
  congr 1
 have x0 : (grow (w.drewN 0) #[Obj.cells #[Value.int IntKind.i64 ak, Value.int IntKind.i64 an, Value.string at'] 87, Obj.cells #[Value.int IntKind.i64 bk, Value.int IntKind.i64 bn, Value.string bt] 87]).cell? ⟨w.heap.size, 0, none⟩ = some (.int .i64 ak) := by simp [Sort.grow, World.cell?, World.drewN]
 have x1 : (grow (w.drewN 0) #[Obj.cells #[Value.int IntKind.i64 ak, Value.int IntKind.i64 an, Value.string at'] 87, Obj.cells #[Value.int IntKind.i64 bk, Value.int IntKind.i64 bn, Value.string bt] 87]).cell? ⟨w.heap.size, 1, none⟩ = some (.int .i64 an) := by simp [Sort.grow, World.cell?, World.drewN]
 have x2 : (grow (w.drewN 0) #[Obj.cells #[Value.int IntKind.i64 ak, Value.int IntKind.i64 an, Value.string at'] 87, Obj.cells #[Value.int IntKind.i64 bk, Value.int IntKind.i64 bn, Value.string bt] 87]).cell? ⟨w.heap.size, 2, none⟩ = some (.string at') := by simp [Sort.grow, World.cell?, World.drewN]
 have y0 : (grow (w.drewN 0) #[Obj.cells #[Value.int IntKind.i64 ak, Value.int IntKind.i64 an, Value.string at'] 87, Obj.cells #[Value.int IntKind.i64 bk, Value.int IntKind.i64 bn, Value.string bt] 87]).cell? ⟨w.heap.size + 1, 0, none⟩ = some (.int .i64 bk) := by simp [Sort.grow, World.cell?, World.drewN]
 have y1 : (grow (w.drewN 0) #[Obj.cells #[Value.int IntKind.i64 ak, Value.int IntKind.i64 an, Value.string at'] 87, Obj.cells #[Value.int IntKind.i64 bk, Value.int IntKind.i64 bn, Value.string bt] 87]).cell? ⟨w.heap.size + 1, 1, none⟩ = some (.int .i64 bn) := by simp [Sort.grow, World.cell?, World.drewN]
 have y2 : (grow (w.drewN 0) #[Obj.cells #[Value.int IntKind.i64 ak, Value.int IntKind.i64 an, Value.string at'] 87, Obj.cells #[Value.int IntKind.i64 bk, Value.int IntKind.i64 bn, Value.string bt] 87]).cell? ⟨w.heap.size + 1, 2, none⟩ = some (.string bt) := by simp [Sort.grow, World.cell?, World.drewN]
 have hfin : ∃ q os, grow (w.drewN 0) #[Obj.cells #[Value.int IntKind.i64 ak, Value.int IntKind.i64 an, Value.string at'] 87, Obj.cells #[Value.int IntKind.i64 bk, Value.int IntKind.i64 bn, Value.string bt] 87] = grow (w.drewN q) os := ⟨0, _, rfl⟩
 generalize grow (w.drewN 0) #[Obj.cells #[Value.int IntKind.i64 ak, Value.int IntKind.i64 an, Value.string at'] 87, Obj.cells #[Value.int IntKind.i64 bk, Value.int IntKind.i64 bn, Value.string bt] 87] = W at hend x0 x1 x2 y0 y1 y2 hfin
 clear hV
 show Calls Tryz.prog 139 #[.agg #[.int .i64 ak, .int .i64 an, .string at'], .agg #[.int .i64 bk, .int .i64 bn, .string bt]] w _
 go_enter Tryz.func139, Tryz.ntmps139
 by_cases h1 : x = 0
 · subst h1
   by_cases h2 : y = 0
   · subst h2
     go_wp2_with (first | (go_at_call 140; with_reducible refine (hA _).mono ?_; rintro e w' ⟨rfl, hw⟩; rw [hw]) | (go_at_call 140; with_reducible refine (hB _).mono ?_; rintro e w' ⟨rfl, hw⟩; rw [hw]) | (go_at_call 211; with_reducible refine (hC _).mono ?_; rintro e w' ⟨rfl, hw⟩; rw [hw]))
     go_ret
     exact ⟨by simp, hfin⟩
   · go_wp2_with (first | (go_at_call 140; with_reducible refine (hA _).mono ?_; rintro e w' ⟨rfl, hw⟩; rw [hw]) | (go_at_call 140; with_reducible refine (hB _).mono ?_; rintro e w' ⟨rfl, hw⟩; rw [hw]))
     go_ret
     exact ⟨by simp [h2], hfin⟩
 · go_wp2_with (first | (go_at_call 140; with_reducible refine (hA _).mono ?_; rintro e w' ⟨rfl, hw⟩; rw [hw]))
   go_ret
   exact ⟨by simp [h1], hfin⟩
theorem cmpR_drop {a b : List Lg.GValue} {i : Nat} (ha : i < a.length) (hb : i < b.length) : Lg.cmpR (a.drop i) (b.drop i) = if Lg.cmpV (Lg.nth a i) (Lg.nth b i) ≠ 0 then Lg.cmpV (Lg.nth a i) (Lg.nth b i) else Lg.cmpR (a.drop (i + 1)) (b.drop (i + 1)) := by
 rw [List.drop_eq_getElem_cons ha, List.drop_eq_getElem_cons hb, Lg.nth_get ha, Lg.nth_get hb]; rfl
theorem o6 {a b : List Lg.GValue} {i : Nat} (h : i = a.length \/ i = b.length) (ha : i <= a.length) (hb : i <= b.length) : Lg.cmpR (a.drop i) (b.drop i) = Lg.ordI a.length b.length := by
 by_cases h1 : i = a.length
 · by_cases h2 : i = b.length
   · rw [List.drop_of_length_le (by omega), List.drop_of_length_le (by omega), show a.length = b.length by omega]
     simp [Lg.cmpR, Lg.ordI]
   · rw [List.drop_of_length_le (by omega), List.drop_eq_getElem_cons (by omega)]
     simp [Lg.cmpR, Lg.ordI]; omega
 · have h2 : i = b.length := by omega
   rw [List.drop_of_length_le (l := b) (by omega), List.drop_eq_getElem_cons (by omega)]
   simp only [Lg.cmpR, Lg.ordI]
   rw [if_neg (by omega), if_pos (by omega)]
theorem grow_of (w : World) (q n : Nat) (os os' : Array Obj) : grow ((grow (w.drewN q) os).drewN n) os' = grow (w.drewN (q + n)) (os ++ os') := by
 show grow (grow ((w.drewN q).drewN n) os) os' = _; rw [grow_grow, World.drewN_drewN]
def VCells (w : World) (b o : Nat) (v : Lg.GValue) : Prop := w.cell? ⟨b, o, none⟩ = some (.int .i64 v.Kind) /\ w.cell? ⟨b, o + 1, none⟩ = some (.int .i64 v.N) /\ w.cell? ⟨b, o + 2, none⟩ = some (.string v.Text)
theorem vRow (xs ys : List Lg.GValue) (a a' : Option Addr) (c c' : Nat) (w : World) (hbx : xs.length <= 1000000) (hby : ys.length <= 1000000)
  (hx : ∀ i, i < xs.length -> ∃ b o, a = some ⟨b, o, none⟩ /\ ∀ n os, VCells (grow (w.drewN n) os) b (o + i * 3) (Lg.nth xs i))
  (hy : ∀ i, i < ys.length -> ∃ b o, a' = some ⟨b, o, none⟩ /\ ∀ n os, VCells (grow (w.drewN n) os) b (o + i * 3) (Lg.nth ys i)) :
  Calls Tryz.prog 86 #[.slice a xs.length c, .slice a' ys.length c'] w fun e w' => e = .returned (.int .i64 (Lg.cmpR xs ys)) /\ ∃ q os, w' = grow (w.drewN q) os := by
 have mixed : Tryz.prog.follows .mixedOrders = true := by kernel_rfl
 generalize hn : xs.length = n
 generalize hm : ys.length = m
 rw [hn] at hx hbx
 rw [hm] at hy hby
 have hlen := vOrdI n m
 have hz : ∀ {i : Nat}, i = n \/ i = m -> i <= n -> i <= m -> Lg.cmpR (xs.drop i) (ys.drop i) = Lg.ordI n m := fun h1 h2 h3 => by have := o6 (a := xs) (b := ys) (by rw [hn, hm]; exact h1) (by omega) (by omega); rw [hn, hm] at this; exact this
 all_goals
  go_enter Tryz.func86, Tryz.ntmps86
  go_wp2
  go_loopg [5, 6, 12, 13, 14] (n + m) (fun gg _ _ s12 _ _ wr => ∃ (kk q : Nat) (os : Array Obj), kk <= n /\ kk <= m /\ n + m - kk <= gg /\ s12 = .int .i64 kk /\ wr = grow (w.drewN q) os /\ Aside (Lg.cmpR xs ys = Lg.cmpR (xs.drop kk) (ys.drop kk)))
  case atStart => exact ⟨0, 0, #[], Nat.zero_le _, Nat.zero_le _, by omega, rfl, by rw [grow_empty]; rfl, rfl⟩
  case round =>
   obtain ⟨kk, q, os, hk1, hk2, hg, rfl, rfl, A⟩ := hrel
   by_cases h1 : kk < n /\ kk < m
   · obtain ⟨h1, h2⟩ := h1
     obtain ⟨b, o, ea, gx⟩ := hx kk h1
     obtain ⟨b', o', ea', gy⟩ := hy kk h2
     have hd : Lg.cmpR (xs.drop kk) (ys.drop kk) = _ := cmpR_drop (a := xs) (b := ys) (i := kk) (by omega) (by omega)
     clear hx hy
     subst ea; subst ea'
     have gx : ∀ n' os', VCells (grow ((grow (w.drewN q) os).drewN n') os') b (o + kk * 3) (Lg.nth xs kk) := fun n' os' => by rw [grow_of]; exact gx _ _
     have gy : ∀ n' os', VCells (grow ((grow (w.drewN q) os).drewN n') os') b' (o' + kk * 3) (Lg.nth ys kk) := fun n' os' => by rw [grow_of]; exact gy _ _
     generalize Lg.nth xs kk = x at gx hd
     generalize Lg.nth ys kk = y at gy hd
     have hc := vCmp x y
     obtain ⟨xk, xn, xt⟩ := x
     obtain ⟨yk, yn, yt⟩ := y
     have gx0 := fun n' os' => (gx n' os').1
     have gx1 := fun n' os' => (gx n' os').2.1
     have gx2 := fun n' os' => (gx n' os').2.2
     have gy0 := fun n' os' => (gy n' os').1
     have gy1 := fun n' os' => (gy n' os').2.1
     have gy2 := fun n' os' => (gy n' os').2.2
     clear gx gy
     simp only at gx0 gx1 gx2 gy0 gy1 gy2
     generalize hz0 : Lg.cmpV ⟨xk, xn, xt⟩ ⟨yk, yn, yt⟩ = z at hc hd
     have hc : ∀ W, Calls Tryz.prog 139 #[.agg #[.int .i64 xk, .int .i64 xn, .string xt], .agg #[.int .i64 yk, .int .i64 yn, .string yt]] W fun e w' => e = .returned (.int .i64 z) /\ ∃ q os, w' = grow (W.drewN q) os := hc
     clear hz0
     generalize hwr : grow (w.drewN q) os = wr at gx0 gx1 gx2 gy0 gy1 gy2 ⊢
     go_wp2_with fail
     go_quiet_grown (first | (go_at_call 139; refine Calls.grown_of (hc _)))
     subst hwr
     rw [grow_of]
     clear gx0 gx1 gx2 gy0 gy1 gy2 hc hlen hz
     by_cases h0 : z = 0
     · rw [if_neg (by simpa using h0)] at hd
       subst h0
       go_wp2_with fail
       go_roundg (n + m - (kk + 1))
       case measure => omega
       case rel => exact ⟨kk + 1, _, _, by omega, by omega, by omega, by go_num, rfl, (show Aside _ from A.out.trans hd)⟩
     · rw [if_pos h0] at hd
       go_wp2_with fail
       go_ret
       exact ⟨by rw [A.out, hd]; rfl, _, _, rfl⟩
   · have hr := A.out.trans (hz (by omega) hk1 hk2)
     clear hx hy hz
     generalize Lg.ordI n m = z at hlen hr
     go_wp2_with (go_at_call 140; with_reducible refine (hlen _).mono ?_; rintro e w' ⟨rfl, hw⟩; rw [hw])
     go_ret
     exact ⟨by rw [hr]; rfl, _, _, rfl⟩
theorem inw_grow {h : Lg.PH} {W : World} (hw : h.inw W) (n : Nat) (os : Array Obj) : h.inw (grow (W.drewN n) os) := fun b o e => by
 have h1 := hw b o e
 have hlt := (Array.getElem?_eq_some_iff.1 h1).1
 show (W.heap ++ os)[b]? = some o
 rw [Array.getElem?_append_left hlt]; exact h1
theorem cmpR_calls (x y : List Lg.GValue) (hbx : x.length <= 1000000) (hby : y.length <= 1000000) (u u' : Value) (h : Lg.PH) (W : World) (hw : h.inw W) (hu : ((Lg.rSl Lg.rValue).ty x).p h u) (hu' : ((Lg.rSl Lg.rValue).ty y).p h u') :
  Calls Tryz.prog 86 #[u, u'] W fun e' w' => e' = .returned (.int .i64 (Lg.cmpR x y)) /\ ∃ q os, w' = Sort.grow (W.drewN q) os := by
 have key : ∀ (l : List Lg.GValue) (ao : Option Addr), (l ≠ [] -> ∃ b off, ao = some ⟨b, off, none⟩ /\ ∀ (i : Nat) x, l[i]? = some x -> ∃ cs, Lg.Holds h b (off + i * Lg.rValue.k) cs /\ Lg.rValue.rel h x cs) -> ∀ i, i < l.length -> ∃ b o, ao = some ⟨b, o, none⟩ /\ ∀ n os, VCells (grow (W.drewN n) os) b (o + i * 3) (Lg.nth l i) := by
  intro l ao H i hi
  obtain ⟨b, off, rfl, H'⟩ := H (fun e => by rw [e] at hi; exact absurd hi (Nat.not_lt_zero _))
  obtain ⟨cs, Hc, r⟩ := H' i _ (Lg.gb hi)
  have r := Lg.val_cells r
  subst r
  refine ⟨b, off, rfl, fun n os => ?_⟩
  have hg := inw_grow hw n os
  exact ⟨Hc.cell hg (i := 0) rfl, Hc.cell hg (i := 1) rfl, Hc.cell hg (i := 2) rfl⟩
 obtain ⟨ao, cap, rfl, H⟩ := hu
 obtain ⟨ao', cap', rfl, H'⟩ := hu'
 exact vRow x y ao ao' cap cap' W hbx hby (key x ao H) (key y ao' H')
end Go.Proofs
namespace Lg
open Go Go.Proofs Go.Proofs.Tryz
theorem oJ (v : Value) (xs : List (List GValue)) (hx : ∀ e ∈ xs, e.length <= 1000000) (hn : xs.length <= 1000000000) : Spec (X := { ys : List (List GValue) // ys.Perm xs /\ ys.Pairwise fun a b => ¬ cmpR b a < 0 }) Tryz.prog 137 [rV.ty v, tV (.func (.func 86) #[] #[])] [own 22 (rSl rValue) v xs] (fun _ => fA []) (fun ys => [own 22 (rSl rValue) v ys.1]) := by
 have h := oI (ρ := Tryz.sortVK_ren) Tryz.sortVK (R := rSl rValue) rfl cmpR sP.swo (gf := 86) (e := 22) Tryz.call86 (fun x => x.length <= 1000000) (fun x y hx hy u u' h W hw hu hu' => cmpR_calls x y hx hy u u' h W hw hu hu') v xs hx (by omega)
 intro vs h0 m r w ha sp st
 refine (h vs h0 m r w ha sp st).mono ?_
 rintro e w' ⟨⟨ys, hp, hs⟩, u, h', m', rfl, l, s, st', hu⟩
 exact ⟨⟨ys, hp, hs.imp fun {a b} q => by simpa [Go.Proofs.ltOf] using q⟩, u, h', m', rfl, l, s, st', hu⟩
abbrev LV : Type := List GValue
def AK : LV -> List Ty := fun y => [tSl rValue y]
def iu (l : List LV) (i : Nat) : Bool := decide (i = 0) || !decide (nth l i = nth l (i - 1))
def compI (l : List LV) (n : Nat) : List LV := ((List.range n).filter (iu l)).map (nth l)
theorem gE {l : List LV} {n : Nat} : compI l (n + 1) = if iu l n = true then compI l n ++ [nth l n] else compI l n := by
  unfold compI
  rw [List.range_succ, List.filter_append]
  split <;> simp [*]
theorem oK (l : List LV) (n : Nat) : (compI l n).length <= n := by
  unfold compI
  rw [List.length_map]
  exact Nat.le_trans (List.length_filter_le _ _) (by simp)
theorem oL {l : List LV} {n : Nat} (hn : n <= l.length) (h : ∀ j, j < n -> 1 <= j -> ¬ nth l j = nth l (j - 1)) : compI l n = l.take n := by
  induction n with
  | zero => simp [compI]
  | succ n ih =>
    have hk : iu l n = true := by
      unfold iu
      by_cases h0 : n = 0
      · simp [h0]
      · simp [h n (by omega) (by omega)]
    rw [gE, if_pos hk, ih (by omega) (fun j hj => h j (by omega)), dM (by omega)]
def eI (l : List LV) (j : Nat) : List LV := compI l j ++ l.drop (compI l j).length
theorem wv {l : List LV} {j : Nat} (h : j <= l.length) : (eI l j).length = l.length := by
  have := oK l j
  unfold eI
  rw [List.length_append, List.length_drop]; omega
theorem qr {l : List LV} {j i : Nat} (h : (compI l j).length <= i) (hi : i < l.length) : nth (eI l j) i = nth l i := by
  have h1 : i < (eI l j).length := by unfold eI; rw [List.length_append, List.length_drop]; omega
  rw [nth_get h1, nth_get hi]
  have h2 : i < (compI l j ++ l.drop (compI l j).length).length := h1
  show (compI l j ++ l.drop (compI l j).length)[i]'h2 = _
  rw [List.getElem_append_right h]
  simp only [List.getElem_drop]
  congr 1; omega
theorem wx {l : List LV} {j : Nat} (hj : j < l.length) (hk : iu l j = true) : (eI l j).set (compI l j).length (nth l j) = eI l (j + 1) := by
  have hc := oK l j
  unfold eI
  rw [gE, if_pos hk, List.set_append_right _ _ (Nat.le_refl _), Nat.sub_self]
  have hd : l.drop (compI l j).length = nth l (compI l j).length :: l.drop ((compI l j).length + 1) := by rw [nth_get (by omega)]; exact List.drop_eq_getElem_cons (by omega)
  rw [hd]
  simp
theorem t7 {l : List LV} {j : Nat} (hk : iu l j = false) : eI l j = eI l (j + 1) := by
  unfold eI
  rw [gE, if_neg (by rw [hk]; simp)]
theorem kF {l : List LV} {j : Nat} (hk : iu l j = false) : compI l (j + 1) = compI l j := by
  rw [gE, if_neg (by rw [hk]; simp)]
theorem rQ {l : List LV} {k : Nat} (hk : k < l.length) (h1 : 1 <= k) (hv : ∀ j, j < k -> 1 <= j -> ¬ nth l j = nth l (j - 1)) (he : nth l k = nth l (k - 1)) : eI l (k + 1) = l /\ (compI l (k + 1)).length = k := by
  have hb : iu l k = false := by unfold iu; simp [he]; omega
  have h2 : compI l k = l.take k := oL (by omega) hv
  have h3 : compI l (k + 1) = l.take k := by rw [kF hb, h2]
  refine ⟨?_, by rw [h3, List.length_take]; omega⟩
  unfold eI
  rw [h3, List.length_take, Nat.min_eq_left (by omega), List.take_append_drop]
def jZ (l : List LV) : List LV := compI l l.length
theorem gX (v : Value) (xs : List LV) (hn : xs.length <= 1000000000) (gf : Nat) (hp : ∀ x y, x ∈ xs -> y ∈ xs -> Fun1 prog gf ([tSl rValue x, tSl rValue y] ++ []) (tV (.bool (decide (x = y))))) (he : ∀ args w, (callFunc gf args).run prog w = .ok (.enter gf args) w) : Spec (X := Value) prog 87 [rV.ty v, tV (.func (.func gf) #[] #[])] ([own 22 (rSl rValue) v xs]) (fun z => rV.ty z) (fun z => [own 22 (rSl rValue) z (jZ xs)]) := by
 refine Spec.enter func87 rfl rfl fun h0 w0 fr0 => ?_
 refine Jr (Za (ae (ar (Jr (Zm ?_)))))
 refine Zs (cj underlying73 Sr zS) ?_
 refine Zs (aA Sr Sr) (ae ?_)
 refine au Sr (fun h10 => ?_) (fun h10 => ?_)
 ·
  try simp only [NF] at h10
  refine Jr (Zm (Za (ae (aF ?_))))
  refine bZ (L' := [own 22 (rSl rValue) v (jZ xs)]) (.c zS (SPs.of (A := own 22 (rSl rValue) v xs) (by unfold jZ; rw [oL (Nat.le_refl _) (fun j hj h1 => by omega), List.take_length])) (LSub.nil)) ?_
  refine cW (rv := .tmp 4) rfl v (.tmp Sr) Sr
 try simp only [NF] at h10
 refine ay (ar (Jr (Za (ae (av ?_)))))
 refine aO (σ := Nat) (fun k => 1 <= k /\ k <= xs.length /\ ∀ j, j < k -> 1 <= j -> ¬ nth xs j = nth xs (j - 1)) (fun k => upd (upd (upd cg 0 (rV.ty v)) 1 (tV (.func (.func gf) #[] #[]))) 5 (tV (.int .i64 k))) (fun k => [own 22 (rSl rValue) v xs]) (fun k => xs.length - k) 1 ⟨Nat.le_refl _, by omega, fun j hj h1 => by omega⟩ (zU) (LSub.rfl) ?_
 rintro k ⟨hk1, hk2, hv⟩
 refine ar (Jr (Zm (Zm ?_)))
 refine Zs (cj underlying73 Sr zS) ?_
 refine Zs (aA Sr Sr) (ae ?_)
 refine au Sr (fun h15 => ?_) (fun h15 => ?_)
 ·
  try simp only [NF] at h15
  have hlt : k < xs.length := by omega
  refine ay (ar (av (ar ?_)))
  refine uA [⟨0, [1], true⟩, ⟨1, [0], true⟩, ⟨2, [5], true⟩, ⟨5, [0], true⟩, ⟨6, [5], true⟩, ⟨7, [24], true⟩, ⟨3, [19, 20], true⟩, ⟨4, [21], true⟩, ⟨8, [23, 25], true⟩, ⟨9, [26], true⟩, ⟨10, [18, 22, 27], true⟩] rfl (by kernel_rfl) rfl ?_
  refine cS rfl rfl rfl rfl (al Sr) ?_
  refine cS rfl rfl rfl rfl (al Sr) ?_
  refine cS rfl rfl rfl rfl (al Sr) ?_
  refine cS rfl rfl rfl rfl (al Sr) ?_
  refine cS rfl rfl rfl rfl (al Sr) ?_
  refine cS rfl rfl rfl rfl (dN Sr Sr z6) ?_
  refine cS rfl rfl rfl rfl (bd (i := k) underlying73 fh Sr zS Sr (by rfl) (by exact hlt)) ?_
  refine cS rfl rfl rfl rfl (dc fh Sr zS (gb (by exact hlt))) ?_
  refine cS rfl rfl rfl rfl (bd (i := (k - 1)) underlying73 fh Sr zS Sr zG zG) ?_
  refine cS rfl rfl rfl rfl (dc fh Sr zS (gb zG)) ?_
  refine cS rfl rfl rfl rfl (bH (aT := [_, _]) (As := []) D2 (hp (nth xs k) (nth xs (k - 1)) (aH hlt) (aH zG)) ⟨Sr, Sr, trivial⟩ he) ?_
  refine yC ?_
  refine au Sr (fun h28 => ?_) (fun h28 => ?_)
  ·
   try simp only [NF] at h28
   have heq : nth xs k = nth xs (k - 1) := by simpa using h28
   obtain ⟨hs1, hs2⟩ := rQ hlt hk1 hv heq
   have hk := hlt
   refine Jr (Zm (Zm ?_))
   refine Zs (qd underlying73 fh Sr Sr rfl zS hlt) ?_
   refine Za (ae (ar (Jr (Za (ae ?_)))))
   refine av ?_
   refine aO (σ := Nat) (fun j => 1 <= j /\ k + j <= xs.length /\ (compI xs (k + j)).length + 1 <= k + j) (fun j => upd (upd (upd (upd (upd cg 0 (rV.ty v)) 1 (tV (.func (.func gf) #[] #[]))) 5 (tV (.int .i64 (compI xs (k + j)).length))) 6 (tV (gR v (rSl rValue).k k))) 7 (tV (.int .i64 j))) (fun j => [own 22 (rSl rValue) v (eI xs (k + j))]) (fun j => xs.length - j) 1 ⟨Nat.le_refl _, by omega, by omega⟩ (.u (.u (SubE.upd (Sub.int (by rw [hs2])) (zU)))) (.c zS (SPs.of (A := own 22 (rSl rValue) v xs) (by rw [hs1])) (LSub.nil)) ?_
   rintro j ⟨hj1, hj2, hC⟩
   have hAl := wv hj2
   refine ar (Jr (Zm (Zm ?_)))
   refine Zs (oD (e := 22) (R := rSl rValue) underlying73 Sr zS (by rw [hAl]; exact hk)) ?_
   refine Zs (aA Sr Sr) (ae ?_)
   refine au Sr (fun h35 => ?_) (fun h35 => ?_)
   ·
    try simp only [NF] at h35
    have hjn : k + j < xs.length := by rw [hAl] at h35; omega
    have hn1 : nth (eI xs (k + j)) (k + j) = nth xs (k + j) := qr zG hjn
    have hn2 : nth (eI xs (k + j)) (k + (j - 1)) = nth xs (k + j - 1) := by rw [qr zG zG]; congr 1; omega
    have hm1 : nth (eI xs (k + j)) (k + j) ∈ xs := by rw [hn1]; exact aH hjn
    have hm2 : nth (eI xs (k + j)) (k + (j - 1)) ∈ xs := by rw [hn2]; exact aH zG
    refine ay (ar (av (ar ?_)))
    refine uA [⟨0, [1], true⟩, ⟨1, [6], true⟩, ⟨2, [7], true⟩, ⟨5, [6], true⟩, ⟨6, [7], true⟩, ⟨7, [44], true⟩, ⟨3, [39, 40], true⟩, ⟨4, [41], true⟩, ⟨8, [43, 45], true⟩, ⟨9, [46], true⟩, ⟨10, [38, 42, 47], true⟩, ⟨11, [48], true⟩] rfl (by kernel_rfl) rfl ?_
    refine cS rfl rfl rfl rfl (al Sr) ?_
    refine cS rfl rfl rfl rfl (al Sr) ?_
    refine cS rfl rfl rfl rfl (al Sr) ?_
    refine cS rfl rfl rfl rfl (al Sr) ?_
    refine cS rfl rfl rfl rfl (al Sr) ?_
    refine cS rfl rfl rfl rfl (dN Sr Sr z6) ?_
    refine cS rfl rfl rfl rfl (gm (R := rSl rValue) (i := j) underlying73 fh Sr zS Sr rfl (by rw [hAl]; omega)) ?_
    refine cS rfl rfl rfl rfl (dc fh Sr zS (gb (by rw [hAl]; omega))) ?_
    refine cS rfl rfl rfl rfl (gm (R := rSl rValue) (i := j - 1) underlying73 fh Sr zS Sr zG (by rw [hAl]; omega)) ?_
    refine cS rfl rfl rfl rfl (dc fh Sr zS (gb (by rw [hAl]; omega))) ?_
    refine cS rfl rfl rfl rfl (bH (aT := [_, _]) (As := []) D2 (hp (nth (eI xs (k + j)) (k + j)) (nth (eI xs (k + j)) (k + (j - 1))) (hm1) (hm2)) ⟨Sr, Sr, trivial⟩ he) ?_
    refine cS rfl rfl rfl rfl (bf Sr) ?_
    refine yC ?_
    refine au Sr (fun h49 => ?_) (fun h49 => ?_)
    ·
     try simp only [NF] at h49
     have hkb : iu xs (k + j) = true := by unfold iu; rw [<- hn1, <- hn2]; simp; right; simpa using h49
     refine Jr (Zm (Zm (Zm (Zm ?_))))
     refine Zs (gm (R := rSl rValue) (i := j) underlying73 fh Sr zS Sr rfl (by rw [hAl]; omega)) ?_
     refine Zs (dc fh Sr zS (gb (by rw [hAl]; omega))) ?_
     refine Zs (bd (i := (compI xs (k + j)).length) underlying73 fh Sr zS Sr (by rfl) (by rw [hAl]; omega)) ?_
     refine Ju (dK fh Sr Sr zS (by rw [hAl]; omega)) fun _ => ?_
     refine ae (aq (Zm (Zs (aB Sr Sr z6) (Za (ae ?_)))))
     refine aq (Zm (Zs (aB Sr Sr z6) (Za (ae ?_))))
     refine aE (σ := Nat) (s := j) (j + 1) zG ⟨by omega, by omega, by show (compI xs (k + j + 1)).length + 1 <= _; rw [gE, if_pos hkb, List.length_append]; simp; omega⟩ (.u (.u (SubE.upd (Sub.int (by show _ = (((compI xs (k + j + 1)).length : Nat) : Int); rw [gE, if_pos hkb, List.length_append]; simp)) (zU)))) (.c zS (SPs.of (A := own 22 (rSl rValue) v ((eI xs (k + j)).set (compI xs (k + j)).length (nth (eI xs (k + j)) (k + j)))) (by rw [hn1, wx hjn hkb]; rfl)) (LSub.nil))
    try simp only [NF] at h49
    have hkb : iu xs (k + j) = false := by unfold iu; rw [<- hn1, <- hn2]; simp; exact ⟨by omega, by simpa using h49⟩
    refine ay (aq (Zm (Zs (aB Sr Sr z6) (Za (ae ?_)))))
    refine aE (σ := Nat) (s := j) (j + 1) zG ⟨by omega, by omega, by show (compI xs (k + j + 1)).length + 1 <= _; rw [kF hkb]; omega⟩ (.u (.u (SubE.upd (Sub.int (by show _ = (((compI xs (k + j + 1)).length : Nat) : Int); rw [kF hkb])) (zU)))) (.c zS (SPs.of (A := own 22 (rSl rValue) v (eI xs (k + j))) (by rw [t7 hkb]; rfl)) (LSub.nil))
   try simp only [NF] at h35
   have hje : k + j = xs.length := by rw [hAl] at h35; omega
   rw [hje] at hC hAl
   refine aY (ar ?_)
   refine bZ (L' := [own 22 (rSl rValue) v (eI xs xs.length)]) (.c zS (SPs.of (A := own 22 (rSl rValue) v (eI xs (k + j))) (by rw [hje])) (LSub.nil)) ?_
   refine aq (Zm (Zm ?_))
   refine Zs (qd (k := (compI xs xs.length).length) underlying73 fh Sr Sr (by rw [hje]) zS (by rw [hAl]; omega)) ?_
   refine Ju (mq (R := rSl rValue) (zv := Value.slice none 0 0) (z := []) underlying73 (fun w => zeroValue22 w) rfl rfl rfl (fun h => ⟨_, rfl, none, ⟨0, Nat.le_refl _⟩, rfl, fun q => absurd rfl q⟩) Sr zS (by rw [hAl]; omega)) fun _ => ?_
   refine ae (Jr (Zm (Zm ?_)))
   refine Zx (iU (n := (compI xs xs.length).length) underlying73 fh Sr Sr (by first | rfl | (rw [hje])) zS (by simp only [List.length_append, List.length_take, List.length_replicate]; rw [hAl]; omega)) fun v64 => ?_
   refine Za (ae (aF ?_))
   refine bZ (L' := [own 22 (rSl rValue) v64 (jZ xs)]) (.c zS (SPs.of (A := own 22 (rSl rValue) v64 (((eI xs xs.length).take (compI xs xs.length).length ++ List.replicate ((eI xs xs.length).length - (compI xs xs.length).length) []).take (compI xs xs.length).length)) (by rw [List.take_left' (by rw [List.length_take, hAl]; omega)]; unfold eI jZ; rw [List.take_left' rfl])) (LSub.nil)) ?_
   refine cW (rv := .tmp 4) rfl v64 (.tmp Sr) Sr
  try simp only [NF] at h28
  have hne : ¬ nth xs k = nth xs (k - 1) := by simpa using h28
  refine ay (aq (Zm (Zs (aB Sr Sr z6) (Za (ae ?_)))))
  refine aE (σ := Nat) (s := k) (k + 1) zO ⟨by omega, by omega, fun j hj h1 => by by_cases e : j = k; rw [e]; exact hne; exact hv j zG h1⟩ (zU) (LSub.rfl)
 try simp only [NF] at h15
 have hall := oL (l := xs) (n := xs.length) (Nat.le_refl _) (fun j hj h1 => hv j zG h1)
 refine aY (Jr (Zm (Za (ae (aF ?_)))))
 refine bZ (L' := [own 22 (rSl rValue) v (jZ xs)]) (.c zS (SPs.of (A := own 22 (rSl rValue) v xs) (by unfold jZ; rw [hall, List.take_length])) (LSub.nil)) ?_
 refine cW (rv := .tmp 4) rfl v (.tmp Sr) Sr
theorem gY (x y : LV) (hx : x.length <= 1000000) (hy : y.length <= 1000000) : Fun1 prog 86 [tSl rValue x, tSl rValue y] (tV (.int .i64 (cmpR x y))) := by
  intro vs h m r w ha sp st
  match vs, ha with
  | [u, u'], ⟨a1, a2, _⟩ =>
  refine (cmpR_calls x y hx hy u u' h w sp.hw a1 a2).mono ?_
  rintro e w' ⟨rfl, q, os, rfl⟩
  exact ⟨(), _, h, m, rfl, HL.same ⟨rfl, rfl, rfl⟩, ⟨sp.inv, sp.hm, sp.hr, sp.mr, inw_grow sp.hw q os, inw_grow sp.mw q os, inw_grow sp.rw q os⟩, st, rfl⟩
def leR (a b : LV) : Bool := decide (cmpR a b <= 0)
def mF (l : List LV) : List LV := l.mergeSort leR
theorem wy (a b : LV) : (leR a b || leR b a) = true := by
  unfold leR
  have := sP.anti (a := a) (b := b)
  have := sP.anti (a := b) (b := a)
  simp only [Bool.or_eq_true, decide_eq_true_eq]; omega
theorem wz (a b c : LV) (h1 : leR a b = true) (h2 : leR b c = true) : leR a c = true := by
  unfold leR at *
  simp only [decide_eq_true_eq] at *
  have e1 := sP.eq (a := a) (b := b)
  have e2 := sP.eq (a := b) (b := c)
  by_cases h3 : cmpR a b = 0
  · rw [e1.1 h3]; exact h2
  · by_cases h4 : cmpR b c = 0
    · rw [<- e2.1 h4]; exact h1
    · have := sP.tr (a := a) (b := b) (d := c) (by omega) (by omega)
      omega
theorem sQ {a b : LV} (h1 : leR a b = true) (h2 : leR b a = true) : a = b := by
  unfold leR at *
  simp only [decide_eq_true_eq] at *
  have := sP.anti (a := a) (b := b)
  exact sP.eq.1 (by omega)
theorem ei (l : List LV) : (mF l).Perm l := List.mergeSort_perm _ _
theorem lc (l : List LV) : (mF l).Pairwise fun a b => leR a b = true := List.pairwise_mergeSort wz wy l
theorem mG (l : List LV) : (mF l).length = l.length := (ei l).length_eq
theorem oM {xs ys : List LV} (hp : ys.Perm xs) (hs : ys.Pairwise fun a b => ¬ cmpR b a < 0) : ys = mF xs :=
  (hp.trans (ei xs).symm).eq_of_pairwise (le := fun a b => leR a b = true) (fun a b _ _ h1 h2 => sQ h1 h2) (hs.imp fun {a b} h => by
    unfold leR
    have := sP.anti (a := b) (b := a)
    simp only [decide_eq_true_eq]; omega) (lc xs)
def setR (l : List LV) : List LV := jZ (mF l)
theorem oN (l : List LV) : (setR l).length <= l.length := Nat.le_trans (oK (mF l) (mF l).length) (Nat.le_of_eq (mG l))
theorem wA {l : List LV} {n : Nat} (hn : n <= l.length) {x : LV} (h : x ∈ compI l n) : x ∈ l := by
  unfold compI at h
  simp only [List.mem_map, List.mem_filter, List.mem_range] at h
  obtain ⟨i, ⟨hi, _⟩, rfl⟩ := h
  exact aH (by omega)
theorem oO {l : List LV} {x : LV} (h : x ∈ setR l) : x ∈ l := (ei l).mem_iff.1 (wA (Nat.le_refl _) h)
theorem wB {x y : LV} : decide (cmpR x y = 0) = decide (x = y) := by rw [decide_eq_decide]; exact sP.eq
theorem i9 (v : Value) (xs : List LV) (hx : ∀ e ∈ xs, e.length <= 1000000) (hn : xs.length <= 1000000000) : Spec (X := Unit) prog 137 [rV.ty v, tV (.func (.func 86) #[] #[])] [own 22 (rSl rValue) v xs] (fun _ => fA []) (fun _ => [own 22 (rSl rValue) v (mF xs)]) := by
  intro vs h0 m r w ha sp st
  refine (oJ v xs hx hn vs h0 m r w ha sp st).mono ?_
  rintro e w' ⟨⟨ys, hp, hs⟩, u, h', m', rfl, l, s, st', hu⟩
  have := oM hp hs
  subst this
  exact ⟨(), u, h', m', rfl, l, s, st', hu⟩
theorem t8 (x y : LV) (hx : x.length <= 1000000) (hy : y.length <= 1000000) : Fun1 prog 88 [tSl rValue x, tSl rValue y] (tV (.bool (decide (x = y)))) := by
 refine Spec.enter func88 rfl rfl fun h0 w0 fr0 => ?_
 refine Jr (Za (ae (Jr (Zm (Zm ?_)))))
 refine Zs (ai (gY _ _ hx hy) ⟨Sr, Sr, trivial⟩ call86) (Zs (aC Sr Sr) (Za (ae (aF ?_))))
 refine aK (t := 4) rfl () (Sub.bool ?_)
 exact wB
theorem rR (x y : LV) (hx : x.length <= 1000000) (hy : y.length <= 1000000) : Fun1 prog 277 [tSl rValue x, tSl rValue y] (tV (.bool (decide (x = y)))) := by
 refine Spec.enter func277 rfl rfl fun h0 w0 fr0 => ?_
 refine Jr (Za (ae (Jr (Zm (Zm ?_)))))
 refine Zs (ai (gY _ _ hx hy) ⟨Sr, Sr, trivial⟩ call86) (Zs (aC Sr Sr) (Za (ae (aF ?_))))
 refine aK (t := 4) rfl () (Sub.bool ?_)
 exact wB
theorem qt (l : List LV) (hl : l.length <= 1000000000) : lL prog 138 [bx (rSl (rSl rValue)) l] [] (AK) (okP l) (fun p => p = l) := by
 intro M Mx
 refine Spec.enter func138 rfl rfl fun h0 w0 fr0 => ?_
 refine Jr (Zl kp Sr (Zs (ah underlying73 Sr) (Zm (ae (av ?_)))))
 refine aO (σ := Nat) (fun k => k <= l.length) (fun k => upd (upd (upd (upd cg 0 (nn prog AK (okP l) M Mx)) 5 (tSl (rSl rValue) l)) 6 (tV (.int .i64 l.length))) 7 (tV (.int .i64 k))) (fun k => [M (l.take k)]) (fun k => l.length - k) 0 (by exact Nat.zero_le _) (zU) (LSub.of (by simp)) ?_
 rintro k hi
 refine Jr (Zs (aA Sr Sr) (ae (ar ?_)))
 refine au Sr (fun h8 => ?_) (fun h8 => ?_)
 ·
  try simp only [NF] at h8
  have hlk : k < l.length := by omega
  refine ay (ar (av (Jr ?_)))
  refine Zs (ad (i := k) underlying73 fh Sr Sr (by rfl) (gb (by exact hlk))) ?_
  refine Zl fh Sr (Za (ae (Jr (Zm (Zm ?_)))))
  refine Zx (ko (T := AK) (Ok := okP l) (M := M) (Mx := Mx) (pre := (l.take k)) (y := nth l k) Sr (by show _ <+: _; rw [<- dM hlk]; exact List.take_prefix _ _) (by exact ⟨Sr, trivial⟩) zS) fun v13 => ?_
  cases v13
  ·
   skip
   refine Zs (bf Sr) (ae ?_)
   refine au Sr (fun hc2 => ?_) (fun hc2 => ?_)
   ·
    try simp only [NF] at hc2
    refine aF ?_
    refine nX (Fin := fun p => p = l) (M := M) (Mx := Mx) (A := []) ?_ ((l.take k) ++ [nth l k]) ?_
    ·
     rfl
    exact LSub.of rfl
   try simp only [NF] at hc2
   exfalso; simp_all
  skip
  refine Zs (bf Sr) (ae ?_)
  refine au Sr (fun hc3 => ?_) (fun hc3 => ?_)
  ·
   try simp only [NF] at hc3
   exfalso; simp_all
  try simp only [NF] at hc3
  refine ay (aq (Zs (aB Sr Sr z6) (Zm (ae ?_))))
  refine aE (σ := Nat) (s := k) (k + 1) zO zG (zU) (LSub.of (by rw [dM hlk]; rfl))
 try simp only [NF] at h8
 obtain rfl : k = l.length := by omega
 refine aY ?_
 refine sn (sm (Fin := fun p => p = l) (M := M) (Mx := Mx) (A := []) ?_ l rfl ?_)
 ·
  rfl
 exact LSub.of (by rw [List.take_of_length_le zG])
theorem rU (l : List LV) : Fun1 prog 85 [tSl (rSl rValue) l] (g4 138 [bx (rSl (rSl rValue)) l]) := by
 refine Spec.enter func85 rfl rfl fun h0 w0 fr0 => ?_
 refine Jr (Zs (aJ (R := (rSl (rSl rValue))) Sr) (Za (ae (Jr (Zs (bK (As := [_]) ⟨Sr, trivial⟩) ?_)))))
 refine Za (ae (aF ?_))
 exact aK (t := 2) rfl () Sr
theorem m9 {gf : Nat} {As : List Ty} {A : List SP} {Ok Fin : List LV -> Prop} (it : lL prog gf As A AK Ok Fin) (he : ∀ args w, (callFunc gf args).run prog w = .ok (.enter gf args) w) (hb : ∀ p, Ok p -> p.length <= 1000000000) : Spec (X := Value × { xs : List LV // Fin xs }) prog 209 [tV (.slice none 0 0), g4 gf As] (A) (fun z => rV.ty z.1) (fun z => own 22 (rSl rValue) z.1 z.2.1 :: A) := by
 refine Spec.enter func209 rfl rfl fun h0 w0 fr0 => ?_
 refine Jr ?_
 refine Zx (cw (R := rV) (DG rfl)) fun v2 => ?_
 refine Za (ae (ar (Jr (Zm (ae ?_)))))
 refine av ?_
 refine qU (A := A) (T := AK) (Ok := Ok) (Fin := Fin) (R := []) (fun xs => SP.ex fun v => stars [box v2 73 rV v, own 22 (rSl rValue) v xs]) (fun _ _ => SP.pure False) rfl (fun _ => rfl) rfl it Sr he (LSub.ex (.slice none 0 0) (LSub.stars (LSub.cons zS SPs.rfl (LSub.trans (DB (e := 22) (R := rSl rValue)) (LSub.of (by simp)))))) ?round1 ?done1 ?stop1
 case round1 =>
  intro l1 rec1 h2 w2 fr2 pre y hle1 hst1 hpd1 hdj1 hok
  refine BM fun v => lK ?_
  refine aq (Za (ae ?_))
  refine qS hst1 hdj1 ?_
  refine av (aq ?_)
  refine Zs (aN ln Sr zS) ?_
  refine Zm ?_
  refine Zs (ax (ys := [_]) underlying73 pp ⟨rfl, Sr, trivial⟩ rfl (by decide)) ?_
  refine Zx (aL underlying73 pp Sr Sr zS (by have := hb _ hok; simp at this ⊢; omega) (by have := hb _ hok; simp at this ⊢; omega)) fun v11 => ?_
  refine Ju (aj (R := rV) ln Sr Sr zS) fun _ => ?_
  refine ae ?_
  refine nW hst1 hpd1 ?_
  refine LSub.cons zS SPs.rfl (LSub.ex _ (LSub.stars (LSub.cons zS SPs.rfl (LSub.cons zS SPs.rfl LSub.nil))))
 case done1 =>
  intro D1 xs hfin
  refine BM fun v => lK ?_
  refine Jr ?_
  refine Zs (aN ln Sr zS) ?_
  refine Za (ae (aF ?_))
  refine jx (LSub.cons zS SPs.rfl LSub.rfl) ?_
  refine bZ (LSub.of (L' := box v2 73 rV v :: own 22 (rSl rValue) v xs :: A) (by simp)) ?_
  refine aZ (rv := .tmp 4) rfl (v, ⟨xs, hfin⟩) (S := [box v2 73 rV v]) (Sel.take (Dz _)) (.tmp Sr) (Frz.sub Sr)
 case stop1 =>
  intro D1 c1 xs
  refine uy fun h => h.elim
theorem qu {gf : Nat} {As : List Ty} {A : List SP} {Ok Fin : List LV -> Prop} (it : lL prog gf As A AK Ok Fin) (he : ∀ args w, (callFunc gf args).run prog w = .ok (.enter gf args) w) (hb : ∀ p, Ok p -> p.length <= 1000000000) : Spec (X := Value × { xs : List LV // Fin xs }) prog 136 [g4 gf As] (A) (fun z => rV.ty z.1) (fun z => own 22 (rSl rValue) z.1 z.2.1 :: A) := by
 refine Spec.enter func136 rfl rfl fun h0 w0 fr0 => ?_
 refine Jr (Za (ae (Jr (Zm ?_))))
 refine Zx (bz (Sel.all _) (m9 it he hb) ⟨Sr, Sr, trivial⟩ call209) fun z => ?_
 refine Za (ae (aF ?_))
 refine bZ (LSub.of (L' := own 22 (rSl rValue) z.1 z.2.1 :: A) (by simp)) ?_
 refine cW (rv := .tmp 2) rfl z (.tmp Sr) Sr
theorem mH (l : List LV) (hl : l.length <= 1000000000) (hr : ∀ e ∈ l, e.length <= 1000000) : Spec (X := Value) prog 84 [g4 138 [bx (rSl (rSl rValue)) l], tV (.func (.func 86) #[] #[])] ([]) (fun z => rV.ty z) (fun z => [own 22 (rSl rValue) z (mF l)]) := by
 refine Spec.enter func84 rfl rfl fun h0 w0 fr0 => ?_
 refine Jr (Za (ae (Jr (Zm ?_))))
 refine Zx (bz (Dz _) (qu (qt l hl) call138 (fun p hp => by have := hp.length_le; omega)) ⟨Sr, trivial⟩ call136) fun z => ?_
 obtain ⟨v5, xs, hxs⟩ := z
 have hxs : l = xs := Eq.symm hxs
 subst hxs
 refine Za (ae (Jr (Zm (Zm ?_))))
 refine Zx (bz (Sel.take (Dz _)) (i9 v5 l hr hl) ⟨Sr, Sr, trivial⟩ call137) fun v10 => ?_
 refine ae (Jr (Zm (Za (ae (aF ?_)))))
 refine cW (rv := .tmp 4) rfl v5 (.tmp Sr) Sr
theorem na (l : List LV) (hl : l.length <= 1000000000) : Spec (X := Value) prog 251 [tSl (rSl rValue) l] ([]) (fun v => rV.ty v) (fun v => [own 22 (rSl rValue) v l]) := by
 refine Spec.enter func251 rfl rfl fun h0 w0 fr0 => ?_
 refine Jr (Za (ae (ar (Jr (Zm ?_)))))
 refine Zx (d8 underlying73 Sr) fun v4 => ?_
 refine ae ?_
 refine au Sr (fun h4 => ?_) (fun h4 => ?_)
 ·
  try simp only [NF] at h4
  refine Jr (Za (ae (aF ?_)))
  have hl0 := v4.2 h4
  subst hl0
  refine bZ (DB (e := 22) (R := rSl rValue)) ?_
  refine aZ (rv := .tmp 2) rfl (.slice none 0 0) (Dz _) (.tmp (DG rfl)) (Frz.sub Sr)
 try simp only [NF] at h4
 refine ay (Jr ?_)
 refine Zx (cx (ys := []) underlying73 pp trivial rfl (by decide)) fun v5 => ?_
 refine Zm ?_
 refine Zx (aL underlying73 pp Sr Sr zS (by simp; omega) (by simp; omega)) fun v7 => ?_
 refine Za (ae (aF ?_))
 refine aZ (rv := .tmp 2) rfl v7 (Dz _) (.tmp Sr) (Frz.sub Sr)
theorem wC (l : List LV) (hl : l.length <= 1000000000) (hr : ∀ e ∈ l, e.length <= 1000000) : Spec (X := Value) prog 208 [tSl (rSl rValue) l] ([]) (fun z => rV.ty z) (fun z => [own 22 (rSl rValue) z (setR l)]) := by
 refine Spec.enter func208 rfl rfl fun h0 w0 fr0 => ?_
 refine Jr (Za (ae (Jr (Zm ?_))))
 refine Zx (bz (Dz _) (na l hl) ⟨Sr, trivial⟩ call251) fun v5 => ?_
 refine Za (ae (Jr (Zm ?_)))
 refine Zx (bz (Sel.take (Dz _)) (i9 v5 l hr hl) ⟨Sr, Sr, trivial⟩ call137) fun v7 => ?_
 refine ae (Jr (Zm ?_))
 refine Zx (bz (Sel.take (Dz _)) (gX v5 (mF l) (by rw [mG]; exact hl) 277 (fun x y hx hy => rR x y (hr x ((ei l).mem_iff.1 hx)) (hr y ((ei l).mem_iff.1 hy))) call277) ⟨Sr, Sr, trivial⟩ call87) fun v9 => ?_
 refine Za (ae (aF ?_))
 refine cW (rv := .tmp 2) rfl v9 (.tmp Sr) Sr
end Lg
namespace Go.Proofs
open Go
theorem recNil (x y : Value) (w : World) : CallsDIn Fence.wide 0 Tryz.prog 133 #[x, y] .returning w fun e u' w' => e = .returned (.tuple #[]) /\ u' = .returning /\ w' = w := by
 refine callsDIn_of_wpSIn Tryz.func133 rfl trivial fun c₀ cs hu => ?_
 apply wpSIn_seq
 apply wpSIn_region
 simp [wpOpsSIn, go_sem, recoverD, hu, Tryz.ntmps133, Exit.thenS]
 apply wpSIn_seq
 apply wpSIn_region
 simp [wpOpsSIn, go_sem, recoverD, hu, Tryz.ntmps133, Exit.thenS]
 refine wpSIn_cond (t := false) (by simp [Act.eval, Array.replicate]) ?_
 simp only [Bool.false_eq_true, if_false]
 refine wpSIn_of_wpIn rfl (wpIn_skip ?_)
 cases c₀
 simp_all [bodyPostS, results, Tryz.results133]
end Go.Proofs
namespace Lg
open Go
theorem yi {P : Program} {N : Nat} {ds : List Deferred} {h0 : PH} {w0 : World} {r : PH} {ops : Array Oper} {rest : List Oper} {Q : Exit -> Act -> World -> Prop} {E : Env} {L : List SP} {x : Operand} {f : Nat} {cap : List Value} {ty : Nat} {pos : String} {af : Array Edge}
  (hx : Sub (opTy E x) (tV (.func (.func f) #[] cap.toArray))) (hk : JL ⟨P, none, N, ⟨.fn (.func f) cap.toArray, #[]⟩ :: ds, h0, w0, r⟩ ops rest Q E L) :
  JL ⟨P, none, N, ds, h0, w0, r⟩ ops (⟨none, .defer { callee := .value x, args := #[], argTypes := #[] }, ty, pos, af, none⟩ :: rest) Q E L := fun a w ⟨n, hds, h, m, l, sp, st, fr⟩ => by
 refine wpListIn_plain rfl fun K hK => ⟨fun _ _ => trivial, ?_⟩
 have hv : a.eval x = .func (.func f) #[] cap.toArray := fr.get hx
 have hr : (execOp a.eval ⟨none, .defer { callee := .value x, args := #[], argTypes := #[] }, ty, pos, af, none⟩).run P w = .ok (.defer ⟨.fn (.func f) cap.toArray, #[]⟩) w := by
  simp [execOp, resolve, hv, Deferred.ofValue]
 show Oper.uponIn (Fw none) 0 P ⟨none, .defer { callee := .value x, args := #[], argTypes := #[] }, ty, pos, af, none⟩ a K Q ((execOp a.eval ⟨none, .defer { callee := .value x, args := #[], argTypes := #[] }, ty, pos, af, none⟩).run P w)
 rw [hr]
 exact hK _ _ (hk _ w ⟨n, by show _ :: a.defers = _; rw [hds], h, m, l, sp, st, fr⟩)
theorem ua {P : Program} {fn : Func} {N : Nat} {ds : List Deferred} {h0 : PH} {w0 : World} {r : PH} {RR : Ending -> World -> Prop} {E : Env} {L : List SP} {f : Nat} {cap : List Value}
  (hi : ∀ w, (callFunc f cap.toArray).run P w = .ok (.enter f cap.toArray) w) (hc : ∀ w, CallsDIn Fence.wide 0 P f cap.toArray .returning w fun e u' w' => e = .returned (.tuple #[]) /\ u' = .returning /\ w' = w)
  (hk : K ⟨P, none, N, ds, h0, w0, r⟩ (bodyPostM Fence.wide 0 P fn RR .ret) E L) :
  K ⟨P, none, N, ⟨.fn (.func f) cap.toArray, #[]⟩ :: ds, h0, w0, r⟩ (bodyPostM Fence.wide 0 P fn RR .ret) E L := fun a w ⟨n, hds, h, m, le, sp, st, fr⟩ => by
 show LeavesInM Fence.wide 0 P fn a.tmps RR a.defers .returning w
 rw [hds]
 refine ⟨by simp, .inr ⟨fun q => absurd q (by simp [Fence.wide]), .func f, cap.toArray, f, cap.toArray, rfl, ?_, fun _ _ => trivial, ?_⟩⟩
 · show (callFunc f (#[] ++ cap.toArray)).run P w = _
   rw [Array.empty_append]; exact hi w
 · refine (hc w).mono ?_
   rintro e u' w' ⟨rfl, rfl, rfl⟩
   exact hk { a with defers := ds } _ ⟨n, rfl, h, m, le, sp, st, fr⟩
open Go Go.Proofs Go.Proofs.Tryz
theorem yj {h : PH} {m : List (Int × Gkind)} {v : Value} (hv : (mT kvI ge m).p h v) : v.oneCell' = true := by
  obtain ⟨r0, es, rfl, _⟩ := uC hv
  rfl
structure Gev where
  tables : List (List LV)
  kinds : List (Int × Gkind)
abbrev rKM : Rp (List (Int × Gkind)) := rT (mT kvI ge) yj
def CI : List (SF Gev) := [⟨List (List LV), 61, rSl (rSl (rSl rValue)), Gev.tables⟩, ⟨List (Int × Gkind), 164, rKM, Gev.kinds⟩]
abbrev rev : Rp Gev := bG CI
theorem Bj : TyOf prog 164 rKM := ⟨fun w => isAgg164 w, fun w => sizeOf164 w⟩
theorem Ce : TyOf prog 187 rev := ⟨fun w => isAgg187 w, fun w => sizeOf187 w⟩
theorem Ak : StructOf prog 187 CI := ⟨⟨_, underlying187, ⟨rfl, rfl, BY, by decide, ⟨rfl, rfl, Bj, by decide, trivial⟩⟩⟩, Ce⟩
theorem Bk {f : Nat} {v : Value} (hv : v = .func (.func f) #[] #[]) : Sub (rV.ty v) (g4 f []) := by
  subst hv
  rintro h u ⟨rfl, _⟩
  exact ⟨[], rfl, trivial⟩
theorem wD {g : Nat} {a b : Value} : Sub (g4 g [tV a, tV b]) (tV (.func (.func g) #[] [a, b].toArray)) := by
  rintro h u ⟨cap, rfl, ha⟩
  match cap, ha with
  | [x, y], ⟨h1, h2, _⟩ =>
    have h1 : x = a := h1
    have h2 : y = b := h2
    subst h1 h2; rfl
def fitsM (t : GTable) (row : LV) : Bool := decide (row.length = t.Attrs.length) && (List.range row.length).all fun i => tg (nth t.Attrs i).Kind (nth row i)
def mI (s : GSchema) (ts : List (List LV)) : Bool := (List.range ts.length).all fun i => !((nth ts i).any fun row => !fitsM (nth s.Tables i) row)
def fp (s : GSchema) (p : aG) (ts : List (List LV)) : Bool := iE s p && decide ((ts.length : Int) = s.Tables.length) && mI s ts
theorem wE {s : GSchema} {p : aG} {ts : List (List LV)} (h : fp s p ts = true) : iE s p = true /\ ts.length = s.Tables.length /\ ∀ i, i < ts.length -> ∀ r ∈ nth ts i, r.length = (nth s.Tables i).Attrs.length := by
  unfold fp mI at h
  simp only [Bool.and_eq_true, decide_eq_true_eq, List.all_eq_true, List.mem_range, Bool.not_eq_true', List.any_eq_false] at h
  refine ⟨h.1.1, by omega, fun i hi r hr => ?_⟩
  have := h.2 i hi r hr
  simp only [Bool.not_eq_false, fitsM, Bool.and_eq_true, decide_eq_true_eq] at this
  exact this.1
theorem j0 (l : List LV) (hl : l.length <= 1000000000000) (gi : Nat) (As : List Ty) (p : LV -> Bool) (hp : ∀ x ∈ l, Fun1 prog gi ([tSl rValue x] ++ As) (tV (.bool (p x)))) (he : ∀ args w, (callFunc gi args).run prog w = .ok (.enter gi args) w) : Fun1 prog 206 [tSl (rSl rValue) l, g4 gi As] (tV (.int .i64 (findI p 0 l))) := by
 refine Spec.enter func206 rfl rfl fun h0 w0 fr0 => ?_
 refine Jr (Za (ae (ar (Jr (Zm ?_)))))
 refine Zs (ah underlying73 Sr) (Zm (ae (av ?_)))
 refine aO (σ := Nat) (fun i => i <= l.length /\ findI p 0 l = findI p i (l.drop i)) (fun i => upd (upd (upd (upd cg 0 (tSl (rSl rValue) l)) 1 (g4 gi As)) 7 (tV (.int .i64 l.length))) 8 (tV (.int .i64 i))) (fun i => []) (fun i => l.length - i) 0 ⟨by omega, by simp⟩ (zU) (LSub.rfl) ?_
 rintro i ⟨hi, hv⟩
 refine Jr (Zs (aA Sr Sr) (ae (ar ?_)))
 refine au Sr (fun h9 => ?_) (fun h9 => ?_)
 ·
  try simp only [NF] at h9
  have hlt : i < l.length := by omega
  have hd := nU hlt
  refine ay (ar (av (Jr (Zm (Za ?_)))))
  refine ae (Jr (Zm (Zm (Zm ?_))))
  refine Zs (ad  underlying73 fh Sr Sr rfl (gb (by first | assumption | omega))) ?_
  refine Zl fh Sr (Zs (bH (aT := [_]) Sr (hp _ (aH hlt)) ⟨Sr, trivial⟩ he) (ae ?_))
  refine au Sr (fun h16 => ?_) (fun h16 => ?_)
  ·
   try simp only [NF] at h16
   refine Jr (Zm (Za (ae (aF ?_))))
   refine cW (rv := .tmp 4) rfl () (.tmp Sr) (Sub.int ?_)
   rw [hv, hd]; simp only [findI]; rw [if_pos h16]
  try simp only [NF] at h16
  refine ay (aq (Zs (aB Sr Sr z6) (Zm (ae ?_))))
  refine aE (σ := Nat) (s := i) (i + 1) zO ?_ (zU) (LSub.rfl)
  refine ⟨by omega, ?_⟩
  rw [hv, hd]; simp only [findI]; rw [if_neg (by simp [h16])]; simp
 try simp only [NF] at h9
 refine aY (Jr (Za (ae (aF ?_))))
 refine cW (rv := .tmp 4) rfl () (.tmp Sr) (Sub.int ?_)
 rw [hv, List.drop_of_length_le zG]; rfl
theorem iv (l : List LV) (hl : l.length <= 1000000000000) (gi : Nat) (As : List Ty) (p : LV -> Bool) (hp : ∀ x ∈ l, Fun1 prog gi ([tSl rValue x] ++ As) (tV (.bool (p x)))) (he : ∀ args w, (callFunc gi args).run prog w = .ok (.enter gi args) w) : Fun1 prog 130 [tSl (rSl rValue) l, g4 gi As] (tV (.bool (l.any p))) := by
 refine Spec.enter func130 rfl rfl fun h0 w0 fr0 => ?_
 refine Jr (Za (ae (Jr (Zm (Zm ?_)))))
 refine Zs (ai (j0 l hl gi As p hp he) ⟨Sr, Sr, trivial⟩ call206) (Zs (bE Sr Sr) (Za (ae (aF ?_))))
 refine cW (rv := .tmp 4) rfl () (.tmp Sr) (Sub.bool ?_)
 have hq := (fu p l 0 zG).2.2
 by_cases ha : l.any p = true
 ·
  rw [ha]; simp; exact hq.2 ha
 simp only [Bool.not_eq_true] at ha; rw [ha]; simp; have : ¬ 0 <= findI p 0 l := (fun h => by rw [hq.1 h] at ha; cases ha)
 omega
theorem wF (t : GTable) (row : LV) (hl : row.length <= 1000000000000) : Fun1 prog 132 [cc.ty t, tSl rValue row] (tV (.bool (fitsM t row))) := by
 refine Spec.enter func132 rfl rfl fun h0 w0 fr0 => ?_
 refine Jr (Zs (aJ (R := cc) Sr) (Za (ae (ar (Jr ?_)))))
 refine Zm (Zs (ah underlying22 Sr) (Zs (aa eu Sr rfl) (Zl bQ Sr (Zs (ah underlying44 Sr) (Zs (bb Sr Sr) ?_)))))
 refine ae ?_
 refine au Sr (fun h11 => ?_) (fun h11 => ?_)
 ·
  try simp only [NF] at h11
  refine Jr (Za (ae (aF ?_)))
  refine aK (t := 4) rfl () ?_
  refine Sub.bool ?_
  have : ¬ row.length = t.Attrs.length := by omega
  simp [fitsM, this]
 try simp only [NF] at h11
 have heq : row.length = t.Attrs.length := by omega
 refine ay (ar (Jr (Zm (Zs (ah underlying22 Sr) (Zm ?_)))))
 refine ae (av ?_)
 refine aO (σ := Nat) (fun i => i <= row.length /\ ∀ k, k < i -> tg (nth t.Attrs k).Kind (nth row k) = true) (fun i => upd (upd (upd (upd cg 1 (tSl rValue row)) 2 (bx cc t)) 13 (tV (.int .i64 row.length))) 14 (tV (.int .i64 i))) (fun i => []) (fun i => row.length - i) 0 ⟨by omega, fun k hk => by omega⟩ (zU) (LSub.rfl) ?_
 rintro i ⟨hi, hv⟩
 refine Jr (Zs (aA Sr Sr) (ae (ar ?_)))
 refine au Sr (fun h15 => ?_) (fun h15 => ?_)
 ·
  try simp only [NF] at h15
  have hlt : i < row.length := by omega
  refine ay (ar (av (Jr (Zm (Za ?_)))))
  refine ae (ar ?_)
  refine bl [⟨0, [2], true⟩, ⟨1, [17], true⟩, ⟨2, [5], true⟩, ⟨3, [18, 19], true⟩, ⟨4, [20], true⟩, ⟨5, [21], true⟩, ⟨6, [1], true⟩, ⟨7, [5], true⟩, ⟨8, [23, 24], true⟩, ⟨9, [25], true⟩, ⟨10, [22, 26], true⟩, ⟨11, [27], true⟩] rfl (by kernel_rfl) ?_
  refine Zf rfl (aa eu Sr rfl) (Zf rfl (ab bQ Sr) (Zv rfl ?_))
  refine Zf rfl (ad (i := i) underlying44 ct Sr Sr (by rfl) (gb (by show i < t.Attrs.length; omega))) ?_
  refine Zf rfl (aa dH Sr rfl) (Zf rfl (ab ty3 Sr) (Zv rfl (Zv rfl ?_)))
  refine Zf rfl (ad (i := i) underlying22 jp Sr Sr (by rfl) (gb (by exact hlt))) ?_
  refine Zf rfl (ab jp Sr) (Zf rfl (ai (sv _ _) ⟨Sr, Sr, trivial⟩ call207) (Zf rfl (bf Sr) (bj ?_)))
  refine au Sr (fun h28 => ?_) (fun h28 => ?_)
  ·
   try simp only [NF] at h28
   have hf : tg (nth t.Attrs i).Kind (nth row i) = false := by simpa using h28
   refine Jr (Za (ae (aF ?_)))
   refine aK (t := 4) rfl () ?_
   refine Sub.bool ?_
   rw [fitsM, eV (f := fun i => tg (nth t.Attrs i).Kind (nth row i)) hlt hf, Bool.and_false]
  try simp only [NF] at h28
  have hf : tg (nth t.Attrs i).Kind (nth row i) = true := by simpa using h28
  refine ay (aq (Zs (aB Sr Sr z6) (Zm (ae ?_))))
  refine aE (σ := Nat) (s := i) (i + 1) zO ⟨by omega, fun k hk => by by_cases e : k = i; exact e ▸ hf; exact hv k zG⟩ (zU) (LSub.rfl)
 try simp only [NF] at h15
 have hall := eU (n := row.length) (fun k hk => hv k zG)
 refine aY (Jr (Za (ae (aF ?_))))
 refine aK (t := 4) rfl () ?_
 refine Sub.bool ?_
 rw [fitsM, hall]; simp [heq]
theorem rW (s : GSchema) (i : Nat) (hi : i < s.Tables.length) (row : LV) (hl : row.length <= 1000000000000) : Fun1 prog 131 [tSl rValue row, bx aV s, bx bg (i : Int)] (tV (.bool (!fitsM (nth s.Tables i) row))) := by
 refine Spec.enter func131 rfl rfl fun h0 w0 fr0 => ?_
 refine Jr (Za (ae (Jr (Zs (aa g6 Sr rfl) (Zl g5 Sr ?_)))))
 refine Zl ty3 Sr ?_
 refine Zs (ad (i := i) underlying39 g8 Sr Sr (by rfl) (gb (by exact hi))) ?_
 refine Zl g8 Sr (Zm (Zs (ai (wF _ _ hl) ⟨Sr, Sr, trivial⟩ call132) (Zs (bf Sr) (Za (ae ?_)))))
 refine aF ?_
 exact aK (t := 4) rfl () Sr
theorem qw (e : Gev) (n : Nat) (p : aG) (l : List (List LV)) (ht : 0 <= p.Table /\ p.Table < e.tables.length) : Fun1 prog 171 [bx rev e, (aR (n + 1)).ty p, tSl (rSl (rSl rValue)) l] (tSl (rSl rValue) (nth e.tables p.Table.toNat)) := by
 refine Spec.enter func171 rfl rfl fun h0 w0 fr0 => ?_
 refine Jr (Zs (aJ (R := (aR (n + 1))) Sr) (Za (ae (ar ?_))))
 refine bl [⟨0, [0], true⟩, ⟨1, [7], true⟩, ⟨2, [8], true⟩, ⟨3, [9], true⟩, ⟨4, [4], true⟩, ⟨5, [11], true⟩, ⟨6, [10, 12], true⟩, ⟨7, [13], true⟩, ⟨8, [14], true⟩] rfl (by kernel_rfl) ?_
 refine Zv rfl (Zf rfl (iX Sr) (Zf rfl (aa Ak Sr rfl) (Zf rfl (ab BY Sr) (Zf rfl (aa br Sr rfl) (Zf rfl (ab ty3 Sr) ?_)))))
 refine Zf rfl (ad (i := p.Table.toNat) underlying61 kp Sr Sr (by show p.Table = _; omega) (gb (by show _ < e.tables.length; omega))) ?_
 refine Zf rfl (ab kp Sr) (Zf rfl (aW Sr) (bj (aF ?_)))
 exact aK (t := 6) rfl () Sr
theorem qx (e : Gev) (hk : e.kinds = gA) (n : Nat) (p : aG) (h1 : p.Kind = 1) (hn : p.Kids = []) (ht : 0 <= p.Table /\ p.Table < e.tables.length) (hl : (nth e.tables p.Table.toNat).length <= 4000) (hr : ∀ r ∈ (nth e.tables p.Table.toNat), r.length <= 1000000) : Spec (X := Value) prog 134 [bx rev e, (aR (n + 1)).ty p] ([]) (fun z => rV.ty z) (fun z => [own 22 (rSl rValue) z (setR (nth e.tables p.Table.toNat))]) := by
 refine Spec.enter func134 rfl rfl fun h0 w0 fr0 => ?_
 refine Jr (Zs (aJ (R := (aR (n + 1))) Sr) (Za (ae (Jr (Za ?_)))))
 refine ae (ar (Jr (Zs (aa br Sr rfl) (Zl gp Sr (Zs (ah underlying42 Sr) ?_)))))
 refine Zm (ae (av ?_))
 refine aO (σ := Unit) (fun _ => True) (fun _ => upd (upd (upd (upd (upd (upd (upd cg 0 (bx rev e)) 3 (bx (aR (n + 1)) p)) 4 (tV (.slice none 0 0))) 5 (tV (.slice none 0 0))) 10 (tSl (aR n) p.Kids)) 11 (tV (.int .i64 p.Kids.length))) 12 (tV (.int .i64 0))) (fun _ => []) (fun _ => 0) () trivial (zU) (LSub.rfl) ?_
 rintro _ _
 refine Jr (Zs (aA Sr Sr) (ae (ar ?_)))
 refine au Sr (fun h13 => ?_) (fun h13 => ?_)
 ·
  try simp only [NF] at h13
  exfalso; rw [hn] at h13; simp at h13
 try simp only [NF] at h13
 refine aY (ar ?_)
 refine bl [⟨0, [0], true⟩, ⟨1, [23], true⟩, ⟨2, [24], true⟩, ⟨3, [25], true⟩, ⟨4, [3], true⟩, ⟨5, [27], true⟩, ⟨6, [26, 28], true⟩, ⟨7, [29], true⟩, ⟨8, [0], true⟩, ⟨9, [3], true⟩, ⟨10, [5], true⟩, ⟨11, [30, 31, 32, 33], true⟩, ⟨12, [34], false⟩, ⟨13, [35], true⟩] rfl (by kernel_rfl) ?_
 refine Zv rfl (Zf rfl (iX Sr) (Zf rfl (aa Ak Sr rfl) (Zf rfl (ab Bj Sr) (Zf rfl (aa br Sr rfl) (Zf rfl (ab ty3 Sr) ?_)))))
 refine Zf rfl (pm (kv := kvI) (R := ge) (z := tf) (KeyT.int underlying3) underlying164 (fun w => zeroValue213 w) zA Sr Sr) (Zf rfl (cI lo Sr rfl) (Zv rfl (Zf rfl (ab dl Sr) (Zv rfl ?_))))
 refine Zf rfl (bH (aT := [_, _, _]) (As := []) (Sub.trans (DE rfl) (Bk (f := 171) (by show ((pj e.kinds p.Kind).getD tf).rows = _; rw [hk, h1]; rfl))) (qw e n p [] ht) ⟨Sr, Sr, DT, trivial⟩ call171) ?_
 refine cB rfl rfl rfl rfl (bz (Dz _) (wC _ (by show (nth e.tables p.Table.toNat).length <= _; omega) hr) ⟨Sr, trivial⟩ call208) fun v35 => ?_
 refine Zf rfl (aW Sr) (bj (ar (Jr (Zm ?_))))
 refine Zs (cj underlying73 Sr zS) ?_
 refine Zs (bD Sr Sr) (ae ?_)
 refine au Sr (fun h38 => ?_) (fun h38 => ?_)
 ·
  try simp only [NF] at h38
  exfalso; have := oN (nth e.tables p.Table.toNat); omega
 try simp only [NF] at h38
 refine ay (Jr (Zm (Za (ae (aF ?_)))))
 refine cW (rv := .tmp 4) rfl v35 (.tmp Sr) Sr
theorem AL : TyOf prog 30 bg := ⟨fun w => isAgg30 w, fun w => sizeOf30 w⟩
theorem C9 : ∀ h, (bg.ty 0).p h (Value.int .i64 0) := fun _ => rfl
theorem qy {α : Type} {R : Rp α} : Sub (rV.ty (.slice none 0 0)) (tSl R []) := fun h v e => by
  have e : v = .slice none 0 0 := e.1
  subst e
  exact ⟨none, ⟨0, Nat.le_refl _⟩, rfl, fun q => absurd rfl q⟩
def nb (s : GSchema) (p : aG) (ts : List (List LV)) : List LV := if fp s p ts = true then setR (nth ts p.Table.toNat) else []
def jl (s : GSchema) (p : aG) (ts : List (List LV)) : Int := if fp s p ts = true then 0 else 1
theorem nc (l : LV) (hl : l.length <= 1000000000) : Fun1 prog 135 [tSl rValue l] (tSl rValue l) := by
 refine Spec.enter func135 rfl rfl fun h0 w0 fr0 => ?_
 refine Jr (Za (ae (ar (Jr (Zm ?_)))))
 refine Zx (d8 underlying22 Sr) fun v4 => ?_
 refine ae ?_
 refine au Sr (fun h4 => ?_) (fun h4 => ?_)
 ·
  try simp only [NF] at h4
  refine Jr (Za (ae (aF ?_)))
  have hl0 := v4.2 h4
  subst hl0
  refine aK (t := 2) rfl () DT
 try simp only [NF] at h4
 refine ay (Jr ?_)
 refine Zx (cx (ys := []) underlying22 zw trivial rfl (by decide)) fun v5 => ?_
 refine Zm ?_
 refine Zx (aL underlying22 zw Sr Sr zS (by simp; omega) (by simp; omega)) fun v7 => ?_
 refine Za (ae (aF ?_))
 refine aZ (rv := .tmp 2) rfl () (Sel.take (Dz _)) (.tmp Sr) Frz.own
theorem qz (s : GSchema) (hz : SchSz s) (n : Nat) (p : aG) (hp : od (n + 1) p) (h1 : p.Kind = 1) (hn : p.Kids = []) (ts : List (List LV)) (hl : ∀ t ∈ ts, t.length <= 4000) (hr : ∀ t ∈ ts, ∀ r ∈ t, r.length <= 1000000) : Fun1 prog 83 [aV.ty s, (aR (n + 1)).ty p, tSl (rSl (rSl rValue)) ts] (fA [tSl (rSl rValue) (nb s p ts), tV (.int .i64 (jl s p ts))]) := by
 refine Spec.enter func83 rfl rfl fun h0 w0 fr0 => ?_
 have htl := hz.tabs
 refine Jr (Zs (aJ (R := aV) Sr) (Zs (aJ (R := (aR (n + 1))) Sr) ?_))
 refine Zx (aD (R := rV) (z := Value.slice none 0 0) (fun w => zeroValue73 w) (fun _ => ⟨rfl, rfl⟩)) fun b6 => ?_
 refine Zx (aD (fun w => zeroValue30 w) C9) fun b7 => ?_
 refine ae (ar (Jr (Zl fR Sr (Zl dl Sr (Zs (ai (gO s hz (n + 1) p hp) ⟨Sr, Sr, trivial⟩ call60) ?_)))))
 refine Zs (bf Sr) (Zm ?_)
 refine Zk (al Sr) ?_
 refine Zg (fun hw => ah underlying61 (Sub.w hw)) ?_
 refine Zk (aa g6 Sr rfl) ?_
 refine Zg (fun hw => ab g5 (Sub.w hw)) (Zg (fun hw => ah underlying39 (Sub.w hw)) (Zg (fun hw => bb (Sub.w hw) (Sub.w hw)) (Zs (az Sr Sr) (ae ?_))))
 refine au Sr (fun h24 => ?_) (fun h24 => ?_)
 ·
  try simp only [NF] at h24
  refine Jr ?_
  refine Ju (aj (R := rV) ln Sr (DG rfl) zS) fun _ => ?_
  refine Ju (aj AL Sr Sr zS) fun _ => ?_
  refine ae (aF ?_)
  have hf : fp s p ts = false := by
   unfold fp
   rcases h24 with h | h
   ·
    have : iE s p = false := by simpa using h
    simp [this]
   simp [show ¬ (ts.length : Int) = s.Tables.length by omega]
  have hR : nb s p ts = [] := by rw [nb, if_neg (by rw [hf]; simp)]
  have hE : jl s p ts = 1 := by rw [jl, if_neg (by rw [hf]; simp)]
  refine bJ (rv := .cell 6 73) (rv' := .cell 7 30) rfl () (Sel.all _) (.cell (R := rV) ln Sr zS Sr) (.cell (R := bg) AL Sr zS Sr) (B := tSl (rSl rValue) (nb s p ts)) (B' := tV (.int .i64 (jl s p ts))) (Frz.sub ?_) (Frz.sub (Sub.int hE.symm)) Sr
  rw [hR]
  exact qy
 try simp only [NF] at h24
 have hv1 : iE s p = true := by simpa using h24.1
 have hlen : ts.length = s.Tables.length := by have := h24.2; omega
 refine ay (ar (Jr (Zm (Zs (ah underlying61 Sr) (Zm ?_)))))
 refine ae (av ?_)
 refine aO (σ := Nat) (fun i => i <= ts.length /\ ∀ k, k < i -> (!((nth ts k).any fun row => !fitsM (nth s.Tables k) row)) = true) (fun i => upd (upd (upd (upd (upd (upd (upd (upd cg 2 (tSl (rSl (rSl rValue)) ts)) 3 (bx aV s)) 4 (bx (aR (n + 1)) p)) 6 (tAt b6 0)) 7 (tAt b7 0)) 25 (tSl (rSl (rSl rValue)) ts)) 26 (tV (.int .i64 ts.length))) 27 (tV (.int .i64 i))) (fun i => [box b7 30 bg 0, box b6 73 rV (.slice none 0 0)]) (fun i => ts.length - i) 0 ⟨by omega, fun k hk => by omega⟩ (zU) (LSub.rfl) ?_
 rintro i ⟨hi, hv⟩
 refine Jr (Zs (aA Sr Sr) (ae (ar ?_)))
 refine au Sr (fun h28 => ?_) (fun h28 => ?_)
 ·
  try simp only [NF] at h28
  have hlt : i < ts.length := by omega
  have hlt3 : i < s.Tables.length := by omega
  refine ay (ar (av (Jr (Zm ?_))))
  refine Zs (ad (i := i) underlying61 kp Sr Sr (by rfl) (gb (by exact hlt))) ?_
  refine Zl kp Sr ?_
  refine Zx (aD (fun w => zeroValue3 w) zr3) fun b8 => ?_
  refine Ju (aj ty3 Sr Sr zS) fun _ => ?_
  refine bc (t := 8) (Sel.take (Dz _)) Frz.box ?_
  refine Za (ae (Jr (Zm (Zs (bK (As := [_, _]) ⟨Sr, Sr, trivial⟩) ?_))))
  refine Zs (ai (iv (nth ts i) (by have := hl _ (aH hlt); omega) 131 [bx aV s, bx bg (i : Int)] (fun row => !fitsM (nth s.Tables i) row) (fun x hx => rW s i hlt3 x (by have := hr _ (aH hlt) x hx; omega)) call131) ⟨Sr, Sr, trivial⟩ call130) ?_
  refine ae ?_
  refine au Sr (fun h34 => ?_) (fun h34 => ?_)
  ·
   try simp only [NF] at h34
   have hft : ((nth ts i).any fun row => !fitsM (nth s.Tables i) row) = true := h34
   refine Jr ?_
   refine Ju (aj (R := rV) ln Sr (DG rfl) zS) fun _ => ?_
   refine Ju (aj AL Sr Sr zS) fun _ => ?_
   refine ae (aF ?_)
   have hf : fp s p ts = false := by
    have : mI s ts = false := eV hlt (by rw [hft]; rfl)
    rw [fp, this, Bool.and_false]
   have hR : nb s p ts = [] := by rw [nb, if_neg (by rw [hf]; simp)]
   have hE : jl s p ts = 1 := by rw [jl, if_neg (by rw [hf]; simp)]
   refine bJ (rv := .cell 6 73) (rv' := .cell 7 30) rfl () (Sel.all _) (.cell (R := rV) ln Sr zS Sr) (.cell (R := bg) AL Sr zS Sr) (B := tSl (rSl rValue) (nb s p ts)) (B' := tV (.int .i64 (jl s p ts))) (Frz.sub ?_) (Frz.sub (Sub.int hE.symm)) Sr
   rw [hR]
   exact qy
  try simp only [NF] at h34
  have hft : (!((nth ts i).any fun row => !fitsM (nth s.Tables i) row)) = true := by rw [Bool.not_eq_true']; simpa using h34
  refine ay (aq (Zs (aB Sr Sr z6) (Zm (ae ?_))))
  refine aE (σ := Nat) (s := i) (i + 1) zO ⟨by omega, fun k hk => by by_cases e : k = i; exact e ▸ hft; exact hv k zG⟩ (zU) (LSub.rfl)
 try simp only [NF] at h28
 have hall : mI s ts = true := eU (fun k hk => hv k zG)
 have hok : fp s p ts = true := by rw [fp, hv1, hall]; simp; omega
 have htt := (vk1 (Bool.and_eq_true_iff.1 hv1).2 h1).1
 have htt : 0 <= p.Table /\ p.Table < ts.length := ⟨htt.1, by omega⟩
 have htn : p.Table.toNat < ts.length := by omega
 have hsl := oN (nth ts p.Table.toNat)
 have hl4 := hl _ (aH htn)
 have hrr : ∀ i, (nth (setR (nth ts p.Table.toNat)) i).length <= 1000000 := fun i => by
  by_cases hi : i < (setR (nth ts p.Table.toNat)).length
  ·
   exact hr _ (aH htn) _ (oO (aH hi))
  rw [vg hi]; exact Nat.zero_le _
 refine aY (Jr (Zs (bK (As := [_, _]) ⟨Sr, Sr, trivial⟩) ?_))
 refine yi (f := 133) (cap := [.pointer (some ⟨b6, 0, none⟩), .pointer (some ⟨b7, 0, none⟩)]) wD ?_
 refine ae (Jr (Zm (Zs (ai (nB ) trivial call106) (Zs (aU (x := (⟨ts, gA⟩ : Gev)) (zs := [[Value.slice none 0 0], [Value.map none]]) Ak (fun w => zeroValue187 w) ⟨Sr, Sr, trivial⟩ ⟨⟨Sr, rfl⟩, ⟨Sr, rfl⟩, trivial⟩) (Zs (aJ (R := rev) Sr) ?_)))))
 refine Za (ae (ar (Jr (Zm (Zl dl Sr ?_)))))
 refine Zx (bz (Dz _) (qx ⟨ts, gA⟩ rfl n p h1 hn htt (hl _ (aH htn)) (hr _ (aH htn))) ⟨Sr, Sr, trivial⟩ call134) fun v43 => ?_
 refine bc (t := 43) (A' := tSl (rSl rValue) (setR (nth ts p.Table.toNat))) (Sel.take (Dz _)) Frz.own ?_
 refine Zs (ah underlying73 Sr) (Zm (ae (av ?_)))
 refine aO (σ := Nat × Value) (fun ⟨k, vr⟩ => k <= (setR (nth ts p.Table.toNat)).length) (fun ⟨k, vr⟩ => upd (upd (upd (upd (upd cg 6 (tAt b6 0)) 7 (tAt b7 0)) 43 (tSl (rSl rValue) (setR (nth ts p.Table.toNat)))) 44 (tV (.int .i64 (setR (nth ts p.Table.toNat)).length))) 45 (tV (.int .i64 k))) (fun ⟨k, vr⟩ => [own 22 (rSl rValue) vr ((setR (nth ts p.Table.toNat)).take k), box b7 30 bg 0, box b6 73 rV vr]) (fun ⟨k, vr⟩ => (setR (nth ts p.Table.toNat)).length - k) (0, .slice none 0 0) (by exact Nat.zero_le _) (zU) (DB) ?_
 rintro ⟨k, vr⟩ hk
 try dsimp only at hk
 refine Jr (Zs (aA Sr Sr) (ae (ar ?_)))
 refine au Sr (fun h46 => ?_) (fun h46 => ?_)
 ·
  try simp only [NF] at h46
  have hlk : k < (setR (nth ts p.Table.toNat)).length := by omega
  refine ay (ar (av (Jr ?_)))
  refine Zs (ad (i := k) underlying73 fh Sr Sr (by rfl) (gb (by exact hlk))) ?_
  refine Zl fh Sr (Za (ae ?_))
  refine cl [⟨1, [12], 0⟩, ⟨2, [50], 0⟩, ⟨3, [51], 0⟩, ⟨0, [6], 1⟩, ⟨4, [49, 52], 2⟩, ⟨5, [6, 53], 2⟩] rfl (by kernel_rfl) ?_
  refine ZX rfl (al Sr) ?_
  refine ZX rfl (ai (nc _ (by have := hrr k; omega)) ⟨Sr, trivial⟩ call135) ?_
  refine ZX rfl (ax (ys := [_]) underlying73 pp ⟨rfl, Sr, trivial⟩ rfl (by decide)) ?_
  refine bW rfl rfl rfl rfl (aN ln Sr zS) ?_
  refine dq rfl rfl rfl rfl (aL underlying73 pp Sr Sr zS (by simp only [List.length_append, List.length_cons, List.length_nil, List.length_take]; omega) (by simp only [List.length_append, List.length_cons, List.length_nil, List.length_take]; omega)) fun v53 => ?_
  refine bI rfl rfl rfl (aj (R := rV) ln Sr Sr zS) fun _ => ?_
  refine cC (aq (Zs (aB Sr Sr z6) (Zm (ae ?_))))
  refine aE (σ := Nat × Value) (s := (k, vr)) (k + 1, v53) zO (by show k + 1 <= _; omega) (zU) (.c zS (SPs.of (A := own 22 (rSl rValue) v53 ((setR (nth ts p.Table.toNat)).take k ++ [nth (setR (nth ts p.Table.toNat)) k])) (by rw [dM hlk])) (zL))
 try simp only [NF] at h46
 obtain rfl : k = (setR (nth ts p.Table.toNat)).length := by omega
 refine aY (Jr ?_)
 refine Zs (aN ln Sr zS) ?_
 refine Ju (aj (R := rV) ln Sr Sr zS) fun _ => ?_
 refine Ju (aj AL Sr Sr zS) fun _ => ?_
 refine ae (aF ?_)
 have hR : nb s p ts = setR (nth ts p.Table.toNat) := by rw [nb, if_pos hok]
 have hE : jl s p ts = 0 := by rw [jl, if_pos hok]
 refine bZ (L' := [own 22 (rSl rValue) vr (setR (nth ts p.Table.toNat)), box b7 30 bg 0, box b6 73 rV vr]) (.c zS (SPs.of (A := own 22 (rSl rValue) vr ((setR (nth ts p.Table.toNat)).take (setR (nth ts p.Table.toNat)).length)) (by rw [List.take_length])) (zL)) ?_
 refine ua (call133 _) (recNil _ _) ?_
 refine bJ (rv := .cell 6 73) (rv' := .cell 7 30) rfl () (Sel.all _) (.cell (R := rV) ln Sr zS Sr) (.cell (R := bg) AL Sr zS Sr) (B := tSl (rSl rValue) (nb s p ts)) (B' := tV (.int .i64 (jl s p ts))) (DO hR.symm) (Frz.sub (Sub.int hE.symm)) Sr
def InE (h : PH) (e : Nat) (v : Value) : Prop := ∀ b off len cap, v = .slice (some ⟨b, off, none⟩) len cap -> 0 < len -> len <= cap /\ ∃ c fz, h b = some (.cells c e fz)
def xf {α : Type} (e : Nat) (R : Rp α) (xs : List α) : Ty where
 p := fun h v => (tSl R xs).p h v /\ InE h e v
 mono := fun l ⟨a, b⟩ => ⟨(tSl R xs).mono l a, fun b' off len cap e1 e2 => let ⟨hl, c, fz, hb⟩ := b b' off len cap e1 e2; ⟨hl, c, fz, l _ _ hb⟩⟩
def oP {α : Type} (e : Nat) (R : Rp α) : Rp (List α) := rT (xf e R) (by rintro h x v ⟨⟨ao, cap, rfl, _⟩, _⟩; rfl)
theorem D5 {α : Type} {R : Rp α} {e c : Nat} : Sub (tV (.slice none 0 c)) (xf e R ([] : List α)) := fun h v ev => ⟨DT h v ev, fun b off len cap e1 _ => by rw [show v = .slice none 0 c from ev] at e1; cases e1⟩
theorem tSl.weak {α : Type} {R R' : Rp α} {xs : List α} (hk : R'.k = R.k) (hr : ∀ h x cs, R.rel h x cs -> R'.rel h x cs) : Sub (tSl R xs) (tSl R' xs) := fun h v ⟨ao, cap, e, H⟩ =>
 ⟨ao, cap, e, fun hn => let ⟨b, off, ea, H'⟩ := H hn; ⟨b, off, ea, fun i x hx => let ⟨cs, H1, r⟩ := H' i x hx; ⟨cs, hk ▸ H1, hr _ _ _ r⟩⟩⟩
theorem Sub.ofEE {α : Type} {e e' : Nat} {R : Rp α} {xs : List (List α)} : Sub (xf e (oP e' R) xs) (tSl (rSl R) xs) := fun h v a =>
 tSl.weak (R := oP e' R) (R' := rSl R) _root_.rfl (fun h x cs ⟨u, e1, e2⟩ => ⟨u, e1, e2.1⟩) h v a.1
theorem Em {α : Type} {e : Nat} {R : Rp α} {v : Value} {xs : List α} {S : List SP} : Frz (Lg.own e R v xs :: S) (rV.ty v) (xf e R xs) := fun h m u d hs hv => by
 refine ⟨Frz.own h m u d hs hv, ?_⟩
 obtain ⟨m1, m2, d12, em, ho, _⟩ := hs
 subst em; have hv := hv.1; subst hv
 intro b off len cap e1 e2
 rcases ho with ⟨rfl, rfl, rfl⟩ | ⟨g, cap', cur, rfl, rfl, hlc, _, _, _⟩
 · cases e1
 · have e3 := Value.slice.inj e1
   have e4 := congrArg Addr.block (Option.some.inj e3.1)
   simp only at e4
   subst e4
   have hd := PH.disj_join'.1 d
   refine ⟨by rw [<- e3.2.1, <- e3.2.2]; exact hlc, cur, (0, 0), DA d _ _ (Dy _ _ _ _ (DS _ _))⟩
theorem Frz.ownE' {α : Type} {e : Nat} {R : Rp α} {v : Value} {xs ys : List α} {S : List SP} (h : xs = ys) : Frz (Lg.own e R v xs :: S) (rV.ty v) (xf e R ys) := h ▸ Em
theorem Fun1.to {P : Program} {f : Nat} {As : List Ty} {A B : Ty} (h : Fun1 P f As A) (s : Sub A B) : Fun1 P f As B := fun vs h0 m r w ha sp st => by
  refine (h vs h0 m r w ha sp st).mono ?_
  rintro e w' ⟨x', v, h', m', he, l, s1, st', hv⟩
  exact ⟨x', v, h', m', he, l, s1, st', s _ _ hv⟩
theorem Sub.tup2 {A B A' B' : Ty} (h1 : Sub A A') (h2 : Sub B B') : Sub (fA [A, B]) (fA [A', B']) := fun h v ⟨vs, e, ha⟩ => by
  obtain ⟨v1, v2, rfl, a1, a2⟩ : ∃ v1 v2, vs = [v1, v2] /\ A.p h v1 /\ B.p h v2 := by
    rcases vs with _ | ⟨v1, _ | ⟨v2, _ | ⟨v3, vs⟩⟩⟩
    · exact ha.elim
    · exact ha.2.elim
    · exact ⟨v1, v2, _root_.rfl, ha.1, ha.2.1⟩
    · exact ha.2.2.elim
  exact ⟨_, e, h1 _ _ a1, h2 _ _ a2, trivial⟩
theorem wG (a b : GValue) (w : World) : (Op.equal 87 (kvV a) (kvV b)).run prog w = .ok (decide (a = b)) w := by
  simp only [Op.equal, Op.maxDepth]; exact su a b w
theorem Da : KeyT prog 87 kvV where
  chk := fun b a w => by
    have u3 := underlying3
    have u9 := underlying9
    have a3 := isAgg3
    have a9 := isAgg9
    have z3 := sizeOf3
    have z9 := sizeOf9
    have h3 : ∀ (n : Nat) (x : Int) (w : World), (Instr.checkKey b (n + 1) 3 (.int .i64 x)).run prog w = .ok () w := fun n x w => by simp [Instr.checkKey, run_underlying u3]
    have h9 : ∀ (n : Nat) (x : ByteArray) (w : World), (Instr.checkKey b (n + 1) 9 (.string x)).run prog w = .ok () w := fun n x w => by simp [Instr.checkKey, run_underlying u9]
    have key : ∀ n, (Instr.checkKey b (n + 1 + 1) 87 (kvV a)).run prog w = .ok () w := fun n => by
      rw [Instr.checkKey]
      simp only [Sem.run_bind, run_underlying underlying87, Result.andThen_ok]
      rw [<- Array.forIn_toList]
      simp [part, Sem.run_bind, a3, a9, z3, z9, h3, h9]
    exact key 9998
  find := qV underlying87 (fun a b => rfl) wG
  bits := fun a => by
    have e : (a.Text == a.Text) = true := by rw [beq_toListBytes]; simp
    show Instr.sameBits (9999 + 1) _ _ = true
    simp [Instr.sameBits, e]
section
variable {κ β : Type} [DecidableEq κ] {kv : κ -> Value} {R : Rp β}
variable {C : Cx} {E : Env} {L : List SP} {d : Option Nat} {ty : Nat} {pos : String} {af : Array Edge} {g : Option (Nat × Bool)}
theorem oQ {T kt e : Nat} {x : Operand} {v : Value} {m : List (κ × β)} {S : List SP} (hu : C.P.underlying T = some (.map kt e)) (hx : Sub (opTy E x) (tV v)) (sel : Sel L [fF kv R v m] S) :
    bs C ⟨d, .call { callee := .builtin .len, args := #[x], argTypes := #[T] }, ty, pos, af, g⟩ E L (tV (.int .i64 m.length)) :=
  DC (by intro c h; cases h) fun a w h mm l sp st fr => by
    have hv : a.eval x = v := fr.get hx
    obtain ⟨m1, m2, d12, rfl, ⟨r, es, rfl, rfl, hr⟩, s2⟩ := sel.one.1 st
    have hb := sp.heap_own
    have hl := hr.length
    exact ⟨(), .int .i64 m.length, w, h, _, by simp [execOp, resolve, invoke, builtin, Builtin.len_, hv, run_underlying hu, goInt, dp hb, Sem.run_bind, hl], HL.refl, sp, st, rfl⟩
end
structure GStatsW where
  Rows : Value
  Distinct : Value
def zStatsW : GStatsW := { Rows := Value.slice none 0 0, Distinct := Value.slice none 0 0 }
def oR : List (SF GStatsW) := [⟨Value, 36, rV, GStatsW.Rows⟩, ⟨Value, 58, rV, GStatsW.Distinct⟩]
abbrev cF : Rp GStatsW := bG oR
theorem mJ : TyOf prog 36 rV := ⟨fun w => isAgg36 w, fun w => sizeOf36 w⟩
theorem mK : TyOf prog 58 rV := ⟨fun w => isAgg58 w, fun w => sizeOf58 w⟩
theorem qA : TyOf prog 60 cF := ⟨fun w => isAgg60 w, fun w => sizeOf60 w⟩
theorem nf : StructOf prog 60 oR := ⟨⟨_, underlying60, ⟨rfl, rfl, mJ, by decide, ⟨rfl, rfl, mK, by decide, trivial⟩⟩⟩, qA⟩
theorem Al : ∀ h, (cF.ty zStatsW).p h (.agg #[Value.slice none 0 0, Value.slice none 0 0]) := fun _ => ⟨_, ⟨[Value.slice none 0 0], _, rfl, ⟨rfl, rfl⟩, ⟨[Value.slice none 0 0], _, rfl, ⟨rfl, rfl⟩, rfl⟩⟩, rfl⟩
def GStatsW.up (x : GStatsW) (aRows : List Int) (aDistinct : List (List Int)) : GStats := { Rows := aRows, Distinct := aDistinct }
theorem Bl {h h' : PH} {x : GStatsW} (aRows : List Int) (aDistinct : List (List Int)) {cs : List Value} (l : h.le h') (vRows : (tSl bg aRows).p h' x.Rows) (vDistinct : (tSl (rSl bg) aDistinct).p h' x.Distinct) (r : SF.rel h x oR cs) : SF.rel h' (x.up aRows aDistinct) n3 cs := by
  obtain ⟨c0, _, rfl, r0, c1, _, rfl, r1, rz⟩ := r
  exact ⟨c0, _, rfl, ⟨_, r0.1, vRows⟩, ⟨c1, _, rfl, ⟨_, r1.1, vDistinct⟩, rz⟩⟩
def sR : List (SF GStats) := [⟨List Int, 36, (oP 3 bg), GStats.Rows⟩, ⟨List (List Int), 58, (oP 36 (oP 3 bg)), GStats.Distinct⟩]
abbrev eF : Rp GStats := bG sR
theorem Bm : TyOf prog 36 (oP 3 bg) := ⟨fun w => isAgg36 w, fun w => sizeOf36 w⟩
theorem Cf : TyOf prog 58 (oP 36 (oP 3 bg)) := ⟨fun w => isAgg58 w, fun w => sizeOf58 w⟩
theorem qB : TyOf prog 60 eF := ⟨fun w => isAgg60 w, fun w => sizeOf60 w⟩
theorem Bn : StructOf prog 60 sR := ⟨⟨_, underlying60, ⟨rfl, rfl, Bm, by decide, ⟨rfl, rfl, Cf, by decide, trivial⟩⟩⟩, qB⟩
theorem Cg : ∀ h, ((oP 3 bg).ty []).p h (Value.slice none 0 0) := fun h => D5 h _ rfl
theorem Bo : ElT prog 36 (oP 3 bg) 24 [] := ⟨Bm, by decide, t36, (Value.slice none 0 0), by kernel_rfl, by kernel_rfl, by kernel_rfl, by kernel_rfl, Cg⟩
theorem Ch : ∀ h, (eF.ty zStats).p h (.agg #[Value.slice none 0 0, Value.slice none 0 0]) := fun h => ⟨_, ⟨[Value.slice none 0 0], _, rfl, ⟨_, rfl, D5 h _ rfl⟩, ⟨[Value.slice none 0 0], _, rfl, ⟨_, rfl, D5 h _ rfl⟩, rfl⟩⟩, rfl⟩
theorem ub {h : PH} {x : GStats} {cs : List Value} (r : eF.rel h x cs) : bA.rel h x cs := by
  obtain ⟨c0, _, rfl, ⟨v, e, q0⟩, c1, _, rfl, ⟨u, e2, q1⟩, rfl⟩ := r
  exact ⟨_, _, rfl, ⟨v, e, q0.1⟩, _, _, rfl, ⟨u, e2, Sub.ofEE h u q1⟩, rfl⟩
theorem Sub.statsE {x : GStats} : Sub (eF.ty x) (bA.ty x) := fun h v ⟨cs, r, e⟩ => ⟨cs, ub r, e⟩
theorem Frz.stats {b : Nat} {vr vd : Value} {rs : List Int} {ds : List (List Int)} {S : List SP} :
    Frz (Lg.box b 60 cF ⟨vr, vd⟩ :: Lg.own 3 bg vr rs :: Lg.own 36 (oP 3 bg) vd ds :: S) (tAt b 0) (bx eF ⟨rs, ds⟩) :=
  En fun h m cs d st r => by
    have le := Dy h m
    obtain ⟨m1, m2, d12, e, ho, st2⟩ := st
    have hd := PH.disj_join'.1 (e ▸ d)
    obtain ⟨c0, _, rfl, q0, c1, _, rfl, q1, rfl⟩ := r
    obtain ⟨rfl, w0⟩ := (show rV.rel h vr c0 from q0)
    obtain ⟨rfl, w1⟩ := (show rV.rel h vd c1 from q1)
    have hk : (xf 3 bg rs).p (h.join m) vr := by
      have := Em (S := []) h m1 vr hd.1 ⟨m1, PH.emp, DM _, (DJ _).symm, ho, rfl⟩ ⟨rfl, w0⟩
      refine (xf 3 bg rs).mono ?_ this
      subst e; rw [<- DH]; exact Dy _ _
    have hdv : (xf 36 (oP 3 bg) ds).p (h.join m) vd := by
      have := Em h m2 vd hd.2 st2 ⟨rfl, w1⟩
      refine (xf 36 (oP 3 bg) ds).mono ?_ this
      subst e; rw [DW d12, <- DH]; exact Dy _ _
    exact ⟨_, _, rfl, ⟨_, rfl, hk⟩, _, _, rfl, ⟨_, rfl, hdv⟩, rfl⟩
def jm (c : Nat) (m : List (GValue × Bool)) (r : LV) : List (GValue × Bool) := if (nth r c).Kind ≠ 0 then mput m (nth r c) true else m
def j7 (rows : List LV) (c : Nat) : List (GValue × Bool) := rows.foldl (jm c) []
def zd (rows : List LV) (c : Nat) : Int := ((j7 rows c).length : Int)
def gF (rows : List LV) (n : Nat) : List Int := (List.range n).map fun c => zd rows c
def j8 (rows : List LV) (n c : Nat) : List Int := (List.range n).map fun k => if k < c then zd rows k else 0
theorem qC (rows : List LV) (n c : Nat) : (j8 rows n c).length = n := by simp [j8]
theorem Am (rows : List LV) (n : Nat) : j8 rows n 0 = List.replicate n 0 := by
  refine List.ext_getElem (by simp [j8]) fun i h1 h2 => ?_
  simp [j8]
theorem wH (rows : List LV) (n : Nat) : j8 rows n n = gF rows n := by
  unfold j8 gF
  refine List.map_congr_left fun k hk => ?_
  rw [if_pos (List.mem_range.1 hk)]
theorem wI {rows : List LV} {n c : Nat} (h : c < n) : (j8 rows n c).set c (zd rows c) = j8 rows n (c + 1) := by
  refine List.ext_getElem (by simp [j8]) fun i h1 h2 => ?_
  rw [List.getElem_set]
  simp only [j8, List.getElem_map, List.getElem_range]
  by_cases hi : c = i
  · subst hi; simp
  · rw [if_neg hi]
    by_cases h3 : i < c
    · rw [if_pos h3, if_pos (by omega)]
    · rw [if_neg h3, if_neg (by omega)]
def planT (s : GSchema) (t : Nat) : aG := GPl.mk 1 (t : Int) [] [] [] 0 0 (nth s.Tables t).Attrs
def f0 (s : GSchema) (ts : List (List LV)) : Bool := decide ((ts.length : Int) = s.Tables.length) && (List.range s.Tables.length).all fun t => fp s (planT s t) ts
def co (ts : List (List LV)) (i : Nat) : List Int := (List.range i).map fun t => ((setR (nth ts t)).length : Int)
def cM (s : GSchema) (ts : List (List LV)) (i : Nat) : List (List Int) := (List.range i).map fun t => gF (setR (nth ts t)) (nth s.Tables t).Attrs.length
def gn (s : GSchema) (ts : List (List LV)) : GStats := if f0 s ts = true then ⟨co ts s.Tables.length, cM s ts s.Tables.length⟩ else zStats
def jn (s : GSchema) (ts : List (List LV)) : Int := if f0 s ts = true then 0 else 1
theorem j9 (ts : List (List LV)) (i : Nat) : co ts (i + 1) = co ts i ++ [((setR (nth ts i)).length : Int)] := by simp [co, List.range_succ]
theorem ld (s : GSchema) (ts : List (List LV)) (i : Nat) : cM s ts (i + 1) = cM s ts i ++ [gF (setR (nth ts i)) (nth s.Tables i).Attrs.length] := by simp [cM, List.range_succ]
theorem qD {rows : List LV} {c j : Nat} (h : j < rows.length) : j7 (rows.take (j + 1)) c = jm c (j7 (rows.take j) c) (nth rows j) := eB h
theorem yl {κ β : Type} [DecidableEq κ] (m : List (κ × β)) (q : κ) (y : β) : (mput m q y).length <= m.length + 1 := by
  induction m with
  | nil => simp [mput]
  | cons a m ih =>
    obtain ⟨k, x⟩ := a
    unfold mput
    split <;> simp <;> omega
theorem ym (rows : List LV) (c : Nat) : (j7 rows c).length <= rows.length := by
  have : ∀ (l : List LV) (m : List (GValue × Bool)), (l.foldl (jm c) m).length <= m.length + l.length := by
    intro l
    induction l with
    | nil => intro m; simp
    | cons a l ih =>
      intro m
      have h1 := ih (jm c m a)
      have h2 : (jm c m a).length <= m.length + 1 := by
        unfold jm
        split
        · exact yl _ _ _
        · omega
      simp only [List.foldl_cons, List.length_cons]; omega
  have := this rows []
  simpa [j7] using this
theorem lw (s : GSchema) (hz : SchSz s) (ha : ∀ t ∈ s.Tables, t.Attrs.length <= 1000) (ts : List (List LV)) (hl : ∀ t ∈ ts, t.length <= 4000) (hr : ∀ t ∈ ts, ∀ r ∈ t, r.length <= 1000000) : Fun1 prog 36 [aV.ty s, tSl (rSl (rSl rValue)) ts] (fA [eF.ty (gn s ts), tV (.int .i64 (jn s ts))]) := by
 refine Spec.enter func36 rfl rfl fun h0 w0 fr0 => ?_
 have htl := hz.tabs
 refine Jr (Zs (aJ (R := aV) Sr) ?_)
 refine Zx (aD (fun w => zeroValue60 w) Ch) fun b4 => ?_
 refine Za (ae (ar (Jr (Zm (Zs (ah underlying61 Sr) ?_)))))
 refine Zs (aa g6 Sr rfl) (Zl g5 Sr (Zs (ah underlying39 Sr) (Zs (bb Sr Sr) (ae ?_))))
 refine au Sr (fun h23 => ?_) (fun h23 => ?_)
 ·
  try simp only [NF] at h23
  refine Jr ?_
  refine Zs (aU (x := zStats) (zs := [[Value.slice none 0 0], [Value.slice none 0 0]]) Bn (fun w => zeroValue60 w) trivial ⟨fun h => ⟨_, rfl, D5 h _ rfl⟩, fun h => ⟨_, rfl, D5 h _ rfl⟩, trivial⟩) ?_
  refine Ju (aj qB Sr Sr zS) fun _ => ?_
  refine Za (ae (aF ?_))
  have hf : f0 s ts = false := by simp [f0, show ¬ (ts.length : Int) = s.Tables.length by omega]
  have hR : gn s ts = zStats := by rw [gn, if_neg (by rw [hf]; simp)]
  have hE : jn s ts = 1 := by rw [jn, if_neg (by rw [hf]; simp)]
  refine bJ (rv := .cell 4 60) (rv' := .tmp 5) rfl () (Sel.all _) (.cell (R := eF) qB Sr zS Sr) (.tmp Sr) (Frz.sub (Ec (by rw [hR]))) (Frz.sub (Sub.int (hE.symm))) Sr
 try simp only [NF] at h23
 have hlen : ts.length = s.Tables.length := by omega
 refine ay (Jr ?_)
 refine Zx (aD (fun w => zeroValue60 w) Al) fun b6 => ?_
 refine ae (ar (Jr (Zs (aa g6 Sr rfl) (Zl g5 Sr (Zs (ah underlying39 Sr) ?_)))))
 refine Zm (ae (av ?_))
 refine aO (σ := Nat × Value × Value) (fun ⟨i, vr, vd⟩ => i <= s.Tables.length /\ ∀ k, k < i -> fp s (planT s k) ts = true) (fun ⟨i, vr, vd⟩ => upd (upd (upd (upd (upd (upd (upd cg 1 (tSl (rSl (rSl rValue)) ts)) 2 (bx aV s)) 4 (tAt b4 0)) 6 (tAt b6 0)) 26 (tSl cc s.Tables)) 27 (tV (.int .i64 s.Tables.length))) 28 (tV (.int .i64 i))) (fun ⟨i, vr, vd⟩ => [box b6 60 cF ⟨vr, vd⟩, own 3 bg vr (co ts i), own 36 (oP 3 bg) vd (cM s ts i), box b4 60 eF zStats]) (fun ⟨i, vr, vd⟩ => s.Tables.length - i) (0, .slice none 0 0, .slice none 0 0) ⟨by exact Nat.zero_le _, fun k hk => absurd hk (Nat.not_lt_zero _)⟩ (zU) (LSub.trans (LSub.trans (DB (e := 36) (R := oP 3 bg)) (DB (e := 3) (R := bg))) (LSub.cons (Sel.skip (Sel.skip (Sel.take (Dz _)))) SPs.rfl (LSub.cons (Sel.take (Dz _)) SPs.rfl (LSub.cons (Sel.take (Dz _)) SPs.rfl (LSub.cons (Sel.take (Dz _)) SPs.rfl LSub.nil))))) ?_
 rintro ⟨i, vr, vd⟩ ⟨hi, hv⟩
 refine Jr (Zs (aA Sr Sr) (ae (ar ?_)))
 refine au Sr (fun h29 => ?_) (fun h29 => ?_)
 ·
  try simp only [NF] at h29
  have hlt : i < s.Tables.length := by omega
  have hlts : i < ts.length := by omega
  have hat := ha _ (aH hlt)
  have hpz : od (0 + 1) (planT s i) := ⟨by show (0 : Nat) <= _; omega, by show (0 : Nat) <= _; omega, by show (0 : Nat) <= _; omega, hat, fun q hq => by cases hq⟩
  have hl4 := hl _ (aH hlts)
  have hrl : (co ts i).length = i := by simp [co]
  have hdl : (cM s ts i).length = i := by simp [cM]
  refine ay (ar (av (Jr (Zm ?_))))
  refine Zs (ad (i := i) underlying39 g8 Sr Sr (by rfl) (gb (by exact hlt))) ?_
  refine Zl g8 Sr ?_
  refine Zx (aD (fun w => zeroValue76 w) BO) fun b8 => ?_
  refine Za ?_
  refine Ju (aj g8 Sr Sr zS) fun _ => ?_
  refine bc (t := 8) (Sel.take (Dz _)) Frz.box ?_
  refine ae (Jr (Zm (Zs (aa eu Sr rfl) (Zl bQ Sr (Zs (aU (x := (planT s i : aG)) (zs := [[Value.int .i64 0], [Value.int .i64 0], [Value.slice none 0 0], [Value.slice none 0 0], [Value.slice none 0 0], [Value.int .i64 0], [Value.int .i64 0], [Value.slice none 0 0]]) (br (n := 0)) (fun w => zeroValue46 w) ⟨Sr, Sr, Sr, trivial⟩ ⟨⟨Sr, rfl⟩, ⟨Sr, rfl⟩, fun _ => ⟨_, rfl, none, ⟨0, Nat.le_refl _⟩, rfl, fun q => absurd rfl q⟩, fun _ => ⟨_, rfl, none, ⟨0, Nat.le_refl _⟩, rfl, fun q => absurd rfl q⟩, fun _ => ⟨_, rfl, none, ⟨0, Nat.le_refl _⟩, rfl, fun q => absurd rfl q⟩, fun _ => rfl, fun _ => rfl, ⟨Sr, rfl⟩, trivial⟩) ?_)))))
  refine Zx (aD (R := aR (0 + 1)) (fun w => zeroValue46 w) ss) fun b9 => ?_
  refine Ju (aj dl Sr Sr zS) fun _ => ?_
  refine bc (t := 9) (Sel.take (Dz _)) Frz.box ?_
  refine ae (ar (Jr (Zl fR Sr (Zl dl Sr (Zm ?_)))))
  refine Zs (ai (qz s hz 0 (planT s i) hpz rfl rfl ts hl hr) ⟨Sr, Sr, Sr, trivial⟩ call83) (Zm (Zs (aM Sr rfl) (Zs (aM Sr rfl) (Za (Za ?_)))))
  refine ae (Jr (Zm (Zs (aC Sr Sr) (ae ?_))))
  refine au Sr (fun h45 => ?_) (fun h45 => ?_)
  ·
   try simp only [NF] at h45
   have hf : fp s (planT s i) ts = false := by
    have h45 : jl s (planT s i) ts = 1 := h45
    unfold jl at h45
    split at h45
    ·
     omega
    rename_i q; simpa using q
   refine Jr ?_
   refine Zs (aU (x := zStats) (zs := [[Value.slice none 0 0], [Value.slice none 0 0]]) Bn (fun w => zeroValue60 w) trivial ⟨fun h => ⟨_, rfl, D5 h _ rfl⟩, fun h => ⟨_, rfl, D5 h _ rfl⟩, trivial⟩) ?_
   refine Zm ?_
   refine Ju (aj qB Sr Sr zS) fun _ => ?_
   refine Za (ae (aF ?_))
   have hf : f0 s ts = false := by rw [f0, eV (f := fun t => fp s (planT s t) ts) hlt hf, Bool.and_false]
   have hR : gn s ts = zStats := by rw [gn, if_neg (by rw [hf]; simp)]
   have hE : jn s ts = 1 := by rw [jn, if_neg (by rw [hf]; simp)]
   refine bJ (rv := .cell 4 60) (rv' := .tmp 5) rfl () (Sel.all _) (.cell (R := eF) qB Sr zS Sr) (.tmp Sr) (Frz.sub (Ec (by rw [hR]))) (Frz.sub (Sub.int (show jl s (planT s i) ts = jn s ts by rw [hE]; exact h45))) Sr
  try simp only [NF] at h45
  have hok : fp s (planT s i) ts = true := by
   have h45 : ¬ jl s (planT s i) ts = 1 := h45
   unfold jl at h45
   split at h45
   ·
    assumption
   omega
  have hrow := (wE hok).2.2 i hlts
  have hsl := oN (nth ts i)
  refine ay (Jr (Zm (Zm ?_)))
  refine Zs (ad (i := i) underlying61 kp Sr Sr (by rfl) (gb (by exact hlts))) ?_
  refine Zl kp Sr (Zs (ai (rU (nth ts i)) ⟨Sr, trivial⟩ call85) ?_)
  refine Zx (bz (Dz _) (mH (nth ts i) zG (hr _ (aH hlts))) ⟨Sr, Sr, trivial⟩ call84) fun v53 => ?_
  refine Za (ae (Jr (Zm ?_)))
  refine Zx (bz (Sel.take (Dz _)) (gX v53 (mF (nth ts i)) (by rw [mG]; omega) 88 (fun x y hx hy => t8 x y (hr _ (aH hlts) x ((ei _).mem_iff.1 hx)) (hr _ (aH hlts) y ((ei _).mem_iff.1 hy))) call88) ⟨Sr, Sr, trivial⟩ call87) fun v55 => ?_
  refine Za (ae (ar ?_))
  refine bF (t := 12) (A' := tSl (rSl rValue) (setR (nth ts i))) zS (DO rfl) ?_
  refine aq (Zs (aa eu Sr rfl) (Zl bQ Sr (Zs (ah underlying44 Sr) ?_)))
  refine Zx (pd underlying36 el3 Sr Sr (n := (nth s.Tables i).Attrs.length) rfl zG zG) fun v59 => ?_
  refine Za (ae (ar (Jr (Zm ?_))))
  refine Zs (cj underlying36 Sr zS) ?_
  refine Zm (ae (av ?_))
  refine aO (σ := Nat) (fun c => c <= (nth s.Tables i).Attrs.length) (fun c => upd (upd (upd (upd (upd (upd (upd (upd (upd (upd (upd cg 1 (tSl (rSl (rSl rValue)) ts)) 2 (bx aV s)) 4 (tAt b4 0)) 6 (tAt b6 0)) 12 (tSl (rSl rValue) (setR (nth ts i)))) 13 (rV.ty v59)) 26 (tSl cc s.Tables)) 27 (tV (.int .i64 s.Tables.length))) 28 (tV (.int .i64 i))) 61 (tV (.int .i64 ((nth s.Tables i).Attrs.length : Nat)))) 62 (tV (.int .i64 c))) (fun c => [own 3 bg v59 (j8 (setR (nth ts i)) (nth s.Tables i).Attrs.length c), box b6 60 cF ⟨vr, vd⟩, own 3 bg vr (co ts i), own 36 (oP 3 bg) vd (cM s ts i), box b4 60 eF zStats]) (fun c => (nth s.Tables i).Attrs.length - c) 0 (by exact Nat.zero_le _) (.u (SubE.upd (Sub.int (by rw [List.length_replicate])) (zU))) (.c zS (SPs.of (A := own 3 bg v59 (List.replicate (nth s.Tables i).Attrs.length 0)) (by rw [Am])) (zL)) ?_
  rintro c hc
  refine Jr (Zs (aA Sr Sr) (ae (ar ?_)))
  refine au Sr (fun h63 => ?_) (fun h63 => ?_)
  ·
   try simp only [NF] at h63
   have hlc : c < (nth s.Tables i).Attrs.length := by omega
   refine ay (ar (av (Jr (Zm (Za ?_)))))
   refine ae (Jr ?_)
   refine Zx (kO (kv := kvV) (R := lk)) fun v65 => ?_
   refine Za (ae (ar (Jr (Zm (Zs (ah underlying73 Sr) ?_)))))
   refine Zm (ae (av ?_))
   refine aO (σ := Nat) (fun j => j <= (setR (nth ts i)).length) (fun j => upd (upd (upd (upd (upd (upd (upd (upd (upd (upd (upd (upd (upd (upd (upd (upd cg 1 (tSl (rSl (rSl rValue)) ts)) 2 (bx aV s)) 4 (tAt b4 0)) 6 (tAt b6 0)) 12 (tSl (rSl rValue) (setR (nth ts i)))) 13 (rV.ty v59)) 14 (tV (.int .i64 c))) 15 (tV v65)) 26 (tSl cc s.Tables)) 27 (tV (.int .i64 s.Tables.length))) 28 (tV (.int .i64 i))) 61 (tV (.int .i64 ((nth s.Tables i).Attrs.length : Nat)))) 62 (tV (.int .i64 c))) 66 (tSl (rSl rValue) (setR (nth ts i)))) 67 (tV (.int .i64 (setR (nth ts i)).length))) 68 (tV (.int .i64 j))) (fun j => [fF kvV lk v65 (j7 ((setR (nth ts i)).take j) c), own 3 bg v59 (j8 (setR (nth ts i)) (nth s.Tables i).Attrs.length c), box b6 60 cF ⟨vr, vd⟩, own 3 bg vr (co ts i), own 36 (oP 3 bg) vd (cM s ts i), box b4 60 eF zStats]) (fun j => (setR (nth ts i)).length - j) 0 (by exact Nat.zero_le _) (zU) (zL) ?_
   rintro j hj
   refine Jr (Zs (aA Sr Sr) (ae (ar ?_)))
   refine au Sr (fun h69 => ?_) (fun h69 => ?_)
   ·
    try simp only [NF] at h69
    have hlj : j < (setR (nth ts i)).length := by omega
    have hrw := hrow _ (oO (aH hlj))
    refine ay (ar (av (Jr ?_)))
    refine Zs (ad (i := j) underlying73 fh Sr Sr (by rfl) (gb (by exact hlj))) ?_
    refine Zl fh Sr (Za (ae (Jr (Zm (Zm ?_)))))
    refine Zs (ad (i := c) underlying22 jp Sr Sr (by rfl) (gb (by show c < (nth (setR (nth ts i)) j).length; omega))) ?_
    refine Zs (aa eT Sr rfl) (Zl ty3 Sr (Zs (bb Sr Sr) (ae ?_)))
    refine au Sr (fun h77 => ?_) (fun h77 => ?_)
    ·
     try simp only [NF] at h77
     have h77 : (nth (nth (setR (nth ts i)) j) c).Kind ≠ 0 := h77
     refine aq (Zm (Zm (Zm ?_)))
     refine Zs (ad (i := c) underlying22 jp Sr Sr (by rfl) (gb (by show c < (nth (setR (nth ts i)) j).length; omega))) ?_
     refine Zl jp Sr ?_
     refine Ju (iW (kv := kvV) (R := lk) Da underlying142 Sr (Sub.trans Sr Sub.val) Sr zS) fun _ => ?_
     refine ae (aq (Zs (aB Sr Sr z6) (Zm (ae ?_))))
     refine aE (σ := Nat) (s := j) (j + 1) zO (by show j + 1 <= _; omega) (zU) (.c zS (SPs.of (A := fF kvV lk v65 (mput (j7 ((setR (nth ts i)).take j) c) (nth (nth (setR (nth ts i)) j) c) true)) (by rw [qD hlj, jm, if_pos h77])) (zL))
    try simp only [NF] at h77
    have h77 : ¬ (nth (nth (setR (nth ts i)) j) c).Kind ≠ 0 := by simpa using h77
    refine ay (aq (Zs (aB Sr Sr z6) (Zm (ae ?_))))
    refine aE (σ := Nat) (s := j) (j + 1) zO (by show j + 1 <= _; omega) (zU) (.c zS (SPs.of (A := fF kvV lk v65 (j7 ((setR (nth ts i)).take j) c)) (by rw [qD hlj, jm, if_neg h77])) (zL))
   try simp only [NF] at h69
   obtain rfl : j = (setR (nth ts i)).length := by omega
   have hsn := ym (setR (nth ts i)) c
   refine aY (aq (Zm (Zm (Zm ?_))))
   refine Zs (oQ (kv := kvV) (R := lk) underlying142 Sr zS) ?_
   refine Zs (bd (i := c) underlying36 ty3 Sr zS Sr (by rfl) (by rw [qC]; exact hlc)) ?_
   refine Ju (dK ty3 Sr Sr zS (by rw [qC]; exact hlc)) fun _ => ?_
   refine ae (aq (Zs (aB Sr Sr z6) (Zm (ae ?_))))
   rw [List.take_length]
   refine ut (S := [fF kvV lk v65 (j7 (setR (nth ts i)) c)]) zS ?_
   refine aE (σ := Nat) (s := c) (c + 1) zO (by show c + 1 <= _; omega) (zU) (.c zS (SPs.of (A := own 3 bg v59 ((j8 (setR (nth ts i)) (nth s.Tables i).Attrs.length c).set c (zd (setR (nth ts i)) c))) (by rw [<- wI hlc])) (zL))
  try simp only [NF] at h63
  obtain rfl : c = (nth s.Tables i).Attrs.length := by omega
  refine aY (ar ?_)
  refine bF (t := 13) (A' := xf 3 bg (gF (setR (nth ts i)) (nth s.Tables i).Attrs.length)) zS (Frz.ownE' (wH _ _)) ?_
  refine aq (Zs (aP nf Sr rfl) ?_)
  refine Zs (aQ mJ Sr rfl zS) ?_
  refine Zm (Zs (ah underlying73 Sr) ?_)
  refine Zs (ax (ys := [_]) underlying36 el3 ⟨rfl, Sr, trivial⟩ rfl (by decide)) ?_
  refine Zx (aL underlying36 el3 Sr Sr zS (by simp only [List.length_append, List.length_cons, List.length_nil]; omega) (by simp only [List.length_append, List.length_cons, List.length_nil]; omega)) fun v95 => ?_
  refine Zs (aP nf Sr rfl) ?_
  refine Ju (aI (R := rV) (y' := ⟨v95, vd⟩) mJ Sr Sr zS (by exact ⟨fun _ _ q => q, rfl, by intro g hg; simp only [List.mem_cons, List.not_mem_nil, or_false] at hg; subst hg; rfl⟩)) fun _ => ?_
  refine ae (aq (Zs (aP nf Sr rfl) ?_))
  refine Zs (aQ mK Sr rfl zS) ?_
  refine Zm ?_
  refine Zs (ax (ys := [_]) underlying58 Bo ⟨rfl, Sr, trivial⟩ rfl (by decide)) ?_
  refine Zx (aL underlying58 Bo Sr Sr zS (by simp only [List.length_append, List.length_cons, List.length_nil]; omega) (by simp only [List.length_append, List.length_cons, List.length_nil]; omega)) fun v101 => ?_
  refine Zs (aP nf Sr rfl) ?_
  refine Ju (aI (R := rV) (y' := ⟨v95, v101⟩) mK Sr Sr zS (by exact ⟨rfl, ⟨fun _ _ q => q, rfl, by intro g hg; cases hg⟩⟩)) fun _ => ?_
  refine ae (aq (Zs (aB Sr Sr z6) (Zm (ae ?_))))
  refine aE (σ := Nat × Value × Value) (s := (i, vr, vd)) (i + 1, v95, v101) zO ⟨by show i + 1 <= _; omega, fun k hk => by by_cases e : k = i; exact e ▸ hok; exact hv k (by have hk : k < i + 1 := hk; omega)⟩ (zU) (.r zS (.c zS (SPs.of (A := own 3 bg v95 (co ts i ++ [((setR (nth ts i)).length : Int)])) (by rw [j9])) (.c zS (SPs.of (A := own 36 (oP 3 bg) v101 (cM s ts i ++ [gF (setR (nth ts i)) (nth s.Tables i).Attrs.length])) (by rw [ld])) (zL))))
 try simp only [NF] at h29
 obtain rfl : i = s.Tables.length := by omega
 refine aY (ar ?_)
 refine bZ (L' := [box b6 60 cF ⟨vr, vd⟩, own 3 bg vr (co ts s.Tables.length), own 36 (oP 3 bg) vd (cM s ts s.Tables.length), box b4 60 eF zStats]) (zL) ?_
 refine bF (t := 6) (A' := bx eF ⟨co ts s.Tables.length, cM s ts s.Tables.length⟩) (Sel.take (Sel.take (Sel.take (Dz _)))) Frz.stats ?_
 refine aq (Zl qB Sr ?_)
 refine Ju (aj qB Sr Sr zS) fun _ => ?_
 refine Za (ae (aF ?_))
 have hf : f0 s ts = true := by
  rw [f0, eU (n := s.Tables.length) (fun k hk => hv k hk)]
  simp [hlen]
 have hR : gn s ts = ⟨co ts s.Tables.length, cM s ts s.Tables.length⟩ := by rw [gn, if_pos hf]
 have hE : jn s ts = 0 := by rw [jn, if_pos hf]
 refine bJ (rv := .cell 4 60) (rv' := .tmp 5) rfl () (Sel.all _) (.cell (R := eF) qB Sr zS Sr) (.tmp Sr) (Frz.sub (Ec (by rw [hR]))) (Frz.sub (Sub.int (hE.symm))) Sr
theorem iw (s : GSchema) (hz : SchSz s) (ha : ∀ t ∈ s.Tables, t.Attrs.length <= 1000) (ts : List (List LV)) (hl : ∀ t ∈ ts, t.length <= 4000) (hr : ∀ t ∈ ts, ∀ r ∈ t, r.length <= 1000000) : Fun1 prog 36 [aV.ty s, tSl (rSl (rSl rValue)) ts] (fA [bA.ty (gn s ts), tV (.int .i64 (jn s ts))]) :=
  Fun1.to (lw s hz ha ts hl hr) (Sub.tup2 Sub.statsE Sr)
theorem DZ {xs : List aG} : Sub (tSl bO xs) (tSl dZ xs) := fun h v hv => tSl_up (R := bO) (R' := dZ) _root_.rfl (fun r => ox r) hv
abbrev uc : List (List GValue) := [[numV 1, numV 2], [numV 3, numV 2], [numV 1, numV 2], [numV 5, zValue]]
abbrev rX : List (List (List GValue)) := [uc, []]
abbrev kStats : GStats := ⟨[3, 0], [[3, 1], [0, 0]]⟩
abbrev Db : List (List GValue) := [[numV 1, numV 2], [numV 3, numV 2], [numV 5, zValue]]
theorem Bp : setR uc = Db := by
  unfold setR
  rw [<- oM (xs := uc) (ys := [[numV 1, numV 2], [numV 1, numV 2], [numV 3, numV 2], [numV 5, zValue]]) (by decide +kernel) (by decide +kernel)]
  decide +kernel
theorem Bq : setR [] = [] := by
  unfold setR
  rw [<- oM (xs := []) (ys := []) (List.Perm.refl _) List.Pairwise.nil]
  rfl
theorem Dc : gn kS rX = kStats := by
  unfold gn
  rw [if_pos (by decide +kernel)]
  have h1 : co rX kS.Tables.length = [3, 0] := by
    show [((setR uc).length : Int), ((setR []).length : Int)] = _
    rw [Bp, Bq]; decide +kernel
  have h2 : cM kS rX kS.Tables.length = [[3, 1], [0, 0]] := by
    show [gF (setR uc) kAB.length, gF (setR []) kBC.length] = _
    rw [Bp, Bq]; decide +kernel
  rw [h1, h2]
theorem Dd : jn kS rX = 0 := by unfold jn; rw [if_pos (by decide +kernel)]
theorem sS {s : GSchema} {p : aG} {st : GStats} (h : bq s p st = true) : tM s p st = 0 := if_pos h
theorem Br {n : Nat} {p : aG} {st : GStats} (hd : Dep n p) (hz : PSz p) (hs : ∀ d ∈ st.Distinct, d.length <= 1000000000000) {a e : Int} (h1 : pb kS n p st = a) (h2 : tM kS p st = e) : Fun1 prog 38 [aV.ty kS, bO.ty p, bA.ty st] (fA [tV (.int .i64 a), tV (.int .i64 e)]) := by
  have := i8 kS kSz n p hd hz st hs
  rwa [h1, h2] at this
theorem Bt : ∀ d ∈ kSt.Distinct, d.length <= 1000000000000 := by decide
theorem Ci : Fun1 prog 40 [aV.ty kS, bO.ty kTop, bA.ty kSt] (fA [bO.ty Ai, tV (.int .i64 0)]) := by
  have := kZ kS kSz (by decide) 3 kTop kdP kzP (fun _ => by decide +kernel) kSt Bt
  rwa [Cd, show Ah kS kTop kSt = 0 from wu kp3] at this
theorem De : Fun1 prog 36 [aV.ty kS, tSl (rSl (rSl rValue)) rX] (fA [bA.ty kStats, tV (.int .i64 0)]) := by
  have := iw kS kSz (by decide) rX (by decide) (by decide)
  rwa [Dc, Dd] at this
theorem ng  : Fun1 prog 79 [] (aV.ty kS) := by
 refine Spec.enter func79 rfl rfl fun h0 w0 fr0 => ?_
 refine Jr ?_
 refine Zx (aD (fun w => zeroValue41 w) Cz) fun b0 => ?_
 refine ae (Jr (Zs (ai (ec kA) ⟨Sr, trivial⟩ call81) (Zs (ai (ec kB) ⟨Sr, trivial⟩ call81) ?_)))
 refine Zs (ax (ys := kAB) underlying44 gv ⟨rfl, Sr, rfl, Sr, trivial⟩ rfl (by decide)) ?_
 refine Zs (ax (ys := [0]) underlying36 el3 ⟨rfl, Sr, trivial⟩ rfl (by decide)) ?_
 refine Zs (aU (x := (⟨⟨#[116]⟩, kAB, [0]⟩ : GTable)) (zs := [[Value.string ⟨#[]⟩], [Value.slice none 0 0], [Value.slice none 0 0]]) eu (fun w => zeroValue76 w) ⟨Sr, Sr, Sr, trivial⟩ ⟨⟨Sr, rfl⟩, ⟨Sr, rfl⟩, ⟨Sr, rfl⟩, trivial⟩) (Zs (ai (ec kB) ⟨Sr, trivial⟩ call81) (Zs (ai (ec kC) ⟨Sr, trivial⟩ call81) ?_))
 refine Zs (ax (ys := kBC) underlying44 gv ⟨rfl, Sr, rfl, Sr, trivial⟩ rfl (by decide)) ?_
 refine Zs (ax (ys := [0]) underlying36 el3 ⟨rfl, Sr, trivial⟩ rfl (by decide)) ?_
 refine Zs (aU (x := (⟨⟨#[117]⟩, kBC, [0]⟩ : GTable)) (zs := [[Value.string ⟨#[]⟩], [Value.slice none 0 0], [Value.slice none 0 0]]) eu (fun w => zeroValue76 w) ⟨Sr, Sr, Sr, trivial⟩ ⟨⟨Sr, rfl⟩, ⟨Sr, rfl⟩, ⟨Sr, rfl⟩, trivial⟩) ?_
 refine Zs (ax (ys := kS.Tables) underlying39 C4 ⟨rfl, Sr, rfl, Sr, trivial⟩ rfl (by decide)) ?_
 refine Zs (aU (x := (kS : GSchema)) (zs := [[Value.slice none 0 0]]) g6 (fun w => zeroValue41 w) ⟨Sr, trivial⟩ ⟨⟨Sr, rfl⟩, trivial⟩) ?_
 refine Ju (aj fR Sr Sr zS) fun _ => ?_
 refine ae (aF ?_)
 refine aZ (rv := .cell 0 41) rfl () (Sel.all _) (.cell (R := aV) fR Sr zS Sr) (Frz.sub Sr)
theorem rZ  : Fun1 prog 34 [] (tV (.bool true)) := by
 refine Spec.enter func34 rfl rfl fun h0 w0 fr0 => ?_
 refine Jr (Za (ae (Jr (Zs (ai (ng) trivial call79) ?_))))
 refine Zx (aD (fun w => zeroValue41 w) Cz) fun b1 => ?_
 refine Ju (aj fR Sr Sr zS) fun _ => ?_
 refine bc (t := 1) (Sel.take (Dz _)) Frz.box ?_
 refine ae (Jr ?_)
 refine Zs (ax (ys := [100, 20]) underlying36 el3 ⟨rfl, Sr, rfl, Sr, trivial⟩ rfl (by decide)) ?_
 refine Zs (ax (ys := [100, 10]) underlying36 el3 ⟨rfl, Sr, rfl, Sr, trivial⟩ rfl (by decide)) ?_
 refine Zs (ax (ys := [10, 20]) underlying36 el3 ⟨rfl, Sr, rfl, Sr, trivial⟩ rfl (by decide)) ?_
 refine Zs (ax (ys := kSt.Distinct) underlying58 BN ⟨rfl, Sr, rfl, Sr, trivial⟩ rfl (by decide)) ?_
 refine Zs (aU (x := (kSt : GStats)) (zs := [[Value.slice none 0 0], [Value.slice none 0 0]]) iO (fun w => zeroValue60 w) ⟨Sr, Sr, trivial⟩ ⟨⟨Sr, rfl⟩, ⟨Sr, rfl⟩, trivial⟩) ?_
 refine Zx (aD (fun w => zeroValue60 w) BP) fun b2 => ?_
 refine Ju (aj gh Sr Sr zS) fun _ => ?_
 refine bc (t := 2) (Sel.take (Dz _)) Frz.box ?_
 refine ae (Jr (Zs (aa g6 Sr rfl) (Zl g5 Sr ?_)))
 refine Zs (ad (i := 0) underlying39 g8 Sr Sr (by rfl) (gb (by decide))) ?_
 refine Zs (aa eu Sr rfl) (Zl bQ Sr (Zs (aU (x := (kT : aG)) (zs := [[Value.int .i64 0], [Value.int .i64 0], [Value.slice none 0 0], [Value.slice none 0 0], [Value.slice none 0 0], [Value.int .i64 0], [Value.int .i64 0], [Value.slice none 0 0]]) aX (fun w => zeroValue46 w) ⟨Sr, Sr, trivial⟩ ⟨⟨Sr, rfl⟩, fun _ => rfl, fun _ => ⟨_, rfl, none, ⟨0, Nat.le_refl _⟩, rfl, fun q => absurd rfl q⟩, fun _ => ⟨_, rfl, none, ⟨0, Nat.le_refl _⟩, rfl, fun q => absurd rfl q⟩, fun _ => ⟨_, rfl, none, ⟨0, Nat.le_refl _⟩, rfl, fun q => absurd rfl q⟩, fun _ => rfl, fun _ => rfl, ⟨Sr, rfl⟩, trivial⟩) ?_))
 refine Zx (aD (fun w => zeroValue46 w) fL) fun b3 => ?_
 refine Ju (aj ba Sr Sr zS) fun _ => ?_
 refine bc (t := 3) (Sel.take (Dz _)) Frz.box ?_
 refine ae (Jr (Zs (aa g6 Sr rfl) (Zl g5 Sr ?_)))
 refine Zs (ad (i := 1) underlying39 g8 Sr Sr (by rfl) (gb (by decide))) ?_
 refine Zs (aa eu Sr rfl) (Zl bQ Sr (Zs (aU (x := (kU : aG)) (zs := [[Value.int .i64 0], [Value.int .i64 0], [Value.slice none 0 0], [Value.slice none 0 0], [Value.slice none 0 0], [Value.int .i64 0], [Value.int .i64 0], [Value.slice none 0 0]]) aX (fun w => zeroValue46 w) ⟨Sr, Sr, Sr, trivial⟩ ⟨⟨Sr, rfl⟩, ⟨Sr, rfl⟩, fun _ => ⟨_, rfl, none, ⟨0, Nat.le_refl _⟩, rfl, fun q => absurd rfl q⟩, fun _ => ⟨_, rfl, none, ⟨0, Nat.le_refl _⟩, rfl, fun q => absurd rfl q⟩, fun _ => ⟨_, rfl, none, ⟨0, Nat.le_refl _⟩, rfl, fun q => absurd rfl q⟩, fun _ => rfl, fun _ => rfl, ⟨Sr, rfl⟩, trivial⟩) ?_))
 refine Zx (aD (fun w => zeroValue46 w) fL) fun b4 => ?_
 refine Ju (aj ba Sr Sr zS) fun _ => ?_
 refine bc (t := 4) (Sel.take (Dz _)) Frz.box ?_
 refine ae (ar ?_)
 refine bl [⟨0, [3], true⟩, ⟨1, [42], true⟩, ⟨2, [], true⟩, ⟨3, [44], true⟩, ⟨4, [3], true⟩, ⟨5, [46], true⟩, ⟨6, [43, 45, 47], true⟩, ⟨7, [], false⟩, ⟨8, [5, 48], false⟩] rfl (by kernel_rfl) ?_
 refine Zf rfl (ab ba Sr) ?_
 refine Zf rfl (ax (ys := [kT]) underlying42 jR ⟨rfl, Sr, trivial⟩ rfl (by decide)) ?_
 refine Zf rfl (ai (jP 1 3) ⟨Sr, Sr, trivial⟩ call80) ?_
 refine Zf rfl (ax (ys := [eqT 1 3]) underlying43 pr ⟨rfl, Sr, trivial⟩ rfl (by decide)) ?_
 refine Zf rfl (aa aX Sr rfl) (Zf rfl (ab bQ Sr) (Zf rfl (aU (x := (kSome : aG)) (zs := [[Value.int .i64 0], [Value.int .i64 0], [Value.slice none 0 0], [Value.slice none 0 0], [Value.slice none 0 0], [Value.int .i64 0], [Value.int .i64 0], [Value.slice none 0 0]]) aX (fun w => zeroValue46 w) ⟨Sr, DZ, Sr, Sr, trivial⟩ ⟨⟨Sr, rfl⟩, fun _ => rfl, ⟨DZ, rfl⟩, ⟨Sr, rfl⟩, fun _ => ⟨_, rfl, none, ⟨0, Nat.le_refl _⟩, rfl, fun q => absurd rfl q⟩, fun _ => rfl, fun _ => rfl, ⟨Sr, rfl⟩, trivial⟩) ?_))
 refine cB rfl rfl rfl rfl (aD (fun w => zeroValue46 w) fL) fun b5 => ?_
 refine cV rfl rfl rfl (aj ba Sr Sr zS) fun _ => ?_
 refine bj ?_
 refine bF (t := 5) zS Frz.box ?_
 refine ar ?_
 refine bl [⟨0, [3], true⟩, ⟨1, [4], true⟩, ⟨2, [49, 50], true⟩, ⟨3, [], true⟩, ⟨4, [], true⟩, ⟨5, [], true⟩, ⟨6, [52, 53, 54], true⟩, ⟨7, [51, 55], true⟩, ⟨8, [], false⟩, ⟨9, [6, 56], false⟩] rfl (by kernel_rfl) ?_
 refine Zf rfl (ab ba Sr) (Zf rfl (ab ba Sr) ?_)
 refine Zf rfl (ax (ys := [kT, kU]) underlying42 jR ⟨rfl, Sr, rfl, Sr, trivial⟩ rfl (by decide)) ?_
 refine Zf rfl (ai (ec kA) ⟨Sr, trivial⟩ call81) (Zf rfl (ai (ec kB) ⟨Sr, trivial⟩ call81) (Zf rfl (ai (ec kC) ⟨Sr, trivial⟩ call81) ?_))
 refine Zf rfl (ax (ys := BR) underlying44 gv ⟨rfl, Sr, rfl, Sr, rfl, Sr, trivial⟩ rfl (by decide)) ?_
 refine Zf rfl (aU (x := (kBoth : aG)) (zs := [[Value.int .i64 0], [Value.int .i64 0], [Value.slice none 0 0], [Value.slice none 0 0], [Value.slice none 0 0], [Value.int .i64 0], [Value.int .i64 0], [Value.slice none 0 0]]) aX (fun w => zeroValue46 w) ⟨Sr, DZ, Sr, trivial⟩ ⟨⟨Sr, rfl⟩, fun _ => rfl, ⟨DZ, rfl⟩, fun _ => ⟨_, rfl, none, ⟨0, Nat.le_refl _⟩, rfl, fun q => absurd rfl q⟩, fun _ => ⟨_, rfl, none, ⟨0, Nat.le_refl _⟩, rfl, fun q => absurd rfl q⟩, fun _ => rfl, fun _ => rfl, ⟨Sr, rfl⟩, trivial⟩) ?_
 refine cB rfl rfl rfl rfl (aD (fun w => zeroValue46 w) fL) fun b6 => ?_
 refine cV rfl rfl rfl (aj ba Sr Sr zS) fun _ => ?_
 refine bj ?_
 refine bF (t := 6) zS Frz.box ?_
 refine ar ?_
 refine bl [⟨0, [6], true⟩, ⟨1, [57], true⟩, ⟨2, [], true⟩, ⟨3, [59], true⟩, ⟨4, [6], true⟩, ⟨5, [61], true⟩, ⟨6, [58, 60, 62], true⟩, ⟨7, [], false⟩, ⟨8, [7, 63], false⟩] rfl (by kernel_rfl) ?_
 refine Zf rfl (ab ba Sr) ?_
 refine Zf rfl (ax (ys := [kBoth]) underlying42 jR ⟨rfl, Sr, trivial⟩ rfl (by decide)) ?_
 refine Zf rfl (ai (jP 0 7) ⟨Sr, Sr, trivial⟩ call80) ?_
 refine Zf rfl (ax (ys := [eqT 0 7]) underlying43 pr ⟨rfl, Sr, trivial⟩ rfl (by decide)) ?_
 refine Zf rfl (aa aX Sr rfl) (Zf rfl (ab bQ Sr) (Zf rfl (aU (x := (kTop : aG)) (zs := [[Value.int .i64 0], [Value.int .i64 0], [Value.slice none 0 0], [Value.slice none 0 0], [Value.slice none 0 0], [Value.int .i64 0], [Value.int .i64 0], [Value.slice none 0 0]]) aX (fun w => zeroValue46 w) ⟨Sr, DZ, Sr, Sr, trivial⟩ ⟨⟨Sr, rfl⟩, fun _ => rfl, ⟨DZ, rfl⟩, ⟨Sr, rfl⟩, fun _ => ⟨_, rfl, none, ⟨0, Nat.le_refl _⟩, rfl, fun q => absurd rfl q⟩, fun _ => rfl, fun _ => rfl, ⟨Sr, rfl⟩, trivial⟩) ?_))
 refine cB rfl rfl rfl rfl (aD (fun w => zeroValue46 w) fL) fun b7 => ?_
 refine cV rfl rfl rfl (aj ba Sr Sr zS) fun _ => ?_
 refine bj ?_
 refine bF (t := 7) zS Frz.box ?_
 refine Jr (Zl fR Sr (Zl ba Sr (Zl gh Sr ?_)))
 refine Zs (ai (Br kdS kzS Bt ke1 (sS kp1)) ⟨Sr, Sr, Sr, trivial⟩ call38) ?_
 refine Zm (Zs (aM Sr rfl) (Zs (aM Sr rfl) (Za (Za (ae ?_)))))
 refine Jr (Zl fR Sr (Zl ba Sr (Zl gh Sr (Zs (ai (Br kdB kzB Bt ke2 (sS kp2)) ⟨Sr, Sr, Sr, trivial⟩ call38) (Zm ?_)))))
 refine Zs (aM Sr rfl) (Zs (aM Sr rfl) (Za (Za (ae (Jr ?_)))))
 refine Zl fR Sr (Zl ba Sr (Zl gh Sr (Zs (ai (Br kdP kzP Bt ke3 (sS kp3)) ⟨Sr, Sr, Sr, trivial⟩ call38) (Zm (Zs (aM Sr rfl) ?_)))))
 refine Zs (aM Sr rfl) (Za (Za (ae (Jr (Zl fR Sr ?_)))))
 refine Zl ba Sr (Zl gh Sr (Zs (ai Ci ⟨Sr, Sr, Sr, trivial⟩ call40) (Zm (Zs (aM Sr rfl) (Zs (aM Sr rfl) ?_)))))
 refine Zx (aD (fun w => zeroValue46 w) fL) fun b14 => ?_
 refine Ju (aj ba Sr Sr zS) fun _ => ?_
 refine bc (t := 14) (Sel.take (Dz _)) Frz.box ?_
 refine Za (ae (Jr (Zl fR Sr (Zl ba Sr (Zl gh Sr ?_)))))
 refine Zs (ai (Br kdI kzI Bt ke4 (sS kp4)) ⟨Sr, Sr, Sr, trivial⟩ call38) (Zm (Zs (aM Sr rfl) (Zs (aM Sr rfl) (Za (Za ?_)))))
 refine ae (Jr (Zl fR Sr (Zl ba Sr ?_)))
 refine Zs (aU (x := (zStats : GStats)) (zs := [[Value.slice none 0 0], [Value.slice none 0 0]]) iO (fun w => zeroValue60 w) trivial ⟨fun _ => ⟨_, rfl, none, ⟨0, Nat.le_refl _⟩, rfl, fun q => absurd rfl q⟩, fun _ => ⟨_, rfl, none, ⟨0, Nat.le_refl _⟩, rfl, fun q => absurd rfl q⟩, trivial⟩) ?_
 refine Zs (ai (Br (st := zStats) kdI kzI (fun d hd => by cases hd) (a := 0) (e := 1) (by unfold pb; rw [if_neg (by rw [kp5]; simp)]) (by unfold tM; rw [if_neg (by rw [kp5]; simp)])) ⟨Sr, Sr, Sr, trivial⟩ call38) ?_
 refine Zm (Zs (aM Sr rfl) (Zs (aM Sr rfl) (Za (Za (ae ?_)))))
 refine Jr (Za (ae (ar ?_)))
 refine bl [⟨0, [1], true⟩, ⟨1, [20], true⟩, ⟨2, [108], true⟩, ⟨3, [20], true⟩, ⟨4, [110], true⟩, ⟨5, [109, 111], true⟩, ⟨6, [20], true⟩, ⟨7, [113], true⟩, ⟨8, [20], true⟩, ⟨9, [115], true⟩, ⟨10, [114, 116], true⟩, ⟨11, [20], true⟩, ⟨12, [118], true⟩, ⟨13, [20], true⟩, ⟨14, [120], true⟩, ⟨15, [119, 121], true⟩, ⟨16, [20], true⟩, ⟨17, [123], true⟩, ⟨18, [], true⟩, ⟨19, [124, 125], true⟩, ⟨20, [112, 117, 122, 126], true⟩, ⟨21, [127], true⟩, ⟨22, [107, 128], true⟩, ⟨23, [129], true⟩, ⟨24, [106], true⟩, ⟨25, [106], true⟩, ⟨26, [], false⟩, ⟨27, [21, 130], false⟩, ⟨28, [131], true⟩] rfl (by kernel_rfl) ?_
 refine Zf rfl (ab fR Sr) (Zv rfl (Zf rfl (bH (aT := [_]) D2 (eN 1) ⟨Sr, trivial⟩ call82) (Zv rfl (Zf rfl (bH (aT := [_]) D2 (eN 2) ⟨Sr, trivial⟩ call82) ?_))))
 refine Zf rfl (ax (ys := [numV 1, numV 2]) underlying22 zw ⟨rfl, Sr, rfl, Sr, trivial⟩ rfl (by decide)) ?_
 refine Zv rfl (Zf rfl (bH (aT := [_]) D2 (eN 3) ⟨Sr, trivial⟩ call82) (Zv rfl (Zf rfl (bH (aT := [_]) D2 (eN 2) ⟨Sr, trivial⟩ call82) ?_)))
 refine Zf rfl (ax (ys := [numV 3, numV 2]) underlying22 zw ⟨rfl, Sr, rfl, Sr, trivial⟩ rfl (by decide)) ?_
 refine Zv rfl (Zf rfl (bH (aT := [_]) D2 (eN 1) ⟨Sr, trivial⟩ call82) (Zv rfl (Zf rfl (bH (aT := [_]) D2 (eN 2) ⟨Sr, trivial⟩ call82) ?_)))
 refine Zf rfl (ax (ys := [numV 1, numV 2]) underlying22 zw ⟨rfl, Sr, rfl, Sr, trivial⟩ rfl (by decide)) ?_
 refine Zv rfl (Zf rfl (bH (aT := [_]) D2 (eN 5) ⟨Sr, trivial⟩ call82) (Zf rfl (aU (x := (zValue : GValue)) (zs := [[Value.int .i64 0], [Value.int .i64 0], [Value.string ⟨#[]⟩]]) eT (fun w => zeroValue87 w) trivial ⟨fun _ => rfl, fun _ => rfl, fun _ => rfl, trivial⟩) ?_))
 refine Zf rfl (ax (ys := [numV 5, zValue]) underlying22 zw ⟨rfl, Sr, rfl, Sr, trivial⟩ rfl (by decide)) ?_
 refine Zf rfl (ax (ys := uc) underlying73 pp ⟨rfl, Sr, rfl, Sr, rfl, Sr, rfl, Sr, trivial⟩ rfl (by decide)) ?_
 refine Zf rfl (ax (ys := rX) underlying61 CV ⟨rfl, Sr, rfl, DT, trivial⟩ rfl (by decide)) ?_
 refine Zf rfl (ai De ⟨Sr, Sr, trivial⟩ call36) (Zv rfl (Zf rfl (aM Sr rfl) (Zf rfl (aM Sr rfl) ?_)))
 refine cB rfl rfl rfl rfl (aD (fun w => zeroValue60 w) BP) fun b21 => ?_
 refine cV rfl rfl rfl (aj gh Sr Sr zS) fun _ => ?_
 refine Zf rfl (aW Sr) (bj ?_)
 refine bF (t := 21) zS Frz.box ?_
 refine Jr (Zm (Zs (aC Sr Sr) (Zm ?_)))
 refine Zk (al Sr) ?_
 refine Zg (fun hw => aC (Sub.w hw) Sr) (Zs (aw Sr Sr) (Zm ?_))
 refine Zk (al Sr) ?_
 refine Zg (fun hw => aC (Sub.w hw) Sr) (Zs (aw Sr Sr) (Zm ?_))
 refine Zk (al Sr) ?_
 refine Zg (fun hw => aC (Sub.w hw) Sr) (Zs (aw Sr Sr) (Zm ?_))
 refine Zk (al Sr) ?_
 refine Zg (fun hw => aC (Sub.w hw) Sr) (Zs (aw Sr Sr) (Zm ?_))
 refine Zk (al Sr) ?_
 refine Zg (fun hw => aC (Sub.w hw) Sr) (Zs (aw Sr Sr) (Zm ?_))
 refine Zk (al Sr) ?_
 refine Zg (fun hw => aC (Sub.w hw) Sr) (Zs (aw Sr Sr) (Zm ?_))
 refine Zk (al Sr) ?_
 refine Zg (fun hw => aC (Sub.w hw) Sr) (Zs (aw Sr Sr) (Zm ?_))
 refine Zk (al Sr) ?_
 refine Zg (fun hw => aC (Sub.w hw) Sr) (Zs (aw Sr Sr) (Zm ?_))
 refine Zk (al Sr) ?_
 refine Zg (fun hw => aC (Sub.w hw) Sr) (Zs (aw Sr Sr) (Za (ae (Jr (Zm ?_)))))
 refine Zm ?_
 refine Zk (aa aX Sr rfl) ?_
 refine Zg (fun hw => ab ty3 (Sub.w hw)) (Zg (fun hw => aC (Sub.w hw) Sr) (Zs (aw Sr Sr) (Zm ?_)))
 refine Zk (al Sr) ?_
 refine Zg (fun hw => aC (Sub.w hw) Sr) (Zs (aw Sr Sr) (Zm ?_))
 refine Zk (ab gh Sr) ?_
 refine Zk (ax (ys := [3, 0]) underlying36 el3 ⟨rfl, Sr, rfl, Sr, trivial⟩ rfl (by decide)) ?_
 refine Zk (ax (ys := [3, 1]) underlying36 el3 ⟨rfl, Sr, rfl, Sr, trivial⟩ rfl (by decide)) ?_
 refine Zk (ax (ys := [0, 0]) underlying36 el3 ⟨rfl, Sr, rfl, Sr, trivial⟩ rfl (by decide)) ?_
 refine Zg (fun hw => ax (ys := kStats.Distinct) underlying58 BN ⟨rfl, (Sub.w hw), rfl, (Sub.w hw), trivial⟩ rfl (by decide)) ?_
 refine Zg (fun hw => aU (x := (kStats : GStats)) (zs := [[Value.slice none 0 0], [Value.slice none 0 0]]) iO (fun w => zeroValue60 w) ⟨(Sub.w hw), (Sub.w hw), trivial⟩ ⟨⟨(Sub.w hw), rfl⟩, ⟨(Sub.w hw), rfl⟩, trivial⟩) ?_
 refine Zg (fun hw => ai (i6 kStats kStats (by decide)) ⟨(Sub.w hw), (Sub.w hw), trivial⟩ call42) ?_
 refine Zs (aw Sr Sr) (Za (ae (aF ?_)))
 refine aK (t := 0) rfl () (Sub.bool (by decide))
theorem oS : ∀ {n m : Nat} {p : aG}, Dep n p -> Dep m p -> l8 n p = l8 m p
 | 0, _, _, h, _ => h.elim
 | n + 1, 0, _, _, h => h.elim
 | n + 1, m + 1, p, h1, h2 => by
   have : p.Kids.all (l8 n) = p.Kids.all (l8 m) := by
    rw [Bool.eq_iff_iff, List.all_eq_true, List.all_eq_true]
    exact ⟨fun h q hq => by rw [<- oS (h1 q hq) (h2 q hq)]; exact h q hq, fun h q hq => by rw [oS (h1 q hq) (h2 q hq)]; exact h q hq⟩
   simp only [l8, this]
theorem nO {f g : aG -> Int} : ∀ {l : List aG} {a : Int}, (∀ q ∈ l, f q = g q) -> xe f a l = xe g a l
 | [], _, _ => rfl
 | q :: l, a, h => by
   unfold xe
   rw [h q List.mem_cons_self, nO fun r hr => h r (List.mem_cons_of_mem _ hr)]
theorem sT : ∀ {n m : Nat} {p : aG}, Dep n p -> Dep m p -> tH n p = tH m p
 | 0, _, _, h, _ => h.elim
 | n + 1, 0, _, _, h => h.elim
 | n + 1, m + 1, p, h1, h2 => by
   simp only [tH]
   exact nO fun q hq => sT (h1 q hq) (h2 q hq)
theorem wJ {s : GSchema} {n m : Nat} {p : aG} {ts : List (List (List GValue))} {k : Int} (h1 : Dep n p) (h2 : Dep m p) : gW s n p ts k = gW s m p ts k := by
 unfold gW; rw [sT h1 h2, oS h1 h2]
def smallE (s : GSchema) (p : aG) (ts : List (List (List GValue))) (k : Int) : Bool := gW s (depP p) p ts k
def qE (p : aG) : Prop := ∀ m, jJ m p
theorem wK : ∀ {n : Nat} {p : aG}, Dep n p -> jJ n p -> qE p
 | 0, _, h, _ => h.elim
 | n + 1, p, hd, ⟨h1, h2⟩ => fun m => by
   cases m with
   | zero => exact trivial
   | succ m => exact ⟨h1, fun q hq => wK (hd q hq) (h2 q hq) m⟩
theorem r7 (s : GSchema) (p : aG) (hl : qE p) (ts : List (List (List GValue))) (m : Int) (hz : ∀ t ∈ ts, t.length <= 9223372036854775807) : Fun1 Tryz.prog 19 [aV.ty s, bO.ty p, tSl (rSl (rSl rValue)) ts, tV (.int .i64 m)] (tV (.bool (smallE s p ts m))) :=
 Fun1.ex (ι := { n : Nat // Dep n p }) (fun n => [aV.ty s, (aR n.1).ty p, tSl (rSl (rSl rValue)) ts, tV (.int .i64 m)]) (fun n => tV (.bool (gW s n.1 p ts m))) fun vs h ha => by
  rcases vs with _ | ⟨v0, vs⟩
  · exact ha.elim
  obtain ⟨a0, ha⟩ := ha
  obtain ⟨v1, v2, v3, rfl, a1, a2, a3⟩ := yb ha
  obtain ⟨n, a1⟩ := jQ a1
  have hd : Dep n p := pN a1
  exact ⟨⟨n, hd⟩, ⟨a0, a1, a2, a3, trivial⟩, rA s n p (hl n) ts m hz, Sub.bool (wJ hd (dG p))⟩
theorem sU {s : GSchema} : ∀ {n l : Nat} {p : aG}, Dep n p -> validM s l p = true -> l8 n p = true -> gQ n p <= 20 * l
 | 0, _, _, h, _, _ => h.elim
 | n + 1, l, p, hd, hv, hn => by
   obtain ⟨l', rfl, _, _, hkv, _⟩ := dE hv
   simp only [l8, Bool.and_eq_true, decide_eq_true_eq, List.all_eq_true] at hn
   have : (p.Kids.map (gQ n)).foldr max 0 <= 20 * l' := nJ fun a ha => by
    obtain ⟨q, hq, rfl⟩ := List.mem_map.1 ha
    exact sU (hd q hq) (hkv q hq) (hn.1 q hq)
   simp only [gQ]; omega
structure SmF (s : GSchema) (p : aG) : Prop where
 z : SchSz s
 t : ∀ t ∈ s.Tables, t.Attrs.length <= 20
 n : l8 (depP p) p = true
 pz : PSz p
 a : p.Attrs.length <= 40
theorem yo {s : GSchema} {p : aG} {ts : List (List (List GValue))} {m : Int} (h : smallE s p ts m = true) (hn : ∀ t ∈ s.Tables, ∀ x ∈ namesL t.Attrs, x.size <= 9223372036854775807) (hl : qE p) : SmF s p /\ ts.length <= 30 /\ ∀ t ∈ ts, (t.length : Int) <= m /\ ∀ r ∈ t, r.length <= 20 := by
 unfold smallE gW at h
 simp only [Bool.and_eq_true, decide_eq_true_eq, List.all_eq_true] at h
 obtain ⟨⟨⟨⟨h1, h2⟩, h3⟩, h4⟩, h5⟩ := h
 have hd := dG p
 refine ⟨⟨B4 h1 hn, ?_, h3, yX hd (yK hd h3 (hl _)).1, vi hd h3⟩, h4, fun t ht => ?_⟩
 · unfold smS at h1
   simp only [Bool.and_eq_true, decide_eq_true_eq, List.all_eq_true] at h1
   intro t ht
   have := h1.2 t ht
   unfold smT at this
   simp only [Bool.and_eq_true, decide_eq_true_eq] at this
   exact this.1.1.1
 · have := h5 t ht
   unfold jK at this
   simp only [Bool.and_eq_true, decide_eq_true_eq, List.all_eq_true] at this
   exact this
def An (s : GSchema) (p : aG) (st : GStats) : Int := pb s (depP p) p st
def ud (s : GSchema) (p : aG) (st : GStats) : aG := x7 s (depP p) p st
structure QOk (s : GSchema) (q : aG) (b : Nat) : Prop where
 z : PSz q
 t : iE s q = true -> gQ (depP q) q <= b
theorem SmF.q {s : GSchema} {p : aG} (h : SmF s p) : QOk s p 240 := ⟨h.pz, fun hv => sU (dG p) (qq hv) h.n⟩
theorem Ao {s : GSchema} {p : aG} {st : GStats} (h : bq s p st = true) : An s p st = (cd ⟨s, st⟩ p).size.cost := by
 unfold An pb; rw [if_pos h]; rfl
theorem Cj {s : GSchema} {p : aG} {st : GStats} (h : bq s p st = false) : An s p st = 0 /\ tM s p st = 1 /\ Ah s p st = 1 := by
 have : ¬ bq s p st = true := by simp [h]
 exact ⟨if_neg this, if_neg this, if_neg this⟩
theorem Ck {s : GSchema} {p : aG} {st : GStats} (h : bq s p st = true) : tM s p st = 0 /\ Ah s p st = 0 := ⟨if_pos h, if_pos h⟩
theorem qF {s : GSchema} {p q : aG} {st : GStats} (h : bq s p st = true) (hq : iE s q = true) : bq s q st = true := by
 unfold bq at h ⊢
 simp only [Bool.and_eq_true] at h ⊢
 exact ⟨⟨⟨hq, h.1.1.2⟩, h.1.2⟩, h.2⟩
section
variable {s : GSchema} {p : aG} {st : GStats}
theorem sV (hr : bq s p st = true) {b : Nat} (hq : QOk s p b) (hb : b <= 1000) : PI ⟨s, st⟩ b (pushM ⟨s, st⟩ (depP p) p []) := by
 obtain ⟨hv, hst⟩ := jO hr
 have h1 := hq.t hv
 have := (mo hst (depP p) (ts := []) (dG p) (qq hv) hq.z (fun t ht => by cases ht) (by show 0 + _ <= _; omega)).1
 exact this.le (by show 0 + _ <= _; omega)
theorem imp_ok (hr : bq s p st = true) {b : Nat} (hq : QOk s p b) (hb : b <= 1000) : bq s (ud s p st) st = true /\ QOk s (ud s p st) b /\ An s (ud s p st) st <= An s p st := by
 have hpi := sV hr hq hb
 by_cases hal : iE s (pushM ⟨s, st⟩ (depP p) p []).Plan = false \/ (cD ⟨s, st⟩ (depP p) p).size.cost < (pushM ⟨s, st⟩ (depP p) p []).size.cost
 · rw [show ud s p st = p from oG hr hal]
   exact ⟨hr, hq, Int.le_refl _⟩
 · rw [show ud s p st = (pushM ⟨s, st⟩ (depP p) p []).Plan from oH hr hal]
   simp only [not_or, Bool.not_eq_false] at hal
   have hr2 := qF hr hal.1
   refine ⟨hr2, ⟨hpi.z, fun _ => hpi.t _⟩, ?_⟩
   rw [Ao hr2, Ao hr, hpi.g.w]
   have := hal.2
   have e : (cD ⟨s, st⟩ (depP p) p).size.cost = (cd ⟨s, st⟩ p).size.cost := rfl
   omega
end
theorem sW {α : Type} [DecidableEq α] {A B : List α} (hA : A.Nodup) (hB : B.Nodup) (h : ∀ x, x ∈ B ↔ x ∈ A) : B.length = A.length := ((List.perm_ext_iff_of_nodup hB hA).2 h).length_eq
theorem wL {l : List LV} {x : LV} (h : x ∈ l) : x ∈ jZ l := by
 have key : ∀ (n i : Nat), i <= n -> i < l.length -> nth l i = x -> x ∈ jZ l := by
  intro n
  induction n with
  | zero =>
    intro i hi hl hx
    obtain rfl : i = 0 := by omega
    unfold jZ compI
    exact List.mem_map.2 ⟨0, List.mem_filter.2 ⟨List.mem_range.2 hl, by simp [iu]⟩, hx⟩
  | succ n ih =>
    intro i hi hl hx
    by_cases hk : iu l i = true
    · unfold jZ compI
      exact List.mem_map.2 ⟨i, List.mem_filter.2 ⟨List.mem_range.2 hl, hk⟩, hx⟩
    · unfold iu at hk
      simp only [Bool.or_eq_true, decide_eq_true_eq, Bool.not_eq_true', decide_eq_false_iff_not, not_or, Decidable.not_not] at hk
      exact ih (i - 1) (by omega) (by omega) (by rw [<- hk.2]; exact hx)
 obtain ⟨i, hi, rfl⟩ := List.getElem_of_mem h
 exact key i i (Nat.le_refl _) hi (nth_get hi)
theorem r8 {l : List LV} (hs : l.Pairwise fun a b => leR a b = true) : (jZ l).Nodup := by
 have hle : ∀ i j, i <= j -> j < l.length -> leR (nth l i) (nth l j) = true := fun i j hij hj => by
  rcases Nat.lt_or_eq_of_le hij with h | rfl
  · rw [nth_get (by omega), nth_get hj]
    exact List.pairwise_iff_getElem.1 hs i j (by omega) hj h
  · have := wy (nth l i) (nth l i); simpa using this
 unfold jZ compI List.Nodup
 rw [List.pairwise_map]
 refine List.Pairwise.imp_of_mem (R := fun i j : Nat => i < j) (fun {i j} hi hj hij => ?_) ((List.pairwise_lt_range).filter _)
 have hj := List.mem_filter.1 hj
 have hjl := List.mem_range.1 hj.1
 intro e
 have h1 := hle i (j - 1) (by omega) (by omega)
 have h2 := hle (j - 1) j (by omega) hjl
 have h3 : nth l j = nth l (j - 1) := sQ (by rw [<- e]; exact h1) h2
 have hk := hj.2
 unfold iu at hk
 simp only [Bool.or_eq_true, decide_eq_true_eq, Bool.not_eq_true', decide_eq_false_iff_not] at hk
 rcases hk with hk | hk
 · omega
 · exact hk h3
theorem ue (l : List LV) : (setR l).Nodup := r8 (lc l)
theorem oT {l : List LV} {x : LV} : x ∈ setR l ↔ x ∈ l := ⟨oO, fun h => wL ((ei l).mem_iff.2 h)⟩
theorem qG (c : Nat) : ∀ (l : List LV) (m : List (GValue × Bool)), (m.map (·.1)).Nodup -> ((l.foldl (jm c) m).map (·.1)).Nodup /\ ∀ v, v ∈ (l.foldl (jm c) m).map (·.1) ↔ v ∈ m.map (·.1) \/ (v.Kind ≠ 0 /\ ∃ r ∈ l, nth r c = v)
 | [], m, h => ⟨h, fun v => by simp⟩
 | r :: l, m, h => by
   have h1 : ((jm c m r).map (·.1)).Nodup := by
    unfold jm; split
    · exact tc h _ _
    · exact h
   have h2 : ∀ v, v ∈ (jm c m r).map (·.1) ↔ v ∈ m.map (·.1) \/ (v.Kind ≠ 0 /\ nth r c = v) := fun v => by
    unfold jm; split
    · rename_i hk
      rw [pk]
      split
      · rename_i hm
        exact ⟨.inl, fun q => q.elim id fun ⟨_, e⟩ => e ▸ hm⟩
      · rw [List.mem_append, List.mem_singleton]
        exact ⟨fun q => q.elim .inl fun e => .inr ⟨e ▸ hk, e.symm⟩, fun q => q.elim .inl fun ⟨_, e⟩ => .inr e.symm⟩
    · rename_i hk
      exact ⟨.inl, fun q => q.elim id fun ⟨a, e⟩ => absurd (e ▸ a) hk⟩
   obtain ⟨i1, i2⟩ := qG c l _ h1
   refine ⟨i1, fun v => ?_⟩
   rw [List.foldl_cons, i2, h2]
   simp only [List.mem_cons, exists_eq_or_imp]
   constructor
   · rintro ((q | ⟨a, e⟩) | ⟨a, q⟩)
     · exact .inl q
     · exact .inr ⟨a, .inl e⟩
     · exact .inr ⟨a, .inr q⟩
   · rintro (q | ⟨a, e | q⟩)
     · exact .inl (.inl q)
     · exact .inl (.inr ⟨a, e⟩)
     · exact .inr ⟨a, q⟩
theorem uf (rows : List LV) (c : Nat) : ((j7 rows c).map (·.1)).Nodup /\ ∀ v, v ∈ (j7 rows c).map (·.1) ↔ v.Kind ≠ 0 /\ ∃ r ∈ rows, nth r c = v := by
 obtain ⟨h1, h2⟩ := qG c rows [] List.nodup_nil
 exact ⟨h1, fun v => by rw [show j7 rows c = rows.foldl (jm c) [] from rfl, h2]; simp⟩
theorem Bu (rows : List LV) (c : Nat) : zd rows c = (((j7 rows c).map (·.1)).length : Int) := by unfold zd; rw [List.length_map]
theorem BS {s : GSchema} {ts : List (List LV)} : mI s ts = true ↔ ∀ i, i < ts.length -> ∀ r ∈ nth ts i, fitsM (nth s.Tables i) r = true := by
 unfold mI
 simp only [List.all_eq_true, List.mem_range, Bool.not_eq_true', List.any_eq_false, Bool.not_eq_false, Bool.not_eq_true]
theorem ug {s : GSchema} {ts : List (List LV)} : f0 s ts = true ↔ ts.length = s.Tables.length /\ (∀ t, t < s.Tables.length -> iE s (planT s t) = true /\ mI s ts = true) := by
 unfold f0 fp
 simp only [Bool.and_eq_true, decide_eq_true_eq, List.all_eq_true, List.mem_range]
 constructor
 · rintro ⟨h1, h2⟩
   exact ⟨by omega, fun t ht => ⟨(h2 t ht).1.1, (h2 t ht).2⟩⟩
 · rintro ⟨h1, h2⟩
   exact ⟨by omega, fun t ht => ⟨⟨(h2 t ht).1, by omega⟩, (h2 t ht).2⟩⟩
theorem uh {s : GSchema} (ts : List (List LV)) (h : ∀ t ∈ s.Tables, t.Attrs.length <= 20) : (gn s ts).Rows.length <= s.Tables.length /\ (gn s ts).Distinct.length <= s.Tables.length /\ ∀ d ∈ (gn s ts).Distinct, d.length <= 20 := by
  unfold gn
  split
  · refine ⟨by simp [co], by simp [cM], fun d hd => ?_⟩
    obtain ⟨t, ht, rfl⟩ := List.mem_map.1 (show d ∈ (List.range s.Tables.length).map _ from hd)
    show (gF _ _).length <= 20
    simp only [gF, List.length_map, List.length_range]
    exact h _ (aH (List.mem_range.1 ht))
  · exact ⟨Nat.zero_le _, Nat.zero_le _, fun d hd => by cases hd⟩
end Lg
