/- A part of the proofs of the laws of cleanselaw33 and cleanselaw36: contracts of functions that the law reaches, and facts about what they compute. -/
import Derived.Test.YtecikhenhjphfaaGreatDoorE
import Derived.Shelf.Strconv.Itoa3
import Derived.Shelf.GgClosure.Gives
import Derived.Test.YtecikhenhjphfaaGreatDoorProg
import Derived.Ground.NamesProg
import Derived.RecoverIn
set_option linter.unusedVariables false
set_option linter.unusedSimpArgs false
set_option linter.unusedSectionVars false
set_option maxHeartbeats 16000000
namespace Lg
open Go Go.Proofs Go.Proofs.Tryz
theorem sQ (l : List UInt8) (c : Int) (h : 0 <= c /\ c < 256) : l.count c.toNat.toUInt8 = (l.map fun b => (b.toNat : Int)).count c := by
  induction l with
  | nil => rfl
  | cons b l ih =>
    rw [List.map_cons, List.count_cons, List.count_cons, ih]
    congr 1
    have e : (b == c.toNat.toUInt8) = ((b.toNat : Int) == c) := by
      rw [Bool.eq_iff_iff, beq_iff_eq, beq_iff_eq]
      constructor
      · intro q
        subst q
        have : c.toNat.toUInt8.toNat = c.toNat := by show (UInt8.ofNat c.toNat).toNat = _; rw [UInt8.toNat_ofNat']; omega
        omega
      · intro q
        apply UInt8.toNat_inj.1
        show _ = (UInt8.ofNat c.toNat).toNat
        rw [UInt8.toNat_ofNat']; omega
    rw [e]
def dq (l : List Int) : Nat := l.count 10 + l.count 92 + l.count 34
theorem lD (c : Int) : (pV c).length = 1 + dq [c] := by
  unfold pV dq
  by_cases h1 : c = 34
  · subst h1; rfl
  · by_cases h2 : c = 92
    · subst h2; rfl
    · by_cases h3 : c = 10
      · subst h3; rfl
      · simp [h1, h2, h3, List.count_cons]
theorem gI (a b : List Int) : dq (a ++ b) = dq a + dq b := by unfold dq; rw [List.count_append, List.count_append, List.count_append]; omega
theorem ik (l : List Int) : dq l <= 3 * l.length := by
  unfold dq
  have h1 := List.count_le_length (a := (10 : Int)) (l := l)
  have h2 := List.count_le_length (a := (92 : Int)) (l := l)
  have h3 := List.count_le_length (a := (34 : Int)) (l := l)
  omega
theorem c6 : ∀ l : List Int, (eW l).length = l.length + dq l
  | [] => rfl
  | c :: l => by
    have e : c :: l = [c] ++ l := rfl
    rw [gm, List.length_append, c6 l, lD, e, gI]
    simp; omega
theorem mP : ∀ {l : List Int}, dq l = 0 -> eW l = l
  | [], _ => rfl
  | c :: l, h => by
    have e : c :: l = [c] ++ l := rfl
    rw [e, gI] at h
    have h1 : pV c = [c] := by
      have h2 : dq [c] = 0 := by omega
      unfold dq at h2
      simp only [List.count_cons, List.count_nil] at h2
      unfold pV
      rw [if_neg, if_neg, if_neg]
      · rintro rfl; simp at h2
      · rintro rfl; simp at h2
      · rintro rfl; simp at h2
    rw [gm, h1, mP (by omega)]; rfl
abbrev R3 : List (List Int) := nI six 3
abbrev T3 : List ByteArray := mN six 3
theorem Dz : (List.range 256).all (fun c => decide (pV (c : Int) = if nth R3 c = [] then [(c : Int)] else nth R3 c) && decide (nth R3 c = [] \/ (nth R3 c).length = 2)) = true := by kernel_rfl
theorem r3 {c : Int} (h : 0 <= c /\ c < 256) : pV c = (if nth R3 c.toNat = [] then [c] else nth R3 c.toNat) /\ (nth R3 c.toNat = [] \/ (nth R3 c.toNat).length = 2) := by
  have := List.all_eq_true.1 Dz c.toNat (List.mem_range.2 (by omega))
  rw [Bool.and_eq_true, decide_eq_true_eq, decide_eq_true_eq, Int.toNat_of_nonneg h.1] at this
  exact this
theorem x6 : ∀ i, i < 3 -> (nth T3 i).size = 1 := by decide
theorem DA : ∀ i, i < 3 -> (nth R3 (nth (aA (nth T3 i)) 0).toNat).length = 2 := by decide
def x7 (l : List Int) (j : Nat) : Nat := ((List.range j).map fun i => l.count (nth (aA (nth T3 i)) 0)).sum
theorem jZ (l : List Int) (j : Nat) : x7 l (j + 1) = x7 l j + l.count (nth (aA (nth T3 j)) 0) := by simp [x7, List.range_succ]
theorem DB (l : List Int) : x7 l 3 = dq l := by
  rw [jZ, jZ, jZ]
  have e0 : nth (aA (nth T3 0)) 0 = 10 := rfl
  have e1 : nth (aA (nth T3 1)) 0 = 92 := rfl
  have e2 : nth (aA (nth T3 2)) 0 = 34 := rfl
  rw [e0, e1, e2]; simp [x7, dq]
theorem d4 (s : ByteArray) : ef (aA s) = s := by
  have e : ∀ l : List UInt8, (l.map fun b => (b.toNat : Int)).map (fun n => UInt8.ofNat n.toNat) = l := by
    intro l
    induction l with
    | nil => rfl
    | cons b l ih => rw [List.map_cons, List.map_cons, ih]; congr 1; show UInt8.ofNat b.toNat = b; exact UInt8.ofNat_toNat
  show (⟨_⟩ : ByteArray) = s
  unfold aA
  rw [e]
theorem jj (l : List Int) (i : Nat) : (eW (l.take i)).length <= (eW l).length := by
  conv => rhs; rw [<- List.take_append_drop i l, mL, List.length_append]
  omega
theorem gJ {l : List Int} {i : Nat} (h : i < l.length) : eW (l.take (i + 1)) = eW (l.take i) ++ pV (nth l i) := by
  rw [di h, mL]; simp [eW]
theorem fk {l : List Int} {i : Nat} (h : i < l.length) : dq (l.take (i + 1)) = dq (l.take i) + dq [nth l i] := by
  rw [di h, gI]
theorem qZ {pre ys : List Int} {N : Nat} (h : pre.length + ys.length <= N) : (pre ++ List.replicate (N - pre.length) (0 : Int)).take pre.length ++ ys ++ (pre ++ List.replicate (N - pre.length) (0 : Int)).drop (pre.length + ys.length) = (pre ++ ys) ++ List.replicate (N - (pre ++ ys).length) 0 := by
  rw [List.take_left, List.drop_append, List.drop_of_length_le (by omega), List.nil_append, List.drop_replicate, List.length_append]
  congr 2; omega
theorem uc {pre : List Int} {N : Nat} {b : Int} (h : pre.length + 1 <= N) : (pre ++ List.replicate (N - pre.length) (0 : Int)).set pre.length b = (pre ++ [b]) ++ List.replicate (N - (pre ++ [b]).length) 0 := by
  rw [List.set_append_right _ _ (Nat.le_refl _), Nat.sub_self]
  obtain ⟨k, hk⟩ : ∃ k, N - pre.length = k + 1 := ⟨N - pre.length - 1, by omega⟩
  rw [hk, List.replicate_succ, List.set_cons_zero, List.length_append, List.append_assoc]
  congr 2
  show _ = List.replicate (N - (pre.length + 1)) 0
  congr 1; omega
section
variable {ro : Option Nat} {N : Nat} {ds : List Deferred} {h0 : PH} {w0 : World} {r : PH} {E : Env} {L : List SP} {d : Option Nat} {ty : Nat} {pos : String} {af : Array Edge} {g : Option (Nat × Bool)}
theorem vS {x y : Operand} {s : ByteArray} {c : Int} {ts : Array Nat} (hx : Sub (opTy E x) (tV (.string s))) (hy : Sub (opTy E y) (tV (.int .u8 c))) (hc : 0 <= c /\ c < 256) :
    a8 ⟨prog, ro, N, ds, h0, w0, r⟩ ⟨d, .call { callee := .value (.func 286), args := #[x, y], argTypes := ts }, ty, pos, af, g⟩ E L (tV (.int .i64 ((aA s).count c : Nat))) :=
  FP (by intro c h; cases h) fun a w h hw fr => by
    have h1 : a.eval x = .string s := fr.get hx
    have h2 : a.eval y = .int .u8 c := fr.get hy
    refine ⟨_, ?_, rfl⟩
    have hr := run_callFunc_extern (P := prog) func286 (by kernel_rfl) (by kernel_rfl) (by kernel_rfl) (e := Extern.BytealgCount.count) (by kernel_rfl) #[.string s, .int .u8 c] w
    rw [Lib.run_countString] at hr
    have e : Lib.countByte s.data.toList c.toNat.toUInt8 = (aA s).count c := sQ _ _ hc
    rw [e] at hr
    simp only [execOp, resolve, show a.eval (.func 286) = .func (.func 286) #[] #[] from rfl, Deferred.ofValue]
    simp [invoke, h1, h2, hr, Result.andThen]
theorem il {T U e : Nat} {x : Operand} {xs : List Int} (hu : prog.underlying T = some (.slice e)) (hx : Sub (opTy E x) (Cd xs)) :
    a8 ⟨prog, ro, N, ds, h0, w0, r⟩ ⟨d, .binOp .neq T x (.const (.slice none 0 0)) U, ty, pos, af, g⟩ E L (tV (.bool (!decide (xs = [])))) :=
  FP (by intro c h; cases h) fun a w h hw fr => by
    obtain ⟨ao, len, cap, hv, hn⟩ : ∃ ao len cap, a.eval x = .slice ao len cap /\ ao.isNone = decide (xs = []) := by
      have hp := fr.get hx
      cases xs with
      | nil => exact ⟨none, 0, 0, hp, rfl⟩
      | cons z zs =>
        obtain ⟨ao, cap, hv, H⟩ := hp
        obtain ⟨b, off, rfl, _⟩ := H (by simp)
        exact ⟨_, _, _, hv, rfl⟩
    refine ⟨.bool (!ao.isNone), ?_, by rw [hn]; rfl⟩
    have he : ∀ w, (eqGuard .neq T x (.const (.slice none 0 0)) (a.eval x) (.slice none 0 0)).run prog w = .ok () w := by intro w; rw [hv]; simp [eqGuard]
    have h2 : a.eval (.const (.slice none 0 0)) = .slice none 0 0 := rfl
    have hr := Go.run_neq_slice_nil (P := prog) w T e ao len cap hu
    rw [hv] at he
    simp [execOp, hv, h2, Sem.run_bind, he, hr]
end
theorem nJ (b : Nat) : Spec (X := Unit) prog 186 [tAt b 0] ([box b 242 (aU gp) (nr 0 1, false, six)]) (fun _ => fW []) (fun _ => [box b 242 (aU gp) (nr 0 1, true, [])]) := by
 refine Spec.enter func186 rfl rfl fun h0 w0 fr0 => ?_
 refine Jr (Zm (Zm ?_))
 refine Zx (aR zS (vR b) ⟨Sr, trivial⟩ call203) fun v4 => ?_
 refine Zs (aW Sr) (Zs (aq vP Sr rfl) ?_)
 refine Ju (aS (R := rOI) (z := true) (y := ((nr 0 1, false, six) : Cg)) (y' := ((nr 0 1, true, six) : Cg)) Cf Sr Sr zS ⟨rfl, fun h cs r => r, rfl, by intro g hg; simp at hg; subst hg; rfl⟩) fun _ => ?_
 refine ab (ah (Zm (Zs (aW Sr) (Zs (aq vP Sr rfl) ?_))))
 refine Ju (aS (R := rSl d5) (z := []) (y := ((nr 0 1, true, six) : Cg)) (y' := ((nr 0 1, true, []) : Cg)) wU Sr F6 zS ⟨rfl, rfl, fun h cs r => r, rfl, by intro g hg; cases hg⟩) fun _ => ?_
 refine ab ?_
 refine iU rfl () Sr
theorem sR (s x : ByteArray) (hx : x.size = 1) : Fun1 prog 284 [tV (.string s), tV (.string x)] (tV (.int .i64 ((aA s).count (nth (aA x) 0) : Nat))) := by
 refine Spec.enter func284 rfl rfl fun h0 w0 fr0 => ?_
 have hk : 0 <= nth (aA x) 0 /\ nth (aA x) 0 < 256 := dK _ _ (nth_mem (by rw [cE]; omega))
 refine Jr (Za (ab (ap (Jr (Zm ?_)))))
 refine Zs (bF underlying9 Sr) (Zs (aJ Sr Sr) (ab ?_))
 refine am Sr (fun h9 => ?_) (fun h9 => ?_)
 ·
  try simp only [NF] at h9
  exfalso; omega
 try simp only [NF] at h9
 refine av (ap (Jr (Zm (Zs (bF underlying9 Sr) (Zs (aJ Sr Sr) ?_)))))
 refine ab ?_
 refine am Sr (fun h15 => ?_) (fun h15 => ?_)
 ·
  try simp only [NF] at h15
  refine Jr (Zm (Zm ?_))
  refine Zs (cR (i := 0) underlying9 Sr Sr (by rfl) zG) ?_
  refine Zs (vS Sr Sr hk) (Za (ab (aC ?_)))
  exact aI (t := 4) rfl () Sr
 try simp only [NF] at h15
 exfalso; omega
theorem mQ (s : ByteArray) (hs : s.size <= 1000000) : Fun1 prog 282 [bx (aU zh) (R3, T3), tV (.string s)] (tV (.string (ef (eW (aA s))))) := by
 refine Spec.enter func282 rfl rfl fun h0 w0 fr0 => ?_
 have hbl := cE s
 have hT3 : T3.length = 3 := rfl
 have hLn := c6 (aA s)
 have hx3 := DB (aA s)
 have hxl := ik (aA s)
 refine Jr (Za (ab (Jr (Zm (Zs (bF underlying9 Sr) ?_)))))
 refine Za (ab (Jr (Za (ab (ap ?_)))))
 refine Jr (Zm (Zs (aZ Sr) (Zs (aa pA Sr rfl) (Zs (ad (R := rSl d5) (y := T3) wU Sr) (Zs (ag (xs := T3) underlying60 Sr) ?_)))))
 refine Zs (tn Sr Sr z6) (Zm (Zs (bF underlying9 Sr) (Zs (bS Sr Sr) (ab ?_))))
 refine am Sr (fun h26 => ?_) (fun h26 => ?_)
 ·
  try simp only [NF] at h26
  refine Jr (Zm (Zs (aZ Sr) (Zs (aa pA Sr rfl) (Zs (ad (R := rSl d5) (y := T3) wU Sr) (Zs (ag (xs := T3) underlying60 Sr) ?_)))))
  refine Zm (ab (au ?_))
  refine aK (σ := Nat × Int × Bool) (fun ⟨j, n, al⟩ => j <= 3 /\ n = (s.size : Int) + x7 (aA s) j /\ al = decide (0 < x7 (aA s) j) /\ x7 (aA s) j <= j * s.size) (fun ⟨j, n, al⟩ => upd (upd (upd (upd (upd (upd (upd co 0 (bx (aU zh) (R3, T3))) 1 (tV (.string s))) 5 (tV (.int .i64 n))) 6 (tV (.bool al))) 30 (tSl d5 T3)) 31 (tV (.int .i64 T3.length))) 32 (tV (.int .i64 j))) (fun ⟨j, n, al⟩ => []) (fun ⟨j, n, al⟩ => 3 - j) (0, (s.size : Int), false) ⟨by omega, by simp [x7], by simp [x7], by simp [x7]⟩ (zU) (LSub.rfl) ?_
  rintro ⟨j, n, al⟩ ⟨hj, hn5, hn6, hcb⟩
  refine Jr (Zs (az Sr Sr) (ab (ap ?_)))
  refine am Sr (fun h33 => ?_) (fun h33 => ?_)
  ·
   try simp only [NF] at h33
   have hj3 : j < 3 := by omega
   have hk : 0 <= (nth (aA (nth T3 j)) 0) /\ (nth (aA (nth T3 j)) 0) < 256 := dK _ _ (nth_mem (by rw [cE, x6 j hj3]; decide))
   have hr2 := DA j hj3
   have hcb2 : j * s.size <= 3 * 1000000 := Nat.mul_le_mul zG hs
   have hcs := jZ (aA s) j
   have hcl := List.count_le_length (a := (nth (aA (nth T3 j)) 0)) (l := (aA s))
   refine av (ap (au (Jr ?_)))
   refine Zs (ae  underlying60 ty9 Sr Sr rfl (gb (by show j < 3; exact hj3))) ?_
   refine Zl ty9 Sr (Za (ab (Jr (Zm (Zm ?_)))))
   refine Zs (aj (sR s (nth T3 j) (x6 j hj3)) ⟨Sr, Sr, trivial⟩ call284) (Za (ab (Jr (Zm (Zs (be Sr Sr) ?_)))))
   refine ab ?_
   refine am Sr (fun h40 => ?_) (fun h40 => ?_)
   ·
    try simp only [NF] at h40
    refine ap ?_
    refine bQ [⟨0, [5], true⟩, ⟨1, [9], true⟩, ⟨2, [0], true⟩, ⟨3, [8], true⟩, ⟨4, [44], true⟩, ⟨5, [43], true⟩, ⟨6, [46], true⟩, ⟨7, [45, 47], true⟩, ⟨8, [48], true⟩, ⟨9, [49], true⟩, ⟨10, [50], true⟩, ⟨11, [42, 51], true⟩, ⟨12, [41, 52], true⟩, ⟨13, [53], true⟩] rfl (by kernel_rfl) ?_
    refine Zv rfl (Zv rfl (Zv rfl (Zv rfl ?_)))
    refine Zf rfl (cR (i := 0) underlying9 Sr Sr (by rfl) (by rw [x6 j hj3]; decide)) ?_
    refine Zf rfl (aZ Sr) (Zf rfl (aa pA Sr rfl) ?_)
    refine Zf rfl (dm (i := (nth (aA (nth T3 j)) 0).toNat) underlying272 eM rfl Sr Sr zG zG) ?_
    refine Zf rfl (ad eM Sr) ?_
    refine Zf rfl (ag (xs := nth R3 (nth (aA (nth T3 j)) 0).toNat) underlying271 (Ge (mM (by intro q; rw [q] at hr2; simp at hr2)))) ?_
    refine Zf rfl (cK Sr Sr z6) ?_
    refine Zf rfl (tn Sr Sr (by unfold iu; rw [hr2]; omega)) ?_
    refine Zf rfl (ax Sr Sr (by unfold iu; rw [hr2]; omega)) ?_
    refine Zf rfl (bd Sr) (bP (ah (Za (ab (ah ?_)))))
    refine Zs (ax Sr Sr z6) (Zm (ab ?_))
    refine ay (σ := Nat × Int × Bool) (s := (j, n, al)) (j + 1, n + (((aA s).count (nth (aA (nth T3 j)) 0) : Nat) : Int) * ((2 : Nat) - 1), true) zO ⟨by omega, by rw [hcs, hn5]; omega, by rw [hcs]; symm; rw [decide_eq_true_eq]; omega, by rw [hcs, Nat.add_mul]; omega⟩ (.u (.u (.u (.u (SubE.upd (Sub.int (by rw [hr2])) (zU)))))) (LSub.rfl)
   try simp only [NF] at h40
   refine av (ah (Zs (ax Sr Sr z6) (Zm (ab ?_))))
   refine ay (σ := Nat × Int × Bool) (s := (j, n, al)) (j + 1, n, al) zO ⟨by omega, by rw [hcs, hn5]; omega, by rw [hcs, hn6]; congr 1; simp; omega, by rw [hcs, Nat.add_mul]; omega⟩ (zU) (LSub.rfl)
  try simp only [NF] at h33
  obtain rfl : j = 3 := by omega
  rw [hx3] at hn5 hn6
  refine aV (ap (Jr (Zm (Zs (bc Sr) (ab ?_)))))
  refine am Sr (fun h82 => ?_) (fun h82 => ?_)
  ·
   try simp only [NF] at h82
   refine Jr (Zm (Za (ab (aC ?_))))
   refine aY (rv := .tmp 4) rfl () (Sel.all _) (.tmp Sr) (Frz.sub ?_)
   refine Sub.v (congrArg Value.string ?_)
   have h0 : dq (aA s) = 0 := by rw [h82] at hn6; have := hn6.symm; rw [decide_eq_false_iff_not] at this; omega
   rw [mP h0, d4]
  try simp only [NF] at h82
  refine av (Jr (Zm ?_))
  refine Zx (f3 (n := (eW (aA s)).length) underlying271 el5 Sr Sr zG zG zG) fun v85 => ?_
  refine Za (ab (Jr (Za (ab (ap ?_)))))
  refine Jr (Za (ab (au ?_)))
  refine aK (σ := Nat) (fun i => i <= s.size) (fun i => upd (upd (upd (upd (upd co 0 (bx (aU zh) (R3, T3))) 1 (tV (.string s))) 12 (rV.ty v85)) 13 (tV (.int .i64 ((eW ((aA s).take i)).length : Nat)))) 14 (tV (.int .i64 i))) (fun i => [own 5 rU8 v85 ((eW ((aA s).take i)) ++ List.replicate ((eW (aA s)).length - (eW ((aA s).take i)).length) 0)]) (fun i => s.size - i) 0 zG (.u (SubE.upd (Sub.int (by simp [eW])) (zU))) (.c zS (f5 (by simp [eW])) (LSub.nil)) ?_
  rintro i hi
  refine ap (Jr (Zm (Zm (Zs (bF underlying9 Sr) (Zs (az Sr Sr) ?_)))))
  refine ab ?_
  refine am Sr (fun h89 => ?_) (fun h89 => ?_)
  ·
   try simp only [NF] at h89
   have hlt : i < s.size := by omega
   have hlb : i < (aA s).length := by rw [cE]; exact hlt
   have hk : 0 <= (nth (aA s) i) /\ (nth (aA s) i) < 256 := dK _ _ (nth_mem hlb)
   obtain ⟨hr1, hr3⟩ := r3 hk
   have hel := lD (nth (aA s) i)
   have hes := gJ hlb
   have hll : (eW ((aA s).take (i + 1))).length = (eW ((aA s).take i)).length + (pV (nth (aA s) i)).length := by rw [hes, List.length_append]
   have hex := fk hlb
   have hle := jj (aA s) (i + 1)
   have hLt := c6 ((aA s).take i)
   have hxt := ik ((aA s).take i)
   have htl : ((aA s).take i).length <= s.size := by rw [List.length_take, hbl]; omega
   have hLn := c6 (aA s)
   refine av (ap (au (Jr (Zm (Zm ?_)))))
   refine Zs (cR (i := i) underlying9 Sr Sr (by rfl) (by exact hlt)) ?_
   refine Za (ab (Jr (Zm (Zm (Zs (aZ Sr) ?_)))))
   refine Zs (aa pA Sr rfl) ?_
   refine Zs (dm (i := (nth (aA s) i).toNat) underlying272 eM rfl Sr Sr zG zG) ?_
   refine Zl eM Sr (Zs (il underlying271 Sr) (ab ?_))
   refine am Sr (fun h101 => ?_) (fun h101 => ?_)
   ·
    try simp only [NF] at h101
    have hne : nth R3 (nth (aA s) i).toNat ≠ [] := by simpa using h101
    have hr2 := hr3.resolve_left hne
    rw [if_neg hne] at hr1
    rw [hr1] at hel hes hll
    refine bQ [⟨0, [13], true⟩, ⟨1, [12], true⟩, ⟨2, [13], true⟩, ⟨4, [0], true⟩, ⟨5, [15], true⟩, ⟨6, [106], true⟩, ⟨7, [108], true⟩, ⟨8, [107, 109], true⟩, ⟨9, [110], true⟩, ⟨3, [103, 104], false⟩, ⟨10, [105, 111], false⟩, ⟨11, [102, 112], true⟩, ⟨12, [113], true⟩] rfl (by kernel_rfl) ?_
    refine Zv rfl (Zv rfl (Zv rfl (Zv rfl (Zv rfl (Zf rfl (aZ Sr) ?_)))))
    refine Zf rfl (aa pA Sr rfl) ?_
    refine Zf rfl (dm (i := (nth (aA s) i).toNat) underlying272 eM rfl Sr Sr zG zG) ?_
    refine Zf rfl (ad eM Sr) ?_
    refine e8 rfl rfl rfl rfl (gQ (n := (eW ((aA s).take i)).length) underlying271 ty5 Sr Sr rfl zS (by simp)) ?_
    refine cN rfl rfl rfl rfl (ij (ys := nth R3 (nth (aA s) i).toNat) underlying271 (by kernel_rfl) Sr (Ge (mM hne)) zS (by simp; omega) hne) fun v112 => ?_
    refine Zf rfl (ax Sr Sr z6) (Zf rfl (bd Sr) (bP (ah (Zm (Zs (ax Sr Sr z6) ?_)))))
    refine Za (ab ?_)
    refine ay (σ := Nat) (s := i) (i + 1) zO zG (.u (SubE.upd (Sub.int (by rw [hes, List.length_append]; omega)) (zU))) (.c zS (f5 (by rw [hes]; exact qZ (by rw [hes, List.length_append] at hle; exact hle))) (LSub.nil))
   try simp only [NF] at h101
   have hne : nth R3 (nth (aA s) i).toNat = [] := by simpa using h101
   rw [if_pos hne] at hr1
   rw [hr1] at hel hes hll
   refine Jr (Zm (Zm (Zm ?_)))
   refine Zs (aG (i := (eW ((aA s).take i)).length) underlying271 ty5 Sr zS Sr (by rfl) (by simp; omega)) ?_
   refine Ju (bL ty5 Sr Sr zS (by simp; omega)) fun _ => ?_
   refine ab (ah (Zm (Zs (ax Sr Sr z6) (Za (ab ?_)))))
   refine ah (Zm (Zs (ax Sr Sr z6) (Za (ab ?_))))
   refine ay (σ := Nat) (s := i) (i + 1) zO zG (.u (SubE.upd (Sub.int (by rw [hes, List.length_append]; simp)) (zU))) (.c zS (f5 (by rw [hes]; exact uc (by rw [hes, List.length_append] at hle; exact hle))) (LSub.nil))
  try simp only [NF] at h89
  have hie : (aA s).take i = (aA s) := List.take_of_length_le zG
  refine aV (Jr (Zm ?_))
  refine Zs (eI underlying271 underlying5 underlying9 Sr zS) ?_
  refine Za (ab (aC ?_))
  refine aY (rv := .tmp 4) rfl () (Sel.all _) (.tmp Sr) (Frz.sub ?_)
  refine Sub.v (congrArg Value.string ?_)
  rw [hie]; simp
 try simp only [NF] at h26
 refine Jr (Za (ab (au ?_)))
 refine aK (σ := Nat × Int × Bool) (fun ⟨i, n, al⟩ => i <= s.size /\ n = (s.size : Int) + dq ((aA s).take i) /\ al = decide (0 < dq ((aA s).take i))) (fun ⟨i, n, al⟩ => upd (upd (upd (upd (upd co 0 (bx (aU zh) (R3, T3))) 1 (tV (.string s))) 5 (tV (.int .i64 n))) 6 (tV (.bool al))) 10 (tV (.int .i64 i))) (fun ⟨i, n, al⟩ => []) (fun ⟨i, n, al⟩ => s.size - i) (0, (s.size : Int), false) ⟨by omega, by simp [dq], by simp [dq]⟩ (zU) (LSub.rfl) ?_
 rintro ⟨i, n, al⟩ ⟨hi, hn5, hn6⟩
 refine ap (Jr (Zm (Zm (Zs (bF underlying9 Sr) (Zs (az Sr Sr) ?_)))))
 refine ab ?_
 refine am Sr (fun h58 => ?_) (fun h58 => ?_)
 ·
  try simp only [NF] at h58
  have hlt : i < s.size := by omega
  have hlb : i < (aA s).length := by rw [cE]; exact hlt
  have hk : 0 <= (nth (aA s) i) /\ (nth (aA s) i) < 256 := dK _ _ (nth_mem hlb)
  obtain ⟨hr1, hr3⟩ := r3 hk
  have hel := lD (nth (aA s) i)
  have hes := gJ hlb
  have hll : (eW ((aA s).take (i + 1))).length = (eW ((aA s).take i)).length + (pV (nth (aA s) i)).length := by rw [hes, List.length_append]
  have hex := fk hlb
  have hle := jj (aA s) (i + 1)
  have hLt := c6 ((aA s).take i)
  have hxt := ik ((aA s).take i)
  have htl : ((aA s).take i).length <= s.size := by rw [List.length_take, hbl]; omega
  have hLn := c6 (aA s)
  refine av (ap (au (Jr (Zm (Zm ?_)))))
  refine Zs (cR (i := i) underlying9 Sr Sr (by rfl) (by exact hlt)) ?_
  refine Za (ab (Jr (Zm (Zm (Zs (aZ Sr) ?_)))))
  refine Zs (aa pA Sr rfl) ?_
  refine Zs (dm (i := (nth (aA s) i).toNat) underlying272 eM rfl Sr Sr zG zG) ?_
  refine Zl eM Sr (Zs (il underlying271 Sr) (ab ?_))
  refine am Sr (fun h70 => ?_) (fun h70 => ?_)
  ·
   try simp only [NF] at h70
   have hne : nth R3 (nth (aA s) i).toNat ≠ [] := by simpa using h70
   have hr2 := hr3.resolve_left hne
   rw [if_neg hne] at hr1
   rw [hr1] at hel
   refine Jr (Zm (Zm (Zm (Zs (aZ Sr) (Zs (aa pA Sr rfl) ?_)))))
   refine Zs (dm (i := (nth (aA s) i).toNat) underlying272 eM rfl Sr Sr zG zG) ?_
   refine Zl eM Sr ?_
   refine Zs (ag (xs := nth R3 (nth (aA s) i).toNat) underlying271 (Ge (mM (by intro q; rw [q] at hr2; simp at hr2)))) ?_
   refine Zs (cK Sr Sr z6) (Zs (ax Sr Sr z6) (Za (ab (ah (Za ?_)))))
   refine ab (ah (Zm (Zs (ax Sr Sr z6) (Za (ab ?_)))))
   refine ay (σ := Nat × Int × Bool) (s := (i, n, al)) (i + 1, n + 1, true) zO ⟨by omega, by rw [hex, hn5]; omega, by rw [hex]; symm; rw [decide_eq_true_eq]; omega⟩ (.u (.u (SubE.upd (Sub.int (by rw [hr2]; omega)) (zU)))) (LSub.rfl)
  try simp only [NF] at h70
  have hne : nth R3 (nth (aA s) i).toNat = [] := by simpa using h70
  rw [if_pos hne] at hr1
  rw [hr1] at hel
  refine av (ah (Zm (Zs (ax Sr Sr z6) (Za (ab ?_)))))
  refine ay (σ := Nat × Int × Bool) (s := (i, n, al)) (i + 1, n, al) zO ⟨by omega, by rw [hex, hn5]; simp at hel; omega, by rw [hex, hn6]; congr 1; simp at hel; simp; omega⟩ (zU) (LSub.rfl)
 try simp only [NF] at h58
 have hie : (aA s).take i = (aA s) := List.take_of_length_le zG
 rw [hie] at hn5 hn6
 refine aV (ap (Jr (Zm (Zs (bc Sr) (ab ?_)))))
 refine am Sr (fun h82 => ?_) (fun h82 => ?_)
 ·
  try simp only [NF] at h82
  refine Jr (Zm (Za (ab (aC ?_))))
  refine aY (rv := .tmp 4) rfl () (Sel.all _) (.tmp Sr) (Frz.sub ?_)
  refine Sub.v (congrArg Value.string ?_)
  have h0 : dq (aA s) = 0 := by rw [h82] at hn6; have := hn6.symm; rw [decide_eq_false_iff_not] at this; omega
  rw [mP h0, d4]
 try simp only [NF] at h82
 refine av (Jr (Zm ?_))
 refine Zx (f3 (n := (eW (aA s)).length) underlying271 el5 Sr Sr zG zG zG) fun v85 => ?_
 refine Za (ab (Jr (Za (ab (ap ?_)))))
 refine Jr (Za (ab (au ?_)))
 refine aK (σ := Nat) (fun i => i <= s.size) (fun i => upd (upd (upd (upd (upd co 0 (bx (aU zh) (R3, T3))) 1 (tV (.string s))) 12 (rV.ty v85)) 13 (tV (.int .i64 ((eW ((aA s).take i)).length : Nat)))) 14 (tV (.int .i64 i))) (fun i => [own 5 rU8 v85 ((eW ((aA s).take i)) ++ List.replicate ((eW (aA s)).length - (eW ((aA s).take i)).length) 0)]) (fun i => s.size - i) 0 zG (.u (SubE.upd (Sub.int (by simp [eW])) (zU))) (.c zS (f5 (by simp [eW])) (LSub.nil)) ?_
 rintro i hi
 refine ap (Jr (Zm (Zm (Zs (bF underlying9 Sr) (Zs (az Sr Sr) ?_)))))
 refine ab ?_
 refine am Sr (fun h89 => ?_) (fun h89 => ?_)
 ·
  try simp only [NF] at h89
  have hlt : i < s.size := by omega
  have hlb : i < (aA s).length := by rw [cE]; exact hlt
  have hk : 0 <= (nth (aA s) i) /\ (nth (aA s) i) < 256 := dK _ _ (nth_mem hlb)
  obtain ⟨hr1, hr3⟩ := r3 hk
  have hel := lD (nth (aA s) i)
  have hes := gJ hlb
  have hll : (eW ((aA s).take (i + 1))).length = (eW ((aA s).take i)).length + (pV (nth (aA s) i)).length := by rw [hes, List.length_append]
  have hex := fk hlb
  have hle := jj (aA s) (i + 1)
  have hLt := c6 ((aA s).take i)
  have hxt := ik ((aA s).take i)
  have htl : ((aA s).take i).length <= s.size := by rw [List.length_take, hbl]; omega
  have hLn := c6 (aA s)
  refine av (ap (au (Jr (Zm (Zm ?_)))))
  refine Zs (cR (i := i) underlying9 Sr Sr (by rfl) (by exact hlt)) ?_
  refine Za (ab (Jr (Zm (Zm (Zs (aZ Sr) ?_)))))
  refine Zs (aa pA Sr rfl) ?_
  refine Zs (dm (i := (nth (aA s) i).toNat) underlying272 eM rfl Sr Sr zG zG) ?_
  refine Zl eM Sr (Zs (il underlying271 Sr) (ab ?_))
  refine am Sr (fun h101 => ?_) (fun h101 => ?_)
  ·
   try simp only [NF] at h101
   have hne : nth R3 (nth (aA s) i).toNat ≠ [] := by simpa using h101
   have hr2 := hr3.resolve_left hne
   rw [if_neg hne] at hr1
   rw [hr1] at hel hes hll
   refine bQ [⟨0, [13], true⟩, ⟨1, [12], true⟩, ⟨2, [13], true⟩, ⟨4, [0], true⟩, ⟨5, [15], true⟩, ⟨6, [106], true⟩, ⟨7, [108], true⟩, ⟨8, [107, 109], true⟩, ⟨9, [110], true⟩, ⟨3, [103, 104], false⟩, ⟨10, [105, 111], false⟩, ⟨11, [102, 112], true⟩, ⟨12, [113], true⟩] rfl (by kernel_rfl) ?_
   refine Zv rfl (Zv rfl (Zv rfl (Zv rfl (Zv rfl (Zf rfl (aZ Sr) ?_)))))
   refine Zf rfl (aa pA Sr rfl) ?_
   refine Zf rfl (dm (i := (nth (aA s) i).toNat) underlying272 eM rfl Sr Sr zG zG) ?_
   refine Zf rfl (ad eM Sr) ?_
   refine e8 rfl rfl rfl rfl (gQ (n := (eW ((aA s).take i)).length) underlying271 ty5 Sr Sr rfl zS (by simp)) ?_
   refine cN rfl rfl rfl rfl (ij (ys := nth R3 (nth (aA s) i).toNat) underlying271 (by kernel_rfl) Sr (Ge (mM hne)) zS (by simp; omega) hne) fun v112 => ?_
   refine Zf rfl (ax Sr Sr z6) (Zf rfl (bd Sr) (bP (ah (Zm (Zs (ax Sr Sr z6) ?_)))))
   refine Za (ab ?_)
   refine ay (σ := Nat) (s := i) (i + 1) zO zG (.u (SubE.upd (Sub.int (by rw [hes, List.length_append]; omega)) (zU))) (.c zS (f5 (by rw [hes]; exact qZ (by rw [hes, List.length_append] at hle; exact hle))) (LSub.nil))
  try simp only [NF] at h101
  have hne : nth R3 (nth (aA s) i).toNat = [] := by simpa using h101
  rw [if_pos hne] at hr1
  rw [hr1] at hel hes hll
  refine Jr (Zm (Zm (Zm ?_)))
  refine Zs (aG (i := (eW ((aA s).take i)).length) underlying271 ty5 Sr zS Sr (by rfl) (by simp; omega)) ?_
  refine Ju (bL ty5 Sr Sr zS (by simp; omega)) fun _ => ?_
  refine ab (ah (Zm (Zs (ax Sr Sr z6) (Za (ab ?_)))))
  refine ah (Zm (Zs (ax Sr Sr z6) (Za (ab ?_))))
  refine ay (σ := Nat) (s := i) (i + 1) zO zG (.u (SubE.upd (Sub.int (by rw [hes, List.length_append]; simp)) (zU))) (.c zS (f5 (by rw [hes]; exact uc (by rw [hes, List.length_append] at hle; exact hle))) (LSub.nil))
 try simp only [NF] at h89
 have hie : (aA s).take i = (aA s) := List.take_of_length_le zG
 refine aV (Jr (Zm ?_))
 refine Zs (eI underlying271 underlying5 underlying9 Sr zS) ?_
 refine Za (ab (aC ?_))
 refine aY (rv := .tmp 4) rfl () (Sel.all _) (.tmp Sr) (Frz.sub ?_)
 refine Sub.v (congrArg Value.string ?_)
 rw [hie]; simp
open Go
theorem Cj {P : Program} (hg : P.globalNamed "internal/strconv.uint64pow10" = some tabG) {h : PH} {w : World} (hi : Inv h) (hw : h.inw w) : Lib.TabIs P w "internal/strconv.uint64pow10" .u64 Lib.pow10Tab := by
 obtain ⟨e, fz, q⟩ := hi
 have := hw _ _ q
 simp only [Lib.TabIs, World.var?, hg, Option.bind_some, this]
 rfl
def sS (n : Int) : ByteArray := toB (Lib.itoa n)
theorem x8 {P : Program} {ρ : Shelf.Ren} (L : Go.Proofs.LaysM.n171 P ρ) (hg : P.globalNamed "internal/strconv.uint64pow10" = some tabG) (n : Int) (h0 : -9223372036854775808 <= n) (h1 : n <= 9223372036854775807) :
  Fun1 P (ρ.f 171) [tV (.int .i64 n)] (tV (.string (sS n))) := by
 intro vs h m r w ha sp st
 match vs, ha with
 | [u1], ⟨a1, _⟩ =>
 have a1 : u1 = .int .i64 n := a1
 subst a1
 refine (Go.Proofs.Any.strconv_Itoa L n h0 h1 w (Cj hg sp.inv sp.hw)).mono ?_
 rintro e w' ⟨rfl, k, os, rfl⟩
 obtain ⟨l, s⟩ := wL sp (Go.Proofs.below_grown w k os)
 exact ⟨(), _, h, m, rfl, l, s, st, rfl⟩
end Lg
namespace Go.Proofs
open Go.Shelf
def Tryz.itoaL_ren : Go.Shelf.Ren := ⟨fun | 171 => 164 | 243 => 187 | 246 => 204 | 283 => 216 | 284 => 217 | 285 => 218 | 286 => 219 | 129 => 155 | 317 => 227 | 318 => 228 | 319 => 229 | 320 => 230 | 337 => 241 | 338 => 242 | n => n, fun | 3 => 3 | 9 => 9 | 2 => 2 | 4 => 4 | 171 => 276 | 0 => 0 | 53 => 201 | 37 => 271 | 5 => 5 | 173 => 278 | 212 => 296 | 51 => 199 | 20 => 20 | 213 => 297 | 46 => 157 | 232 => 311 | 233 => 312 | n => n, fun | 17 => 0 | 18 => 1 | 19 => 2 | n => n⟩
theorem Tryz.itoaL : Go.Proofs.LaysM.n171 Tryz.prog Tryz.itoaL_ren := {
 mixed := by kernel_rfl
 f129 := Tryz.func155.trans (congrArg some (by kernel_rfl))
 f171 := Tryz.func164.trans (congrArg some (by kernel_rfl))
 f243 := Tryz.func187.trans (congrArg some (by kernel_rfl))
 f246 := Tryz.func204.trans (congrArg some (by kernel_rfl))
 f283 := Tryz.func216.trans (congrArg some (by kernel_rfl))
 f284 := Tryz.func217.trans (congrArg some (by kernel_rfl))
 f285 := Tryz.func218.trans (congrArg some (by kernel_rfl))
 f286 := Tryz.func219.trans (congrArg some (by kernel_rfl))
 f317 := Tryz.func227.trans (congrArg some (by kernel_rfl))
 f318 := Tryz.func228.trans (congrArg some (by kernel_rfl))
 f319 := Tryz.func229.trans (congrArg some (by kernel_rfl))
 f320 := Tryz.func230.trans (congrArg some (by kernel_rfl))
 f337 := Tryz.func241.trans (congrArg some (by kernel_rfl))
 f338 := Tryz.func242.trans (congrArg some (by kernel_rfl))
 t0 := Tryz.underlying0
 a0 := Tryz.isAgg0
 z0 := Tryz.sizeOf0
 v0 := Tryz.zeroValue0
 t2 := Tryz.underlying2
 a2 := Tryz.isAgg2
 z2 := Tryz.sizeOf2
 v2 := Tryz.zeroValue2
 t3 := Tryz.underlying3
 a3 := Tryz.isAgg3
 z3 := Tryz.sizeOf3
 v3 := Tryz.zeroValue3
 t4 := Tryz.underlying4
 a4 := Tryz.isAgg4
 z4 := Tryz.sizeOf4
 v4 := Tryz.zeroValue4
 t5 := Tryz.underlying5
 a5 := Tryz.isAgg5
 z5 := Tryz.sizeOf5
 v5 := Tryz.zeroValue5
 t9 := Tryz.underlying9
 a9 := Tryz.isAgg9
 z9 := Tryz.sizeOf9
 v9 := Tryz.zeroValue9
 t20 := Tryz.underlying20
 a20 := Tryz.isAgg20
 z20 := Tryz.sizeOf20
 v20 := Tryz.zeroValue20
 t37 := Tryz.underlying271
 a37 := Tryz.isAgg271
 z37 := Tryz.sizeOf271
 v37 := Tryz.zeroValue271
 t46 := Tryz.underlying157
 a46 := Tryz.isAgg157
 z46 := Tryz.sizeOf157
 v46 := Tryz.zeroValue157
 t51 := Tryz.underlying199
 a51 := Tryz.isAgg199
 z51 := Tryz.sizeOf199
 v51 := Tryz.zeroValue199
 t53 := Tryz.underlying201
 a53 := Tryz.isAgg201
 z53 := Tryz.sizeOf201
 v53 := Tryz.zeroValue201
 t171 := Tryz.underlying276
 a171 := Tryz.isAgg276
 z171 := Tryz.sizeOf276
 v171 := Tryz.zeroValue276
 t173 := Tryz.underlying278
 a173 := Tryz.isAgg278
 z173 := Tryz.sizeOf278
 v173 := Tryz.zeroValue278
 t212 := Tryz.underlying296
 a212 := Tryz.isAgg296
 z212 := Tryz.sizeOf296
 v212 := Tryz.zeroValue296
 t213 := Tryz.underlying297
 a213 := Tryz.isAgg297
 z213 := Tryz.sizeOf297
 t232 := Tryz.underlying311
 a232 := Tryz.isAgg311
 z232 := Tryz.sizeOf311
 v232 := Tryz.zeroValue311
 t233 := Tryz.underlying312
 a233 := Tryz.isAgg312
 z233 := Tryz.sizeOf312
 v233 := Tryz.zeroValue312
 g17 := by kernel_rfl
 g18 := by kernel_rfl
 g19 := by kernel_rfl
 i0 := by kernel_rfl
 i2 := by kernel_rfl
 i3 := by kernel_rfl
 i4 := by kernel_rfl
 i5 := by kernel_rfl
 i9 := by kernel_rfl
 i20 := by kernel_rfl
 i37 := by kernel_rfl
 i46 := by kernel_rfl
 i51 := by kernel_rfl
 i53 := by kernel_rfl
 i171 := by kernel_rfl
 i173 := by kernel_rfl
 i212 := by kernel_rfl
 i232 := by kernel_rfl
 i233 := by kernel_rfl
 m17 := by kernel_rfl
 m18 := by kernel_rfl
 m19 := by kernel_rfl }
end Go.Proofs
namespace Lg
open Go Go.Proofs Go.Proofs.Tryz
theorem vT (b off : Nat) (w : World) : (method (prog.types.size + Made.depth) 275 (.pointer (some ⟨b, off, none⟩)) "Replace").run prog w = .ok (282, .pointer (some ⟨b, off, none⟩)) w := by
  kernel_rfl
theorem nK {C : Cx} {E : Env} {L : List SP} {d : Option Nat} {ty : Nat} {pos : String} {af : Array Edge} {g : Option (Nat × Bool)} {f b : Nat} {x : Operand} (hx : Sub (opTy E x) (tAt b 0)) :
    a8 C ⟨d, .makeFunc (.func f) #[x] #[], ty, pos, af, g⟩ E L (tV (.func (.func f) #[.pointer (some ⟨b, 0, none⟩)] #[])) :=
  FP (by intro c h; cases h) fun a w h hw fr => by
    have hv : a.eval x = .pointer (some ⟨b, 0, none⟩) := fr.get hx
    exact ⟨_, by simp [execOp, Instr.makeFunc, hv], rfl⟩
theorem q6 (n : Int) (h : -9223372036854775808 <= n /\ n <= 9223372036854775807) : Fun1 prog 164 [tV (.int .i64 n)] (tV (.string (sS n))) := x8 Tryz.itoaL (by kernel_rfl) n h.1 h.2
theorem ov {n : Int} (h : -9223372036854775808 <= n /\ n <= 9223372036854775807) : (sS n).size <= 30 := by
  have hd : ∀ (k u : Nat), u < 10 ^ (k + 1) -> Lib.nDigits u <= k + 1 := by
    intro k
    induction k with
    | zero => intro u hu; rw [Lib.nDigits_small (by simpa using hu)]; exact Nat.le_refl _
    | succ k ih =>
      intro u hu
      by_cases h10 : u < 10
      · rw [Lib.nDigits_small h10]; omega
      · rw [Lib.nDigits_big h10]
        have := ih (u / 10) (by rw [Nat.pow_succ] at hu; exact Nat.div_lt_of_lt_mul (by rw [Nat.mul_comm]; exact hu))
        omega
  have h2 : (sS n).size = (Lib.itoa n).length := by show (List.toArray _).size = _; simp
  rw [h2]
  unfold Lib.itoa
  split
  · rw [List.length_cons, Lib.decDigits_length]
    have := hd 19 n.natAbs (by have : (10 : Nat) ^ (19 + 1) = 100000000000000000000 := by decide
                               omega)
    omega
  · rw [Lib.decDigits_length]
    have := hd 19 n.toNat (by have : (10 : Nat) ^ (19 + 1) = 100000000000000000000 := by decide
                              omega)
    omega
def vU (b : Bool) : ByteArray := if b then ⟨#[116, 114, 117, 101]⟩ else ⟨#[102, 97, 108, 115, 101]⟩
def EE : ByteArray := ⟨#[110, 117, 108, 108]⟩
def atB : ByteArray := ⟨#[64]⟩
def q7 (s : ByteArray) : ByteArray := (⟨#[34]⟩ : ByteArray) ++ ef (eW (aA s)) ++ (⟨#[34]⟩ : ByteArray)
theorem q8 (cur : List Int) : (ef cur).size = cur.length := by show (List.toArray _).size = _; simp
theorem q9 {v : GValue} (h : bh v = true) (hk : v.Kind = 1) : v.Text.size <= 200 := by
  unfold bh at h
  simp [hk] at h
  have := h.1; omega
def eK (v : GValue) : ByteArray :=
  if bh v = false then ⟨#[]⟩ else if v.Kind = 1 then q7 v.Text else if v.Kind = 2 then sS v.N else if v.Kind = 3 then atB ++ sS v.N else if v.Kind = 4 then vU (decide (v.N = 1)) else EE
theorem ow (s : ByteArray) : (q7 s).size <= 4 * s.size + 2 := by
  unfold q7
  rw [ByteArray.size_append, ByteArray.size_append, q8, c6, cE]
  have h1 := ik (aA s)
  rw [cE] at h1
  have h2 : (⟨#[34]⟩ : ByteArray).size = 1 := rfl
  omega
theorem iG (v : GValue) : (eK v).size <= 1000 := by
  unfold eK
  split
  · exact Nat.zero_le _
  · rename_i hv
    have hv : bh v = true := by simpa using hv
    have hn := lZ hv
    have := ov (n := v.N) (by omega)
    split
    · rename_i hk
      have h1 := q9 hv hk
      have h2 := ow v.Text
      omega
    · repeat' split
      · omega
      · rw [ByteArray.size_append]; have : atB.size = 1 := rfl; omega
      · unfold vU; split <;> decide
      · decide
theorem re (b : Nat) (s : ByteArray) (hs : s.size <= 1000000) : Spec (X := Unit) prog 163 [tAt b 0, tV (.string s)] ([box b 242 (aU gp) (nr 0 0, false, six)]) (fun _ => tV (.string (ef (eW (aA s))))) (fun _ => [box b 242 (aU gp) (nr 1 0, true, [])]) := by
 refine Spec.enter func163 rfl rfl fun h0 w0 fr0 => ?_
 refine Jr (Za (ab (Jr (Zm (Zs (aW Sr) ?_)))))
 refine Zs (aq vP Sr rfl) (Zm (Zs (nK Sr) ?_))
 refine Zx (aR zS (Ch b (nJ b)) ⟨Sr, Sr, trivial⟩ call185) fun v10 => ?_
 refine ab (Jr (Zm (Zs (aW Sr) (Zs (aq vP Sr rfl) ?_))))
 refine Zs (a6 Cf Sr rfl zS) ?_
 refine Zm ?_
 refine Zx (rW (A := bx (aU zh) (R3, T3)) Sr (by rintro h u w ⟨b, off, cs, rfl, _⟩; exact vT b off w) (FN _) (mQ s hs) ⟨Sr, trivial⟩ call282) fun v16 => ?_
 refine Za (ab (aC ?_))
 refine aI (t := 4) rfl () Sr
theorem x9 (b : Bool) : Fun1 prog 188 [tV (.bool b)] (tV (.string (vU b))) := by
 refine Spec.enter func188 rfl rfl fun h0 w0 fr0 => ?_
 refine Jr (Za (ab (ap (Jr (Zm ?_)))))
 refine ab ?_
 refine am Sr (fun h3 => ?_) (fun h3 => ?_)
 ·
  try simp only [NF] at h3
  refine Jr (Za (ab (aC ?_)))
  refine bz (rv := .tmp 2) rfl () (.tmp Sr) (Sub.v (congrArg Value.string ?_))
  simp [vU, h3]
 try simp only [NF] at h3
 refine av (Jr (Za (ab (aC ?_))))
 refine bz (rv := .tmp 2) rfl () (.tmp Sr) (Sub.v (congrArg Value.string ?_))
 simp [vU, h3]
theorem mR (b : Bool) : Fun1 prog 165 [tV (.bool b)] (tV (.string (vU b))) := by
 refine Spec.enter func165 rfl rfl fun h0 w0 fr0 => ?_
 refine Jr (Za (ab (Jr (Zm (Zs (aj (x9 _) ⟨Sr, trivial⟩ call188) ?_)))))
 refine Za (ab (aC ?_))
 exact aI (t := 2) rfl () Sr
theorem rf (v : GValue) : Fun1 prog 125 [rValue.ty v] (tV (.string (eK v))) := by
 refine Spec.enter func125 rfl rfl fun h0 w0 fr0 => ?_
 refine Jr (Zs (aF (R := rValue) Sr) (Za (ab (ap (Jr ?_)))))
 refine Zl bZ Sr (Zs (aj (eU _) ⟨Sr, trivial⟩ call48) (Zs (bc Sr) (ab ?_)))
 refine am Sr (fun h5 => ?_) (fun h5 => ?_)
 ·
  try simp only [NF] at h5
  refine Jr (Za (ab (aC ?_)))
  refine aY (rv := .tmp 2) rfl () (Sel.all _) (.tmp Sr) (Frz.sub (Sub.v (congrArg Value.string ?_)))
  have : bh v = false := by simpa using h5
  rw [eK, if_pos this]
 try simp only [NF] at h5
 have hvv : bh v = true := by simpa using h5
 have hn := lZ hvv
 have hNr : -9223372036854775808 <= v.N /\ v.N <= 9223372036854775807 := by omega
 have his := ov hNr
 refine av (ap (Jr (Zs (aa fp Sr rfl) (Zl ty3 Sr (ab ?_)))))
 refine au (Jr (Zs (aJ Sr Sr) (Za (ab ?_))))
 refine am Sr (fun h8 => ?_) (fun h8 => ?_)
 ·
  try simp only [NF] at h8
  have hts : v.Text.size <= 1000000 := by have := q9 hvv h8; omega
  have hqs := ow v.Text
  have hq1 : (⟨#[34]⟩ : ByteArray).size = 1 := rfl
  have hes : (ef (eW (aA v.Text))).size <= 4 * v.Text.size := by unfold q7 at hqs; rw [ByteArray.size_append, ByteArray.size_append] at hqs; omega
  refine ap ?_
  refine bQ [⟨0, [], true⟩, ⟨2, [1], true⟩, ⟨3, [12], true⟩, ⟨1, [10], false⟩, ⟨4, [11, 13], false⟩, ⟨5, [14], true⟩, ⟨6, [15], true⟩, ⟨7, [16], true⟩] rfl (by kernel_rfl) ?_
  refine Zf rfl (aB (ys := [_, _, _, _, _, _]) underlying60 el9 ⟨rfl, Sr, rfl, Sr, rfl, Sr, rfl, Sr, rfl, Sr, rfl, Sr, trivial⟩ rfl (by decide)) ?_
  refine Zf rfl (aa fp Sr rfl) (Zf rfl (ad ty9 Sr) ?_)
  refine cN rfl rfl rfl rfl (aR (FN _) (lr six (by decide) (by decide)) ⟨Sr, trivial⟩ call162) fun b11 => ?_
  refine cN rfl rfl rfl rfl (aR zS (re b11 v.Text hts) ⟨Sr, Sr, trivial⟩ call163) fun v14 => ?_
  refine Zf rfl (dl Sr Sr zG) ?_
  refine Zf rfl (dl Sr Sr (by rw [ByteArray.size_append]; omega)) ?_
  refine Zf rfl (bd Sr) (bP (aC ?_))
  refine aY (rv := .tmp 2) rfl () (Sel.all _) (.tmp Sr) (Frz.sub (Sub.v (congrArg Value.string ?_)))
  rw [eK, if_neg (by rw [hvv]; decide), if_pos h8]; rfl
 try simp only [NF] at h8
 refine Jr (Zs (aJ Sr Sr) (Za (ab ?_)))
 refine am Sr (fun h17 => ?_) (fun h17 => ?_)
 ·
  try simp only [NF] at h17
  refine Jr (Zs (aa fp Sr rfl) (Zl ty3 Sr (Zs (aj (q6 v.N hNr) ⟨Sr, trivial⟩ call164) (Za (ab ?_)))))
  refine aC ?_
  refine aY (rv := .tmp 2) rfl () (Sel.all _) (.tmp Sr) (Frz.sub (Sub.v (congrArg Value.string ?_)))
  first | (simp [eK, *]; done) | (simp [eK, *]; rfl)
 try simp only [NF] at h17
 refine Jr (Zs (aJ Sr Sr) (Za (ab ?_)))
 refine am Sr (fun h22 => ?_) (fun h22 => ?_)
 ·
  try simp only [NF] at h22
  refine Jr (Zs (aa fp Sr rfl) (Zl ty3 Sr (Zs (aj (q6 v.N hNr) ⟨Sr, trivial⟩ call164) ?_)))
  refine Zs (dl Sr Sr (by have : (⟨#[64]⟩ : ByteArray).size = 1 := rfl; omega)) ?_
  refine Za (ab (aC ?_))
  refine aY (rv := .tmp 2) rfl () (Sel.all _) (.tmp Sr) (Frz.sub (Sub.v (congrArg Value.string ?_)))
  first | (simp [eK, *]; done) | (simp [eK, *]; rfl)
 try simp only [NF] at h22
 refine Jr (Zs (aJ Sr Sr) (Za (ab ?_)))
 refine am Sr (fun h28 => ?_) (fun h28 => ?_)
 ·
  try simp only [NF] at h28
  refine Jr (Zs (aa fp Sr rfl) (Zl ty3 Sr (Zs (aJ Sr Sr) (Zs (aj (mR _) ⟨Sr, trivial⟩ call165) (Za ?_)))))
  refine ab (aC ?_)
  refine aY (rv := .tmp 2) rfl () (Sel.all _) (.tmp Sr) (Frz.sub (Sub.v (congrArg Value.string ?_)))
  first | (simp [eK, *]; done) | (simp [eK, *]; rfl)
 try simp only [NF] at h28
 refine av (Jr (Za (ab (aC ?_))))
 refine aY (rv := .tmp 2) rfl () (Sel.all _) (.tmp Sr) (Frz.sub (Sub.v (congrArg Value.string ?_)))
 first | (simp [eK, *]; done) | (simp [eK, *]; rfl)
open Go
section
variable {C : Cx} {E : Env} {L : List SP} {d : Option Nat} {ty : Nat} {pos : String} {af : Array Edge} {g : Option (Nat × Bool)}
end
theorem jk {P : Program} (w : World) (t ti ty e : TypeId) (i : TypeInfo) (z : Value) (ht : P.underlying t = some (.slice e)) (hti : P.underlying ti = some (.int .i64)) (hi : P.info? e = some i) (hz : i.zero = some z) (hk : 0 < i.size) (n : Nat) (h0 : 0 < n) (h63 : (n : Int) <= 9223372036854775807) (h48 : n * i.bytes <= 281474976710656) :
  (Builtin.append_ #[t, ti] ty #[.slice none 0 0, .int .i64 n]).run P w =
   .ok (.slice (some ⟨w.heap.size, 0, none⟩) n (grownCap w n 0 e)) (w.drew.alloc (.cells (Builtin.zeroCells z.cells n ++ Builtin.zeroCells z.cells (grownCap w n 0 e - n)) e)) := by
 have hn : n ≠ 0 := by omega
 have h63' : ¬ (9223372036854775807 < (n : Int)) := by omega
 have h48' : ¬ (281474976710656 < Builtin.nextslicecap n 0 * i.bytes) := by rw [nextslicecap_zero h0]; omega
 have h48'' : ¬ (281474976710656 < (n : Int) * (i.bytes : Int)) := by
  have : ((n * i.bytes : Nat) : Int) <= 281474976710656 := by omega
  rw [Int.natCast_mul] at this; omega
 have hw : IntKind.i64.wrap (n : Int) = n := fZ ⟨by omega, by omega⟩
 have hns : ¬ (n * i.size = 0) := Nat.mul_ne_zero (by omega) (by omega)
 have hmx : ¬ (9223372036854775807 < max (n : Int) 0) := by omega
 simp [Builtin.append_, run_underlying ht, run_underlying hti, Go.sizeOf, typeInfo, zeroValue, hi, hz, Builtin.lenOf, hn, hw, asInt, asIntOf, h63', h48', h48'', hns, hmx, Question.forced, run_firstCells_none, newRow, grownCap]
 intro q; exfalso; omega
section
variable {C : Cx} {E : Env} {L : List SP} {d : Option Nat} {ty : Nat} {pos : String} {af : Array Edge} {g : Option (Nat × Bool)}
theorem fN {T e : Nat} {x : Operand} (hu : C.P.underlying T = some (.slice e)) (hx : Sub (opTy E x) (rV.ty (.slice none 0 0))) :
  a8 C ⟨d, .call { callee := .builtin .cap, args := #[x], argTypes := #[T] }, ty, pos, af, g⟩ E L (tV (.int .i64 0)) :=
 FP (by intro c h; cases h) fun a w h hw fr => by
  have hv : a.eval x = .slice none 0 0 := (fr.get hx).1
  exact ⟨_, by simp [execOp, resolve, invoke, builtin, Builtin.cap_, hv, run_underlying hu, goInt], rfl⟩
theorem fO {T e : Nat} {x : Operand} (hu : C.P.underlying T = some (.slice e)) (hx : Sub (opTy E x) (rV.ty (.slice none 0 0))) :
  a8 C ⟨d, .call { callee := .builtin .len, args := #[x], argTypes := #[T] }, ty, pos, af, g⟩ E L (tV (.int .i64 0)) :=
 FP (by intro c h; cases h) fun a w h hw fr => by
  have hv : a.eval x = .slice none 0 0 := (fr.get hx).1
  exact ⟨_, by simp [execOp, resolve, invoke, builtin, Builtin.len_, hv, run_underlying hu, goInt], rfl⟩
theorem i1 {T e : Nat} {α : Type} {R : Rp α} {x y : Operand} {z : Int} (hu : C.P.underlying T = some (.slice e)) (hR : TyOf C.P e R) (hx : Sub (opTy E x) (rV.ty (.slice none 0 0))) (hy : Sub (opTy E y) (tV (.int .i64 z))) (hz : z = 0) :
  a8 C ⟨d, .slice T x none (some y) none, ty, pos, af, g⟩ E L (rV.ty (.slice none 0 0)) :=
 FQ (by intro c h; cases h) fun a w h m l sp st fr => by
  have hv : a.eval x = .slice none 0 0 := (fr.get hx).1
  have h2 : a.eval y = .int .i64 z := fr.get hy
  subst hz
  refine ⟨(), .slice none 0 0, w, h, _, ?_, HL.refl, sp, st, ⟨rfl, rfl⟩⟩
  simp [execOp, Instr.sliceAt, run_underlying hu, hv, h2, Instr.slice, Instr.sliceBounds, Instr.sliceBound, asIntOf, hR.size]
theorem gR {α : Type} {T Ti e bytes n : Nat} {R : Rp α} {z : α} {x y : Operand} {i : Int} (hu : C.P.underlying T = some (.slice e)) (hi : C.P.underlying Ti = some (.int .i64)) (hE : ElT C.P e R bytes z)
  (hx : Sub (opTy E x) (rV.ty (.slice none 0 0))) (hy : Sub (opTy E y) (tV (.int .i64 i))) (hn : i = n) (h0 : 0 < n) (hb : n * bytes <= 281474976710656) (h63 : n <= 4611686018427387904) :
  Step C ⟨d, .call { callee := .builtin .append, args := #[x, y], argTypes := #[T, Ti] }, ty, pos, af, g⟩ E L (fun v' : Value => rV.ty v') (fun v' => own e R v' (List.replicate n z) :: L) :=
 FQ (by intro c h; cases h) fun a w h m l sp st fr => by
  have hv : a.eval x = .slice none 0 0 := (fr.get hx).1
  have h2 : a.eval y = .int .i64 i := fr.get hy
  subst hn
  obtain ⟨ii, zv, hii, hz, hk, hby, hzr⟩ := hE.inf
  have rz := R.cells (hzr h)
  have hzl := R.len rz
  have hzs : zv.cells.size = R.k := by simpa using hzl
  have hp := hE.pos
  have hr := jk (P := C.P) w T Ti ty e ii zv hu hi hii hz (by omega) n h0 (by omega) (by rw [hby]; exact hb)
  have hop : (execOp a.eval ⟨d, .call { callee := .builtin .append, args := #[x, y], argTypes := #[T, Ti] }, ty, pos, af, g⟩).run C.P w = .ok (.value (.slice (some ⟨w.heap.size, 0, none⟩) n (grownCap w n 0 e))) (w.drew.alloc (.cells (Builtin.zeroCells zv.cells n ++ Builtin.zeroCells zv.cells (grownCap w n 0 e - n)) e)) := by
   simp [execOp, resolve, invoke, builtin, hv, h2, hr]
  have hge := grownCap_ge w n 0 e
  have hzf : (Builtin.zeroCells zv.cells n).toList = (List.replicate n zv).flatMap fun v => v.cells.toList := by
   rw [show Builtin.zeroCells zv.cells n = madeCells zv.cells (n * R.k) by rw [<- hzs]; rfl]
   exact iS zv hE.pos hzs n
  have hra : Args h ((List.replicate n z).map R.ty) (List.replicate n zv) := by
   have : ∀ n : Nat, Args h ((List.replicate n z).map R.ty) (List.replicate n zv) := by
    intro n
    induction n with
    | zero => trivial
    | succ n ih => exact ⟨hzr h, ih⟩
   exact this n
  have hrf := gv hra
  have hlf := cC hrf
  rw [List.length_replicate] at hlf
  refine ⟨_, _, _, h, (PH.one w.heap.size (.cells _ e)).join m, hop, HL.same (Gh _ _), Sep.drew sp |>.allocOwn (w := w.drew) _, ?_, ⟨rfl, rfl⟩⟩
  refine ⟨_, m, FU (FV sp.mw _), rfl, .inr ⟨w.heap.size, _, _, by rw [List.length_replicate], rfl, by rw [List.length_replicate]; exact hge, grownCap_le_maxLen w _ _ _ (by unfold maxLen; omega), ?_, ?_⟩, st⟩
  · rw [Array.size_append, size_zeroCells, size_zeroCells, hzs, <- Nat.add_mul]; congr 1; omega
  · rw [List.length_replicate, Array.toList_append, hzf, List.take_append_of_le_length (by rw [hlf]; exact Nat.le_refl _), List.take_of_length_le (by rw [hlf]; exact Nat.le_refl _)]
    exact hrf
end
theorem kL {α : Type} {ls : List (List α)} {i : Nat} : (ls.take i).flatten.length <= ls.flatten.length := by
  have : ls.flatten = (ls.take i).flatten ++ (ls.drop i).flatten := by rw [<- List.flatten_append, List.take_append_drop]
  rw [this, List.length_append]; omega
theorem dC {α : Type} [Inhabited α] {ls : List (List α)} {i : Nat} (h : i < ls.length) : (ls.take (i + 1)).flatten = (ls.take i).flatten ++ nth ls i := by
  rw [di h]; simp
def iQ (l : LV) (cols : List Int) : LV := cols.map fun c => nth l c.toNat
def bM (l : LV) (cols : List Int) : LV := if dX l.length cols = true then iQ l cols else []
def ofS (x : GSide) (row : LV) : GValue := if x.Var = -1 then x.Value else nth row x.Col.toNat
def Al (t : GTest) (row : LV) : Bool := fU (ofS t.Left row) t.Op (ofS t.Right row) t.Add
def ox (x : GSide) (n : Nat) : Prop := x.Var ≠ -1 -> 0 <= x.Col /\ x.Col < n
def D1 (ts : List GTest) (row : LV) : Bool := ts.any fun t => !Al t row
theorem vV (n : Nat) (hn : n <= 1000000) : Spec (X := Value) prog 167 [rV.ty (.slice none 0 0), tV (.int .i64 n)] ([]) (fun z => rV.ty z) (fun z => [own 45 (rSl rValue) z []]) := by
 refine Spec.enter func167 rfl rfl fun h0 w0 fr0 => ?_
 refine Jr (Za (ab (ap (Jr (Zm ?_)))))
 refine Zs (az Sr Sr) (ab ?_)
 refine am Sr (fun h6 => ?_) (fun h6 => ?_)
 ·
  try simp only [NF] at h6
  omega
 try simp only [NF] at h6
 refine av (ap (Jr (Zm (Zm (Zs (fN underlying38 Sr) ?_)))))
 refine Zm (Zs (fO underlying38 Sr) (Zs (cK Sr Sr z6) (Zs (cK Sr Sr z6) (Za (ab ?_)))))
 refine Jr (Zm (Zs (bj Sr Sr) (ab ?_)))
 refine am Sr (fun h16 => ?_) (fun h16 => ?_)
 ·
  try simp only [NF] at h16
  refine ah (Zm (Zm (Zs (fN underlying38 Sr) (Zs (i1 underlying38 dt Sr Sr rfl) (Zm ?_)))))
  refine Zx (gR (n := n) underlying38 underlying3 lS Sr Sr zG zG zG zG) fun v22 => ?_
  refine Zm (Zs (fO underlying38 Sr) ?_)
  refine Zx (ew (n := 0) underlying38 dt Sr Sr (by rfl) zS (by exact Nat.zero_le _)) fun v25 => ?_
  refine Za (ab (Jr (Zm (Za (ab ?_)))))
  refine aC ?_
  refine bz (rv := .tmp 4) rfl v25 (.tmp Sr) Sr
 try simp only [NF] at h16
 refine av (Jr (Zm (Za (ab (aC ?_)))))
 refine a7 (FR (e := 45) (R := (rSl rValue))) ?_
 refine bz (rv := .tmp 4) rfl (.slice none 0 0 : Value) (.tmp Sr) Sr
theorem rg (ls : List (List LV)) (hn : ls.length <= 1000) (hl : ls.flatten.length <= 1000000) : Spec (X := Value) prog 127 [tSl (rSl (rSl rValue)) ls] ([]) (fun z => rV.ty z) (fun z => [own 45 (rSl rValue) z ls.flatten]) := by
 refine Spec.enter func127 rfl rfl fun h0 w0 fr0 => ?_
 refine Jr (Za (ab (Jr (Za (ab ?_)))))
 refine ap (Jr (Zm (Zs (ag underlying35 Sr) (Zm (ab ?_)))))
 refine au ?_
 refine aK (σ := Nat) (fun i => i <= ls.length) (fun i => upd (upd (upd (upd (upd (upd co 0 (tSl (rSl (rSl rValue)) ls)) 2 (tV (.slice none 0 0))) 3 (tV (.int .i64 ((ls.take i).flatten.length : Nat)))) 9 (tSl (rSl (rSl rValue)) ls)) 10 (tV (.int .i64 ls.length))) 11 (tV (.int .i64 i))) (fun i => []) (fun i => ls.length - i) 0 (by exact Nat.zero_le _) (zU) (LSub.rfl) ?_
 rintro i hi
 refine Jr (Zs (az Sr Sr) (ab (ap ?_)))
 refine am Sr (fun h12 => ?_) (fun h12 => ?_)
 ·
  try simp only [NF] at h12
  have hlt : i < ls.length := by omega
  refine av (ap (au (Jr ?_)))
  refine Zs (ae (i := i) underlying35 fX Sr Sr (by rfl) (gb (by exact hlt))) ?_
  refine Zl fX Sr (Za (ab (Jr (Zm (Zm ?_)))))
  refine Zs (ag underlying38 Sr) ?_
  refine Zs (ax Sr Sr (by have := kL (ls := ls) (i := i + 1); rw [dC hlt, List.length_append] at this; unfold iu; omega)) ?_
  refine Za (ab (Jr (Zm (Zs (az Sr Sr) (ab ?_)))))
  refine am Sr (fun h20 => ?_) (fun h20 => ?_)
  ·
   try simp only [NF] at h20
   omega
  try simp only [NF] at h20
  refine av (ah (Zs (ax Sr Sr z6) (Zm (ab ?_))))
  refine ay (σ := Nat) (s := i) (i + 1) zO zG (.u (.u (.u (SubE.upd (Sub.int (by rw [dC hlt, List.length_append, Int.natCast_add])) (zU))))) (LSub.rfl)
 try simp only [NF] at h12
 obtain rfl : i = ls.length := by omega
 refine aV (Jr (Zm ?_))
 refine Zx (aR (FN _) (vV ls.flatten.length hl) ⟨FT rfl, Sub.int (by rw [List.take_length]), trivial⟩ call167) fun v24 => ?_
 refine Za (ab (ap (Jr (Zm (Zs (ag underlying35 Sr) ?_)))))
 refine Zm (ab (au ?_))
 refine aK (σ := Nat × Value) (fun ⟨i, vo⟩ => i <= ls.length) (fun ⟨i, vo⟩ => upd (upd (upd (upd (upd co 2 (tV (.slice none 0 0))) 6 (rV.ty vo)) 25 (tSl (rSl (rSl rValue)) ls)) 26 (tV (.int .i64 ls.length))) 27 (tV (.int .i64 i))) (fun ⟨i, vo⟩ => [own 45 (rSl rValue) vo (ls.take i).flatten]) (fun ⟨i, vo⟩ => ls.length - i) (0, v24) (by exact Nat.zero_le _) (zU) (zL) ?_
 rintro ⟨i, vo⟩ hi
 try dsimp only at hi
 refine Jr (Zs (az Sr Sr) (ab (ap ?_)))
 refine am Sr (fun h28 => ?_) (fun h28 => ?_)
 ·
  try simp only [NF] at h28
  have hlt : i < ls.length := by omega
  refine av (ap (au (Jr ?_)))
  refine Zs (ae (i := i) underlying35 fX Sr Sr (by rfl) (gb (by exact hlt))) ?_
  refine Zl fX Sr (Za (ab (ah (Zm (Zm ?_)))))
  refine Zx (aH underlying38 lS Sr Sr zS (by have := kL (ls := ls) (i := i + 1); rw [dC hlt, List.length_append] at this; omega) (by have := kL (ls := ls) (i := i + 1); rw [dC hlt, List.length_append] at this; omega)) fun v33 => ?_
  refine Za (ab (ah (Zs (ax Sr Sr z6) (Zm (ab ?_)))))
  refine ay (σ := Nat × Value) (s := (i, vo)) (i + 1, v33) zO (by show i + 1 <= _; omega) (zU) (.c zS (SPs.of (A := own 45 (rSl rValue) v33 ((ls.take i).flatten ++ nth ls i)) (by rw [dC hlt])) (LSub.nil))
 try simp only [NF] at h28
 obtain rfl : i = ls.length := by omega
 refine aV (Jr (Zm (Za (ab (aC ?_)))))
 refine a7 (L' := [own 45 (rSl rValue) vo ls.flatten]) (.c zS (SPs.of (A := own 45 (rSl rValue) vo (ls.take ls.length).flatten) (by rw [List.take_length])) (LSub.nil)) ?_
 refine bz (rv := .tmp 2) rfl vo (.tmp Sr) Sr
theorem vW (n : Nat) (hn : n <= 1000000) : Spec (X := Value) prog 166 [rV.ty (.slice none 0 0), tV (.int .i64 n)] ([]) (fun z => rV.ty z) (fun z => [own 62 rValue z []]) := by
 refine Spec.enter func166 rfl rfl fun h0 w0 fr0 => ?_
 refine Jr (Za (ab (ap (Jr (Zm ?_)))))
 refine Zs (az Sr Sr) (ab ?_)
 refine am Sr (fun h6 => ?_) (fun h6 => ?_)
 ·
  try simp only [NF] at h6
  omega
 try simp only [NF] at h6
 refine av (ap (Jr (Zm (Zm (Zs (fN underlying45 Sr) ?_)))))
 refine Zm (Zs (fO underlying45 Sr) (Zs (cK Sr Sr z6) (Zs (cK Sr Sr z6) (Za (ab ?_)))))
 refine Jr (Zm (Zs (bj Sr Sr) (ab ?_)))
 refine am Sr (fun h16 => ?_) (fun h16 => ?_)
 ·
  try simp only [NF] at h16
  refine ah (Zm (Zm (Zs (fN underlying45 Sr) (Zs (i1 underlying45 bZ Sr Sr rfl) (Zm ?_)))))
  refine Zx (gR (n := n) underlying45 underlying3 pS Sr Sr zG zG zG zG) fun v22 => ?_
  refine Zm (Zs (fO underlying45 Sr) ?_)
  refine Zx (ew (n := 0) underlying45 bZ Sr Sr (by rfl) zS (by exact Nat.zero_le _)) fun v25 => ?_
  refine Za (ab (Jr (Zm (Za (ab ?_)))))
  refine aC ?_
  refine bz (rv := .tmp 4) rfl v25 (.tmp Sr) Sr
 try simp only [NF] at h16
 refine av (Jr (Zm (Za (ab (aC ?_)))))
 refine a7 (FR (e := 62) (R := rValue)) ?_
 refine bz (rv := .tmp 4) rfl (.slice none 0 0 : Value) (.tmp Sr) Sr
theorem rh (ls : List (List GValue)) (hn : ls.length <= 1000) (hl : ls.flatten.length <= 1000000) : Spec (X := Value) prog 126 [tSl (rSl rValue) ls] ([]) (fun z => rV.ty z) (fun z => [own 62 rValue z ls.flatten]) := by
 refine Spec.enter func126 rfl rfl fun h0 w0 fr0 => ?_
 refine Jr (Za (ab (Jr (Za (ab ?_)))))
 refine ap (Jr (Zm (Zs (ag underlying38 Sr) (Zm (ab ?_)))))
 refine au ?_
 refine aK (σ := Nat) (fun i => i <= ls.length) (fun i => upd (upd (upd (upd (upd (upd co 0 (tSl (rSl rValue) ls)) 2 (tV (.slice none 0 0))) 3 (tV (.int .i64 ((ls.take i).flatten.length : Nat)))) 9 (tSl (rSl rValue) ls)) 10 (tV (.int .i64 ls.length))) 11 (tV (.int .i64 i))) (fun i => []) (fun i => ls.length - i) 0 (by exact Nat.zero_le _) (zU) (LSub.rfl) ?_
 rintro i hi
 refine Jr (Zs (az Sr Sr) (ab (ap ?_)))
 refine am Sr (fun h12 => ?_) (fun h12 => ?_)
 ·
  try simp only [NF] at h12
  have hlt : i < ls.length := by omega
  refine av (ap (au (Jr ?_)))
  refine Zs (ae (i := i) underlying38 dt Sr Sr (by rfl) (gb (by exact hlt))) ?_
  refine Zl dt Sr (Za (ab (Jr (Zm (Zm ?_)))))
  refine Zs (ag underlying45 Sr) ?_
  refine Zs (ax Sr Sr (by have := kL (ls := ls) (i := i + 1); rw [dC hlt, List.length_append] at this; unfold iu; omega)) ?_
  refine Za (ab (Jr (Zm (Zs (az Sr Sr) (ab ?_)))))
  refine am Sr (fun h20 => ?_) (fun h20 => ?_)
  ·
   try simp only [NF] at h20
   omega
  try simp only [NF] at h20
  refine av (ah (Zs (ax Sr Sr z6) (Zm (ab ?_))))
  refine ay (σ := Nat) (s := i) (i + 1) zO zG (.u (.u (.u (SubE.upd (Sub.int (by rw [dC hlt, List.length_append, Int.natCast_add])) (zU))))) (LSub.rfl)
 try simp only [NF] at h12
 obtain rfl : i = ls.length := by omega
 refine aV (Jr (Zm ?_))
 refine Zx (aR (FN _) (vW ls.flatten.length hl) ⟨FT rfl, Sub.int (by rw [List.take_length]), trivial⟩ call166) fun v24 => ?_
 refine Za (ab (ap (Jr (Zm (Zs (ag underlying38 Sr) ?_)))))
 refine Zm (ab (au ?_))
 refine aK (σ := Nat × Value) (fun ⟨i, vo⟩ => i <= ls.length) (fun ⟨i, vo⟩ => upd (upd (upd (upd (upd co 2 (tV (.slice none 0 0))) 6 (rV.ty vo)) 25 (tSl (rSl rValue) ls)) 26 (tV (.int .i64 ls.length))) 27 (tV (.int .i64 i))) (fun ⟨i, vo⟩ => [own 62 rValue vo (ls.take i).flatten]) (fun ⟨i, vo⟩ => ls.length - i) (0, v24) (by exact Nat.zero_le _) (zU) (zL) ?_
 rintro ⟨i, vo⟩ hi
 try dsimp only at hi
 refine Jr (Zs (az Sr Sr) (ab (ap ?_)))
 refine am Sr (fun h28 => ?_) (fun h28 => ?_)
 ·
  try simp only [NF] at h28
  have hlt : i < ls.length := by omega
  refine av (ap (au (Jr ?_)))
  refine Zs (ae (i := i) underlying38 dt Sr Sr (by rfl) (gb (by exact hlt))) ?_
  refine Zl dt Sr (Za (ab (ah (Zm (Zm ?_)))))
  refine Zx (aH underlying45 pS Sr Sr zS (by have := kL (ls := ls) (i := i + 1); rw [dC hlt, List.length_append] at this; omega) (by have := kL (ls := ls) (i := i + 1); rw [dC hlt, List.length_append] at this; omega)) fun v33 => ?_
  refine Za (ab (ah (Zs (ax Sr Sr z6) (Zm (ab ?_)))))
  refine ay (σ := Nat × Value) (s := (i, vo)) (i + 1, v33) zO (by show i + 1 <= _; omega) (zU) (.c zS (SPs.of (A := own 62 rValue v33 ((ls.take i).flatten ++ nth ls i)) (by rw [dC hlt])) (LSub.nil))
 try simp only [NF] at h28
 obtain rfl : i = ls.length := by omega
 refine aV (Jr (Zm (Za (ab (aC ?_)))))
 refine a7 (L' := [own 62 rValue vo ls.flatten]) (.c zS (SPs.of (A := own 62 rValue vo (ls.take ls.length).flatten) (by rw [List.take_length])) (LSub.nil)) ?_
 refine bz (rv := .tmp 2) rfl vo (.tmp Sr) Sr
theorem kM (l : LV) (cols : List Int) (hc : cols.length <= 1000000000) : Spec (X := Value) prog 123 [tSl rValue l, tSl aO cols] ([]) (fun v => fW [rV.ty v, tV (.bool (dX l.length cols))]) (fun v => [own 62 rValue v (bM l cols)]) := by
 refine Spec.enter func123 rfl rfl fun h0 w0 fr0 => ?_
 refine Jr (Za (Za (ab (Jr (Za ?_)))))
 refine ab (ap (Jr (Zm (Zs (ag underlying27 Sr) (Zm ?_)))))
 refine ab (au ?_)
 refine aK (σ := Nat × Value) (fun ⟨i, v⟩ => i <= cols.length /\ ∀ k, k < i -> (decide (0 <= nth cols k) && decide (nth cols k < l.length)) = true) (fun ⟨i, v⟩ => upd (upd (upd (upd (upd co 0 (tSl rValue l)) 6 (rV.ty v)) 9 (tSl aO cols)) 10 (tV (.int .i64 cols.length))) 11 (tV (.int .i64 i))) (fun ⟨i, v⟩ => [own 62 rValue v (iQ l (cols.take i))]) (fun ⟨i, v⟩ => cols.length - i) (0, .slice none 0 0) ⟨by omega, fun k hk => by omega⟩ (.u (.u (.u (SubE.upd (FT rfl) (zU))))) (FR) ?_
 rintro ⟨i, v⟩ ⟨hi, hv⟩
 refine Jr (Zs (az Sr Sr) (ab (ap ?_)))
 refine am Sr (fun h12 => ?_) (fun h12 => ?_)
 ·
  try simp only [NF] at h12
  have hlt : i < cols.length := by omega
  have hpl : (iQ l (cols.take i)).length <= 1000000000 := by simp [iQ]; omega
  refine av (ap (au (Jr ?_)))
  refine Zs (ae  underlying27 ty3 Sr Sr rfl (gb (by exact hlt))) ?_
  refine Zl ty3 Sr (Za (ab (ap (Jr (Zm ?_)))))
  refine Zs (az Sr Sr) (Zm ?_)
  refine Zk (ar Sr) ?_
  refine Zk (ar Sr) ?_
  refine Zg (fun hw => ag underlying45 (Sub.w hw)) (Zg (fun hw => bA (Sub.w hw) (Sub.w hw)) (Zs (aD Sr Sr) (ab ?_)))
  refine am Sr (fun h22 => ?_) (fun h22 => ?_)
  ·
   try simp only [NF] at h22
   refine Jr (Za (Za (ab (aC ?_))))
   have hno : dX l.length cols = false := ll hlt (by rcases h22 with h | h <;> simp <;> omega)
   have hpm : bM l cols = [] := by rw [bM, if_neg (by rw [hno]; simp)]
   refine lH zS ?_
   refine a7 (L' := [own 62 rValue (.slice none 0 0) (bM l cols)]) (LSub.trans (FR (e := 62) (R := rValue)) (.c zS (SPs.of (A := own 62 rValue (.slice none 0 0) ([] : LV)) (by rw [hpm])) (LSub.nil))) ?_
   refine bI (rv := .tmp 4) (rv' := .tmp 5) rfl (.slice none 0 0) (FN _) (.tmp (FT rfl)) (.tmp Sr) (Frz.sub Sr) (Frz.sub (Sub.bool hno.symm)) Sr
  try simp only [NF] at h22
  refine av (ah (Zm (Zm (Zm (Zs (ae (i := (nth cols i).toNat) underlying45 bZ Sr Sr zG (gb zG)) ?_)))))
  refine Zl bZ Sr ?_
  refine Zs (aB (ys := [_]) underlying45 pS ⟨rfl, Sr, trivial⟩ rfl (by decide)) ?_
  refine Zx (aH underlying45 pS Sr Sr zS (by simp; omega) (by simp; omega)) fun v29 => ?_
  refine Za (ab (ah (Zs (ax Sr Sr z6) (Zm (ab ?_)))))
  refine ay (σ := Nat × Value) (s := (i, v)) (i + 1, v29) zO ?_ (zU) (.c zS (SPs.of (A := own 62 rValue v29 (iQ l (cols.take i) ++ [nth l (nth cols i).toNat])) (by rw [di hlt]; simp [iQ])) (LSub.nil))
  refine ⟨by omega, fun k hk => ?_⟩
  by_cases e : k = i
  ·
   subst e; simp; omega
  exact hv k zG
 try simp only [NF] at h12
 obtain rfl : i = cols.length := by omega
 have hok : dX l.length cols = true := l4 hv
 refine aV (Jr (Zm (Za (Za (ab ?_)))))
 refine aC ?_
 have hpm : bM l cols = iQ l cols := by rw [bM, if_pos hok]
 refine a7 (L' := [own 62 rValue v (bM l cols)]) (.c zS (SPs.of (A := own 62 rValue v (iQ l (cols.take cols.length))) (by rw [hpm, List.take_length])) (LSub.nil)) ?_
 refine bI (rv := .tmp 4) (rv' := .tmp 5) rfl v (FN _) (.tmp Sr) (.tmp Sr) (Frz.sub Sr) (Frz.sub (Sub.bool hok.symm)) Sr
theorem ud (x : GSide) (row : LV) (hs : ox x row.length) : Fun1 prog 118 [p9.ty x, tSl rValue row] (rValue.ty (ofS x row)) := by
 refine Spec.enter func118 rfl rfl fun h0 w0 fr0 => ?_
 refine Jr (Zs (aF (R := p9) Sr) ?_)
 refine Zx (aE (fun w => zeroValue62 w) wz) fun b4 => ?_
 refine ab (ap (Jr (Zs (aa nk Sr rfl) (Zl ty3 Sr (Zs (aJ Sr Sr) ?_)))))
 refine ab ?_
 refine am Sr (fun h7 => ?_) (fun h7 => ?_)
 ·
  try simp only [NF] at h7
  refine Jr (Zs (aa nk Sr rfl) (Zl bZ Sr ?_))
  refine Ju (ai bZ Sr Sr zS) fun _ => ?_
  refine ab (aC ?_)
  have e : ofS x row = x.Value := by rw [ofS, if_pos (by simpa using h7)]
  rw [e]
  exact aY (rv := .cell 4 62) rfl () (Sel.all _) (.cell (R := rValue) bZ Sr zS Sr) (Frz.sub Sr)
 try simp only [NF] at h7
 have hc := hs (by simpa using h7)
 refine av (Jr (Zm (Zs (aa nk Sr rfl) (Zl ty3 Sr ?_))))
 refine Zs (ae (i := x.Col.toNat) underlying45 bZ Sr Sr (by show x.Col = _; omega) (gb zG)) ?_
 refine Zl bZ Sr ?_
 refine Ju (ai bZ Sr Sr zS) fun _ => ?_
 refine ab (aC ?_)
 have e : ofS x row = nth row x.Col.toNat := by rw [ofS, if_neg (by simpa using h7)]
 rw [e]
 exact aY (rv := .cell 4 62) rfl () (Sel.all _) (.cell (R := rValue) bZ Sr zS Sr) (Frz.sub Sr)
section
variable {α : Type} [Inhabited α]
theorem eF (p : α -> Bool) : ∀ (l : List α) (i : Int), 0 <= i -> (findI p i l = -1 /\ ∀ x ∈ l, p x = false) \/ ∃ k : Nat, k < l.length /\ findI p i l = i + k /\ p (nth l k) = true /\ ∀ x ∈ l.take k, p x = false
  | [], i, h => .inl ⟨rfl, by simp⟩
  | x :: l, i, h => by
    by_cases hx : p x = true
    · refine .inr ⟨0, by simp, by simp [findI, hx], hx, by simp⟩
    · have hx' : p x = false := by simpa using hx
      rcases eF p l (i + 1) (by omega) with ⟨h1, h2⟩ | ⟨k, h1, h2, h3, h4⟩
      · refine .inl ⟨by simp [findI, hx', h1], ?_⟩
        intro y hy
        rcases List.mem_cons.1 hy with rfl | hy
        · exact hx'
        · exact h2 y hy
      · refine .inr ⟨k + 1, by simp; omega, ?_, h3, ?_⟩
        · simp only [findI, hx', Bool.false_eq_true, if_false, h2]; omega
        · intro y hy
          rw [List.take_succ_cons] at hy
          rcases List.mem_cons.1 hy with rfl | hy
          · exact hx'
          · exact h4 y hy
abbrev ya (p : α -> Bool) (l : List α) : List α := l.filter fun x => !p x
theorem ue {p : α -> Bool} {l : List α} (h : ∀ x ∈ l, p x = false) : ya p l = l := List.filter_eq_self.2 fun x hx => by simp [h x hx]
theorem mS {p : α -> Bool} {l : List α} {j : Nat} (h : j < l.length) : ya p (l.take (j + 1)) = ya p (l.take j) ++ if p (nth l j) = true then [] else [nth l j] := by
  rw [di h]
  simp only [ya, List.filter_append]
  by_cases hp : p (nth l j) = true <;> simp [hp]
def sT (p : α -> Bool) (xs zs : List α) (i j : Nat) : Prop := j <= xs.length /\ i < j /\ zs.length = xs.length /\ zs.take i = ya p (xs.take j) /\ zs.drop j = xs.drop j
theorem yb {p : α -> Bool} {xs zs : List α} {i j : Nat} (h : sT p xs zs i j) (hj : j < xs.length) : nth zs j = nth xs j := by
  have h1 := h.2.2.2.2
  rw [fq (show j < zs.length by rw [h.2.2.1]; exact hj), fq hj] at h1
  exact (List.cons.inj h1).1
theorem vX {p : α -> Bool} {xs zs : List α} {i j : Nat} (h : sT p xs zs i j) (hj : j < xs.length) (hp : p (nth xs j) = true) : sT p xs zs i (j + 1) := by
  obtain ⟨h1, h2, h3, h4, h5⟩ := h
  refine ⟨by omega, by omega, h3, by rw [mS hj, if_pos hp, List.append_nil]; exact h4, ?_⟩
  rw [fq (show j < zs.length by omega), fq hj] at h5
  exact (List.cons.inj h5).2
theorem yc {p : α -> Bool} {xs zs : List α} {i j : Nat} (h : sT p xs zs i j) (hj : j < xs.length) (hp : ¬ p (nth xs j) = true) : sT p xs (zs.set i (nth xs j)) (i + 1) (j + 1) := by
  obtain ⟨h1, h2, h3, h4, h5⟩ := h
  refine ⟨by omega, by omega, by simp [h3], ?_, ?_⟩
  · rw [mS hj, if_neg hp, <- h4]
    have : i < zs.length := by omega
    have hl2 : (zs.take i).length = i := by simp; omega
    rw [List.take_set, di this, List.set_append, if_neg (by omega), hl2, Nat.sub_self]
    rfl
  · rw [List.drop_set_of_lt (by omega)]
    rw [fq (show j < zs.length by omega), fq hj] at h5
    exact (List.cons.inj h5).2
theorem sU {p : α -> Bool} {xs : List α} {k : Nat} (hk : k < xs.length) (hp : p (nth xs k) = true) (ha : ∀ x ∈ xs.take k, p x = false) : sT p xs xs k (k + 1) := by
  refine ⟨by omega, by omega, rfl, ?_, rfl⟩
  rw [mS hk, if_pos hp, List.append_nil, ue ha]
end
theorem yd : TyOf prog 165 rV := ⟨fun w => isAgg165 w, fun w => sizeOf165 w⟩
def Ck (ts : List GTest) (l : List LV) : List LV := ya (D1 ts) l
def mT (cols : List Int) (l : List LV) : List LV := l.map fun r => bM r cols
def ye (ts : List GTest) (n : Nat) : Prop := ∀ t ∈ ts, ox t.Left n /\ ox t.Right n
theorem im (v : Value) (l : List LV) (hl : l.length <= 1000000000) (gi : Nat) (As : List Ty) (p : LV -> Bool) (hp : ∀ x ∈ l, Fun1 prog gi ([tSl rValue x] ++ As) (tV (.bool (p x)))) (he : ∀ args w, (callFunc gi args).run prog w = .ok (.enter gi args) w) : Spec (X := Value) prog 119 [rV.ty v, eZ gi As] ([own 45 (rSl rValue) v l]) (fun z => rV.ty z) (fun z => [own 45 (rSl rValue) z (ya p l)]) := by
 refine Spec.enter func119 rfl rfl fun h0 w0 fr0 => ?_
 refine Jr (Za (ab (Jr (Zm (Zm ?_)))))
 refine Zs (cP zS (fK l zG gi As p hp he) (fun _ => Flat.v _) ⟨(Frz.own), (Frz.sub Sr), trivial⟩ call60) ?_
 refine Za (ab (ap (Jr (Zm (Zs (aJ Sr Sr) ?_)))))
 refine ab ?_
 refine am Sr (fun h12 => ?_) (fun h12 => ?_)
 ·
  try simp only [NF] at h12
  have hall : ∀ x ∈ l, p x = false := by rcases eF p l 0 zG with ⟨_, h⟩ | ⟨k, _, h, _⟩; exact h; omega
  refine Jr (Zm (Za (ab (aC ?_))))
  refine a7 (L' := [own 45 (rSl rValue) v (ya p l)]) (.c zS (SPs.of (A := own 45 (rSl rValue) v l) (by rw [ue hall])) (LSub.nil)) ?_
  refine bz (rv := .tmp 4) rfl v (.tmp Sr) Sr
 try simp only [NF] at h12
 obtain ⟨k, hk, hfk, hpk, hak⟩ : ∃ k : Nat, k < l.length /\ findI p 0 l = 0 + (k : Int) /\ p (nth l k) = true /\ ∀ x ∈ l.take k, p x = false := by rcases eF p l 0 zG with ⟨h, _⟩ | h; exact absurd h h12; exact h
 rw [Int.zero_add] at hfk
 refine av (ap (Jr (Zm (Zs (ax Sr Sr z6) (Za ?_)))))
 refine ab (au ?_)
 refine aK (σ := Nat × Nat × List LV) (fun ⟨j, i, zs⟩ => sT p l zs i j) (fun ⟨j, i, zs⟩ => upd (upd (upd (upd (upd co 0 (rV.ty v)) 1 (eZ gi As)) 4 (tV (.slice none 0 0))) 5 (tV (.int .i64 i))) 6 (tV (.int .i64 j))) (fun ⟨j, i, zs⟩ => [own 45 (rSl rValue) v zs]) (fun ⟨j, i, zs⟩ => l.length - j) (k + 1, k, l) (sU hk hpk hak) (SubE.upd (Sub.int (by rw [hfk]; simp)) (SubE.upd (Sub.int hfk) (zU))) (LSub.rfl) ?_
 rintro ⟨j, i, zs⟩ hv
 try dsimp only at hv
 refine ap (Jr (Zm (Zm ?_)))
 refine Zs (bC underlying38 Sr zS) ?_
 refine Zs (az Sr Sr) (ab ?_)
 refine am Sr (fun h19 => ?_) (fun h19 => ?_)
 ·
  try simp only [NF] at h19
  have hlt : j < l.length := by have := hv.2.2.1; omega
  have hzj := yb hv hlt
  have hzl := hv.2.2.1
  have hij := hv.2.1
  refine av (ap (au (Jr (Zm (Zm ?_)))))
  refine Zs (aG  underlying38 dt Sr zS Sr rfl (by first | assumption | omega)) ?_
  refine Zs (bH dt Sr zS (gb (by first | assumption | omega))) ?_
  refine Za (ab (Jr (Zm (Zm ?_))))
  refine Zs (bp (aT := [_]) Sr (hp _ (nth_mem hlt)) ⟨Ge (show tSl rValue (nth zs j) = tSl rValue (nth l j) by rw [hzj]), trivial⟩ he) ?_
  refine Zs (bc Sr) (ab ?_)
  refine am Sr (fun h29 => ?_) (fun h29 => ?_)
  ·
   try simp only [NF] at h29
   refine Jr (Zm (Zm (Zm ?_)))
   refine Zs (aG  underlying38 dt Sr zS Sr rfl (by first | assumption | omega)) ?_
   refine Ju (bL dt Sr Sr zS (by first | assumption | omega)) fun _ => ?_
   refine ab (ah (Zm (Zs (ax Sr Sr z6) (Za (ab ?_)))))
   refine ah (Zm (Zs (ax Sr Sr z6) (Za (ab ?_))))
   refine ay (σ := Nat × Nat × List LV) (s := (j, i, zs)) (j + 1, i + 1, zs.set i (nth l j)) zO (yc hv hlt (by simp_all)) (zU) (.c zS (SPs.of (A := own 45 (rSl rValue) v (zs.set i (nth zs j))) (by rw [hzj])) (LSub.nil))
  try simp only [NF] at h29
  refine av (ah (Zm (Zs (ax Sr Sr z6) (Za (ab ?_)))))
  refine ay (σ := Nat × Nat × List LV) (s := (j, i, zs)) (j + 1, i, zs) zO (vX hv hlt (by simp_all)) (zU) (zL)
 try simp only [NF] at h19
 have hil : i < zs.length := by have := hv.2.2.1; have := hv.2.1; have := hv.1; omega
 refine aV (Jr (Zm (Zm ?_)))
 refine Zs (mH underlying38 dt Sr Sr rfl zS hil) ?_
 refine Ju (hZ (R := rSl rValue) (zv := Value.slice none 0 0) (z := []) underlying38 (fun w => zeroValue45 w) rfl rfl rfl (fun h => ⟨_, rfl, none, ⟨0, Nat.le_refl _⟩, rfl, fun q => absurd rfl q⟩) Sr zS hil) fun _ => ?_
 refine ab (Jr (Zm (Zm ?_)))
 refine Zx (ew (n := i) underlying38 dt Sr Sr (by rfl) zS (by have := hv.2.2.1; have := hv.2.1; have := hv.1; simp; omega)) fun u41 => ?_
 refine Za (ab (aC ?_))
 refine a7 (L' := [own 45 (rSl rValue) u41 (ya p l)]) (.c zS (SPs.of (A := own 45 (rSl rValue) u41 ((zs.take i ++ List.replicate (zs.length - i) []).take i)) (by obtain ⟨q1, q2, q3, q4, q5⟩ := hv; obtain rfl : j = l.length := zG; rw [List.take_length] at q4; rw [List.take_append_of_le_length (by simp; omega), List.take_take, Nat.min_self, q4])) (LSub.nil)) ?_
 refine bz (rv := .tmp 4) rfl u41 (.tmp Sr) Sr
theorem vY (t : GTest) (row : LV) (h1 : ox t.Left row.length) (h2 : ox t.Right row.length) : Fun1 prog 121 [dV.ty t, bx rV (.func (.func 118) #[] #[]), bx (rSl rValue) row] (tV (.bool (!Al t row))) := by
 refine Spec.enter func121 rfl rfl fun h0 w0 fr0 => ?_
 refine Jr (Zs (aF (R := dV) Sr) (Za (ab (ap ?_))))
 refine bQ [⟨0, [1], true⟩, ⟨1, [3], true⟩, ⟨2, [6], true⟩, ⟨3, [2], true⟩, ⟨4, [5, 7, 8], true⟩, ⟨5, [3], true⟩, ⟨6, [10], true⟩, ⟨7, [1], true⟩, ⟨8, [3], true⟩, ⟨9, [13], true⟩, ⟨10, [2], true⟩, ⟨11, [12, 14, 15], true⟩, ⟨12, [3], true⟩, ⟨13, [17], true⟩, ⟨14, [9, 11, 16, 18], true⟩, ⟨15, [19], true⟩, ⟨16, [20], true⟩] rfl (by kernel_rfl) ?_
 refine Zf rfl (ad yd Sr) (Zf rfl (aa lU Sr rfl) (Zf rfl (ad A1 Sr) (Zf rfl (ad dt Sr) (Zf rfl (bp (aT := [_, _]) (As := []) (Sub.trans F9 F5) (ud _ _ (h1)) ⟨Sr, Sr, trivial⟩ call118) (Zf rfl (aa lU Sr rfl) ?_)))))
 refine Zf rfl (ad ty3 Sr) (Zf rfl (ad yd Sr) (Zf rfl (aa lU Sr rfl) (Zf rfl (ad A1 Sr) (Zf rfl (ad dt Sr) (Zf rfl (bp (aT := [_, _]) (As := []) (Sub.trans F9 F5) (ud _ _ (h2)) ⟨Sr, Sr, trivial⟩ call118) ?_)))))
 refine Zf rfl (aa lU Sr rfl) (Zf rfl (ad ty3 Sr) (Zf rfl (aj (mJ _ _ _ _) ⟨Sr, Sr, Sr, Sr, trivial⟩ call106) (Zf rfl (bc Sr) (Zf rfl (bd Sr) (bP ?_)))))
 refine aC ?_
 exact aI (t := 4) rfl () Sr
theorem vZ (n : Nat) (p : aQ) (row : LV) (hl : p.Tests.length <= 1000) (ht : ye p.Tests row.length) : Fun1 prog 120 [tSl rValue row, bx (aX (n + 1)) p, bx rV (.func (.func 118) #[] #[])] (tV (.bool (D1 p.Tests row))) := by
 refine Spec.enter func120 rfl rfl fun h0 w0 fr0 => ?_
 refine Jr (Zs (aF (R := (rSl rValue)) Sr) (Za (ab (Jr (Zs (aa cq Sr rfl) ?_)))))
 refine Zl ze Sr (Zs (bl (As := [_, _]) ⟨Sr, Sr, trivial⟩) ?_)
 refine Zs (aj (fD _ (by show p.Tests.length <= _; omega) 121 [bx rV (.func (.func 118) #[] #[]), bx (rSl rValue) row] (fun t => !Al t row) (fun t hm => vY t row (ht t hm).1 (ht t hm).2) call121) ⟨Sr, Sr, trivial⟩ call115) ?_
 refine Za (ab (aC ?_))
 exact aI (t := 4) rfl () Sr
theorem wa (e : Gev) (n : Nat) (p : aQ) (l : List (List LV)) (h0 : 0 < l.length) (hl : (nth l 0).length <= 1000000000) (hn : p.Tests.length <= 1000) (ht : ∀ r ∈ nth l 0, ye p.Tests r.length) : Fun1 prog 68 [bx rev e, (aX (n + 1)).ty p, tSl (rSl (rSl rValue)) l] (tSl (rSl rValue) (Ck p.Tests (nth l 0))) := by
 refine Spec.enter func68 rfl rfl fun h0 w0 fr0 => ?_
 refine Jr (Zs (aF (R := (aX (n + 1))) Sr) (Za (ab (Jr ?_))))
 refine Zx (aE (R := rV) (z := Value.nilFunc) (fun w => zeroValue165 w) (fun _ => ⟨rfl, rfl⟩)) fun b7 => ?_
 refine Ju (ai (R := rV) yd Sr (FT rfl) zS) fun _ => ?_
 refine ab ?_
 refine cA (t := 7) zS Frz.box ?_
 refine Jr (Zm ?_)
 refine Zs (ae (i := 0) underlying35 fX Sr Sr (by rfl) (gb zG)) ?_
 refine Zl fX Sr ?_
 refine Zx (aR (FN _) (fT _ hl) ⟨Sr, trivial⟩ call54) fun v11 => ?_
 refine Zs (bl (As := [_, _]) ⟨Sr, Sr, trivial⟩) ?_
 refine Zx (aR zS (im v11 (nth l 0) hl 120 [bx (aX (n + 1)) p, bx rV (.func (.func 118) #[] #[])] (D1 p.Tests) (fun x hx => vZ n p x hn (ht x hx)) call120) ⟨Sr, Sr, trivial⟩ call119) fun v13 => ?_
 refine Za (ab (aC ?_))
 refine aY (rv := .tmp 6) rfl () (Sel.take (FN _)) (.tmp Sr) Frz.own
theorem Bg {l : List LV} {n : Nat} (h : ∀ r ∈ l, r.length <= n) (i : Nat) : (nth l i).length <= n := by
  by_cases hi : i < l.length
  · exact h _ (nth_mem hi)
  · rw [hY (by omega)]; exact Nat.zero_le _
def StrR (l : List LV) : Prop := l.Pairwise fun a b => cmpR a b < 0
theorem StrR.nth {l : List LV} (h : StrR l) {i j : Nat} (hij : i < j) (hj : j < l.length) : cmpR (Lg.nth l i) (Lg.nth l j) < 0 := by
  have := List.pairwise_iff_getElem.1 h i j (by omega) hj hij
  rwa [nth_get (by omega), nth_get hj]
structure BSr (l : List LV) (r : LV) (i : Nat) : Prop where
  le : i <= l.length
  lo : ∀ t, t < i -> cmpR (nth l t) r < 0
  hi : ∀ t, i <= t -> t < l.length -> ¬ cmpR (nth l t) r < 0
theorem BSr.mem {l : List LV} {r : LV} {i : Nat} (h : BSr l r i) (hs : StrR l) : r ∈ l ↔ i < l.length /\ cmpR (nth l i) r = 0 := by
  constructor
  · intro hm
    obtain ⟨t, ht, e⟩ := List.getElem_of_mem hm
    rw [<- nth_get ht] at e
    have h0 : cmpR (nth l t) r = 0 := sK.eq.2 e
    have h1 : i <= t := Classical.byContradiction fun q => by have := h.lo t (by omega); omega
    have h2 : t = i := Classical.byContradiction fun q => by
      have h3 := hs.nth (i := i) (j := t) (by omega) ht
      rw [e] at h3
      exact h.hi i (Nat.le_refl _) (by omega) h3
    subst h2; exact ⟨ht, h0⟩
  · rintro ⟨h1, h2⟩
    rw [<- sK.eq.1 h2]; exact nth_mem h1
section
variable {C : Cx} {E : Env} {L : List SP} {d : Option Nat} {ty : Nat} {pos : String} {af : Array Edge} {g : Option (Nat × Bool)}
theorem yf {T U : Nat} {x y : Operand} {yk : IntKind} {n : Nat} (hx : Sub (opTy E x) (tV (.int .u64 n))) (hy : Sub (opTy E y) (tV (.int yk 1))) :
    a8 C ⟨d, .binOp .shr T x y U, ty, pos, af, g⟩ E L (tV (.int .u64 ((n / 2 : Nat) : Int))) := uP (.inr rfl) hx hy (fun P w => by
  have e := shift_shr .u64 yk n 1 (by omega) (by decide)
  rw [e]; simp)
end
def D2 (a b : List LV) : List LV := ya (fun r => decide (r ∈ b)) a
theorem yg (l : List LV) (r : LV) (hs : StrR l) (hl : l.length <= 1000000000) (hr : ∀ x ∈ l, x.length <= 4398046511104) (hx : r.length <= 4398046511104) : Spec (X := Nat) prog 168 [tSl (rSl rValue) l, tSl rValue r, tV (.func (.func 56) #[] #[])] ([]) (fun i => fW [tV (.int .i64 (i : Int)), tV (.bool (decide (r ∈ l)))]) (fun i => []) := by
 refine Spec.enter func168 rfl rfl fun h0 w0 fr0 => ?_
 refine Jr (Za (Za (ab (Jr (Zm ?_)))))
 refine Zs (ag underlying38 Sr) (Za (ab (Jr (Zm (Za ?_)))))
 refine Za (ab (ap (au ?_)))
 refine aK (σ := Nat × Nat) (fun ⟨i, j⟩ => i <= j /\ j <= l.length /\ (∀ t, t < i -> cmpR (nth l t) r < 0) /\ ∀ t, j <= t -> t < l.length -> ¬ cmpR (nth l t) r < 0) (fun ⟨i, j⟩ => upd (upd (upd (upd (upd (upd (upd (upd co 0 (tSl (rSl rValue) l)) 1 (tSl rValue r)) 2 (tV (.func (.func 56) #[] #[]))) 6 (tV (.int .i64 0))) 7 (tV (.bool false))) 8 (tV (.int .i64 l.length))) 9 (tV (.int .i64 i))) 10 (tV (.int .i64 j))) (fun ⟨i, j⟩ => []) (fun ⟨i, j⟩ => j - i) (0, l.length) ⟨Nat.zero_le _, Nat.le_refl _, fun t h => by omega, fun t h1 h2 => by omega⟩ (zU) (LSub.rfl) ?_
 rintro ⟨i, j⟩ ⟨hi, hj, hlo, hhi⟩
 refine ap (Jr (Zm (Zm (Zs (az Sr Sr) (ab ?_)))))
 refine am Sr (fun h17 => ?_) (fun h17 => ?_)
 ·
  try simp only [NF] at h17
  have hij : i < j := by omega
  have hml : ((i + j) / 2) < l.length := by omega
  refine av (au (Jr (Zm (Zm (Zs (ax Sr Sr z6) ?_)))))
  refine Zs (gN (m := ((i + j : Nat) : Int)) underlying3 underlying157 Sr (by simp [IntKind.wrap, IntKind.bits, IntKind.signed]; omega)) ?_
  refine Zs (yf Sr Sr) ?_
  refine Zs (gN (m := (((i + j) / 2 : Nat) : Int)) underlying157 underlying3 Sr (by simp [IntKind.wrap, IntKind.bits, IntKind.signed]; omega)) ?_
  refine Za (ab (Jr (Zm (Zm (Zm ?_)))))
  refine Zs (ae (i := ((i + j) / 2)) underlying38 dt Sr Sr zG (gb (by show ((i + j) / 2) < l.length; omega))) ?_
  refine Zl dt Sr (Zm (Zs (bp (aT := [_, _]) F5 (eJ (nth l ((i + j) / 2)) r (Bg hr _) hx) ⟨Sr, Sr, trivial⟩ call56) (Zs (az Sr Sr) (ab ?_))))
  refine am Sr (fun h31 => ?_) (fun h31 => ?_)
  ·
   try simp only [NF] at h31
   refine ah (Zm (Zs (ax Sr Sr z6) (Za (ab ?_))))
   refine ay (σ := Nat × Nat) (s := (i, j)) (((i + j) / 2) + 1, j) zO ?_ (.u (SubE.upd (Sub.int (by first | omega | (push_cast; omega))) (zU))) (LSub.rfl)
   refine ⟨by omega, hj, fun t ht => ?_, hhi⟩
   by_cases e : t = (i + j) / 2
   ·
    subst e; exact h31
   have h1 := hs.nth (i := t) (j := (i + j) / 2) zG hml
   exact sK.tr h1 h31
  try simp only [NF] at h31
  refine ah (Zm (Za (ab ?_)))
  refine ay (σ := Nat × Nat) (s := (i, j)) (i, ((i + j) / 2)) zO ?_ (zU) (LSub.rfl)
  refine ⟨by omega, by omega, hlo, fun t ht htl => ?_⟩
  by_cases e : t = (i + j) / 2
  ·
   subst e; omega
  intro q
  have := sK.tr (hs.nth (i := (i + j) / 2) (j := t) zG htl) q
  omega
 try simp only [NF] at h17
 have hije : i = j := by omega
 subst hije
 have hbs : BSr l r i := ⟨hj, hlo, hhi⟩
 refine aV (Jr (Zm (Zm (Zm (Zs (az Sr Sr) ?_)))))
 refine Zm ?_
 refine Zk (ar Sr) ?_
 refine Zk (ar Sr) ?_
 refine Zk (ar Sr) ?_
 refine Zg (fun hw => ae (i := i) underlying38 dt (Sub.w hw) (Sub.w hw) (by rfl) (gb (by have hwq := hw; (try simp only [beqB_t, beqB_f, NF] at hwq); show i < l.length; omega))) ?_
 refine Zg (fun hw => ad dt (Sub.w hw)) ?_
 refine Zk (ar Sr) ?_
 refine Zg (fun hw => bp (aT := [_, _]) (Sub.trans (Sub.w hw) F5) (eJ (nth l i) r (Bg hr _) hx) ⟨(Sub.w hw), (Sub.w hw), trivial⟩ call56) (Zg (fun hw => aJ (Sub.w hw) Sr) (Zs (aw Sr Sr) (Za (Za (ab ?_)))))
 refine aC ?_
 refine bI (rv := .tmp 6) (rv' := .tmp 7) rfl i (Sel.all _) (.tmp Sr) (.tmp Sr) (Frz.sub Sr) (Frz.sub (Sub.bool ?_)) Sr
 rw [Bool.eq_iff_iff, decide_eq_true_eq, hbs.mem hs]
 simp
theorem Am (l : List LV) (r : LV) (hs : StrR l) (hl : l.length <= 1000000000) (hr : ∀ x ∈ l, x.length <= 4398046511104) (hx : r.length <= 4398046511104) : Fun1 prog 129 [tSl (rSl rValue) l, tSl rValue r] (tV (.bool (decide (r ∈ l)))) := by
 refine Spec.enter func129 rfl rfl fun h0 w0 fr0 => ?_
 refine Jr (Za (ab (Jr (Zm (Zm ?_)))))
 refine Zx (aR (FN _) (yg l r hs hl hr hx) ⟨Sr, Sr, Sr, trivial⟩ call168) fun i10 => ?_
 refine Zm (Zs (aL Sr rfl) (Zs (aL Sr rfl) (Za (Za (ab ?_)))))
 refine Jr (Zm (Za (ab (aC ?_))))
 exact aI (t := 4) rfl () Sr
theorem yh (l : List (List LV)) (row : LV) (h1 : 1 < l.length) (hs : StrR (nth l 1)) (hl : (nth l 1).length <= 1000000000) (hr : ∀ x ∈ nth l 1, x.length <= 4398046511104) (hx : row.length <= 4398046511104) : Fun1 prog 128 [tSl rValue row, bx (rSl (rSl (rSl rValue))) l] (tV (.bool (decide (row ∈ nth l 1)))) := by
 refine Spec.enter func128 rfl rfl fun h0 w0 fr0 => ?_
 refine Jr (Za (ab (Jr (Zl CX Sr ?_))))
 refine Zs (ae (i := 1) underlying35 fX Sr Sr (by rfl) (gb (by exact h1))) ?_
 refine Zl fX Sr (Zm (Zs (aj (Am _ _ hs hl hr hx) ⟨Sr, Sr, trivial⟩ call129) (Za (ab (aC ?_)))))
 exact aI (t := 3) rfl () Sr
theorem wb (e : Gev) (n : Nat) (p : aQ) (l : List (List LV)) (h1 : 1 < l.length) (hl0 : (nth l 0).length <= 1000000000) (hs : StrR (nth l 1)) (hl : (nth l 1).length <= 1000000000) (hr0 : ∀ x ∈ nth l 0, x.length <= 4398046511104) (hr : ∀ x ∈ nth l 1, x.length <= 4398046511104) : Fun1 prog 76 [bx rev e, (aX (n + 1)).ty p, tSl (rSl (rSl rValue)) l] (tSl (rSl rValue) (D2 (nth l 0) (nth l 1))) := by
 refine Spec.enter func76 rfl rfl fun h0 w0 fr0 => ?_
 refine Jr (Zs (aF (R := (aX (n + 1))) Sr) (Zs (aF (R := (rSl (rSl (rSl rValue)))) Sr) (Za (ab (Jr ?_)))))
 refine Zl CX Sr ?_
 refine Zs (ae (i := 0) underlying35 fX Sr Sr (by rfl) (gb zG)) ?_
 refine Zl fX Sr ?_
 refine Zx (aR (FN _) (fT _ hl0) ⟨Sr, trivial⟩ call54) fun v10 => ?_
 refine Zs (bl (As := [_]) ⟨Sr, trivial⟩) ?_
 refine Zx (aR zS (im v10 (nth l 0) hl0 128 [bx (rSl (rSl (rSl rValue))) l] (fun r => decide (r ∈ nth l 1)) (fun x hx => yh l x h1 hs hl hr (hr0 x hx)) call128) ⟨Sr, Sr, trivial⟩ call119) fun v12 => ?_
 refine Za (ab (aC ?_))
 refine aY (rv := .tmp 6) rfl () (Sel.take (FN _)) (.tmp Sr) Frz.own
theorem wc (e : Gev) (n : Nat) (p : aQ) (l : List (List LV)) (h1 : 1 < l.length) (hl : (nth l 0).length + (nth l 1).length <= 1000000) : Fun1 prog 75 [bx rev e, (aX (n + 1)).ty p, tSl (rSl (rSl rValue)) l] (tSl (rSl rValue) (nth l 0 ++ nth l 1)) := by
 refine Spec.enter func75 rfl rfl fun h0 w0 fr0 => ?_
 refine Jr (Zs (aF (R := (aX (n + 1))) Sr) (Za (ab (ap ?_))))
 refine bQ [⟨0, [2], true⟩, ⟨1, [7], true⟩, ⟨2, [8], true⟩, ⟨3, [2], true⟩, ⟨4, [10], true⟩, ⟨5, [11], true⟩, ⟨6, [9, 12], true⟩, ⟨7, [13], false⟩, ⟨8, [14], true⟩] rfl (by kernel_rfl) ?_
 refine Zv rfl ?_
 refine Zf rfl (ae (i := 0) underlying35 fX Sr Sr (by rfl) (gb zG)) ?_
 refine Zf rfl (ad fX Sr) (Zv rfl ?_)
 refine Zf rfl (ae (i := 1) underlying35 fX Sr Sr (by rfl) (gb zG)) ?_
 refine Zf rfl (ad fX Sr) ?_
 refine Zf rfl (aB (ys := [_, _]) underlying35 D9 ⟨rfl, Sr, rfl, Sr, trivial⟩ rfl (by decide)) ?_
 refine cN rfl rfl rfl rfl (aR (FN _) (rg [nth l 0, nth l 1] (by simp) (by simpa using hl)) ⟨Sr, trivial⟩ call127) fun v14 => ?_
 refine Zf rfl (bd Sr) (bP (aC ?_))
 refine aY (rv := .tmp 6) rfl () (Sel.take (FN _)) (.tmp Sr) (Gi (by simp))
theorem we (e : Gev) (n : Nat) (p : aQ) (l : List (List LV)) (h0 : 0 < l.length) : Fun1 prog 78 [bx rev e, (aX (n + 1)).ty p, tSl (rSl (rSl rValue)) l] (tSl (rSl rValue) (nth l 0)) := by
 refine Spec.enter func78 rfl rfl fun h0 w0 fr0 => ?_
 refine Jr (Zs (aF (R := (aX (n + 1))) Sr) (Za (ab (Jr (Zm ?_)))))
 refine Zs (ae (i := 0) underlying35 fX Sr Sr (by rfl) (gb zG)) ?_
 refine Zl fX Sr (Za (ab (aC ?_)))
 exact aI (t := 6) rfl () Sr
theorem sV (e : Gev) (n : Nat) (p : aQ) (l : List (List LV)) (h0 : 0 < l.length) (hl : (nth l 0).length <= 1000000) (hc : p.Cols.length <= 1000) : Fun1 prog 71 [bx rev e, (aX (n + 1)).ty p, tSl (rSl (rSl rValue)) l] (tSl (rSl rValue) (mT p.Cols (nth l 0))) := by
 refine Spec.enter func71 rfl rfl fun h0 w0 fr0 => ?_
 refine Jr (Zs (aF (R := (aX (n + 1))) Sr) (Za (ab (Jr (Za ?_)))))
 refine ab (ap (Jr (Zm ?_)))
 refine Zs (ae (i := 0) underlying35 fX Sr Sr (by rfl) (gb zG)) ?_
 refine Zl fX Sr (Zs (ag underlying38 Sr) (Zm (ab (au ?_))))
 refine aK (σ := Nat × Value) (fun ⟨i, vo⟩ => i <= (nth l 0).length) (fun ⟨i, vo⟩ => upd (upd (upd (upd (upd (upd co 4 (bx (aX (n + 1)) p)) 6 (tV (.slice none 0 0))) 7 (rV.ty vo)) 14 (tSl (rSl rValue) (nth l 0))) 15 (tV (.int .i64 (nth l 0).length))) 16 (tV (.int .i64 i))) (fun ⟨i, vo⟩ => [own 45 (rSl rValue) vo (mT p.Cols ((nth l 0).take i))]) (fun ⟨i, vo⟩ => (nth l 0).length - i) (0, .slice none 0 0) (by exact Nat.zero_le _) (.u (.u (.u (SubE.upd (FT rfl) (zU))))) (FR) ?_
 rintro ⟨i, vo⟩ hi
 try dsimp only at hi
 refine Jr (Zs (az Sr Sr) (ab (ap ?_)))
 refine am Sr (fun h17 => ?_) (fun h17 => ?_)
 ·
  try simp only [NF] at h17
  have hlt : i < (nth l 0).length := by omega
  refine av (ap (au (Jr ?_)))
  refine Zs (ae (i := i) underlying38 dt Sr Sr (by rfl) (gb (by exact hlt))) ?_
  refine Zl dt Sr (Za (ab (Jr (Zm (Zs (aa cq Sr rfl) ?_)))))
  refine Zl dn Sr ?_
  refine Zx (aR (FN _) (kM (nth (nth l 0) i) p.Cols zG) ⟨Sr, Sr, trivial⟩ call123) fun v24 => ?_
  refine Zm (Zs (aL Sr rfl) (Zs (aL Sr rfl) (Za (Za (ab ?_)))))
  refine ah ?_
  refine aN (t := 10) (A' := tSl rValue (bM (nth (nth l 0) i) p.Cols)) (Sel.take (FN _)) Frz.own ?_
  refine Zm (Zm ?_)
  refine Zs (aB (ys := [_]) underlying38 lS ⟨rfl, Sr, trivial⟩ rfl (by decide)) ?_
  refine Zx (aH underlying38 lS Sr Sr zS (by simp [mT]; omega) (by simp [mT]; omega)) fun v30 => ?_
  refine Za (ab (ah (Zs (ax Sr Sr z6) (Zm (ab ?_)))))
  refine ay (σ := Nat × Value) (s := (i, vo)) (i + 1, v30) zO (by show i + 1 <= _; omega) (zU) (.c zS (SPs.of (A := own 45 (rSl rValue) v30 ((mT p.Cols ((nth l 0).take i)) ++ [(bM (nth (nth l 0) i) p.Cols)])) (by rw [di hlt]; simp [mT])) (LSub.nil))
 try simp only [NF] at h17
 obtain rfl : i = (nth l 0).length := by omega
 refine aV (Jr (Zm (Za (ab (aC ?_)))))
 refine aY (rv := .tmp 6) rfl () (Sel.take (FN _)) (.tmp Sr) (Gi (by rw [List.take_length]))
def nlB : ByteArray := ⟨#[10]⟩
def jl (row : LV) (s : ByteArray) (c : Int) : ByteArray := s ++ (eK (nth row c.toNat) ++ nlB)
def keyS (row : LV) (cols : List Int) : ByteArray := cols.foldl (jl row) ⟨#[]⟩
def DC (row : LV) (c : Int) : Bool := !decide ((nth row c.toNat).Kind = 0)
def kg (row : LV) (cols : List Int) : Bool := cols.all (DC row)
theorem jm {α β : Type} [Inhabited β] {f : α -> β -> α} {a : α} {l : List β} {i : Nat} (h : i < l.length) : (l.take (i + 1)).foldl f a = f ((l.take i).foldl f a) (nth l i) := by rw [di h, List.foldl_append]; rfl
theorem yi {row : LV} {cols : List Int} {i : Nat} (h : i < cols.length) : keyS row (cols.take (i + 1)) = keyS row (cols.take i) ++ (eK (nth row (nth cols i).toNat) ++ nlB) := jm h
theorem ri (row : LV) : ∀ (cols : List Int) (s : ByteArray), (cols.foldl (jl row) s).size <= s.size + cols.length * 1001
  | [], s => by simp
  | c :: cols, s => by
    have h := ri row cols (jl row s c)
    have h2 := iG (nth row c.toNat)
    have h3 : nlB.size = 1 := rfl
    have h4 : (jl row s c).size = s.size + ((eK (nth row c.toNat)).size + nlB.size) := by unfold jl; rw [ByteArray.size_append, ByteArray.size_append]
    simp only [List.foldl_cons, List.length_cons]
    omega
theorem Cl (row : LV) (cols : List Int) (n : Nat) (h : cols.length <= n) : (keyS row cols).size <= n * 1001 := by
  have := ri row cols ⟨#[]⟩
  have h0 : (⟨#[]⟩ : ByteArray).size = 0 := rfl
  unfold keyS; omega
def cIx (a b : List GAttr) (n : Nat) : List Nat := (List.range n).filter fun i => decide (0 <= aM a (nth b i).Name)
def lefJ (a b : List GAttr) (n : Nat) : List Int := (cIx a b n).map fun i => aM a (nth b i).Name
def rigJ (a b : List GAttr) (n : Nat) : List Int := (cIx a b n).map fun i : Nat => (i : Int)
def resJ (a b : List GAttr) (n : Nat) : List Int := ((List.range n).filter fun i => !decide (0 <= aM a (nth b i).Name)).map fun i : Nat => (i : Int)
theorem yj (a b : List GAttr) (n : Nat) : (cIx a b n).length <= n := by unfold cIx; have := List.length_filter_le (fun i => decide (0 <= aM a (nth b i).Name)) (List.range n); simpa using this
theorem uf (a b : List GAttr) (n : Nat) : (lefJ a b n).length <= n := by unfold lefJ; rw [List.length_map]; exact yj a b n
theorem ug (a b : List GAttr) (n : Nat) : (rigJ a b n).length <= n := by unfold rigJ; rw [List.length_map]; exact yj a b n
theorem lE (a b : List GAttr) (n : Nat) : (resJ a b n).length <= n := by unfold resJ; rw [List.length_map]; have := List.length_filter_le (fun i => !decide (0 <= aM a (nth b i).Name)) (List.range n); simpa using this
section
variable {a b : List GAttr} {n : Nat}
theorem DD (h : 0 <= aM a (nth b n).Name) : cIx a b (n + 1) = cIx a b n ++ [n] := by simp [cIx, List.range_succ, h]
theorem DE (h : ¬ 0 <= aM a (nth b n).Name) : cIx a b (n + 1) = cIx a b n := by simp [cIx, List.range_succ, h]
theorem DF (h : 0 <= aM a (nth b n).Name) : lefJ a b (n + 1) = lefJ a b n ++ [aM a (nth b n).Name] := by simp [lefJ, DD h]
theorem DG (h : ¬ 0 <= aM a (nth b n).Name) : lefJ a b (n + 1) = lefJ a b n := by simp [lefJ, DE h]
theorem DH (h : 0 <= aM a (nth b n).Name) : rigJ a b (n + 1) = rigJ a b n ++ [(n : Int)] := by simp [rigJ, DD h]
theorem DI (h : ¬ 0 <= aM a (nth b n).Name) : rigJ a b (n + 1) = rigJ a b n := by simp [rigJ, DE h]
theorem DJ (h : 0 <= aM a (nth b n).Name) : resJ a b (n + 1) = resJ a b n := by simp [resJ, List.range_succ, h]
theorem DK (h : ¬ 0 <= aM a (nth b n).Name) : resJ a b (n + 1) = resJ a b n ++ [(n : Int)] := by simp [resJ, List.range_succ, h]
end
theorem kN (a : List GAttr) (nm : ByteArray) : aM a nm < a.length := by
  have h := (dg (fun x : GAttr => decide (x.Name = nm)) a 0 (by omega)).2.1
  unfold aM; omega
theorem Cm {a b : List GAttr} {n : Nat} : ∀ c ∈ lefJ a b n, 0 <= c /\ c < a.length := fun c hc => by
  obtain ⟨i, hi, rfl⟩ := List.mem_map.1 hc
  have h1 := (List.mem_filter.1 hi).2
  simp only [decide_eq_true_eq] at h1
  exact ⟨h1, kN a _⟩
theorem Cn {a b : List GAttr} {n : Nat} : ∀ c ∈ rigJ a b n, 0 <= c /\ c < n := fun c hc => by
  obtain ⟨i, hi, rfl⟩ := List.mem_map.1 hc
  have h1 := List.mem_range.1 (List.mem_filter.1 hi).1
  omega
def wg {α : Type} (m : List (ByteArray × List α)) (k : ByteArray) (f : α) : List (ByteArray × List α) := mput m k ((mget m k).getD [] ++ [f])
theorem dT {κ α : Type} [DecidableEq κ] (k : κ) : ∀ q : eh κ α, (nR q k).2 = (mget (ko q) k).getD []
  | [] => rfl
  | (a, v, xs) :: q => by
    by_cases h : k = a
    · simp [mget, nR, h]
    · simp only [List.map_cons, mget, nR, if_neg h]; exact dT k q
theorem iH {κ α : Type} [DecidableEq κ] (k : κ) (w : Value) (ys : List α) : ∀ q : eh κ α, ko (rQ q k w ys) = mput (ko q) k ys
  | [] => rfl
  | (a, v, xs) :: q => by
    by_cases h : k = a
    · simp [mput, rQ, h]
    · have := iH k w ys q
      simp only [ko] at this
      simp only [List.map_cons, mput, rQ, if_neg h]; rw [this]
def mU (right rest : List Int) (m : List (ByteArray × List LV)) (r : LV) : List (ByteArray × List LV) := if kg r right = true then wg m (keyS r right) (bM r rest) else m
def byM (right rest : List Int) (rows : List LV) : List (ByteArray × List LV) := rows.foldl (mU right rest) []
def byG (m : List (ByteArray × List LV)) (k : ByteArray) : List LV := (mget m k).getD []
theorem yl {m : List (ByteArray × List LV)} {k j : ByteArray} {f : LV} : byG (wg m k f) j = if j = k then byG m k ++ [f] else byG m j := by
  unfold byG wg; rw [p7]; split <;> rfl
theorem pC (right rest : List Int) (rows : List LV) (k : ByteArray) : byG (byM right rest rows) k = (rows.filter fun r => kg r right && decide (keyS r right = k)).map fun r => bM r rest := by
  have H : ∀ (l : List LV) (m : List (ByteArray × List LV)), byG (l.foldl (mU right rest) m) k = byG m k ++ (l.filter fun r => kg r right && decide (keyS r right = k)).map fun r => bM r rest := by
    intro l
    induction l with
    | nil => intro m; simp
    | cons r l ih =>
      intro m
      rw [List.foldl_cons, ih, List.filter_cons]
      unfold mU
      by_cases h1 : kg r right = true
      · rw [if_pos h1, yl]
        by_cases h2 : keyS r right = k
        · subst h2; simp [h1]
        · rw [if_neg (fun e => h2 e.symm)]; simp [h1, h2]
      · rw [if_neg h1]; simp [h1]
  have := H rows []
  simpa [byM, byG, mget] using this
theorem pD (right rest : List Int) (rows : List LV) (k : ByteArray) : (byG (byM right rest rows) k).length <= rows.length := by
  rw [pC, List.length_map]; exact List.length_filter_le _ _
theorem sW {right rest : List Int} {rows : List LV} {k : ByteArray} {x : LV} (h : x ∈ byG (byM right rest rows) k) : x.length <= rest.length := by
  rw [pC] at h
  obtain ⟨r, _, rfl⟩ := List.mem_map.1 h
  unfold bM iQ; split <;> simp
def nL (m : List (ByteArray × List LV)) (left : List Int) (out : List LV) (row : LV) (n : Nat) : List LV := out ++ ((byG m (keyS row left)).take n).map fun x => row ++ x
def zi (out : List LV) : List LV := if 400000 < out.length then tZ out else out
def fm (m : List (ByteArray × List LV)) (left : List Int) (out : List LV) (row : LV) : List LV := if kg row left = true then zi (nL m left out row (byG m (keyS row left)).length) else out
def gq (m : List (ByteArray × List LV)) (left : List Int) (rows : List LV) : List LV := rows.foldl (fm m left) []
theorem An (out : List LV) : (zi out).length <= out.length := by unfold zi; split; exact Ab _; exact Nat.le_refl _
theorem Ao {out : List LV} {x : LV} (h : x ∈ zi out) : x ∈ out := by unfold zi at h; split at h; exact lC h; exact h
theorem pE {m : List (ByteArray × List LV)} {left : List Int} {A B n : Nat} (hm : ∀ k, (byG m k).length <= n /\ ∀ x ∈ byG m k, x.length <= B) : ∀ (rows : List LV) (out : List LV), (∀ r ∈ rows, r.length <= A) -> (∀ r ∈ out, r.length <= A + B) ->
    (rows.foldl (fm m left) out).length <= out.length + rows.length * n /\ ∀ r ∈ rows.foldl (fm m left) out, r.length <= A + B
  | [], out, _, ho => ⟨by simp, ho⟩
  | row :: rows, out, hr, ho => by
    have hs : (fm m left out row).length <= out.length + n /\ ∀ r ∈ fm m left out row, r.length <= A + B := by
      unfold fm
      split
      · refine ⟨Nat.le_trans (An _) ?_, fun r h => ?_⟩
        · have := (hm (keyS row left)).1
          simp [nL]; omega
        · have h := Ao h
          simp only [nL, List.take_length, List.mem_append, List.mem_map] at h
          rcases h with h | ⟨x, hx, rfl⟩
          · exact ho r h
          · have h1 := hr row (by simp)
            have h2 := (hm _).2 x hx
            rw [List.length_append]; omega
      · exact ⟨by omega, ho⟩
    have := pE (left := left) hm rows (fm m left out row) (fun r h => hr r (by simp [h])) hs.2
    refine ⟨?_, this.2⟩
    have h1 := this.1
    have h2 := hs.1
    simp only [List.foldl_cons, List.length_cons]
    rw [Nat.add_mul, Nat.one_mul]; omega
theorem EF {RG RS : List Int} {l : List LV} {j : Nat} (h : j < l.length) (hk : kg (nth l j) RG = true) : byM RG RS (l.take (j + 1)) = wg (byM RG RS (l.take j)) (keyS (nth l j) RG) (bM (nth l j) RS) := by
  unfold byM; rw [jm h]; show mU RG RS _ _ = _; rw [mU, if_pos hk]
theorem EG {RG RS : List Int} {l : List LV} {j : Nat} (h : j < l.length) (hk : kg (nth l j) RG = false) : byM RG RS (l.take (j + 1)) = byM RG RS (l.take j) := by
  unfold byM; rw [jm h]; show mU RG RS _ _ = _; rw [mU, if_neg (by rw [hk]; simp)]
theorem ym {m : List (ByteArray × List LV)} {left : List Int} {out : List LV} {row : LV} {u : Nat} (h : u < (byG m (keyS row left)).length) : nL m left out row (u + 1) = nL m left out row u ++ [row ++ nth (byG m (keyS row left)) u] := by
  unfold nL; rw [di h]; simp
theorem yo {m : List (ByteArray × List LV)} {left : List Int} {l : List LV} {k : Nat} (h : k < l.length) (hk : kg (nth l k) left = true) : gq m left (l.take (k + 1)) = zi (nL m left (gq m left (l.take k)) (nth l k) (byG m (keyS (nth l k) left)).length) := by
  unfold gq; rw [jm h]; show fm m left _ _ = _; rw [fm, if_pos hk]
theorem Co {m : List (ByteArray × List LV)} {left : List Int} {l : List LV} {k : Nat} (h : k < l.length) (hk : kg (nth l k) left = false) : gq m left (l.take (k + 1)) = gq m left (l.take k) := by
  unfold gq; rw [jm h]; show fm m left _ _ = _; rw [fm, if_neg (by rw [hk]; simp)]
def rj (a b : List GAttr) (l0 l1 : List LV) : List LV := gq (byM (rigJ a b b.length) (resJ a b b.length) l1) (lefJ a b b.length) l0
theorem yp {a b : List GAttr} {l0 l1 : List LV} (ha : a.length <= 1000) (hb : b.length <= 1000) (h0 : l0.length <= 4000) (h1 : l1.length <= 4000) (hr : ∀ r ∈ l0, r.length = a.length) {k u : Nat} (hk : k < l0.length) :
    (nL (byM (rigJ a b b.length) (resJ a b b.length) l1) (lefJ a b b.length) (gq (byM (rigJ a b b.length) (resJ a b b.length) l1) (lefJ a b b.length) (l0.take k)) (nth l0 k) u).length <= 100000000 ∧
    ∀ r ∈ nL (byM (rigJ a b b.length) (resJ a b b.length) l1) (lefJ a b b.length) (gq (byM (rigJ a b b.length) (resJ a b b.length) l1) (lefJ a b b.length) (l0.take k)) (nth l0 k) u, r.length <= 2000 := by
  have hm : ∀ q, (byG (byM (rigJ a b b.length) (resJ a b b.length) l1) q).length <= 4000 /\ ∀ x ∈ byG (byM (rigJ a b b.length) (resJ a b b.length) l1) q, x.length <= 1000 := fun q =>
    ⟨Nat.le_trans (pD _ _ _ _) h1, fun x hx => by have := sW hx; have := lE a b b.length; omega⟩
  have hj := pE (left := lefJ a b b.length) (A := 1000) (B := 1000) hm (l0.take k) [] (fun r h => by have := hr r (List.mem_of_mem_take h); omega) (fun r h => by cases h)
  have hl : (l0.take k).length <= 4000 := by rw [List.length_take]; omega
  have e1 : (l0.take k).length * 4000 <= 4000 * 4000 := Nat.mul_le_mul_right _ hl
  have hj1 : (gq (byM (rigJ a b b.length) (resJ a b b.length) l1) (lefJ a b b.length) (l0.take k)).length <= [].length + (l0.take k).length * 4000 := hj.1
  refine ⟨?_, fun r h => ?_⟩
  · have := (hm (keyS (nth l0 k) (lefJ a b b.length))).1
    simp only [nL, List.length_append, List.length_map, List.length_take] at hj1 ⊢
    simp only [List.length_nil] at hj1
    omega
  · simp only [nL, List.mem_append, List.mem_map] at h
    rcases h with h | ⟨x, hx, rfl⟩
    · exact hj.2 r h
    · have h1 := hr _ (nth_mem hk)
      have h2 := (hm _).2 x (List.mem_of_mem_take hx)
      rw [List.length_append]; omega
theorem Frz.rowsV {κ α : Type} [DecidableEq κ] {kv : κ -> Value} {e : Nat} {R : Rp α} {v : Value} {q : eh κ α} {S : List SP} {m : List (κ × List α)} (h : ko q = m) : Frz (bD kv rV v (vals q) :: iM e R q :: S) (rV.ty v) (d6 kv (rSl R) m) :=
  fun h0 m0 u d hs hu => h ▸ Frz.rows h0 m0 u d hs (F9 _ _ hu)
theorem rk (row : LV) (cols : List Int) (hl : cols.length <= 1000000) (hc : ∀ c ∈ cols, 0 <= c /\ c < row.length) : Fun1 prog 124 [tSl rValue row, tSl aO cols] (fW [tV (.string (if kg row cols = true then keyS row cols else ⟨#[]⟩)), tV (.bool (kg row cols))]) := by
 refine Spec.enter func124 rfl rfl fun h0 w0 fr0 => ?_
 refine Jr (Za (Za (ab (Jr (Za ?_)))))
 refine ab (ap (Jr (Zm (Zs (ag underlying27 Sr) (Zm ?_)))))
 refine ab (au ?_)
 refine aK (σ := Nat) (fun i => i <= cols.length /\ kg row (cols.take i) = true) (fun i => upd (upd (upd (upd (upd co 0 (tSl rValue row)) 6 (tV (.string (keyS row (cols.take i))))) 9 (tSl aO cols)) 10 (tV (.int .i64 cols.length))) 11 (tV (.int .i64 i))) (fun i => []) (fun i => cols.length - i) 0 ⟨by omega, rfl⟩ (zU) (LSub.rfl) ?_
 rintro i ⟨hi, hv⟩
 refine Jr (Zs (az Sr Sr) (ab (ap ?_)))
 refine am Sr (fun h12 => ?_) (fun h12 => ?_)
 ·
  try simp only [NF] at h12
  have hlt : i < cols.length := by omega
  have hci := hc _ (nth_mem hlt)
  have hks := Cl row (cols.take i) 1000000 (by rw [List.length_take]; omega)
  have htx := iG (nth row (nth cols i).toNat)
  have hnl : (⟨#[10]⟩ : ByteArray).size = 1 := rfl
  have hts : (eK (nth row (nth cols i).toNat) ++ (⟨#[10]⟩ : ByteArray)).size = (eK (nth row (nth cols i).toNat)).size + 1 := by rw [ByteArray.size_append]; rfl
  refine av (ap (au (Jr ?_)))
  refine Zs (ae  underlying27 ty3 Sr Sr rfl (gb (by exact hlt))) ?_
  refine Zl ty3 Sr (Za (ab (ap (Jr (Zm ?_)))))
  refine Zm (Zs (ae (i := (nth cols i).toNat) underlying45 bZ Sr Sr zG (gb zG)) (Zs (aa fp Sr rfl) (Zl ty3 Sr (Zs (aJ Sr Sr) (ab ?_)))))
  refine am Sr (fun h20 => ?_) (fun h20 => ?_)
  ·
   try simp only [NF] at h20
   refine Jr (Za (Za (ab (aC ?_))))
   have hno : kg row cols = false := by
    unfold kg; rw [List.all_eq_false]; exact ⟨_, nth_mem hlt, by simpa [DC] using h20⟩
   have e : (if kg row cols = true then keyS row cols else ⟨#[]⟩) = ⟨#[]⟩ := if_neg (by rw [hno]; simp)
   rw [e, hno]
   refine bI (rv := .tmp 4) (rv' := .tmp 5) rfl () (Sel.all _) (.tmp Sr) (.tmp Sr) (Frz.sub Sr) (Frz.sub Sr) Sr
  try simp only [NF] at h20
  refine av (ah (Zm (Zm (Zm (Zs (ae (i := (nth cols i).toNat) underlying45 bZ Sr Sr zG (gb zG)) ?_)))))
  refine Zl bZ Sr (Zs (aj (rf _) ⟨Sr, trivial⟩ call125) ?_)
  refine Zs (dl Sr Sr (by first | assumption | omega)) ?_
  refine Zs (dl Sr Sr (by first | assumption | omega)) ?_
  refine Za (ab (ah (Zs (ax Sr Sr z6) (Zm (ab ?_)))))
  refine ay (σ := Nat) (s := i) (i + 1) zO ?_ (.u (.u (.u (SubE.upd (Ge (by rw [yi hlt]; rfl)) (zU))))) (LSub.rfl)
  refine ⟨by omega, ?_⟩
  unfold kg at hv ⊢
  rw [di hlt, List.all_append, hv]
  simpa [DC] using h20
 try simp only [NF] at h12
 obtain rfl : i = cols.length := by omega
 refine aV (Jr (Zm (Za (Za (ab ?_)))))
 refine aC ?_
 rw [List.take_length] at hv
 have e : (if kg row cols = true then keyS row cols else ⟨#[]⟩) = keyS row (cols.take cols.length) := by rw [if_pos hv, List.take_length]
 rw [e, hv]
 refine bI (rv := .tmp 4) (rv' := .tmp 5) rfl () (Sel.all _) (.tmp Sr) (.tmp Sr) (Frz.sub Sr) (Frz.sub Sr) Sr
theorem sY (e : Gev) (n : Nat) (p : aQ) (l : List (List LV)) (hk : p.Kids.length = 2) (ha : (nth p.Kids 0).Attrs.length <= 1000) (hb : (nth p.Kids 1).Attrs.length <= 1000) (h1 : 1 < l.length) (hl0 : (nth l 0).length <= 4000) (hl1 : (nth l 1).length <= 4000) (hr0 : ∀ r ∈ (nth l 0), r.length = (nth p.Kids 0).Attrs.length) (hr1 : ∀ r ∈ (nth l 1), r.length = (nth p.Kids 1).Attrs.length) : Fun1 prog 73 [bx rev e, (aX (n + 2)).ty p, tSl (rSl (rSl rValue)) l] (tSl (rSl rValue) (rj (nth p.Kids 0).Attrs (nth p.Kids 1).Attrs (nth l 0) (nth l 1))) := by
 refine Spec.enter func73 rfl rfl fun h0 w0 fr0 => ?_
 refine Jr (Zs (aF (R := (aX (n + 2))) Sr) (Za (ab (Jr (Za ?_)))))
 refine Za (Za (ab (ap (Jr (Zs (aa cq Sr rfl) ?_)))))
 refine Zl lW Sr ?_
 refine Zs (ae (i := 1) underlying25 da Sr Sr (by rfl) (gb (by show 1 < p.Kids.length; omega))) ?_
 refine Zs (aa cq Sr rfl) (Zl eP Sr (Zs (ag underlying28 Sr) (Zm (ab (au ?_)))))
 refine aK (σ := Nat × Value × Value × Value) (fun ⟨i, va, vb, vc⟩ => i <= (nth p.Kids 1).Attrs.length) (fun ⟨i, va, vb, vc⟩ => upd (upd (upd (upd (upd (upd (upd (upd (upd co 2 (tSl (rSl (rSl rValue)) l)) 4 (bx (aX (n + 2)) p)) 6 (tV (.slice none 0 0))) 7 (rV.ty va)) 8 (rV.ty vb)) 9 (rV.ty vc)) 32 (tSl bu (nth p.Kids 1).Attrs)) 33 (tV (.int .i64 (nth p.Kids 1).Attrs.length))) 34 (tV (.int .i64 i))) (fun ⟨i, va, vb, vc⟩ => [own 3 aO va (lefJ (nth p.Kids 0).Attrs (nth p.Kids 1).Attrs i), own 3 aO vb (rigJ (nth p.Kids 0).Attrs (nth p.Kids 1).Attrs i), own 3 aO vc (resJ (nth p.Kids 0).Attrs (nth p.Kids 1).Attrs i)]) (fun ⟨i, va, vb, vc⟩ => (nth p.Kids 1).Attrs.length - i) (0, .slice none 0 0, .slice none 0 0, .slice none 0 0) (by exact Nat.zero_le _) (.u (.u (.u (SubE.upd (FT rfl) (SubE.upd (FT rfl) (SubE.upd (FT rfl) (zU))))))) (LSub.trans FR (LSub.trans FR FR)) ?_
 rintro ⟨i, va, vb, vc⟩ hi
 try dsimp only at hi
 refine Jr (Zs (az Sr Sr) (ab (ap ?_)))
 refine am Sr (fun h35 => ?_) (fun h35 => ?_)
 ·
  try simp only [NF] at h35
  have hlt : i < (nth p.Kids 1).Attrs.length := by omega
  have hb1 := uf (nth p.Kids 0).Attrs (nth p.Kids 1).Attrs i
  have hb2 := ug (nth p.Kids 0).Attrs (nth p.Kids 1).Attrs i
  have hb3 := lE (nth p.Kids 0).Attrs (nth p.Kids 1).Attrs i
  refine av (ap (au (Jr (Zm ?_))))
  refine Zs (ae (i := i) underlying28 eS Sr Sr (by rfl) (gb (by exact hlt))) ?_
  refine Zl eS Sr ?_
  refine Zx (aE (fun w => zeroValue64 w) zx) fun v11 => ?_
  refine Za ?_
  refine Ju (ai eS Sr Sr zS) fun _ => ?_
  refine aN (t := 11) (Sel.take (FN _)) Frz.box ?_
  refine ab (ap ?_)
  refine bQ [⟨0, [4], true⟩, ⟨1, [39], true⟩, ⟨2, [40], true⟩, ⟨3, [41], true⟩, ⟨4, [42], true⟩, ⟨5, [11], true⟩, ⟨6, [44], true⟩, ⟨7, [43, 45], true⟩, ⟨8, [46], true⟩] rfl (by kernel_rfl) ?_
  refine Zf rfl (aa cq Sr rfl) (Zf rfl (ad lW Sr) ?_)
  refine Zf rfl (ae (i := 0) underlying25 da Sr Sr (by rfl) (gb (by show 0 < p.Kids.length; omega))) ?_
  refine Zf rfl (aa cq Sr rfl) (Zf rfl (ad eP Sr) (Zf rfl (aa gV Sr rfl) (Zf rfl (ad ty9 Sr) ?_)))
  refine Zf rfl (aj (g8 _ _ (by show (nth p.Kids 0).Attrs.length <= _; omega)) ⟨Sr, Sr, trivial⟩ call102) ?_
  refine Zf rfl (bd Sr) (bP (Jr (Zm (Zs (bA Sr Sr) (ab ?_)))))
  refine am Sr (fun h48 => ?_) (fun h48 => ?_)
  ·
   try simp only [NF] at h48
   refine ah (Zm (Zm ?_))
   refine Zs (aB (ys := [_]) underlying27 el3 ⟨rfl, Sr, trivial⟩ rfl (by decide)) ?_
   refine Zx (aH underlying27 el3 Sr Sr zS (by simp; omega) (by simp; omega)) fun v52 => ?_
   refine Zm (Zm ?_)
   refine Zs (aB (ys := [_]) underlying27 el3 ⟨rfl, Sr, trivial⟩ rfl (by decide)) ?_
   refine Zx (aH underlying27 el3 Sr Sr zS (by simp; omega) (by simp; omega)) fun v56 => ?_
   refine Za (Za (ab (ah (Zs (ax Sr Sr z6) (Zm ?_)))))
   refine ab ?_
   refine ay (σ := Nat × Value × Value × Value) (s := (i, va, vb, vc)) (i + 1, v52, v56, vc) zO (by show i + 1 <= _; omega) (zU) (.c zS (SPs.of (A := own 3 aO v52 ((lefJ (nth p.Kids 0).Attrs (nth p.Kids 1).Attrs i) ++ [(aM (nth p.Kids 0).Attrs (nth (nth p.Kids 1).Attrs i).Name)])) (by rw [DF h48])) (.c zS (SPs.of (A := own 3 aO v56 ((rigJ (nth p.Kids 0).Attrs (nth p.Kids 1).Attrs i) ++ [(i : Int)])) (by rw [DH h48])) (.c zS (SPs.of (A := own 3 aO vc (resJ (nth p.Kids 0).Attrs (nth p.Kids 1).Attrs i)) (by rw [DJ h48])) (LSub.nil))))
  try simp only [NF] at h48
  refine ah (Zm (Zm ?_))
  refine Zs (aB (ys := [_]) underlying27 el3 ⟨rfl, Sr, trivial⟩ rfl (by decide)) ?_
  refine Zx (aH underlying27 el3 Sr Sr zS (by simp; omega) (by simp; omega)) fun v60 => ?_
  refine Za (ab (ah (Zs (ax Sr Sr z6) (Zm (ab ?_)))))
  refine ay (σ := Nat × Value × Value × Value) (s := (i, va, vb, vc)) (i + 1, va, vb, v60) zO (by show i + 1 <= _; omega) (zU) (.c zS (SPs.of (A := own 3 aO va (lefJ (nth p.Kids 0).Attrs (nth p.Kids 1).Attrs i)) (by rw [DG zG])) (.c zS (SPs.of (A := own 3 aO vb (rigJ (nth p.Kids 0).Attrs (nth p.Kids 1).Attrs i)) (by rw [DI zG])) (.c zS (SPs.of (A := own 3 aO v60 ((resJ (nth p.Kids 0).Attrs (nth p.Kids 1).Attrs i) ++ [(i : Int)])) (by rw [DK zG])) (LSub.nil))))
 try simp only [NF] at h35
 obtain rfl : i = (nth p.Kids 1).Attrs.length := by omega
 refine aV (Jr (Za (ab ?_)))
 refine cA (t := 7) (A' := tSl aO (lefJ (nth p.Kids 0).Attrs (nth p.Kids 1).Attrs (nth p.Kids 1).Attrs.length)) (Sel.take (FN _)) Frz.own ?_
 refine cA (t := 8) (A' := tSl aO (rigJ (nth p.Kids 0).Attrs (nth p.Kids 1).Attrs (nth p.Kids 1).Attrs.length)) (Sel.take (FN _)) Frz.own ?_
 refine cA (t := 9) (A' := tSl aO (resJ (nth p.Kids 0).Attrs (nth p.Kids 1).Attrs (nth p.Kids 1).Attrs.length)) (Sel.take (FN _)) Frz.own ?_
 refine Jr ?_
 refine Zx (eO (kv := kvS) (R := rV)) fun v62 => ?_
 refine Za (ab (ap (Jr (Zm ?_))))
 refine Zs (ae (i := 1) underlying35 fX Sr Sr (by rfl) (gb (by exact h1))) ?_
 refine Zl fX Sr (Zs (ag underlying38 Sr) (Zm (ab (au ?_))))
 refine aK (σ := Nat × eh ByteArray LV) (fun ⟨j, qq⟩ => j <= (nth l 1).length /\ ko qq = byM (rigJ (nth p.Kids 0).Attrs (nth p.Kids 1).Attrs (nth p.Kids 1).Attrs.length) (resJ (nth p.Kids 0).Attrs (nth p.Kids 1).Attrs (nth p.Kids 1).Attrs.length) ((nth l 1).take j)) (fun ⟨j, qq⟩ => upd (upd (upd (upd (upd (upd (upd (upd (upd (upd co 2 (tSl (rSl (rSl rValue)) l)) 6 (tV (.slice none 0 0))) 7 (tSl aO (lefJ (nth p.Kids 0).Attrs (nth p.Kids 1).Attrs (nth p.Kids 1).Attrs.length))) 8 (tSl aO (rigJ (nth p.Kids 0).Attrs (nth p.Kids 1).Attrs (nth p.Kids 1).Attrs.length))) 9 (tSl aO (resJ (nth p.Kids 0).Attrs (nth p.Kids 1).Attrs (nth p.Kids 1).Attrs.length))) 13 (tV (.func (.func 124) #[] #[]))) 14 (rV.ty v62)) 65 (tSl (rSl rValue) (nth l 1))) 66 (tV (.int .i64 (nth l 1).length))) 67 (tV (.int .i64 j))) (fun ⟨j, qq⟩ => [bD kvS rV v62 (vals qq), iM 45 (rSl rValue) qq]) (fun ⟨j, qq⟩ => (nth l 1).length - j) (0, []) ⟨by omega, rfl⟩ (zU) (LSub.trans (zL) (LSub.trans tw LSub.swap)) ?_
 rintro ⟨j, qq⟩ ⟨hj, hqq⟩
 refine Jr (Zs (az Sr Sr) (ab (ap ?_)))
 refine am Sr (fun h68 => ?_) (fun h68 => ?_)
 ·
  try simp only [NF] at h68
  have hlj : j < (nth l 1).length := by omega
  have hrw1 := hr1 _ (nth_mem hlj)
  have hrl1 := ug (nth p.Kids 0).Attrs (nth p.Kids 1).Attrs (nth p.Kids 1).Attrs.length
  have hrl2 := lE (nth p.Kids 0).Attrs (nth p.Kids 1).Attrs (nth p.Kids 1).Attrs.length
  refine av (ap (au (Jr ?_)))
  refine Zs (ae (i := j) underlying38 dt Sr Sr (by rfl) (gb (by exact hlj))) ?_
  refine Zl dt Sr (Za (ab (Jr (Zm (Zm ?_)))))
  refine Zm ?_
  refine Zs (bp (aT := [_, _]) F5 (rk (nth (nth l 1) j) (rigJ (nth p.Kids 0).Attrs (nth p.Kids 1).Attrs (nth p.Kids 1).Attrs.length) zG (fun c hc => by have := Cn c hc; omega)) ⟨Sr, Sr, trivial⟩ call124) ?_
  refine Zm (Zs (aL Sr rfl) (Zs (aL Sr rfl) (Za (Za (ab ?_)))))
  refine Jr (Zm (ab ?_))
  refine am Sr (fun h78 => ?_) (fun h78 => ?_)
  ·
   try simp only [NF] at h78
   rw [if_pos h78]
   have hbl : (nR qq (keyS (nth (nth l 1) j) (rigJ (nth p.Kids 0).Attrs (nth p.Kids 1).Attrs (nth p.Kids 1).Attrs.length))).2.length <= 4000 := by rw [dT, hqq]; exact Nat.le_trans (pD _ _ _ _) (by rw [List.length_take]; omega)
   refine Jr (Zm (Zm ?_))
   refine Zx (aR (FN _) (kM (nth (nth l 1) j) (resJ (nth p.Kids 0).Attrs (nth p.Kids 1).Attrs (nth p.Kids 1).Attrs.length) zG) ⟨Sr, Sr, trivial⟩ call123) fun v82 => ?_
   refine Zm (Zs (aL Sr rfl) (Zs (aL Sr rfl) (Za (Za (ab ?_)))))
   refine ah ?_
   refine aN (t := 19) (A' := tSl rValue (bM (nth (nth l 1) j) (resJ (nth p.Kids 0).Attrs (nth p.Kids 1).Attrs (nth p.Kids 1).Attrs.length))) (Sel.take (FN _)) Frz.own ?_
   refine Zm (Zm (Zm (Zm ?_)))
   refine Zs (fy (kv := kvS) (q := qq) (k := (keyS (nth (nth l 1) j) (rigJ (nth p.Kids 0).Attrs (nth p.Kids 1).Attrs (nth p.Kids 1).Attrs.length))) (KeyT.str underlying9) underlying172 (fun w => zeroValue38 w) F9 Sr zS) ?_
   refine Zm ?_
   refine Zs (aB (ys := [_]) underlying38 lS ⟨rfl, Sr, trivial⟩ rfl (by decide)) ?_
   refine oO (LSub.trans (B := [iM 45 (rSl rValue) qq, bD kvS rV v62 (vals qq)]) (zL) (kn (keyS (nth (nth l 1) j) (rigJ (nth p.Kids 0).Attrs (nth p.Kids 1).Attrs (nth p.Kids 1).Attrs.length)))) ?_
   refine Zx (aH underlying38 lS Sr Sr zS (by simp; omega) (by simp; omega)) fun v92 => ?_
   refine Ju (dc (kv := kvS) (R := rV) (KeyT.str underlying9) underlying172 F9 Sr Sr zS) fun _ => ?_
   refine ab (ah (Zs (ax Sr Sr z6) (Zm (ab ?_))))
   refine ay (σ := Nat × eh ByteArray LV) (s := (j, qq)) (j + 1, rQ qq (keyS (nth (nth l 1) j) (rigJ (nth p.Kids 0).Attrs (nth p.Kids 1).Attrs (nth p.Kids 1).Attrs.length)) v92 ((nR qq (keyS (nth (nth l 1) j) (rigJ (nth p.Kids 0).Attrs (nth p.Kids 1).Attrs (nth p.Kids 1).Attrs.length))).2 ++ [bM (nth (nth l 1) j) (resJ (nth p.Kids 0).Attrs (nth p.Kids 1).Attrs (nth p.Kids 1).Attrs.length)])) zO ⟨hlj, by show ko (rQ _ _ _ _) = _; rw [iH, EF hlj h78, dT, hqq]; rfl⟩ (zU) (LSub.trans (B := [own 45 (rSl rValue) v92 ((nR qq (keyS (nth (nth l 1) j) (rigJ (nth p.Kids 0).Attrs (nth p.Kids 1).Attrs (nth p.Kids 1).Attrs.length))).2 ++ [bM (nth (nth l 1) j) (resJ (nth p.Kids 0).Attrs (nth p.Kids 1).Attrs (nth p.Kids 1).Attrs.length)]), iM 45 (rSl rValue) (rmv qq (keyS (nth (nth l 1) j) (rigJ (nth p.Kids 0).Attrs (nth p.Kids 1).Attrs (nth p.Kids 1).Attrs.length))), bD kvS rV v62 (mput (vals qq) (keyS (nth (nth l 1) j) (rigJ (nth p.Kids 0).Attrs (nth p.Kids 1).Attrs (nth p.Kids 1).Attrs.length)) v92)]) (zL) (LSub.trans (jy (keyS (nth (nth l 1) j) (rigJ (nth p.Kids 0).Attrs (nth p.Kids 1).Attrs (nth p.Kids 1).Attrs.length)) v92 _) (LSub.trans LSub.swap (.c zS (SPs.of (by rw [lw])) (zL)))))
  try simp only [NF] at h78
  refine av (ah (Zs (ax Sr Sr z6) (Zm (ab ?_))))
  refine ay (σ := Nat × eh ByteArray LV) (s := (j, qq)) (j + 1, qq) zO ⟨hlj, by show ko qq = _; rw [EG hlj (by simpa using h78)]; exact hqq⟩ (zU) (zL)
 try simp only [NF] at h68
 obtain rfl : j = (nth l 1).length := by omega
 refine aV (Jr (Za (ab ?_)))
 refine cA (t := 14) (A' := d6 kvS (rSl (rSl rValue)) (byM (rigJ (nth p.Kids 0).Attrs (nth p.Kids 1).Attrs (nth p.Kids 1).Attrs.length) (resJ (nth p.Kids 0).Attrs (nth p.Kids 1).Attrs (nth p.Kids 1).Attrs.length) (nth l 1))) (Sel.take (Sel.take (FN _))) (Frz.rowsV (by rw [hqq, List.take_length])) ?_
 refine ap (Jr (Zm ?_))
 refine Zs (ae (i := 0) underlying35 fX Sr Sr (by rfl) (gb zG)) ?_
 refine Zl fX Sr (Zs (ag underlying38 Sr) (Zm (ab (au ?_))))
 refine aK (σ := Nat × Value) (fun ⟨k, vo⟩ => k <= (nth l 0).length) (fun ⟨k, vo⟩ => upd (upd (upd (upd (upd (upd (upd (upd co 6 (tV (.slice none 0 0))) 7 (tSl aO (lefJ (nth p.Kids 0).Attrs (nth p.Kids 1).Attrs (nth p.Kids 1).Attrs.length))) 13 (tV (.func (.func 124) #[] #[]))) 14 (d6 kvS (rSl (rSl rValue)) (byM (rigJ (nth p.Kids 0).Attrs (nth p.Kids 1).Attrs (nth p.Kids 1).Attrs.length) (resJ (nth p.Kids 0).Attrs (nth p.Kids 1).Attrs (nth p.Kids 1).Attrs.length) (nth l 1)))) 21 (rV.ty vo)) 96 (tSl (rSl rValue) (nth l 0))) 97 (tV (.int .i64 (nth l 0).length))) 98 (tV (.int .i64 k))) (fun ⟨k, vo⟩ => [own 45 (rSl rValue) vo (gq (byM (rigJ (nth p.Kids 0).Attrs (nth p.Kids 1).Attrs (nth p.Kids 1).Attrs.length) (resJ (nth p.Kids 0).Attrs (nth p.Kids 1).Attrs (nth p.Kids 1).Attrs.length) (nth l 1)) (lefJ (nth p.Kids 0).Attrs (nth p.Kids 1).Attrs (nth p.Kids 1).Attrs.length) ((nth l 0).take k))]) (fun ⟨k, vo⟩ => (nth l 0).length - k) (0, .slice none 0 0) (by exact Nat.zero_le _) (.u (.u (.u (SubE.upd (FT rfl) (zU))))) (FR) ?_
 rintro ⟨k, vo⟩ hkk
 try dsimp only at hkk
 refine Jr (Zs (az Sr Sr) (ab (ap ?_)))
 refine am Sr (fun h99 => ?_) (fun h99 => ?_)
 ·
  try simp only [NF] at h99
  have hlk : k < (nth l 0).length := by omega
  have hrw0 := hr0 _ (nth_mem hlk)
  have hrl0 := uf (nth p.Kids 0).Attrs (nth p.Kids 1).Attrs (nth p.Kids 1).Attrs.length
  refine av (ap (au (Jr ?_)))
  refine Zs (ae (i := k) underlying38 dt Sr Sr (by rfl) (gb (by exact hlk))) ?_
  refine Zl dt Sr (Za (ab (Jr (Zm (Zm ?_)))))
  refine Zm ?_
  refine Zs (bp (aT := [_, _]) F5 (rk (nth (nth l 0) k) (lefJ (nth p.Kids 0).Attrs (nth p.Kids 1).Attrs (nth p.Kids 1).Attrs.length) zG (fun c hc => by have := Cm c hc; omega)) ⟨Sr, Sr, trivial⟩ call124) ?_
  refine Zm (Zs (aL Sr rfl) (Zs (aL Sr rfl) (Za (Za (ab ?_)))))
  refine ap (Jr (Zm (Zs (bc Sr) (ab ?_))))
  refine am Sr (fun h110 => ?_) (fun h110 => ?_)
  ·
   try simp only [NF] at h110
   refine aV (ah (Zs (ax Sr Sr z6) (Zm (ab ?_))))
   refine ay (σ := Nat × Value) (s := (k, vo)) (k + 1, vo) zO (by show k + 1 <= _; omega) (zU) (.c zS (SPs.of (A := own 45 (rSl rValue) vo (gq (byM (rigJ (nth p.Kids 0).Attrs (nth p.Kids 1).Attrs (nth p.Kids 1).Attrs.length) (resJ (nth p.Kids 0).Attrs (nth p.Kids 1).Attrs (nth p.Kids 1).Attrs.length) (nth l 1)) (lefJ (nth p.Kids 0).Attrs (nth p.Kids 1).Attrs (nth p.Kids 1).Attrs.length) ((nth l 0).take k))) (by rw [Co hlk (by simpa using h110)])) (LSub.nil))
  try simp only [NF] at h110
  rw [if_pos h110]
  have hgl := pD (rigJ (nth p.Kids 0).Attrs (nth p.Kids 1).Attrs (nth p.Kids 1).Attrs.length) (resJ (nth p.Kids 0).Attrs (nth p.Kids 1).Attrs (nth p.Kids 1).Attrs.length) (nth l 1) (keyS (nth (nth l 0) k) (lefJ (nth p.Kids 0).Attrs (nth p.Kids 1).Attrs (nth p.Kids 1).Attrs.length))
  refine av (ap (Jr (Zm (Zm (Zs (eD (kv := kvS) (R := rSl (rSl rValue)) (z := []) (KeyT.str underlying9) underlying172 (fun w => zeroValue38 w) D8 Sr Sr) ?_)))))
  refine Zs (ag underlying38 Sr) (Zm (ab (au ?_)))
  refine aK (σ := Nat × Value) (fun ⟨u, vp⟩ => u <= (byG (byM (rigJ (nth p.Kids 0).Attrs (nth p.Kids 1).Attrs (nth p.Kids 1).Attrs.length) (resJ (nth p.Kids 0).Attrs (nth p.Kids 1).Attrs (nth p.Kids 1).Attrs.length) (nth l 1)) (keyS (nth (nth l 0) k) (lefJ (nth p.Kids 0).Attrs (nth p.Kids 1).Attrs (nth p.Kids 1).Attrs.length))).length) (fun ⟨u, vp⟩ => upd (upd (upd (upd (upd (upd (upd (upd (upd (upd (upd (upd co 6 (tV (.slice none 0 0))) 7 (tSl aO (lefJ (nth p.Kids 0).Attrs (nth p.Kids 1).Attrs (nth p.Kids 1).Attrs.length))) 13 (tV (.func (.func 124) #[] #[]))) 14 (d6 kvS (rSl (rSl rValue)) (byM (rigJ (nth p.Kids 0).Attrs (nth p.Kids 1).Attrs (nth p.Kids 1).Attrs.length) (resJ (nth p.Kids 0).Attrs (nth p.Kids 1).Attrs (nth p.Kids 1).Attrs.length) (nth l 1)))) 21 (rV.ty vp)) 23 (tSl rValue (nth (nth l 0) k))) 96 (tSl (rSl rValue) (nth l 0))) 97 (tV (.int .i64 (nth l 0).length))) 98 (tV (.int .i64 k))) 113 (tSl (rSl rValue) (byG (byM (rigJ (nth p.Kids 0).Attrs (nth p.Kids 1).Attrs (nth p.Kids 1).Attrs.length) (resJ (nth p.Kids 0).Attrs (nth p.Kids 1).Attrs (nth p.Kids 1).Attrs.length) (nth l 1)) (keyS (nth (nth l 0) k) (lefJ (nth p.Kids 0).Attrs (nth p.Kids 1).Attrs (nth p.Kids 1).Attrs.length))))) 114 (tV (.int .i64 (byG (byM (rigJ (nth p.Kids 0).Attrs (nth p.Kids 1).Attrs (nth p.Kids 1).Attrs.length) (resJ (nth p.Kids 0).Attrs (nth p.Kids 1).Attrs (nth p.Kids 1).Attrs.length) (nth l 1)) (keyS (nth (nth l 0) k) (lefJ (nth p.Kids 0).Attrs (nth p.Kids 1).Attrs (nth p.Kids 1).Attrs.length))).length))) 115 (tV (.int .i64 u))) (fun ⟨u, vp⟩ => [own 45 (rSl rValue) vp (nL (byM (rigJ (nth p.Kids 0).Attrs (nth p.Kids 1).Attrs (nth p.Kids 1).Attrs.length) (resJ (nth p.Kids 0).Attrs (nth p.Kids 1).Attrs (nth p.Kids 1).Attrs.length) (nth l 1)) (lefJ (nth p.Kids 0).Attrs (nth p.Kids 1).Attrs (nth p.Kids 1).Attrs.length) (gq (byM (rigJ (nth p.Kids 0).Attrs (nth p.Kids 1).Attrs (nth p.Kids 1).Attrs.length) (resJ (nth p.Kids 0).Attrs (nth p.Kids 1).Attrs (nth p.Kids 1).Attrs.length) (nth l 1)) (lefJ (nth p.Kids 0).Attrs (nth p.Kids 1).Attrs (nth p.Kids 1).Attrs.length) ((nth l 0).take k)) (nth (nth l 0) k) u)]) (fun ⟨u, vp⟩ => (byG (byM (rigJ (nth p.Kids 0).Attrs (nth p.Kids 1).Attrs (nth p.Kids 1).Attrs.length) (resJ (nth p.Kids 0).Attrs (nth p.Kids 1).Attrs (nth p.Kids 1).Attrs.length) (nth l 1)) (keyS (nth (nth l 0) k) (lefJ (nth p.Kids 0).Attrs (nth p.Kids 1).Attrs (nth p.Kids 1).Attrs.length))).length - u) (0, vo) (by exact Nat.zero_le _) (zU) (.c zS (SPs.of (A := own 45 (rSl rValue) vo (gq (byM (rigJ (nth p.Kids 0).Attrs (nth p.Kids 1).Attrs (nth p.Kids 1).Attrs.length) (resJ (nth p.Kids 0).Attrs (nth p.Kids 1).Attrs (nth p.Kids 1).Attrs.length) (nth l 1)) (lefJ (nth p.Kids 0).Attrs (nth p.Kids 1).Attrs (nth p.Kids 1).Attrs.length) ((nth l 0).take k))) (by simp [nL])) (LSub.nil)) ?_
  rintro ⟨u, vp⟩ hu
  try dsimp only at hu
  refine Jr (Zs (az Sr Sr) (ab (ap ?_)))
  refine am Sr (fun h116 => ?_) (fun h116 => ?_)
  ·
   try simp only [NF] at h116
   have hlu : u < (byG (byM (rigJ (nth p.Kids 0).Attrs (nth p.Kids 1).Attrs (nth p.Kids 1).Attrs.length) (resJ (nth p.Kids 0).Attrs (nth p.Kids 1).Attrs (nth p.Kids 1).Attrs.length) (nth l 1)) (keyS (nth (nth l 0) k) (lefJ (nth p.Kids 0).Attrs (nth p.Kids 1).Attrs (nth p.Kids 1).Attrs.length))).length := by omega
   have hob := yp (u := u) ha hb hl0 hl1 hr0 hlk
   have hbr := sW (nth_mem hlu)
   have hrl2 := lE (nth p.Kids 0).Attrs (nth p.Kids 1).Attrs (nth p.Kids 1).Attrs.length
   refine av (ap (au (Jr ?_)))
   refine Zs (ae (i := u) underlying38 dt Sr Sr (by rfl) (gb (by exact hlu))) ?_
   refine Zl dt Sr (Za (ab (ah (Zm (Zm ?_)))))
   refine Zm ?_
   refine Zs (aB (ys := [_, _]) underlying38 lS ⟨rfl, Sr, rfl, Sr, trivial⟩ rfl (by decide)) ?_
   refine Zx (aR (FN _) (rh [(nth (nth l 0) k), nth (byG (byM (rigJ (nth p.Kids 0).Attrs (nth p.Kids 1).Attrs (nth p.Kids 1).Attrs.length) (resJ (nth p.Kids 0).Attrs (nth p.Kids 1).Attrs (nth p.Kids 1).Attrs.length) (nth l 1)) (keyS (nth (nth l 0) k) (lefJ (nth p.Kids 0).Attrs (nth p.Kids 1).Attrs (nth p.Kids 1).Attrs.length))) u] (by simp) (by simp; omega)) ⟨Sr, trivial⟩ call126) fun v123 => ?_
   refine aN (t := 123) (A' := tSl rValue ((nth (nth l 0) k) ++ nth (byG (byM (rigJ (nth p.Kids 0).Attrs (nth p.Kids 1).Attrs (nth p.Kids 1).Attrs.length) (resJ (nth p.Kids 0).Attrs (nth p.Kids 1).Attrs (nth p.Kids 1).Attrs.length) (nth l 1)) (keyS (nth (nth l 0) k) (lefJ (nth p.Kids 0).Attrs (nth p.Kids 1).Attrs (nth p.Kids 1).Attrs.length))) u)) (Sel.take (FN _)) (Gi (by simp)) ?_
   refine Zs (aB (ys := [_]) underlying38 lS ⟨rfl, Sr, trivial⟩ rfl (by decide)) ?_
   refine Zx (aH underlying38 lS Sr Sr zS (by simp; omega) (by simp; omega)) fun v125 => ?_
   refine Za (ab (ah (Zs (ax Sr Sr z6) (Zm (ab ?_)))))
   refine ay (σ := Nat × Value) (s := (u, vp)) (u + 1, v125) zO (by show u + 1 <= _; omega) (zU) (.c zS (SPs.of (A := own 45 (rSl rValue) v125 ((nL (byM (rigJ (nth p.Kids 0).Attrs (nth p.Kids 1).Attrs (nth p.Kids 1).Attrs.length) (resJ (nth p.Kids 0).Attrs (nth p.Kids 1).Attrs (nth p.Kids 1).Attrs.length) (nth l 1)) (lefJ (nth p.Kids 0).Attrs (nth p.Kids 1).Attrs (nth p.Kids 1).Attrs.length) (gq (byM (rigJ (nth p.Kids 0).Attrs (nth p.Kids 1).Attrs (nth p.Kids 1).Attrs.length) (resJ (nth p.Kids 0).Attrs (nth p.Kids 1).Attrs (nth p.Kids 1).Attrs.length) (nth l 1)) (lefJ (nth p.Kids 0).Attrs (nth p.Kids 1).Attrs (nth p.Kids 1).Attrs.length) ((nth l 0).take k)) (nth (nth l 0) k) u) ++ [(nth (nth l 0) k) ++ nth (byG (byM (rigJ (nth p.Kids 0).Attrs (nth p.Kids 1).Attrs (nth p.Kids 1).Attrs.length) (resJ (nth p.Kids 0).Attrs (nth p.Kids 1).Attrs (nth p.Kids 1).Attrs.length) (nth l 1)) (keyS (nth (nth l 0) k) (lefJ (nth p.Kids 0).Attrs (nth p.Kids 1).Attrs (nth p.Kids 1).Attrs.length))) u])) (by rw [ym hlu])) (LSub.nil))
  try simp only [NF] at h116
  obtain rfl : u = (byG (byM (rigJ (nth p.Kids 0).Attrs (nth p.Kids 1).Attrs (nth p.Kids 1).Attrs.length) (resJ (nth p.Kids 0).Attrs (nth p.Kids 1).Attrs (nth p.Kids 1).Attrs.length) (nth l 1)) (keyS (nth (nth l 0) k) (lefJ (nth p.Kids 0).Attrs (nth p.Kids 1).Attrs (nth p.Kids 1).Attrs.length))).length := by omega
  have hob := yp (u := (byG (byM (rigJ (nth p.Kids 0).Attrs (nth p.Kids 1).Attrs (nth p.Kids 1).Attrs.length) (resJ (nth p.Kids 0).Attrs (nth p.Kids 1).Attrs (nth p.Kids 1).Attrs.length) (nth l 1)) (keyS (nth (nth l 0) k) (lefJ (nth p.Kids 0).Attrs (nth p.Kids 1).Attrs (nth p.Kids 1).Attrs.length))).length) ha hb hl0 hl1 hr0 hlk
  refine aV (Jr (Zm ?_))
  refine Zs (bC underlying38 Sr zS) ?_
  refine Zs (bj Sr Sr) (ab ?_)
  refine am Sr (fun h129 => ?_) (fun h129 => ?_)
  ·
   try simp only [NF] at h129
   refine ah (Zm ?_)
   refine aN (t := 130) (A' := tSl (rSl rValue) (nL (byM (rigJ (nth p.Kids 0).Attrs (nth p.Kids 1).Attrs (nth p.Kids 1).Attrs.length) (resJ (nth p.Kids 0).Attrs (nth p.Kids 1).Attrs (nth p.Kids 1).Attrs.length) (nth l 1)) (lefJ (nth p.Kids 0).Attrs (nth p.Kids 1).Attrs (nth p.Kids 1).Attrs.length) (gq (byM (rigJ (nth p.Kids 0).Attrs (nth p.Kids 1).Attrs (nth p.Kids 1).Attrs.length) (resJ (nth p.Kids 0).Attrs (nth p.Kids 1).Attrs (nth p.Kids 1).Attrs.length) (nth l 1)) (lefJ (nth p.Kids 0).Attrs (nth p.Kids 1).Attrs (nth p.Kids 1).Attrs.length) ((nth l 0).take k)) (nth (nth l 0) k) (byG (byM (rigJ (nth p.Kids 0).Attrs (nth p.Kids 1).Attrs (nth p.Kids 1).Attrs.length) (resJ (nth p.Kids 0).Attrs (nth p.Kids 1).Attrs (nth p.Kids 1).Attrs.length) (nth l 1)) (keyS (nth (nth l 0) k) (lefJ (nth p.Kids 0).Attrs (nth p.Kids 1).Attrs (nth p.Kids 1).Attrs.length))).length)) (Sel.take (FN _)) Frz.own ?_
   refine Zx (aR (FN _) (qV (nL (byM (rigJ (nth p.Kids 0).Attrs (nth p.Kids 1).Attrs (nth p.Kids 1).Attrs.length) (resJ (nth p.Kids 0).Attrs (nth p.Kids 1).Attrs (nth p.Kids 1).Attrs.length) (nth l 1)) (lefJ (nth p.Kids 0).Attrs (nth p.Kids 1).Attrs (nth p.Kids 1).Attrs.length) (gq (byM (rigJ (nth p.Kids 0).Attrs (nth p.Kids 1).Attrs (nth p.Kids 1).Attrs.length) (resJ (nth p.Kids 0).Attrs (nth p.Kids 1).Attrs (nth p.Kids 1).Attrs.length) (nth l 1)) (lefJ (nth p.Kids 0).Attrs (nth p.Kids 1).Attrs (nth p.Kids 1).Attrs.length) ((nth l 0).take k)) (nth (nth l 0) k) (byG (byM (rigJ (nth p.Kids 0).Attrs (nth p.Kids 1).Attrs (nth p.Kids 1).Attrs.length) (resJ (nth p.Kids 0).Attrs (nth p.Kids 1).Attrs (nth p.Kids 1).Attrs.length) (nth l 1)) (keyS (nth (nth l 0) k) (lefJ (nth p.Kids 0).Attrs (nth p.Kids 1).Attrs (nth p.Kids 1).Attrs.length))).length) zG (fun r h => by have := hob.2 r h; omega)) ⟨Sr, trivial⟩ call28) fun v131 => ?_
   refine Za (ab (ah (Zs (ax Sr Sr z6) (Zm (ab ?_)))))
   refine ay (σ := Nat × Value) (s := (k, vo)) (k + 1, v131) zO (by show k + 1 <= _; omega) (zU) (.c zS (SPs.of (A := own 45 (rSl rValue) v131 (tZ (nL (byM (rigJ (nth p.Kids 0).Attrs (nth p.Kids 1).Attrs (nth p.Kids 1).Attrs.length) (resJ (nth p.Kids 0).Attrs (nth p.Kids 1).Attrs (nth p.Kids 1).Attrs.length) (nth l 1)) (lefJ (nth p.Kids 0).Attrs (nth p.Kids 1).Attrs (nth p.Kids 1).Attrs.length) (gq (byM (rigJ (nth p.Kids 0).Attrs (nth p.Kids 1).Attrs (nth p.Kids 1).Attrs.length) (resJ (nth p.Kids 0).Attrs (nth p.Kids 1).Attrs (nth p.Kids 1).Attrs.length) (nth l 1)) (lefJ (nth p.Kids 0).Attrs (nth p.Kids 1).Attrs (nth p.Kids 1).Attrs.length) ((nth l 0).take k)) (nth (nth l 0) k) (byG (byM (rigJ (nth p.Kids 0).Attrs (nth p.Kids 1).Attrs (nth p.Kids 1).Attrs.length) (resJ (nth p.Kids 0).Attrs (nth p.Kids 1).Attrs (nth p.Kids 1).Attrs.length) (nth l 1)) (keyS (nth (nth l 0) k) (lefJ (nth p.Kids 0).Attrs (nth p.Kids 1).Attrs (nth p.Kids 1).Attrs.length))).length))) (by rw [yo hlk h110]; unfold zi; rw [if_pos zG])) (LSub.nil))
  try simp only [NF] at h129
  refine av (ah (Zs (ax Sr Sr z6) (Zm (ab ?_))))
  refine ay (σ := Nat × Value) (s := (k, vo)) (k + 1, vp) zO (by show k + 1 <= _; omega) (zU) (.c zS (SPs.of (A := own 45 (rSl rValue) vp (nL (byM (rigJ (nth p.Kids 0).Attrs (nth p.Kids 1).Attrs (nth p.Kids 1).Attrs.length) (resJ (nth p.Kids 0).Attrs (nth p.Kids 1).Attrs (nth p.Kids 1).Attrs.length) (nth l 1)) (lefJ (nth p.Kids 0).Attrs (nth p.Kids 1).Attrs (nth p.Kids 1).Attrs.length) (gq (byM (rigJ (nth p.Kids 0).Attrs (nth p.Kids 1).Attrs (nth p.Kids 1).Attrs.length) (resJ (nth p.Kids 0).Attrs (nth p.Kids 1).Attrs (nth p.Kids 1).Attrs.length) (nth l 1)) (lefJ (nth p.Kids 0).Attrs (nth p.Kids 1).Attrs (nth p.Kids 1).Attrs.length) ((nth l 0).take k)) (nth (nth l 0) k) (byG (byM (rigJ (nth p.Kids 0).Attrs (nth p.Kids 1).Attrs (nth p.Kids 1).Attrs.length) (resJ (nth p.Kids 0).Attrs (nth p.Kids 1).Attrs (nth p.Kids 1).Attrs.length) (nth l 1)) (keyS (nth (nth l 0) k) (lefJ (nth p.Kids 0).Attrs (nth p.Kids 1).Attrs (nth p.Kids 1).Attrs.length))).length)) (by rw [yo hlk h110]; unfold zi; rw [if_neg zG])) (LSub.nil))
 try simp only [NF] at h99
 obtain rfl : k = (nth l 0).length := by omega
 refine aV (Jr (Zm (Za (ab (aC ?_)))))
 refine aY (rv := .tmp 6) rfl () (Sel.take (FN _)) (.tmp Sr) (Gi (by rw [List.take_length]; rfl))
def CS {X : Type} (h0 : PH) (w0 : World) (r : PH) (res : X -> Ty) (L' : X -> List SP) (φ : List PanicEntry -> Prop) (e : Ending) (w' : World) : Prop :=
 Ret h0 w0 r res L' e w' \/ ∃ ch h m, e = .panicked ch /\ φ ch /\ HL h0 w0 h w' /\ Sep h m r w'
def SpecP {X : Type} (P : Program) (f : Nat) (asT : List Ty) (L : List SP) (res : X -> Ty) (L' : X -> List SP) (φ : List PanicEntry -> Prop) : Prop :=
 ∀ (vs : List Value) (h m r : PH) (w : World), Args h asT vs -> Sep h m r w -> (stars L).p h m -> Calls P f vs.toArray w (CS h w r res L' φ)
theorem SpecP.enter {X : Type} {P : Program} {f : Nat} {fn : Func} {c : Code} {asT : List Ty} {L : List SP} {res : X -> Ty} {L' : X -> List SP} {φ : List PanicEntry -> Prop} (hf : P.funcs[f]? = some fn) (hb : fn.body = some c)
  (hn : Nat.ble asT.length fn.ntmps = true)
  (h : ∀ h0 w0 r, J ⟨P, none, fn.ntmps, [], h0, w0, r⟩ c (bodyPostM Fence.wide 0 P fn (CS h0 w0 r res L' φ)) (pX asT 0 co) L) : SpecP P f asT L res L' φ := fun vs h0 m r w ha sp st => by
 have hl := ha.length
 have hn' : asT.length <= fn.ntmps := by simpa using hn
 refine (callsIn_wide (n := 0)).1 (callsIn_of_wp_marks hf hb trivial ?_)
 refine h h0 w r _ w ⟨?_, rfl, h0, m, HL.refl, sp, st, wE ha _⟩
 simp only [Array.size_append, List.size_toArray, Array.size_replicate, hl]; omega
theorem sZ {X : Type} {P : Program} {fn : Func} {N : Nat} {h0 : PH} {w0 : World} {r : PH} {res : X -> Ty} {L' : X -> List SP} {φ : List PanicEntry -> Prop} {E : Env} {L : List SP}
  (hk : K ⟨P, none, N, [], h0, w0, r⟩ (bodyPostM Fence.wide 0 P fn (Ret h0 w0 r res L') .ret) E L) : K ⟨P, none, N, [], h0, w0, r⟩ (bodyPostM Fence.wide 0 P fn (CS h0 w0 r res L' φ) .ret) E L := fun a w p => by
 have q := hk a w p
 have hd : a.defers = [] := p.2.1
 show LeavesInM Fence.wide 0 P fn a.tmps (CS h0 w0 r res L' φ) a.defers .returning w
 have q : LeavesInM Fence.wide 0 P fn a.tmps (Ret h0 w0 r res L') a.defers .returning w := q
 rw [hd] at q ⊢
 obtain ⟨v, h1, h2⟩ := q
 exact ⟨v, h1, .inl h2⟩
def Ap : SP := ⟨fun _ _ => True, fun _ h => h⟩
def Aq (φ : List PanicEntry -> Prop) (C : Cx) (Q : Exit -> Act -> World -> Prop) (E : Env) (L : List SP) : Prop := ∀ ch, φ ch -> K C (Q (.panic ch)) E L
theorem yq {X : Type} {P : Program} {fn : Func} {N : Nat} {h0 : PH} {w0 : World} {r : PH} {res : X -> Ty} {L' : X -> List SP} {φ ψ : List PanicEntry -> Prop} {E : Env} {L : List SP} (hφ : ∀ ch, ψ ch -> φ ch) : Aq ψ ⟨P, none, N, [], h0, w0, r⟩ (bodyPostM Fence.wide 0 P fn (CS h0 w0 r res L' φ)) E L :=
 fun ch hc a w ⟨_, hd, h, m, hl, sp, _, _⟩ => by
  have hd : a.defers = [] := hd
  show LeavesInM Fence.wide 0 P fn a.tmps (CS h0 w0 r res L' φ) a.defers (.panicking ch) w
  rw [hd]
  exact .inr ⟨ch, h, m, rfl, hφ _ hc, hl, sp⟩
section
variable {X : Type} {C : Cx} {ops : Array Oper} {rest : List Oper} {Q : Exit -> Act -> World -> Prop} {E : Env} {L S R : List SP} {d ty : Nat} {pos : String} {af : Array Edge} {f : Nat} {xs : Array Operand} {ts : Array Nat} {asT : List Ty} {res : X -> Ty} {L' : X -> List SP} {φ : List PanicEntry -> Prop}
end
def rl {X : Type} (Q : Exit -> Act -> World -> Prop) (C : Cx) (o : Oper) (E : Env) (L : List SP) (A : X -> Ty) (L' : X -> List SP) : Prop :=
 ∀ a w h m, a.tmps.size = C.N -> a.defers = C.ds -> HL C.h0 C.w0 h w -> Sep h m C.r w -> (stars L).p h m -> Fr E h a ->
  ∀ (next : Act -> World -> Prop),
   (∀ x v w' h' m', HL h w h' w' -> Sep h' m' C.r w' -> (stars (L' x)).p h' m' -> (A x).p h' v -> next (a.put o.dst v) w') -> o.wpIn (Fw C.ro) 0 C.P a w next Q
theorem Step.toQ {X : Type} {Q : Exit -> Act -> World -> Prop} {C : Cx} {o : Oper} {E : Env} {L : List SP} {A : X -> Ty} {L' : X -> List SP} (s : Step C o E L A L') : rl Q C o E L A L' :=
 fun a w h m n _ l sp st fr next hk => s a w h m n l sp st fr next Q hk
theorem uh {X : Type} {C : Cx} {ops : Array Oper} {o : Oper} {rest : List Oper} {Q : Exit -> Act -> World -> Prop} {E : Env} {L : List SP} {A : X -> Ty} {L' : X -> List SP} {d : Nat}
  (hg : o.guard = none) (hd : o.dst = some d) (hN : Nat.blt d C.N = true) (hs : rl Q C o E L A L')
  (hk : ∀ x, JL C ops rest Q (upd E d (A x)) (L' x)) : JL C ops (o :: rest) Q E L := fun a w ⟨n, ds, h, m, l, sp, st, f⟩ => by
 refine wpListIn_plain hg fun K hK => hs a w h m n ds l sp st f K fun x v w' h' m' l' sp' st' hv => hK _ _ (hk x _ _ ⟨?_, ?_, h', m', HL.trans l l', sp', st', ?_⟩)
 · rw [hd]; simpa [Act.put] using n
 · rw [hd]; exact ds
 · rw [hd]; exact (f.mono l'.1).put (by rw [n]; simpa using hN) hv
section
variable {X : Type} {C : Cx} {Q : Exit -> Act -> World -> Prop} {E : Env} {L S R : List SP} {d : Option Nat} {ty : Nat} {pos : String} {af : Array Edge} {g : Option (Nat × Bool)} {f : Nat} {xs : Array Operand} {ts : Array Nat} {asT : List Ty} {res : X -> Ty} {L' : X -> List SP} {φ : List PanicEntry -> Prop}
theorem kO (sel : Sel L S R) (sp : SpecP C.P f asT S res L' φ) (ha : ArgsE E xs.toList asT) (he : ∀ args w, (callFunc f args).run C.P w = .ok (.enter f args) w) (hQ : Aq φ C Q E (Ap :: R)) :
  rl Q C ⟨d, .call { callee := .value (.func f), args := xs, argTypes := ts }, ty, pos, af, g⟩ E L res (fun x => L' x ++ R) := fun a w h m n ds l se st fr next hk => by
 obtain ⟨m1, m2, d12, rfl, s1, s2⟩ := sel.stars.1 st
 have hA := ha.args fr
 have hd := PH.disj_join'.1 se.hm
 have hr := PH.disj_join.1 se.mr
 have hc := sp _ h m1 (m2.join C.r) w hA ⟨(by first | exact Sep.inv (by assumption) | exact Inv.mono (FM _ _) (Sep.inv (by assumption))), hd.1, PH.disj_join'.2 ⟨hd.2, se.hr⟩, PH.disj_join'.2 ⟨d12, hr.1⟩, se.hw, fun b o e => se.mw _ _ (FM _ _ _ _ e),
  FW (fun b o e => se.mw _ _ (FO d12 _ _ e)) se.rw⟩ s1
 refine ⟨fun _ _ => trivial, ?_⟩
 rw [Fw_round, Oper.semAt_eq _ _ _ (by intro c h; cases h)]
 have hrun : (execOp a.eval ⟨d, .call { callee := .value (.func f), args := xs, argTypes := ts }, ty, pos, af, g⟩).run C.P w = .ok (.enter f (xs.toList.map a.eval).toArray) w := by
  simp only [execOp, resolve, show a.eval (.func f) = .func (.func f) #[] #[] from rfl, Deferred.ofValue]
  simp [invoke, he]
  rw [<- Array.toList_map]
 rw [hrun]
 refine ⟨by simp, (callsIn_wide (n := 0 - 1)).2 (hc.mono ?_)⟩
 rintro e w' (⟨x, v, h', m', rfl, l', se', st', hv⟩ | ⟨ch, h', m', rfl, hφ, l', se'⟩)
 · have e1 := PH.disj_join'.1 se'.hr
   have e2 := PH.disj_join'.1 se'.mr
   exact hk x v w' h' (m'.join m2) l' ⟨(by first | exact Sep.inv (by assumption) | exact Inv.mono (FM _ _) (Sep.inv (by assumption))), PH.disj_join'.2 ⟨se'.hm, e1.1⟩, e1.2, PH.disj_join.2 ⟨e2.2, hr.2⟩, se'.hw, FW se'.mw (fun b o e => se'.rw _ _ (FM _ _ _ _ e)), fun b o e => se'.rw _ _ (FO hr.2 _ _ e)⟩
    (cj.2 ⟨m', m2, e2.1, rfl, st', by
     have : (stars R).p h' m2 := (stars R).mono l'.1 s2
     exact this⟩) hv
 · have e1 := PH.disj_join'.1 se'.hr
   have e2 := PH.disj_join'.1 se'.mr
   exact hQ ch hφ a w' ⟨n, ds, h', m'.join m2, HL.trans l l', ⟨(by first | exact Sep.inv (by assumption) | exact Inv.mono (FM _ _) (Sep.inv (by assumption))), PH.disj_join'.2 ⟨se'.hm, e1.1⟩, e1.2, PH.disj_join.2 ⟨e2.2, hr.2⟩, se'.hw, FW se'.mw (fun b o e => se'.rw _ _ (FM _ _ _ _ e)), fun b o e => se'.rw _ _ (FO hr.2 _ _ e)⟩, ⟨m', m2, e2.1, rfl, trivial, (stars R).mono l'.1 s2⟩, fr.mono l'.1⟩
theorem s4 {x : Operand} {aT As : List Ty} (hx : Sub (opTy E x) (eZ f As)) (sel : Sel L S R) (sp : SpecP C.P f (aT ++ As) S res L' φ) (ha : ArgsE E xs.toList aT) (he : ∀ args w, (callFunc f args).run C.P w = .ok (.enter f args) w) (hQ : Aq φ C Q E (Ap :: R)) :
  rl Q C ⟨d, .call { callee := .value x, args := xs, argTypes := ts }, ty, pos, af, g⟩ E L res (fun x => L' x ++ R) := fun a w h m n ds l se st fr next hk => by
 obtain ⟨m1, m2, d12, rfl, s1, s2⟩ := sel.stars.1 st
 obtain ⟨cap, hv, hcap⟩ := fr.get hx
 have hA := (ha.args fr).append hcap
 have hd := PH.disj_join'.1 se.hm
 have hr := PH.disj_join.1 se.mr
 have hc := sp _ h m1 (m2.join C.r) w hA ⟨(by first | exact Sep.inv (by assumption) | exact Inv.mono (FM _ _) (Sep.inv (by assumption))), hd.1, PH.disj_join'.2 ⟨hd.2, se.hr⟩, PH.disj_join'.2 ⟨d12, hr.1⟩, se.hw, fun b o e => se.mw _ _ (FM _ _ _ _ e),
  FW (fun b o e => se.mw _ _ (FO d12 _ _ e)) se.rw⟩ s1
 refine ⟨fun _ _ => trivial, ?_⟩
 rw [Fw_round, Oper.semAt_eq _ _ _ (by intro c h; cases h)]
 have hrun : (execOp a.eval ⟨d, .call { callee := .value x, args := xs, argTypes := ts }, ty, pos, af, g⟩).run C.P w = .ok (.enter f (xs.toList.map a.eval ++ cap).toArray) w := by
  simp only [execOp, resolve, hv, Deferred.ofValue]
  simp [invoke, he]
 rw [hrun]
 refine ⟨by simp, (callsIn_wide (n := 0 - 1)).2 (hc.mono ?_)⟩
 rintro e w' (⟨x, v, h', m', rfl, l', se', st', hv⟩ | ⟨ch, h', m', rfl, hφ, l', se'⟩)
 · have e1 := PH.disj_join'.1 se'.hr
   have e2 := PH.disj_join'.1 se'.mr
   exact hk x v w' h' (m'.join m2) l' ⟨(by first | exact Sep.inv (by assumption) | exact Inv.mono (FM _ _) (Sep.inv (by assumption))), PH.disj_join'.2 ⟨se'.hm, e1.1⟩, e1.2, PH.disj_join.2 ⟨e2.2, hr.2⟩, se'.hw, FW se'.mw (fun b o e => se'.rw _ _ (FM _ _ _ _ e)), fun b o e => se'.rw _ _ (FO hr.2 _ _ e)⟩
    (cj.2 ⟨m', m2, e2.1, rfl, st', by
     have : (stars R).p h' m2 := (stars R).mono l'.1 s2
     exact this⟩) hv
 · have e1 := PH.disj_join'.1 se'.hr
   have e2 := PH.disj_join'.1 se'.mr
   exact hQ ch hφ a w' ⟨n, ds, h', m'.join m2, HL.trans l l', ⟨(by first | exact Sep.inv (by assumption) | exact Inv.mono (FM _ _) (Sep.inv (by assumption))), PH.disj_join'.2 ⟨se'.hm, e1.1⟩, e1.2, PH.disj_join.2 ⟨e2.2, hr.2⟩, se'.hw, FW se'.mw (fun b o e => se'.rw _ _ (FM _ _ _ _ e)), fun b o e => se'.rw _ _ (FO hr.2 _ _ e)⟩, ⟨m', m2, e2.1, rfl, trivial, (stars R).mono l'.1 s2⟩, fr.mono l'.1⟩
end
theorem uj {C : Cx} {ops : Array Oper} {rest : List Oper} {Q : Exit -> Act -> World -> Prop} {E : Env} {L : List SP} {x : Operand} {ty : Nat} {pos : String} {af : Array Edge} {t : TypeId} {v : Value}
  (hx : Sub (opTy E x) (tV (.iface t v))) (hk : K C (Q (.panic [{ v := .iface t v, recovered := false }])) E L) : JL C ops (⟨none, .panic x, ty, pos, af, none⟩ :: rest) Q E L := fun a w p => by
 refine wpListIn_plain rfl fun K hK => ⟨fun _ _ => trivial, ?_⟩
 obtain ⟨n, ds, h, m, l, sp, st, fr⟩ := p
 have hv : a.eval x = .iface t v := fr.get hx
 rw [Fw_round, Oper.semAt_eq _ _ _ (by intro c h; cases h)]
 have hr : (execOp a.eval ⟨none, .panic x, ty, pos, af, none⟩).run C.P w = .halt (.panic (.iface t v)) w := by
  show (do pure (.value (<- Instr.panic (a.eval x))) : Sem Next).run C.P w = _
  rw [hv]; rfl
 rw [hr]
 exact hk a w ⟨n, ds, h, m, l, sp, st, fr⟩
def Bh (b : Prop) (ch : List PanicEntry) : Prop := b /\ ∃ e : Int, e ≠ 0 /\ ch = [{ v := .iface 40 (.int .i64 e), recovered := false }]
def JP (Q : Exit -> Act -> World -> Prop) (C : Cx) (ops : Array Oper) (k : Env -> List SP -> Prop) : List It -> Env -> List SP -> Prop
 | [], E, L => k E L
 | ⟨i, ts, true⟩ :: its, E, L => ∃ o A, ops[i]? = some o /\ ltO o.dst C.N = true /\ (∀ L, StepG C ops o (cc ts E) L A) /\ JP Q C ops k its (kf E o.dst A) L
 | ⟨i, ts, false⟩ :: its, E, L => ∃ o, ops[i]? = some o /\ ltO o.dst C.N = true ∧
   ((∃ A, StepG C ops o (cc ts E) L A /\ JP Q C ops k its (kf E o.dst A) L) ∨
    ∃ (X : Type) (A : X -> Ty) (L' : X -> List SP), WantX ops o (cc ts E) /\ rl Q C o (cc ts E) L A L' /\ ∀ x, JP Q C ops k its (kf E o.dst (A x)) (L' x))
section
variable {Q : Exit -> Act -> World -> Prop} {C : Cx} {ops : Array Oper} {k : Env -> List SP -> Prop} {its : List It} {E : Env} {L : List SP} {i : Nat} {ts : List Nat} {o : Oper}
theorem Bi (h : k E L) : JP Q C ops k [] E L := h
theorem cJ {A : Ty} {d : Nat} (ho : ops.toList[i]? = some o) (hg : o.guard = none) (hd : o.dst = some d) (hN : Nat.blt d C.N = true) (hs : ∀ L, a8 C o (cc ts E) L A)
  (hk : JP Q C ops k its (upd E d A) L) : JP Q C ops k (⟨i, ts, true⟩ :: its) E L :=
 ⟨o, A, by simpa using ho, by rw [hd]; exact hN, fun L => .inl ⟨hg, hs L⟩, by rw [hd]; exact hk⟩
theorem j4 {X : Type} {A : X -> Ty} {L' : X -> List SP} {d : Nat} (ho : ops.toList[i]? = some o) (hg : o.guard = none) (hd : o.dst = some d) (hN : Nat.blt d C.N = true) (hs : Step C o (cc ts E) L A L')
  (hk : ∀ x, JP Q C ops k its (upd E d (A x)) (L' x)) : JP Q C ops k (⟨i, ts, false⟩ :: its) E L :=
 ⟨o, by simpa using ho, by rw [hd]; exact hN, .inr ⟨X, A, L', .inl hg, hs.toQ, fun x => by rw [hd]; exact hk x⟩⟩
theorem ul {X : Type} {A : X -> Ty} {L' : X -> List SP} {d : Nat} (ho : ops.toList[i]? = some o) (hg : o.guard = none) (hd : o.dst = some d) (hN : Nat.blt d C.N = true) (hs : rl Q C o (cc ts E) L A L')
  (hk : ∀ x, JP Q C ops k its (upd E d (A x)) (L' x)) : JP Q C ops k (⟨i, ts, false⟩ :: its) E L :=
 ⟨o, by simpa using ho, by rw [hd]; exact hN, .inr ⟨X, A, L', .inl hg, hs, fun x => by rw [hd]; exact hk x⟩⟩
end
theorem yr {Q : Exit -> Act -> World -> Prop} {C : Cx} {ops : Array Oper} {k : Env -> List SP -> Prop} : ∀ {l1 : List It} {b : It} {l2 : List It} {E : Env} {L : List SP}, (∀ a ∈ l1, a.free = true) ->
  (∀ a ∈ l1, dO (fx ops.toList a) (fx ops.toList b) = true) -> (∀ a ∈ l1, a.i ∉ bJ ops.toList b.i) -> JP Q C ops k (l1 ++ b :: l2) E L -> JP Q C ops k (b :: (l1 ++ l2)) E L
 | [], _, _, _, _, _, _, _, h => h
 | ⟨ia, ta, fa⟩ :: l1, ⟨ib, tb, fb⟩, l2, E, L, hf, hp, hn, h => by
   have hfa : fa = true := hf ⟨ia, ta, fa⟩ (by simp)
   subst hfa
   obtain ⟨oa, A, ha, hla, hsa, hk⟩ := h
   have ih := yr (fun a m => hf a (by simp [m])) (fun a m => hp a (by simp [m])) (fun a m => hn a (by simp [m])) hk
   have hpair := hp ⟨ia, ta, true⟩ (by simp)
   have hna := hn ⟨ia, ta, true⟩ (by simp)
   have hda : cT ops.toList ia = oa.dst := by simp [cT, ha]
   have hpair' : inO oa.dst tb = false /\ inO (cT ops.toList ib) ta = false /\ eqO oa.dst (cT ops.toList ib) = false := by
    simp only [dO, fx, hda, Bool.and_eq_true, Bool.or_eq_true, Bool.not_eq_true', cM] at hpair
    rcases hpair.2 with q | q
    · exact absurd q hna
    · exact ⟨q.1.1, q.1.2, q.2⟩
   obtain ⟨p1, p2, p3⟩ := hpair'
   cases fb with
   | true =>
     obtain ⟨ob, B, hb, hlb, hsb, hkb⟩ := ih
     have hdb : cT ops.toList ib = ob.dst := by simp [cT, hb]
     rw [hdb] at p2 p3
     refine ⟨ob, B, hb, hlb, fun L => (hsb L).same (bg p1), oa, A, ha, hla, fun L => (hsa L).same (bg p2).symm, ?_⟩
     rw [cD p3] at hkb
     exact hkb
   | false =>
     obtain ⟨ob, hb, hlb, hcase⟩ := ih
     have hdb : cT ops.toList ib = ob.dst := by simp [cT, hb]
     rw [hdb] at p2 p3
     refine ⟨ob, hb, hlb, ?_⟩
     rcases hcase with ⟨B, hsb, hkb⟩ | ⟨X, B, L', hgb, hsb, hkb⟩
     · left
       refine ⟨B, hsb.same (bg p1), oa, A, ha, hla, fun L => (hsa L).same (bg p2).symm, ?_⟩
       rw [cD p3] at hkb
       exact hkb
     · right
       rw [bg p1] at hsb hgb
       refine ⟨X, B, L', hgb, hsb, fun x => ⟨oa, A, ha, hla, fun L => (hsa L).same (bg p2).symm, ?_⟩⟩
       have := hkb x
       rw [cD p3] at this
       exact this
theorem Ar {C : Cx} {ops : Array Oper} {Q : Exit -> Act -> World -> Prop} : ∀ (fuel : Nat) (its : List It) (listed : Array Bool) (E : Env) (L : List SP), its.length <= fuel -> listed.size = ops.size ->
  (∀ i, i < ops.size -> (listed.getD i true = false ↔ ∃ x ∈ its, x.i = i)) -> dy (its.map (fx ops.toList)) = true -> (∀ x ∈ its, x.i < ops.size /\ ∀ e ∈ bJ ops.toList x.i, e < x.i) ->
  JP Q C ops (fun E' L' => K C (Q .normal) E' L') its E L -> K C (fun a w => wpAnyIn (Fw C.ro) 0 C.P .any ops Q fuel listed a w) E L := by
 intro fuel
 induction fuel with
 | zero =>
   intro its listed E L hlen hsz hin _ _ hJ
   have : its = [] := List.length_eq_zero_iff.1 (by omega)
   subst this
   intro a w p
   refine ⟨?_, hJ a w p⟩
   rw [List.eq_nil_iff_forall_not_mem]
   intro i hi
   obtain ⟨h1, h2, _⟩ := cu.1 hi
   obtain ⟨x, hx, _⟩ := (hin i h1).1 h2
   cases hx
 | succ fuel ih =>
   intro its listed E L hlen hsz hin hok hlt hJ
   -- if nothing is ready, nothing is left
   have hdone : Region.ready .any ops listed = [] -> its = [] := by
    intro hr
    have hall : ∀ i, i < ops.size -> listed.getD i true = true := by
     intro i
     induction i using Nat.strongRecOn with
     | _ i ihi =>
       intro hi
       cases hl : listed.getD i true with
       | true => rfl
       | false =>
         have ho : ops[i]? = some ops[i] := Array.getElem?_eq_getElem hi
         obtain ⟨x, hx, hxi⟩ := (hin i hi).1 hl
         have h1 := (hlt x hx).2
         rw [hxi] at h1
         have hm : i ∈ Region.ready .any ops listed := cu.2 ⟨hi, hl, _, ho, fun e he => by
          have he' : e < i := h1 e (by simpa [bJ, hi] using he)
          rw [dF (by omega) false true]
          exact ihi e he' (by omega)⟩
         rw [hr] at hm; cases hm
    match its with
    | [] => rfl
    | x :: _ =>
      have h1 := (hlt x (by simp)).1
      have := (hin x.i h1).2 ⟨x, by simp, rfl⟩
      rw [hall x.i h1] at this; cases this
   intro a w p
   refine ⟨fun hr => ?_, fun i hi => ?_⟩
   · have := hdone hr
     subst this
     exact hJ a w p
   · obtain ⟨hlti, hnl, o, ho, haft⟩ := cu.1 hi
     obtain ⟨b, hb, hbi⟩ := (hin i hlti).1 hnl
     obtain ⟨l1, l2, rfl⟩ := List.append_of_mem hb
     have hoi : ops.toList[b.i]? = some o := by rw [hbi]; simpa using ho
     have haft' : bJ ops.toList b.i = aftN o := by simp only [bJ, hoi]
     -- what is left is not listed
     have hleft : ∀ x ∈ l1 ++ b :: l2, x.i ∉ bJ ops.toList b.i := fun x hx hm => by
      rw [haft'] at hm
      have h1 := haft _ hm
      have h2 := (hlt x hx).1
      have h3 := (hin x.i h2).2 ⟨x, hx, rfl⟩
      rw [dF (by omega) true false, h1] at h3; cases h3
     rw [List.map_append, List.map_cons] at hok
     have hpair : ∀ a ∈ l1, dO (fx ops.toList a) (fx ops.toList b) = true := fun a ha => iy hok _ (List.mem_map_of_mem ha)
     have hfree : ∀ a ∈ l1, a.free = true := fun x hx => by
      obtain ⟨y, z, rfl⟩ := List.append_of_mem hx
      have ht := ki hok (y.map (fx ops.toList)) (z.map (fx ops.toList)) (fx ops.toList x) (by simp)
      simp only [pY, Bool.or_eq_true, List.all_eq_true, List.any_eq_true] at ht
      rcases ht with ht | ht
      · exact ht
      · rcases ht (fx ops.toList b) (by simp) with q | ⟨r, hr, p, hp, hq⟩
        · exact absurd (cM.1 q) (hleft x (by simp))
        · have hrp := Nat.eq_of_beq_eq_true hq
          have hp' : ∃ u ∈ z ++ b :: l2, fx ops.toList u = p := by
           rcases List.mem_append.1 hp with hp | hp
           · obtain ⟨u, hu, e⟩ := List.mem_map.1 hp
             exact ⟨u, by simp [hu], e⟩
           · rcases List.mem_cons.1 hp with hp | hp
             · exact ⟨b, by simp, hp.symm⟩
             · obtain ⟨u, hu, e⟩ := List.mem_map.1 hp
               exact ⟨u, by simp [hu], e⟩
          obtain ⟨u, hu, e⟩ := hp'
          have : u.i ∉ bJ ops.toList b.i := hleft u (by
           rcases List.mem_append.1 hu with hu | hu
           · simp [hu]
           · simp only [List.mem_append]; exact .inr hu)
          rw [<- e] at hrp
          have hr' : r ∈ bJ ops.toList b.i := hr
          rw [hrp] at hr'
          exact absurd hr' this
     have hJ' := yr hfree hpair (fun a ha => hleft a (by simp [ha])) hJ
     have hsub : ∀ x ∈ l1 ++ l2, x ∈ l1 ++ b :: l2 := fun x hx => by
      rcases List.mem_append.1 hx with hx | hx <;> simp [hx]
     have hpairs : ∀ x ∈ l1 ++ l2, x.i ≠ b.i := fun x hx => by
      rcases List.mem_append.1 hx with hx | hx
      · have := hpair x hx
        simp only [dO, fx, Bool.and_eq_true, Bool.not_eq_true'] at this
        intro e; rw [e] at this; simp at this
      · have h2 : ∀ {l1 : List Pl} {b : Pl} {l2 : List Pl}, dy (l1 ++ b :: l2) = true -> dy (b :: l2) = true := by
          intro l1
          induction l1 with
          | nil => intro b l2 h; exact h
          | cons c l1 ih => intro b l2 h; simp only [List.cons_append, dy, Bool.and_eq_true] at h; exact ih h.2
        have := h2 hok
        simp only [dy, Bool.and_eq_true, List.all_eq_true] at this
        have := this.1.1 _ (List.mem_map_of_mem hx)
        simp only [dO, fx, Bool.and_eq_true, Bool.not_eq_true'] at this
        intro e; rw [e] at this; simp at this
     have rest : ∀ E' L', JP Q C ops (fun E' L' => K C (Q .normal) E' L') (l1 ++ l2) E' L' -> K C (fun a w => wpAnyIn (Fw C.ro) 0 C.P .any ops Q fuel (listed.setIfInBounds i true) a w) E' L' := by
      intro E' L' hk
      refine ih (l1 ++ l2) _ E' L' (by simp only [List.length_append, List.length_cons] at hlen ⊢; omega) (by simpa using hsz) (fun j hj => ?_) (by
       rw [List.map_append]
       exact jv hok fun x hx => (List.mem_map.1 hx).elim fun y hy => hy.2 ▸ hfree y hy.1) (fun x hx => hlt x (hsub x hx)) hk
      by_cases hji : i = j
      · subst hji
        rw [cB (by omega)]
        constructor
        · intro h; cases h
        · rintro ⟨x, hx, e⟩
          exact absurd (e.trans hbi.symm) (hpairs x hx)
      · rw [cX hji, hin j hj]
        constructor
        · rintro ⟨x, hx, e⟩
          refine ⟨x, ?_, e⟩
          rcases List.mem_append.1 hx with hx | hx
          · simp [hx]
          · rcases List.mem_cons.1 hx with rfl | hx
            · exact absurd (hbi.symm.trans e) hji
            · simp [hx]
        · rintro ⟨x, hx, e⟩
          exact ⟨x, hsub x hx, e⟩
     obtain ⟨bi, tb, fb⟩ := b
     simp only at hbi hoi
     subst hbi
     have ho' : ops[bi]? = some o := ho
     cases fb with
     | true =>
       obtain ⟨o', A, ho2, hl, hs, hk⟩ := hJ'
       rw [ho'] at ho2; cases ho2
       exact (hs L).op ho' hl (rest _ _ hk) a w p
     | false =>
       obtain ⟨o', ho2, hl, hcase⟩ := hJ'
       rw [ho'] at ho2; cases ho2
       rcases hcase with ⟨A, hs, hk⟩ | ⟨X, A, L', hg, hs, hk⟩
       · exact hs.op ho' hl (rest _ _ hk) a w p
       · obtain ⟨n, ds, h, m, l, sp, st, fr⟩ := p
         have hwt : Region.wanted o (yielded ops a.tmps) = true := hg.run (fr.sub dx)
         unfold wpOpIn
         simp only [ho']
         rw [if_pos hwt]
         exact hs a w h m n ds l sp st (fr.sub dx) _ fun x v w' h' m' l' sp' st' hv =>
          rest _ _ (hk x) _ _ ⟨by rw [gz]; exact n, by rw [ee]; exact ds, h', m', HL.trans l l', sp', st', (fr.mono l'.1).putO (by rw [n]; exact hl) hv⟩
theorem yu {C : Cx} {id : Nat} {ops : Array Oper} (its : List It) {Q : Exit -> Act -> World -> Prop} {E : Env} {L : List SP} (hmix : C.P.follows .mixedOrders = true) (hok : okM ops.toList its = true)
  (hJ : JP Q C ops (fun E' L' => K C (Q .normal) E' L') its E L) : J C (.region id ops true) Q E L := fun a w p => by
 refine wpIn_region_draw (fun t => ?_)
 simp only [Region.schedule, hmix, Bool.true_or, if_true]
 refine wpAnyIn_sound ops.size t _ a _ ?_
 simp only [okM, Bool.and_eq_true, List.all_eq_true, List.any_eq_true] at hok
 obtain ⟨⟨⟨h1, h2⟩, h3⟩, h4⟩ := hok
 have h5 : ∀ x ∈ its, x.i < ops.size := fun x hx => by have := h4 x hx; simpa using this
 have hnd : (its.map (·.i)).Nodup := by
  have : ∀ {l : List It}, dy (l.map (fx ops.toList)) = true -> (l.map (·.i)).Nodup := by
   intro l
   induction l with
   | nil => intro _; simp
   | cons x l ih =>
     intro h
     simp only [List.map_cons, dy, Bool.and_eq_true, List.all_eq_true] at h
     simp only [List.map_cons, List.nodup_cons]
     refine ⟨fun hm => ?_, ih h.2⟩
     obtain ⟨y, hy, e⟩ := List.mem_map.1 hm
     have := h.1.1 _ (List.mem_map_of_mem hy)
     simp only [dO, fx, Bool.and_eq_true, Bool.not_eq_true'] at this
     rw [e] at this; simp at this
  exact this h1
 have hlen : its.length <= ops.size := by
  have := lu hnd (n := ops.size) (fun i hi => by
   obtain ⟨x, hx, rfl⟩ := List.mem_map.1 hi
   exact h5 x hx)
  simpa using this
 refine Ar ops.size its _ E L hlen (by simp) (fun i hi => ?_) h1 (fun x hx => ⟨h5 x hx, fun e he => ?_⟩) hJ a _ ?_
 · constructor
   · intro _
     obtain ⟨x, hx, e⟩ := h3 i (by simpa using hi)
     exact ⟨x, hx, (Nat.eq_of_beq_eq_true e).symm⟩
   · intro _; simp [Array.getD_eq_getD_getElem?, hi]
 · have := h2 _ (List.mem_map_of_mem hx) e he
   simpa [fx] using this
 · obtain ⟨hsz, hds, h, m, hl, sp, st, fr⟩ := p
   exact ⟨hsz, hds, h, m, hl.trans (HL.same (Same.drew _)), ⟨(by first | exact Sep.inv (by assumption) | exact Inv.mono (FM _ _) (Sep.inv (by assumption))), sp.hm, sp.hr, sp.mr, sp.hw, sp.mw, sp.rw⟩, st, fr⟩
section
variable {C : Cx} {E : Env} {L : List SP} {d : Option Nat} {ty : Nat} {pos : String} {af : Array Edge} {g : Option (Nat × Bool)}
theorem s5 {x : Operand} {v : Value} (hP : C.P = Tryz.prog) (hx : Sub (opTy E x) (tV (.iface 40 v))) : a8 C ⟨d, .typeAssert x 20 40 false, ty, pos, af, g⟩ E L (tV v) :=
 FP (by intro c h; cases h) fun a w h hw fr => by
  refine ⟨v, ?_, rfl⟩
  have hv : a.eval x = .iface 40 v := fr.get hx
  show (do pure (.value (<- Instr.typeAssert (a.eval x) 20 40 false)) : Sem Next).run C.P w = _
  rw [hv, hP]
  kernel_rfl
end
end Lg
namespace Go.Proofs
open Go Lg
theorem recPan {b6 b7 : Nat} {x : Value} {y e : Int} {h m r : PH} {w : World} (sp : Sep h m r w) (st : (stars [box b6 38 rV x, box b7 40 aO y]).p h m) :
  CallsDIn Fence.wide 0 Tryz.prog 34 #[.pointer (some ⟨b6, 0, none⟩), .pointer (some ⟨b7, 0, none⟩)] (.panicking [{ v := .iface 40 (.int .i64 e), recovered := false }]) w fun e' u' w' =>
   e' = .returned (.tuple #[]) /\ u' = .panicking [{ v := .iface 40 (.int .i64 e), recovered := true }] /\ ∃ h' m', HL h w h' w' /\ Sep h' m' r w' /\ (stars [box b6 38 rV (.slice none 0 0), box b7 40 aO e]).p h' m' := by
 refine callsDIn_of_wpSIn Tryz.func34 rfl trivial fun c₀ cs hu => ?_
 apply wpSIn_seq
 apply wpSIn_region
 simp [wpOpsSIn, go_sem, recoverD, hu, Tryz.ntmps34, Exit.thenS]
 apply wpSIn_seq
 apply wpSIn_region
 simp [wpOpsSIn, go_sem, recoverD, hu, Tryz.ntmps34, Exit.thenS]
 refine wpSIn_cond (t := true) (by simp [Act.eval, Array.replicate]) ?_
 simp only [if_true]
 refine wpSIn_of_wpIn rfl ?_
 have hE : Fr (upd (upd (upd co 0 (tAt b6 0)) 1 (tAt b7 0)) 2 (tV (.iface 40 (.int .i64 e)))) h ⟨#[.pointer (some ⟨b6, 0, none⟩), .pointer (some ⟨b7, 0, none⟩), .iface 40 (.int .i64 e), .iface 40 (.int .i64 e), .iface 40 (.int .i64 e), .bool true, undef, undef], []⟩ := fun t => by
  by_cases h2 : t = 2
  · subst h2; rw [de]; rfl
  by_cases h1 : t = 1
  · subst h1; rw [bV _ _ (by decide), de]; rfl
  by_cases h0 : t = 0
  · subst h0; rw [bV _ _ (by decide), bV _ _ (by decide), de]; rfl
  rw [bV _ _ h2, bV _ _ h1, bV _ _ h0]; trivial
 refine bQ (C := ⟨Tryz.prog, none, 8, [], h, w, r⟩) (L := [box b6 38 rV x, box b7 40 aO y]) (E := upd (upd (upd co 0 (tAt b6 0)) 1 (tAt b7 0)) 2 (tV (.iface 40 (.int .i64 e)))) [⟨0, [2], true⟩, ⟨1, [6], true⟩, ⟨2, [0], false⟩, ⟨3, [1, 7], false⟩] rfl (by kernel_rfl) ?_ _ w ⟨rfl, rfl, h, m, HL.refl, sp, st, hE⟩
 refine oN rfl rfl rfl rfl (fun _ => ar Sub.rfl) ?_
 refine oN rfl rfl rfl rfl (fun _ => s5 rfl Sub.rfl) ?_
 refine ju rfl rfl rfl (ai (R := rV) lT Sub.rfl (FT rfl) (Sel.take (FN _))) fun _ => ?_
 refine ju rfl rfl rfl (ai (R := aO) Bd Sub.rfl Sub.rfl (Sel.skip (Sel.take (FN _)))) fun _ => ?_
 refine bP ?_
 rintro a' w' ⟨n', ds', h', m', l', sp', st', fr'⟩
 refine ⟨ds', _, rfl, .tuple #[], ?_, ?_⟩
 · simp [results, Tryz.results34]
 · refine ⟨rfl, rfl, h', l', m', sp', ?_⟩
   exact (LSub.cons (Sel.skip (Sel.take (FN _))) SPs.rfl (LSub.cons (Sel.take (FN _)) SPs.rfl LSub.nil) : LSub [box b7 40 aO e, box b6 38 rV (.slice none 0 0)] [box b6 38 rV (.slice none 0 0), box b7 40 aO e]) h' m' st'
end Go.Proofs
namespace Lg
open Go Go.Proofs Go.Proofs.Tryz
theorem wh {P : Program} {fn : Func} {N : Nat} {h0 : PH} {w0 : World} {r : PH} {RR : Ending -> World -> Prop} {E : Env} {f : Nat} {cap : List Value} {L1 L2 R : List SP} {ch ch' : List PanicEntry}
  (hi : ∀ w, (callFunc f cap.toArray).run P w = .ok (.enter f cap.toArray) w) (hs : settle (.panicking ch') = .returning)
  (hc : ∀ h m r w, Sep h m r w -> (stars L1).p h m -> CallsDIn Fence.wide 0 P f cap.toArray (.panicking ch) w fun e' u' w' => e' = .returned (.tuple #[]) /\ u' = .panicking ch' /\ ∃ h' m', HL h w h' w' /\ Sep h' m' r w' /\ (stars L2).p h' m')
  (hk : K ⟨P, none, N, [], h0, w0, r⟩ (bodyPostM Fence.wide 0 P fn RR .ret) E (L2 ++ R)) :
  K ⟨P, none, N, [⟨.fn (.func f) cap.toArray, #[]⟩], h0, w0, r⟩ (bodyPostM Fence.wide 0 P fn RR (.panic ch)) E (L1 ++ R) := fun a w ⟨n, hds, h, m, le, sp, st, fr⟩ => by
 show LeavesInM Fence.wide 0 P fn a.tmps RR a.defers (.panicking ch) w
 have hds : a.defers = _ := hds
 rw [hds]
 obtain ⟨m1, m2, d12, rfl, s1, s2⟩ := cj.1 st
 have hd := PH.disj_join'.1 sp.hm
 have hr := PH.disj_join.1 sp.mr
 refine ⟨by simp, .inr ⟨fun q => absurd q (by simp [Fence.wide]), .func f, cap.toArray, f, cap.toArray, rfl, ?_, fun _ _ => trivial, ?_⟩⟩
 · show (callFunc f (#[] ++ cap.toArray)).run P w = _
   rw [Array.empty_append]; exact hi w
 · refine (hc h m1 (m2.join r) w ⟨(by first | exact Sep.inv (by assumption) | exact Inv.mono (FM _ _) (Sep.inv (by assumption))), hd.1, PH.disj_join'.2 ⟨hd.2, sp.hr⟩, PH.disj_join'.2 ⟨d12, hr.1⟩, sp.hw, fun b o e => sp.mw _ _ (FM _ _ _ _ e),
     FW (fun b o e => sp.mw _ _ (FO d12 _ _ e)) sp.rw⟩ s1).mono ?_
   rintro e' u' w' ⟨rfl, rfl, h', m', l', se', st'⟩
   have e1 := PH.disj_join'.1 se'.hr
   have e2 := PH.disj_join'.1 se'.mr
   show LeavesInM Fence.wide 0 P fn a.tmps RR [] (settle (.panicking ch')) w'
   rw [hs]
   exact hk { a with defers := [] } _ ⟨n, rfl, h', m'.join m2, HL.trans le l', ⟨(by first | exact Sep.inv (by assumption) | exact Inv.mono (FM _ _) (Sep.inv (by assumption))), PH.disj_join'.2 ⟨se'.hm, e1.1⟩, e1.2, PH.disj_join.2 ⟨e2.2, hr.2⟩, se'.hw, FW se'.mw (fun b o e => se'.rw _ _ (FM _ _ _ _ e)), fun b o e => se'.rw _ _ (FO hr.2 _ _ e)⟩,
    cj.2 ⟨m', m2, e2.1, rfl, st', (stars R).mono l'.1 s2⟩, fr.mono l'.1⟩
theorem wi {fn : Func} {N : Nat} {h0 : PH} {w0 : World} {r : PH} {RR : Ending -> World -> Prop} {E : Env} {b6 b7 : Nat} {x : Value} {y e : Int} {R : List SP}
  (hk : K ⟨Tryz.prog, none, N, [], h0, w0, r⟩ (bodyPostM Fence.wide 0 Tryz.prog fn RR .ret) E (box b6 38 rV (.slice none 0 0) :: box b7 40 aO e :: R)) :
  K ⟨Tryz.prog, none, N, [⟨.fn (.func 34) [.pointer (some ⟨b6, 0, none⟩), .pointer (some ⟨b7, 0, none⟩)].toArray, #[]⟩], h0, w0, r⟩ (bodyPostM Fence.wide 0 Tryz.prog fn RR (.panic [{ v := .iface 40 (.int .i64 e), recovered := false }])) E (box b6 38 rV x :: box b7 40 aO y :: R) :=
 wh (L1 := [box b6 38 rV x, box b7 40 aO y]) (L2 := [box b6 38 rV (.slice none 0 0), box b7 40 aO e]) (ch' := [{ v := .iface 40 (.int .i64 e), recovered := true }]) (Tryz.call34 _) rfl (fun _ _ _ _ sp st => recPan sp st) hk
def rm (s : ByteArray) (v : GValue) : ByteArray := s ++ (eK v ++ nlB)
def cx (row : LV) : ByteArray := row.foldl rm ⟨#[]⟩
theorem wj {row : LV} {i : Nat} (h : i < row.length) : cx (row.take (i + 1)) = cx (row.take i) ++ (eK (nth row i) ++ nlB) := jm h
theorem oy : ∀ (row : LV) (s : ByteArray), (row.foldl rm s).size <= s.size + row.length * 1001
  | [], s => by simp
  | v :: row, s => by
    have h := oy row (rm s v)
    have h2 := iG v
    have h3 : nlB.size = 1 := rfl
    have h4 : (rm s v).size = s.size + ((eK v).size + nlB.size) := by unfold rm; rw [ByteArray.size_append, ByteArray.size_append]
    simp only [List.foldl_cons, List.length_cons]
    omega
theorem At (row : LV) (n : Nat) (h : row.length <= n) : (cx row).size <= n * 1001 := by
  have := oy row ⟨#[]⟩
  have h0 : (⟨#[]⟩ : ByteArray).size = 0 := rfl
  unfold cx; omega
def kP (m x : GValue) : GValue := if kJ x m < 0 then x else m
def kQ (m x : GValue) : GValue := if kJ x m > 0 then x else m
def wk (l : LV) : GValue := (l.drop 1).foldl kP (nth l 0)
def wl (l : LV) : GValue := (l.drop 1).foldl kQ (nth l 0)
theorem yv {l : LV} {i : Nat} (h : i < l.length) (h1 : 1 <= i) : (l.take (i + 1)).drop 1 = (l.take i).drop 1 ++ [nth l i] := by
  rw [di h, List.drop_append_of_le_length (by rw [List.length_take]; omega)]
theorem um {l : LV} {i : Nat} (h : i <= l.length) (h1 : 1 <= i) : nth (l.take i) 0 = nth l 0 := by
  match l, i, h1 with
  | [], i, _ => simp
  | a :: l, i + 1, _ => rfl
theorem rp {l : LV} {i : Nat} (h : i < l.length) (h1 : 1 <= i) : wk (l.take (i + 1)) = kP (wk (l.take i)) (nth l i) := by
  unfold wk; rw [yv h h1, um (by omega) (by omega), um (by omega) h1, List.foldl_append]; rfl
theorem rq {l : LV} {i : Nat} (h : i < l.length) (h1 : 1 <= i) : wl (l.take (i + 1)) = kQ (wl (l.take i)) (nth l i) := by
  unfold wl; rw [yv h h1, um (by omega) (by omega), um (by omega) h1, List.foldl_append]; rfl
theorem Au {l : LV} (h : 0 < l.length) : wk (l.take 1) = nth l 0 := by
  match l, h with
  | a :: l, _ => rfl
theorem Av {l : LV} (h : 0 < l.length) : wl (l.take 1) = nth l 0 := by
  match l, h with
  | a :: l, _ => rfl
def kR (col : Int) (l : List LV) : LV := (l.filter fun r => !decide ((nth r col.toNat).Kind = 0)).map fun r => nth r col.toNat
def eG (col : Int) (l : List LV) : Int := ((kR col l).map GValue.N).sum
def pW (p : aQ) (l : List LV) : Bool := !(decide (p.Agg = 2) && (decide (eG p.Col l < -1000000000) || decide (1000000000 < eG p.Col l)))
def pF (p : aQ) (l : List LV) : GValue :=
  if p.Agg = 1 then ⟨2, l.length, ⟨#[]⟩⟩ else if p.Agg = 2 then ⟨2, eG p.Col l, ⟨#[]⟩⟩ else if kR p.Col l = [] then ⟨0, 0, ⟨#[]⟩⟩ else if p.Agg = 3 then wk (kR p.Col l) else wl (kR p.Col l)
section
variable {col : Int} {l : List LV} {i : Nat}
theorem Bj (h : i < l.length) (hk : ¬ (nth (nth l i) col.toNat).Kind = 0) : kR col (l.take (i + 1)) = kR col (l.take i) ++ [nth (nth l i) col.toNat] := by
  unfold kR; rw [di h, List.filter_append]; simp [hk]
theorem Bk (h : i < l.length) (hk : (nth (nth l i) col.toNat).Kind = 0) : kR col (l.take (i + 1)) = kR col (l.take i) := by
  unfold kR; rw [di h, List.filter_append]; simp [hk]
theorem Cp (h : i < l.length) (hk : ¬ (nth (nth l i) col.toNat).Kind = 0) : eG col (l.take (i + 1)) = eG col (l.take i) + (nth (nth l i) col.toNat).N := by
  unfold eG; rw [Bj h hk]; simp
theorem Cq (h : i < l.length) (hk : (nth (nth l i) col.toNat).Kind = 0) : eG col (l.take (i + 1)) = eG col (l.take i) := by unfold eG; rw [Bk h hk]
theorem un : (kR col l).length <= l.length := by unfold kR; rw [List.length_map]; exact List.length_filter_le _ _
end
theorem uo (col : Int) : ∀ (l : List LV), (∀ r ∈ l, -1000000000 <= (nth r col.toNat).N /\ (nth r col.toNat).N <= 1000000000) -> -1000000000 * (l.length : Int) <= eG col l /\ eG col l <= 1000000000 * (l.length : Int)
  | [], _ => by simp [eG, kR]
  | r :: l, h => by
    have h1 := uo col l fun x hx => h x (by simp [hx])
    have h2 := h r (by simp)
    by_cases hk : (nth r col.toNat).Kind = 0
    · have e : eG col (r :: l) = eG col l := by unfold eG kR; simp [hk]
      rw [e]; simp only [List.length_cons]; omega
    · have e : eG col (r :: l) = (nth r col.toNat).N + eG col l := by unfold eG kR; simp [hk]
      rw [e]; simp only [List.length_cons]; omega
theorem yw {T : Nat} {x : Value} : Sub (tIf T (tV x)) (tV (.iface T x)) := fun h v ⟨u, e, a⟩ => by
  have a : u = x := a
  subst a; exact e
theorem oz (row : LV) (hl : row.length <= 1000000) : Fun1 prog 130 [tSl rValue row] (tV (.string (cx row))) := by
 refine Spec.enter func130 rfl rfl fun h0 w0 fr0 => ?_
 refine Jr (Za (ab (Jr (Za (ab ?_)))))
 refine ap (Jr (Zm (Zs (ag underlying45 Sr) (Zm (ab ?_)))))
 refine au ?_
 refine aK (σ := Nat) (fun i => i <= row.length) (fun i => upd (upd (upd (upd co 3 (tV (.string (cx (row.take i))))) 6 (tSl rValue row)) 7 (tV (.int .i64 row.length))) 8 (tV (.int .i64 i))) (fun i => []) (fun i => row.length - i) 0 (by exact Nat.zero_le _) (zU) (LSub.rfl) ?_
 rintro i hi
 refine Jr (Zs (az Sr Sr) (ab (ap ?_)))
 refine am Sr (fun h9 => ?_) (fun h9 => ?_)
 ·
  try simp only [NF] at h9
  have hlt : i < row.length := by omega
  have hks := At (row.take i) 1000000 (by rw [List.length_take]; omega)
  have htx := iG (nth row i)
  have hnl : (⟨#[10]⟩ : ByteArray).size = 1 := rfl
  have hts : (eK (nth row i) ++ (⟨#[10]⟩ : ByteArray)).size = (eK (nth row i)).size + 1 := by rw [ByteArray.size_append]; rfl
  refine av (ap (au (Jr ?_)))
  refine Zs (ae (i := i) underlying45 bZ Sr Sr (by rfl) (gb (by exact hlt))) ?_
  refine Zl bZ Sr ?_
  refine Zx (aE (fun w => zeroValue62 w) wz) fun v5 => ?_
  refine Ju (ai bZ Sr Sr zS) fun _ => ?_
  refine aN (t := 5) (Sel.take (FN _)) Frz.box ?_
  refine ab (ah (Zm (Zl bZ Sr (Zs (aj (rf _) ⟨Sr, trivial⟩ call125) ?_))))
  refine Zs (dl Sr Sr (by first | assumption | omega)) ?_
  refine Zs (dl Sr Sr (by first | assumption | omega)) ?_
  refine Za (ab (ah (Zs (ax Sr Sr z6) (Zm (ab ?_)))))
  refine ay (σ := Nat) (s := i) (i + 1) zO zG (.u (.u (.u (SubE.upd (Ge (by rw [wj hlt]; rfl)) SubE.any)))) (LSub.rfl)
 try simp only [NF] at h9
 obtain rfl : i = row.length := by omega
 refine aV (Jr (Zm (Za (ab (aC ?_)))))
 have e : cx row = cx (row.take row.length) := by rw [List.take_length]
 rw [e]
 exact aI (t := 2) rfl () Sr
theorem rr (l : LV) (hpos : 0 < l.length) (hl : l.length <= 1000000000) : Fun1 prog 169 [tSl rValue l, tV (.func (.func 109) #[] #[])] (rValue.ty (wk l)) := by
 refine Spec.enter func169 rfl rfl fun h0 w0 fr0 => ?_
 refine Jr ?_
 refine Zx (aE (fun w => zeroValue62 w) wz) fun b4 => ?_
 refine ab (ap (Jr (Zm (Zs (ag underlying45 Sr) (Zs (az Sr Sr) ?_)))))
 refine ab ?_
 refine am Sr (fun h9 => ?_) (fun h9 => ?_)
 ·
  try simp only [NF] at h9
  omega
 try simp only [NF] at h9
 refine av (Jr (Zm ?_))
 refine Zs (ae (i := 0) underlying45 bZ Sr Sr (by rfl) (gb (by exact hpos))) ?_
 refine Zl bZ Sr ?_
 refine Zx (aE (fun w => zeroValue62 w) wz) fun b5 => ?_
 refine Ju (ai bZ Sr Sr zS) fun _ => ?_
 refine ab (ap (Jr (Za (ab (au ?_)))))
 refine aK (σ := Nat) (fun i => 1 <= i /\ i <= l.length) (fun i => upd (upd (upd (upd (upd co 0 (tSl rValue l)) 1 (tV (.func (.func 109) #[] #[]))) 4 (tAt b4 0)) 5 (tAt b5 0)) 6 (tV (.int .i64 i))) (fun i => [box b5 62 rValue (wk (l.take i)), box b4 62 rValue c9]) (fun i => l.length - i) 1 ⟨Nat.le_refl _, hpos⟩ (zU) (.c zS (SPs.of (A := box b5 62 rValue (nth l 0)) (by rw [Au hpos])) (zL)) ?_
 rintro i ⟨h1, hi⟩
 refine ap (Jr (Zm (Zm (Zs (ag underlying45 Sr) (Zs (az Sr Sr) ?_)))))
 refine ab ?_
 refine am Sr (fun h17 => ?_) (fun h17 => ?_)
 ·
  try simp only [NF] at h17
  have hlt : i < l.length := by omega
  refine av (ap (au (ap ?_)))
  refine bQ [⟨0, [1], true⟩, ⟨1, [0], true⟩, ⟨2, [6], true⟩, ⟨3, [21, 22], true⟩, ⟨4, [23], true⟩, ⟨5, [5], false⟩, ⟨6, [20, 24, 25], true⟩, ⟨7, [26], true⟩] rfl (by kernel_rfl) ?_
  refine Zv rfl (Zv rfl (Zv rfl ?_))
  refine Zf rfl (ae (i := i) underlying45 bZ Sr Sr (by rfl) (gb (by exact hlt))) ?_
  refine Zf rfl (ad bZ Sr) ?_
  refine e8 rfl rfl rfl rfl (bb bZ Sr zS) ?_
  refine Zf rfl (bp (aT := [_, _]) F5 (fL (nth l i) (wk (l.take i))) ⟨Sr, Sr, trivial⟩ call109) (Zf rfl (az Sr Sr) (bP ?_))
  refine am Sr (fun h27 => ?_) (fun h27 => ?_)
  ·
   try simp only [NF] at h27
   refine ah (Zm (Zm ?_))
   refine Zs (ae (i := i) underlying45 bZ Sr Sr (by rfl) (gb (by exact hlt))) ?_
   refine Zl bZ Sr ?_
   refine Ju (ai bZ Sr Sr zS) fun _ => ?_
   refine ab (ah (Zm (Zs (ax Sr Sr z6) (Za (ab ?_)))))
   refine ay (σ := Nat) (s := i) (i + 1) zO ⟨by omega, by omega⟩ (zU) (.c zS (SPs.of (A := box b5 62 rValue (nth l i)) (by rw [rp hlt h1, kP, if_pos zG])) (zL))
  try simp only [NF] at h27
  refine av (ah (Zm (Zs (ax Sr Sr z6) (Za (ab ?_)))))
  refine ay (σ := Nat) (s := i) (i + 1) zO ⟨by omega, by omega⟩ (zU) (.c zS (SPs.of (A := box b5 62 rValue (wk (l.take i))) (by rw [rp hlt h1, kP, if_neg zG])) (zL))
 try simp only [NF] at h17
 obtain rfl : i = l.length := by omega
 refine aV (Jr ?_)
 refine Zs (bb bZ Sr zS) ?_
 refine Ju (ai bZ Sr Sr zS) fun _ => ?_
 refine ab (aC ?_)
 have e : wk l = wk (l.take l.length) := by rw [List.take_length]
 rw [e]
 exact aY (rv := .cell 4 62) rfl () (Sel.all _) (.cell (R := rValue) bZ Sr zS Sr) (Frz.sub Sr)
theorem s6 (l : LV) (hpos : 0 < l.length) (hl : l.length <= 1000000000) : Fun1 prog 170 [tSl rValue l, tV (.func (.func 109) #[] #[])] (rValue.ty (wl l)) := by
 refine Spec.enter func170 rfl rfl fun h0 w0 fr0 => ?_
 refine Jr ?_
 refine Zx (aE (fun w => zeroValue62 w) wz) fun b4 => ?_
 refine ab (ap (Jr (Zm (Zs (ag underlying45 Sr) (Zs (az Sr Sr) ?_)))))
 refine ab ?_
 refine am Sr (fun h9 => ?_) (fun h9 => ?_)
 ·
  try simp only [NF] at h9
  omega
 try simp only [NF] at h9
 refine av (Jr (Zm ?_))
 refine Zs (ae (i := 0) underlying45 bZ Sr Sr (by rfl) (gb (by exact hpos))) ?_
 refine Zl bZ Sr ?_
 refine Zx (aE (fun w => zeroValue62 w) wz) fun b5 => ?_
 refine Ju (ai bZ Sr Sr zS) fun _ => ?_
 refine ab (ap (Jr (Za (ab (au ?_)))))
 refine aK (σ := Nat) (fun i => 1 <= i /\ i <= l.length) (fun i => upd (upd (upd (upd (upd co 0 (tSl rValue l)) 1 (tV (.func (.func 109) #[] #[]))) 4 (tAt b4 0)) 5 (tAt b5 0)) 6 (tV (.int .i64 i))) (fun i => [box b5 62 rValue (wl (l.take i)), box b4 62 rValue c9]) (fun i => l.length - i) 1 ⟨Nat.le_refl _, hpos⟩ (zU) (.c zS (SPs.of (A := box b5 62 rValue (nth l 0)) (by rw [Av hpos])) (zL)) ?_
 rintro i ⟨h1, hi⟩
 refine ap (Jr (Zm (Zm (Zs (ag underlying45 Sr) (Zs (az Sr Sr) ?_)))))
 refine ab ?_
 refine am Sr (fun h17 => ?_) (fun h17 => ?_)
 ·
  try simp only [NF] at h17
  have hlt : i < l.length := by omega
  refine av (ap (au (ap ?_)))
  refine bQ [⟨0, [1], true⟩, ⟨1, [0], true⟩, ⟨2, [6], true⟩, ⟨3, [21, 22], true⟩, ⟨4, [23], true⟩, ⟨5, [5], false⟩, ⟨6, [20, 24, 25], true⟩, ⟨7, [26], true⟩] rfl (by kernel_rfl) ?_
  refine Zv rfl (Zv rfl (Zv rfl ?_))
  refine Zf rfl (ae (i := i) underlying45 bZ Sr Sr (by rfl) (gb (by exact hlt))) ?_
  refine Zf rfl (ad bZ Sr) ?_
  refine e8 rfl rfl rfl rfl (bb bZ Sr zS) ?_
  refine Zf rfl (bp (aT := [_, _]) F5 (fL (nth l i) (wl (l.take i))) ⟨Sr, Sr, trivial⟩ call109) (Zf rfl (bj Sr Sr) (bP ?_))
  refine am Sr (fun h27 => ?_) (fun h27 => ?_)
  ·
   try simp only [NF] at h27
   refine ah (Zm (Zm ?_))
   refine Zs (ae (i := i) underlying45 bZ Sr Sr (by rfl) (gb (by exact hlt))) ?_
   refine Zl bZ Sr ?_
   refine Ju (ai bZ Sr Sr zS) fun _ => ?_
   refine ab (ah (Zm (Zs (ax Sr Sr z6) (Za (ab ?_)))))
   refine ay (σ := Nat) (s := i) (i + 1) zO ⟨by omega, by omega⟩ (zU) (.c zS (SPs.of (A := box b5 62 rValue (nth l i)) (by rw [rq hlt h1, kQ, if_pos zG])) (zL))
  try simp only [NF] at h27
  refine av (ah (Zm (Zs (ax Sr Sr z6) (Za (ab ?_)))))
  refine ay (σ := Nat) (s := i) (i + 1) zO ⟨by omega, by omega⟩ (zU) (.c zS (SPs.of (A := box b5 62 rValue (wl (l.take i))) (by rw [rq hlt h1, kQ, if_neg zG])) (zL))
 try simp only [NF] at h17
 obtain rfl : i = l.length := by omega
 refine aV (Jr ?_)
 refine Zs (bb bZ Sr zS) ?_
 refine Ju (ai bZ Sr Sr zS) fun _ => ?_
 refine ab (aC ?_)
 have e : wl l = wl (l.take l.length) := by rw [List.take_length]
 rw [e]
 exact aY (rv := .cell 4 62) rfl () (Sel.all _) (.cell (R := rValue) bZ Sr zS Sr) (Frz.sub Sr)
def NumOk (l : List LV) : Prop := ∀ r ∈ l, ∀ c, -1000000000 <= (nth r c).N /\ (nth r c).N <= 1000000000
def oA (cols : List Int) (st : List LV × List (ByteArray × List LV)) (r : LV) : List LV × List (ByteArray × List LV) :=
  (if (byG st.2 (cx (bM r cols))).length = 0 /\ 0 < cols.length then st.1 ++ [bM r cols] else st.1, wg st.2 (cx (bM r cols)) r)
def yx (cols : List Int) : List LV := if cols.length = 0 then [[]] else []
def grM (cols : List Int) (rows : List LV) : List LV × List (ByteArray × List LV) := rows.foldl (oA cols) (yx cols, [])
def gaB (p : aQ) (rows : List LV) : Bool := (grM p.Cols rows).1.all fun k => pW p (byG (grM p.Cols rows).2 (cx k))
def gaO (p : aQ) (rows : List LV) (k : Nat) : List LV := ((grM p.Cols rows).1.take k).map fun q => q ++ [pF p (byG (grM p.Cols rows).2 (cx q))]
def gaR (p : aQ) (rows : List LV) : List LV := (grM p.Cols rows).1.map fun q => q ++ [pF p (byG (grM p.Cols rows).2 (cx q))]
theorem Aw {p : aQ} {rows : List LV} {k : Nat} (h : k < (grM p.Cols rows).1.length) : gaO p rows (k + 1) = gaO p rows k ++ [nth (grM p.Cols rows).1 k ++ [pF p (byG (grM p.Cols rows).2 (cx (nth (grM p.Cols rows).1 k)))]] := by
  unfold gaO; rw [di h, List.map_append]; rfl
theorem Cr (p : aQ) (rows : List LV) : gaO p rows (grM p.Cols rows).1.length = gaR p rows := by unfold gaO gaR; rw [List.take_length]
theorem rt (r : LV) (cols : List Int) : (bM r cols).length <= cols.length := by unfold bM iQ; split <;> simp
section
variable {cols : List Int} {l : List LV} {i : Nat}
theorem pG (h : i < l.length) : grM cols (l.take (i + 1)) = oA cols (grM cols (l.take i)) (nth l i) := jm h
theorem Cs (h : i < l.length) : (grM cols (l.take (i + 1))).2 = wg (grM cols (l.take i)).2 (cx (bM (nth l i) cols)) (nth l i) := by rw [pG h]; rfl
theorem uq (h : i < l.length) (hc : (byG (grM cols (l.take i)).2 (cx (bM (nth l i) cols))).length = 0 /\ 0 < cols.length) : (grM cols (l.take (i + 1))).1 = (grM cols (l.take i)).1 ++ [bM (nth l i) cols] := by
  rw [pG h]; show (oA cols _ _).1 = _; unfold oA; rw [if_pos hc]
theorem ur (h : i < l.length) (hc : ¬ ((byG (grM cols (l.take i)).2 (cx (bM (nth l i) cols))).length = 0 /\ 0 < cols.length)) : (grM cols (l.take (i + 1))).1 = (grM cols (l.take i)).1 := by
  rw [pG h]; show (oA cols _ _).1 = _; unfold oA; rw [if_neg hc]
end
theorem ut (cols : List Int) (rows : List LV) : (∀ k ∈ (grM cols rows).1, k.length <= cols.length) /\ (grM cols rows).1.length <= rows.length + 1 /\ ∀ q, (byG (grM cols rows).2 q).length <= rows.length /\ ∀ r ∈ byG (grM cols rows).2 q, r ∈ rows := by
  have H : ∀ i, i <= rows.length -> (∀ k ∈ (grM cols (rows.take i)).1, k.length <= cols.length) /\ (grM cols (rows.take i)).1.length <= i + 1 /\ ∀ q, (byG (grM cols (rows.take i)).2 q).length <= i /\ ∀ r ∈ byG (grM cols (rows.take i)).2 q, r ∈ rows := by
    intro i
    induction i with
    | zero =>
      intro _
      refine ⟨fun k hk => ?_, ?_, fun q => ⟨by simp [grM, byG, mget], fun r hr => by simp [grM, byG, mget] at hr⟩⟩
      · have : k ∈ yx cols := hk
        unfold yx at this; split at this
        · rw [List.mem_singleton.1 this]; simp
        · cases this
      · show (yx cols).length <= 1
        unfold yx; split <;> simp
    | succ i ih =>
      intro hi
      obtain ⟨h1, h2, h3⟩ := ih (by omega)
      have e2 := Cs (cols := cols) (l := rows) (i := i) (by omega)
      refine ⟨fun k hk => ?_, ?_, fun q => ?_⟩
      · by_cases hc : (byG (grM cols (rows.take i)).2 (cx (bM (nth rows i) cols))).length = 0 /\ 0 < cols.length
        · rw [uq (by omega) hc] at hk
          rcases List.mem_append.1 hk with hk | hk
          · exact h1 k hk
          · rw [List.mem_singleton.1 hk]; exact rt _ _
        · rw [ur (by omega) hc] at hk; exact h1 k hk
      · by_cases hc : (byG (grM cols (rows.take i)).2 (cx (bM (nth rows i) cols))).length = 0 /\ 0 < cols.length
        · rw [uq (by omega) hc]; simp; omega
        · rw [ur (by omega) hc]; omega
      · rw [e2, yl]
        have hb := h3 (cx (bM (nth rows i) cols))
        split
        · refine ⟨by simp; omega, fun r hr => ?_⟩
          rcases List.mem_append.1 hr with hr | hr
          · exact hb.2 r hr
          · rw [List.mem_singleton.1 hr]; exact nth_mem (by omega)
        · exact ⟨by have := (h3 q).1; omega, (h3 q).2⟩
  have := H rows.length (Nat.le_refl _)
  rwa [List.take_length] at this
theorem nM (n : Nat) (p : aQ) (l : List LV) (hl : l.length <= 4000) (hc : p.Agg ≠ 1 -> 0 <= p.Col) (hr : p.Agg ≠ 1 -> ∀ r ∈ l, p.Col < (r.length : Int)) (hN : NumOk l) : SpecP (X := PLift (pW p l = true)) prog 131 [(aX (n + 1)).ty p, tSl (rSl rValue) l] ([]) (fun _ => rValue.ty (pF p l)) (fun _ => []) (Bh (pW p l = false)) := by
  refine SpecP.enter func131 rfl rfl fun h0 w0 fr0 => ?_
  refine Jr ?_
  refine Zs (aF (R := (aX (n + 1))) Sr) ?_
  refine dr rfl rfl rfl (aE (fun w => zeroValue62 w) wz) fun b4 => ?_
  refine ab ?_
  refine ap ?_
  refine Jr ?_
  refine Zs (aa cq Sr rfl) ?_
  refine Zl ty3 Sr ?_
  refine Zs (aJ Sr Sr) ?_
  refine ab ?_
  refine am Sr (fun h12 => ?_) (fun h12 => ?_)
  · try simp only [NF] at h12
    refine Jr ?_
    refine Zm ?_
    refine Zs (ag underlying38 Sr) ?_
    refine Zs (aP (x := (⟨2, l.length, ⟨#[]⟩⟩ : GValue)) (zs := [[Value.int .i64 0], [Value.int .i64 0], [Value.string ⟨#[]⟩]]) fp (fun w => zeroValue62 w) ⟨Sr, Sr, trivial⟩ ⟨⟨Sr, rfl⟩, ⟨Sr, rfl⟩, fun _ => rfl, trivial⟩) ?_
    refine eu rfl rfl (ai bZ Sr Sr zS) fun _ => ?_
    refine ab ?_
    refine aC ?_
    have e : pF p l = ⟨2, l.length, ⟨#[]⟩⟩ := by rw [pF, if_pos h12]
    have hB : pW p l = true := by unfold pW; rw [h12]; rfl
    rw [e]
    refine sZ ?_
    exact aY (rv := .cell 4 62) rfl (PLift.up hB) (Sel.all _) (.cell (R := rValue) bZ Sr zS Sr) (Frz.sub Sr)
  · try simp only [NF] at h12
    have hc0 := hc h12
    have hr0 := hr h12
    refine av ?_
    refine Jr ?_
    refine Za ?_
    refine ab ?_
    refine Jr ?_
    refine Za ?_
    refine ab ?_
    refine ap ?_
    refine Jr ?_
    refine Zm ?_
    refine Zs (ag underlying38 Sr) ?_
    refine Zm ?_
    refine ab ?_
    refine au ?_
    refine aK (σ := Nat × Value) (fun ⟨i, vv⟩ => i <= l.length) (fun ⟨i, vv⟩ => upd (upd (upd (upd (upd (upd (upd co 2 (bx (aX (n + 1)) p)) 4 (tAt b4 0)) 5 (rV.ty vv)) 6 (tV (.int .i64 (eG p.Col (l.take i))))) 16 (tSl (rSl rValue) l)) 17 (tV (.int .i64 l.length))) 18 (tV (.int .i64 i))) (fun ⟨i, vv⟩ => [own 62 rValue vv (kR p.Col (l.take i)), box b4 62 rValue c9]) (fun ⟨i, vv⟩ => l.length - i) (0, .slice none 0 0) (by exact Nat.zero_le _) (SubE.upd Sr (SubE.upd Sr (SubE.upd Sr (SubE.upd Sr (SubE.upd (FT rfl) (SubE.upd Sr (SubE.upd Sr SubE.any))))))) (FR) ?_
    rintro ⟨i, vv⟩ hi
    try dsimp only at hi
    refine Jr ?_
    refine Zs (az Sr Sr) ?_
    refine ab ?_
    refine ap ?_
    refine am Sr (fun h19 => ?_) (fun h19 => ?_)
    · try simp only [NF] at h19
      have hlt : i < l.length := by omega
      have hri := hr0 _ (nth_mem hlt)
      have hni := hN _ (nth_mem hlt) p.Col.toNat
      have hsb := uo p.Col (l.take i) (fun r h => hN r (List.mem_of_mem_take h) _)
      rw [List.length_take] at hsb
      have hvl := un (col := p.Col) (l := l.take i)
      rw [List.length_take] at hvl
      refine av ?_
      refine ap ?_
      refine au ?_
      refine Jr ?_
      refine Zs (ae (i := i) underlying38 dt Sr Sr ?sg1 (gb ?sg2)) ?_
      case sg1 => rfl
      case sg2 => exact hlt
      refine Zl dt Sr ?_
      refine Za ?_
      refine ab ?_
      refine Jr ?_
      refine Zm ?_
      refine Zs (aa cq Sr rfl) ?_
      refine Zl ty3 Sr ?_
      refine Zs (ae (i := p.Col.toNat) underlying45 bZ Sr Sr ?sg1 (gb ?sg2)) ?_
      case sg1 => show p.Col = _; omega
      case sg2 => omega
      refine Zl bZ Sr ?_
      refine dr rfl rfl rfl (aE (fun w => zeroValue62 w) wz) fun v9 => ?_
      refine eu rfl rfl (ai bZ Sr Sr zS) fun _ => ?_
      refine aN (t := 9) (Sel.take (FN _)) Frz.box ?_
      refine ab ?_
      refine Jr ?_
      refine Zs (aa fp Sr rfl) ?_
      refine Zl ty3 Sr ?_
      refine Zs (be Sr Sr) ?_
      refine ab ?_
      refine am Sr (fun h29 => ?_) (fun h29 => ?_)
      · try simp only [NF] at h29
        refine Jr ?_
        refine Zm ?_
        refine Zl bZ Sr ?_
        refine Zs (aB (ys := [_]) underlying45 pS ⟨rfl, Sr, trivial⟩ rfl (by decide)) ?_
        refine dr rfl rfl rfl (aH underlying45 pS Sr Sr zS (by simp; omega) (by simp; omega)) fun v33 => ?_
        refine Za ?_
        refine ab ?_
        refine ah ?_
        refine Zm ?_
        refine Zs (aa fp Sr rfl) ?_
        refine Zl ty3 Sr ?_
        refine Zs (ax Sr Sr (by show iu (eG p.Col (l.take i) + (nth (nth l i) p.Col.toNat).N); unfold iu; omega)) ?_
        refine Za ?_
        refine ab ?_
        refine ah ?_
        refine Zs (ax Sr Sr ?sg1) ?_
        case sg1 => unfold iu; omega
        refine Zm ?_
        refine ab ?_
        refine ay (σ := Nat × Value) (s := (i, vv)) (i + 1, v33) (by first | omega | (dsimp only; omega) | (simp_all; omega)) (by show i + 1 <= _; omega) (SubE.upd Sr (SubE.upd Sr (SubE.upd Sr (SubE.upd (Sub.int (by rw [Cp hlt h29])) (SubE.upd Sr (SubE.upd Sr (SubE.upd Sr SubE.any))))))) (LSub.cons zS (SPs.of (A := own 62 rValue v33 (kR p.Col (l.take i) ++ [nth (nth l i) p.Col.toNat])) (by rw [Bj hlt h29])) (LSub.cons zS (SPs.rfl) (LSub.nil)))
      · try simp only [NF] at h29
        refine av ?_
        refine ah ?_
        refine Zs (ax Sr Sr ?sg1) ?_
        case sg1 => unfold iu; omega
        refine Zm ?_
        refine ab ?_
        refine ay (σ := Nat × Value) (s := (i, vv)) (i + 1, vv) (by first | omega | (dsimp only; omega) | (simp_all; omega)) (by show i + 1 <= _; omega) (SubE.upd Sr (SubE.upd Sr (SubE.upd Sr (SubE.upd (Sub.int (by rw [Cq hlt h29])) (SubE.upd Sr (SubE.upd Sr (SubE.upd Sr SubE.any))))))) (LSub.cons zS (SPs.of (A := own 62 rValue vv (kR p.Col (l.take i))) (by rw [Bk hlt h29])) (LSub.cons zS (SPs.rfl) (LSub.nil)))
    · try simp only [NF] at h19
      obtain rfl : i = l.length := by omega
      simp only [List.take_length]
      have hvl := un (col := p.Col) (l := l)
      refine aV ?_
      refine ap ?_
      refine au ?_
      refine Jr ?_
      refine Zs (aa cq Sr rfl) ?_
      refine Zl ty3 Sr ?_
      refine Zs (aJ Sr Sr) ?_
      refine Zm ?_
      refine dD rfl rfl rfl (FS Sr) rfl rfl (fun hw => ar Sr) ?_
      refine dD rfl rfl rfl (FS Sr) rfl rfl (fun hw => az (Sub.w hw) Sr) ?_
      refine dD rfl rfl rfl (FS Sr) rfl rfl (fun hw => ar (Sub.w hw)) ?_
      refine dD rfl rfl rfl (Gl Sr) rfl rfl (fun hw => ar Sr) ?_
      refine dD rfl rfl rfl (Gl Sr) rfl rfl (fun hw => bj (Sub.w hw) Sr) ?_
      refine dD rfl rfl rfl (FS Sr) rfl rfl (fun hw => aD (Sub.w hw) (Gw hw)) ?_
      refine Zs (aw Sr Sr) ?_
      refine Za ?_
      refine ab ?_
      refine am Sr (fun h39 => ?_) (fun h39 => ?_)
      · try simp only [NF] at h39
        refine ah ?_
        refine Zs (gZ underlying40 (by intro m h; cases h) Sr) ?_
        refine uj (Sub.trans Sr yw) (yq (ψ := Bh (pW p l = false)) (fun _ h => h) _ ⟨?_, 2, by decide, rfl⟩)
        unfold pW; simp only [decide_eq_true h39.1, Bool.true_and, Bool.not_eq_false', Bool.or_eq_true, decide_eq_true_eq]; exact h39.2
      · try simp only [NF] at h39
        refine Jr ?_
        refine Zs (aa cq Sr rfl) ?_
        refine Zl ty3 Sr ?_
        refine Zs (aJ Sr Sr) ?_
        refine Za ?_
        refine ab ?_
        refine am Sr (fun h52 => ?_) (fun h52 => ?_)
        · try simp only [NF] at h52
          refine Jr ?_
          refine Zm ?_
          refine Zs (aP (x := (⟨2, eG p.Col l, ⟨#[]⟩⟩ : GValue)) (zs := [[Value.int .i64 0], [Value.int .i64 0], [Value.string ⟨#[]⟩]]) fp (fun w => zeroValue62 w) ⟨Sr, Sr, trivial⟩ ⟨⟨Sr, rfl⟩, ⟨Sr, rfl⟩, fun _ => rfl, trivial⟩) ?_
          refine eu rfl rfl (ai bZ Sr Sr zS) fun _ => ?_
          refine ab ?_
          refine aC ?_
          have e : pF p l = ⟨2, eG p.Col l, ⟨#[]⟩⟩ := by rw [pF, if_neg h12, if_pos h52]
          have hB : pW p l = true := by
            have h39 : ¬ (p.Agg = 2 /\ (eG p.Col l < -1000000000 \/ 1000000000 < eG p.Col l)) := by intro q; simp_all <;> omega
            unfold pW
            rw [Bool.not_eq_true', Bool.and_eq_false_iff]
            right
            rw [Bool.or_eq_false_iff, decide_eq_false_iff_not, decide_eq_false_iff_not]
            omega
          rw [e]
          refine sZ ?_
          exact aY (rv := .cell 4 62) rfl (PLift.up hB) (Sel.all _) (.cell (R := rValue) bZ Sr zS Sr) (Frz.sub Sr)
        · try simp only [NF] at h52
          refine Jr ?_
          refine Zm ?_
          refine Zs (bC underlying45 Sr zS) ?_
          refine Zs (aJ Sr Sr) ?_
          refine Za ?_
          refine ab ?_
          refine am Sr (fun h58 => ?_) (fun h58 => ?_)
          · try simp only [NF] at h58
            refine Jr ?_
            refine Zs (aP (x := (⟨0, 0, ⟨#[]⟩⟩ : GValue)) (zs := [[Value.int .i64 0], [Value.int .i64 0], [Value.string ⟨#[]⟩]]) fp (fun w => zeroValue62 w) trivial ⟨fun _ => rfl, fun _ => rfl, fun _ => rfl, trivial⟩) ?_
            refine eu rfl rfl (ai bZ Sr Sr zS) fun _ => ?_
            refine ab ?_
            refine aC ?_
            have e : pF p l = ⟨0, 0, ⟨#[]⟩⟩ := by rw [pF, if_neg h12, if_neg h52, if_pos (List.length_eq_zero_iff.1 (by omega))]
            have hB : pW p l = true := by unfold pW; simp [h52]
            rw [e]
            refine sZ ?_
            exact aY (rv := .cell 4 62) rfl (PLift.up hB) (Sel.all _) (.cell (R := rValue) bZ Sr zS Sr) (Frz.sub Sr)
          · try simp only [NF] at h58
            have hne : (kR p.Col l) ≠ [] := fun q => h58 (by rw [q]; rfl)
            refine Jr ?_
            refine Zs (aa cq Sr rfl) ?_
            refine Zl ty3 Sr ?_
            refine Zs (aJ Sr Sr) ?_
            refine Za ?_
            refine ab ?_
            refine am Sr (fun h63 => ?_) (fun h63 => ?_)
            · try simp only [NF] at h63
              refine Jr ?_
              refine Zm ?_
              refine aN (t := 67) (A' := tSl rValue (kR p.Col l)) (Sel.take (FN _)) Frz.own ?_
              refine Zs (aj (rr (kR p.Col l) (by rcases List.length_pos_iff.2 hne with h; omega) (by omega)) ⟨Sr, Sr, trivial⟩ call169) ?_
              refine eu rfl rfl (ai bZ Sr Sr zS) fun _ => ?_
              refine ab ?_
              refine aC ?_
              have e : pF p l = wk (kR p.Col l) := by rw [pF, if_neg h12, if_neg h52, if_neg hne, if_pos h63]
              have hB : pW p l = true := by unfold pW; simp [h52]
              rw [e]
              refine sZ ?_
              exact aY (rv := .cell 4 62) rfl (PLift.up hB) (Sel.all _) (.cell (R := rValue) bZ Sr zS Sr) (Frz.sub Sr)
            · try simp only [NF] at h63
              refine av ?_
              refine Jr ?_
              refine Zm ?_
              refine aN (t := 69) (A' := tSl rValue (kR p.Col l)) (Sel.take (FN _)) Frz.own ?_
              refine Zs (aj (s6 (kR p.Col l) (by rcases List.length_pos_iff.2 hne with h; omega) (by omega)) ⟨Sr, Sr, trivial⟩ call170) ?_
              refine eu rfl rfl (ai bZ Sr Sr zS) fun _ => ?_
              refine ab ?_
              refine aC ?_
              have e : pF p l = wl (kR p.Col l) := by rw [pF, if_neg h12, if_neg h52, if_neg hne, if_neg h63]
              have hB : pW p l = true := by unfold pW; simp [h52]
              rw [e]
              refine sZ ?_
              exact aY (rv := .cell 4 62) rfl (PLift.up hB) (Sel.all _) (.cell (R := rValue) bZ Sr zS Sr) (Frz.sub Sr)
theorem Step.freeze {X : Type} {C : Cx} {o : Oper} {E : Env} {L S R : List SP} {A : X -> Ty} {L' : X -> List SP} {t : Nat} {A' : Ty} (sel : Sel L S R) (f : Frz S (E t) A') (h : Step C o (upd E t A') R A L') : Step C o E L A L' :=
 fun a w hp m n l sp st fr next Q hk => by
 obtain ⟨m1, m2, d12, rfl, s1, s2⟩ := sel.stars.1 st
 have hd := PH.disj_join'.1 sp.hm
 have hle := FM hp m1
 refine h a w (hp.join m1) m2 n (HL.trans l ⟨hle, Same.refl _⟩) (sp.freeze d12) ((stars R).mono hle s2) (fun u => ?_) next Q fun x v w' h' m' l' sp' st' hv => hk x v w' h' m' (HL.trans ⟨hle, Same.refl _⟩ l') sp' st' hv
 unfold upd
 by_cases e : Nat.beq u t = true
 · obtain rfl := Nat.eq_of_beq_eq_true e
   simp only [e, if_true]
   exact f hp m1 _ hd.1 s1 (fr u)
 · simp only [e]
   exact (E u).mono hle (fr u)
end Lg
