/- A part of the proofs of the laws of cleanselaw33 and cleanselaw36: contracts of functions that the law reaches, and facts about what they compute. -/
import Derived.Test.YtecikhenhjphfaaGreatDoorC
set_option linter.unusedVariables false
set_option linter.unusedSimpArgs false
set_option linter.unusedSectionVars false
set_option maxHeartbeats 16000000
namespace Lg
open Go Go.Proofs Go.Proofs.Tryz
structure Bst where
 P : List Gplace
 F : List Int
 T : List Int
 S : List Int
 bad : Bool
def upN (P : List Gplace) (i : Nat) : Nat := (nth P i).up.toNat
def Dh (P : List Gplace) : Nat -> Nat -> Nat
 | 0, i => i
 | f + 1, i => if upN P i = i then i else Dh P f (upN P i)
def topM (P : List Gplace) (i : Nat) : Nat := Dh P P.length i
structure POk (P : List Gplace) : Prop where
 acy : Acy (upN P) P.length
 nn : ∀ i, i < P.length -> 0 <= (nth P i).up
theorem od {α : Type} {p q : α -> Bool} {l : List α} (h : ∀ x ∈ l, p x = true -> q x = true) {y : α} (hy : y ∈ l) (h1 : p y = false) (h2 : q y = true) : l.countP p < l.countP q := by
 induction l with
 | nil => cases hy
 | cons a l ih =>
   have hle : l.countP p <= l.countP q := List.countP_mono_left fun x hx => h x (List.mem_cons_of_mem _ hx)
   rw [List.countP_cons, List.countP_cons]
   rcases List.mem_cons.1 hy with rfl | hy
   · rw [h1, h2]; simp; omega
   · have := ih (fun x hx => h x (List.mem_cons_of_mem _ hx)) hy
     by_cases ha : p a = true
     · rw [if_pos ha, if_pos (h a List.mem_cons_self ha)]; omega
     · rw [if_neg ha]; split <;> omega
theorem Acy.rank {up : Nat -> Nat} {n : Nat} (a : Acy up n) : ∃ c : Nat -> Nat, ∀ i, i < n -> c i < n /\ up i < n /\ (up i = i \/ c (up i) < c i) := by
 obtain ⟨r, hr⟩ := a
 refine ⟨fun i => (List.range n).countP fun j => decide (r j < r i), fun i hi => ⟨?_, (hr i hi).1, ?_⟩⟩
 · have h : (List.range n).countP (fun j => decide (r j < r i)) < (List.range n).countP (fun _ => true) :=
     od (fun _ _ _ => rfl) (List.mem_range.2 hi) (by simp) rfl
   rw [List.countP_true, List.length_range] at h
   exact h
 · rcases (hr i hi).2 with h | h
   · exact .inl h
   · refine .inr (od (fun x _ hx => ?_) (List.mem_range.2 (hr i hi).1) (by simp) (by simpa using h))
     simp only [decide_eq_true_eq] at hx ⊢; omega
theorem xr {P : List Gplace} {c : Nat -> Nat} (hc : ∀ i, i < P.length -> c i < P.length /\ upN P i < P.length /\ (upN P i = i \/ c (upN P i) < c i)) : ∀ (f i : Nat), i < P.length -> c i < f -> Rt (upN P) i (Dh P f i) /\ Dh P f i < P.length
 | 0, i, hi, h => by omega
 | f + 1, i, hi, h => by
   unfold Dh
   by_cases e : upN P i = i
   · rw [if_pos e]; exact ⟨.here e, hi⟩
   · rw [if_neg e]
     obtain ⟨h1, h2, h3⟩ := hc i hi
     rcases h3 with h3 | h3
     · exact absurd h3 e
     · obtain ⟨h4, h5⟩ := xr hc f (upN P i) h2 (by omega)
       exact ⟨.go e h4, h5⟩
theorem iY {P : List Gplace} (h : POk P) {i : Nat} (hi : i < P.length) : Rt (upN P) i (topM P i) /\ topM P i < P.length := by
 obtain ⟨c, hc⟩ := h.acy.rank
 exact xr hc _ i hi (hc i hi).1
theorem tN {P : List Gplace} (h : POk P) {i : Nat} (hi : i < P.length) : upN P (topM P i) = topM P i := (iY h hi).1.top
theorem qx {P : List Gplace} (h : POk P) {i t : Nat} (hi : i < P.length) (r : Rt (upN P) i t) : topM P i = t := (iY h hi).1.uniq r
theorem lA {P : List Gplace} (h : POk P) {i : Nat} (hi : i < P.length) (e : upN P i = i) : topM P i = i := qx h hi (.here e)
theorem tO {P : List Gplace} (h : POk P) {i : Nat} (hi : i < P.length) (hu : upN P i < P.length) : topM P (upN P i) = topM P i := by
 by_cases e : upN P i = i
 · rw [e]
 · exact (qx h hi (.go e (iY h hu).1)).symm
theorem POk.ult {P : List Gplace} (h : POk P) {i : Nat} (hi : i < P.length) : upN P i < P.length := by
 obtain ⟨r, hr⟩ := h.acy; exact (hr i hi).1
def nq (P : List Gplace) (i : Nat) (v : GValue) : List Gplace := P.set (topM P i) { nth P (topM P i) with value := v, fixed := true }
def wB (P : List Gplace) (i : Nat) (v : GValue) : Bool := decide (v.Kind = 0) || ((nth P (topM P i)).fixed && !decide ((nth P (topM P i)).value = v))
def oe (s : Bst) (i : Nat) (v : GValue) : Bst := { s with P := nq s.P i v, bad := s.bad || wB s.P i v }
def ky (P : List Gplace) (i k : Nat) : List Gplace := P.set k { nth P k with up := (i : Int) }
def bY (s : Bst) (i k : Nat) : Bst :=
 if topM s.P i = topM s.P k then { s with F := if i = k then s.F ++ [(i : Int)] else s.F }
 else if (nth s.P (topM s.P k)).fixed = true then oe { s with F := (if i = k then s.F ++ [(i : Int)] else s.F), P := ky s.P (topM s.P i) (topM s.P k) } (topM s.P i) (nth s.P (topM s.P k)).value
 else { s with F := (if i = k then s.F ++ [(i : Int)] else s.F), P := ky s.P (topM s.P i) (topM s.P k) }
def cY (cols : List Int) (c : Int) : Nat := (nth cols c.toNat).toNat
def br (s : Bst) (t : GTest) (cols : List Int) : Bst :=
 if t.Op ≠ 1 \/ t.Add ≠ 0 then { s with bad := true }
 else if t.Left.Var = -1 then oe s (cY cols t.Right.Col) t.Left.Value
 else if t.Right.Var = -1 then oe s (cY cols t.Left.Col) t.Right.Value
 else bY s (cY cols t.Left.Col) (cY cols t.Right.Col)
def cI (n : Nat) (k : Nat) : List Gplace := (List.range k).map fun j => ⟨((n + j : Nat) : Int), ⟨0, 0, ⟨#[]⟩⟩, false⟩
def ge (n : Nat) (k : Nat) : List Int := (List.range k).map fun j => ((n + j : Nat) : Int)
def eL (sc : GSchema) (s : Bst) (t : Int) : Bst :=
 { P := s.P ++ cI s.P.length (nth sc.Tables t.toNat).Attrs.length, F := s.F, T := s.T ++ [t], S := s.S ++ [(s.P.length : Int)], bad := s.bad || s.T.any fun x => decide (t = x) }
def bT (a : List GAttr) (k0 k1 : List Int) (st : Bst × List Int) (x : GAttr × Int) : Bst × List Int :=
 if 0 <= aM a x.1.Name then (bY st.1 (cY k0 (aM a x.1.Name)) x.2.toNat, st.2) else (st.1, st.2 ++ [x.2])
def iO (a b : List GAttr) (k0 k1 : List Int) (s : Bst) : Bst × List Int := (b.zip k1).foldl (bT a k0 k1) (s, k0)
def bX (k : Int) : Bool := decide (k = 1) || decide (k = 2) || decide (k = 3) || decide (k = 4) || decide (k = 7)
def nC (sc : GSchema) (p : aQ) (s : Bst) (kids : List (List Int)) : Bst × List Int :=
 if p.Kind = 1 then (eL sc s p.Table, ge s.P.length (nth sc.Tables p.Table.toNat).Attrs.length)
 else if p.Kind = 2 then (p.Tests.foldl (fun s t => br s t (nth kids 0)) s, nth kids 0)
 else if p.Kind = 3 then (s, p.Cols.map fun c => nth (nth kids 0) c.toNat)
 else if p.Kind = 4 then iO (nth p.Kids 0).Attrs (nth p.Kids 1).Attrs (nth kids 0) (nth kids 1) s
 else (s, nth kids 0)
def kidsS (f : Bst -> aQ -> Bst × List Int) : Bst -> List aQ -> Bst × List (List Int)
 | s, [] => (s, [])
 | s, q :: l => if (f s q).1.bad = true then ((f s q).1, []) else ((kidsS f (f s q).1 l).1, (f s q).2 :: (kidsS f (f s q).1 l).2)
def walkS (sc : GSchema) : Nat -> Bst -> aQ -> Bst × List Int
 | 0, s, p => (s, [])
 | n + 1, s, p => if bX p.Kind = false then ({ s with bad := true }, [])
   else if (kidsS (walkS sc n) s p.Kids).1.bad = true then ((kidsS (walkS sc n) s p.Kids).1, [])
   else nC sc p (kidsS (walkS sc n) s p.Kids).1 (kidsS (walkS sc n) s p.Kids).2
def fJ (P : List Gplace) (i : Nat) : Bool := decide ((List.range P.length).countP (fun k => decide (topM P k = topM P i)) = 1) && !(nth P (topM P i)).fixed
structure Tst where
 C : List GValue
 M : List (Int × Int)
def dj (P : List Gplace) (s : Tst) (i : Nat) : Tst × Int :=
 if (nth P (topM P i)).fixed = true then
  (if findI (fun x => decide ((nth P (topM P i)).value = x)) 0 s.C < 0 then ({ s with C := s.C ++ [(nth P (topM P i)).value] }, -1 - s.C.length) else (s, -1 - findI (fun x => decide ((nth P (topM P i)).value = x)) 0 s.C))
 else match mget s.M (topM P i : Int) with
  | some v => (s, v)
  | none => ({ s with M := mput s.M (topM P i : Int) s.M.length }, s.M.length)
def bR (P : List Gplace) (o : Nat) : Tst -> List Int -> Tst × List Int
 | s, [] => (s, [])
 | s, c :: l => ((bR P o (dj P s (o + c.toNat)).1 l).1, (dj P s (o + c.toNat)).2 :: (bR P o (dj P s (o + c.toNat)).1 l).2)
def colsK (t : GTable) : List Int := t.Key ++ ((List.range t.Attrs.length).filter fun (c : Nat) => !(t.Key.any fun x => decide ((c : Int) = x))).map fun (c : Nat) => (c : Int)
def hU (sc : GSchema) (P : List Gplace) (s : Tst) (t : Int) (o : Nat) : Tst × GAtom :=
 ((bR P o s (colsK (nth sc.Tables t.toNat))).1, ⟨t, colsK (nth sc.Tables t.toNat), (bR P o s (colsK (nth sc.Tables t.toNat))).2, (nth sc.Tables t.toNat).Key.length⟩)
def atomsS (sc : GSchema) (P : List Gplace) : Tst -> List (Int × Int) -> Tst × List GAtom
 | s, [] => (s, [])
 | s, (t, o) :: l => ((atomsS sc P (hU sc P s t o.toNat).1 l).1, (hU sc P s t o.toNat).2 :: (atomsS sc P (hU sc P s t o.toNat).1 l).2)
def kz (sc : GSchema) (s : Bst) : GConj :=
 ⟨(atomsS sc s.P ⟨[], []⟩ (s.T.zip s.S)).1.M.length, (atomsS sc s.P ⟨[], []⟩ (s.T.zip s.S)).1.C, (atomsS sc s.P ⟨[], []⟩ (s.T.zip s.S)).2⟩
def st0 : Bst := ⟨[], [], [], [], false⟩
def oh : GConj := ⟨0, [], []⟩
def ofM (sc : GSchema) (n : Nat) (p : aQ) : GConj × Int :=
 if np sc p = false then (oh, 1)
 else if (walkS sc n st0 p).1.bad = true \/ ((walkS sc n st0 p).1.F.any fun i => fJ (walkS sc n st0 p).1.P i.toNat) = true then (oh, 11)
 else (kz sc (walkS sc n st0 p).1, 0)
theorem qy {up vp : Nat -> Nat} {n : Nat} (h : ∀ i, i < n -> up i = vp i) (a : Acy up n) : Acy vp n := by
  obtain ⟨r, hr⟩ := a
  exact ⟨r, fun i hi => by rw [<- h i hi]; exact hr i hi⟩
theorem jL {P : List Gplace} {k i : Nat} {x : Gplace} (hi : i < P.length) (hne : i ≠ k) : upN (P.set k x) i = upN P i := by
  unfold upN; rw [Lg.nth_set hi, if_neg fun e => hne e.symm]
theorem ld {P : List Gplace} {k : Nat} {x : Gplace} (hk : k < P.length) : upN (P.set k x) k = x.up.toNat := by
  unfold upN; rw [Lg.nth_set hk, if_pos rfl]
theorem fj (P : List Gplace) (i k : Nat) : (ky P i k).length = P.length := by unfold ky; simp
theorem jf (P : List Gplace) (i : Nat) (v : GValue) : (nq P i v).length = P.length := by unfold nq; simp
theorem BU {P : List Gplace} {i k j : Nat} (hj : j < P.length) : upN (ky P i k) j = tM (upN P) k i j := by
  unfold ky tM
  by_cases e : j = k
  · subst e; rw [ld hj, if_pos rfl]; simp
  · rw [jL hj e, if_neg e]
theorem POk.lnk {P : List Gplace} (h : POk P) {i k : Nat} (hi : i < P.length) (hk : k < P.length) (hui : upN P i = i) (hne : i ≠ k) : POk (ky P i k) := by
  refine ⟨?_, fun j hj => ?_⟩
  · rw [fj]
    exact qy (fun j hj => (BU hj).symm) (BT h.acy hui hi hne)
  · rw [fj] at hj
    unfold ky
    rw [Lg.nth_set hj]
    split
    · show (0 : Int) <= (i : Int); omega
    · exact h.nn j hj
theorem POk.fix {P : List Gplace} (h : POk P) {i : Nat} (hi : i < P.length) (v : GValue) : POk (nq P i v) := by
  have ht := (iY h hi).2
  have hu : ∀ j, j < P.length -> upN P j = upN (nq P i v) j := fun j hj => by
    unfold nq
    by_cases e : j = topM P i
    · rw [e, ld ht]; rfl
    · rw [jL hj e]
  refine ⟨?_, fun j hj => ?_⟩
  · rw [jf]; exact qy hu h.acy
  · rw [jf] at hj
    unfold nq
    rw [Lg.nth_set hj]
    split
    · exact h.nn _ ht
    · exact h.nn j hj
theorem POk.top_lt {P : List Gplace} (h : POk P) {i : Nat} (hi : i < P.length) : topM P i < P.length := (iY h hi).2
theorem xu {α : Type} {l : List α} {i : Nat} {y : α} (h : i < l.length) : (l.set i y)[i]? = some y := by rw [List.getElem?_set_self h]
structure GbuilderP where
  schema : GSchema
  tables : Value
  start : Value
  places : List Gplace
  self : Value
  bad : Bool
def oi : List (SF GbuilderP) := [⟨GSchema, 24, bB, GbuilderP.schema⟩, ⟨Value, 27, rV, GbuilderP.tables⟩, ⟨Value, 27, rV, GbuilderP.start⟩, ⟨List Gplace, 96, rSl bm, GbuilderP.places⟩, ⟨Value, 27, rV, GbuilderP.self⟩, ⟨Bool, 4, bN, GbuilderP.bad⟩]
abbrev jM : Rp GbuilderP := aU oi
theorem Eo : TyOf prog 98 jM := ⟨fun w => isAgg98 w, fun w => sizeOf98 w⟩
theorem Di : StructOf prog 98 oi := ⟨⟨_, underlying98, ⟨rfl, rfl, lV, by decide, ⟨rfl, rfl, ei, by decide, ⟨rfl, rfl, ei, by decide, ⟨rfl, rfl, zy, by decide, ⟨rfl, rfl, ei, by decide, ⟨rfl, rfl, ty4, by decide, trivial⟩⟩⟩⟩⟩⟩⟩, Eo⟩
theorem GC {b : Nat} {sc : GSchema} {vt vs vp vf : Value} {bad : Bool} {P : List Gplace} {S : List SP} : Frz (Lg.box b 98 cm ⟨sc, vt, vs, vp, vf, bad⟩ :: Lg.own 135 bm vp P :: S) (tAt b 0) (bx jM ⟨sc, vt, vs, P, vf, bad⟩) :=
  Frz.up fun h h' cs le hv r => by
    obtain ⟨c0, _, rfl, r0, c1, _, rfl, r1, c2, _, rfl, r2, c3, _, rfl, r3, c4, _, rfl, r4, c5, _, rfl, r5, rz⟩ := r
    exact ⟨c0, _, rfl, bB.mono le r0, c1, _, rfl, rV.mono le r1, c2, _, rfl, rV.mono le r2, c3, _, rfl, ⟨_, r3.1, hv⟩, c4, _, rfl, rV.mono le r4, c5, _, rfl, bN.mono le r5, rz⟩
abbrev gP (b : Nat) (sc : GSchema) (vt vs vp vf : Value) (bad : Bool) : SP := box b 98 cm ⟨sc, vt, vs, vp, vf, bad⟩
theorem pb (s : Bst) (i k : Nat) : (bY s i k).P.length = s.P.length := by
  unfold bY
  split
  · rfl
  · split
    · simp [oe, jf, fj]
    · simp [fj]
theorem POk.bind {s : Bst} (h : POk s.P) {i k : Nat} (hi : i < s.P.length) (hk : k < s.P.length) : POk (bY s i k).P := by
  unfold bY
  split
  · exact h
  · rename_i hne
    have hl := POk.lnk h (h.top_lt hi) (h.top_lt hk) (tN h hi) hne
    split
    · exact hl.fix (by show _ < (ky _ _ _).length; rw [fj]; exact h.top_lt hi) _
    · exact hl
theorem pc (sc : GSchema) (vt vs vf : Value) (bad : Bool) (P : List Gplace) (h : POk P) (i : Nat) (hi : i < P.length) : Fun1 prog 97 [bx jM ⟨sc, vt, vs, P, vf, bad⟩, tV (.int .i64 i)] (tV (.int .i64 (topM P i))) := by
 refine Spec.enter func97 rfl rfl fun h0 w0 fr0 => ?_
 obtain ⟨c, hc⟩ := h.acy.rank
 refine Jr (Za (ab (ap (au ?_))))
 refine aK (σ := Nat) (fun j => j < P.length /\ topM P j = topM P i) (fun j => upd (upd (upd co 0 (bx jM ⟨sc, vt, vs, P, vf, bad⟩)) 1 (tV (.int .i64 j))) 4 (tV (.int .i64 0))) (fun j => []) (fun j => c j) i ⟨hi, rfl⟩ (zU) (LSub.rfl) ?_
 rintro j ⟨hj, hv⟩
 refine ap (Jr (Zm (Zs (aZ Sr) (Zs (aa Di Sr rfl) (Zl zy Sr ?_)))))
 refine Zm ?_
 refine Zs (ae (i := j) underlying96 jc Sr Sr (by rfl) (gb (by exact hj))) ?_
 refine Zs (aa gU Sr rfl) (Zl ty3 Sr (Zm (Zs (be Sr Sr) (ab ?_))))
 refine am Sr (fun h14 => ?_) (fun h14 => ?_)
 ·
  try simp only [NF] at h14
  have hup := h.nn j hj
  obtain ⟨hc1, hc2, hc3⟩ := hc j hj
  have hne : ¬ upN P j = j := fun e => h14 (by unfold upN at e; omega)
  have hdec : c (upN P j) < c j := by rcases hc3 with q | q; exact absurd q hne; exact q
  refine av (au (ah (Zm (Zs (aZ Sr) (Zs (aa Di Sr rfl) ?_)))))
  refine Zl zy Sr (Zm ?_)
  refine Zs (ae (i := j) underlying96 jc Sr Sr (by rfl) (gb (by exact hj))) ?_
  refine Zs (aa gU Sr rfl) (Zl ty3 Sr (Za (ab ?_)))
  refine ay (σ := Nat) (s := j) (upN P j) (hdec) ⟨hc2, by rw [tO h hj hc2]; exact hv⟩ (.u (SubE.upd (Sub.int (by show (nth P j).up = ((nth P j).up.toNat : Int); omega)) (zU))) (LSub.rfl)
 try simp only [NF] at h14
 have hself : topM P j = j := lA h hj (by unfold upN; omega)
 refine aV (Jr (Zm (Za (ab (aC ?_)))))
 refine bz (rv := .tmp 4) rfl () (.tmp Sr) (Sub.int ?_)
 rw [<- hv, hself]
theorem pd (b : Nat) (sc : GSchema) (vt vs vp vf : Value) (bad : Bool) (P : List Gplace) (h : POk P) (i : Nat) (hi : i < P.length) (v : GValue) : Spec (X := Unit) prog 134 [tAt b 0, tV (.int .i64 i), rValue.ty v] ([gP b sc vt vs vp vf (bad), own 135 bm vp P]) (fun _ => fW []) (fun _ => [gP b sc vt vs vp vf (bad || wB P i v), own 135 bm vp (nq P i v)]) := by
 refine Spec.enter func134 rfl rfl fun h0 w0 fr0 => ?_
 have htl := h.top_lt hi
 refine Jr (Zs (aF (R := rValue) Sr) (ab (ap ?_)))
 refine km [⟨0, [0], true⟩, ⟨1, [7], true⟩, ⟨2, [8], true⟩, ⟨4, [0], true⟩, ⟨5, [1], true⟩, ⟨3, [9], true⟩, ⟨6, [11, 12], true⟩, ⟨7, [10, 13], true⟩, ⟨8, [14], true⟩] rfl (by kernel_rfl) rfl ?_
 refine bf rfl rfl rfl rfl (ar Sr) ?_
 refine bf rfl rfl rfl rfl (aW Sr) ?_
 refine bf rfl rfl rfl rfl (aq fc Sr rfl) ?_
 refine bf rfl rfl rfl rfl (ar Sr) ?_
 refine bf rfl rfl rfl rfl (ar Sr) ?_
 refine bf rfl rfl rfl rfl (a6 gB Sr rfl zS) ?_
 refine bf rfl rfl rfl rfl (cP (Sel.take (Sel.take (FN _))) (pc sc vt vs vf bad P h i hi) (fun _ => Flat.v _) ⟨GC, Frz.sub Sr, trivial⟩ call97) ?_
 refine bf rfl rfl rfl rfl (aG (i := (topM P i)) underlying96 jc Sr zS Sr (by rfl) (by first | exact htl | (rw [List.length_set]; exact htl))) ?_
 refine bf rfl rfl rfl rfl (bd Sr) ?_
 refine nQ (ap (ap ?_))
 refine km [⟨0, [5], true⟩, ⟨1, [15], true⟩, ⟨2, [16], true⟩, ⟨3, [17], true⟩, ⟨4, [6, 18], true⟩, ⟨5, [18, 19], true⟩, ⟨6, [18, 20], true⟩, ⟨7, [18, 21], true⟩, ⟨8, [18, 22], true⟩, ⟨9, [6, 23], true⟩, ⟨13, [5, 23], true⟩, ⟨10, [23, 24], true⟩, ⟨11, [23, 25], true⟩, ⟨12, [23, 26], true⟩, ⟨14, [23, 27, 28], true⟩, ⟨15, [18, 23, 29], true⟩, ⟨16, [18, 30], true⟩] rfl (by kernel_rfl) rfl ?_
 refine bf rfl rfl rfl rfl (aa fp Sr rfl) ?_
 refine bf rfl rfl rfl rfl (ad ty3 Sr) ?_
 refine bf rfl rfl rfl rfl (aJ Sr Sr) ?_
 refine bf rfl rfl rfl rfl (ar Sr) ?_
 refine bw rfl rfl rfl rfl (FS Sr) rfl rfl (fun hw => ar Sr) ?_
 refine bw rfl rfl rfl rfl (FS Sr) rfl rfl (fun hw => ct (i := (topM P i)) (Sub.w hw) zS (by first | exact htl | (rw [List.length_set]; exact htl))) ?_
 refine bw rfl rfl rfl rfl (FS Sr) rfl rfl (fun hw => bv (i := (topM P i)) gU (Sub.w hw) rfl zS (by first | exact htl | (rw [List.length_set]; exact htl))) ?_
 refine bw rfl rfl rfl rfl (FS Sr) rfl rfl (fun hw => ek (i := (topM P i)) ty4 (Sub.w hw) rfl zS (gb (by first | exact htl | (rw [List.length_set]; exact htl)))) ?_
 refine bw rfl rfl rfl rfl (FS Sr) rfl rfl (fun hw => ar (Sub.w hw)) ?_
 refine bw rfl rfl rfl rfl (Gl Sr) rfl rfl (fun hw => ar Sr) ?_
 refine bw rfl rfl rfl rfl (Gl Sr) rfl rfl (fun hw => ad bZ Sr) ?_
 refine bw rfl rfl rfl rfl (Gl Sr) rfl rfl (fun hw => ct (i := (topM P i)) (Sub.w hw) zS (by first | exact htl | (rw [List.length_set]; exact htl))) ?_
 refine bw rfl rfl rfl rfl (Gl Sr) rfl rfl (fun hw => bv (i := (topM P i)) gU (Sub.w hw) rfl zS (by first | exact htl | (rw [List.length_set]; exact htl))) ?_
 refine bw rfl rfl rfl rfl (Gl Sr) rfl rfl (fun hw => ek (i := (topM P i)) bZ (Sub.w hw) rfl zS (gb (by first | exact htl | (rw [List.length_set]; exact htl)))) ?_
 refine bw rfl rfl rfl rfl (Gl Sr) rfl rfl (fun hw => k5 (Sub.w hw) (Sub.w hw)) ?_
 refine bw rfl rfl rfl rfl (FS Sr) rfl rfl (fun hw => aw (Sub.w hw) (Gw hw)) ?_
 refine bf rfl rfl rfl rfl (aD Sr Sr) ?_
 refine nQ ?_
 refine am Sr (fun h31 => ?_) (fun h31 => ?_)
 ·
  try simp only [NF] at h31
  have hb : wB P i v = true := by unfold wB; simp_all
  refine ah (Zm (Zs (aW Sr) (Zs (aq fc Sr rfl) ?_)))
  refine Ju (aS (R := bN) (y' := (⟨sc, vt, vs, vp, vf, true⟩ : GbuilderW)) ty4 Sr Sr zS (by exact ⟨rfl, ⟨rfl, ⟨rfl, ⟨rfl, ⟨rfl, ⟨fun _ _ q => q, rfl, by intro g hg; cases hg⟩⟩⟩⟩⟩⟩)) fun _ => ?_
  refine ab (ah (Zm (Zm (Zl bZ Sr ?_))))
  refine Zs (ct (i := (topM P i)) Sr zS (by first | exact htl | (rw [List.length_set]; exact htl))) ?_
  refine Zs (bv (i := (topM P i)) gU Sr rfl zS (by first | exact htl | (rw [List.length_set]; exact htl))) ?_
  refine Ju (bW (R := rValue) (i := (topM P i)) (y := (nth P (topM P i))) (y' := { nth P (topM P i) with value := v }) bZ Sr Sr zS (gb (by first | exact htl | (rw [List.length_set]; exact htl))) (by exact ⟨rfl, ⟨fun _ _ q => q, rfl, by intro g hg; simp only [List.mem_cons, List.not_mem_nil, or_false] at hg; subst hg; rfl⟩⟩)) fun _ => ?_
  refine Zs (ct (i := (topM P i)) Sr zS (by first | exact htl | (rw [List.length_set]; exact htl))) ?_
  refine Zs (bv (i := (topM P i)) gU Sr rfl zS (by first | exact htl | (rw [List.length_set]; exact htl))) ?_
  refine Ju (bW (R := bN) (i := (topM P i)) (y := { nth P (topM P i) with value := v }) (y' := { nth P (topM P i) with value := v, fixed := true }) ty4 Sr Sr zS (xu htl) (by exact ⟨rfl, ⟨rfl, ⟨fun _ _ q => q, rfl, by intro g hg; cases hg⟩⟩⟩)) fun _ => ?_
  refine ab ?_
  refine a7 (L' := [gP b sc vt vs vp vf (bad || wB P i v), own 135 bm vp (nq P i v)]) (.c zS (SPs.of (A := box b 98 cm (⟨sc, vt, vs, vp, vf, true⟩ : GbuilderW)) (by rw [hb]; simp)) (.c zS (SPs.of (A := own 135 bm vp ((P.set (topM P i) { nth P (topM P i) with value := v }).set (topM P i) { nth P (topM P i) with value := v, fixed := true })) (by unfold nq; rw [List.set_set])) (LSub.nil))) ?_
  refine iU rfl () Sr
 try simp only [NF] at h31
 have hb : wB P i v = false := by unfold wB; obtain ⟨q1, q2⟩ := h31; rcases q2 with q | q <;> simp [q1, q]
 refine av (ah (Zm (Zm (Zl bZ Sr ?_))))
 refine Zs (ct (i := (topM P i)) Sr zS (by first | exact htl | (rw [List.length_set]; exact htl))) ?_
 refine Zs (bv (i := (topM P i)) gU Sr rfl zS (by first | exact htl | (rw [List.length_set]; exact htl))) ?_
 refine Ju (bW (R := rValue) (i := (topM P i)) (y := (nth P (topM P i))) (y' := { nth P (topM P i) with value := v }) bZ Sr Sr zS (gb (by first | exact htl | (rw [List.length_set]; exact htl))) (by exact ⟨rfl, ⟨fun _ _ q => q, rfl, by intro g hg; simp only [List.mem_cons, List.not_mem_nil, or_false] at hg; subst hg; rfl⟩⟩)) fun _ => ?_
 refine Zs (ct (i := (topM P i)) Sr zS (by first | exact htl | (rw [List.length_set]; exact htl))) ?_
 refine Zs (bv (i := (topM P i)) gU Sr rfl zS (by first | exact htl | (rw [List.length_set]; exact htl))) ?_
 refine Ju (bW (R := bN) (i := (topM P i)) (y := { nth P (topM P i) with value := v }) (y' := { nth P (topM P i) with value := v, fixed := true }) ty4 Sr Sr zS (xu htl) (by exact ⟨rfl, ⟨rfl, ⟨fun _ _ q => q, rfl, by intro g hg; cases hg⟩⟩⟩)) fun _ => ?_
 refine ab ?_
 refine a7 (L' := [gP b sc vt vs vp vf (bad || wB P i v), own 135 bm vp (nq P i v)]) (.c zS (SPs.of (A := box b 98 cm (⟨sc, vt, vs, vp, vf, bad⟩ : GbuilderW)) (by rw [hb]; simp)) (.c zS (SPs.of (A := own 135 bm vp ((P.set (topM P i) { nth P (topM P i) with value := v }).set (topM P i) { nth P (topM P i) with value := v, fixed := true })) (by unfold nq; rw [List.set_set])) (LSub.nil))) ?_
 refine iU rfl () Sr
theorem qz (b : Nat) (sc : GSchema) (vt vs vp vf : Value) (st : Bst) (h : POk st.P) (hF : st.F.length <= 1000000000) (i k : Nat) (hi : i < st.P.length) (hk : k < st.P.length) : Spec (X := Value) prog 95 [tAt b 0, tV (.int .i64 i), tV (.int .i64 k)] ([gP b sc vt vs vp vf (st.bad), own 135 bm vp st.P, own 3 aO vf st.F]) (fun vf2 => fW []) (fun vf2 => [gP b sc vt vs vp vf2 ((bY st i k).bad), own 135 bm vp (bY st i k).P, own 3 aO vf2 (bY st i k).F]) := by
 refine Spec.enter func95 rfl rfl fun h0 w0 fr0 => ?_
 have hti := h.top_lt hi
 have htk := h.top_lt hk
 refine ap (Jr (Zm (Zm (Zs (aJ Sr Sr) (ab ?_)))))
 refine CW (X := Value) (fun vf2 => upd (upd (upd co 0 (tAt b 0)) 1 (tV (.int .i64 i))) 2 (tV (.int .i64 k))) (fun vf2 => [gP b sc vt vs vp vf2 (st.bad), own 135 bm vp st.P, own 3 aO vf2 (if i = k then st.F ++ [(i : Int)] else st.F)]) ?_ ?_
 ·
  skip
  refine am Sr (fun h9 => ?_) (fun h9 => ?_)
  ·
   try simp only [NF] at h9
   refine ah (Zm (Zm (Zs (aW Sr) (Zs (aq fc Sr rfl) ?_))))
   refine Zs (a6 ei Sr rfl zS) ?_
   refine Zm ?_
   refine Zs (aB (ys := [_]) underlying27 el3 ⟨rfl, Sr, trivial⟩ rfl (by decide)) ?_
   refine Zx (aH underlying27 el3 Sr Sr zS (by simp; omega) (by simp; omega)) fun v17 => ?_
   refine Zs (aW Sr) (Zs (aq fc Sr rfl) ?_)
   refine Ju (aS (R := rV) (y' := (⟨sc, vt, vs, vp, v17, st.bad⟩ : GbuilderW)) ei Sr Sr zS (by exact ⟨rfl, ⟨rfl, ⟨rfl, ⟨rfl, ⟨fun _ _ q => q, rfl, by intro g hg; simp only [List.mem_cons, List.not_mem_nil, or_false] at hg; subst hg; rfl⟩⟩⟩⟩⟩)) fun _ => ?_
   refine ab ?_
   refine zm (E := fun _ => co) v17 (zU) (.r zS (.r zS (.c zS (SPs.of (A := own 3 aO v17 (st.F ++ [(i : Int)])) (by rw [if_pos zG])) (LSub.nil))))
  try simp only [NF] at h9
  refine av ?_
  refine zm (E := fun _ => co) vf (zU) (.r zS (.r zS (.c zS (SPs.of (A := own 3 aO vf st.F) (by rw [if_neg zG])) (LSub.nil))))
 rintro vf2
 refine Jr (Zm (Zm (Zs (cP (Sel.take (Sel.take (FN _))) (pc sc vt vs vf2 st.bad st.P h i hi) (fun _ => Flat.v _) ⟨GC, Frz.sub Sr, trivial⟩ call97) (Zm (Zm ?_)))))
 refine Zs (cP (Sel.take (Sel.take (FN _))) (pc sc vt vs vf2 st.bad st.P h k hk) (fun _ => Flat.v _) ⟨GC, Frz.sub Sr, trivial⟩ call97) (Za (Za (ab (ap (Jr ?_)))))
 refine Zm (Zm (Zs (aJ Sr Sr) (ab ?_)))
 refine am Sr (fun h28 => ?_) (fun h28 => ?_)
 ·
  try simp only [NF] at h28
  have hteq : (topM st.P i) = (topM st.P k) := by omega
  refine aC ?_
  have hB : bY st i k = { st with F := (if i = k then st.F ++ [(i : Int)] else st.F) } := by unfold bY; rw [if_pos hteq]
  refine a7 (L' := [gP b sc vt vs vp vf2 ((bY st i k).bad), own 135 bm vp (bY st i k).P, own 3 aO vf2 (bY st i k).F]) (.c zS (SPs.of (A := box b 98 cm _) (by rw [hB] <;> rfl)) (.c zS (SPs.of (A := own 135 bm _ _) (by rw [hB] <;> rfl)) (.c zS (SPs.of (A := own 3 aO _ _) (by rw [hB] <;> rfl)) (LSub.nil)))) ?_
  refine AW rfl vf2 Sr
 try simp only [NF] at h28
 have htne : ¬ (topM st.P i) = (topM st.P k) := by omega
 have hlnk := h.lnk hti htk (tN h hi) htne
 refine av (Jr (Zm (Zs (aW Sr) (Zs (aq fc Sr rfl) ?_))))
 refine Zs (a6 gB Sr rfl zS) ?_
 refine Zm ?_
 refine Zs (aG (i := (topM st.P k)) underlying96 jc Sr zS Sr (by rfl) (by exact htk)) ?_
 refine Zs (bH jc Sr zS (gb (by first | assumption | omega))) ?_
 refine Zx (aE (fun w => zeroValue135 w) BN) fun v6 => ?_
 refine Ju (ai jc Sr Sr zS) fun _ => ?_
 refine aN (t := 6) (Sel.take (FN _)) Frz.box ?_
 refine ab (Jr (Zm (Zs (aW Sr) (Zs (aq fc Sr rfl) ?_))))
 refine Zs (a6 gB Sr rfl zS) ?_
 refine Zm (Zm ?_)
 refine Zs (aG (i := (topM st.P k)) underlying96 jc Sr zS Sr (by rfl) (by exact htk)) ?_
 refine Zs (bv (i := (topM st.P k)) gU Sr rfl zS (by exact htk)) ?_
 refine Ju (bW (R := aO) (i := (topM st.P k)) (y := (nth st.P (topM st.P k))) (y' := { nth st.P (topM st.P k) with up := ((topM st.P i) : Int) }) ty3 Sr Sr zS (gb (by exact htk)) (by exact ⟨fun _ _ q => q, rfl, by intro g hg; simp only [List.mem_cons, List.not_mem_nil, or_false] at hg; rcases hg with rfl | rfl <;> rfl⟩)) fun _ => ?_
 refine ab (Jr (Zs (aa gU Sr rfl) (Zl ty4 Sr (ab ?_))))
 refine am Sr (fun h45 => ?_) (fun h45 => ?_)
 ·
  try simp only [NF] at h45
  refine a7 (L' := [gP b sc vt vs vp vf2 (st.bad), own 135 bm vp (ky st.P (topM st.P i) (topM st.P k)), own 3 aO vf2 (if i = k then st.F ++ [(i : Int)] else st.F)]) (.c zS (SPs.rfl (A := box b 98 cm _)) (.c zS (SPs.of (A := own 135 bm _ _) rfl) (zL))) ?_
  refine ah (Zm (Zm (Zs (aa gU Sr rfl) (Zl bZ Sr ?_))))
  refine Zx (aR (Sel.take (Sel.take (FN _))) (pd b sc vt vs vp vf2 st.bad (ky st.P (topM st.P i) (topM st.P k)) hlnk (topM st.P i) (by rw [fj]; exact hti) (nth st.P (topM st.P k)).value) ⟨Sr, Sr, Sr, trivial⟩ call134) fun v50 => ?_
  refine ab ?_
  have hB : bY st i k = oe { st with F := (if i = k then st.F ++ [(i : Int)] else st.F), P := ky st.P (topM st.P i) (topM st.P k) } (topM st.P i) (nth st.P (topM st.P k)).value := by unfold bY; rw [if_neg htne, if_pos h45]
  refine a7 (L' := [gP b sc vt vs vp vf2 ((bY st i k).bad), own 135 bm vp (bY st i k).P, own 3 aO vf2 (bY st i k).F]) (.c zS (SPs.of (A := box b 98 cm _) (by rw [hB] <;> rfl)) (.c zS (SPs.of (A := own 135 bm _ _) (by rw [hB] <;> rfl)) (.c zS (SPs.of (A := own 3 aO _ _) (by rw [hB] <;> rfl)) (LSub.nil)))) ?_
  refine iU rfl vf2 Sr
 try simp only [NF] at h45
 refine av ?_
 have hB : bY st i k = { st with F := (if i = k then st.F ++ [(i : Int)] else st.F), P := ky st.P (topM st.P i) (topM st.P k) } := by unfold bY; rw [if_neg htne, if_neg (by rw [h45]; simp)]
 refine a7 (L' := [gP b sc vt vs vp vf2 ((bY st i k).bad), own 135 bm vp (bY st i k).P, own 3 aO vf2 (bY st i k).F]) (.c zS (SPs.of (A := box b 98 cm _) (by rw [hB] <;> rfl)) (.c zS (SPs.of (A := own 135 bm _ _) (by rw [hB] <;> rfl)) (.c zS (SPs.of (A := own 3 aO _ _) (by rw [hB] <;> rfl)) (LSub.nil)))) ?_
 refine iU rfl vf2 Sr
theorem oj {t : GTest} {n : Int} (h : dY t n = true) : iN t.Left n = true /\ iN t.Right n = true /\ (t.Left.Var = 0 \/ t.Right.Var = 0) := by
  unfold dY at h; simp only [Bool.and_eq_true, Bool.or_eq_true, decide_eq_true_eq] at h
  exact ⟨h.1.1.2, h.1.2, h.2⟩
theorem lB {x : GSide} {n : Int} (h : iN x n = true) (hv : x.Var ≠ -1) : 0 <= x.Col /\ x.Col < n := by
  unfold iN at h; rw [if_neg hv] at h; simp only [Bool.and_eq_true, decide_eq_true_eq] at h
  exact ⟨h.1.1.2, h.1.2⟩
theorem ol {cols : List Int} {N : Nat} (hcb : ∀ c ∈ cols, 0 <= c /\ c < N) {c : Int} (h : 0 <= c /\ c < (cols.length : Nat)) : 0 <= c /\ c.toNat < cols.length /\ 0 <= nth cols c.toNat /\ cY cols c < N := by
  have h2 : c.toNat < cols.length := by omega
  have := hcb _ (nth_mem h2)
  exact ⟨h.1, h2, this.1, by unfold cY; omega⟩
theorem vu (b : Nat) (sc : GSchema) (vt vs vp vf : Value) (st : Bst) (h : POk st.P) (hF : st.F.length <= 1000000000) (t : GTest) (cols : List Int) (hcb : ∀ c ∈ cols, 0 <= c /\ c < st.P.length) (ht : dY t cols.length = true) : Spec (X := Value) prog 88 [tAt b 0, dV.ty t, tSl aO cols] ([gP b sc vt vs vp vf (st.bad), own 135 bm vp st.P, own 3 aO vf st.F]) (fun vf2 => fW []) (fun vf2 => [gP b sc vt vs vp vf2 ((br st t cols).bad), own 135 bm vp (br st t cols).P, own 3 aO vf2 (br st t cols).F]) := by
 refine Spec.enter func88 rfl rfl fun h0 w0 fr0 => ?_
 have hside := oj ht
 have hnl := fun (q : t.Left.Var ≠ -1) => ol hcb (lB hside.1 q)
 have hnr := fun (q : t.Right.Var ≠ -1) => ol hcb (lB hside.2.1 q)
 refine Jr (Zs (aF (R := dV) Sr) (ab (au (Jr (Zs (aa lU Sr rfl) ?_)))))
 refine Zl ty3 Sr (Zs (be Sr Sr) (Zm ?_))
 refine Zk (aa lU Sr rfl) ?_
 refine Zg (fun hw => ad ty3 (Sub.w hw)) (Zg (fun hw => be (Sub.w hw) Sr) (Zs (aD Sr Sr) (Za (ab ?_))))
 refine am Sr (fun h20 => ?_) (fun h20 => ?_)
 ·
  try simp only [NF] at h20
  refine ah (Zm (Zs (aW Sr) (Zs (aq fc Sr rfl) ?_)))
  refine Ju (aS (R := bN) (y' := (⟨sc, vt, vs, vp, vf, true⟩ : GbuilderW)) ty4 Sr Sr zS (by exact ⟨rfl, ⟨rfl, ⟨rfl, ⟨rfl, ⟨rfl, ⟨fun _ _ q => q, rfl, by intro g hg; cases hg⟩⟩⟩⟩⟩⟩)) fun _ => ?_
  refine ab ?_
  have hE : br st t cols = { st with bad := true } := by unfold br; rw [if_pos zG]
  refine a7 (L' := [gP b sc vt vs vp vf ((br st t cols).bad), own 135 bm vp (br st t cols).P, own 3 aO vf (br st t cols).F]) (.c zS (SPs.of (A := box b 98 cm _) (by rw [hE] <;> rfl)) (.c zS (SPs.of (A := own 135 bm _ _) (by rw [hE] <;> rfl)) (.c zS (SPs.of (A := own 3 aO _ _) (by rw [hE] <;> rfl)) (LSub.nil)))) ?_
  refine iU rfl vf Sr
 try simp only [NF] at h20
 have h20b : ¬ (t.Op ≠ 1 \/ t.Add ≠ 0) := by omega
 refine Jr (Zs (aa lU Sr rfl) (Zs (aa nk Sr rfl) (Zl ty3 Sr (Zs (aJ Sr Sr) (Za ?_)))))
 refine ab ?_
 refine am Sr (fun h32 => ?_) (fun h32 => ?_)
 ·
  try simp only [NF] at h32
  have hrv : t.Right.Var ≠ -1 := by have := hside.2.2; omega
  obtain ⟨hr1, hr2, hr3, hr4⟩ := hnr hrv
  refine bQ [⟨0, [0], true⟩, ⟨1, [2], true⟩, ⟨2, [4], true⟩, ⟨3, [39], true⟩, ⟨4, [40], true⟩, ⟨5, [38, 41], true⟩, ⟨6, [42], true⟩, ⟨7, [4], true⟩, ⟨8, [44], true⟩, ⟨9, [45], true⟩, ⟨10, [37, 43, 46], false⟩] rfl (by kernel_rfl) ?_
  refine Zv rfl (Zv rfl (Zf rfl (aa lU Sr rfl) (Zf rfl (aa nk Sr rfl) (Zf rfl (ad ty3 Sr) ?_))))
  refine Zf rfl (ae (i := t.Right.Col.toNat) underlying27 ty3 Sr Sr (by show t.Right.Col = _; omega) (gb (by exact hr2))) ?_
  refine Zf rfl (ad ty3 Sr) (Zf rfl (aa lU Sr rfl) (Zf rfl (aa nk Sr rfl) (Zf rfl (ad bZ Sr) ?_)))
  refine cN rfl rfl rfl rfl (aR (Sel.take (Sel.take (FN _))) (pd b sc vt vs vp vf st.bad st.P h (cY cols t.Right.Col) zG t.Left.Value) ⟨Sr, Sub.int (by unfold cY; omega), Sr, trivial⟩ call134) fun v47 => ?_
  refine bP ?_
  have hE : br st t cols = oe st (cY cols t.Right.Col) t.Left.Value := by unfold br; rw [if_neg h20b, if_pos h32]
  refine a7 (L' := [gP b sc vt vs vp vf ((br st t cols).bad), own 135 bm vp (br st t cols).P, own 3 aO vf (br st t cols).F]) (.c zS (SPs.of (A := box b 98 cm _) (by rw [hE] <;> rfl)) (.c zS (SPs.of (A := own 135 bm _ _) (by rw [hE] <;> rfl)) (.c zS (SPs.of (A := own 3 aO _ _) (by rw [hE] <;> rfl)) (LSub.nil)))) ?_
  refine iU rfl vf Sr
 try simp only [NF] at h32
 obtain ⟨hl1, hl2, hl3, hl4⟩ := hnl zG
 refine Jr (Zs (aa lU Sr rfl) (Zs (aa nk Sr rfl) (Zl ty3 Sr (Zs (aJ Sr Sr) (Za ?_)))))
 refine ab ?_
 refine am Sr (fun h48 => ?_) (fun h48 => ?_)
 ·
  try simp only [NF] at h48
  refine bQ [⟨0, [0], true⟩, ⟨1, [2], true⟩, ⟨2, [4], true⟩, ⟨3, [55], true⟩, ⟨4, [56], true⟩, ⟨5, [54, 57], true⟩, ⟨6, [58], true⟩, ⟨7, [4], true⟩, ⟨8, [60], true⟩, ⟨9, [61], true⟩, ⟨10, [53, 59, 62], false⟩] rfl (by kernel_rfl) ?_
  refine Zv rfl (Zv rfl (Zf rfl (aa lU Sr rfl) (Zf rfl (aa nk Sr rfl) (Zf rfl (ad ty3 Sr) ?_))))
  refine Zf rfl (ae (i := t.Left.Col.toNat) underlying27 ty3 Sr Sr (by show t.Left.Col = _; omega) (gb (by exact hl2))) ?_
  refine Zf rfl (ad ty3 Sr) (Zf rfl (aa lU Sr rfl) (Zf rfl (aa nk Sr rfl) (Zf rfl (ad bZ Sr) ?_)))
  refine cN rfl rfl rfl rfl (aR (Sel.take (Sel.take (FN _))) (pd b sc vt vs vp vf st.bad st.P h (cY cols t.Left.Col) zG t.Right.Value) ⟨Sr, Sub.int (by unfold cY; omega), Sr, trivial⟩ call134) fun v63 => ?_
  refine bP ?_
  have hE : br st t cols = oe st (cY cols t.Left.Col) t.Right.Value := by unfold br; rw [if_neg h20b, if_neg h32, if_pos h48]
  refine a7 (L' := [gP b sc vt vs vp vf ((br st t cols).bad), own 135 bm vp (br st t cols).P, own 3 aO vf (br st t cols).F]) (.c zS (SPs.of (A := box b 98 cm _) (by rw [hE] <;> rfl)) (.c zS (SPs.of (A := own 135 bm _ _) (by rw [hE] <;> rfl)) (.c zS (SPs.of (A := own 3 aO _ _) (by rw [hE] <;> rfl)) (LSub.nil)))) ?_
  refine iU rfl vf Sr
 try simp only [NF] at h48
 obtain ⟨hr1, hr2, hr3, hr4⟩ := hnr zG
 refine bQ [⟨0, [0], true⟩, ⟨1, [2], true⟩, ⟨2, [4], true⟩, ⟨3, [8], true⟩, ⟨4, [9], true⟩, ⟨5, [7, 10], true⟩, ⟨6, [11], true⟩, ⟨7, [2], true⟩, ⟨8, [4], true⟩, ⟨9, [14], true⟩, ⟨10, [15], true⟩, ⟨11, [13, 16], true⟩, ⟨12, [17], true⟩, ⟨13, [6, 12, 18], false⟩] rfl (by kernel_rfl) ?_
 refine Zv rfl (Zv rfl (Zf rfl (aa lU Sr rfl) (Zf rfl (aa nk Sr rfl) (Zf rfl (ad ty3 Sr) ?_))))
 refine Zf rfl (ae (i := t.Left.Col.toNat) underlying27 ty3 Sr Sr (by show t.Left.Col = _; omega) (gb (by exact hl2))) ?_
 refine Zf rfl (ad ty3 Sr) (Zv rfl (Zf rfl (aa lU Sr rfl) (Zf rfl (aa nk Sr rfl) (Zf rfl (ad ty3 Sr) ?_))))
 refine Zf rfl (ae (i := t.Right.Col.toNat) underlying27 ty3 Sr Sr (by show t.Right.Col = _; omega) (gb (by exact hr2))) ?_
 refine Zf rfl (ad ty3 Sr) ?_
 refine cN rfl rfl rfl rfl (aR (Sel.all _) (qz b sc vt vs vp vf st h hF (cY cols t.Left.Col) (cY cols t.Right.Col) zG zG) ⟨Sr, Sub.int (by unfold cY; omega), Sub.int (by unfold cY; omega), trivial⟩ call95) fun v19 => ?_
 refine bP ?_
 have hE : br st t cols = bY st (cY cols t.Left.Col) (cY cols t.Right.Col) := by unfold br; rw [if_neg h20b, if_neg h32, if_neg h48]
 refine a7 (L' := [gP b sc vt vs vp v19 ((br st t cols).bad), own 135 bm vp (br st t cols).P, own 3 aO v19 (br st t cols).F]) (.c zS (SPs.of (A := box b 98 cm _) (by rw [hE] <;> rfl)) (.c zS (SPs.of (A := own 135 bm _ _) (by rw [hE] <;> rfl)) (.c zS (SPs.of (A := own 3 aO _ _) (by rw [hE] <;> rfl)) (LSub.nil)))) ?_
 refine iU rfl v19 Sr
def Dep : Nat -> aQ -> Prop
 | 0, _ => False
 | n + 1, p => ∀ q ∈ p.Kids, Dep n q
theorem xv : ∀ {n : Nat} {h : PH} {p : aQ} {cs : List Value}, (aX n).rel h p cs -> Dep n p
 | 0, _, _, _, r => r.elim
 | n + 1, h, p, cs, r => by
   obtain ⟨c0, _, rfl, _, c1, _, rfl, _, c2, _, rfl, r2, _⟩ := (show SF.rel h p (fsPl cPl bu dV (aX n)) cs from r)
   obtain ⟨u, _, hu⟩ := r2
   intro q hq
   obtain ⟨ao, cap, e, H⟩ := hu
   obtain ⟨b, off, ea, H2⟩ := H (by intro z; rw [show p.Kids = [] from z] at hq; cases hq)
   obtain ⟨i, hi, rfl⟩ := List.getElem_of_mem hq
   obtain ⟨cs, _, r3⟩ := H2 i _ (List.getElem?_eq_getElem hi)
   exact xv r3
def cZ : Nat -> aQ -> Nat
 | 0, _ => 1
 | n + 1, p => 1 + (p.Kids.map (cZ n)).sum
def binds : Nat -> aQ -> Nat
 | 0, _ => 0
 | n + 1, p => p.Tests.length + (nth p.Kids 1).Attrs.length + (p.Kids.map (binds n)).sum
structure BdInv (sc : GSchema) (s : Bst) : Prop where
 pok : POk s.P
 fin : ∀ f ∈ s.F, 0 <= f /\ f < s.P.length
 ts : s.T.length = s.S.length
 tin : ∀ i, i < s.T.length -> (0 <= nth s.T i /\ nth s.T i < sc.Tables.length) /\ 0 <= nth s.S i /\ nth s.S i + (nth sc.Tables (nth s.T i).toNat).Attrs.length <= s.P.length
structure Keep (s s' : Bst) (k : Nat) : Prop where
 pl : s'.P.length = s.P.length
 fl : s'.F.length <= s.F.length + k
 t : s'.T = s.T
 s : s'.S = s.S
theorem Keep.refl (s : Bst) : Keep s s 0 := ⟨rfl, Nat.le_refl _, rfl, rfl⟩
theorem Keep.trans {a b c : Bst} {i j : Nat} (h : Keep a b i) (k : Keep b c j) : Keep a c (i + j) :=
 ⟨k.pl.trans h.pl, by have := h.fl; have := k.fl; omega, k.t.trans h.t, k.s.trans h.s⟩
theorem Keep.le {a b : Bst} {i j : Nat} (h : Keep a b i) (hij : i <= j) : Keep a b j := ⟨h.pl, by have := h.fl; omega, h.t, h.s⟩
theorem BdInv.of {sc : GSchema} {s s' : Bst} {k : Nat} (h : BdInv sc s) (hk : Keep s s' k) (hp : POk s'.P) (hf : ∀ f ∈ s'.F, 0 <= f /\ f < s'.P.length) : BdInv sc s' :=
 ⟨hp, hf, by rw [hk.t, hk.s]; exact h.ts, fun i hi => by rw [hk.t] at hi ⊢; rw [hk.s, hk.pl]; exact h.tin i hi⟩
theorem pe (s : Bst) (i : Nat) (v : GValue) : Keep s (oe s i v) 0 := ⟨jf _ _ _, Nat.le_refl _, rfl, rfl⟩
theorem xw {sc : GSchema} {s : Bst} (h : BdInv sc s) {i : Nat} (hi : i < s.P.length) (v : GValue) : BdInv sc (oe s i v) :=
 h.of (pe s i v) (h.pok.fix hi v) fun f hf => by show 0 <= f /\ f < ((nq s.P i v).length : Int); rw [jf]; exact h.fin f hf
theorem jN (s : Bst) (i k : Nat) : Keep s (bY s i k) 1 := by
 refine ⟨pb s i k, ?_, ?_, ?_⟩
 · unfold bY
   split
   · show (if i = k then s.F ++ [(i : Int)] else s.F).length <= _; split <;> simp
   · split
     · show (if i = k then s.F ++ [(i : Int)] else s.F).length <= _; split <;> simp
     · show (if i = k then s.F ++ [(i : Int)] else s.F).length <= _; split <;> simp
 · unfold bY
   split
   · rfl
   · split <;> rfl
 · unfold bY
   split
   · rfl
   · split <;> rfl
theorem pf {sc : GSchema} {s : Bst} (h : BdInv sc s) {i k : Nat} (hi : i < s.P.length) (hk : k < s.P.length) : BdInv sc (bY s i k) := by
 refine h.of (jN s i k) (h.pok.bind hi hk) fun f hf => ?_
 rw [pb]
 have hF : (bY s i k).F = if i = k then s.F ++ [(i : Int)] else s.F := by
  unfold bY
  split
  · rfl
  · split <;> rfl
 rw [hF] at hf
 split at hf
 · rcases List.mem_append.1 hf with hf | hf
   · exact h.fin f hf
   · rw [List.mem_singleton.1 hf]; omega
 · exact h.fin f hf
theorem om (s : Bst) (t : GTest) (cols : List Int) : Keep s (br s t cols) 1 := by
 unfold br
 split
 · exact ⟨rfl, by show s.F.length <= _; omega, rfl, rfl⟩
 · split
   · exact (pe _ _ _).le (by omega)
   · split
     · exact (pe _ _ _).le (by omega)
     · exact jN _ _ _
theorem qA {sc : GSchema} {s : Bst} (h : BdInv sc s) {t : GTest} {cols : List Int} (hcb : ∀ c ∈ cols, 0 <= c /\ c < s.P.length) (ht : dY t cols.length = true) : BdInv sc (br s t cols) := by
 have hs := oj ht
 have hl := fun (q : t.Left.Var ≠ -1) => ol hcb (lB hs.1 q)
 have hr := fun (q : t.Right.Var ≠ -1) => ol hcb (lB hs.2.1 q)
 unfold br
 split
 · exact ⟨h.pok, h.fin, h.ts, h.tin⟩
 · split
   · rename_i q
     exact xw h (hr (by have := hs.2.2; omega)).2.2.2 _
   · rename_i q
     split
     · exact xw h (hl q).2.2.2 _
     · rename_i q2
       exact pf h (hl q).2.2.2 (hr q2).2.2.2
theorem jO {sc : GSchema} {cols : List Int} : ∀ {l : List GTest} {s : Bst}, BdInv sc s -> (∀ c ∈ cols, 0 <= c /\ c < s.P.length) -> (∀ t ∈ l, dY t cols.length = true) ->
  BdInv sc (l.foldl (fun s t => br s t cols) s) /\ Keep s (l.foldl (fun s t => br s t cols) s) l.length
 | [], s, h, _, _ => ⟨h, Keep.refl s⟩
 | t :: l, s, h, hc, ht => by
   have h1 := qA h hc (ht t List.mem_cons_self)
   have hk := om s t cols
   obtain ⟨h2, h3⟩ := jO (l := l) h1 (fun c hc' => by rw [hk.pl]; exact hc c hc') (fun t' ht' => ht t' (List.mem_cons_of_mem _ ht'))
   exact ⟨h2, (hk.trans h3).le (by simp; omega)⟩
theorem cO (n k : Nat) : (cI n k).length = k := by simp [cI]
theorem jP {n k j : Nat} (h : j < k) : nth (cI n k) j = ⟨((n + j : Nat) : Int), ⟨0, 0, ⟨#[]⟩⟩, false⟩ := by
 rw [nth_get (by rw [cO]; exact h)]; simp [cI]
theorem gF {α : Type} [Inhabited α] {a b : List α} {i : Nat} (h : i < a.length) : nth (a ++ b) i = nth a i := by
 rw [nth_get (by rw [List.length_append]; omega), nth_get h]; exact List.getElem_append_left h
theorem iE {α : Type} [Inhabited α] {a b : List α} {i : Nat} (h : a.length <= i) (h2 : i < a.length + b.length) : nth (a ++ b) i = nth b (i - a.length) := by
 rw [nth_get (by rw [List.length_append]; omega), nth_get (by omega)]; exact List.getElem_append_right h
theorem POk.new {P : List Gplace} (h : POk P) (k : Nat) : POk (P ++ cI P.length k) := by
 have hup : ∀ i, i < P.length -> upN (P ++ cI P.length k) i = upN P i := fun i hi => by unfold upN; rw [gF hi]
 have hup2 : ∀ i, P.length <= i -> i < P.length + k -> upN (P ++ cI P.length k) i = i := fun i hi hi2 => by
  unfold upN; rw [iE hi (by rw [cO]; exact hi2), jP (by omega)]
  show (((P.length + (i - P.length) : Nat) : Int)).toNat = i; omega
 obtain ⟨r, hr⟩ := h.acy
 refine ⟨⟨r, fun i hi => ?_⟩, fun i hi => ?_⟩
 · rw [List.length_append, cO] at hi ⊢
   by_cases e : i < P.length
   · rw [hup i e]; have := hr i e; exact ⟨by omega, this.2⟩
   · rw [hup2 i (by omega) hi]; exact ⟨hi, .inl rfl⟩
 · rw [List.length_append, cO] at hi
   by_cases e : i < P.length
   · rw [gF e]; exact h.nn i e
   · rw [iE (by omega) (by rw [cO]; omega), jP (by omega)]; show (0 : Int) <= ((_ : Nat) : Int); omega
theorem mu (n k : Nat) : (ge n k).length = k := by simp [ge]
theorem zQ {n k : Nat} {x : Int} (h : x ∈ ge n k) : 0 <= x /\ x < ((n + k : Nat) : Int) := by
 obtain ⟨j, hj, rfl⟩ := List.mem_map.1 h
 have := List.mem_range.1 hj
 omega
theorem xx {sc : GSchema} {s : Bst} (h : BdInv sc s) {t : Int} (ht : 0 <= t /\ t < sc.Tables.length) : BdInv sc (eL sc s t) := by
 refine ⟨h.pok.new _, fun f hf => ?_, ?_, fun i hi => ?_⟩
 · have := h.fin f hf
   show 0 <= f /\ f < ((s.P ++ cI _ _).length : Int)
   rw [List.length_append]; omega
 · show (s.T ++ [t]).length = (s.S ++ [(s.P.length : Int)]).length
   simp [h.ts]
 · have hi : i < s.T.length + 1 := by have : (s.T ++ [t]).length = s.T.length + 1 := by simp
                                      have hi : i < (s.T ++ [t]).length := hi
                                      omega
   show (0 <= nth (s.T ++ [t]) i /\ nth (s.T ++ [t]) i < _) /\ 0 <= nth (s.S ++ [(s.P.length : Int)]) i /\ nth (s.S ++ [(s.P.length : Int)]) i + ((nth sc.Tables (nth (s.T ++ [t]) i).toNat).Attrs.length : Int) <= ((s.P ++ cI _ _).length : Int)
   rw [List.length_append, cO]
   by_cases e : i < s.T.length
   · rw [gF e, gF (by rw [<- h.ts]; exact e)]
     have := h.tin i e
     exact ⟨this.1, this.2.1, by have := this.2.2; omega⟩
   · have e2 : i = s.T.length := by omega
     subst e2
     rw [iE (Nat.le_refl _) (by simp)]
     have e3 : nth (s.S ++ [(s.P.length : Int)]) s.T.length = (s.P.length : Int) := by rw [h.ts, iE (Nat.le_refl _) (by simp)]; simp [nth]
     rw [e3]
     simp only [Nat.sub_self, nth]
     exact ⟨ht, by omega, by omega⟩
theorem iF {sc : GSchema} {a : List GAttr} {k0 k1 : List Int} : ∀ {l : List (GAttr × Int)} {s : Bst} {o : List Int}, BdInv sc s -> (∀ c ∈ k0, 0 <= c /\ c < s.P.length) -> k0.length = a.length -> (∀ c ∈ o, 0 <= c /\ c < s.P.length) -> (∀ x ∈ l, 0 <= x.2 /\ x.2 < s.P.length) ->
  BdInv sc (l.foldl (bT a k0 k1) (s, o)).1 /\ Keep s (l.foldl (bT a k0 k1) (s, o)).1 l.length /\ (∀ c ∈ (l.foldl (bT a k0 k1) (s, o)).2, 0 <= c /\ c < s.P.length) ∧
   (l.foldl (bT a k0 k1) (s, o)).2.length = o.length + (l.filter fun x => decide (aM a x.1.Name < 0)).length
 | [], s, o, h, _, _, ho, _ => ⟨h, Keep.refl s, ho, by simp⟩
 | x :: l, s, o, h, h0, hl, ho, hx => by
   have hx0 := hx x List.mem_cons_self
   have hxs := fun y hy => hx y (List.mem_cons_of_mem _ hy)
   rw [List.foldl_cons]
   by_cases hc : 0 <= aM a x.1.Name
   · have e : bT a k0 k1 (s, o) x = (bY s (cY k0 (aM a x.1.Name)) x.2.toNat, o) := by unfold bT; rw [if_pos hc]
     rw [e]
     have hcl := tH a x.1.Name
     have hci := ol h0 (c := aM a x.1.Name) ⟨hc, by omega⟩
     have h1 := pf h hci.2.2.2 (show x.2.toNat < s.P.length by omega)
     have hk := jN s (cY k0 (aM a x.1.Name)) x.2.toNat
     obtain ⟨g1, g2, g3, g4⟩ := iF (l := l) (o := o) h1 (by rw [hk.pl]; exact h0) hl (by rw [hk.pl]; exact ho) (by rw [hk.pl]; exact hxs)
     refine ⟨g1, (hk.trans g2).le (by simp; omega), by rw [hk.pl] at g3; exact g3, ?_⟩
     rw [g4, List.filter_cons_of_neg (by simpa using hc)]
   · have e : bT a k0 k1 (s, o) x = (s, o ++ [x.2]) := by unfold bT; rw [if_neg hc]
     rw [e]
     obtain ⟨g1, g2, g3, g4⟩ := iF (l := l) (o := o ++ [x.2]) h h0 hl (fun c hc' => by
      rcases List.mem_append.1 hc' with q | q
      · exact ho c q
      · rw [List.mem_singleton.1 q]; exact hx0) hxs
     refine ⟨g1, g2.le (by simp), g3, ?_⟩
     rw [g4, List.filter_cons_of_pos (by simp; omega)]; simp; omega
theorem qB {a b : List GAttr} (h : jG a b = true) : a.length = b.length := by
 unfold jG eqL at h; simp only [Bool.and_eq_true, decide_eq_true_eq] at h; exact h.1
theorem cG {s : GSchema} {l : Nat} {p : aQ} (h : validM s l p = true) : ∃ l', l = l' + 1 /\ fI p.Kind = true /\ (p.Kids.length : Int) = kidsN p.Kind /\ (∀ q ∈ p.Kids, validM s l' q = true) /\ (colsM s p).2 = true /\ (colsM s p).1.length = p.Attrs.length := by
 cases l with
 | zero => simp [validM] at h
 | succ l =>
   simp only [validM, Bool.and_eq_true, decide_eq_true_eq, List.all_eq_true] at h
   exact ⟨l, rfl, h.1.1.1.1.1, h.1.1.1.1.2, h.1.1.1.2, h.2.1, qB h.2.2⟩
section
variable {s : GSchema} {l : Nat} {p : aQ}
theorem vk1 (h : validM s l p = true) (hk : p.Kind = 1) : (0 <= p.Table /\ p.Table < s.Tables.length) /\ p.Attrs.length = (nth s.Tables p.Table.toNat).Attrs.length := by
 obtain ⟨l', _, _, _, _, h1, h2⟩ := cG h
 have e : colsM s p = if 0 <= p.Table /\ p.Table < s.Tables.length then (iW (nth s.Tables p.Table.toNat) p.Attrs, true) else ([], false) := by simp [colsM, hk]
 rw [e] at h1 h2
 split at h1
 · rename_i q
   rw [if_pos q] at h2
   exact ⟨q, by rw [<- h2]; simp [iW]⟩
 · cases h1
theorem vk2 (h : validM s l p = true) (hk : p.Kind = 2) : p.Kids.length = 1 /\ (∀ t ∈ p.Tests, dY t (nth p.Kids 0).Attrs.length = true) /\ p.Attrs.length = (nth p.Kids 0).Attrs.length := by
 obtain ⟨l', _, _, hn, _, h1, h2⟩ := cG h
 have e : colsM s p = ((nth p.Kids 0).Attrs, decide (0 < (p.Tests.length : Int)) && !(p.Tests.any fun t => !dY t (nth p.Kids 0).Attrs.length)) := by simp [colsM, hk]
 rw [e] at h1 h2
 rw [hk] at hn
 simp [kidsN] at hn
 simp only [Bool.and_eq_true, Bool.not_eq_true', List.any_eq_false] at h1
 exact ⟨by omega, fun t ht => by simpa using h1.2 t ht, h2.symm⟩
theorem vk3 (h : validM s l p = true) (hk : p.Kind = 3) : p.Kids.length = 1 /\ (∀ c ∈ p.Cols, 0 <= c /\ c < (nth p.Kids 0).Attrs.length) /\ p.Attrs.length = p.Cols.length := by
 obtain ⟨l', _, _, hn, _, h1, h2⟩ := cG h
 have e : colsM s p = (eE (nth p.Kids 0).Attrs p.Cols, dX (nth p.Kids 0).Attrs.length p.Cols) := by simp [colsM, hk]
 rw [e] at h1 h2
 rw [hk] at hn
 simp [kidsN] at hn
 have h3 := h1
 simp only [dX, List.all_eq_true, Bool.and_eq_true, decide_eq_true_eq] at h1
 refine ⟨by omega, h1, ?_⟩
 rw [<- h2]
 show (eE _ _).length = _
 rw [eE, if_pos h3]; simp [jd]
theorem vk4 (h : validM s l p = true) (hk : p.Kind = 4) : p.Kids.length = 2 /\ p.Attrs.length = (dv (nth p.Kids 0).Attrs (nth p.Kids 1).Attrs).length := by
 obtain ⟨l', _, _, hn, _, h1, h2⟩ := cG h
 have e : colsM s p = if iX (nth p.Kids 0).Attrs (nth p.Kids 1).Attrs = true then (dv (nth p.Kids 0).Attrs (nth p.Kids 1).Attrs, true) else ([], false) := by simp [colsM, hk]
 rw [e] at h1 h2
 rw [hk] at hn
 simp [kidsN] at hn
 split at h1
 · rename_i q
   rw [if_pos q] at h2
   exact ⟨by omega, h2.symm⟩
 · cases h1
theorem vk7 (h : validM s l p = true) (hk : p.Kind = 7) : p.Kids.length = 1 /\ p.Attrs.length = (nth p.Kids 0).Attrs.length := by
 obtain ⟨l', _, _, hn, _, h1, h2⟩ := cG h
 have e : colsM s p = if ln p = true then (zD p, true) else ([], false) := by simp [colsM, hk]
 rw [e] at h1 h2
 rw [hk] at hn
 simp [kidsN] at hn
 split at h1
 · rename_i q
   rw [if_pos q] at h2
   exact ⟨by omega, by rw [<- h2]; simp [zD]⟩
 · cases h1
end
theorem mv {s : GSchema} (h : no s = true) {i : Nat} (hi : i < s.Tables.length) : (nth s.Tables i).Attrs.length <= 12 := by
 unfold no at h
 simp only [Bool.and_eq_true, decide_eq_true_eq] at h
 have h1 := ez.1 h.2 i hi
 simp only [Bool.and_eq_true] at h1
 have h2 := h1.1
 unfold rightM szT at h2
 simp only [Bool.and_eq_true, decide_eq_true_eq] at h2
 exact h2.1.1.1.1.2.2.1
structure WOk (sc : GSchema) (n : Nat) (s : Bst) (p : aQ) (r : Bst × List Int) : Prop where
 inv : BdInv sc r.1
 pl : s.P.length <= r.1.P.length
 pm : r.1.P.length <= s.P.length + 12 * cZ n p
 fl : r.1.F.length <= s.F.length + binds n p
 tl : r.1.T.length <= s.T.length + cZ n p
 li : r.1.bad = false -> r.2.length = p.Attrs.length /\ ∀ x ∈ r.2, 0 <= x /\ x < r.1.P.length
structure KOk (sc : GSchema) (n : Nat) (s : Bst) (l : List aQ) (r : Bst × List (List Int)) : Prop where
 inv : BdInv sc r.1
 pl : s.P.length <= r.1.P.length
 pm : r.1.P.length <= s.P.length + 12 * (l.map (cZ n)).sum
 fl : r.1.F.length <= s.F.length + (l.map (binds n)).sum
 tl : r.1.T.length <= s.T.length + (l.map (cZ n)).sum
 le : r.2.length <= l.length
 li : r.1.bad = false -> r.2.length = l.length /\ ∀ i, i < l.length -> (nth r.2 i).length = (nth l i).Attrs.length /\ ∀ x ∈ nth r.2 i, 0 <= x /\ x < r.1.P.length
theorem pg {sc : GSchema} {n : Nat} {f : Bst -> aQ -> Bst × List Int} : ∀ {l : List aQ} {s : Bst}, (∀ q ∈ l, ∀ s, BdInv sc s -> WOk sc n s q (f s q)) -> BdInv sc s -> KOk sc n s l (kidsS f s l)
 | [], s, _, h => ⟨h, Nat.le_refl _, by simp [kidsS], by simp [kidsS], by simp [kidsS], by simp [kidsS], fun _ => ⟨by simp [kidsS], fun i hi => by simp at hi⟩⟩
 | q :: l, s, hf, h => by
   have h1 := hf q List.mem_cons_self s h
   have hl1 := h1.pl; have hl2 := h1.pm; have hl3 := h1.fl; have hl4 := h1.tl
   have hs1 : ((q :: l).map (cZ n)).sum = cZ n q + (l.map (cZ n)).sum := by simp
   have hs2 : ((q :: l).map (binds n)).sum = binds n q + (l.map (binds n)).sum := by simp
   unfold kidsS
   by_cases hb : (f s q).1.bad = true
   · rw [if_pos hb]
     refine ⟨h1.inv, h1.pl, ?_, ?_, ?_, by simp, fun e => by rw [show (f s q).1.bad = false from e] at hb; cases hb⟩
     · show (f s q).1.P.length <= _; rw [hs1]; omega
     · show (f s q).1.F.length <= _; rw [hs2]; omega
     · show (f s q).1.T.length <= _; rw [hs1]; omega
   · rw [if_neg hb]
     have hb' : (f s q).1.bad = false := Bool.eq_false_iff.2 hb
     have h2 := pg (l := l) (fun q' hq' => hf q' (List.mem_cons_of_mem _ hq')) h1.inv
     have hk1 := h2.pl; have hk2 := h2.pm; have hk3 := h2.fl; have hk4 := h2.tl; have hk5 := h2.le
     refine ⟨h2.inv, by show s.P.length <= (kidsS f (f s q).1 l).1.P.length; omega, ?_, ?_, ?_, ?_, fun e => ?_⟩
     · show (kidsS f (f s q).1 l).1.P.length <= _; rw [hs1]; omega
     · show (kidsS f (f s q).1 l).1.F.length <= _; rw [hs2]; omega
     · show (kidsS f (f s q).1 l).1.T.length <= _; rw [hs1]; omega
     · show ((f s q).2 :: (kidsS f (f s q).1 l).2).length <= _; simp; omega
     · have e : (kidsS f (f s q).1 l).1.bad = false := e
       obtain ⟨g1, g2⟩ := h2.li e
       obtain ⟨g3, g4⟩ := h1.li hb'
       refine ⟨by show ((f s q).2 :: (kidsS f (f s q).1 l).2).length = _; simp [g1], fun i hi => ?_⟩
       cases i with
       | zero => exact ⟨g3, fun x hx => by have := g4 x hx; show 0 <= x /\ x < ((kidsS f (f s q).1 l).1.P.length : Int); omega⟩
       | succ i => exact g2 i (by simpa using hi)
theorem qC {f : Bst -> aQ -> Bst × List Int} {l2 : List aQ} : ∀ {l1 : List aQ} {s : Bst}, s.bad = false -> (kidsS f s l1).1.bad = true -> kidsS f s (l1 ++ l2) = kidsS f s l1
 | [], s, h, h1 => by rw [show (kidsS f s []).1.bad = s.bad from rfl, h] at h1; cases h1
 | q :: l1, s, h, h1 => by
   rw [List.cons_append]
   unfold kidsS at h1 ⊢
   by_cases hb : (f s q).1.bad = true
   · rw [if_pos hb, if_pos hb]
   · rw [if_neg hb] at h1 ⊢
     rw [if_neg hb, qC (Bool.eq_false_iff.2 hb) h1]
theorem qD {f : Bst -> aQ -> Bst × List Int} {q : aQ} : ∀ {l : List aQ} {s : Bst}, s.bad = false -> (kidsS f s l).1.bad = false ->
  kidsS f s (l ++ [q]) = ((f (kidsS f s l).1 q).1, if (f (kidsS f s l).1 q).1.bad = true then (kidsS f s l).2 else (kidsS f s l).2 ++ [(f (kidsS f s l).1 q).2])
 | [], s, h, _ => by
   show kidsS f s [q] = _
   unfold kidsS
   by_cases hb : (f s q).1.bad = true
   · rw [if_pos hb]; simp [kidsS, hb]
   · rw [if_neg hb]; simp [kidsS, hb]
 | x :: l, s, h, h1 => by
   rw [List.cons_append]
   by_cases hb : (f s x).1.bad = true
   · exfalso
     unfold kidsS at h1; rw [if_pos hb] at h1
     rw [show (f s x).1.bad = false from h1] at hb; cases hb
   · have e1 : ∀ m, kidsS f s (x :: m) = ((kidsS f (f s x).1 m).1, (f s x).2 :: (kidsS f (f s x).1 m).2) := fun m => by
       conv => lhs; unfold kidsS
       rw [if_neg hb]
     rw [e1] at h1 ⊢
     rw [e1]
     have ih := qD (q := q) (l := l) (Bool.eq_false_iff.2 hb) h1
     rw [ih]
     refine Prod.ext rfl ?_
     show (f s x).2 :: (if _ then _ else _) = if _ then _ else _
     split <;> simp
theorem ph {α β : Type} {a : List α} {b : List β} {x : α × β} (h : x ∈ a.zip b) : x.2 ∈ b := (List.of_mem_zip h).2
theorem tP {a : List GAttr} : ∀ {b : List GAttr} {k : List Int}, k.length = b.length -> ((b.zip k).filter fun x => decide (aM a x.1.Name < 0)).length = (b.filter fun x => decide (aM a x.Name < 0)).length
 | [], _, _ => by simp
 | x :: b, [], h => by simp at h
 | x :: b, y :: k, h => by
   have ih := tP (a := a) (b := b) (k := k) (by simpa using h)
   rw [List.zip_cons_cons]
   by_cases hc : aM a x.Name < 0
   · rw [List.filter_cons_of_pos (by simpa using hc), List.filter_cons_of_pos (by simpa using hc), List.length_cons, List.length_cons, ih]
   · rw [List.filter_cons_of_neg (by simpa using hc), List.filter_cons_of_neg (by simpa using hc), ih]
theorem Dj {sc : GSchema} (hs : no sc = true) {n l : Nat} {p : aQ} {s s0 : Bst} {ks : List (List Int)} (hv : validM sc l p = true) (hw : bX p.Kind = true) (hk : KOk sc n s0 p.Kids (s, ks)) (hb : s.bad = false) : WOk sc (n + 1) s0 p (nC sc p s ks) := by
 obtain ⟨h1, h2⟩ := hk.li hb
 have hi : BdInv sc s := hk.inv
 have k1 : s0.P.length <= s.P.length := hk.pl
 have k2 : s.P.length <= s0.P.length + 12 * (p.Kids.map (cZ n)).sum := hk.pm
 have k3 : s.F.length <= s0.F.length + (p.Kids.map (binds n)).sum := hk.fl
 have k4 : s.T.length <= s0.T.length + (p.Kids.map (cZ n)).sum := hk.tl
 have en : cZ (n + 1) p = 1 + (p.Kids.map (cZ n)).sum := rfl
 have eb : binds (n + 1) p = p.Tests.length + (nth p.Kids 1).Attrs.length + (p.Kids.map (binds n)).sum := rfl
 have h1 : ks.length = p.Kids.length := h1
 have h2 : ∀ i, i < p.Kids.length -> (nth ks i).length = (nth p.Kids i).Attrs.length /\ ∀ x ∈ nth ks i, 0 <= x /\ x < s.P.length := h2
 have keep : ∀ {s' : Bst} {o : List Int} {k : Nat}, Keep s s' k -> BdInv sc s' -> k <= p.Tests.length + (nth p.Kids 1).Attrs.length -> o.length = p.Attrs.length -> (∀ x ∈ o, 0 <= x /\ x < s.P.length) -> WOk sc (n + 1) s0 p (s', o) := by
  intro s' o k hkp hinv hle hlen hin
  have e1 := hkp.pl; have e2 := hkp.fl; have e3 := hkp.t
  refine ⟨hinv, ?_, ?_, ?_, ?_, fun _ => ⟨hlen, ?_⟩⟩
  · show s0.P.length <= s'.P.length; omega
  · show s'.P.length <= _; rw [en]; omega
  · show s'.F.length <= _; rw [eb]; omega
  · show s'.T.length <= _; rw [e3, en]; omega
  · show ∀ x ∈ o, 0 <= x /\ x < (s'.P.length : Int); rw [e1]; exact hin
 unfold nC
 by_cases c1 : p.Kind = 1
 · rw [if_pos c1]
   obtain ⟨ht, hl⟩ := vk1 hv c1
   have h12 := mv hs (i := p.Table.toNat) (by omega)
   refine ⟨xx hi ht, ?_, ?_, ?_, ?_, fun _ => ⟨?_, ?_⟩⟩
   · show s0.P.length <= (s.P ++ cI _ _).length; rw [List.length_append]; omega
   · show (s.P ++ cI _ _).length <= _; rw [List.length_append, cO, en]; omega
   · show s.F.length <= _; rw [eb]; omega
   · show (s.T ++ [p.Table]).length <= _; rw [List.length_append, List.length_singleton, en]; omega
   · show (ge _ _).length = _; rw [mu, hl]
   · intro x hx
     have := zQ hx
     show 0 <= x /\ x < ((s.P ++ cI _ _).length : Int)
     rw [List.length_append, cO]; omega
 rw [if_neg c1]
 by_cases c2 : p.Kind = 2
 · rw [if_pos c2]
   obtain ⟨hn, ht, hl⟩ := vk2 hv c2
   have h0 := h2 0 (by omega)
   obtain ⟨g1, g2⟩ := jO (cols := nth ks 0) (l := p.Tests) hi h0.2 (by rw [h0.1]; exact ht)
   exact keep g2 g1 (by omega) (by rw [h0.1, hl]) h0.2
 rw [if_neg c2]
 by_cases c3 : p.Kind = 3
 · rw [if_pos c3]
   obtain ⟨hn, ht, hl⟩ := vk3 hv c3
   have h0 := h2 0 (by omega)
   refine keep (Keep.refl s) hi (by omega) (by rw [List.length_map, hl]) fun x hx => ?_
   obtain ⟨c, hc, rfl⟩ := List.mem_map.1 hx
   have := ht c hc
   exact h0.2 _ (nth_mem (by rw [h0.1]; omega))
 rw [if_neg c3]
 by_cases c4 : p.Kind = 4
 · rw [if_pos c4]
   obtain ⟨hn, hl⟩ := vk4 hv c4
   have h0 := h2 0 (by omega)
   have h1' := h2 1 (by omega)
   obtain ⟨g1, g2, g3, g4⟩ := iF (sc := sc) (a := (nth p.Kids 0).Attrs) (k0 := nth ks 0) (k1 := nth ks 1) (l := (nth p.Kids 1).Attrs.zip (nth ks 1)) (o := nth ks 0) hi h0.2 h0.1 h0.2 (fun x hx => h1'.2 _ (ph hx))
   have hz : ((nth p.Kids 1).Attrs.zip (nth ks 1)).length = (nth p.Kids 1).Attrs.length := by rw [List.length_zip, h1'.1]; simp
   rw [hz] at g2
   refine keep g2 g1 (by omega) ?_ g3
   show ((((nth p.Kids 1).Attrs.zip (nth ks 1)).foldl _ (s, nth ks 0)).2).length = _
   rw [g4, hl, tP h1'.1, h0.1]; unfold dv; rw [List.length_append]
 rw [if_neg c4]
 have c7 : p.Kind = 7 := by unfold bX at hw; simp only [Bool.or_eq_true, decide_eq_true_eq] at hw; omega
 obtain ⟨hn, hl⟩ := vk7 hv c7
 have h0 := h2 0 (by omega)
 exact keep (Keep.refl s) hi (by omega) (by rw [h0.1, hl]) h0.2
theorem WOk.bad {sc : GSchema} {n : Nat} {p : aQ} {s s0 : Bst} {ks : List (List Int)} (hk : KOk sc n s0 p.Kids (s, ks)) (hb : s.bad = true) : WOk sc (n + 1) s0 p (s, []) := by
 have k1 : s0.P.length <= s.P.length := hk.pl
 have k2 : s.P.length <= s0.P.length + 12 * (p.Kids.map (cZ n)).sum := hk.pm
 have k3 : s.F.length <= s0.F.length + (p.Kids.map (binds n)).sum := hk.fl
 have k4 : s.T.length <= s0.T.length + (p.Kids.map (cZ n)).sum := hk.tl
 have en : cZ (n + 1) p = 1 + (p.Kids.map (cZ n)).sum := rfl
 have eb : binds (n + 1) p = p.Tests.length + (nth p.Kids 1).Attrs.length + (p.Kids.map (binds n)).sum := rfl
 refine ⟨hk.inv, k1, ?_, ?_, ?_, fun e => by rw [show s.bad = false from e] at hb; cases hb⟩
 · show s.P.length <= _; rw [en]; omega
 · show s.F.length <= _; rw [eb]; omega
 · show s.T.length <= _; rw [en]; omega
theorem kA {sc : GSchema} (hs : no sc = true) : ∀ {n l : Nat} {p : aQ} {s : Bst}, Dep n p -> validM sc l p = true -> BdInv sc s -> WOk sc n s p (walkS sc n s p)
 | 0, _, _, _, hd, _, _ => hd.elim
 | n + 1, l, p, s, hd, hv, hi => by
   obtain ⟨l', rfl, _, _, hvk, _, _⟩ := cG hv
   have hk : KOk sc n s p.Kids (kidsS (walkS sc n) s p.Kids) := pg (fun q hq s' hs' => kA hs (hd q hq) (hvk q hq) hs') hi
   unfold walkS
   by_cases hw : bX p.Kind = false
   · rw [if_pos hw]
     have en : cZ (n + 1) p = 1 + (p.Kids.map (cZ n)).sum := rfl
     exact ⟨⟨hi.pok, hi.fin, hi.ts, hi.tin⟩, Nat.le_refl _, by show s.P.length <= _; omega, by show s.F.length <= _; omega, by show s.T.length <= _; omega, fun e => by cases e⟩
   · rw [if_neg hw]
     by_cases hb : (kidsS (walkS sc n) s p.Kids).1.bad = true
     · rw [if_pos hb]; exact WOk.bad hk hb
     · rw [if_neg hb]; exact Dj hs hv (by simpa using hw) hk (Bool.eq_false_iff.2 hb)
open Go
def xy (k : Env -> List SP -> Prop) : Prop := ∀ E L L', L.Perm L' -> k E L -> k E L'
theorem tQ {E : Env} {d e : Nat} {A B : Ty} (h : d ≠ e) : upd (upd E d A) e B = upd (upd E e B) d A := by
 have := cD (E := E) (d := some d) (e := some e) (A := A) (B := B) (gW h)
 simpa [kf] using this
theorem qE {ts : List Nat} {E : Env} {d : Nat} {A : Ty} (h : memN d ts = false) : cc ts (upd E d A) = cc ts E := by
 have := bg (ts := ts) (E := E) (d := some d) (A := A) (by simpa [inO] using h)
 simpa [kf] using this
section
variable {C : Cx} {ops : Array Oper} {k : Env -> List SP -> Prop}
end
theorem F7 {L L' : List SP} (p : L.Perm L') : LSub L L' := by
 induction p with
 | nil => exact LSub.rfl
 | cons x _ ih => exact LSub.head ih
 | swap x y l => exact LSub.swap
 | trans _ _ h1 h2 => exact LSub.trans h1 h2
structure Al2 where
 i : Nat
 ts : List Nat
 d : Nat
 I : SP
 A : Value -> Ty
 M : Value -> SP
def AlOk2 (C : Cx) (ops : Array Oper) (E : Env) (a : Al2) : Prop := ∃ o, ops[a.i]? = some o /\ o.dst = some a.d /\ Nat.blt a.d C.N = true /\ o.guard = none /\ ∀ L, Step (X := Value) C o (cc a.ts E) (a.I :: L) a.A (fun v => a.M v :: L)
def Als2 (C : Cx) (ops : Array Oper) (k : Env -> List SP -> Prop) : List Al2 -> Env -> List SP -> Prop
 | [], E, L => k E L
 | a :: als, E, L => AlOk2 C ops E a /\ ∀ v, Als2 C ops k als (upd E a.d (a.A v)) (a.M v :: L)
def mx (a b : Al2) : Bool := !Nat.beq a.i b.i && !memN a.d b.ts && !memN b.d a.ts && !Nat.beq a.d b.d
def jQ : List Al2 -> Bool
 | [] => true
 | a :: l => l.all (mx a) && jQ l
def Fq (F : List SP) : Nat -> List SP
 | 0 => []
 | _ + 1 => F
def JF (C : Cx) (ops : Array Oper) (F : List SP) (k : Env -> List SP -> Prop) : List It3 -> Env -> List SP -> Prop
 | [], E, L => k E L
 | x :: its, E, L => ∃ o A, ops[x.i]? = some o /\ ltO o.dst C.N = true /\ (∀ L, StepG C ops o (cc x.ts E) (Fq F x.c ++ L) A) /\ JF C ops F k its (kf E o.dst A) L
section
variable {C : Cx} {ops : Array Oper} {F : List SP} {k : Env -> List SP -> Prop} {its : List It3} {E : Env} {L : List SP} {i : Nat} {ts : List Nat} {o : Oper}
theorem oo (h : k E L) : JF C ops F k [] E L := h
theorem ba {A : Ty} {d : Nat} (ho : ops.toList[i]? = some o) (hg : o.guard = none) (hd : o.dst = some d) (hN : Nat.blt d C.N = true) (hs : ∀ L, a8 C o (cc ts E) L A)
  (hk : JF C ops F k its (upd E d A) L) : JF C ops F k (⟨i, ts, 0⟩ :: its) E L :=
 ⟨o, A, by simpa using ho, by rw [hd]; exact hN, fun L => .inl ⟨hg, hs L⟩, by rw [hd]; exact hk⟩
theorem kB {A : Ty} {d : Nat} (ho : ops.toList[i]? = some o) (hg : o.guard = none) (hd : o.dst = some d) (hN : Nat.blt d C.N = true) (hs : ∀ L, a8 C o (cc ts E) (F ++ L) A)
  (hk : JF C ops F k its (upd E d A) L) : JF C ops F k (⟨i, ts, 1⟩ :: its) E L :=
 ⟨o, A, by simpa using ho, by rw [hd]; exact hN, fun L => .inl ⟨hg, hs L⟩, by rw [hd]; exact hk⟩
end
section
variable {C : Cx} {ops : Array Oper} {F : List SP} {k : Env -> List SP -> Prop}
theorem AlOk2.same {E : Env} {a : Al2} {d : Nat} {A : Ty} (h : memN d a.ts = false) : AlOk2 C ops (upd E d A) a ↔ AlOk2 C ops E a := by
 unfold AlOk2; rw [qE h]
theorem Gx (hk : xy k) : ∀ {als : List Al2} {E : Env} {L L' : List SP}, L.Perm L' -> Als2 C ops k als E L -> Als2 C ops k als E L'
 | [], _, _, _, p, h => hk _ _ _ p h
 | a :: als, E, L, L', p, ⟨h1, h2⟩ => ⟨h1, fun v => Gx hk (List.Perm.cons _ p) (h2 v)⟩
theorem Gy (hk : xy k) : ∀ {l1 : List Al2} {b : Al2} {l2 : List Al2} {E : Env} {L : List SP}, (∀ a ∈ l1, mx a b = true) -> Als2 C ops k (l1 ++ b :: l2) E L -> Als2 C ops k (b :: (l1 ++ l2)) E L
 | [], _, _, _, _, _, h => h
 | a :: l1, b, l2, E, L, hp, ⟨h1, h2⟩ => by
   have hab := hp a (by simp)
   simp only [mx, Bool.and_eq_true, Bool.not_eq_true'] at hab
   obtain ⟨⟨⟨p1, p2⟩, p3⟩, p4⟩ := hab
   have p4 : a.d ≠ b.d := fun e => by rw [e] at p4; simp at p4
   have ih := fun v => Gy hk (fun x hx => hp x (by simp [hx])) (h2 v)
   refine ⟨(AlOk2.same p2).1 (ih default).1, fun v => ⟨(AlOk2.same p3).2 h1, fun u => ?_⟩⟩
   have := (ih u).2 v
   rw [tQ p4] at this
   exact Gx hk (List.Perm.swap _ _ _) this
theorem tR (hk : xy k) : ∀ {its : List It3}, xy (JF C ops F k its)
 | [] => hk
 | x :: its => by
   rintro E L L' p ⟨o, A, h1, h2, h3, h4⟩
   exact ⟨o, A, h1, h2, h3, tR hk _ _ _ p h4⟩
theorem qF {k' : Env -> List SP -> Prop} {b : Al2} : ∀ {its : List It3} {E : Env} {L : List SP}, (∀ x ∈ its, memN b.d x.ts = false /\ inO (cT ops.toList x.i) b.ts = false /\ eqO (some b.d) (cT ops.toList x.i) = false) ->
  (∀ E L, k E L -> AlOk2 C ops E b /\ ∀ v, k' (upd E b.d (b.A v)) (b.M v :: L)) -> JF C ops F k its E L -> AlOk2 C ops E b /\ ∀ v, JF C ops F k' its (upd E b.d (b.A v)) (b.M v :: L)
 | [], E, L, _, hk, h => hk E L h
 | x :: its, E, L, hp, hk, h => by
   obtain ⟨o, A, h1, h2, h3, h4⟩ := h
   obtain ⟨p1, p2, p3⟩ := hp x (by simp)
   have hd : cT ops.toList x.i = o.dst := by simp [cT, h1]
   simp only [hd] at p2 p3
   obtain ⟨g1, g2⟩ := qF (fun x hx => hp x (by simp [hx])) hk h4
   refine ⟨?_, fun v => ⟨o, A, h1, h2, fun L => ?_, ?_⟩⟩
   · obtain ⟨ob, q1, q2, q3, q4, q5⟩ := g1
     rw [bg p2] at q5
     exact ⟨ob, q1, q2, q3, q4, q5⟩
   · rw [qE p1]; exact h3 L
   · have := g2 v
     have e : upd (kf E o.dst A) b.d (b.A v) = kf (upd E b.d (b.A v)) o.dst A := by
      have := cD (E := E) (d := some b.d) (e := o.dst) (A := b.A v) (B := A) p3
      simpa [kf] using this.symm
     rw [e] at this
     exact this
theorem sy : ∀ {l1 : List It3} {b : It3} {l2 : List It3} {E : Env} {L : List SP},
  (∀ a ∈ l1, cH (bU ops.toList a) (bU ops.toList b) = true) -> (∀ a ∈ l1, a.i ∉ bJ ops.toList b.i) -> JF C ops F k (l1 ++ b :: l2) E L -> JF C ops F k (b :: (l1 ++ l2)) E L
 | [], _, _, _, _, _, _, h => h
 | xa :: l1, xb, l2, E, L, hp, hn, h => by
   obtain ⟨oa, A, ha, hla, hsa, hk⟩ := h
   have ih := sy (fun a m => hp a (by simp [m])) (fun a m => hn a (by simp [m])) hk
   have hpair := hp xa (by simp)
   have hna := hn xa (by simp)
   have hda : cT ops.toList xa.i = oa.dst := by simp [cT, ha]
   have hpair' : inO oa.dst xb.ts = false /\ inO (cT ops.toList xb.i) xa.ts = false /\ eqO oa.dst (cT ops.toList xb.i) = false := by
    simp only [cH, bU, hda, Bool.and_eq_true, Bool.or_eq_true, Bool.not_eq_true', cM] at hpair
    rcases hpair.2 with q | q
    · exact absurd q hna
    · exact ⟨q.1.1, q.1.2, q.2⟩
   obtain ⟨p1, p2, p3⟩ := hpair'
   obtain ⟨ob, B, hb, hlb, hsb, hkb⟩ := ih
   have hdb : cT ops.toList xb.i = ob.dst := by simp [cT, hb]
   rw [hdb] at p2 p3
   refine ⟨ob, B, hb, hlb, fun L => (hsb L).same (bg p1), oa, A, ha, hla, fun L => (hsa L).same (bg p2).symm, ?_⟩
   rw [cD p3] at hkb
   exact hkb
def upP (k : Env -> List SP -> Prop) : Env -> List SP -> Prop := fun E L => ∃ L0, L.Perm L0 /\ k E L0
theorem pi : xy (upP k) := fun E L L' p ⟨L0, q, h⟩ => ⟨L0, p.symm.trans q, h⟩
theorem A9 : ∀ {its : List It3} {E : Env} {L : List SP}, JF C ops F (upP k) its E L -> ∃ L0, L.Perm L0 /\ JF C ops F k its E L0
 | [], _, _, h => h
 | x :: its, E, L, ⟨o, A, h1, h2, h3, h4⟩ => by
   obtain ⟨L0, p, h5⟩ := A9 h4
   exact ⟨L0, p, o, A, h1, h2, h3, h5⟩
theorem BV {tail : List It3} : ∀ {its : List It3} {E : Env} {L : List SP}, (∀ x ∈ its, x.c <= 1) -> JF C ops F (fun E L => JX C ops k tail E (F ++ L)) its E L -> JX C ops k (its ++ tail) E (F ++ L)
 | [], _, _, _, h => h
 | ⟨i, ts, 0⟩ :: its, E, L, hc, ⟨o, A, h1, h2, h3, h4⟩ => ⟨o, A, h1, h2, h3, BV (fun x hx => hc x (by simp [hx])) h4⟩
 | ⟨i, ts, 1⟩ :: its, E, L, hc, ⟨o, A, h1, h2, h3, h4⟩ => ⟨o, A, h1, h2, h3 L, BV (fun x hx => hc x (by simp [hx])) h4⟩
 | ⟨i, ts, c + 2⟩ :: its, E, L, hc, _ => by have := hc ⟨i, ts, c + 2⟩ (by simp); simp at this
end
def hX (ops : List Oper) (frees tail : List It3) (a : Al2) : Bool :=
 (bJ ops a.i).all (Nat.blt · a.i) && Nat.blt a.i ops.length &&
 (frees.all fun x => !memN a.d x.ts && (memN x.i (bJ ops a.i) || !inO (cT ops x.i) a.ts) && !eqO (some a.d) (cT ops x.i) && !Nat.beq a.i x.i) &&
 (tail.all fun x => !Nat.beq a.i x.i && (memN a.i (bJ ops x.i) || (bJ ops x.i).any fun r => tail.any fun y => Nat.beq r y.i))
def okZ (ops : List Oper) (frees : List It3) (als : List Al2) (tail : List It3) : Bool :=
 let pls := (frees ++ tail).map (bU ops)
 cV pls && (pls.all fun p => p.aft.all (Nat.blt · p.i)) && ((frees ++ tail).all fun x => Nat.blt x.i ops.length) && (frees.all fun x => Nat.ble x.c 1) &&
 (List.range ops.length).all (fun i => ((frees ++ tail).any fun x => Nat.beq i x.i) || als.any fun a => Nat.beq i a.i) &&
 jQ als && als.all (hX ops frees tail)
theorem my : ∀ {l1 l2 : List Pl3}, cV (l1 ++ l2) = true -> cV l2 = true
 | [], _, h => h
 | a :: l1, l2, h => by
   simp only [List.cons_append, cV, Bool.and_eq_true] at h
   exact my h.2
theorem xz {ops : List Oper} {l1 l2 : List It3} {b : It3} (h : cV ((l1 ++ b :: l2).map (bU ops)) = true) : ∀ x ∈ l1 ++ l2, x.i ≠ b.i := fun x hx e => by
 rw [List.map_append, List.map_cons] at h
 rcases List.mem_append.1 hx with hx | hx
 · have := e9 h (bU ops x) (List.mem_map_of_mem hx)
   simp only [cH, bU, Bool.and_eq_true, Bool.not_eq_true'] at this
   rw [e] at this; simp at this
 · have := my h
   simp only [cV, Bool.and_eq_true, List.all_eq_true] at this
   have := this.1.1 _ (List.mem_map_of_mem hx)
   simp only [cH, bU, Bool.and_eq_true, Bool.not_eq_true'] at this
   rw [e] at this; simp at this
theorem kC {b : Al2} {l2 : List Al2} : ∀ {l1 : List Al2}, jQ (l1 ++ b :: l2) = true -> jQ (l1 ++ l2) = true /\ (∀ x ∈ l1 ++ l2, x.i ≠ b.i) /\ ∀ a ∈ l1, mx a b = true
 | [], h => by
   simp only [List.nil_append, jQ, Bool.and_eq_true, List.all_eq_true] at h
   refine ⟨h.2, fun x hx e => ?_, fun a ha => by cases ha⟩
   have := h.1 x hx
   simp only [mx, Bool.and_eq_true, Bool.not_eq_true'] at this
   rw [e] at this; simp at this
 | a :: l1, h => by
   simp only [List.cons_append, jQ, Bool.and_eq_true, List.all_eq_true] at h ⊢
   obtain ⟨h1, h2, h3⟩ := kC h.2
   refine ⟨⟨fun x hx => h.1 x ?_, h1⟩, fun x hx e => ?_, fun x hx => ?_⟩
   · rcases List.mem_append.1 hx with hx | hx <;> simp [hx]
   · rcases List.mem_cons.1 hx with rfl | hx
     · have := h.1 b (by simp)
       simp only [mx, Bool.and_eq_true, Bool.not_eq_true'] at this
       rw [e] at this; simp at this
     · exact h2 x hx e
   · rcases List.mem_cons.1 hx with rfl | hx
     · exact h.1 b (by simp)
     · exact h3 x hx
theorem tS {C : Cx} {ops : Array Oper} {F : List SP} {Q : Exit -> Act -> World -> Prop} {tail : List It3} : ∀ (fuel : Nat) (frees : List It3) (als : List Al2) (listed : Array Bool) (E : Env) (L : List SP), frees.length + als.length + tail.length <= fuel -> listed.size = ops.size ->
  (∀ i, i < ops.size -> (listed.getD i true = false ↔ (∃ x ∈ frees ++ tail, x.i = i) \/ ∃ a ∈ als, a.i = i)) -> cV ((frees ++ tail).map (bU ops.toList)) = true -> (∀ x ∈ frees ++ tail, x.i < ops.size /\ ∀ e ∈ bJ ops.toList x.i, e < x.i) -> (∀ x ∈ frees, x.c <= 1) -> jQ als = true -> (∀ a ∈ als, hX ops.toList frees tail a = true) ->
  JF C ops F (Als2 C ops (upP fun E' L' => JX C ops (fun E' L' => K C (Q .normal) E' L') tail E' (F ++ L')) als) frees E L -> K C (fun a w => wpAnyIn (Fw C.ro) 0 C.P .any ops Q fuel listed a w) E (F ++ (als.map (·.I) ++ L)) := by
 intro fuel
 induction fuel with
 | zero =>
   intro frees als listed E L hlen hsz hin hok hlt hc hi hal hJ
   have h1 : frees = [] := List.length_eq_zero_iff.1 (by omega)
   have h2 : als = [] := List.length_eq_zero_iff.1 (by omega)
   have h3 : tail = [] := List.length_eq_zero_iff.1 (by omega)
   subst h1; subst h2; subst h3
   obtain ⟨L0, p, hJ⟩ := hJ
   exact a7 (F7 (List.Perm.append_left F p)) (oU 0 [] listed E (F ++ L0) (by simp) hsz (fun i h => by rw [hin i h]; simp) rfl (fun x hx => by cases hx) hJ)
 | succ fuel ih =>
   intro frees als listed E L hlen hsz hin hok hlt hc hi hal hJ
   match als, hlen, hin, hi, hal, hJ with
   | [], hlen, hin, hi, hal, hJ =>
     obtain ⟨L0, p, hJ⟩ := A9 hJ
     exact a7 (F7 (List.Perm.append_left F p)) (oU (fuel + 1) (frees ++ tail) listed E (F ++ L0) (by simp at hlen ⊢; omega) hsz (fun i h => by rw [hin i h]; simp) hok hlt (BV hc hJ))
   | a0 :: als0, hlen, hin, hi, hal, hJ =>
     generalize hals : a0 :: als0 = als at *
     have ha0 : a0 ∈ als := by rw [<- hals]; simp
     have hall : ∀ a ∈ als, a.i < ops.size /\ ∀ e ∈ bJ ops.toList a.i, e < a.i := fun a ha => by
      have := hal a ha
      simp only [hX, Bool.and_eq_true, List.all_eq_true] at this
      exact ⟨by simpa using this.1.1.2, fun e he => by simpa using this.1.1.1 e he⟩
     intro a w p
     refine ⟨fun hr => ?_, fun i hii => ?_⟩
     · exfalso
       have hall2 : ∀ i, i < ops.size -> listed.getD i true = true := by
        intro i
        induction i using Nat.strongRecOn with
        | _ i ihi =>
          intro hilt
          cases hl : listed.getD i true with
          | true => rfl
          | false =>
            have ho : ops[i]? = some ops[i] := Array.getElem?_eq_getElem hilt
            have h1 : ∀ e ∈ bJ ops.toList i, e < i := by
             rcases (hin i hilt).1 hl with ⟨x, hx, hxi⟩ | ⟨x, hx, hxi⟩
             · have := (hlt x hx).2; rwa [hxi] at this
             · have := (hall x hx).2; rwa [hxi] at this
            have hm : i ∈ Region.ready .any ops listed := cu.2 ⟨hilt, hl, _, ho, fun e he => by
             have he' : e < i := h1 e (by simpa [bJ, hilt] using he)
             rw [dF (by omega) false true]
             exact ihi e he' (by omega)⟩
            rw [hr] at hm; cases hm
       have h1 := (hall a0 ha0).1
       have := (hin a0.i h1).2 (.inr ⟨a0, ha0, rfl⟩)
       rw [hall2 a0.i h1] at this; cases this
     · obtain ⟨hlti, hnl, o, ho, haft⟩ := cu.1 hii
       have haft' : bJ ops.toList i = aftN o := by
        have : ops.toList[i]? = some o := by simpa using ho
        simp only [bJ, this]
       have hno : ∀ j, j < ops.size -> listed.getD j true = false -> j ∉ bJ ops.toList i := fun j hj hl hm => by
        rw [haft'] at hm
        have h1 := haft _ hm
        rw [dF (by omega) true false, h1] at hl; cases hl
       rcases (hin i hlti).1 hnl with ⟨b, hb, hbi⟩ | ⟨b, hb, hbi⟩
       · rcases List.mem_append.1 hb with hb | hb
         · obtain ⟨l1, l2, rfl⟩ := List.append_of_mem hb
           have hmap : (l1 ++ b :: l2 ++ tail).map (bU ops.toList) = l1.map (bU ops.toList) ++ bU ops.toList b :: (l2 ++ tail).map (bU ops.toList) := by simp
           have hpair : ∀ x ∈ l1, cH (bU ops.toList x) (bU ops.toList b) = true := fun x hx => e9 (hmap ▸ hok) _ (List.mem_map_of_mem hx)
           have hleft : ∀ x ∈ l1, x.i ∉ bJ ops.toList b.i := fun x hx => by
            rw [hbi]; exact hno x.i (hlt x (by simp [hx])).1 ((hin x.i (hlt x (by simp [hx])).1).2 (.inl ⟨x, by simp [hx], rfl⟩))
           have hne := xz (ops := ops.toList) (l1 := l1) (b := b) (l2 := l2 ++ tail) (by simpa using hok)
           have hJ' := sy hpair hleft hJ
           obtain ⟨o', A, ho2, hl, hs, hk⟩ := hJ'
           subst hbi
           have hna : ∀ x ∈ als, x.i ≠ b.i := fun x hx e => by
            have := hal x hx
            simp only [hX, Bool.and_eq_true, List.all_eq_true] at this
            have := (this.1.2 b (by simp)).2
            rw [e] at this; simp at this
           have hs' : StepG C ops o' (cc b.ts E) (F ++ (als.map (·.I) ++ L)) A := by
            match e : b.c with
            | 0 => have := hs (F ++ (als.map (·.I) ++ L)); rw [e] at this; exact this
            | c + 1 => have := hs (als.map (·.I) ++ L); rw [e] at this; exact this
           refine hs'.op ho2 hl ?_ a w p
           refine ih (l1 ++ l2) als _ _ L (by simp only [List.length_append, List.length_cons] at hlen ⊢; omega) (by simpa using hsz) (fun j hj => ?_) ?_ (fun x hx => hlt x ?_) (fun x hx => hc x (by rcases List.mem_append.1 hx with hx | hx <;> simp [hx])) hi (fun x hx => ?_) hk
           · by_cases hji : b.i = j
             · subst hji
               rw [cB (by omega)]
               constructor
               · intro h; cases h
               · rintro (⟨x, hx, e⟩ | ⟨x, hx, e⟩)
                 · exact absurd e (hne x (by simpa [List.append_assoc] using hx))
                 · exact absurd e (hna x hx)
             · rw [cX hji, hin j hj]
               constructor
               · rintro (⟨x, hx, e⟩ | h)
                 · refine .inl ⟨x, ?_, e⟩
                   simp only [List.mem_append, List.mem_cons] at hx ⊢
                   rcases hx with (hx | rfl | hx) | hx
                   · exact .inl (.inl hx)
                   · exact absurd e hji
                   · exact .inl (.inr hx)
                   · exact .inr hx
                 · exact .inr h
               · rintro (⟨x, hx, e⟩ | h)
                 · refine .inl ⟨x, ?_, e⟩
                   simp only [List.mem_append, List.mem_cons] at hx ⊢
                   rcases hx with (hx | hx) | hx
                   · exact .inl (.inl hx)
                   · exact .inl (.inr (.inr hx))
                   · exact .inr hx
                 · exact .inr h
           · have h3 := iC (hmap ▸ hok) (fun x hx => (List.mem_map.1 hx).elim fun y hy => hy.2 ▸ hc y (by simp [hy.1])) (fun x hx => (List.mem_map.1 hx).elim fun y hy => hy.2 ▸ hleft y hy.1)
             simpa using h3
           · simp only [List.mem_append, List.mem_cons] at hx ⊢
             rcases hx with (hx | hx) | hx
             · exact .inl (.inl hx)
             · exact .inl (.inr (.inr hx))
             · exact .inr hx
           · have := hal x hx
             simp only [hX, Bool.and_eq_true, List.all_eq_true] at this ⊢
             refine ⟨⟨this.1.1, fun y hy => this.1.2 y ?_⟩, this.2⟩
             rcases List.mem_append.1 hy with hy | hy <;> simp [hy]
         · exfalso
           have := hal a0 ha0
           simp only [hX, Bool.and_eq_true, List.all_eq_true] at this
           have := (this.2 b hb).2
           rw [hbi] at this
           simp only [Bool.or_eq_true, List.any_eq_true] at this
           rcases this with q | ⟨r, hr, y, hy, e⟩
           · exact hno a0.i (hall a0 ha0).1 ((hin a0.i (hall a0 ha0).1).2 (.inr ⟨a0, ha0, rfl⟩)) (cM.1 q)
           · have e := Nat.eq_of_beq_eq_true e
             subst e
             have hyl := (hlt y (by simp [hy])).1
             exact hno y.i hyl ((hin y.i hyl).2 (.inl ⟨y, by simp [hy], rfl⟩)) hr
       · have hbo := hal b hb
         simp only [hX, Bool.and_eq_true, List.all_eq_true] at hbo
         obtain ⟨l1, l2, hl12⟩ := List.append_of_mem hb
         rw [hl12] at hi
         obtain ⟨hi2, hne, hpA⟩ := kC hi
         obtain ⟨hAl, hnext⟩ := qF (C := C) (ops := ops) (F := F) (b := b) (k' := Als2 C ops (upP fun E' L' => JX C ops (fun E' L' => K C (Q .normal) E' L') tail E' (F ++ L')) (l1 ++ l2)) (its := frees) (fun x hx => by
          have hq := hbo.1.2 x hx
          simp only [Bool.and_eq_true, Bool.or_eq_true, Bool.not_eq_true'] at hq
          refine ⟨hq.1.1.1, ?_, hq.1.2⟩
          rcases hq.1.1.2 with q | q
          · exfalso
            have hxl := (hlt x (by simp [hx])).1
            rw [hbi] at q
            exact hno x.i hxl ((hin x.i hxl).2 (.inl ⟨x, by simp [hx], rfl⟩)) (cM.1 q)
          · exact q) (fun E L h => by rw [hl12] at h; exact Gy pi hpA h) hJ
         obtain ⟨ob, q1, q2, q3, q4, q5⟩ := hAl
         rw [hbi, ho] at q1
         cases q1
         have hperm : (F ++ (als.map (·.I) ++ L)).Perm (b.I :: (F ++ ((l1 ++ l2).map (·.I) ++ L))) := by
          rw [hl12]
          simp only [List.map_append, List.map_cons]
          refine (List.Perm.append_left F ?_).trans List.perm_middle
          rw [List.append_assoc, List.append_assoc]
          exact List.perm_middle
         obtain ⟨n, ds, h, m, l, sp, st, fr⟩ := p.lsub (F7 hperm)
         have hwt : Region.wanted o (yielded ops a.tmps) = true := by simp [Region.wanted, q4]
         unfold wpOpIn
         simp only [ho]
         rw [if_pos hwt]
         refine q5 (F ++ ((l1 ++ l2).map (·.I) ++ L)) a w h m n l sp st (fr.sub dx) _ Q fun v v' w' h' m' l' sp' st' hv => ?_
         have hrest := ih frees (l1 ++ l2) (listed.setIfInBounds i true) (upd E b.d (b.A v)) (b.M v :: L) (by rw [hl12] at hlen; simp only [List.length_append, List.length_cons] at hlen ⊢; omega) (by simpa using hsz) (fun j hj => ?_) hok hlt hc hi2 (fun x hx => hal x (by
          rw [hl12]
          rcases List.mem_append.1 hx with hx | hx <;> simp [hx])) (hnext v)
         · have hperm2 : (b.M v :: (F ++ ((l1 ++ l2).map (·.I) ++ L))).Perm (F ++ ((l1 ++ l2).map (·.I) ++ b.M v :: L)) := by
             have e1 : F ++ ((l1 ++ l2).map (·.I) ++ b.M v :: L) = (F ++ (l1 ++ l2).map (·.I)) ++ b.M v :: L := by simp
             have e2 : b.M v :: (F ++ ((l1 ++ l2).map (·.I) ++ L)) = b.M v :: ((F ++ (l1 ++ l2).map (·.I)) ++ L) := by simp
             rw [e1, e2]
             exact List.perm_middle.symm
           have hpre : Pre C (kf E o.dst (b.A v)) (b.M v :: (F ++ ((l1 ++ l2).map (·.I) ++ L))) (a.put o.dst v') w' :=
            ⟨by rw [gz]; exact n, by rw [ee]; exact ds, h', m', HL.trans l l', sp', st', (fr.mono l'.1).putO (by rw [n, q2]; exact q3) hv⟩
           have hpre2 := hpre.lsub (F7 hperm2)
           rw [q2] at hpre2 ⊢
           exact hrest _ _ hpre2
         · by_cases hji : i = j
           · subst hji
             rw [cB (by omega)]
             constructor
             · intro h; cases h
             · rintro (⟨x, hx, e⟩ | ⟨x, hx, e⟩)
               · exfalso
                 rcases List.mem_append.1 hx with hx | hx
                 · have := (hbo.1.2 x hx).2
                   rw [hbi, e] at this; simp at this
                 · have := (hbo.2 x hx).1
                   rw [hbi, e] at this; simp at this
               · exact absurd (e.trans hbi.symm) (hne x hx)
           · rw [cX hji, hin j hj, hl12]
             constructor
             · rintro (h | ⟨x, hx, e⟩)
               · exact .inl h
               · rcases List.mem_append.1 hx with hx | hx
                 · exact .inr ⟨x, by simp [hx], e⟩
                 · rcases List.mem_cons.1 hx with rfl | hx
                   · exact absurd (hbi.symm.trans e) hji
                   · exact .inr ⟨x, by simp [hx], e⟩
             · rintro (h | ⟨x, hx, e⟩)
               · exact .inl h
               · refine .inr ⟨x, ?_, e⟩
                 rcases List.mem_append.1 hx with hx | hx <;> simp [hx]
theorem pj {C : Cx} {id : Nat} {ops : Array Oper} (F : List SP) (frees : List It3) (als : List Al2) (tail : List It3) {Q : Exit -> Act -> World -> Prop} {E : Env} {L0 L : List SP} (hL : LSub L0 (F ++ (als.map (·.I) ++ L))) (hmix : C.P.follows .mixedOrders = true) (hok : okZ ops.toList frees als tail = true) (hn : frees.length + als.length + tail.length <= ops.size)
  (hJ : JF C ops F (Als2 C ops (upP fun E' L' => JX C ops (fun E' L' => K C (Q .normal) E' L') tail E' (F ++ L')) als) frees E L) : J C (.region id ops true) Q E L0 := fun a w p => by
 refine wpIn_region_draw (fun t => ?_)
 simp only [Region.schedule, hmix, Bool.true_or, if_true]
 refine wpAnyIn_sound ops.size t _ a _ ?_
 simp only [okZ, Bool.and_eq_true, List.all_eq_true, List.any_eq_true, Bool.or_eq_true] at hok
 obtain ⟨⟨⟨⟨⟨⟨h1, h2⟩, h3⟩, h3c⟩, h4⟩, h5⟩, h6⟩ := hok
 refine a7 hL (tS ops.size frees als _ E L hn (by simp) (fun i hi => ?_) h1 (fun x hx => ⟨by have := h3 x hx; simpa using this, fun e he => ?_⟩) (fun x hx => by have := h3c x hx; simpa using this) h5 h6 hJ) a _ ?_
 · constructor
   · intro _
     rcases h4 i (by simpa using hi) with ⟨x, hx, e⟩ | ⟨x, hx, e⟩
     · exact .inl ⟨x, hx, (Nat.eq_of_beq_eq_true e).symm⟩
     · exact .inr ⟨x, hx, (Nat.eq_of_beq_eq_true e).symm⟩
   · intro _; simp [Array.getD_eq_getD_getElem?, hi]
 · have := h2 _ (List.mem_map_of_mem hx) e he
   simpa [bU] using this
 · obtain ⟨hsz, hds, h, m, hl, sp, st, fr⟩ := p
   exact ⟨hsz, hds, h, m, hl.trans (HL.same (Same.drew _)), ⟨(by first | exact Sep.inv (by assumption) | exact Inv.mono (FM _ _) (Sep.inv (by assumption))), sp.hm, sp.hr, sp.mr, sp.hw, sp.mw, sp.rw⟩, st, fr⟩
theorem qG {k : Env -> List SP -> Prop} {E : Env} {L : List SP} (h : k E L) : upP k E L := ⟨L, List.Perm.refl _, h⟩
theorem Ba {b : Nat} : ∀ h v, (tAt b 0).p h v -> v.oneCell' = true := by rintro h v e; rw [show v = .pointer (some ⟨b, 0, none⟩) from e]; rfl
theorem gh {A : Ty} {ho : ∀ h v, A.p h v -> v.oneCell' = true} : TyOf prog 95 (uR A ho) := ⟨fun w => isAgg95 w, fun w => sizeOf95 w⟩
abbrev CB (b : Nat) : Ty := bx (uR (tAt b 0) Ba) ()
def bsS (b : Nat) (sc : GSchema) (s : Bst) : SP := SP.ex fun z : Value × Value × Value × Value => stars [gP b sc z.1 z.2.1 z.2.2.1 z.2.2.2 s.bad, own 135 bm z.2.2.1 s.P, own 3 aO z.2.2.2 s.F, own 3 aO z.1 s.T, own 3 aO z.2.1 s.S]
theorem Gq {b : Nat} {sc : GSchema} {s : Bst} {vt vs vp vf : Value} {L : List SP} : LSub (gP b sc vt vs vp vf s.bad :: own 135 bm vp s.P :: own 3 aO vf s.F :: own 3 aO vt s.T :: own 3 aO vs s.S :: L) (bsS b sc s :: L) :=
  LSub.ex (vt, vs, vp, vf) (LSub.stars LSub.rfl)
theorem CQ {b : Nat} {sc : GSchema} {s : Bst} {C : Cx} {k : Act -> World -> Prop} {E : Env} {L : List SP} (hk : ∀ vt vs vp vf, K C k E (gP b sc vt vs vp vf s.bad :: own 135 bm vp s.P :: own 3 aO vf s.F :: own 3 aO vt s.T :: own 3 aO vs s.S :: L)) : K C k E (bsS b sc s :: L) :=
  EV fun ⟨vt, vs, vp, vf⟩ => wJ (hk vt vs vp vf)
theorem Gg {A B : Ty} (h : A = B) : Sub A B := h ▸ Sr
abbrev kD (l : List GTest) (cols : List Int) (s : Bst) (i : Nat) : Bst := (l.take i).foldl (fun s t => br s t cols) s
abbrev dB (a b : List GAttr) (k0 k1 : List Int) (s : Bst) (i : Nat) : Bst × List Int := ((b.zip k1).take i).foldl (bT a k0 k1) (s, k0)
theorem sC {α β : Type} {a : List α} {b : List β} (h : b.length = a.length) : (a.zip b).length = a.length := by rw [List.length_zip, h]; simp
theorem xA {α β : Type} [Inhabited α] [Inhabited β] {a : List α} {b : List β} {i : Nat} (h : i < a.length) (h2 : i < b.length) : nth (a.zip b) i = (nth a i, nth b i) := by
  rw [nth_get (by rw [List.length_zip]; omega), nth_get h, nth_get h2, List.getElem_zip]
theorem vx (n i : Nat) : ge n (i + 1) = ge n i ++ [((n + i : Nat) : Int)] := by simp [ge, List.range_succ]
theorem vy (n i : Nat) : cI n (i + 1) = cI n i ++ [⟨((n + i : Nat) : Int), ⟨0, 0, ⟨#[]⟩⟩, false⟩] := by simp [cI, List.range_succ]
theorem mz (l : List Int) (hl : l.length <= 1000000000) : Spec (X := Value) prog 92 [tSl aO l] ([]) (fun v => rV.ty v) (fun v => [own 3 aO v l]) := by
 refine Spec.enter func92 rfl rfl fun h0 w0 fr0 => ?_
 refine Jr (Za (ab (ap (Jr (Zm ?_)))))
 refine Zx (dA underlying27 Sr) fun v4 => ?_
 refine ab ?_
 refine am Sr (fun h4 => ?_) (fun h4 => ?_)
 ·
  try simp only [NF] at h4
  refine Jr (Za (ab (aC ?_)))
  have hl0 := v4.2 h4
  subst hl0
  refine a7 (FR (e := 3) (R := aO)) ?_
  refine aY (rv := .tmp 2) rfl (.slice none 0 0) (FN _) (.tmp (FT rfl)) (Frz.sub Sr)
 try simp only [NF] at h4
 refine av (Jr ?_)
 refine Zx (bO (ys := []) underlying27 el3 trivial rfl (by decide)) fun v5 => ?_
 refine Zm ?_
 refine Zx (aH underlying27 el3 Sr Sr zS (by simp; omega) (by simp; omega)) fun v7 => ?_
 refine Za (ab (aC ?_))
 refine aY (rv := .tmp 2) rfl v7 (FN _) (.tmp Sr) (Frz.sub Sr)
theorem vz (b : Nat) (sc : GSchema) (n : Nat) (p : aQ) (s : Bst) (kids : List (List Int)) (hi : BdInv sc s) (hk0 : 0 < kids.length) (hcb : ∀ c ∈ nth kids 0, 0 <= c /\ c < s.P.length) (ht : ∀ t ∈ p.Tests, dY t (nth kids 0).length = true) (hl : p.Tests.length <= 100000000) (hF : s.F.length + p.Tests.length <= 1000000000) : Spec (X := Unit) prog 87 [(aX (n + 1)).ty p, tSl (rSl aO) kids, CB b] ([bsS b sc s]) (fun _ => tSl aO (nth kids 0)) (fun _ => [bsS b sc (p.Tests.foldl (fun s t => br s t (nth kids 0)) s)]) := by
 refine Spec.enter func87 rfl rfl fun h0 w0 fr0 => ?_
 refine CQ fun vt vs vp vf => ?_
 refine Jr (Zs (aF (R := (aX (n + 1))) Sr) (Za (ab (ap (Jr ?_)))))
 refine Zs (aa cq Sr rfl) (Zl ze Sr (Zs (ag underlying26 Sr) (Zm (ab (au ?_)))))
 refine aK (σ := Nat × Value) (fun ⟨i, vf⟩ => i <= p.Tests.length) (fun ⟨i, vf⟩ => upd (upd (upd (upd (upd (upd co 1 (tSl (rSl aO) kids)) 2 (CB b)) 5 (tV (.slice none 0 0))) 9 (tSl dV p.Tests)) 10 (tV (.int .i64 p.Tests.length))) 11 (tV (.int .i64 i))) (fun ⟨i, vf⟩ => [gP b sc vt vs vp vf ((kD p.Tests (nth kids 0) s i).bad), own 135 bm vp (kD p.Tests (nth kids 0) s i).P, own 3 aO vf (kD p.Tests (nth kids 0) s i).F, own 3 aO vt s.T, own 3 aO vs s.S]) (fun ⟨i, vf⟩ => p.Tests.length - i) (0, vf) (by simp) (zU) (LSub.rfl) ?_
 rintro ⟨i, vf⟩ hil
 try dsimp only at hil
 refine Jr (Zs (az Sr Sr) (ab (ap ?_)))
 refine am Sr (fun h12 => ?_) (fun h12 => ?_)
 ·
  try simp only [NF] at h12
  have hlt : i < p.Tests.length := by omega
  have hIK : BdInv sc (kD p.Tests (nth kids 0) s i) /\ Keep s (kD p.Tests (nth kids 0) s i) (p.Tests.take i).length := jO (cols := nth kids 0) (l := p.Tests.take i) hi hcb (fun t h => ht t (List.mem_of_mem_take h))
  obtain ⟨hI, hKp⟩ := hIK
  have hKf := hKp.fl
  rw [List.length_take] at hKf
  refine av (ap (au (Jr ?_)))
  refine Zs (ae  underlying26 zd Sr Sr rfl (gb (by exact hlt))) ?_
  refine Zl zd Sr ?_
  refine Zx (aE (fun w => zeroValue93 w) EZ) fun v7 => ?_
  refine Ju (ai zd Sr Sr zS) fun _ => ?_
  refine aN (t := 7) (Sel.take (FN _)) Frz.box ?_
  refine ab ?_
  refine bQ [⟨0, [2], true⟩, ⟨1, [7], true⟩, ⟨2, [1], true⟩, ⟨3, [17], true⟩, ⟨4, [18], true⟩, ⟨5, [15, 16, 19], false⟩] rfl (by kernel_rfl) ?_
  refine Zf rfl (ad gh Sr) (Zf rfl (ad zd Sr) (Zv rfl ?_))
  refine Zf rfl (ae (i := 0) underlying133 dn Sr Sr (by rfl) (gb (by exact hk0))) ?_
  refine Zf rfl (ad dn Sr) ?_
  refine cN rfl rfl rfl rfl (aR (Sel.take (Sel.take (Sel.take (FN _)))) (vu b sc vt vs vp vf (kD p.Tests (nth kids 0) s i) hI.pok zG (nth p.Tests i) (nth kids 0) (by rw [hKp.pl]; exact hcb) (ht _ (nth_mem hlt))) ⟨Sr, Sr, Sr, trivial⟩ call88) fun v20 => ?_
  refine bP (ah (Zs (ax Sr Sr z6) (Zm (ab ?_))))
  refine ay (σ := Nat × Value) (s := (i, vf)) (i + 1, v20) zO zG (zU) (.c zS (SPs.of (A := gP b sc vt vs vp v20 ((br (kD p.Tests (nth kids 0) s i) (nth p.Tests i) (nth kids 0)).bad)) (by rw [show (kD p.Tests (nth kids 0) s (i + 1)) = br (kD p.Tests (nth kids 0) s i) (nth p.Tests i) (nth kids 0) by unfold kD; rw [di hlt, List.foldl_append]; rfl])) (.c zS (SPs.of (A := own 135 bm vp (br (kD p.Tests (nth kids 0) s i) (nth p.Tests i) (nth kids 0)).P) (by rw [show (kD p.Tests (nth kids 0) s (i + 1)) = br (kD p.Tests (nth kids 0) s i) (nth p.Tests i) (nth kids 0) by unfold kD; rw [di hlt, List.foldl_append]; rfl])) (.c zS (SPs.of (A := own 3 aO v20 (br (kD p.Tests (nth kids 0) s i) (nth p.Tests i) (nth kids 0)).F) (by rw [show (kD p.Tests (nth kids 0) s (i + 1)) = br (kD p.Tests (nth kids 0) s i) (nth p.Tests i) (nth kids 0) by unfold kD; rw [di hlt, List.foldl_append]; rfl])) (zL))))
 try simp only [NF] at h12
 obtain rfl : i = p.Tests.length := by omega
 obtain ⟨hI, hKp⟩ := jO (cols := nth kids 0) (l := p.Tests) hi hcb ht
 refine aV (Jr (Zm ?_))
 refine Zs (ae (i := 0) underlying133 dn Sr Sr (by rfl) (gb (by exact hk0))) ?_
 refine Zl dn Sr (Za (ab (aC ?_)))
 refine a7 (L' := [gP b sc vt vs vp vf ((p.Tests.foldl (fun s t => br s t (nth kids 0)) s).bad), own 135 bm vp (p.Tests.foldl (fun s t => br s t (nth kids 0)) s).P, own 3 aO vf (p.Tests.foldl (fun s t => br s t (nth kids 0)) s).F, own 3 aO vt (p.Tests.foldl (fun s t => br s t (nth kids 0)) s).T, own 3 aO vs (p.Tests.foldl (fun s t => br s t (nth kids 0)) s).S]) (.c zS (SPs.of (A := gP b sc vt vs vp vf ((kD p.Tests (nth kids 0) s p.Tests.length).bad)) (by rw [show (kD p.Tests (nth kids 0) s p.Tests.length) = (p.Tests.foldl (fun s t => br s t (nth kids 0)) s) by unfold kD; rw [List.take_length]])) (.c zS (SPs.of (A := own 135 bm vp (kD p.Tests (nth kids 0) s p.Tests.length).P) (by rw [show (kD p.Tests (nth kids 0) s p.Tests.length) = (p.Tests.foldl (fun s t => br s t (nth kids 0)) s) by unfold kD; rw [List.take_length]])) (.c zS (SPs.of (A := own 3 aO vf (kD p.Tests (nth kids 0) s p.Tests.length).F) (by rw [show (kD p.Tests (nth kids 0) s p.Tests.length) = (p.Tests.foldl (fun s t => br s t (nth kids 0)) s) by unfold kD; rw [List.take_length]])) (.c zS (SPs.of (A := own 3 aO vt s.T) (by rw [hKp.t])) (.c zS (SPs.of (A := own 3 aO vs s.S) (by rw [hKp.s])) (LSub.nil)))))) ?_
 refine a7 (L' := [bsS b sc (p.Tests.foldl (fun s t => br s t (nth kids 0)) s)]) Gq ?_
 refine aI (t := 5) rfl () Sr
theorem sD (b : Nat) (sc : GSchema) (n : Nat) (p : aQ) (s : Bst) (kids : List (List Int)) (hk0 : 0 < kids.length) (hc : ∀ c ∈ p.Cols, 0 <= c /\ c < (nth kids 0).length) (hl : p.Cols.length <= 100000000) : Spec (X := Unit) prog 89 [(aX (n + 1)).ty p, tSl (rSl aO) kids] ([bsS b sc s]) (fun _ => tSl aO (p.Cols.map fun c => nth (nth kids 0) c.toNat)) (fun _ => [bsS b sc s]) := by
 refine Spec.enter func89 rfl rfl fun h0 w0 fr0 => ?_
 refine Jr (Zs (aF (R := (aX (n + 1))) Sr) (Za (ab (Jr (Za ?_)))))
 refine ab (ap (Jr (Zs (aa cq Sr rfl) (Zl dn Sr (Zs (ag underlying27 Sr) ?_)))))
 refine Zm (ab (au ?_))
 refine aK (σ := Nat × Value) (fun ⟨i, v⟩ => i <= p.Cols.length) (fun ⟨i, v⟩ => upd (upd (upd (upd (upd (upd co 1 (tSl (rSl aO) kids)) 4 (tV (.slice none 0 0))) 5 (rV.ty v)) 9 (tSl aO p.Cols)) 10 (tV (.int .i64 p.Cols.length))) 11 (tV (.int .i64 i))) (fun ⟨i, v⟩ => [own 3 aO v ((p.Cols.take i).map fun c => nth (nth kids 0) c.toNat), bsS b sc s]) (fun ⟨i, v⟩ => p.Cols.length - i) (0, .slice none 0 0) (by simp) (.u (.u (.u (SubE.upd (FT rfl) (zU))))) (FR) ?_
 rintro ⟨i, v⟩ hi
 try dsimp only at hi
 refine Jr (Zs (az Sr Sr) (ab (ap ?_)))
 refine am Sr (fun h12 => ?_) (fun h12 => ?_)
 ·
  try simp only [NF] at h12
  have hlt : i < p.Cols.length := by omega
  have hci := hc _ (nth_mem hlt)
  refine av (ap (au (Jr ?_)))
  refine Zs (ae  underlying27 ty3 Sr Sr rfl (gb (by exact hlt))) ?_
  refine Zl ty3 Sr (Za (ab (ah (Zm (Zm ?_)))))
  refine Zs (ae (i := 0) underlying133 dn Sr Sr (by rfl) (gb (by exact hk0))) ?_
  refine Zl dn Sr (Zm (Zs (ae (i := (nth p.Cols i).toNat) underlying27 ty3 Sr Sr zG (gb zG)) (Zl ty3 Sr ?_)))
  refine Zs (aB (ys := [_]) underlying27 el3 ⟨rfl, Sr, trivial⟩ rfl (by decide)) ?_
  refine Zx (aH underlying27 el3 Sr Sr zS (by simp; omega) (by simp; omega)) fun v23 => ?_
  refine Za (ab (ah (Zs (ax Sr Sr z6) (Zm (ab ?_)))))
  refine ay (σ := Nat × Value) (s := (i, v)) (i + 1, v23) zO zG (zU) (.c zS (SPs.of (A := own 3 aO v23 (((p.Cols.take i).map fun c => nth (nth kids 0) c.toNat) ++ [nth (nth kids 0) (nth p.Cols i).toNat])) (by rw [di hlt, List.map_append]; rfl)) (zL))
 try simp only [NF] at h12
 obtain rfl : i = p.Cols.length := by omega
 refine aV (Jr (Zm (Za (ab (aC ?_)))))
 refine a7 (L' := [own 3 aO v (p.Cols.map fun c => nth (nth kids 0) c.toNat), bsS b sc s]) (.c zS (SPs.of (A := own 3 aO v ((p.Cols.take p.Cols.length).map fun c => nth (nth kids 0) c.toNat)) (by rw [List.take_length])) (zL)) ?_
 refine aY (rv := .tmp 4) rfl () (Sel.take (FN _)) (.tmp Sr) Frz.own
theorem vA (b : Nat) (sc : GSchema) (n : Nat) (p : aQ) (s : Bst) (kids : List (List Int)) (hk0 : 0 < kids.length) : Spec (X := Unit) prog 90 [(aX (n + 1)).ty p, tSl (rSl aO) kids] ([bsS b sc s]) (fun _ => tSl aO (nth kids 0)) (fun _ => [bsS b sc s]) := by
 refine Spec.enter func90 rfl rfl fun h0 w0 fr0 => ?_
 refine Jr (Zs (aF (R := (aX (n + 1))) Sr) (Za (ab (Jr (Zm ?_)))))
 refine Zs (ae (i := 0) underlying133 dn Sr Sr (by rfl) (gb (by exact hk0))) ?_
 refine Zl dn Sr (Za (ab (aC ?_)))
 exact aI (t := 4) rfl () Sr
theorem qH (x y : GAttr) : Fun1 prog 94 [bu.ty x, bx bu y] (tV (.bool (decide (x.Name = y.Name)))) := by
 refine Spec.enter func94 rfl rfl fun h0 w0 fr0 => ?_
 refine Jr (Zs (aF (R := bu) Sr) (Za (ab (Jr (Zs (aa gV Sr rfl) ?_)))))
 refine Zl ty9 Sr (Zs (aa gV Sr rfl) (Zl ty9 Sr (Zs (dP Sr Sr) (Za (ab ?_)))))
 refine aC ?_
 exact aI (t := 3) rfl () Sr
theorem sE (b : Nat) (sc : GSchema) (n : Nat) (p : aQ) (s : Bst) (kids : List (List Int)) (hi : BdInv sc s) (hk1 : 1 < kids.length) (hkn : 1 < p.Kids.length) (hcb : ∀ c ∈ nth kids 0, 0 <= c /\ c < s.P.length) (hcb1 : ∀ c ∈ nth kids 1, 0 <= c /\ c < s.P.length) (hl0 : (nth kids 0).length = (nth p.Kids 0).Attrs.length) (hl1 : (nth kids 1).length = (nth p.Kids 1).Attrs.length) (hb0 : (nth p.Kids 0).Attrs.length <= 100000000) (hb1 : (nth p.Kids 1).Attrs.length <= 100000000) (hF : s.F.length + (nth p.Kids 1).Attrs.length <= 1000000000) : Spec (X := Unit) prog 91 [(aX (n + 1 + 1)).ty p, tSl (rSl aO) kids, CB b] ([bsS b sc s]) (fun _ => tSl aO ((iO (nth p.Kids 0).Attrs (nth p.Kids 1).Attrs (nth kids 0) (nth kids 1) s)).2) (fun _ => [bsS b sc ((iO (nth p.Kids 0).Attrs (nth p.Kids 1).Attrs (nth kids 0) (nth kids 1) s)).1]) := by
 refine Spec.enter func91 rfl rfl fun h0 w0 fr0 => ?_
 have hk0 : 0 < kids.length := by omega
 have hz := sC (a := (nth p.Kids 1).Attrs) (b := (nth kids 1)) hl1
 refine CQ fun vt vs vp vf => ?_
 refine Jr (Zs (aF (R := (aX (n + 1 + 1))) Sr) (Za (ab (Jr (Zm ?_)))))
 refine Zs (ae (i := 0) underlying133 dn Sr Sr (by rfl) (gb (by exact hk0))) ?_
 refine Zl dn Sr ?_
 refine Zx (aR (FN _) (mz _ zG) ⟨Sr, trivial⟩ call92) fun v13 => ?_
 refine Za (ab (ap (Jr (Zs (aa cq Sr rfl) (Zl lW Sr ?_)))))
 refine Zs (ae (i := 1) underlying25 da Sr Sr (by rfl) (gb (by exact hkn))) ?_
 refine Zs (aa cq Sr rfl) (Zl eP Sr (Zs (ag underlying28 Sr) (Zm (ab (au ?_)))))
 refine aK (σ := Nat × Value × Value) (fun ⟨i, vf, vo⟩ => i <= (nth p.Kids 1).Attrs.length) (fun ⟨i, vf, vo⟩ => upd (upd (upd (upd (upd (upd (upd (upd co 1 (tSl (rSl aO) kids)) 2 (CB b)) 3 (bx (aX (n + 1 + 1)) p)) 5 (tV (.slice none 0 0))) 6 (rV.ty vo)) 18 (tSl bu (nth p.Kids 1).Attrs)) 19 (tV (.int .i64 (nth p.Kids 1).Attrs.length))) 20 (tV (.int .i64 i))) (fun ⟨i, vf, vo⟩ => [gP b sc vt vs vp vf (((dB (nth p.Kids 0).Attrs (nth p.Kids 1).Attrs (nth kids 0) (nth kids 1) s i)).1.bad), own 135 bm vp ((dB (nth p.Kids 0).Attrs (nth p.Kids 1).Attrs (nth kids 0) (nth kids 1) s i)).1.P, own 3 aO vf ((dB (nth p.Kids 0).Attrs (nth p.Kids 1).Attrs (nth kids 0) (nth kids 1) s i)).1.F, own 3 aO vt s.T, own 3 aO vs s.S, own 3 aO vo ((dB (nth p.Kids 0).Attrs (nth p.Kids 1).Attrs (nth kids 0) (nth kids 1) s i)).2]) (fun ⟨i, vf, vo⟩ => (nth p.Kids 1).Attrs.length - i) (0, vf, v13) (by simp) (zU) (.r zS (.r zS (.r zS (.r zS (.r zS (.c zS (SPs.of (A := own 3 aO v13 (nth kids 0)) rfl) (LSub.nil))))))) ?_
 rintro ⟨i, vf, vo⟩ hil
 try dsimp only at hil
 refine Jr (Zs (az Sr Sr) (ab (ap ?_)))
 refine am Sr (fun h21 => ?_) (fun h21 => ?_)
 ·
  try simp only [NF] at h21
  have hlt : i < (nth p.Kids 1).Attrs.length := by omega
  have hltk : i < (nth kids 1).length := by omega
  have hIK : BdInv sc ((dB (nth p.Kids 0).Attrs (nth p.Kids 1).Attrs (nth kids 0) (nth kids 1) s i)).1 /\ Keep s ((dB (nth p.Kids 0).Attrs (nth p.Kids 1).Attrs (nth kids 0) (nth kids 1) s i)).1 (((nth p.Kids 1).Attrs.zip (nth kids 1)).take i).length /\ (∀ c ∈ ((dB (nth p.Kids 0).Attrs (nth p.Kids 1).Attrs (nth kids 0) (nth kids 1) s i)).2, 0 <= c /\ c < s.P.length) /\ ((dB (nth p.Kids 0).Attrs (nth p.Kids 1).Attrs (nth kids 0) (nth kids 1) s i)).2.length = (nth kids 0).length + ((((nth p.Kids 1).Attrs.zip (nth kids 1)).take i).filter fun x => decide (aM (nth p.Kids 0).Attrs x.1.Name < 0)).length := iF (a := (nth p.Kids 0).Attrs) (k0 := (nth kids 0)) (k1 := (nth kids 1)) (l := ((nth p.Kids 1).Attrs.zip (nth kids 1)).take i) (o := (nth kids 0)) hi hcb hl0 hcb (fun x hx => hcb1 _ (ph (List.mem_of_mem_take hx)))
  obtain ⟨hI, hKp, hIn, hLn⟩ := hIK
  have hKf := hKp.fl
  rw [List.length_take] at hKf
  have hfl := List.length_filter_le (fun x : GAttr × Int => decide (aM (nth p.Kids 0).Attrs x.1.Name < 0)) (((nth p.Kids 1).Attrs.zip (nth kids 1)).take i)
  rw [List.length_take] at hfl
  have hcl := tH (nth p.Kids 0).Attrs (nth (nth p.Kids 1).Attrs i).Name
  have hx1 := hcb1 _ (nth_mem hltk)
  have hstep : (dB (nth p.Kids 0).Attrs (nth p.Kids 1).Attrs (nth kids 0) (nth kids 1) s (i + 1)) = bT (nth p.Kids 0).Attrs (nth kids 0) (nth kids 1) ((dB (nth p.Kids 0).Attrs (nth p.Kids 1).Attrs (nth kids 0) (nth kids 1) s i)) (nth (nth p.Kids 1).Attrs i, nth (nth kids 1) i) := by unfold dB; rw [di (by rw [hz]; exact hlt), List.foldl_append, xA hlt hltk]; rfl
  refine av (ap (au (Jr (Zm ?_))))
  refine Zs (ae  underlying28 eS Sr Sr rfl (gb (by exact hlt))) ?_
  refine Zl eS Sr ?_
  refine Zx (aE (fun w => zeroValue64 w) zx) fun v8 => ?_
  refine Za ?_
  refine Ju (ai eS Sr Sr zS) fun _ => ?_
  refine aN (t := 8) (Sel.take (FN _)) Frz.box ?_
  refine ab (Jr (Zs (aa cq Sr rfl) (Zl lW Sr ?_)))
  refine Zs (ae (i := 0) underlying25 da Sr Sr (by rfl) (gb (by show 0 < p.Kids.length; omega))) ?_
  refine Zs (aa cq Sr rfl) (Zl eP Sr (Zs (bl (As := [_]) ⟨Sr, trivial⟩) (Zs (aj (dh (nth p.Kids 0).Attrs zG 94 [bx bu (nth (nth p.Kids 1).Attrs i)] (fun x => decide (x.Name = (nth (nth p.Kids 1).Attrs i).Name)) (fun x _ => qH x _) call94) ⟨Sr, Sr, trivial⟩ call93) (Za (ab ?_)))))
  refine Jr (Zm (Zs (bA Sr Sr) (ab ?_)))
  refine am Sr (fun h33 => ?_) (fun h33 => ?_)
  ·
   try simp only [NF] at h33
   have h33 : 0 <= (aM (nth p.Kids 0).Attrs (nth (nth p.Kids 1).Attrs i).Name) := h33
   have hci := ol (cols := (nth kids 0)) hcb (c := (aM (nth p.Kids 0).Attrs (nth (nth p.Kids 1).Attrs i).Name)) ⟨h33, by omega⟩
   rw [show bT (nth p.Kids 0).Attrs (nth kids 0) (nth kids 1) ((dB (nth p.Kids 0).Attrs (nth p.Kids 1).Attrs (nth kids 0) (nth kids 1) s i)) (nth (nth p.Kids 1).Attrs i, nth (nth kids 1) i) = ((bY ((dB (nth p.Kids 0).Attrs (nth p.Kids 1).Attrs (nth kids 0) (nth kids 1) s i)).1 (cY (nth kids 0) (aM (nth p.Kids 0).Attrs (nth (nth p.Kids 1).Attrs i).Name)) (nth (nth kids 1) i).toNat), ((dB (nth p.Kids 0).Attrs (nth p.Kids 1).Attrs (nth kids 0) (nth kids 1) s i)).2) by unfold bT; rw [if_pos h33]] at hstep
   refine bQ [⟨0, [2], true⟩, ⟨1, [1], true⟩, ⟨2, [35], true⟩, ⟨3, [36], true⟩, ⟨4, [9], true⟩, ⟨5, [37, 38], true⟩, ⟨6, [39], true⟩, ⟨7, [1], true⟩, ⟨8, [41], true⟩, ⟨9, [42], true⟩, ⟨10, [7], true⟩, ⟨11, [43, 44], true⟩, ⟨12, [45], true⟩, ⟨13, [34, 40, 46], false⟩] rfl (by kernel_rfl) ?_
   refine Zf rfl (ad gh Sr) (Zv rfl ?_)
   refine Zf rfl (ae (i := 0) underlying133 dn Sr Sr (by rfl) (gb (by exact hk0))) ?_
   refine Zf rfl (ad dn Sr) (Zv rfl ?_)
   refine Zf rfl (ae (i := ((aM (nth p.Kids 0).Attrs (nth (nth p.Kids 1).Attrs i).Name)).toNat) underlying27 ty3 Sr Sr (by show (aM (nth p.Kids 0).Attrs (nth (nth p.Kids 1).Attrs i).Name) = _; omega) (gb (by show ((aM (nth p.Kids 0).Attrs (nth (nth p.Kids 1).Attrs i).Name)).toNat < (nth kids 0).length; omega))) ?_
   refine Zf rfl (ad ty3 Sr) (Zv rfl ?_)
   refine Zf rfl (ae (i := 1) underlying133 dn Sr Sr (by rfl) (gb (by exact hk1))) ?_
   refine Zf rfl (ad dn Sr) (Zv rfl ?_)
   refine Zf rfl (ae (i := i) underlying27 ty3 Sr Sr (by rfl) (gb (by exact hltk))) ?_
   refine Zf rfl (ad ty3 Sr) ?_
   refine cN rfl rfl rfl rfl (aR (Sel.take (Sel.take (Sel.take (FN _)))) (qz b sc vt vs vp vf ((dB (nth p.Kids 0).Attrs (nth p.Kids 1).Attrs (nth kids 0) (nth kids 1) s i)).1 hI.pok zG (cY (nth kids 0) (aM (nth p.Kids 0).Attrs (nth (nth p.Kids 1).Attrs i).Name)) (nth (nth kids 1) i).toNat (by rw [hKp.pl]; exact hci.2.2.2) (by rw [hKp.pl]; omega)) ⟨Sr, Sub.int (by show nth (nth kids 0) ((aM (nth p.Kids 0).Attrs (nth (nth p.Kids 1).Attrs i).Name)).toNat = _; unfold cY; omega), Sub.int (by show nth (nth kids 1) i = _; omega), trivial⟩ call95) fun v47 => ?_
   refine bP (ah (Zs (ax Sr Sr z6) (Zm (ab ?_))))
   refine ay (σ := Nat × Value × Value) (s := (i, vf, vo)) (i + 1, v47, vo) zO zG (zU) (.c zS (SPs.of (A := gP b sc vt vs vp v47 ((bY ((dB (nth p.Kids 0).Attrs (nth p.Kids 1).Attrs (nth kids 0) (nth kids 1) s i)).1 (cY (nth kids 0) (aM (nth p.Kids 0).Attrs (nth (nth p.Kids 1).Attrs i).Name)) (nth (nth kids 1) i).toNat).bad)) (by rw [hstep])) (.c zS (SPs.of (A := own 135 bm vp (bY ((dB (nth p.Kids 0).Attrs (nth p.Kids 1).Attrs (nth kids 0) (nth kids 1) s i)).1 (cY (nth kids 0) (aM (nth p.Kids 0).Attrs (nth (nth p.Kids 1).Attrs i).Name)) (nth (nth kids 1) i).toNat).P) (by rw [hstep])) (.c zS (SPs.of (A := own 3 aO v47 (bY ((dB (nth p.Kids 0).Attrs (nth p.Kids 1).Attrs (nth kids 0) (nth kids 1) s i)).1 (cY (nth kids 0) (aM (nth p.Kids 0).Attrs (nth (nth p.Kids 1).Attrs i).Name)) (nth (nth kids 1) i).toNat).F) (by rw [hstep])) (.r zS (.r zS (.c zS (SPs.of (A := own 3 aO vo ((dB (nth p.Kids 0).Attrs (nth p.Kids 1).Attrs (nth kids 0) (nth kids 1) s i)).2) (by rw [hstep])) (LSub.nil)))))))
  try simp only [NF] at h33
  have h33 : (aM (nth p.Kids 0).Attrs (nth (nth p.Kids 1).Attrs i).Name) < 0 := h33
  rw [show bT (nth p.Kids 0).Attrs (nth kids 0) (nth kids 1) ((dB (nth p.Kids 0).Attrs (nth p.Kids 1).Attrs (nth kids 0) (nth kids 1) s i)) (nth (nth p.Kids 1).Attrs i, nth (nth kids 1) i) = (((dB (nth p.Kids 0).Attrs (nth p.Kids 1).Attrs (nth kids 0) (nth kids 1) s i)).1, ((dB (nth p.Kids 0).Attrs (nth p.Kids 1).Attrs (nth kids 0) (nth kids 1) s i)).2 ++ [nth (nth kids 1) i]) by unfold bT; rw [if_neg (by show ¬ 0 <= (aM (nth p.Kids 0).Attrs (nth (nth p.Kids 1).Attrs i).Name); omega)]] at hstep
  refine ah (Zm (Zm ?_))
  refine Zs (ae (i := 1) underlying133 dn Sr Sr (by rfl) (gb (by exact hk1))) ?_
  refine Zl dn Sr (Zm ?_)
  refine Zs (ae (i := i) underlying27 ty3 Sr Sr (by rfl) (gb (by exact hltk))) ?_
  refine Zl ty3 Sr ?_
  refine Zs (aB (ys := [_]) underlying27 el3 ⟨rfl, Sr, trivial⟩ rfl (by decide)) ?_
  refine Zx (aH underlying27 el3 Sr Sr (Sel.skip (Sel.skip (Sel.skip (Sel.skip (Sel.skip (Sel.take (FN _))))))) (by simp; omega) (by simp; omega)) fun v56 => ?_
  refine Za (ab (ah (Zs (ax Sr Sr z6) (Zm (ab ?_)))))
  refine ay (σ := Nat × Value × Value) (s := (i, vf, vo)) (i + 1, vf, v56) zO zG (zU) (.c zS (SPs.of (A := gP b sc vt vs vp vf (((dB (nth p.Kids 0).Attrs (nth p.Kids 1).Attrs (nth kids 0) (nth kids 1) s i)).1.bad)) (by rw [hstep])) (.c zS (SPs.of (A := own 135 bm vp ((dB (nth p.Kids 0).Attrs (nth p.Kids 1).Attrs (nth kids 0) (nth kids 1) s i)).1.P) (by rw [hstep])) (.c zS (SPs.of (A := own 3 aO vf ((dB (nth p.Kids 0).Attrs (nth p.Kids 1).Attrs (nth kids 0) (nth kids 1) s i)).1.F) (by rw [hstep])) (.r zS (.r zS (.c zS (SPs.of (A := own 3 aO v56 (((dB (nth p.Kids 0).Attrs (nth p.Kids 1).Attrs (nth kids 0) (nth kids 1) s i)).2 ++ [nth (nth kids 1) i])) (by rw [hstep])) (LSub.nil)))))))
 try simp only [NF] at h21
 obtain rfl : i = (nth p.Kids 1).Attrs.length := by omega
 obtain ⟨hI, hKp, hIn, hLn⟩ := iF (a := (nth p.Kids 0).Attrs) (k0 := (nth kids 0)) (k1 := (nth kids 1)) (l := (nth p.Kids 1).Attrs.zip (nth kids 1)) (o := (nth kids 0)) hi hcb hl0 hcb (fun x hx => hcb1 _ (ph hx))
 have hend : (dB (nth p.Kids 0).Attrs (nth p.Kids 1).Attrs (nth kids 0) (nth kids 1) s (nth p.Kids 1).Attrs.length) = (iO (nth p.Kids 0).Attrs (nth p.Kids 1).Attrs (nth kids 0) (nth kids 1) s) := by unfold dB iO; rw [<- hz, List.take_length]
 refine aV (Jr (Zm (Za (ab (aC ?_)))))
 refine a7 (L' := [gP b sc vt vs vp vf (((iO (nth p.Kids 0).Attrs (nth p.Kids 1).Attrs (nth kids 0) (nth kids 1) s)).1.bad), own 135 bm vp ((iO (nth p.Kids 0).Attrs (nth p.Kids 1).Attrs (nth kids 0) (nth kids 1) s)).1.P, own 3 aO vf ((iO (nth p.Kids 0).Attrs (nth p.Kids 1).Attrs (nth kids 0) (nth kids 1) s)).1.F, own 3 aO vt ((iO (nth p.Kids 0).Attrs (nth p.Kids 1).Attrs (nth kids 0) (nth kids 1) s)).1.T, own 3 aO vs ((iO (nth p.Kids 0).Attrs (nth p.Kids 1).Attrs (nth kids 0) (nth kids 1) s)).1.S, own 3 aO vo ((iO (nth p.Kids 0).Attrs (nth p.Kids 1).Attrs (nth kids 0) (nth kids 1) s)).2]) (.c zS (SPs.of (A := gP b sc vt vs vp vf (((dB (nth p.Kids 0).Attrs (nth p.Kids 1).Attrs (nth kids 0) (nth kids 1) s (nth p.Kids 1).Attrs.length)).1.bad)) (by rw [hend])) (.c zS (SPs.of (A := own 135 bm vp ((dB (nth p.Kids 0).Attrs (nth p.Kids 1).Attrs (nth kids 0) (nth kids 1) s (nth p.Kids 1).Attrs.length)).1.P) (by rw [hend])) (.c zS (SPs.of (A := own 3 aO vf ((dB (nth p.Kids 0).Attrs (nth p.Kids 1).Attrs (nth kids 0) (nth kids 1) s (nth p.Kids 1).Attrs.length)).1.F) (by rw [hend])) (.c zS (SPs.of (A := own 3 aO vt s.T) (by rw [show ((iO (nth p.Kids 0).Attrs (nth p.Kids 1).Attrs (nth kids 0) (nth kids 1) s)).1.T = s.T from hKp.t])) (.c zS (SPs.of (A := own 3 aO vs s.S) (by rw [show ((iO (nth p.Kids 0).Attrs (nth p.Kids 1).Attrs (nth kids 0) (nth kids 1) s)).1.S = s.S from hKp.s])) (.c zS (SPs.of (A := own 3 aO vo ((dB (nth p.Kids 0).Attrs (nth p.Kids 1).Attrs (nth kids 0) (nth kids 1) s (nth p.Kids 1).Attrs.length)).2) (by rw [hend])) (LSub.nil))))))) ?_
 refine a7 (L' := [bsS b sc ((iO (nth p.Kids 0).Attrs (nth p.Kids 1).Attrs (nth kids 0) (nth kids 1) s)).1, own 3 aO vo ((iO (nth p.Kids 0).Attrs (nth p.Kids 1).Attrs (nth kids 0) (nth kids 1) s)).2]) Gq ?_
 refine aY (rv := .tmp 5) rfl () (Sel.skip (Sel.take (FN _))) (.tmp Sr) Frz.own
def oq : List (SF GbuilderW) := [⟨List GTable, 22, rSl cS, fun x => x.schema.Tables⟩, ⟨Value, 27, rV, GbuilderW.tables⟩, ⟨Value, 27, rV, GbuilderW.start⟩, ⟨Value, 96, rV, GbuilderW.places⟩, ⟨Value, 27, rV, GbuilderW.self⟩, ⟨Bool, 4, bN, GbuilderW.bad⟩]
abbrev Ep (b : Nat) (B : GbuilderW) : SP := box b 98 (aU oq) B
theorem SPs.toS {b : Nat} {B : GbuilderW} : SPs (box b 98 cm B) (Ep b B) := fun h m ⟨cs, r, e⟩ => ⟨cs, by
  obtain ⟨c0, _, rfl, ⟨d0, _, rfl, r0, rz⟩, rest⟩ := r
  rw [show _ = [] from rz, List.append_nil]
  exact ⟨d0, _, _root_.rfl, r0, rest⟩, e⟩
theorem SPs.ofS {b : Nat} {B : GbuilderW} : SPs (Ep b B) (box b 98 cm B) := fun h m ⟨cs, r, e⟩ => ⟨cs, by
  obtain ⟨c0, _, rfl, r0, rest⟩ := r
  exact ⟨c0, _, _root_.rfl, ⟨c0, [], by rw [List.append_nil], r0, _root_.rfl⟩, rest⟩, e⟩
theorem vB (b : Nat) (sc : GSchema) (n : Nat) (p : aQ) (s : Bst) (kids : List (List Int)) (hi : BdInv sc s) (ht : 0 <= p.Table /\ p.Table < sc.Tables.length) (ha : (nth sc.Tables p.Table.toNat).Attrs.length <= 12) (hP : s.P.length <= 100000000) (hT : s.T.length <= 100000000) : Spec (X := Unit) prog 86 [(aX (n + 1)).ty p, tSl (rSl aO) kids, CB b] ([bsS b sc s]) (fun _ => tSl aO (ge s.P.length (nth sc.Tables p.Table.toNat).Attrs.length)) (fun _ => [bsS b sc (eL sc s p.Table)]) := by
 refine Spec.enter func86 rfl rfl fun h0 w0 fr0 => ?_
 have hts := hi.ts
 refine CQ fun vt vs vp vf => ?_
 refine Jr (Zs (aF (R := (aX (n + 1))) Sr) (Za (ab (ap ?_))))
 refine bQ [⟨0, [2], true⟩, ⟨1, [2], true⟩, ⟨2, [8], true⟩, ⟨3, [9], true⟩, ⟨4, [10], false⟩, ⟨5, [11], true⟩, ⟨6, [2, 12], true⟩, ⟨7, [12, 13], true⟩, ⟨8, [12, 14], true⟩, ⟨10, [3, 12], true⟩, ⟨11, [12, 17], true⟩, ⟨9, [12, 15], false⟩, ⟨12, [12, 16, 18], false⟩, ⟨13, [12, 19], true⟩, ⟨14, [7], true⟩, ⟨15, [21], true⟩, ⟨16, [20, 22], false⟩] rfl (by kernel_rfl) ?_
 refine Zf rfl (ad gh Sr) (Zf rfl (ad gh Sr) (Zf rfl (aW Sr) (Zf rfl (aq fc Sr rfl) ?_)))
 refine e8 rfl rfl rfl rfl (a6 ty4 Sr rfl zS) ?_
 refine Zv rfl ?_
 refine Mk rfl rfl Sr rfl (ad gh Sr) ?_
 refine Mg rfl rfl Sr rfl (fun hw => aW (Sub.w hw)) (Mg rfl rfl Sr rfl (fun hw => aq fc (Sub.w hw) rfl) ?_)
 refine Mk rfl rfl Sr rfl (aa cq Sr rfl) ?_
 refine Mg rfl rfl Sr rfl (fun hw => ad ty3 (Sub.w hw)) ?_
 refine tq rfl rfl rfl rfl (FS Sr) rfl rfl (fun hw => a6 ei (Sub.w hw) rfl zS) ?_
 refine tq rfl rfl rfl rfl (FS Sr) rfl rfl (fun hw => cP (Sel.skip (Sel.skip (Sel.skip (Sel.take (FN _))))) (ey s.T p.Table zG) (fun _ => Flat.v _) ⟨Frz.w hw Frz.own, Frz.sub (Sub.w hw), trivial⟩ call52) ?_
 refine Zf rfl (aD Sr Sr) (Zf rfl (aW Sr) (Zf rfl (aq fc Sr rfl) ?_))
 refine ju rfl rfl rfl (aS (R := bN) (y' := (⟨sc, vt, vs, vp, vf, (s.bad || s.T.any fun x => decide (p.Table = x))⟩ : GbuilderW)) ty4 Sr Sr zS (by exact ⟨rfl, ⟨rfl, ⟨rfl, ⟨rfl, ⟨rfl, ⟨fun _ _ q => q, rfl, by intro g hg; cases hg⟩⟩⟩⟩⟩⟩)) fun _ => ?_
 refine bP (ap ?_)
 refine a7 (L' := [gP b sc vt vs vp vf (s.bad || s.T.any fun x => decide (p.Table = x)), own 135 bm vp s.P, own 3 aO vf s.F, own 3 aO vt s.T, own 3 aO vs s.S]) (zL) ?_
 refine o0 (e := 135) (R := bm) (v := vp) (xs := s.P) zS fun hvp0 => ?_
 obtain ⟨pp0, cp0, hvp0⟩ := hvp0
 refine pj [gP b sc vt vs vp vf (s.bad || s.T.any fun x => decide (p.Table = x)), own 135 bm vp s.P] [⟨0, [2], 0⟩, ⟨1, [2], 0⟩, ⟨2, [2], 0⟩, ⟨3, [25], 0⟩, ⟨4, [26], 0⟩, ⟨5, [27], 1⟩, ⟨6, [3], 0⟩, ⟨7, [29], 0⟩, ⟨8, [30], 0⟩, ⟨10, [2], 0⟩, ⟨11, [33], 0⟩, ⟨12, [34], 0⟩, ⟨13, [35], 1⟩, ⟨14, [2], 0⟩, ⟨15, [37], 0⟩, ⟨16, [38], 0⟩, ⟨17, [39], 1⟩, ⟨18, [40], 0⟩, ⟨19, [41], 0⟩, ⟨21, [23], 0⟩, ⟨22, [44], 0⟩, ⟨24, [24], 0⟩, ⟨25, [46], 0⟩] [⟨9, [28, 31], 32, own 3 aO vt s.T, fun v => rV.ty v, fun v => own 3 aO v (s.T ++ [p.Table])⟩, ⟨20, [36, 42], 43, own 3 aO vs s.S, fun v => rV.ty v, fun v => own 3 aO v (s.S ++ [(s.P.length : Int)])⟩] [⟨23, [32, 45], 2⟩, ⟨26, [43, 47], 2⟩] (L := [own 3 aO vf s.F]) (zL) rfl (by kernel_rfl) (Nat.le_of_ble_eq_true rfl) ?_
 refine ba rfl rfl rfl rfl (fun _ => ad gh Sr) ?_
 refine ba rfl rfl rfl rfl (fun _ => ad gh Sr) ?_
 refine ba rfl rfl rfl rfl (fun _ => ad gh Sr) ?_
 refine ba rfl rfl rfl rfl (fun _ => aW Sr) ?_
 refine ba rfl rfl rfl rfl (fun _ => aq fc Sr rfl) ?_
 refine kB rfl rfl rfl rfl (fun _ => a6 ei Sr rfl zS) ?_
 refine ba rfl rfl rfl rfl (fun _ => aa cq Sr rfl) ?_
 refine ba rfl rfl rfl rfl (fun _ => ad ty3 Sr) ?_
 refine ba rfl rfl rfl rfl (fun _ => aB (ys := [_]) underlying27 el3 ⟨rfl, Sr, trivial⟩ rfl (by decide)) ?_
 refine ba rfl rfl rfl rfl (fun _ => ad gh Sr) ?_
 refine ba rfl rfl rfl rfl (fun _ => aW Sr) ?_
 refine ba rfl rfl rfl rfl (fun _ => aq fc Sr rfl) ?_
 refine kB rfl rfl rfl rfl (fun _ => a6 ei Sr rfl zS) ?_
 refine ba rfl rfl rfl rfl (fun _ => ad gh Sr) ?_
 refine ba rfl rfl rfl rfl (fun _ => aW Sr) ?_
 refine ba rfl rfl rfl rfl (fun _ => aq fc Sr rfl) ?_
 refine kB rfl rfl rfl rfl (fun _ => a6 gB Sr rfl zS) ?_
 refine ba rfl rfl rfl rfl (fun _ => me (p := pp0) (n := s.P.length) (cap := cp0) underlying96 (Gg (by show rV.ty vp = _; rw [hvp0]))) ?_
 refine ba rfl rfl rfl rfl (fun _ => aB (ys := [_]) underlying27 el3 ⟨rfl, Sr, trivial⟩ rfl (by decide)) ?_
 refine ba rfl rfl rfl rfl (fun _ => aW Sr) ?_
 refine ba rfl rfl rfl rfl (fun _ => aq fc Sr rfl) ?_
 refine ba rfl rfl rfl rfl (fun _ => aW Sr) ?_
 refine ba rfl rfl rfl rfl (fun _ => aq fc Sr rfl) ?_
 refine oo ?_
 refine ⟨⟨_, rfl, rfl, rfl, rfl, fun _ => aH underlying27 el3 Sr Sr zS (by simp; omega) (by simp; omega)⟩, fun v32 => ?_⟩
 refine ⟨⟨_, rfl, rfl, rfl, rfl, fun _ => aH underlying27 el3 Sr Sr zS (by simp; omega) (by simp; omega)⟩, fun v43 => ?_⟩
 refine qG ?_
 refine fB rfl rfl rfl (aS (R := rV) (y' := (⟨sc, v32, vs, vp, vf, (s.bad || s.T.any fun x => decide (p.Table = x))⟩ : GbuilderW)) ei Sr Sr zS (by exact ⟨rfl, ⟨fun _ _ q => q, rfl, by intro g hg; simp only [List.mem_cons, List.not_mem_nil, or_false] at hg; rcases hg with rfl | rfl | rfl | rfl <;> rfl⟩⟩)) fun _ => ?_
 refine fB rfl rfl rfl (aS (R := rV) (y' := (⟨sc, v32, v43, vp, vf, (s.bad || s.T.any fun x => decide (p.Table = x))⟩ : GbuilderW)) ei Sr Sr zS (by exact ⟨rfl, ⟨rfl, ⟨fun _ _ q => q, rfl, by intro g hg; simp only [List.mem_cons, List.not_mem_nil, or_false] at hg; rcases hg with rfl | rfl | rfl <;> rfl⟩⟩⟩)) fun _ => ?_
 refine nT (Jr (Za (ab (ap (ap ?_)))))
 refine a7 (L' := [Ep b ⟨sc, v32, v43, vp, vf, (s.bad || s.T.any fun x => decide (p.Table = x))⟩, own 135 bm vp s.P, own 3 aO vf s.F, own 3 aO v32 (s.T ++ [p.Table]), own 3 aO v43 (s.S ++ [(s.P.length : Int)])]) (.c zS (SPs.toS) (zL)) ?_
 refine bQ [⟨0, [2], true⟩, ⟨1, [48], true⟩, ⟨2, [49], true⟩, ⟨3, [50], true⟩, ⟨5, [3], true⟩, ⟨6, [53], true⟩, ⟨11, [], true⟩, ⟨4, [51], false⟩, ⟨7, [52, 54], true⟩, ⟨8, [55], true⟩, ⟨9, [56], true⟩, ⟨10, [57], true⟩] rfl (by kernel_rfl) ?_
 refine Zf rfl (ad gh Sr) (Zf rfl (aW Sr) (Zf rfl (aq fc Sr rfl) (Zf rfl (fw (o := 0) qb Sr rfl) (Zf rfl (aa cq Sr rfl) (Zf rfl (ad ty3 Sr) ?_)))))
 refine Zv rfl ?_
 refine e8 rfl rfl rfl rfl (a6 (n := 0) (fs := oq) qa Sr rfl zS) ?_
 refine Zf rfl (ae (i := p.Table.toNat) underlying22 nl Sr Sr (by show p.Table = _; omega) (gb (by show p.Table.toNat < sc.Tables.length; omega))) ?_
 refine Zf rfl (aa jC Sr rfl) (Zf rfl (ad eP Sr) (Zf rfl (ag underlying28 Sr) (bP ?_)))
 refine a7 (L' := [gP b sc v32 v43 vp vf (s.bad || s.T.any fun x => decide (p.Table = x)), own 135 bm vp s.P, own 3 aO vf s.F, own 3 aO v32 (s.T ++ [p.Table]), own 3 aO v43 (s.S ++ [(s.P.length : Int)])]) (.c zS (SPs.ofS) (zL)) ?_
 refine au ?_
 refine aK (σ := Nat × Value × Value) (fun ⟨i, vo, vp⟩ => i <= (nth sc.Tables p.Table.toNat).Attrs.length) (fun ⟨i, vo, vp⟩ => upd (upd (upd (upd (upd co 2 (CB b)) 5 (tV (.slice none 0 0))) 6 (rV.ty vo)) 58 (tV (.int .i64 (nth sc.Tables p.Table.toNat).Attrs.length))) 59 (tV (.int .i64 i))) (fun ⟨i, vo, vp⟩ => [gP b sc v32 v43 vp vf (s.bad || s.T.any fun x => decide (p.Table = x)), own 135 bm vp (s.P ++ cI s.P.length i), own 3 aO vf s.F, own 3 aO v32 (s.T ++ [p.Table]), own 3 aO v43 (s.S ++ [(s.P.length : Int)]), own 3 aO vo (ge s.P.length i)]) (fun ⟨i, vo, vp⟩ => (nth sc.Tables p.Table.toNat).Attrs.length - i) (0, .slice none 0 0, vp) (by simp) (.u (.u (SubE.upd (FT rfl) (zU)))) (LSub.trans (FR (e := 3) (R := aO)) (.r zS (.c zS (SPs.of (A := own 135 bm vp s.P) (by show _ = own 135 bm vp (s.P ++ []); rw [List.append_nil])) (.r zS (.r zS (.r zS (.c zS (SPs.of (A := own 3 aO (.slice none 0 0) ([] : List Int)) rfl) (LSub.nil)))))))) ?_
 rintro ⟨i, vo, vp⟩ hil
 try dsimp only at hil
 refine Jr (Zs (az Sr Sr) (ab (ap ?_)))
 refine am Sr (fun h60 => ?_) (fun h60 => ?_)
 ·
  try simp only [NF] at h60
  have hlt : i < (nth sc.Tables p.Table.toNat).Attrs.length := by omega
  have hpl : (s.P ++ cI s.P.length i).length = s.P.length + i := by rw [List.length_append, cO]
  refine av (ap (au (Jr (Zm (Zl gh Sr ?_)))))
  refine Zs (aW Sr) (Zs (aq fc Sr rfl) ?_)
  refine Zs (a6 gB Sr rfl zS) ?_
  refine Zs (bC underlying96 Sr zS) ?_
  refine Zs (aB (ys := [_]) underlying27 el3 ⟨rfl, Sr, trivial⟩ rfl (by decide)) ?_
  refine Zx (aH underlying27 el3 Sr Sr (Sel.skip (Sel.skip (Sel.skip (Sel.skip (Sel.skip (Sel.take (FN _))))))) (by rw [mu]; simp; omega) (by rw [mu]; simp; omega)) fun v68 => ?_
  refine Za (ab ?_)
  refine o0 (e := 135) (R := bm) (v := vp) (xs := (s.P ++ cI s.P.length i)) zS fun hvp => ?_
  obtain ⟨pp, cp, hvp⟩ := hvp
  subst hvp
  refine pj [gP b sc v32 v43 (Value.slice pp (s.P ++ cI s.P.length i).length cp) vf (s.bad || s.T.any fun x => decide (p.Table = x))] [⟨0, [2], 0⟩, ⟨1, [2], 0⟩, ⟨2, [70], 0⟩, ⟨3, [71], 0⟩, ⟨4, [72], 1⟩, ⟨5, [2], 0⟩, ⟨6, [74], 0⟩, ⟨7, [75], 0⟩, ⟨8, [76], 1⟩, ⟨9, [77], 0⟩, ⟨10, [78], 0⟩, ⟨11, [79], 0⟩, ⟨13, [69], 0⟩, ⟨14, [82], 0⟩] [⟨12, [73, 80], 81, own 135 bm (Value.slice pp (s.P ++ cI s.P.length i).length cp) (s.P ++ cI s.P.length i), fun v => rV.ty v, fun v => own 135 bm v ((s.P ++ cI s.P.length i) ++ [⟨((s.P ++ cI s.P.length i).length : Int), ⟨0, 0, ⟨#[]⟩⟩, false⟩])⟩] [⟨15, [81, 83], 2⟩] (L := [own 3 aO v68 (ge s.P.length i ++ [((s.P ++ cI s.P.length i).length : Int)]), own 3 aO vf s.F, own 3 aO v32 (s.T ++ [p.Table]), own 3 aO v43 (s.S ++ [(s.P.length : Int)])]) (zL) rfl (by kernel_rfl) (Nat.le_of_ble_eq_true rfl) ?_
  refine ba rfl rfl rfl rfl (fun _ => ad gh Sr) ?_
  refine ba rfl rfl rfl rfl (fun _ => ad gh Sr) ?_
  refine ba rfl rfl rfl rfl (fun _ => aW Sr) ?_
  refine ba rfl rfl rfl rfl (fun _ => aq fc Sr rfl) ?_
  refine kB rfl rfl rfl rfl (fun _ => a6 gB Sr rfl zS) ?_
  refine ba rfl rfl rfl rfl (fun _ => ad gh Sr) ?_
  refine ba rfl rfl rfl rfl (fun _ => aW Sr) ?_
  refine ba rfl rfl rfl rfl (fun _ => aq fc Sr rfl) ?_
  refine kB rfl rfl rfl rfl (fun _ => a6 gB Sr rfl zS) ?_
  refine ba rfl rfl rfl rfl (fun _ => me underlying96 Sr) ?_
  refine ba rfl rfl rfl rfl (fun _ => aP (x := (⟨((s.P ++ cI s.P.length i).length : Int), ⟨0, 0, ⟨#[]⟩⟩, false⟩ : Gplace)) (zs := [[Value.int .i64 0], [Value.int .i64 0, Value.int .i64 0, Value.string ⟨#[]⟩], [Value.bool false]]) gU (fun w => zeroValue135 w) ⟨Sr, trivial⟩ ⟨⟨Sr, rfl⟩, fun _ => ⟨[Value.int .i64 0], _, rfl, rfl, ⟨[Value.int .i64 0], _, rfl, rfl, ⟨[Value.string ⟨#[]⟩], _, rfl, rfl, rfl⟩⟩⟩, fun _ => rfl, trivial⟩) ?_
  refine ba rfl rfl rfl rfl (fun _ => aB (ys := [_]) underlying96 C2 ⟨rfl, Sr, trivial⟩ rfl (by decide)) ?_
  refine ba rfl rfl rfl rfl (fun _ => aW Sr) ?_
  refine ba rfl rfl rfl rfl (fun _ => aq fc Sr rfl) ?_
  refine oo ?_
  refine ⟨⟨_, rfl, rfl, rfl, rfl, fun _ => aH underlying96 C2 Sr Sr zS (by rw [hpl]; simp; omega) (by rw [hpl]; simp; omega)⟩, fun v81 => ?_⟩
  refine qG ?_
  refine fB rfl rfl rfl (aS (R := rV) (y' := (⟨sc, v32, v43, v81, vf, (s.bad || s.T.any fun x => decide (p.Table = x))⟩ : GbuilderW)) gB Sr Sr zS (by exact ⟨rfl, ⟨rfl, ⟨rfl, ⟨fun _ _ q => q, rfl, by intro g hg; simp only [List.mem_cons, List.not_mem_nil, or_false] at hg; rcases hg with rfl | rfl <;> rfl⟩⟩⟩⟩)) fun _ => ?_
  refine nT (ah (Zs (ax Sr Sr z6) (Zm (ab ?_))))
  refine ay (σ := Nat × Value × Value) (s := (i, vo, Value.slice pp (s.P ++ cI s.P.length i).length cp)) (i + 1, v68, v81) zO zG (zU) (.r zS (.c zS (SPs.of (A := own 135 bm v81 ((s.P ++ cI s.P.length i) ++ [⟨((s.P ++ cI s.P.length i).length : Int), ⟨0, 0, ⟨#[]⟩⟩, false⟩])) (by rw [vy, <- List.append_assoc, hpl])) (.r zS (.r zS (.r zS (.c zS (SPs.of (A := own 3 aO v68 (ge s.P.length i ++ [((s.P ++ cI s.P.length i).length : Int)])) (by rw [vx, hpl])) (LSub.nil)))))))
 try simp only [NF] at h60
 obtain rfl : i = (nth sc.Tables p.Table.toNat).Attrs.length := by omega
 refine aV (Jr (Zm (Za (ab (aC ?_)))))
 refine a7 (L' := [gP b sc v32 v43 vp vf ((eL sc s p.Table).bad), own 135 bm vp (eL sc s p.Table).P, own 3 aO vf (eL sc s p.Table).F, own 3 aO v32 (eL sc s p.Table).T, own 3 aO v43 (eL sc s p.Table).S, own 3 aO vo (ge s.P.length (nth sc.Tables p.Table.toNat).Attrs.length)]) (zL) ?_
 refine a7 (L' := [bsS b sc (eL sc s p.Table), own 3 aO vo (ge s.P.length (nth sc.Tables p.Table.toNat).Attrs.length)]) Gq ?_
 refine aY (rv := .tmp 5) rfl () (Sel.skip (Sel.take (FN _))) (.tmp Sr) Frz.own
def wC (b : Nat) (k : Int) : Ty := if k = 1 then eZ 86 [CB b] else if k = 2 then eZ 87 [CB b] else if k = 3 then eZ 89 [] else if k = 4 then eZ 91 [CB b] else if k = 7 then eZ 90 [] else tV .nilFunc
theorem Dk {b : Nat} : ∀ k h v, (wC b k).p h v -> v.oneCell' = true := by
  intro k h v hv
  unfold wC at hv
  repeat' split at hv
  all_goals first | (obtain ⟨c, rfl, _⟩ := hv; rfl) | (rw [show v = .nilFunc from hv]; rfl)
abbrev wkR (b : Nat) : Rp Int := Ek (wC b) Dk
def wkM : List (Int × Int) := [(1, 1), (2, 2), (3, 3), (7, 7), (4, 4)]
theorem BW (k : Int) : (mget wkM k).getD 0 = if bX k = true then k else 0 := by
  unfold bX
  by_cases h1 : k = 1
  · subst h1; rfl
  by_cases h2 : k = 2
  · subst h2; rfl
  by_cases h3 : k = 3
  · subst h3; rfl
  by_cases h4 : k = 4
  · subst h4; rfl
  by_cases h7 : k = 7
  · subst h7; rfl
  simp [wkM, mget, h1, h2, h3, h4, h7]
theorem Dl {b : Nat} {k : Int} : ∀ h v, (wC b (if bX k = true then k else 0)).p h v -> (v = .nilFunc /\ (!bX k) = true) \/ ((∃ f a c, v = .func f a c) /\ (!bX k) = false) := by
  intro h v hv
  by_cases hw : bX k = true
  · rw [if_pos hw] at hv
    right
    refine ⟨?_, by rw [hw]; rfl⟩
    unfold bX at hw
    unfold wC at hv
    simp only [Bool.or_eq_true, decide_eq_true_eq] at hw
    repeat' split at hv
    all_goals first | (obtain ⟨c, e, _⟩ := hv; exact ⟨_, _, _, e⟩) | omega
  · rw [if_neg hw] at hv
    left
    refine ⟨hv, ?_⟩
    rw [Bool.eq_false_iff.2 hw]; rfl
theorem xB {C : Cx} {o : Oper} {E : Env} {L : List SP} {A B : Ty} (h : a8 C o E L A) (s : Sub A B) : a8 C o E L B := fun a w hp m n l sp st fr next Q hk => h a w hp m n l sp st fr next Q fun x v w' h' m' l' sp' st' hv => hk x v w' h' m' l' sp' st' (s _ _ hv)
theorem vC (b : Nat) : Fun1 prog 42 [tAt b 0] (d6 kvI (wkR b) wkM) := by
 refine Spec.enter func42 rfl rfl fun h0 w0 fr0 => ?_
 refine Jr (Zs (aF (R := uR (tAt b 0) Ba) (y := ()) Sr) (Za (ab (Jr ?_))))
 refine Zx (kZ (kv := kvI) (R := wkR b)) fun v3 => ?_
 refine Zs (bl (As := [_]) ⟨Sr, trivial⟩) ?_
 refine Ju (cd (kv := kvI) (R := wkR b) (z := (1 : Int)) (KeyT.int underlying3) underlying100 Sr Sr (Sub.trans Sr (Gg (B := wC b 1) rfl)) zS) fun _ => ?_
 refine Zs (bl (As := [_]) ⟨Sr, trivial⟩) ?_
 refine Ju (cd (kv := kvI) (R := wkR b) (z := (2 : Int)) (KeyT.int underlying3) underlying100 Sr Sr (Sub.trans Sr (Gg (B := wC b 2) rfl)) zS) fun _ => ?_
 refine Ju (cd (kv := kvI) (R := wkR b) (z := (3 : Int)) (KeyT.int underlying3) underlying100 Sr Sr (Sub.trans F5 (Gg (B := wC b 3) rfl)) zS) fun _ => ?_
 refine Ju (cd (kv := kvI) (R := wkR b) (z := (7 : Int)) (KeyT.int underlying3) underlying100 Sr Sr (Sub.trans F5 (Gg (B := wC b 7) rfl)) zS) fun _ => ?_
 refine Zs (bl (As := [_]) ⟨Sr, trivial⟩) ?_
 refine Ju (cd (kv := kvI) (R := wkR b) (z := (4 : Int)) (KeyT.int underlying3) underlying100 Sr Sr (Sub.trans Sr (Gg (B := wC b 4) rfl)) zS) fun _ => ?_
 refine Zm (Za (ab (aC ?_)))
 refine aY (rv := .tmp 2) rfl () (Sel.all _) (.tmp Sr) (GA (m := wkM))
theorem mA (sc : GSchema) (n : Nat) (s : Bst) (p : aQ) : walkS sc (n + 1) s p = if bX p.Kind = false then ({ s with bad := true }, [])
    else if (kidsS (walkS sc n) s p.Kids).1.bad = true then ((kidsS (walkS sc n) s p.Kids).1, [])
    else nC sc p (kidsS (walkS sc n) s p.Kids).1 (kidsS (walkS sc n) s p.Kids).2 := rfl
theorem Er {n m : Nat} (hm : n = m + 1) : ∀ h, ((aX n).ty GPl.zero).p h (.agg #[Value.int .i64 0, Value.int .i64 0, Value.slice none 0 0, Value.slice none 0 0, Value.slice none 0 0, Value.int .i64 0, Value.int .i64 0, Value.slice none 0 0]) := by subst hm; exact tC
theorem tT {f : aQ -> Nat} {l : List aQ} {i : Nat} (h : i < l.length) : ((l.take i).map f).sum + f (nth l i) <= (l.map f).sum := by
  have h1 : ((l.take (i + 1)).map f).sum = ((l.take i).map f).sum + f (nth l i) := by rw [di h]; simp
  have h2 : (l.map f).sum = ((l.take (i + 1)).map f).sum + ((l.drop (i + 1)).map f).sum := by
    conv => lhs; rw [<- List.take_append_drop (i + 1) l]
    rw [List.map_append, List.sum_append]
  omega
section
variable {ro : Option Nat} {N : Nat} {ds : List Deferred} {h0 : PH} {w0 : World} {r : PH} {E : Env} {L R : List SP} {d : Option Nat} {ty : Nat} {pos : String} {af : Array Edge} {g : Option (Nat × Bool)} {x y z : Operand} {ts : Array Nat}
theorem gj {f : Nat} {A B T : Ty} {As : List Ty} {S1 S2 : SP} (hx : Sub (opTy E x) (eZ f As)) (sel : Sel L [S1] R) (sp : Spec (X := Unit) prog f ([A, B] ++ As) [S1] (fun _ => T) (fun _ => [S2])) (hy : Sub (opTy E y) A) (hz : Sub (opTy E z) B) (he : ∀ args w, (callFunc f args).run prog w = .ok (.enter f args) w) :
    Step (X := Unit) ⟨prog, ro, N, ds, h0, w0, r⟩ ⟨d, .call { callee := .value x, args := #[y, z], argTypes := ts }, ty, pos, af, g⟩ E L (fun _ => T) (fun _ => S2 :: R) := by
  have := eR (C := ⟨prog, ro, N, ds, h0, w0, r⟩) (E := E) (L := L) (d := d) (ty := ty) (pos := pos) (af := af) (g := g) (x := x) (xs := #[y, z]) (ts := ts) (aT := [A, B]) hx sel sp (show ArgsE E [y, z] [A, B] from ⟨hy, hz, trivial⟩) he
  exact this
theorem zR {b : Nat} {sc : GSchema} (hs : no sc = true) {n l : Nat} {p : aQ} {s s0 : Bst} {ks : List (List Int)} (hv : validM sc l p = true) (hd : Dep (n + 1) p) (hp : n8 (n + 1) p) (hw : bX p.Kind = true) (hk : KOk sc n s0 p.Kids (s, ks)) (hb : s.bad = false)
    (hP : s.P.length <= 100000000) (hT : s.T.length <= 100000000) (hF : s.F.length + p.Tests.length + (nth p.Kids 1).Attrs.length <= 1000000000)
    (hx : Sub (opTy E x) ((wkR b).ty (if bX p.Kind = true then p.Kind else 0))) (hy : Sub (opTy E y) ((aX (n + 1)).ty p)) (hz : Sub (opTy E z) (tSl (rSl aO) ks)) (sel : Sel L [bsS b sc s] R) :
    Step (X := Unit) ⟨prog, ro, N, ds, h0, w0, r⟩ ⟨d, .call { callee := .value x, args := #[y, z], argTypes := ts }, ty, pos, af, g⟩ E L (fun _ => tSl aO (nC sc p s ks).2) (fun _ => bsS b sc (nC sc p s ks).1 :: R) := by
  obtain ⟨h1, h2⟩ := hk.li hb
  have hi : BdInv sc s := hk.inv
  have h1 : ks.length = p.Kids.length := h1
  have h2 : ∀ i, i < p.Kids.length -> (nth ks i).length = (nth p.Kids i).Attrs.length /\ ∀ x ∈ nth ks i, 0 <= x /\ x < s.P.length := h2
  obtain ⟨z1, z2, z3, z4, z5⟩ := hp
  rw [if_pos hw] at hx
  have hx : Sub (opTy E x) (wC b p.Kind) := hx
  by_cases c1 : p.Kind = 1
  · obtain ⟨ht, hl⟩ := vk1 hv c1
    rw [c1] at hx
    have e : nC sc p s ks = (eL sc s p.Table, ge s.P.length (nth sc.Tables p.Table.toNat).Attrs.length) := by simp [nC, c1]
    rw [e]
    exact gj (f := 86) (As := [CB b]) hx sel (vB b sc n p s ks hi ht (mv hs (by omega)) hP hT) hy hz call86
  by_cases c2 : p.Kind = 2
  · obtain ⟨hn, ht, hl⟩ := vk2 hv c2
    have g0 := h2 0 (by omega)
    rw [c2] at hx
    have e : nC sc p s ks = (p.Tests.foldl (fun s t => br s t (nth ks 0)) s, nth ks 0) := by simp [nC, c2]
    rw [e]
    exact gj (f := 87) (As := [CB b]) hx sel (vz b sc n p s ks hi (by omega) g0.2 (by rw [g0.1]; exact ht) (by omega) (by omega)) hy hz call87
  by_cases c3 : p.Kind = 3
  · obtain ⟨hn, ht, hl⟩ := vk3 hv c3
    have g0 := h2 0 (by omega)
    rw [c3] at hx
    have e : nC sc p s ks = (s, p.Cols.map fun c => nth (nth ks 0) c.toNat) := by simp [nC, c3]
    rw [e]
    exact gj (f := 89) (As := []) hx sel (sD b sc n p s ks (by omega) (by rw [g0.1]; exact ht) (by omega)) hy hz call89
  by_cases c4 : p.Kind = 4
  · obtain ⟨hn, hl⟩ := vk4 hv c4
    have g0 := h2 0 (by omega)
    have g1 := h2 1 (by omega)
    rw [c4] at hx
    have e : nC sc p s ks = iO (nth p.Kids 0).Attrs (nth p.Kids 1).Attrs (nth ks 0) (nth ks 1) s := by simp [nC, c4]
    rw [e]
    cases n with
    | zero => exact (hd _ (nth_mem (show 0 < p.Kids.length by omega))).elim
    | succ m =>
      exact gj (f := 91) (As := [CB b]) hx sel (sE b sc m p s ks hi (by omega) (by omega) g0.2 g1.2 g0.1 g1.1 (Nat.le_trans (z5 _ (nth_mem (show 0 < p.Kids.length by omega))).2 (by omega)) (Nat.le_trans (z5 _ (nth_mem (show 1 < p.Kids.length by omega))).2 (by omega)) (by omega)) hy hz call91
  have c7 : p.Kind = 7 := by unfold bX at hw; simp only [Bool.or_eq_true, decide_eq_true_eq] at hw; omega
  obtain ⟨hn, hl⟩ := vk7 hv c7
  rw [c7] at hx
  have e : nC sc p s ks = (s, nth ks 0) := by simp [nC, c7]
  rw [e]
  exact gj (f := 90) (As := []) hx sel (vA b sc n p s ks (by omega)) hy hz call90
end
def Dm (b : Nat) (sc : GSchema) (n : Nat) : Prop := ∀ (lv : Nat) (p : aQ) (s : Bst), validM sc lv p = true -> n8 n p -> Dep n p -> BdInv sc s -> s.bad = false -> s.P.length + 12 * cZ n p <= 100000000 -> s.T.length + cZ n p <= 100000000 -> s.F.length + binds n p <= 1000000000 ->
  Spec (X := Unit) prog 41 [tAt b 0, d6 kvI (wkR b) wkM, (aX n).ty p] [bsS b sc s] (fun _ => tSl aO (walkS sc n s p).2) (fun _ => [bsS b sc (walkS sc n s p).1])
theorem vD (b : Nat) (sc : GSchema) (hs : no sc = true) (n lv : Nat) (p : aQ) (s : Bst) (hv : validM sc lv p = true) (hp : n8 (n + 1) p) (hd : Dep (n + 1) p) (hi : BdInv sc s) (hb : s.bad = false) (hP : s.P.length + 12 * cZ (n + 1) p <= 100000000) (hT : s.T.length + cZ (n + 1) p <= 100000000) (hF : s.F.length + binds (n + 1) p <= 1000000000) (ih : Dm b sc n) : Spec (X := Unit) prog 41 [tAt b 0, d6 kvI (wkR b) wkM, (aX (n + 1)).ty p] ([bsS b sc s]) (fun _ => tSl aO (walkS sc (n + 1) s p).2) (fun _ => [bsS b sc (walkS sc (n + 1) s p).1]) := by
 refine Spec.enter func41 rfl rfl fun h0 w0 fr0 => ?_
 obtain ⟨lv', hlv, hkd, hkn, hvk, _, _⟩ := cG hv
 obtain ⟨z1, z2, z3, z4, z5⟩ := id hp
 have hk2 : p.Kids.length <= 2 := by unfold kidsN at hkn; split at hkn <;> (try split at hkn) <;> omega
 have en : cZ (n + 1) p = 1 + (p.Kids.map (cZ n)).sum := rfl
 have eb : binds (n + 1) p = p.Tests.length + (nth p.Kids 1).Attrs.length + (p.Kids.map (binds n)).sum := rfl
 have hkk : ∀ i, KOk sc n s (p.Kids.take i) (kidsS (walkS sc n) s (p.Kids.take i)) := fun i => pg (fun q hq s' hs' => kA hs (hd q (List.mem_of_mem_take hq)) (hvk q (List.mem_of_mem_take hq)) hs') hi
 refine Jr (Zs (aF (R := (aX (n + 1))) Sr) (Za (ab (Jr (Zm ?_)))))
 refine Zs (aa cq Sr rfl) (Zl ty3 Sr ?_)
 refine Zs (xB (eD (kv := kvI) (R := wkR b) (z := 0) (zv := .nilFunc) (KeyT.int underlying3) underlying100 (fun w => zeroValue132 w) (fun _ => (rfl : Value.nilFunc = Value.nilFunc)) Sr Sr) (Gg (by rw [BW]))) ?_
 refine Za (ab (ap (Jr (Zm (Zs (oZ underlying132 (A := wC b (if bX p.Kind = true then p.Kind else 0)) (b := !bX p.Kind) Sr Dl) ?_)))))
 refine ab ?_
 refine am Sr (fun h16 => ?_) (fun h16 => ?_)
 ·
  try simp only [NF] at h16
  have hwk : bX p.Kind = false := by simpa using h16
  have hW : (walkS sc (n + 1) s p) = ({ s with bad := true }, []) := by rw [mA, if_pos hwk]
  refine ap ?_
  refine CQ fun vt vs vp vf => ?_
  refine ah (Zm (Zs (aW Sr) (Zs (aq fc Sr rfl) ?_)))
  refine Ju (aS (R := bN) (y' := (⟨sc, vt, vs, vp, vf, true⟩ : GbuilderW)) ty4 Sr Sr zS (by exact ⟨rfl, ⟨rfl, ⟨rfl, ⟨rfl, ⟨rfl, ⟨fun _ _ q => q, rfl, by intro g hg; cases hg⟩⟩⟩⟩⟩⟩)) fun _ => ?_
  refine ab (Jr (Za (ab (aC ?_))))
  refine a7 (L' := [gP b sc vt vs vp vf ((walkS sc (n + 1) s p).1.bad), own 135 bm vp (walkS sc (n + 1) s p).1.P, own 3 aO vf (walkS sc (n + 1) s p).1.F, own 3 aO vt (walkS sc (n + 1) s p).1.T, own 3 aO vs (walkS sc (n + 1) s p).1.S]) (.c zS (SPs.of (A := gP b sc vt vs vp vf true) (by rw [hW])) (.c zS (SPs.of (A := own 135 bm vp s.P) (by rw [hW])) (.c zS (SPs.of (A := own 3 aO vf s.F) (by rw [hW])) (.c zS (SPs.of (A := own 3 aO vt s.T) (by rw [hW])) (.c zS (SPs.of (A := own 3 aO vs s.S) (by rw [hW])) (LSub.nil)))))) ?_
  refine a7 (L' := [bsS b sc (walkS sc (n + 1) s p).1]) Gq ?_
  refine bz (rv := .tmp 6) rfl () (.tmp Sr) ?_
  rw [hW]; exact F6
 try simp only [NF] at h16
 have hwk : bX p.Kind = true := by simpa using h16
 refine av (Jr (Za (ab (ap (Jr ?_)))))
 refine Zs (aa cq Sr rfl) (Zl lW Sr (Zs (ag underlying25 Sr) (Zm (ab (au ?_)))))
 refine aK (σ := Nat × Value) (fun ⟨i, v⟩ => i <= p.Kids.length /\ (kidsS (walkS sc n) s (p.Kids.take i)).1.bad = false) (fun ⟨i, v⟩ => upd (upd (upd (upd (upd (upd (upd (upd co 0 (tAt b 0)) 1 (d6 kvI (wkR b) wkM)) 5 (bx (aX (n + 1)) p)) 7 ((wkR b).ty (if bX p.Kind = true then p.Kind else 0))) 8 (rV.ty v)) 21 (tSl (aX n) p.Kids)) 22 (tV (.int .i64 p.Kids.length))) 23 (tV (.int .i64 i))) (fun ⟨i, v⟩ => [bsS b sc (kidsS (walkS sc n) s (p.Kids.take i)).1, own 27 (rSl aO) v (kidsS (walkS sc n) s (p.Kids.take i)).2]) (fun ⟨i, v⟩ => p.Kids.length - i) (0, .slice none 0 0) ⟨by omega, hb⟩ (.u (.u (.u (SubE.upd (FT rfl) (zU))))) (LSub.trans (FR (e := 27) (R := rSl aO)) (.c zS (SPs.of (A := bsS b sc s) rfl) (.c zS (SPs.of (A := own 27 (rSl aO) (.slice none 0 0) ([] : List (List Int))) rfl) (LSub.nil)))) ?_
 rintro ⟨i, v⟩ ⟨hil, hbi⟩
 refine Jr (Zs (az Sr Sr) (ab (ap ?_)))
 refine am Sr (fun h24 => ?_) (fun h24 => ?_)
 ·
  try simp only [NF] at h24
  have hlt : i < p.Kids.length := by omega
  refine fF 21 (fun _ _ r => jI (show 0 < p.Kids.length by omega) r) fun ⟨m, hm⟩ => ?_
  have hKi := hkk i
  have g1 := hKi.pm
  have g2 := hKi.fl
  have g3 := hKi.tl
  have g5 := hKi.le
  rw [List.length_take] at g5
  have g4 := tT (f := cZ n) hlt
  have g6 := tT (f := binds n) hlt
  have hsn := qD (f := walkS sc n) (q := (nth p.Kids i)) (l := p.Kids.take i) hb hbi
  rw [<- di hlt] at hsn
  refine av (ap (au (Jr ?_)))
  refine Zs (ae  underlying25 da Sr Sr rfl (gb (by exact hlt))) ?_
  refine Zl da Sr ?_
  refine Zx (aE (R := aX n) (z := GPl.zero) (fun w => zeroValue30 w) (Er hm)) fun v10 => ?_
  refine Ju (ai da Sr Sr zS) fun _ => ?_
  refine aN (t := 10) (Sel.take (FN _)) Frz.box ?_
  refine ab (Jr (Zm (Zm (Zm (Zl da Sr ?_)))))
  refine Zx (aR (Sel.take (FN _)) (ih lv' (nth p.Kids i) (kidsS (walkS sc n) s (p.Kids.take i)).1 (hvk _ (nth_mem hlt)) (z5 _ (nth_mem hlt)).1 (hd _ (nth_mem hlt)) hKi.inv hbi zG zG zG) ⟨Sr, Sr, Sr, trivial⟩ call41) fun v31 => ?_
  refine Zs (aB (ys := [_]) underlying133 EX ⟨rfl, Sr, trivial⟩ rfl (by decide)) ?_
  refine Zx (aH underlying133 EX Sr Sr zS (by simp; omega) (by simp; omega)) fun v33 => ?_
  refine Za (ab (ap ?_))
  refine a7 (L' := [bsS b sc (walkS sc n (kidsS (walkS sc n) s (p.Kids.take i)).1 (nth p.Kids i)).1, own 27 (rSl aO) v33 ((kidsS (walkS sc n) s (p.Kids.take i)).2 ++ [(walkS sc n (kidsS (walkS sc n) s (p.Kids.take i)).1 (nth p.Kids i)).2])]) (zL) ?_
  refine CQ fun vt vs vp vf => ?_
  refine ah (Zm (Zs (aW Sr) (Zs (aq fc Sr rfl) ?_)))
  refine Zs (a6 ty4 Sr rfl zS) ?_
  refine ab ?_
  refine am Sr (fun h37 => ?_) (fun h37 => ?_)
  ·
   try simp only [NF] at h37
   have hb1 : (walkS sc n (kidsS (walkS sc n) s (p.Kids.take i)).1 (nth p.Kids i)).1.bad = true := h37
   rw [if_pos hb1] at hsn
   have hst : (kidsS (walkS sc n) s p.Kids) = (kidsS (walkS sc n) s (p.Kids.take (i + 1))) := (congrArg (kidsS (walkS sc n) s) (List.take_append_drop (i + 1) p.Kids).symm).trans (qC hb (by rw [hsn]; exact hb1))
   have hW : (walkS sc (n + 1) s p) = ((walkS sc n (kidsS (walkS sc n) s (p.Kids.take i)).1 (nth p.Kids i)).1, []) := by rw [mA, if_neg (by rw [hwk]; simp), hst, hsn, if_pos hb1]
   refine Jr (Za (ab (aC ?_)))
   refine a7 Gq ?_
   refine lH (Sel.skip (Sel.take (FN _))) ?_
   refine a7 (L' := [bsS b sc (walkS sc (n + 1) s p).1]) (.c zS (SPs.of (A := bsS b sc (walkS sc n (kidsS (walkS sc n) s (p.Kids.take i)).1 (nth p.Kids i)).1) (by rw [hW])) (LSub.nil)) ?_
   refine bz (rv := .tmp 6) rfl () (.tmp Sr) ?_
   rw [hW]; exact F6
  try simp only [NF] at h37
  have hb1 : (walkS sc n (kidsS (walkS sc n) s (p.Kids.take i)).1 (nth p.Kids i)).1.bad = false := h37
  rw [if_neg (by rw [hb1]; simp)] at hsn
  refine av (ah (Zs (ax Sr Sr z6) (Zm (ab ?_))))
  refine ay (σ := Nat × Value) (s := (i, v)) (i + 1, v33) zO ⟨by omega, by rw [hsn]; exact hb1⟩ (zU) (LSub.trans Gq (.c zS (SPs.of (A := bsS b sc (walkS sc n (kidsS (walkS sc n) s (p.Kids.take i)).1 (nth p.Kids i)).1) (by rw [hsn])) (.c zS (SPs.of (A := own 27 (rSl aO) v33 ((kidsS (walkS sc n) s (p.Kids.take i)).2 ++ [(walkS sc n (kidsS (walkS sc n) s (p.Kids.take i)).1 (nth p.Kids i)).2])) (by rw [hsn])) (LSub.nil))))
 try simp only [NF] at h24
 obtain rfl : i = p.Kids.length := by omega
 have hK : (kidsS (walkS sc n) s (p.Kids.take p.Kids.length)) = (kidsS (walkS sc n) s p.Kids) := by rw [List.take_length]
 have hbS : (kidsS (walkS sc n) s p.Kids).1.bad = false := by rw [<- hK]; exact hbi
 have hkS : KOk sc n s p.Kids ((kidsS (walkS sc n) s p.Kids).1, (kidsS (walkS sc n) s p.Kids).2) := by have := hkk p.Kids.length; rw [List.take_length] at this; exact this
 have g1 : (kidsS (walkS sc n) s p.Kids).1.P.length <= s.P.length + 12 * (p.Kids.map (cZ n)).sum := hkS.pm
 have g2 : (kidsS (walkS sc n) s p.Kids).1.F.length <= s.F.length + (p.Kids.map (binds n)).sum := hkS.fl
 have g3 : (kidsS (walkS sc n) s p.Kids).1.T.length <= s.T.length + (p.Kids.map (cZ n)).sum := hkS.tl
 have hW : (walkS sc (n + 1) s p) = nC sc p (kidsS (walkS sc n) s p.Kids).1 (kidsS (walkS sc n) s p.Kids).2 := by rw [mA, if_neg (by rw [hwk]; simp), if_neg (by rw [hbS]; simp)]
 refine aV (ap ?_)
 refine a7 (L' := [bsS b sc (kidsS (walkS sc n) s p.Kids).1, own 27 (rSl aO) v (kidsS (walkS sc n) s p.Kids).2]) (.c zS (SPs.of (A := bsS b sc (kidsS (walkS sc n) s (p.Kids.take p.Kids.length)).1) (by rw [hK])) (.c zS (SPs.of (A := own 27 (rSl aO) v (kidsS (walkS sc n) s (p.Kids.take p.Kids.length)).2) (by rw [hK])) (LSub.nil))) ?_
 refine cA (t := 8) (A' := tSl (rSl aO) (kidsS (walkS sc n) s p.Kids).2) (Sel.skip (Sel.take (FN _))) Frz.own ?_
 refine ah (Zm (Zl da Sr (Zm ?_)))
 refine Zx (zR hs hv hd hp hwk (s := (kidsS (walkS sc n) s p.Kids).1) (ks := (kidsS (walkS sc n) s p.Kids).2) (s0 := s) hkS hbS zG zG zG Sr Sr Sr (Sel.take (FN _))) fun v42 => ?_
 refine Za (ab (aC ?_))
 refine a7 (L' := [bsS b sc (walkS sc (n + 1) s p).1]) (.c zS (SPs.of (A := bsS b sc (nC sc p (kidsS (walkS sc n) s p.Kids).1 (kidsS (walkS sc n) s p.Kids).2).1) (by rw [hW])) (LSub.nil)) ?_
 refine bz (rv := .tmp 6) rfl () (.tmp Sr) ?_
 rw [hW]; exact Sr
theorem qI (b : Nat) (sc : GSchema) (hs : no sc = true) : ∀ n, Dm b sc n
  | 0 => fun _ _ _ _ _ hd _ _ _ _ _ => hd.elim
  | n + 1 => fun lv p s hv hp hd hi hb hP hT hF => vD b sc hs n lv p s hv hp hd hi hb hP hT hF (qI b sc hs n)
theorem mB (P : List Gplace) (o : Nat) (c : Int) : ∀ (l : List Int) (s : Tst), bR P o s (l ++ [c]) = ((dj P (bR P o s l).1 (o + c.toNat)).1, (bR P o s l).2 ++ [(dj P (bR P o s l).1 (o + c.toNat)).2])
 | [], s => rfl
 | a :: l, s => by
   show bR P o s (a :: (l ++ [c])) = _
   simp only [bR, mB P o c l, List.cons_append]
theorem mC (sc : GSchema) (P : List Gplace) (x : Int × Int) : ∀ (l : List (Int × Int)) (s : Tst), atomsS sc P s (l ++ [x]) = ((hU sc P (atomsS sc P s l).1 x.1 x.2.toNat).1, (atomsS sc P s l).2 ++ [(hU sc P (atomsS sc P s l).1 x.1 x.2.toNat).2])
 | [], s => rfl
 | (a, b) :: l, s => by
   show atomsS sc P s ((a, b) :: (l ++ [x])) = _
   simp only [atomsS, mC sc P x l, List.cons_append]
theorem xC (P : List Gplace) (s : Tst) (i : Nat) : (dj P s i).1.C.length <= s.C.length + 1 /\ (dj P s i).1.M.length <= s.M.length + 1 := by
 unfold dj
 split
 · split
   · simp
   · simp
 · split
   · simp
   · rename_i h
     refine ⟨by simp, ?_⟩
     show (mput s.M _ _).length <= _
     exact nt s.M (topM P i : Int) (s.M.length : Int)
theorem kE (P : List Gplace) (o : Nat) : ∀ (l : List Int) (s : Tst), (bR P o s l).1.C.length <= s.C.length + l.length /\ (bR P o s l).1.M.length <= s.M.length + l.length /\ (bR P o s l).2.length = l.length
 | [], s => by simp [bR]
 | c :: l, s => by
   have h1 := xC P s (o + c.toNat)
   have h2 := kE P o l (dj P s (o + c.toNat)).1
   simp only [bR, List.length_cons]
   omega
theorem qJ (t : GTable) : (colsK t).length <= t.Key.length + t.Attrs.length := by
 unfold colsK
 rw [List.length_append, List.length_map]
 have := List.length_filter_le (fun (c : Nat) => !(t.Key.any fun x => decide ((c : Int) = x))) (List.range t.Attrs.length)
 rw [List.length_range] at this
 omega
theorem kF (sc : GSchema) (P : List Gplace) (B : Nat) : ∀ (l : List (Int × Int)) (s : Tst), (∀ x ∈ l, (colsK (nth sc.Tables x.1.toNat)).length <= B) -> (atomsS sc P s l).1.C.length <= s.C.length + l.length * B /\ (atomsS sc P s l).1.M.length <= s.M.length + l.length * B /\ (atomsS sc P s l).2.length = l.length
 | [], s, _ => by simp [atomsS]
 | (t, o) :: l, s, hB => by
   have h1 := kE P o.toNat (colsK (nth sc.Tables t.toNat)) s
   have h2 := kF sc P B l (hU sc P s t o.toNat).1 (fun x hx => hB x (List.mem_cons_of_mem _ hx))
   have h3 := hB (t, o) (by simp)
   have h3 : (colsK (nth sc.Tables t.toNat)).length <= B := h3
   have h4 : (hU sc P s t o.toNat).1 = (bR P o.toNat s (colsK (nth sc.Tables t.toNat))).1 := rfl
   rw [h4] at h2
   simp only [atomsS, List.length_cons, Nat.succ_mul, h4]
   refine ⟨by omega, by omega, by rw [h2.2.2]⟩
def jR (t : GTable) (j : Nat) : List Int := t.Key ++ ((List.range j).filter fun (c : Nat) => !(t.Key.any fun x => decide ((c : Int) = x))).map fun (c : Nat) => (c : Int)
theorem vE (t : GTable) : jR t 0 = t.Key := by simp [jR]
theorem zT {t : GTable} {j : Nat} (h : (t.Key.any fun x => decide ((j : Int) = x)) = true) : jR t (j + 1) = jR t j := by
 simp [jR, List.range_succ, List.filter_append, h]
theorem xD {t : GTable} {j : Nat} (h : (t.Key.any fun x => decide ((j : Int) = x)) = false) : jR t (j + 1) = jR t j ++ [(j : Int)] := by
 simp [jR, List.range_succ, List.filter_append, h]
theorem xE (t : GTable) (j : Nat) : (jR t j).length <= t.Key.length + j := by
 unfold jR
 rw [List.length_append, List.length_map]
 have := List.length_filter_le (fun (c : Nat) => !(t.Key.any fun x => decide ((c : Int) = x))) (List.range j)
 rw [List.length_range] at this
 omega
theorem tU {t : GTable} (hk : ∀ c ∈ t.Key, 0 <= c /\ c < t.Attrs.length) : ∀ c ∈ colsK t, 0 <= c /\ c < t.Attrs.length := by
 intro c hc
 unfold colsK at hc
 rcases List.mem_append.1 hc with hc | hc
 · exact hk c hc
 · obtain ⟨i, hi, rfl⟩ := List.mem_map.1 hc
   have := List.mem_range.1 (List.mem_filter.1 hi).1
   omega
section
variable {C : Cx} {ops : Array Oper} {F : List SP} {k k' : Env -> List SP -> Prop}
theorem qK {its' : List It3} : ∀ {its : List It3} {E : Env} {L : List SP}, JF C ops F (JF C ops F k its') its E L -> JF C ops F k (its ++ its') E L
 | [], _, _, h => h
 | x :: its, E, L, ⟨o, A, h1, h2, h3, h4⟩ => ⟨o, A, h1, h2, h3, qK h4⟩
end
def E3 (ops : List Oper) (frees : List It3) (als : List Al2) (tail : List It3) : Bool :=
 let pls := (frees ++ tail).map (bU ops)
 cV pls && (pls.all fun p => p.aft.all (Nat.blt · p.i)) && ((frees ++ tail).all fun x => Nat.blt x.i ops.length) && (frees.all fun x => Nat.ble x.c 1) && jQ als && als.all (hX ops frees tail)
def Dn (ops : List Oper) (frees : List It3) (a1 : Al2) (po : List It3) (als : List Al2) (tail : List It3) : Bool :=
 E3 ops (frees ++ po) als tail && hX ops frees tail a1 && (als.all fun b => mx a1 b) && (po.all fun x => memN a1.i (bJ ops x.i) && !Nat.beq a1.i x.i) && (List.range ops.length).all (fun i => ((frees ++ po ++ tail).any fun x => Nat.beq i x.i) || als.any (fun a => Nat.beq i a.i) || Nat.beq i a1.i)
theorem xF {C : Cx} {ops : Array Oper} {F : List SP} {Q : Exit -> Act -> World -> Prop} {tail po : List It3} {a1 : Al2} : ∀ (fuel : Nat) (frees : List It3) (als : List Al2) (listed : Array Bool) (E : Env) (L : List SP), frees.length + 1 + po.length + als.length + tail.length <= fuel -> listed.size = ops.size ->
  (∀ i, i < ops.size -> (listed.getD i true = false ↔ (∃ x ∈ frees ++ po ++ tail, x.i = i) \/ (∃ a ∈ als, a.i = i) \/ a1.i = i)) -> cV ((frees ++ po ++ tail).map (bU ops.toList)) = true -> (∀ x ∈ frees ++ po ++ tail, x.i < ops.size /\ ∀ e ∈ bJ ops.toList x.i, e < x.i) -> (∀ x ∈ frees ++ po, x.c <= 1) -> jQ als = true -> (∀ a ∈ als, hX ops.toList (frees ++ po) tail a = true) ->
  hX ops.toList frees tail a1 = true -> (∀ b ∈ als, mx a1 b = true) -> (∀ x ∈ po, a1.i ∈ bJ ops.toList x.i /\ x.i ≠ a1.i) ->
  JF C ops F (Als2 C ops (JF C ops F (Als2 C ops (upP fun E' L' => JX C ops (fun E' L' => K C (Q .normal) E' L') tail E' (F ++ L')) als) po) [a1]) frees E L -> K C (fun a w => wpAnyIn (Fw C.ro) 0 C.P .any ops Q fuel listed a w) E (F ++ (a1.I :: als.map (·.I) ++ L)) := by
 intro fuel
 induction fuel with
 | zero => intro frees als listed E L hlen; omega
 | succ fuel ih =>
   intro frees als listed E L hlen hsz hin hok hlt hc hi hal h1ok h1ind hpo hJ
   have h1ok' := h1ok
   simp only [hX, Bool.and_eq_true, List.all_eq_true] at h1ok'
   have h1lt : a1.i < ops.size := by simpa using h1ok'.1.1.2
   have h1aft : ∀ e ∈ bJ ops.toList a1.i, e < a1.i := fun e he => by simpa using h1ok'.1.1.1 e he
   have hall : ∀ a ∈ als, a.i < ops.size /\ ∀ e ∈ bJ ops.toList a.i, e < a.i := fun a ha => by
    have := hal a ha
    simp only [hX, Bool.and_eq_true, List.all_eq_true] at this
    exact ⟨by simpa using this.1.1.2, fun e he => by simpa using this.1.1.1 e he⟩
   intro a w p
   refine ⟨fun hr => ?_, fun i hii => ?_⟩
   · exfalso
     have hall2 : ∀ i, i < ops.size -> listed.getD i true = true := by
      intro i
      induction i using Nat.strongRecOn with
      | _ i ihi =>
        intro hilt
        cases hl : listed.getD i true with
        | true => rfl
        | false =>
          have ho : ops[i]? = some ops[i] := Array.getElem?_eq_getElem hilt
          have h1 : ∀ e ∈ bJ ops.toList i, e < i := by
           rcases (hin i hilt).1 hl with ⟨x, hx, hxi⟩ | ⟨x, hx, hxi⟩ | hxi
           · have := (hlt x hx).2; rwa [hxi] at this
           · have := (hall x hx).2; rwa [hxi] at this
           · have := h1aft; rwa [hxi] at this
          have hm : i ∈ Region.ready .any ops listed := cu.2 ⟨hilt, hl, _, ho, fun e he => by
           have he' : e < i := h1 e (by simpa [bJ, hilt] using he)
           rw [dF (by omega) false true]
           exact ihi e he' (by omega)⟩
          rw [hr] at hm; cases hm
     have := (hin a1.i h1lt).2 (.inr (.inr rfl))
     rw [hall2 a1.i h1lt] at this; cases this
   · obtain ⟨hlti, hnl, o, ho, haft⟩ := cu.1 hii
     have haft' : bJ ops.toList i = aftN o := by
      have : ops.toList[i]? = some o := by simpa using ho
      simp only [bJ, this]
     have hno : ∀ j, j < ops.size -> listed.getD j true = false -> j ∉ bJ ops.toList i := fun j hj hl hm => by
      rw [haft'] at hm
      have h1 := haft _ hm
      rw [dF (by omega) true false, h1] at hl; cases hl
     have hno1 : a1.i ∉ bJ ops.toList i := hno a1.i h1lt ((hin a1.i h1lt).2 (.inr (.inr rfl)))
     rcases (hin i hlti).1 hnl with ⟨b, hb, hbi⟩ | ⟨b, hb, hbi⟩ | hbi
     · rcases List.mem_append.1 hb with hb | hb
       · rcases List.mem_append.1 hb with hb | hb
         · -- a free one
           obtain ⟨l1, l2, rfl⟩ := List.append_of_mem hb
           have hmap : (l1 ++ b :: l2 ++ po ++ tail).map (bU ops.toList) = l1.map (bU ops.toList) ++ bU ops.toList b :: (l2 ++ po ++ tail).map (bU ops.toList) := by simp
           have hpair : ∀ x ∈ l1, cH (bU ops.toList x) (bU ops.toList b) = true := fun x hx => e9 (hmap ▸ hok) _ (List.mem_map_of_mem hx)
           have hleft : ∀ x ∈ l1, x.i ∉ bJ ops.toList b.i := fun x hx => by
            rw [hbi]; exact hno x.i (hlt x (by simp [hx])).1 ((hin x.i (hlt x (by simp [hx])).1).2 (.inl ⟨x, by simp [hx], rfl⟩))
           have hne := xz (ops := ops.toList) (l1 := l1) (b := b) (l2 := l2 ++ po ++ tail) (by simpa using hok)
           have hJ' := sy hpair hleft hJ
           obtain ⟨o', A, ho2, hl, hs, hk⟩ := hJ'
           subst hbi
           have hna : ∀ x ∈ als, x.i ≠ b.i := fun x hx e => by
            have := hal x hx
            simp only [hX, Bool.and_eq_true, List.all_eq_true] at this
            have := (this.1.2 b (by simp)).2
            rw [e] at this; simp at this
           have hn1 : a1.i ≠ b.i := fun e => by
            have := (h1ok'.1.2 b (by simp)).2
            rw [e] at this; simp at this
           have hs' : StepG C ops o' (cc b.ts E) (F ++ (a1.I :: als.map (·.I) ++ L)) A := by
            match e : b.c with
            | 0 => have := hs (F ++ (a1.I :: als.map (·.I) ++ L)); rw [e] at this; exact this
            | c + 1 => have := hs (a1.I :: als.map (·.I) ++ L); rw [e] at this; exact this
           refine hs'.op ho2 hl ?_ a w p
           refine ih (l1 ++ l2) als _ _ L (by simp only [List.length_append, List.length_cons] at hlen ⊢; omega) (by simpa using hsz) (fun j hj => ?_) ?_ (fun x hx => hlt x ?_) (fun x hx => hc x ?_) hi (fun x hx => ?_) ?_ h1ind hpo hk
           · by_cases hji : b.i = j
             · subst hji
               rw [cB (by omega)]
               constructor
               · intro h; cases h
               · rintro (⟨x, hx, e⟩ | ⟨x, hx, e⟩ | e)
                 · exact absurd e (hne x (by simpa [List.append_assoc] using hx))
                 · exact absurd e (hna x hx)
                 · exact absurd e hn1
             · rw [cX hji, hin j hj]
               constructor
               · rintro (⟨x, hx, e⟩ | h)
                 · refine .inl ⟨x, ?_, e⟩
                   simp only [List.mem_append, List.mem_cons] at hx ⊢
                   rcases hx with ((hx | rfl | hx) | hx) | hx
                   · exact .inl (.inl (.inl hx))
                   · exact absurd e hji
                   · exact .inl (.inl (.inr hx))
                   · exact .inl (.inr hx)
                   · exact .inr hx
                 · exact .inr h
               · rintro (⟨x, hx, e⟩ | h)
                 · refine .inl ⟨x, ?_, e⟩
                   simp only [List.mem_append, List.mem_cons] at hx ⊢
                   rcases hx with ((hx | hx) | hx) | hx
                   · exact .inl (.inl (.inl hx))
                   · exact .inl (.inl (.inr (.inr hx)))
                   · exact .inl (.inr hx)
                   · exact .inr hx
                 · exact .inr h
           · have h3 := iC (hmap ▸ hok) (fun x hx => (List.mem_map.1 hx).elim fun y hy => hy.2 ▸ hc y (by simp [hy.1])) (fun x hx => (List.mem_map.1 hx).elim fun y hy => hy.2 ▸ hleft y hy.1)
             simpa using h3
           · simp only [List.mem_append, List.mem_cons] at hx ⊢
             rcases hx with ((hx | hx) | hx) | hx
             · exact .inl (.inl (.inl hx))
             · exact .inl (.inl (.inr (.inr hx)))
             · exact .inl (.inr hx)
             · exact .inr hx
           · simp only [List.mem_append, List.mem_cons] at hx ⊢
             rcases hx with (hx | hx) | hx
             · exact .inl (.inl hx)
             · exact .inl (.inr (.inr hx))
             · exact .inr hx
           · have := hal x hx
             simp only [hX, Bool.and_eq_true, List.all_eq_true] at this ⊢
             refine ⟨⟨this.1.1, fun y hy => this.1.2 y ?_⟩, this.2⟩
             simp only [List.mem_append, List.mem_cons] at hy ⊢
             rcases hy with (hy | hy) | hy
             · exact .inl (.inl hy)
             · exact .inl (.inr (.inr hy))
             · exact .inr hy
           · simp only [hX, Bool.and_eq_true, List.all_eq_true]
             refine ⟨⟨h1ok'.1.1, fun y hy => ?_⟩, h1ok'.2⟩
             have := h1ok'.1.2 y (by rcases List.mem_append.1 hy with hy | hy <;> simp [hy])
             simpa only [Bool.and_eq_true] using this
         · -- one behind a1 cannot come yet
           exfalso
           have := (hpo b hb).1
           rw [hbi] at this
           exact hno1 this
       · -- one of the rest cannot come yet
         exfalso
         have := (h1ok'.2 b hb).2
         rw [hbi] at this
         simp only [Bool.or_eq_true, List.any_eq_true] at this
         rcases this with q | ⟨r, hr, y, hy, e⟩
         · exact hno1 (cM.1 q)
         · have e := Nat.eq_of_beq_eq_true e
           subst e
           have hyl := (hlt y (by simp [hy])).1
           exact hno y.i hyl ((hin y.i hyl).2 (.inl ⟨y, by simp [hy], rfl⟩)) hr
     · -- another change
       have hbo := hal b hb
       simp only [hX, Bool.and_eq_true, List.all_eq_true] at hbo
       obtain ⟨l1, l2, hl12⟩ := List.append_of_mem hb
       have hi' := hi
       rw [hl12] at hi'
       obtain ⟨hi2, hne, hpA⟩ := kC hi'
       have hlayc : ∀ x ∈ frees ++ po, memN b.d x.ts = false /\ inO (cT ops.toList x.i) b.ts = false /\ eqO (some b.d) (cT ops.toList x.i) = false := fun x hx => by
        have hq := hbo.1.2 x hx
        simp only [Bool.and_eq_true, Bool.or_eq_true, Bool.not_eq_true'] at hq
        refine ⟨hq.1.1.1, ?_, hq.1.2⟩
        rcases hq.1.1.2 with q | q
        · exfalso
          have hxm : x ∈ frees ++ po ++ tail := List.mem_append_left _ hx
          have hxl := (hlt x hxm).1
          rw [hbi] at q
          exact hno x.i hxl ((hin x.i hxl).2 (.inl ⟨x, hxm, rfl⟩)) (cM.1 q)
        · exact q
       obtain ⟨hAl, hnext⟩ := qF (C := C) (ops := ops) (F := F) (b := b) (k' := Als2 C ops (JF C ops F (Als2 C ops (upP fun E' L' => JX C ops (fun E' L' => K C (Q .normal) E' L') tail E' (F ++ L')) (l1 ++ l2)) po) [a1]) (its := frees) (fun x hx => hlayc x (List.mem_append_left _ hx)) (fun E L h => by
        obtain ⟨g1, g2⟩ := h
        have hab := h1ind b hb
        simp only [mx, Bool.and_eq_true, Bool.not_eq_true'] at hab
        obtain ⟨⟨⟨p1, p2⟩, p3⟩, p4⟩ := hab
        have p4 : a1.d ≠ b.d := fun e => by rw [e] at p4; simp at p4
        have hin2 : ∀ v, AlOk2 C ops (upd E a1.d (a1.A v)) b /\ ∀ u, JF C ops F (Als2 C ops (upP fun E' L' => JX C ops (fun E' L' => K C (Q .normal) E' L') tail E' (F ++ L')) (l1 ++ l2)) po (upd (upd E a1.d (a1.A v)) b.d (b.A u)) (b.M u :: a1.M v :: L) := fun v =>
         qF (fun x hx => hlayc x (List.mem_append_right _ hx)) (fun E L h => by rw [hl12] at h; exact Gy pi hpA h) (g2 v)
        refine ⟨(AlOk2.same p2).1 (hin2 default).1, fun u => ⟨(AlOk2.same p3).2 g1, fun v => ?_⟩⟩
        have := (hin2 v).2 u
        rw [tQ p4] at this
        exact tR (k := Als2 C ops (upP fun E' L' => JX C ops (fun E' L' => K C (Q .normal) E' L') tail E' (F ++ L')) (l1 ++ l2)) (fun E L L' p h => Gx pi p h) _ _ _ (List.Perm.swap _ _ _) this) hJ
       obtain ⟨ob, q1, q2, q3, q4, q5⟩ := hAl
       rw [hbi, ho] at q1
       cases q1
       have hperm : (F ++ (a1.I :: als.map (·.I) ++ L)).Perm (b.I :: (F ++ (a1.I :: (l1 ++ l2).map (·.I) ++ L))) := by
        rw [hl12]
        have e1 : F ++ (a1.I :: (l1 ++ b :: l2).map (·.I) ++ L) = (F ++ a1.I :: l1.map (·.I)) ++ b.I :: (l2.map (·.I) ++ L) := by simp
        have e2 : F ++ (a1.I :: (l1 ++ l2).map (·.I) ++ L) = (F ++ a1.I :: l1.map (·.I)) ++ (l2.map (·.I) ++ L) := by simp
        rw [e1, e2]
        exact List.perm_middle
       obtain ⟨n, ds, h, m, l, sp, st, fr⟩ := p.lsub (F7 hperm)
       have hwt : Region.wanted o (yielded ops a.tmps) = true := by simp [Region.wanted, q4]
       unfold wpOpIn
       simp only [ho]
       rw [if_pos hwt]
       refine q5 (F ++ (a1.I :: (l1 ++ l2).map (·.I) ++ L)) a w h m n l sp st (fr.sub dx) _ Q fun v v' w' h' m' l' sp' st' hv => ?_
       have hrest := ih frees (l1 ++ l2) (listed.setIfInBounds i true) (upd E b.d (b.A v)) (b.M v :: L) (by rw [hl12] at hlen; simp only [List.length_append, List.length_cons] at hlen ⊢; omega) (by simpa using hsz) (fun j hj => ?_) hok hlt hc hi2 (fun x hx => hal x (by
        rw [hl12]
        rcases List.mem_append.1 hx with hx | hx <;> simp [hx])) h1ok (fun x hx => h1ind x (by
        rw [hl12]
        rcases List.mem_append.1 hx with hx | hx <;> simp [hx])) hpo (hnext v)
       · have hperm2 : (b.M v :: (F ++ (a1.I :: (l1 ++ l2).map (·.I) ++ L))).Perm (F ++ (a1.I :: (l1 ++ l2).map (·.I) ++ b.M v :: L)) := by
           have e1 : F ++ (a1.I :: (l1 ++ l2).map (·.I) ++ b.M v :: L) = (F ++ a1.I :: (l1 ++ l2).map (·.I)) ++ b.M v :: L := by simp
           have e2 : b.M v :: (F ++ (a1.I :: (l1 ++ l2).map (·.I) ++ L)) = b.M v :: ((F ++ a1.I :: (l1 ++ l2).map (·.I)) ++ L) := by simp
           rw [e1, e2]
           exact List.perm_middle.symm
         have hpre : Pre C (kf E o.dst (b.A v)) (b.M v :: (F ++ (a1.I :: (l1 ++ l2).map (·.I) ++ L))) (a.put o.dst v') w' :=
          ⟨by rw [gz]; exact n, by rw [ee]; exact ds, h', m', HL.trans l l', sp', st', (fr.mono l'.1).putO (by rw [n, q2]; exact q3) hv⟩
         have hpre2 := hpre.lsub (F7 hperm2)
         rw [q2] at hpre2 ⊢
         exact hrest _ _ hpre2
       · by_cases hji : i = j
         · subst hji
           rw [cB (by omega)]
           constructor
           · intro h; cases h
           · rintro (⟨x, hx, e⟩ | ⟨x, hx, e⟩ | e)
             · exfalso
               rcases List.mem_append.1 hx with hx | hx
               · have := (hbo.1.2 x hx).2
                 rw [hbi, e] at this; simp at this
               · have := (hbo.2 x hx).1
                 rw [hbi, e] at this; simp at this
             · exact absurd (e.trans hbi.symm) (hne x hx)
             · exfalso
               have hab := h1ind b hb
               simp only [mx, Bool.and_eq_true, Bool.not_eq_true'] at hab
               have := hab.1.1.1
               rw [e, hbi] at this; simp at this
         · rw [cX hji, hin j hj, hl12]
           constructor
           · rintro (h | ⟨x, hx, e⟩ | h)
             · exact .inl h
             · rcases List.mem_append.1 hx with hx | hx
               · exact .inr (.inl ⟨x, by simp [hx], e⟩)
               · rcases List.mem_cons.1 hx with rfl | hx
                 · exact absurd (hbi.symm.trans e) hji
                 · exact .inr (.inl ⟨x, by simp [hx], e⟩)
             · exact .inr (.inr h)
           · rintro (h | ⟨x, hx, e⟩ | h)
             · exact .inl h
             · refine .inr (.inl ⟨x, ?_, e⟩)
               rcases List.mem_append.1 hx with hx | hx <;> simp [hx]
             · exact .inr (.inr h)
     · -- a1 itself
       obtain ⟨hAl, hnext⟩ := qF (C := C) (ops := ops) (F := F) (b := a1) (k' := JF C ops F (Als2 C ops (upP fun E' L' => JX C ops (fun E' L' => K C (Q .normal) E' L') tail E' (F ++ L')) als) po) (its := frees) (fun x hx => by
        have hq := h1ok'.1.2 x hx
        simp only [Bool.and_eq_true, Bool.or_eq_true, Bool.not_eq_true'] at hq
        refine ⟨hq.1.1.1, ?_, hq.1.2⟩
        rcases hq.1.1.2 with q | q
        · exfalso
          have hxl := (hlt x (by simp [hx])).1
          rw [hbi] at q
          exact hno x.i hxl ((hin x.i hxl).2 (.inl ⟨x, by simp [hx], rfl⟩)) (cM.1 q)
        · exact q) (fun E L h => h) hJ
       obtain ⟨ob, q1, q2, q3, q4, q5⟩ := hAl
       rw [hbi, ho] at q1
       cases q1
       have hperm : (F ++ (a1.I :: als.map (·.I) ++ L)).Perm (a1.I :: (F ++ (als.map (·.I) ++ L))) := by
        have e1 : F ++ (a1.I :: als.map (·.I) ++ L) = F ++ a1.I :: (als.map (·.I) ++ L) := by simp
        rw [e1]; exact List.perm_middle
       obtain ⟨n, ds, h, m, l, sp, st, fr⟩ := p.lsub (F7 hperm)
       have hwt : Region.wanted o (yielded ops a.tmps) = true := by simp [Region.wanted, q4]
       unfold wpOpIn
       simp only [ho]
       rw [if_pos hwt]
       refine q5 (F ++ (als.map (·.I) ++ L)) a w h m n l sp st (fr.sub dx) _ Q fun v v' w' h' m' l' sp' st' hv => ?_
       have hn1f : ∀ x ∈ frees ++ po ++ tail, x.i ≠ a1.i := fun x hx e => by
        rcases List.mem_append.1 hx with hx | hx
        · rcases List.mem_append.1 hx with hx | hx
          · have := (h1ok'.1.2 x hx).2
            rw [e] at this; simp at this
          · exact (hpo x hx).2 e
        · have := (h1ok'.2 x hx).1
          rw [e] at this; simp at this
       have hn1a : ∀ b ∈ als, b.i ≠ a1.i := fun b hb e => by
        have hab := h1ind b hb
        simp only [mx, Bool.and_eq_true, Bool.not_eq_true'] at hab
        have := hab.1.1.1
        rw [e] at this; simp at this
       have hrest := tS fuel (frees ++ po) als (listed.setIfInBounds i true) (upd E a1.d (a1.A v)) (a1.M v :: L) (by simp only [List.length_append] at hlen ⊢; omega) (by simpa using hsz) (fun j hj => ?_) hok hlt hc hi hal (qK (hnext v))
       · have hperm2 : (a1.M v :: (F ++ (als.map (·.I) ++ L))).Perm (F ++ (als.map (·.I) ++ a1.M v :: L)) := by
           have e1 : F ++ (als.map (·.I) ++ a1.M v :: L) = (F ++ als.map (·.I)) ++ a1.M v :: L := by simp
           have e2 : a1.M v :: (F ++ (als.map (·.I) ++ L)) = a1.M v :: ((F ++ als.map (·.I)) ++ L) := by simp
           rw [e1, e2]
           exact List.perm_middle.symm
         have hpre : Pre C (kf E o.dst (a1.A v)) (a1.M v :: (F ++ (als.map (·.I) ++ L))) (a.put o.dst v') w' :=
          ⟨by rw [gz]; exact n, by rw [ee]; exact ds, h', m', HL.trans l l', sp', st', (fr.mono l'.1).putO (by rw [n, q2]; exact q3) hv⟩
         have hpre2 := hpre.lsub (F7 hperm2)
         rw [q2] at hpre2 ⊢
         exact hrest _ _ hpre2
       · by_cases hji : i = j
         · subst hji
           rw [cB (by omega)]
           constructor
           · intro h; cases h
           · rintro (⟨x, hx, e⟩ | ⟨x, hx, e⟩)
             · exact absurd (e.trans hbi.symm) (hn1f x hx)
             · exact absurd (e.trans hbi.symm) (hn1a x hx)
         · rw [cX hji, hin j hj]
           constructor
           · rintro (h | h | h)
             · exact .inl h
             · exact .inr h
             · exact absurd (hbi.symm.trans h) hji
           · rintro (h | h)
             · exact .inl h
             · exact .inr (.inl h)
theorem zV {C : Cx} {id : Nat} {ops : Array Oper} (F : List SP) (frees : List It3) (a1 : Al2) (po : List It3) (als : List Al2) (tail : List It3) {Q : Exit -> Act -> World -> Prop} {E : Env} {L0 L : List SP} (hL : LSub L0 (F ++ (a1.I :: als.map (·.I) ++ L))) (hmix : C.P.follows .mixedOrders = true) (hok : Dn ops.toList frees a1 po als tail = true) (hn : frees.length + 1 + po.length + als.length + tail.length <= ops.size)
  (hJ : JF C ops F (Als2 C ops (JF C ops F (Als2 C ops (upP fun E' L' => JX C ops (fun E' L' => K C (Q .normal) E' L') tail E' (F ++ L')) als) po) [a1]) frees E L) : J C (.region id ops true) Q E L0 := fun a w p => by
 refine wpIn_region_draw (fun t => ?_)
 simp only [Region.schedule, hmix, Bool.true_or, if_true]
 refine wpAnyIn_sound ops.size t _ a _ ?_
 simp only [Dn, E3, Bool.and_eq_true, List.all_eq_true, List.any_eq_true, Bool.or_eq_true] at hok
 obtain ⟨⟨⟨⟨⟨⟨⟨⟨⟨h1, h2⟩, h3⟩, h3c⟩, h5⟩, h6⟩, g1⟩, g2⟩, g3⟩, h4⟩ := hok
 refine a7 hL (xF ops.size frees als _ E L hn (by simp) (fun i hi => ?_) h1 (fun x hx => ⟨by have := h3 x hx; simpa using this, fun e he => ?_⟩) (fun x hx => by have := h3c x hx; simpa using this) h5 h6 g1 g2 (fun x hx => ?_) hJ) a _ ?_
 · constructor
   · intro _
     rcases h4 i (by simpa using hi) with (⟨x, hx, e⟩ | ⟨x, hx, e⟩) | e
     · exact .inl ⟨x, hx, (Nat.eq_of_beq_eq_true e).symm⟩
     · exact .inr (.inl ⟨x, hx, (Nat.eq_of_beq_eq_true e).symm⟩)
     · exact .inr (.inr (Nat.eq_of_beq_eq_true e).symm)
   · intro _; simp [Array.getD_eq_getD_getElem?, hi]
 · have := h2 _ (List.mem_map_of_mem hx) e he
   simpa [bU] using this
 · have := g3 x hx
   refine ⟨cM.1 this.1, fun e => ?_⟩
   have h := this.2
   rw [e] at h; simp at h
 · obtain ⟨hsz, hds, h, m, hl, sp, st, fr⟩ := p
   exact ⟨hsz, hds, h, m, hl.trans (HL.same (Same.drew _)), ⟨(by first | exact Sep.inv (by assumption) | exact Inv.mono (FM _ _) (Sep.inv (by assumption))), sp.hm, sp.hr, sp.mr, sp.hw, sp.mw, sp.rw⟩, st, fr⟩
def vF (g : Nat) (Bs : List Ty) : Ty where
 p := fun h v => ∃ fst : List Value, v = .func (.func g) fst.toArray #[] /\ Args h Bs fst
 mono := fun l ⟨cap, e, a⟩ => ⟨cap, e, a.mono l⟩
section
variable {C : Cx} {E : Env} {L : List SP} {d : Option Nat} {ty : Nat} {pos : String} {af : Array Edge} {g : Option (Nat × Bool)}
theorem nD {f : Nat} {xs : Array Operand} {As : List Ty} (ha : ArgsE E xs.toList As) : a8 C ⟨d, .makeFunc (.func f) xs #[], ty, pos, af, g⟩ E L (vF f As) :=
 FP (by intro c h; cases h) fun a w h hw fr => ⟨.func (.func f) (xs.map a.eval) #[], by simp [execOp, Instr.makeFunc], xs.toList.map a.eval, by rw [<- Array.toList_map], ha.args fr⟩
theorem sF {X : Type} {S R : List SP} {x : Operand} {f : Nat} {xs : Array Operand} {ts : Array Nat} {aT Bs : List Ty} {res : X -> Ty} {L' : X -> List SP}
  (hx : Sub (opTy E x) (vF f Bs)) (sel : Sel L S R) (sp : Spec C.P f (Bs ++ aT) S res L') (ha : ArgsE E xs.toList aT) (he : ∀ args w, (callFunc f args).run C.P w = .ok (.enter f args) w) :
  Step C ⟨d, .call { callee := .value x, args := xs, argTypes := ts }, ty, pos, af, g⟩ E L res (fun x => L' x ++ R) := fun a w h m n l se st fr next Q hk => by
 obtain ⟨m1, m2, d12, rfl, s1, s2⟩ := sel.stars.1 st
 obtain ⟨fst, hv, hfst⟩ := fr.get hx
 have hA := hfst.append (ha.args fr)
 have hd := PH.disj_join'.1 se.hm
 have hr := PH.disj_join.1 se.mr
 have hc := sp _ h m1 (m2.join C.r) w hA ⟨(by first | exact Sep.inv (by assumption) | exact Inv.mono (FM _ _) (Sep.inv (by assumption))), hd.1, PH.disj_join'.2 ⟨hd.2, se.hr⟩, PH.disj_join'.2 ⟨d12, hr.1⟩, se.hw, fun b o e => se.mw _ _ (FM _ _ _ _ e),
  FW (fun b o e => se.mw _ _ (FO d12 _ _ e)) se.rw⟩ s1
 refine ⟨fun _ _ => trivial, ?_⟩
 rw [Fw_round, Oper.semAt_eq _ _ _ (by intro c h; cases h)]
 have hrun : (execOp a.eval ⟨d, .call { callee := .value x, args := xs, argTypes := ts }, ty, pos, af, g⟩).run C.P w = .ok (.enter f (fst ++ xs.toList.map a.eval).toArray) w := by
  simp only [execOp, resolve, hv, Deferred.ofValue]
  simp [invoke, he]
 rw [hrun]
 refine ⟨by simp, (callsIn_wide (n := 0 - 1)).2 (hc.mono ?_)⟩
 rintro e w' ⟨x, v, h', m', rfl, l', se', st', hv⟩
 have e1 := PH.disj_join'.1 se'.hr
 have e2 := PH.disj_join'.1 se'.mr
 exact hk x v w' h' (m'.join m2) l' ⟨(by first | exact Sep.inv (by assumption) | exact Inv.mono (FM _ _) (Sep.inv (by assumption))), PH.disj_join'.2 ⟨se'.hm, e1.1⟩, e1.2, PH.disj_join.2 ⟨e2.2, hr.2⟩, se'.hw, FW se'.mw (fun b o e => se'.rw _ _ (FM _ _ _ _ e)), fun b o e => se'.rw _ _ (FO hr.2 _ _ e)⟩
  (cj.2 ⟨m', m2, e2.1, rfl, st', by
   have : (stars R).p h' m2 := (stars R).mono l'.1 s2
   exact this⟩) hv
theorem qL {X : Type} {x : Operand} {f : Nat} {xs : Array Operand} {ts : Array Nat} {aT Bs : List Ty} {res : X -> Ty}
  (hx : Sub (opTy E x) (vF f Bs)) (sp : Fun C.P f (Bs ++ aT) res) (ha : ArgsE E xs.toList aT) (he : ∀ args w, (callFunc f args).run C.P w = .ok (.enter f args) w) :
  Step C ⟨d, .call { callee := .value x, args := xs, argTypes := ts }, ty, pos, af, g⟩ E L res (fun _ => L) := sF hx (FN L) sp ha he
end
theorem Gt {X Y : Type} {C : Cx} {o : Oper} {E : Env} {L : List SP} {A : X -> Ty} {L' : X -> List SP} {A' : Y -> Ty} {M' : Y -> List SP} (f : X -> Y) (h : Step C o E L A L') (hA : ∀ x, A' (f x) = A x) (hM : ∀ x, M' (f x) = L' x) : Step C o E L A' M' := fun a w hp m n l sp st fr next Q hk =>
 h a w hp m n l sp st fr next Q fun x v w' h' m' l' sp' st' hv => hk (f x) v w' h' m' l' sp' (by rw [hM]; exact st') (by rw [hA]; exact hv)
theorem Gp {X : Type} {C : Cx} {o : Oper} {E : Env} {L : List SP} {A : X -> Ty} {L' : X -> List SP} (h : Step C o E L A L') : Step C o E (SP.emp :: L) A L' := fun a w hp m n l sp st fr next Q hk =>
 h a w hp m n l sp (by
  obtain ⟨m1, m2, _, rfl, e, s2⟩ := st
  have e : m1 = PH.emp := e
  subst e; rw [Gc]; exact s2) fr next Q hk
theorem LSub.emp {L : List SP} : LSub L (SP.emp :: L) := fun h m st => ⟨PH.emp, m, F8 m, (Gc m).symm, _root_.rfl, st⟩
def vN : Value -> Nat
 | .pointer (some p) => p.block
 | _ => 0
def Es (n : Nat) : Value := .pointer (some ⟨n, 0, none⟩)
theorem Gk {α : Type} {e : Nat} {R : Rp α} {v : Value} {xs : List α} {S : List SP} : Frz (Lg.own e R v xs :: S) (tV v) (tSl R xs) := fun h m u d hs hu => by
 have hvo : v.oneCell' = true := by
  obtain ⟨m3, m4, _, _, ho, _⟩ := hs
  rcases ho with ⟨rfl, _⟩ | ⟨g, cap, cur, rfl, _⟩ <;> rfl
 have hu : u = v := hu
 exact Frz.own h m u d hs ⟨hu, hvo⟩
theorem GD {α α' : Type} {b T : Nat} {fs : List (SF α)} {fs' : List (SF α')} {x : α} {y : α'} {S : List SP} (hup : ∀ h m cs, h.disj m -> (stars S).p h m -> SF.rel h x fs cs -> SF.rel (h.join m) y fs' cs) :
  Frz (Lg.box b T (aU fs) x :: S) (tAt b 0) (bx (aU fs') y) := fun h m u d ⟨m1, m2, d12, e0, ⟨cs, r, e1⟩, hs⟩ hu => by
 subst e0
 have hd := PH.disj_join'.1 d
 have r' := hup h m2 cs hd.2 hs r
 have hle : (h.join m2).le (h.join (m1.join m2)) := fun b o e => by
  simp only [PH.join] at e ⊢
  cases hb : h b with
  | some x => rw [hb] at e; exact e
  | none =>
    rw [hb] at e
    have := FO d12 b o e
    simp only [PH.join] at this
    exact this
 have r2 := Gm hle r'
 subst e1
 exact ⟨b, 0, cs, hu, ⟨cs.toArray, T, (0, 0), FO d _ _ (FM _ _ _ _ (F3 _ _)), fun i u hu => by simpa using hu⟩, r2⟩
theorem xG {α : Type} {R : Rp α} {x : α} : ∀ h v, (bx R x).p h v -> v.oneCell' = true := by rintro h v ⟨b, o, _, e, _⟩; rw [e]; rfl
abbrev bldO (sc : GSchema) (s : Bst) : Gbuilder := ⟨sc, s.T, s.S, s.P, s.F, s.bad⟩
abbrev CP (B : Gbuilder) : Ty := bx (uR (bx cU B) xG) ()
theorem qM : TyOf prog 143 rV := ⟨fun w => isAgg143 w, fun w => sizeOf143 w⟩
def qS (bq : Nat) (vm va : Value) (s : Tst) : SP := SP.ex fun vc : Value => stars [box bq 49 f8 ⟨0, vc, va⟩, own 62 rValue vc s.C, bD kvI aO vm s.M]
theorem Gz {bq : Nat} {vm va vc : Value} {s : Tst} {L : List SP} : LSub (box bq 49 f8 ⟨0, vc, va⟩ :: own 62 rValue vc s.C :: bD kvI aO vm s.M :: L) (qS bq vm va s :: L) := LSub.ex vc (LSub.stars LSub.rfl)
theorem K_q {bq : Nat} {vm va : Value} {s : Tst} {C : Cx} {k : Act -> World -> Prop} {E : Env} {L : List SP} (hk : ∀ vc, K C k E (box bq 49 f8 ⟨0, vc, va⟩ :: own 62 rValue vc s.C :: bD kvI aO vm s.M :: L)) : K C k E (qS bq vm va s :: L) := EV fun vc => wJ (hk vc)
theorem Frz.atom {b : Nat} {t k : Int} {vc vt : Value} {cols terms : List Int} {S : List SP} : Frz (Lg.box b 88 jD ⟨t, vc, vt, k⟩ :: Lg.own 3 aO vc cols :: Lg.own 3 aO vt terms :: S) (tAt b 0) (bx cg ⟨t, cols, terms, k⟩) :=
  GD fun h m cs d hs r => Ej cols terms (FM h m) (Gk h m vc d hs rfl) ((Frz.skip Gk) h m vt d hs rfl) r
theorem Frz.conj {b : Nat} {n : Int} {vc va : Value} {C : List GValue} {A : List GAtom} {S : List SP} : Frz (Lg.box b 49 f8 ⟨n, vc, va⟩ :: Lg.own 62 rValue vc C :: Lg.own 88 cg va A :: S) (tAt b 0) (bx bK ⟨n, C, A⟩) :=
  GD fun h m cs d hs r => Eh C A (FM h m) (Gk h m vc d hs rfl) ((Frz.skip Gk) h m va d hs rfl) r
theorem Frz.bldO {b : Nat} {sc : GSchema} {s : Bst} {vt vs vp vf : Value} {S : List SP} : Frz (Lg.box b 98 cm ⟨sc, vt, vs, vp, vf, s.bad⟩ :: Lg.own 135 bm vp s.P :: Lg.own 3 aO vf s.F :: Lg.own 3 aO vt s.T :: Lg.own 3 aO vs s.S :: S) (tAt b 0) (bx cU (Lg.bldO sc s)) :=
  GD fun h m cs d hs r => Ee s.T s.S s.P s.F (FM h m) ((Frz.skip (Frz.skip Gk)) h m vt d hs rfl) ((Frz.skip (Frz.skip (Frz.skip Gk))) h m vs d hs rfl) (Gk h m vp d hs rfl) ((Frz.skip Gk) h m vf d hs rfl) r
def atI (sc : GSchema) (s : Bst) (i : Nat) : Tst × List GAtom := atomsS sc s.P ⟨[], []⟩ ((s.T.zip s.S).take i)
theorem jS (B : Gbuilder) (h : POk B.places) (i : Nat) (hi : i < B.places.length) : Fun1 prog 97 [bx cU B, tV (.int .i64 i)] (tV (.int .i64 (topM B.places i))) := by
 refine Spec.enter func97 rfl rfl fun h0 w0 fr0 => ?_
 obtain ⟨c, hc⟩ := h.acy.rank
 refine Jr (Za (ab (ap (au ?_))))
 refine aK (σ := Nat) (fun j => j < B.places.length /\ topM B.places j = topM B.places i) (fun j => upd (upd (upd co 0 (bx cU B)) 1 (tV (.int .i64 j))) 4 (tV (.int .i64 0))) (fun j => []) (fun j => c j) i ⟨hi, rfl⟩ (zU) (LSub.rfl) ?_
 rintro j ⟨hj, hv⟩
 refine ap (Jr (Zm (Zs (aZ Sr) (Zs (aa zf Sr rfl) (Zl zy Sr ?_)))))
 refine Zm ?_
 refine Zs (ae (i := j) underlying96 jc Sr Sr (by rfl) (gb (by exact hj))) ?_
 refine Zs (aa gU Sr rfl) (Zl ty3 Sr (Zm (Zs (be Sr Sr) (ab ?_))))
 refine am Sr (fun h14 => ?_) (fun h14 => ?_)
 ·
  try simp only [NF] at h14
  have hup := h.nn j hj
  obtain ⟨hc1, hc2, hc3⟩ := hc j hj
  have hne : ¬ upN B.places j = j := fun e => h14 (by unfold upN at e; omega)
  have hdec : c (upN B.places j) < c j := by rcases hc3 with q | q; exact absurd q hne; exact q
  refine av (au (ah (Zm (Zs (aZ Sr) (Zs (aa zf Sr rfl) ?_)))))
  refine Zl zy Sr (Zm ?_)
  refine Zs (ae (i := j) underlying96 jc Sr Sr (by rfl) (gb (by exact hj))) ?_
  refine Zs (aa gU Sr rfl) (Zl ty3 Sr (Za (ab ?_)))
  refine ay (σ := Nat) (s := j) (upN B.places j) (hdec) ⟨hc2, by rw [tO h hj hc2]; exact hv⟩ (.u (SubE.upd (Sub.int (by show (nth B.places j).up = ((nth B.places j).up.toNat : Int); omega)) (zU))) (LSub.rfl)
 try simp only [NF] at h14
 have hself : topM B.places j = j := lA h hj (by unfold upN; omega)
 refine aV (Jr (Zm (Za (ab (aC ?_)))))
 refine bz (rv := .tmp 4) rfl () (.tmp Sr) (Sub.int ?_)
 rw [<- hv, hself]
theorem sG (B : Gbuilder) (h : POk B.places) (hl : B.places.length <= 1000000000) (i : Nat) (hi : i < B.places.length) : Fun1 prog 44 [bx cU B, tV (.int .i64 i)] (tV (.bool (fJ B.places i))) := by
 refine Spec.enter func44 rfl rfl fun h0 w0 fr0 => ?_
 have htl := h.top_lt hi
 refine Jr (Za (ab (Jr (Za (ab ?_)))))
 refine ap (Jr (Zm (Zs (aZ Sr) (Zs (aa zf Sr rfl) (Zl zy Sr ?_)))))
 refine Zs (ag underlying96 Sr) (Zm (ab (au ?_)))
 refine aK (σ := Nat) (fun k => k <= B.places.length) (fun k => upd (upd (upd (upd (upd (upd co 0 (bx cU B)) 1 (tV (.int .i64 i))) 4 (tV (.bool false))) 5 (tV (.int .i64 (((List.range k).countP fun k => decide (topM B.places k = topM B.places i) : Nat) : Int)))) 11 (tV (.int .i64 B.places.length))) 12 (tV (.int .i64 k))) (fun k => []) (fun k => B.places.length - k) 0 zG (.u (.u (SubE.upd (Sub.int (by simp)) (zU)))) (LSub.rfl) ?_
 rintro k hk
 refine Jr (Zs (az Sr Sr) (ab (ap ?_)))
 refine am Sr (fun h13 => ?_) (fun h13 => ?_)
 ·
  try simp only [NF] at h13
  have hlt : k < B.places.length := by omega
  have hcs : (List.range (k + 1)).countP (fun k => decide (topM B.places k = topM B.places i)) = (List.range k).countP (fun k => decide (topM B.places k = topM B.places i)) + if topM B.places k = topM B.places i then 1 else 0 := by rw [List.range_succ, List.countP_append]; simp [List.countP_cons]
  have hcl : (List.range k).countP (fun k => decide (topM B.places k = topM B.places i)) <= k := by have := List.countP_le_length (p := fun k => decide (topM B.places k = topM B.places i)) (l := List.range k); simpa using this
  refine av (ap (au (Jr (Zm (Za ?_)))))
  refine ab (Jr (Zm (Zm (Zs (aj (jS B h k hlt) ⟨Sr, Sr, trivial⟩ call97) (Zm ?_)))))
  refine Zm (Zs (aj (jS B h i hi) ⟨Sr, Sr, trivial⟩ call97) (Zs (aJ Sr Sr) (ab ?_)))
  refine am Sr (fun h21 => ?_) (fun h21 => ?_)
  ·
   try simp only [NF] at h21
   rw [if_pos zG] at hcs
   refine ah (Zm (Zs (ax Sr Sr z6) (Za (ab (ah ?_)))))
   refine Zs (ax Sr Sr z6) (Zm (ab ?_))
   refine ay (σ := Nat) (s := k) (k + 1) zO zG (.u (.u (SubE.upd (Sub.int (by rw [hcs]; omega)) (zU)))) (LSub.rfl)
  try simp only [NF] at h21
  rw [if_neg zG] at hcs
  refine av (ah (Zs (ax Sr Sr z6) (Zm (ab ?_))))
  refine ay (σ := Nat) (s := k) (k + 1) zO zG (.u (.u (SubE.upd (Sub.int (by rw [hcs]; omega)) (zU)))) (LSub.rfl)
 try simp only [NF] at h13
 obtain rfl : k = B.places.length := by omega
 refine aV (ap ?_)
 refine bQ [⟨0, [5], true⟩, ⟨1, [25], true⟩, ⟨2, [26], true⟩, ⟨3, [0, 27], true⟩, ⟨4, [27, 28], true⟩, ⟨5, [27, 29], true⟩, ⟨6, [27, 30], true⟩, ⟨7, [0, 27], true⟩, ⟨8, [1, 27], true⟩, ⟨9, [27, 32, 33], true⟩, ⟨10, [27, 31, 34], true⟩, ⟨11, [27, 35], true⟩, ⟨12, [27, 36], true⟩, ⟨13, [27, 37], true⟩, ⟨14, [27, 38], true⟩, ⟨15, [39], true⟩] rfl (by kernel_rfl) ?_
 refine Zv rfl (Zf rfl (aJ Sr Sr) (Zv rfl ?_))
 refine Mk rfl rfl Sr rfl (ar Sr) ?_
 refine Mg rfl rfl Sr rfl (fun hw => aZ (Sub.w hw)) (Mg rfl rfl Sr rfl (fun hw => aa zf (Sub.w hw) rfl) (Mg rfl rfl Sr rfl (fun hw => ad zy (Sub.w hw)) ?_))
 refine Mk rfl rfl Sr rfl (ar Sr) ?_
 refine Mk rfl rfl Sr rfl (ar Sr) ?_
 refine Mg rfl rfl Sr rfl (fun hw => aj (jS B h i hi) ⟨(Sub.w hw), (Sub.w hw), trivial⟩ call97) ?_
 refine Mg rfl rfl Sr rfl (fun hw => ae (i := (topM B.places i)) underlying96 jc (Sub.w hw) (Sub.w hw) (by rfl) (gb (by have hwq := hw; (try simp only [beqB_t, beqB_f, NF] at hwq); exact htl))) ?_
 refine Mg rfl rfl Sr rfl (fun hw => aa gU (Sub.w hw) rfl) (Mg rfl rfl Sr rfl (fun hw => ad ty4 (Sub.w hw)) (Mg rfl rfl Sr rfl (fun hw => bc (Sub.w hw)) (Zf rfl (aw Sr Sr) (Zf rfl (bd Sr) (bP ?_)))))
 refine aC ?_
 refine bz (rv := .tmp 4) rfl () (.tmp Sr) (Sub.bool ?_)
 unfold fJ
 congr 1
 rw [decide_eq_decide]; omega
theorem mD (l : List Int) (hl : l.length <= 1000000000000) (gi : Nat) (Bs : List Ty) (p : Int -> Bool) (hp : ∀ x ∈ l, Fun1 prog gi (Bs ++ [tV (.int .i64 x)]) (tV (.bool (p x)))) (he : ∀ args w, (callFunc gi args).run prog w = .ok (.enter gi args) w) : Fun1 prog 96 [tSl aO l, vF gi Bs] (tV (.int .i64 (findI p 0 l))) := by
 refine Spec.enter func96 rfl rfl fun h0 w0 fr0 => ?_
 refine Jr (Za (ab (ap (Jr (Zm ?_)))))
 refine Zs (ag underlying27 Sr) (Zm (ab (au ?_)))
 refine aK (σ := Nat) (fun i => i <= l.length /\ findI p 0 l = findI p i (l.drop i)) (fun i => upd (upd (upd (upd co 0 (tSl aO l)) 1 (vF gi Bs)) 7 (tV (.int .i64 l.length))) 8 (tV (.int .i64 i))) (fun i => []) (fun i => l.length - i) 0 ⟨by omega, by simp⟩ (zU) (LSub.rfl) ?_
 rintro i ⟨hi, hv⟩
 refine Jr (Zs (az Sr Sr) (ab (ap ?_)))
 refine am Sr (fun h9 => ?_) (fun h9 => ?_)
 ·
  try simp only [NF] at h9
  have hlt : i < l.length := by omega
  have hd := fq hlt
  refine av (ap (au (Jr (Zm (Za ?_)))))
  refine ab (Jr (Zm (Zm (Zm ?_))))
  refine Zs (ae  underlying27 ty3 Sr Sr rfl (gb (by first | assumption | omega))) ?_
  refine Zl ty3 Sr (Zs (qL (aT := [_]) Sr (hp _ (nth_mem hlt)) ⟨Sr, trivial⟩ he) (ab ?_))
  refine am Sr (fun h16 => ?_) (fun h16 => ?_)
  ·
   try simp only [NF] at h16
   refine Jr (Zm (Za (ab (aC ?_))))
   refine bz (rv := .tmp 4) rfl () (.tmp Sr) (Sub.int ?_)
   rw [hv, hd]; simp only [findI]; rw [if_pos h16]
  try simp only [NF] at h16
  refine av (ah (Zs (ax Sr Sr z6) (Zm (ab ?_))))
  refine ay (σ := Nat) (s := i) (i + 1) zO ?_ (zU) (LSub.rfl)
  refine ⟨by omega, ?_⟩
  rw [hv, hd]; simp only [findI]; rw [if_neg (by simp [h16])]; simp
 try simp only [NF] at h9
 refine aV (Jr (Za (ab (aC ?_))))
 refine bz (rv := .tmp 4) rfl () (.tmp Sr) (Sub.int ?_)
 rw [hv, List.drop_of_length_le zG]; rfl
theorem jT (l : List Int) (hl : l.length <= 1000000000000) (gi : Nat) (Bs : List Ty) (p : Int -> Bool) (hp : ∀ x ∈ l, Fun1 prog gi (Bs ++ [tV (.int .i64 x)]) (tV (.bool (p x)))) (he : ∀ args w, (callFunc gi args).run prog w = .ok (.enter gi args) w) : Fun1 prog 43 [tSl aO l, vF gi Bs] (tV (.bool (l.any p))) := by
 refine Spec.enter func43 rfl rfl fun h0 w0 fr0 => ?_
 refine Jr (Za (ab (Jr (Zm (Zm ?_)))))
 refine Zs (aj (mD l hl gi Bs p hp he) ⟨Sr, Sr, trivial⟩ call96) (Zs (bA Sr Sr) (Za (ab (aC ?_))))
 refine bz (rv := .tmp 4) rfl () (.tmp Sr) (Sub.bool ?_)
 have hq := (dg p l 0 zG).2.2
 by_cases ha : l.any p = true
 ·
  rw [ha]; simp; exact hq.2 ha
 simp only [Bool.not_eq_true] at ha; rw [ha]; simp; have : ¬ 0 <= findI p 0 l := (fun h => by rw [hq.1 h] at ha; cases ha)
 omega
theorem vG (B : Gbuilder) (h : POk B.places) (bq : Nat) (vm va : Value) (s : Tst) (i : Nat) (hi : i < B.places.length) (hC : s.C.length <= 100000000) (hM : s.M.length <= 100000000) : Spec (X := Value) prog 98 [tV (.int .i64 i), CP B, tAt bq 0, bx rV vm] ([qS bq vm va s]) (fun _ => tV (.int .i64 (dj B.places s i).2)) (fun _ => [qS bq vm va (dj B.places s i).1]) := by
 refine Spec.enter func98 rfl rfl fun h0 w0 fr0 => ?_
 have htl := h.top_lt hi
 refine K_q fun vc => ?_
 refine Jr (Za (ab (Jr (Zl gh Sr (Zm ?_)))))
 refine Zs (aj (jS B h i hi) ⟨Sr, Sr, trivial⟩ call97) (Za (ab (ap (Jr (Zl gh Sr ?_)))))
 refine Zs (aZ Sr) (Zs (aa zf Sr rfl) (Zl zy Sr (Zm ?_)))
 refine Zs (ae (i := (topM B.places i)) underlying96 jc Sr Sr (by rfl) (gb (by exact htl))) ?_
 refine Zl jc Sr ?_
 refine Zx (aE (fun w => zeroValue135 w) BN) fun v6 => ?_
 refine Ju (ai jc Sr Sr zS) fun _ => ?_
 refine aN (t := 6) (Sel.take (FN _)) Frz.box ?_
 refine ab (Jr (Zs (aa gU Sr rfl) (Zl ty4 Sr (ab ?_))))
 refine am Sr (fun h21 => ?_) (fun h21 => ?_)
 ·
  try simp only [NF] at h21
  have hbd := dg (fun x => decide ((nth B.places (topM B.places i)).value = x)) s.C 0 zG
  refine Jr (Zs (aq sa Sr rfl) ?_)
  refine Zs (a6 lY Sr rfl zS) ?_
  refine Zs (aa gU Sr rfl) (Zl bZ Sr ?_)
  refine Zs (cP zS (ma s.C (nth B.places (topM B.places i)).value zG) (fun _ => Flat.v _) ⟨Frz.own, Frz.sub Sr, trivial⟩ call99) ?_
  refine Za (ab (ap (Jr (Zm (Zs (az Sr Sr) ?_)))))
  refine ab ?_
  refine am Sr (fun h28 => ?_) (fun h28 => ?_)
  ·
   try simp only [NF] at h28
   refine Jr (Zs (aq sa Sr rfl) ?_)
   refine Zs (a6 lY Sr rfl zS) ?_
   refine Zs (bC underlying45 Sr zS) ?_
   refine Za (ab (ah (Zs (aq sa Sr rfl) ?_)))
   refine Zs (a6 lY Sr rfl zS) ?_
   refine Zs (aa gU Sr rfl) (Zl bZ Sr ?_)
   refine Zs (aB (ys := [_]) underlying45 pS ⟨rfl, Sr, trivial⟩ rfl (by decide)) ?_
   refine Zx (aH underlying45 pS Sr Sr zS (by simp; omega) (by simp; omega)) fun v37 => ?_
   refine Zs (aq sa Sr rfl) ?_
   refine Ju (aS (R := rV) (y' := (⟨0, v37, va⟩ : GConjW)) lY Sr Sr zS (by exact ⟨rfl, ⟨fun _ _ q => q, rfl, by intro g hg; simp only [List.mem_cons, List.not_mem_nil, or_false] at hg; subst hg; rfl⟩⟩)) fun _ => ?_
   refine ab (Jr (Zm (Zs (cK Sr Sr z6) (Za (ab ?_)))))
   refine aC ?_
   have hT : dj B.places s i = ({ s with C := s.C ++ [(nth B.places (topM B.places i)).value] }, (-1 - (s.C.length : Int))) := by unfold dj; rw [if_pos h21, if_pos h28]
   refine a7 (L' := [box bq 49 f8 ⟨0, v37, va⟩, own 62 rValue v37 (s.C ++ [(nth B.places (topM B.places i)).value]), bD kvI aO vm s.M]) (zL) ?_
   refine a7 (L' := [qS bq vm va ⟨(s.C ++ [(nth B.places (topM B.places i)).value]), s.M⟩]) (Gz (s := ⟨(s.C ++ [(nth B.places (topM B.places i)).value]), s.M⟩)) ?_
   refine a7 (L' := [qS bq vm va (dj B.places s i).1]) (.c zS (SPs.of (A := qS bq vm va ⟨(s.C ++ [(nth B.places (topM B.places i)).value]), s.M⟩) (by rw [hT])) (LSub.nil)) ?_
   refine bz (rv := .tmp 5) rfl default (.tmp Sr) (Sub.int (by rw [hT]))
  try simp only [NF] at h28
  refine av (Jr (Zm (Zs (cK Sr Sr z6) (Za (ab ?_)))))
  refine aC ?_
  have hT : dj B.places s i = (s, -1 - (findI (fun x => decide ((nth B.places (topM B.places i)).value = x)) 0 s.C)) := by unfold dj; rw [if_pos h21, if_neg zG]
  refine a7 (L' := [box bq 49 f8 ⟨0, vc, va⟩, own 62 rValue vc s.C, bD kvI aO vm s.M]) (zL) ?_
  refine a7 (L' := [qS bq vm va ⟨s.C, s.M⟩]) (Gz (s := ⟨s.C, s.M⟩)) ?_
  refine a7 (L' := [qS bq vm va (dj B.places s i).1]) (.c zS (SPs.of (A := qS bq vm va ⟨s.C, s.M⟩) (by rw [hT])) (LSub.nil)) ?_
  refine bz (rv := .tmp 5) rfl default (.tmp Sr) (Sub.int (by rw [hT]))
 try simp only [NF] at h21
 refine av (Jr (Zl qM Sr (Zm ?_)))
 refine Zs (nu (kv := kvI) (R := aO) (z := 0) (KeyT.int underlying3) underlying143 (fun w => zeroValue3 w) zr3 F9 Sr zS) ?_
 refine Zm (Zs (aL Sr rfl) (Zs (aL Sr rfl) (Za (Za (ab ?_)))))
 refine ap (Jr (Zm (Zs (bc Sr) (ab ?_))))
 refine am Sr (fun h48 => ?_) (fun h48 => ?_)
 ·
  try simp only [NF] at h48
  have hy : mget s.M (topM B.places i : Int) = none := by simpa using h48
  refine Jr (Zl qM Sr ?_)
  refine Zs (fA underlying143 Sr zS) ?_
  refine Za (ab (ah (Zl qM Sr (Zm (Zm ?_)))))
  refine Ju (dc (kv := kvI) (R := aO) (KeyT.int underlying3) underlying143 F9 Sr Sr zS) fun _ => ?_
  refine ab (Jr (Zm (Za (ab (aC ?_)))))
  have hT : dj B.places s i = ({ s with M := mput s.M (topM B.places i : Int) s.M.length }, (s.M.length : Int)) := by unfold dj; rw [if_neg (by simp [h21]), hy]
  refine a7 (L' := [box bq 49 f8 ⟨0, vc, va⟩, own 62 rValue vc s.C, bD kvI aO vm (mput s.M (topM B.places i : Int) s.M.length)]) (zL) ?_
  refine a7 (L' := [qS bq vm va ⟨s.C, (mput s.M (topM B.places i : Int) s.M.length)⟩]) (Gz (s := ⟨s.C, (mput s.M (topM B.places i : Int) s.M.length)⟩)) ?_
  refine a7 (L' := [qS bq vm va (dj B.places s i).1]) (.c zS (SPs.of (A := qS bq vm va ⟨s.C, (mput s.M (topM B.places i : Int) s.M.length)⟩) (by rw [hT])) (LSub.nil)) ?_
  refine bz (rv := .tmp 5) rfl default (.tmp Sr) (Sub.int (by rw [hT]))
 try simp only [NF] at h48
 obtain ⟨y, hy⟩ := Option.isSome_iff_exists.1 (by simpa using h48)
 refine av (Jr (Zm (Za (ab (aC ?_)))))
 have hT : dj B.places s i = (s, y) := by unfold dj; rw [if_neg (by simp [h21]), hy]
 refine a7 (L' := [box bq 49 f8 ⟨0, vc, va⟩, own 62 rValue vc s.C, bD kvI aO vm s.M]) (zL) ?_
 refine a7 (L' := [qS bq vm va ⟨s.C, s.M⟩]) (Gz (s := ⟨s.C, s.M⟩)) ?_
 refine a7 (L' := [qS bq vm va (dj B.places s i).1]) (.c zS (SPs.of (A := qS bq vm va ⟨s.C, s.M⟩) (by rw [hT])) (LSub.nil)) ?_
 refine bz (rv := .tmp 5) rfl default (.tmp Sr) (Sub.int (by rw [hT, hy]; rfl))
end Lg
