/- A part of the proofs of the laws of cleanselaw33 and cleanselaw36: contracts of functions that the law reaches, and facts about what they compute. -/
import Derived.Test.YtecikhenhjphfaaGreatDoorB
import Derived.Shelf.Sort.Plain
import Derived.Shelf.Slices.In.SortNone
import Derived.Shelf.GgSortFunc.Insertion
import Derived.Shelf.Slices.CompactS
import Derived.Test.YtecikhenhjphfaaGreatDoorProg
import Derived.Ground.NamesProg
set_option linter.unusedVariables false
set_option linter.unusedSimpArgs false
set_option linter.unusedSectionVars false
set_option maxHeartbeats 16000000
namespace Lg
open Go Go.Proofs Go.Proofs.Tryz
def eqL (p : GAttr -> GAttr -> Bool) (a b : List GAttr) : Bool := decide (a.length = b.length) && (List.range a.length).all fun i => p (nth a i) (nth b i)
def w6 (x y : GAttr) : Bool := decide (x.Name = y.Name) && decide (x.Kind = y.Kind)
def jG (a b : List GAttr) : Bool := eqL w6 a b
def dX (n : Nat) (cols : List Int) : Bool := cols.all fun c => decide (0 <= c) && decide (c < n)
def jd (l : List GAttr) (cols : List Int) : List GAttr := cols.map fun c => nth l c.toNat
def eE (l : List GAttr) (cols : List Int) : List GAttr := if dX l.length cols = true then jd l cols else []
def iN (x : GSide) (n : Int) : Bool := if x.Var = -1 then decide (x.Col = 0) && bh x.Value else decide (x.Var = 0) && decide (0 <= x.Col) && decide (x.Col < n) && decide (x.Value = ⟨0, 0, ⟨#[]⟩⟩)
def dY (t : GTest) (n : Int) : Bool := decide (1 <= t.Op) && decide (t.Op <= 4) && iN t.Left n && iN t.Right n && (decide (t.Left.Var = 0) || decide (t.Right.Var = 0))
def CN (t : GTable) (l : List GAttr) (i : Nat) : GAttr := if i < l.length /\ ku t (nth l i).Name = i then { nth t.Attrs i with Name := (nth l i).Name } else nth t.Attrs i
def lm (t : GTable) (l : List GAttr) (n : Nat) : List GAttr := (List.range t.Attrs.length).map fun i => if i < n then CN t l i else nth t.Attrs i
def iW (t : GTable) (l : List GAttr) : List GAttr := (List.range t.Attrs.length).map (CN t l)
def iX (a b : List GAttr) : Bool := b.all fun x => decide (aM a x.Name < 0) || decide ((nth a (aM a x.Name).toNat).Kind = x.Kind)
def dv (a b : List GAttr) : List GAttr := a ++ b.filter fun x => decide (aM a x.Name < 0)
def ln (p : aQ) : Bool := decide (0 <= p.Col /\ p.Col < (nth p.Kids 0).Attrs.length /\ p.Attrs.length = (nth p.Kids 0).Attrs.length)
def zD (p : aQ) : List GAttr := (nth p.Kids 0).Attrs.set p.Col.toNat { nth (nth p.Kids 0).Attrs p.Col.toNat with Name := (nth p.Attrs p.Col.toNat).Name }
def kw (p : aQ) : Bool := dX (nth p.Kids 0).Attrs.length p.Cols && decide (p.Attrs.length = p.Cols.length + 1 /\ 1 <= p.Agg /\ p.Agg <= 4)
def qg (p : aQ) : Bool := decide (0 <= p.Col /\ p.Col < (nth p.Kids 0).Attrs.length)
def ly (p : aQ) : Bool := if p.Agg = 1 then decide (p.Col = -1) else if qg p = false then false else if p.Agg = 2 then decide ((nth (nth p.Kids 0).Attrs p.Col.toNat).Kind = 2) else true
def u5 (p : aQ) : Int := if p.Agg = 1 then 2 else if qg p = false then 2 else if p.Agg = 2 then 2 else (nth (nth p.Kids 0).Attrs p.Col.toNat).Kind
def o3 (p : aQ) : List GAttr := jd (nth p.Kids 0).Attrs p.Cols ++ [⟨(nth p.Attrs p.Cols.length).Name, u5 p, [], ⟨0, 0, ⟨#[]⟩⟩⟩]
def colsM (s : GSchema) (p : aQ) : List GAttr × Bool :=
  if p.Kind = 1 then (if 0 <= p.Table /\ p.Table < s.Tables.length then (iW (nth s.Tables p.Table.toNat) p.Attrs, true) else ([], false))
  else if p.Kind = 2 then ((nth p.Kids 0).Attrs, decide (0 < (p.Tests.length : Int)) && !(p.Tests.any fun t => !dY t (nth p.Kids 0).Attrs.length))
  else if p.Kind = 3 then (eE (nth p.Kids 0).Attrs p.Cols, dX (nth p.Kids 0).Attrs.length p.Cols)
  else if p.Kind = 4 then (if iX (nth p.Kids 0).Attrs (nth p.Kids 1).Attrs = true then (dv (nth p.Kids 0).Attrs (nth p.Kids 1).Attrs, true) else ([], false))
  else if p.Kind = 5 \/ p.Kind = 6 then ((nth p.Kids 0).Attrs, jG (nth p.Kids 0).Attrs (nth p.Kids 1).Attrs)
  else if p.Kind = 7 then (if ln p = true then (zD p, true) else ([], false))
  else (if kw p = true then (o3 p, ly p) else ([], false))
theorem Fo (t : GTable) (l : List GAttr) : lm t l 0 = t.Attrs := by
  refine mc (by simp [lm]) fun i hi => ?_
  have hi' : i < t.Attrs.length := by simpa [lm] using hi
  rw [nth_get hi]; simp [lm]
theorem dZ (t : GTable) (l : List GAttr) (n : Nat) : (lm t l n).length = t.Attrs.length := by simp [lm]
theorem jH {t : GTable} {l : List GAttr} {n i : Nat} (h : i < t.Attrs.length) : nth (lm t l n) i = if i < n then CN t l i else nth t.Attrs i := by
  rw [nth_get (by rw [dZ]; exact h)]; simp [lm]
theorem zE {t : GTable} {l : List GAttr} {n : Nat} (h : ¬ (n < t.Attrs.length /\ n < l.length)) : lm t l n = iW t l := by
  unfold lm iW
  refine List.map_congr_left fun i hi => ?_
  have hi := List.mem_range.1 hi
  by_cases hn : i < n
  · rw [if_pos hn]
  · rw [if_neg hn, CN, if_neg (by omega)]
theorem zF {t : GTable} {l : List GAttr} {n : Nat} (h1 : n < t.Attrs.length) (h : ¬ ku t (nth l n).Name = n) : lm t l (n + 1) = lm t l n := by
  refine mc (by rw [dZ, dZ]) fun i hi => ?_
  rw [dZ] at hi
  rw [jH hi, jH hi]
  by_cases e : i = n
  · subst e; rw [if_pos (by omega), if_neg (by omega), CN, if_neg fun q => h q.2]
  · by_cases e2 : i < n
    · rw [if_pos (by omega), if_pos e2]
    · rw [if_neg (by omega), if_neg e2]
theorem BO {t : GTable} {l : List GAttr} {n : Nat} (h1 : n < t.Attrs.length) (h2 : n < l.length) (h : ku t (nth l n).Name = n) : (lm t l n).set n { nth (lm t l n) n with Name := (nth l n).Name } = lm t l (n + 1) := by
  refine mc (by rw [List.length_set, dZ, dZ]) fun i hi => ?_
  rw [List.length_set, dZ] at hi
  rw [Lg.nth_set (by rw [dZ]; exact hi), jH hi, jH hi]
  by_cases e : n = i
  · subst e; rw [if_pos rfl, if_pos (by omega), jH hi, if_neg (by omega), CN, if_pos ⟨h2, h⟩]
  · rw [if_neg e]
    by_cases e2 : i < n
    · rw [if_pos e2, if_pos (by omega)]
    · rw [if_neg e2, if_neg (by omega)]
theorem w7 {a l : List GAttr} {x : GAttr} : dv a (l ++ [x]) = if aM a x.Name < 0 then dv a l ++ [x] else dv a l := by
  unfold dv
  rw [List.filter_append]
  by_cases h : aM a x.Name < 0
  · rw [if_pos h, List.filter_cons_of_pos (by simpa using h)]; simp
  · rw [if_neg h, List.filter_cons_of_neg (by simpa using h)]; simp
theorem qh (a b : List GAttr) : (dv a b).length <= a.length + b.length := by
  unfold dv; rw [List.length_append]; have := List.length_filter_le (fun x : GAttr => decide (aM a x.Name < 0)) b; omega
theorem zH {a b : List GAttr} {i : Nat} (h : i < a.length) : nth (dv a b) i = nth a i := by
  have h2 : i < (dv a b).length := by unfold dv; rw [List.length_append]; omega
  rw [nth_get h2, nth_get h]; unfold dv; exact List.getElem_append_left h
theorem tH (a : List GAttr) (n : ByteArray) : -1 <= aM a n /\ aM a n < a.length := by
  have := dg (fun a : GAttr => decide (a.Name = n)) a 0 (by omega)
  unfold aM; omega
theorem je (l : List GAttr) (hl : l.length <= 1000000000) : Spec (X := Value) prog 113 [tSl bu l] ([]) (fun v => rV.ty v) (fun v => [own 64 bu v l]) := by
 refine Spec.enter func113 rfl rfl fun h0 w0 fr0 => ?_
 refine Jr (Za (ab (ap (Jr (Zm ?_)))))
 refine Zx (dA underlying28 Sr) fun v4 => ?_
 refine ab ?_
 refine am Sr (fun h4 => ?_) (fun h4 => ?_)
 ·
  try simp only [NF] at h4
  refine Jr (Za (ab (aC ?_)))
  have hl0 := v4.2 h4
  subst hl0
  refine a7 (FR (e := 64) (R := bu)) ?_
  refine aY (rv := .tmp 2) rfl (.slice none 0 0) (FN _) (.tmp (FT rfl)) (Frz.sub Sr)
 try simp only [NF] at h4
 refine av (Jr ?_)
 refine Zx (bO (ys := []) underlying28 rZ trivial rfl (by decide)) fun v5 => ?_
 refine Zm ?_
 refine Zx (aH underlying28 rZ Sr Sr zS (by simp; omega) (by simp; omega)) fun v7 => ?_
 refine Za (ab (aC ?_))
 refine aY (rv := .tmp 2) rfl v7 (FN _) (.tmp Sr) (Frz.sub Sr)
theorem si (x y : GAttr) : Fun1 prog 144 [bu.ty x, bu.ty y] (tV (.bool (w6 x y))) := by
 refine Spec.enter func144 rfl rfl fun h0 w0 fr0 => ?_
 refine Jr (Zs (aF (R := bu) Sr) (Zs (aF (R := bu) Sr) (Za (ab (Jr ?_)))))
 refine Zs (aa gV Sr rfl) (Zl ty9 Sr (Zs (aa gV Sr rfl) (Zl ty9 Sr (Zs (dP Sr Sr) (Zm ?_)))))
 refine Zk (aa gV Sr rfl) ?_
 refine Zg (fun hw => ad ty3 (Sub.w hw)) ?_
 refine Zk (aa gV Sr rfl) ?_
 refine Zg (fun hw => ad ty3 (Sub.w hw)) (Zg (fun hw => aJ (Sub.w hw) (Sub.w hw)) (Zs (aw Sr Sr) (Za (ab (aC ?_)))))
 exact aI (t := 4) rfl () Sr
theorem mf (a b : List GAttr) (hl : a.length <= 1000000000000) (gi : Nat) (As : List Ty) (p : GAttr -> GAttr -> Bool) (hp : ∀ x y, Fun1 prog gi ([bu.ty x, bu.ty y] ++ As) (tV (.bool (p x y)))) (he : ∀ args w, (callFunc gi args).run prog w = .ok (.enter gi args) w) : Fun1 prog 143 [tSl bu a, tSl bu b, eZ gi As] (tV (.bool (eqL p a b))) := by
 refine Spec.enter func143 rfl rfl fun h0 w0 fr0 => ?_
 refine Jr (Za (ab (ap (Jr (Zm ?_)))))
 refine Zs (ag underlying28 Sr) (Zm (Zs (ag underlying28 Sr) (Zs (be Sr Sr) (ab ?_))))
 refine am Sr (fun h14 => ?_) (fun h14 => ?_)
 ·
  try simp only [NF] at h14
  refine Jr (Za (ab (aC ?_)))
  refine aI (t := 6) rfl () ?_
  refine Sub.bool ?_
  have : ¬ a.length = b.length := by omega
  simp [eqL, this]
 try simp only [NF] at h14
 have heq : a.length = b.length := by omega
 refine av (ap (Jr (Zm (Zs (ag underlying28 Sr) (Zm ?_)))))
 refine ab (au ?_)
 refine aK (σ := Nat) (fun i => i <= a.length /\ ∀ k, k < i -> p (nth a k) (nth b k) = true) (fun i => upd (upd (upd (upd (upd co 1 (tSl bu b)) 2 (eZ gi As)) 15 (tSl bu a)) 16 (tV (.int .i64 a.length))) 17 (tV (.int .i64 i))) (fun i => []) (fun i => a.length - i) 0 ⟨by omega, fun k hk => by omega⟩ (zU) (LSub.rfl) ?_
 rintro i ⟨hi, hv⟩
 refine Jr (Zs (az Sr Sr) (ab (ap ?_)))
 refine am Sr (fun h18 => ?_) (fun h18 => ?_)
 ·
  try simp only [NF] at h18
  have hlt : i < a.length := by omega
  refine av (ap (au (Jr (Zm ?_))))
  refine Zs (ae  underlying28 eS Sr Sr rfl (gb (by exact hlt))) ?_
  refine Zl eS Sr ?_
  refine Zx (aE (fun w => zeroValue64 w) zx) fun v8 => ?_
  refine Za ?_
  refine Ju (ai eS Sr Sr zS) fun _ => ?_
  refine aN (t := 8) (Sel.take (FN _)) Frz.box ?_
  refine ab (Jr (Zm (Zm ?_)))
  refine Zs (ae (i := i) underlying28 eS Sr Sr (by rfl) (gb (by show i < b.length; omega))) ?_
  refine Zl eS Sr ?_
  refine Zx (aE (fun w => zeroValue64 w) zx) fun v9 => ?_
  refine Ju (ai eS Sr Sr zS) fun _ => ?_
  refine aN (t := 9) (Sel.take (FN _)) Frz.box ?_
  refine ab (Jr (Zm (Zl eS Sr (Zl eS Sr (Zs (bp (aT := [_, _]) Sr (hp _ _) ⟨Sr, Sr, trivial⟩ he) ?_)))))
  refine Zs (bc Sr) (ab ?_)
  refine am Sr (fun h30 => ?_) (fun h30 => ?_)
  ·
   try simp only [NF] at h30
   refine Jr (Za (ab (aC ?_)))
   refine aI (t := 6) rfl () ?_
   refine Sub.bool ?_
   have : p (nth a i) (nth b i) = false := by simpa using h30
   simp only [eqL, f9 (f := fun i => p (nth a i) (nth b i)) hlt this]; simp
  try simp only [NF] at h30
  refine av (ah (Zs (ax Sr Sr z6) (Zm (ab ?_))))
  refine ay (σ := Nat) (s := i) (i + 1) zO ?_ (zU) (LSub.rfl)
  refine ⟨by omega, fun k hk => ?_⟩
  by_cases e : k = i
  ·
   subst e; simpa using h30
  exact hv k zG
 try simp only [NF] at h18
 have hall := fE (n := a.length) (fun k hk => hv k zG)
 refine aV (Jr (Za (ab (aC ?_))))
 refine aI (t := 6) rfl () ?_
 refine Sub.bool ?_
 rw [eqL, hall]; simp [heq]
theorem nV (a b : List GAttr) (hl : a.length <= 1000000000000) : Fun1 prog 103 [tSl bu a, tSl bu b] (tV (.bool (jG a b))) := by
 refine Spec.enter func103 rfl rfl fun h0 w0 fr0 => ?_
 refine Jr (Za (ab (Jr (Zm (Zm ?_)))))
 refine Zs (aj (mf a b hl 144 [] w6 (fun x y => si x y) call144) ⟨Sr, Sr, F5, trivial⟩ call143) (Za (ab (aC ?_)))
 exact aI (t := 4) rfl () Sr
theorem nW (l : List GAttr) (cols : List Int) (hc : cols.length <= 1000000000) : Spec (X := Value) prog 122 [tSl bu l, tSl aO cols] ([]) (fun v => fW [rV.ty v, tV (.bool (dX l.length cols))]) (fun v => [own 64 bu v (eE l cols)]) := by
 refine Spec.enter func122 rfl rfl fun h0 w0 fr0 => ?_
 refine Jr (Za (Za (ab (Jr (Za ?_)))))
 refine ab (ap (Jr (Zm (Zs (ag underlying27 Sr) (Zm ?_)))))
 refine ab (au ?_)
 refine aK (σ := Nat × Value) (fun ⟨i, v⟩ => i <= cols.length /\ ∀ k, k < i -> (decide (0 <= nth cols k) && decide (nth cols k < l.length)) = true) (fun ⟨i, v⟩ => upd (upd (upd (upd (upd co 0 (tSl bu l)) 6 (rV.ty v)) 9 (tSl aO cols)) 10 (tV (.int .i64 cols.length))) 11 (tV (.int .i64 i))) (fun ⟨i, v⟩ => [own 64 bu v (jd l (cols.take i))]) (fun ⟨i, v⟩ => cols.length - i) (0, .slice none 0 0) ⟨by omega, fun k hk => by omega⟩ (.u (.u (.u (SubE.upd (FT rfl) (zU))))) (FR) ?_
 rintro ⟨i, v⟩ ⟨hi, hv⟩
 refine Jr (Zs (az Sr Sr) (ab (ap ?_)))
 refine am Sr (fun h12 => ?_) (fun h12 => ?_)
 ·
  try simp only [NF] at h12
  have hlt : i < cols.length := by omega
  have hpl : (jd l (cols.take i)).length <= 1000000000 := by simp [jd]; omega
  refine av (ap (au (Jr ?_)))
  refine Zs (ae  underlying27 ty3 Sr Sr rfl (gb (by exact hlt))) ?_
  refine Zl ty3 Sr (Za (ab (ap (Jr (Zm ?_)))))
  refine Zs (az Sr Sr) (Zm ?_)
  refine Zk (ar Sr) ?_
  refine Zk (ar Sr) ?_
  refine Zg (fun hw => ag underlying28 (Sub.w hw)) (Zg (fun hw => bA (Sub.w hw) (Sub.w hw)) (Zs (aD Sr Sr) (ab ?_)))
  refine am Sr (fun h22 => ?_) (fun h22 => ?_)
  ·
   try simp only [NF] at h22
   refine Jr (Za (Za (ab (aC ?_))))
   have hno : dX l.length cols = false := ll hlt (by rcases h22 with h | h <;> simp <;> omega)
   have hpm : eE l cols = [] := by rw [eE, if_neg (by rw [hno]; simp)]
   refine lH zS ?_
   refine a7 (L' := [own 64 bu (.slice none 0 0) (eE l cols)]) (LSub.trans (FR (e := 64) (R := bu)) (.c zS (SPs.of (A := own 64 bu (.slice none 0 0) ([] : List GAttr)) (by rw [hpm])) (LSub.nil))) ?_
   refine bI (rv := .tmp 4) (rv' := .tmp 5) rfl (.slice none 0 0) (FN _) (.tmp (FT rfl)) (.tmp Sr) (Frz.sub Sr) (Frz.sub (Sub.bool hno.symm)) Sr
  try simp only [NF] at h22
  refine av (ah (Zm (Zm (Zm (Zs (ae (i := (nth cols i).toNat) underlying28 eS Sr Sr zG (gb zG)) ?_)))))
  refine Zl eS Sr ?_
  refine Zs (aB (ys := [_]) underlying28 rZ ⟨rfl, Sr, trivial⟩ rfl (by decide)) ?_
  refine Zx (aH underlying28 rZ Sr Sr zS (by simp; omega) (by simp; omega)) fun v29 => ?_
  refine Za (ab (ah (Zs (ax Sr Sr z6) (Zm (ab ?_)))))
  refine ay (σ := Nat × Value) (s := (i, v)) (i + 1, v29) zO ?_ (zU) (.c zS (SPs.of (A := own 64 bu v29 (jd l (cols.take i) ++ [nth l (nth cols i).toNat])) (by rw [di hlt]; simp [jd])) (LSub.nil))
  refine ⟨by omega, fun k hk => ?_⟩
  by_cases e : k = i
  ·
   subst e; simp; omega
  exact hv k zG
 try simp only [NF] at h12
 obtain rfl : i = cols.length := by omega
 have hok : dX l.length cols = true := l4 hv
 refine aV (Jr (Zm (Za (Za (ab ?_)))))
 refine aC ?_
 have hpm : eE l cols = jd l cols := by rw [eE, if_pos hok]
 refine a7 (L' := [own 64 bu v (eE l cols)]) (.c zS (SPs.of (A := own 64 bu v (jd l (cols.take cols.length))) (by rw [hpm, List.take_length])) (LSub.nil)) ?_
 refine bI (rv := .tmp 4) (rv' := .tmp 5) rfl v (FN _) (.tmp Sr) (.tmp Sr) (Frz.sub Sr) (Frz.sub (Sub.bool hok.symm)) Sr
theorem qi (x : GSide) (n : Int) : Fun1 prog 161 [p9.ty x, tV (.int .i64 n)] (tV (.bool (iN x n))) := by
 refine Spec.enter func161 rfl rfl fun h0 w0 fr0 => ?_
 refine Jr (Zs (aF (R := p9) Sr) (Za (ab (ap (Jr ?_)))))
 refine Zs (aa nk Sr rfl) (Zl ty3 Sr (Zs (aJ Sr Sr) (ab ?_)))
 refine am Sr (fun h7 => ?_) (fun h7 => ?_)
 ·
  try simp only [NF] at h7
  refine Jr (Zs (aa nk Sr rfl) (Zl ty3 Sr (Zs (aJ Sr Sr) (Zm ?_))))
  refine Zk (aa nk Sr rfl) ?_
  refine Zg (fun hw => ad bZ (Sub.w hw)) (Zg (fun hw => aj (eU _) ⟨(Sub.w hw), trivial⟩ call48) (Zs (aw Sr Sr) (Za (ab (aC ?_)))))
  refine aI (t := 4) rfl () ?_
  refine Sub.bool ?_
  simp [iN, h7]
 try simp only [NF] at h7
 refine av (Jr (Zs (aa nk Sr rfl) (Zl ty3 Sr (Zs (aJ Sr Sr) (Zm ?_)))))
 refine Zk (aa nk Sr rfl) ?_
 refine Zg (fun hw => ad ty3 (Sub.w hw)) (Zg (fun hw => bA (Sub.w hw) Sr) (Zs (aw Sr Sr) (Zm ?_)))
 refine Zk (aa nk Sr rfl) ?_
 refine Zg (fun hw => ad ty3 (Sub.w hw)) ?_
 refine Zk (ar Sr) ?_
 refine Zg (fun hw => az (Sub.w hw) (Sub.w hw)) (Zs (aw Sr Sr) (Zm ?_))
 refine Zk (aa nk Sr rfl) ?_
 refine Zg (fun hw => ad bZ (Sub.w hw)) ?_
 refine Zk (aP (x := (⟨0, 0, ⟨#[]⟩⟩ : GValue)) (zs := [[Value.int .i64 0], [Value.int .i64 0], [Value.string ⟨#[]⟩]]) fp (fun w => zeroValue62 w) trivial ⟨fun _ => rfl, fun _ => rfl, fun _ => rfl, trivial⟩) ?_
 refine Zg (fun hw => k6 (Sub.w hw) (Sub.w hw)) (Zs (aw Sr Sr) (Za (ab (aC ?_))))
 refine aI (t := 4) rfl () ?_
 refine Sub.bool ?_
 simp [iN, h7]
theorem u6 (t : GTest) (n : Int) : Fun1 prog 117 [dV.ty t, tV (.int .i64 n)] (tV (.bool (dY t n))) := by
 refine Spec.enter func117 rfl rfl fun h0 w0 fr0 => ?_
 refine Jr (Zs (aF (R := dV) Sr) (Za (ab (Jr (Zs (aa lU Sr rfl) ?_)))))
 refine Zl ty3 Sr (Zs (bA Sr Sr) (Zm ?_))
 refine Zk (aa lU Sr rfl) ?_
 refine Zg (fun hw => ad ty3 (Sub.w hw)) (Zg (fun hw => bS (Sub.w hw) Sr) (Zs (aw Sr Sr) (Zm ?_)))
 refine Zk (aa lU Sr rfl) ?_
 refine Zg (fun hw => ad A1 (Sub.w hw)) ?_
 refine Zk (ar Sr) ?_
 refine Zg (fun hw => aj (qi _ _) ⟨(Sub.w hw), (Sub.w hw), trivial⟩ call161) (Zs (aw Sr Sr) (Zm ?_))
 refine Zk (aa lU Sr rfl) ?_
 refine Zg (fun hw => ad A1 (Sub.w hw)) ?_
 refine Zk (ar Sr) ?_
 refine Zg (fun hw => aj (qi _ _) ⟨(Sub.w hw), (Sub.w hw), trivial⟩ call161) (Zs (aw Sr Sr) (Zm ?_))
 refine Zk (aa lU Sr rfl) ?_
 refine Zg (fun hw => aa nk (Sub.w hw) rfl) (Zg (fun hw => ad ty3 (Sub.w hw)) (Zg (fun hw => aJ (Sub.w hw) Sr) (Zg (fun hw => ar (Sub.w hw)) ?_)))
 refine Ji rfl Sr rfl (aa lU Sr rfl) ?_
 refine Jh rfl Sr rfl (fun hw => aa nk (Sub.w hw) rfl) (Jh rfl Sr rfl (fun hw => ad ty3 (Sub.w hw)) (Jh rfl Sr rfl (fun hw => aJ (Sub.w hw) Sr) (Zg (fun hw => aD (Sub.w hw) (Gw hw)) (Zs (aw Sr Sr) (Za ?_)))))
 refine ab (aC ?_)
 exact aI (t := 4) rfl () Sr
theorem w8 (t : GTest) (kid : List GAttr) : Fun1 prog 116 [dV.ty t, bx (rSl bu) kid] (tV (.bool (!dY t kid.length))) := by
 refine Spec.enter func116 rfl rfl fun h0 w0 fr0 => ?_
 refine Jr (Zs (aF (R := dV) Sr) (Za (ab (Jr (Zl zd Sr ?_)))))
 refine Zl eP Sr (Zs (ag underlying28 Sr) (Zs (aj (u6 _ _) ⟨Sr, Sr, trivial⟩ call117) (Zs (bc Sr) (Za (ab ?_)))))
 refine aC ?_
 exact aI (t := 3) rfl () Sr
theorem Gs {α : Type} {R : Rp α} {xs ys : List α} {a b : Bool} (h1 : xs = ys) (h2 : a = b) : Sub (fW [tSl R xs, tV (.bool a)]) (fW [tSl R ys, tV (.bool b)]) := by subst h1 h2; exact Sr
theorem qj (l : List GAttr) (cols : List Int) : (eE l cols).length <= cols.length := by unfold eE; split <;> simp [jd]
theorem jI {n : Nat} {xs : List aQ} {h : PH} {v : Value} (hp : 0 < xs.length) (hv : (tSl (aX n) xs).p h v) : ∃ m, n = m + 1 := by
  obtain ⟨ao, cap, e, H⟩ := hv
  obtain ⟨b, off, ea, H2⟩ := H (by intro q; subst q; simp at hp)
  obtain ⟨cs, _, r⟩ := H2 0 (xs[0]) (List.getElem?_eq_getElem hp)
  exact rPl_pos cPl bu dV r
theorem iD {n : Nat} {p : Gplan} {h : PH} {v : Value} (hp : 0 < p.Plan.Kids.length) (hv : ((gA n).ty p).p h v) : ∃ m, n = m + 1 := by
  obtain ⟨cs, r, _⟩ := hv
  obtain ⟨c0, _, rfl, r0, _⟩ := r
  obtain ⟨d0, _, rfl, _, d1, _, rfl, _, d2, _, rfl, r2, _⟩ := (show SF.rel h p.Plan (fsPl cPl bu dV (aX n)) c0 from r0)
  obtain ⟨u, _, hu⟩ := r2
  exact jI hp hu
theorem qk (n : Nat) (p : Gplan) (hz : SchSz p.schema) (hl : p.Plan.Attrs.length <= 1000000000) : Fun1 prog 64 [(gA n).ty p] (fW [tSl bu (if 0 <= p.Plan.Table /\ p.Plan.Table < p.schema.Tables.length then iW (nth p.schema.Tables p.Plan.Table.toNat) p.Plan.Attrs else []), tV (.bool (decide (0 <= p.Plan.Table /\ p.Plan.Table < p.schema.Tables.length)))]) := by
 refine Spec.enter func64 rfl rfl fun h0 w0 fr0 => ?_
 refine Jr (Zs (aF (R := (gA n)) Sr) (Za (Za (ab (ap ?_)))))
 refine Jr (Zs (aa cW Sr rfl) (Zs (aa cq Sr rfl) (Zl ty3 Sr (Zs (az Sr Sr) (Zm ?_)))))
 refine Zk (aa cW Sr rfl) ?_
 refine Zg (fun hw => aa cq (Sub.w hw) rfl) (Zg (fun hw => ad ty3 (Sub.w hw)) ?_)
 refine Zk (aa cW Sr rfl) ?_
 refine Zg (fun hw => aa qb (Sub.w hw) rfl) (Zg (fun hw => ad qa (Sub.w hw)) (Zg (fun hw => ag underlying22 (Sub.w hw)) (Zg (fun hw => bA (Sub.w hw) (Sub.w hw)) (Zs (aD Sr Sr) (ab ?_)))))
 refine am Sr (fun h20 => ?_) (fun h20 => ?_)
 ·
  try simp only [NF] at h20
  refine Jr (Za (Za (ab (aC ?_))))
  refine bI (rv := .tmp 2) (rv' := .tmp 3) rfl () (Sel.all _) (.tmp Sr) (.tmp Sr) (B := tSl bu []) (B' := tV (.bool false)) (Frz.sub F6) (Frz.sub Sr) ?_
  rw [if_neg zG, decide_eq_false zG]
  exact Sr
 try simp only [NF] at h20
 have hin : 0 <= p.Plan.Table /\ p.Plan.Table < p.schema.Tables.length := by omega
 have hT := hz.tab _ (nth_mem (l := p.schema.Tables) (i := p.Plan.Table.toNat) zG)
 have hTl := hT.at'
 refine av (Jr (Zs (aa cW Sr rfl) (Zs (aa qb Sr rfl) (Zl qa Sr (Zs (aa cW Sr rfl) ?_)))))
 refine Zs (aa cq Sr rfl) (Zl ty3 Sr ?_)
 refine Zs (ae (i := p.Plan.Table.toNat) underlying22 nl Sr Sr (by show p.Plan.Table = _; omega) (gb (by show p.Plan.Table.toNat < p.schema.Tables.length; omega))) ?_
 refine Zl nl Sr ?_
 refine Zx (aE (fun w => zeroValue77 w) D0) fun v4 => ?_
 refine Ju (ai nl Sr Sr zS) fun _ => ?_
 refine aN (t := 4) (Sel.take (FN _)) Frz.box ?_
 refine ab (Jr (Zs (aa jC Sr rfl) (Zl eP Sr ?_)))
 refine Zx (aR (FN _) (je _ hTl) ⟨Sr, trivial⟩ call113) fun v31 => ?_
 refine Za (ab (ap (Jr (Zm ?_))))
 refine Zs (bC underlying28 Sr zS) ?_
 refine Zs (aa cW Sr rfl) (Zs (aa cq Sr rfl) (Zl eP Sr (Zs (ag underlying28 Sr) (Zs (zr Sr Sr) (Zm ?_)))))
 refine ab (au ?_)
 refine aK (σ := Nat) (fun i => i <= (nth p.schema.Tables p.Plan.Table.toNat).Attrs.length /\ i <= p.Plan.Attrs.length) (fun i => upd (upd (upd (upd (upd (upd (upd co 1 (bx (gA n) p)) 2 (tV (.slice none 0 0))) 3 (tV (.bool false))) 4 (bx cS (nth p.schema.Tables p.Plan.Table.toNat))) 5 (rV.ty v31)) 38 (tV (.int .i64 (if (p.Plan.Attrs.length : Int) < ((nth p.schema.Tables p.Plan.Table.toNat).Attrs.length : Int) then (p.Plan.Attrs.length : Int) else ((nth p.schema.Tables p.Plan.Table.toNat).Attrs.length : Int))))) 39 (tV (.int .i64 i))) (fun i => [own 64 bu v31 (lm (nth p.schema.Tables p.Plan.Table.toNat) p.Plan.Attrs i)]) (fun i => (nth p.schema.Tables p.Plan.Table.toNat).Attrs.length - i) 0 ⟨by omega, by omega⟩ (zU) (.c zS (SPs.of (A := own 64 bu v31 (nth p.schema.Tables p.Plan.Table.toNat).Attrs) (by rw [Fo])) (LSub.nil)) ?_
 rintro i ⟨hi, hi2⟩
 refine Jr (Zs (az Sr Sr) (ab (ap ?_)))
 refine am Sr (fun h40 => ?_) (fun h40 => ?_)
 ·
  try simp only [NF] at h40
  have hlt : i < (nth p.schema.Tables p.Plan.Table.toNat).Attrs.length /\ i < p.Plan.Attrs.length := by split at h40 <;> omega
  have hlt1 := hlt.1
  have hlt2 := hlt.2
  refine av (ap (au (Jr (Zm (Za ?_)))))
  refine ab (ap ?_)
  refine bQ [⟨0, [4], true⟩, ⟨1, [1], true⟩, ⟨2, [43], true⟩, ⟨3, [44], true⟩, ⟨4, [6], true⟩, ⟨5, [45, 46], true⟩, ⟨6, [47], true⟩, ⟨7, [48], true⟩, ⟨8, [42, 49], true⟩, ⟨9, [6], true⟩, ⟨10, [50, 51], true⟩] rfl (by kernel_rfl) ?_
  refine Zf rfl (ad nl Sr) (Zf rfl (aa cW Sr rfl) (Zf rfl (aa cq Sr rfl) (Zf rfl (ad eP Sr) (Zv rfl ?_))))
  refine Zf rfl (ae (i := i) underlying28 eS Sr Sr (by rfl) (gb (by exact hlt2))) ?_
  refine Zf rfl (aa gV Sr rfl) (Zf rfl (ad ty9 Sr) ?_)
  refine Zf rfl (aj (sh _ _ zG (fun a ha => Nat.le_trans (hT.was a ha) (by decide))) ⟨Sr, Sr, trivial⟩ call114) ?_
  refine Zv rfl (Zf rfl (aJ Sr Sr) (bP ?_))
  refine am Sr (fun h52 => ?_) (fun h52 => ?_)
  ·
   try simp only [NF] at h52
   refine ah (Zm (Zm (Zs (aa cW Sr rfl) (Zs (aa cq Sr rfl) (Zl eP Sr ?_)))))
   refine Zm ?_
   refine Zs (ae (i := i) underlying28 eS Sr Sr (by rfl) (gb (by exact hlt2))) ?_
   refine Zs (aa gV Sr rfl) (Zl ty9 Sr ?_)
   refine Zs (aG (i := i) underlying28 eS Sr zS Sr (by rfl) (by show i < (lm _ _ _).length; rw [dZ]; exact hlt1)) ?_
   refine Zs (bv (i := i) gV Sr rfl zS (by show i < (lm _ _ _).length; rw [dZ]; exact hlt1)) ?_
   refine Ju (bW (i := i) (y := nth (lm (nth p.schema.Tables p.Plan.Table.toNat) p.Plan.Attrs i) i) (y' := { nth (lm (nth p.schema.Tables p.Plan.Table.toNat) p.Plan.Attrs i) i with Name := (nth p.Plan.Attrs i).Name }) ty9 Sr Sr zS (gb (by rw [dZ]; exact hlt1)) ⟨fun _ _ q => q, rfl, by intro g hg; simp only [List.mem_cons, List.not_mem_nil, or_false] at hg; rcases hg with rfl | rfl | rfl <;> rfl⟩) fun _ => ?_
   refine ab (ah (Zs (ax Sr Sr z6) (Zm (ab ?_))))
   refine ay (σ := Nat) (s := i) (i + 1) zO ⟨by omega, by omega⟩ (zU) (.c zS (SPs.of (A := own 64 bu v31 ((lm (nth p.schema.Tables p.Plan.Table.toNat) p.Plan.Attrs i).set i { nth (lm (nth p.schema.Tables p.Plan.Table.toNat) p.Plan.Attrs i) i with Name := (nth p.Plan.Attrs i).Name })) (by rw [BO hlt1 hlt2 h52])) (LSub.nil))
  try simp only [NF] at h52
  refine av (ah (Zs (ax Sr Sr z6) (Zm (ab ?_))))
  refine ay (σ := Nat) (s := i) (i + 1) zO ⟨by omega, by omega⟩ (zU) (.c zS (SPs.of (A := own 64 bu v31 (lm (nth p.schema.Tables p.Plan.Table.toNat) p.Plan.Attrs i)) (by rw [zF hlt1 h52])) (LSub.nil))
 try simp only [NF] at h40
 have hfull : lm (nth p.schema.Tables p.Plan.Table.toNat) p.Plan.Attrs i = iW (nth p.schema.Tables p.Plan.Table.toNat) p.Plan.Attrs := zE (by split at h40 <;> omega)
 refine aV (Jr (Zm (Za (Za (ab ?_)))))
 refine aC ?_
 refine bI (rv := .tmp 2) (rv' := .tmp 3) rfl () (Sel.all _) (.tmp Sr) (.tmp Sr) (B := tSl bu (lm (nth p.schema.Tables p.Plan.Table.toNat) p.Plan.Attrs i)) (B' := tV (.bool true)) (Frz.own) (Frz.sub Sr) ?_
 rw [if_pos hin, decide_eq_true hin, hfull]
 exact Sr
theorem u7 (n : Nat) (p : Gplan) (hk0 : 0 < p.Plan.Kids.length) (hl : p.Plan.Tests.length <= 1000000000) : Fun1 prog 67 [(gA n).ty p] (fW [tSl bu (nth p.Plan.Kids 0).Attrs, tV (.bool (decide (0 < (p.Plan.Tests.length : Int)) && !(p.Plan.Tests.any fun t => !dY t (nth p.Plan.Kids 0).Attrs.length)))]) := by
 refine Spec.enter func67 rfl rfl fun h0 w0 fr0 => ?_
 refine fF 0 (fun _ _ r => iD hk0 r) fun hm => ?_
 obtain ⟨n, rfl⟩ := hm
 refine Jr (Zs (aF (R := (gA (n + 1))) Sr) (Za (Za (ab (Jr ?_)))))
 refine Zs (aa cW Sr rfl) (Zs (aa cq Sr rfl) (Zl lW Sr ?_))
 refine Zs (ae (i := 0) underlying25 da Sr Sr (by rfl) (gb (by exact hk0))) ?_
 refine Zs (aa cq Sr rfl) (Zl eP Sr ?_)
 refine Zx (aE (fun w => zeroValue28 w) Fi) fun v4 => ?_
 refine Ju (ai eP Sr Sr zS) fun _ => ?_
 refine aN (t := 4) (Sel.take (FN _)) Frz.box ?_
 refine ab (ap ?_)
 refine bQ [⟨0, [4], true⟩, ⟨1, [1], true⟩, ⟨2, [12], true⟩, ⟨3, [13], true⟩, ⟨4, [14], true⟩, ⟨5, [15], true⟩, ⟨6, [16], true⟩, ⟨7, [1, 17], true⟩, ⟨8, [17, 18], true⟩, ⟨9, [17, 19], true⟩, ⟨10, [4, 17], true⟩, ⟨11, [17, 20, 21], true⟩, ⟨12, [17, 22], true⟩, ⟨13, [17, 23], true⟩, ⟨14, [11], true⟩, ⟨15, [24], true⟩] rfl (by kernel_rfl) ?_
 refine Zf rfl (ad eP Sr) (Zf rfl (aa cW Sr rfl) (Zf rfl (aa cq Sr rfl) (Zf rfl (ad ze Sr) (Zf rfl (ag underlying26 Sr) (Zf rfl (bj Sr Sr) ?_)))))
 refine Zv rfl ?_
 refine Mk rfl rfl Sr rfl (aa cW Sr rfl) ?_
 refine Mg rfl rfl Sr rfl (fun hw => aa cq (Sub.w hw) rfl) (Mg rfl rfl Sr rfl (fun hw => ad ze (Sub.w hw)) ?_)
 refine Mk rfl rfl Sr rfl (bl (As := [_]) ⟨Sr, trivial⟩) ?_
 refine Mg rfl rfl Sr rfl (fun hw => aj (fD p.Plan.Tests zG 116 [bx (rSl bu) (nth p.Plan.Kids 0).Attrs] (fun t => !dY t (nth p.Plan.Kids 0).Attrs.length) (fun x _ => w8 x _) call116) ⟨(Sub.w hw), (Sub.w hw), trivial⟩ call115) (Mg rfl rfl Sr rfl (fun hw => bc (Sub.w hw)) (Zf rfl (aw Sr Sr) (Zf rfl (bd Sr) (Zf rfl (bd Sr) (bP ?_)))))
 refine aC ?_
 refine bI (rv := .tmp 2) (rv' := .tmp 3) rfl () (Sel.all _) (.tmp Sr) (.tmp Sr) (Frz.sub Sr) (Frz.sub Sr) Sr
theorem sj (n : Nat) (p : Gplan) (hk0 : 0 < p.Plan.Kids.length) (hl : p.Plan.Cols.length <= 1000000000) : Fun1 prog 70 [(gA n).ty p] (fW [tSl bu (eE (nth p.Plan.Kids 0).Attrs p.Plan.Cols), tV (.bool (dX (nth p.Plan.Kids 0).Attrs.length p.Plan.Cols))]) := by
 refine Spec.enter func70 rfl rfl fun h0 w0 fr0 => ?_
 refine fF 0 (fun _ _ r => iD hk0 r) fun hm => ?_
 obtain ⟨n, rfl⟩ := hm
 refine Jr (Zs (aF (R := (gA (n + 1))) Sr) (Za (Za (ab (ap ?_)))))
 refine bQ [⟨0, [1], true⟩, ⟨1, [4], true⟩, ⟨2, [5], true⟩, ⟨3, [6], true⟩, ⟨4, [7], true⟩, ⟨5, [8], true⟩, ⟨6, [1], true⟩, ⟨7, [10], true⟩, ⟨8, [11], true⟩, ⟨9, [9, 12], false⟩, ⟨10, [13], true⟩, ⟨11, [13], true⟩, ⟨12, [14], true⟩, ⟨13, [15], true⟩] rfl (by kernel_rfl) ?_
 refine Zf rfl (aa cW Sr rfl) (Zf rfl (aa cq Sr rfl) (Zf rfl (ad lW Sr) ?_))
 refine Zf rfl (ae (i := 0) underlying25 da Sr Sr (by rfl) (gb (by exact hk0))) ?_
 refine Zf rfl (aa cq Sr rfl) (Zf rfl (ad eP Sr) (Zf rfl (aa cW Sr rfl) (Zf rfl (aa cq Sr rfl) (Zf rfl (ad dn Sr) ?_))))
 refine cN rfl rfl rfl rfl (aR (FN _) (nW _ _ hl) ⟨Sr, Sr, trivial⟩ call122) fun v13 => ?_
 refine Zf rfl (aL Sr rfl) (Zf rfl (aL Sr rfl) (Zf rfl (bd Sr) (Zf rfl (bd Sr) (bP (aC ?_)))))
 refine bI (rv := .tmp 2) (rv' := .tmp 3) rfl () (Sel.all _) (.tmp Sr) (.tmp Sr) (Frz.own) (Frz.sub Sr) Sr
theorem sk (n : Nat) (p : Gplan) (hk1 : 1 < p.Plan.Kids.length) (hl0 : (nth p.Plan.Kids 0).Attrs.length <= 100000000) (hl1 : (nth p.Plan.Kids 1).Attrs.length <= 100000000) : Fun1 prog 72 [(gA n).ty p] (fW [tSl bu (if iX (nth p.Plan.Kids 0).Attrs (nth p.Plan.Kids 1).Attrs = true then dv (nth p.Plan.Kids 0).Attrs (nth p.Plan.Kids 1).Attrs else []), tV (.bool (iX (nth p.Plan.Kids 0).Attrs (nth p.Plan.Kids 1).Attrs))]) := by
 refine Spec.enter func72 rfl rfl fun h0 w0 fr0 => ?_
 have hk0 : 0 < p.Plan.Kids.length := by omega
 refine fF 0 (fun _ _ r => iD hk0 r) fun hm => ?_
 obtain ⟨n, rfl⟩ := hm
 refine Jr (Zs (aF (R := (gA (n + 1))) Sr) (Za (Za (ab (Jr ?_)))))
 refine Zs (aa cW Sr rfl) (Zs (aa cq Sr rfl) (Zl lW Sr ?_))
 refine Zs (ae (i := 0) underlying25 da Sr Sr (by rfl) (gb (by exact hk0))) ?_
 refine Zs (aa cq Sr rfl) (Zl eP Sr ?_)
 refine Zx (aR (FN _) (je _ (by show (nth p.Plan.Kids 0).Attrs.length <= _; omega)) ⟨Sr, trivial⟩ call113) fun v14 => ?_
 refine Za (ab (ap (Jr (Zs (aa cW Sr rfl) (Zs (aa cq Sr rfl) ?_)))))
 refine Zl lW Sr ?_
 refine Zs (ae (i := 1) underlying25 da Sr Sr (by rfl) (gb (by exact hk1))) ?_
 refine Zs (aa cq Sr rfl) (Zl eP Sr (Zs (ag underlying28 Sr) (Zm (ab (au ?_)))))
 refine aK (σ := Nat × Value) (fun ⟨i, v⟩ => i <= (nth p.Plan.Kids 1).Attrs.length /\ ∀ k, k < i -> (decide (aM (nth p.Plan.Kids 0).Attrs (nth (nth p.Plan.Kids 1).Attrs k).Name < 0) || decide ((nth (nth p.Plan.Kids 0).Attrs (aM (nth p.Plan.Kids 0).Attrs (nth (nth p.Plan.Kids 1).Attrs k).Name).toNat).Kind = (nth (nth p.Plan.Kids 1).Attrs k).Kind)) = true) (fun ⟨i, v⟩ => upd (upd (upd (upd (upd co 1 (bx (gA (n + 1)) p)) 4 (rV.ty v)) 20 (tSl bu (nth p.Plan.Kids 1).Attrs)) 21 (tV (.int .i64 (nth p.Plan.Kids 1).Attrs.length))) 22 (tV (.int .i64 i))) (fun ⟨i, v⟩ => [own 64 bu v (dv (nth p.Plan.Kids 0).Attrs ((nth p.Plan.Kids 1).Attrs.take i))]) (fun ⟨i, v⟩ => (nth p.Plan.Kids 1).Attrs.length - i) (0, v14) ⟨by omega, fun k hk => by omega⟩ (zU) (.c zS (SPs.of (A := own 64 bu v14 (nth p.Plan.Kids 0).Attrs) (by rw [List.take_zero]; simp [dv])) (LSub.nil)) ?_
 rintro ⟨i, v⟩ ⟨hi, hv⟩
 refine Jr (Zs (az Sr Sr) (ab (ap ?_)))
 refine am Sr (fun h23 => ?_) (fun h23 => ?_)
 ·
  try simp only [NF] at h23
  have hlt : i < (nth p.Plan.Kids 1).Attrs.length := by omega
  have hcl := tH (nth p.Plan.Kids 0).Attrs (nth (nth p.Plan.Kids 1).Attrs i).Name
  have hjl := qh (nth p.Plan.Kids 0).Attrs ((nth p.Plan.Kids 1).Attrs.take i)
  rw [List.length_take] at hjl
  have hsn := w7 (a := (nth p.Plan.Kids 0).Attrs) (l := (nth p.Plan.Kids 1).Attrs.take i) (x := nth (nth p.Plan.Kids 1).Attrs i)
  rw [<- di hlt] at hsn
  refine av (ap (au (Jr ?_)))
  refine Zs (ae  underlying28 eS Sr Sr rfl (gb (by exact hlt))) ?_
  refine Zl eS Sr ?_
  refine Zx (aE (fun w => zeroValue64 w) zx) fun v6 => ?_
  refine Ju (ai eS Sr Sr zS) fun _ => ?_
  refine aN (t := 6) (Sel.take (FN _)) Frz.box ?_
  refine ab (ap ?_)
  refine bQ [⟨0, [1], true⟩, ⟨1, [26], true⟩, ⟨2, [27], true⟩, ⟨3, [28], true⟩, ⟨4, [29], true⟩, ⟨5, [30], true⟩, ⟨6, [6], true⟩, ⟨7, [32], true⟩, ⟨8, [31, 33], true⟩, ⟨9, [34], true⟩] rfl (by kernel_rfl) ?_
  refine Zf rfl (aa cW Sr rfl) (Zf rfl (aa cq Sr rfl) (Zf rfl (ad lW Sr) ?_))
  refine Zf rfl (ae (i := 0) underlying25 da Sr Sr (by rfl) (gb (by exact hk0))) ?_
  refine Zf rfl (aa cq Sr rfl) (Zf rfl (ad eP Sr) (Zf rfl (aa gV Sr rfl) (Zf rfl (ad ty9 Sr) ?_)))
  refine Zf rfl (aj (g8 _ _ (by show (nth p.Plan.Kids 0).Attrs.length <= _; omega)) ⟨Sr, Sr, trivial⟩ call102) ?_
  refine Zf rfl (bd Sr) (bP (au (Jr (Zm (Zs (az Sr Sr) ?_)))))
  refine Za (ab ?_)
  refine am Sr (fun h35 => ?_) (fun h35 => ?_)
  ·
   try simp only [NF] at h35
   refine ah (Zm (Zl eS Sr ?_))
   refine Zs (aB (ys := [_]) underlying28 rZ ⟨rfl, Sr, trivial⟩ rfl (by decide)) ?_
   refine Zx (aH underlying28 rZ Sr Sr zS (by simp; omega) (by simp; omega)) fun v41 => ?_
   refine Za (ab (ah (Zs (ax Sr Sr z6) (Zm (ab ?_)))))
   refine ay (σ := Nat × Value) (s := (i, v)) (i + 1, v41) zO ?_ (zU) (.c zS (SPs.of (A := own 64 bu v41 ((dv (nth p.Plan.Kids 0).Attrs ((nth p.Plan.Kids 1).Attrs.take i)) ++ [nth (nth p.Plan.Kids 1).Attrs i])) (by rw [hsn, if_pos h35])) (LSub.nil))
   refine ⟨by omega, fun k hk => ?_⟩
   by_cases e : k = i
   ·
    subst e; simp [h35]
   exact hv k zG
  try simp only [NF] at h35
  have hjn : nth (dv (nth p.Plan.Kids 0).Attrs ((nth p.Plan.Kids 1).Attrs.take i)) (aM (nth p.Plan.Kids 0).Attrs (nth (nth p.Plan.Kids 1).Attrs i).Name).toNat = nth (nth p.Plan.Kids 0).Attrs (aM (nth p.Plan.Kids 0).Attrs (nth (nth p.Plan.Kids 1).Attrs i).Name).toNat := zH zG
  refine ap ?_
  refine bQ [⟨0, [4], true⟩, ⟨1, [7], true⟩, ⟨5, [6], true⟩, ⟨6, [48], true⟩, ⟨2, [43, 44], false⟩, ⟨3, [45], false⟩, ⟨4, [46], false⟩, ⟨7, [47, 49], true⟩, ⟨8, [50], true⟩] rfl (by kernel_rfl) ?_
  refine Zv rfl (Zv rfl (Zf rfl (aa gV Sr rfl) (Zf rfl (ad ty3 Sr) ?_)))
  refine e8 rfl rfl rfl rfl (aG (i := (aM (nth p.Plan.Kids 0).Attrs (nth (nth p.Plan.Kids 1).Attrs i).Name).toNat) underlying28 eS Sr zS Sr (by show aM (nth p.Plan.Kids 0).Attrs (nth (nth p.Plan.Kids 1).Attrs i).Name = _; omega) (by show _ < (dv _ _).length; unfold dv; rw [List.length_append]; omega)) ?_
  refine e8 rfl rfl rfl rfl (bv (i := (aM (nth p.Plan.Kids 0).Attrs (nth (nth p.Plan.Kids 1).Attrs i).Name).toNat) gV Sr rfl zS (by show _ < (dv _ _).length; unfold dv; rw [List.length_append]; omega)) ?_
  refine e8 rfl rfl rfl rfl (ek (i := (aM (nth p.Plan.Kids 0).Attrs (nth (nth p.Plan.Kids 1).Attrs i).Name).toNat) (f := ⟨Int, 3, aO, GAttr.Kind⟩) ty3 Sr rfl zS (gb (by unfold dv; rw [List.length_append]; omega))) ?_
  refine Zf rfl (be Sr Sr) (Zf rfl (bd Sr) (bP ?_))
  refine am Sr (fun h42 => ?_) (fun h42 => ?_)
  ·
   try simp only [NF] at h42
   refine Jr (Za (Za (ab (aC ?_))))
   refine bI (rv := .tmp 2) (rv' := .tmp 3) rfl () (Sel.all _) (.tmp Sr) (.tmp Sr) (B := tSl bu []) (B' := tV (.bool false)) (Frz.sub F6) (Frz.sub Sr) ?_
   have hno : iX (nth p.Plan.Kids 0).Attrs (nth p.Plan.Kids 1).Attrs = false := ll hlt (by rw [hjn] at h42; simp [h42]; omega)
   rw [if_neg (by rw [hno]; simp), hno]
   exact Sr
  try simp only [NF] at h42
  refine av (ah (Zs (ax Sr Sr z6) (Zm (ab ?_))))
  refine ay (σ := Nat × Value) (s := (i, v)) (i + 1, v) zO ?_ (zU) (.c zS (SPs.of (A := own 64 bu v (dv (nth p.Plan.Kids 0).Attrs ((nth p.Plan.Kids 1).Attrs.take i))) (by rw [hsn, if_neg zG])) (LSub.nil))
  refine ⟨by omega, fun k hk => ?_⟩
  by_cases e : k = i
  ·
   subst e; rw [hjn] at h42; simp [h42]
  exact hv k zG
 try simp only [NF] at h23
 obtain rfl : i = (nth p.Plan.Kids 1).Attrs.length := by omega
 have hok : iX (nth p.Plan.Kids 0).Attrs (nth p.Plan.Kids 1).Attrs = true := l4 hv
 refine a7 (L' := [own 64 bu v (dv (nth p.Plan.Kids 0).Attrs (nth p.Plan.Kids 1).Attrs)]) (.c zS (SPs.of (A := own 64 bu v (dv (nth p.Plan.Kids 0).Attrs ((nth p.Plan.Kids 1).Attrs.take (nth p.Plan.Kids 1).Attrs.length))) (by rw [List.take_length])) (LSub.nil)) ?_
 refine aV (Jr (Zm (Za (Za (ab ?_)))))
 refine aC ?_
 refine bI (rv := .tmp 2) (rv' := .tmp 3) rfl () (Sel.all _) (.tmp Sr) (.tmp Sr) (B := tSl bu (dv (nth p.Plan.Kids 0).Attrs (nth p.Plan.Kids 1).Attrs)) (B' := tV (.bool true)) (Frz.own) (Frz.sub Sr) ?_
 rw [if_pos hok, hok]
 exact Sr
theorem mg (n : Nat) (p : Gplan) (hk1 : 1 < p.Plan.Kids.length) (hl0 : (nth p.Plan.Kids 0).Attrs.length <= 100000000) : Fun1 prog 74 [(gA n).ty p] (fW [tSl bu (nth p.Plan.Kids 0).Attrs, tV (.bool (jG (nth p.Plan.Kids 0).Attrs (nth p.Plan.Kids 1).Attrs))]) := by
 refine Spec.enter func74 rfl rfl fun h0 w0 fr0 => ?_
 have hk0 : 0 < p.Plan.Kids.length := by omega
 refine fF 0 (fun _ _ r => iD hk0 r) fun hm => ?_
 obtain ⟨n, rfl⟩ := hm
 refine Jr (Zs (aF (R := (gA (n + 1))) Sr) (Za (Za (ab (ap ?_)))))
 refine bQ [⟨0, [1], true⟩, ⟨1, [4], true⟩, ⟨2, [5], true⟩, ⟨3, [6], true⟩, ⟨4, [7], true⟩, ⟨5, [8], true⟩, ⟨6, [1], true⟩, ⟨7, [10], true⟩, ⟨8, [11], true⟩, ⟨9, [12], true⟩, ⟨10, [13], true⟩, ⟨11, [14], true⟩, ⟨12, [1], true⟩, ⟨13, [16], true⟩, ⟨14, [17], true⟩, ⟨15, [18], true⟩, ⟨16, [19], true⟩, ⟨17, [20], true⟩, ⟨18, [15, 21], true⟩, ⟨19, [9], true⟩, ⟨20, [22], true⟩] rfl (by kernel_rfl) ?_
 refine Zf rfl (aa cW Sr rfl) (Zf rfl (aa cq Sr rfl) (Zf rfl (ad lW Sr) ?_))
 refine Zf rfl (ae (i := 0) underlying25 da Sr Sr (by rfl) (gb (by exact hk0))) ?_
 refine Zf rfl (aa cq Sr rfl) (Zf rfl (ad eP Sr) (Zf rfl (aa cW Sr rfl) (Zf rfl (aa cq Sr rfl) (Zf rfl (ad lW Sr) ?_))))
 refine Zf rfl (ae (i := 0) underlying25 da Sr Sr (by rfl) (gb (by exact hk0))) ?_
 refine Zf rfl (aa cq Sr rfl) (Zf rfl (ad eP Sr) (Zf rfl (aa cW Sr rfl) (Zf rfl (aa cq Sr rfl) (Zf rfl (ad lW Sr) ?_))))
 refine Zf rfl (ae (i := 1) underlying25 da Sr Sr (by rfl) (gb (by exact hk1))) ?_
 refine Zf rfl (aa cq Sr rfl) (Zf rfl (ad eP Sr) ?_)
 refine Zf rfl (aj (nV _ _ (by show (nth p.Plan.Kids 0).Attrs.length <= _; omega)) ⟨Sr, Sr, trivial⟩ call103) ?_
 refine Zf rfl (bd Sr) (Zf rfl (bd Sr) (bP (aC ?_)))
 refine bI (rv := .tmp 2) (rv' := .tmp 3) rfl () (Sel.all _) (.tmp Sr) (.tmp Sr) (Frz.sub Sr) (Frz.sub Sr) Sr
theorem vd (n : Nat) (p : Gplan) (hk0 : 0 < p.Plan.Kids.length) (hl0 : (nth p.Plan.Kids 0).Attrs.length <= 100000000) : Fun1 prog 77 [(gA n).ty p] (fW [tSl bu (if ln p.Plan = true then zD p.Plan else []), tV (.bool (ln p.Plan))]) := by
 refine Spec.enter func77 rfl rfl fun h0 w0 fr0 => ?_
 refine fF 0 (fun _ _ r => iD hk0 r) fun hm => ?_
 obtain ⟨n, rfl⟩ := hm
 refine Jr (Zs (aF (R := (gA (n + 1))) Sr) (Za (Za (ab (Jr ?_)))))
 refine Zs (aa cW Sr rfl) (Zs (aa cq Sr rfl) (Zl lW Sr ?_))
 refine Zs (ae (i := 0) underlying25 da Sr Sr (by rfl) (gb (by exact hk0))) ?_
 refine Zs (aa cq Sr rfl) (Zl eP Sr ?_)
 refine Zx (aR (FN _) (je _ (by show (nth p.Plan.Kids 0).Attrs.length <= _; omega)) ⟨Sr, trivial⟩ call113) fun v11 => ?_
 refine Za (ab (ap (Jr (Zs (aa cW Sr rfl) (Zs (aa cq Sr rfl) ?_)))))
 refine Zl ty3 Sr (Zs (az Sr Sr) (Zm ?_))
 refine Zk (aa cW Sr rfl) ?_
 refine Zg (fun hw => aa cq (Sub.w hw) rfl) (Zg (fun hw => ad ty3 (Sub.w hw)) ?_)
 refine Zk (ar Sr) ?_
 refine Zg (fun hw => bC underlying28 (Sub.w hw) zS) ?_
 refine Zg (fun hw => bA (Sub.w hw) (Sub.w hw)) (Zs (aD Sr Sr) (Zm ?_))
 refine Zk (aa cW Sr rfl) ?_
 refine Zg (fun hw => aa cq (Sub.w hw) rfl) (Zg (fun hw => ad eP (Sub.w hw)) (Zg (fun hw => ag underlying28 (Sub.w hw)) ?_))
 refine Zk (ar Sr) ?_
 refine Zg (fun hw => bC underlying28 (Sub.w hw) zS) ?_
 refine Zg (fun hw => be (Sub.w hw) (Sub.w hw)) (Zs (aD Sr Sr) (ab ?_))
 refine am Sr (fun h32 => ?_) (fun h32 => ?_)
 ·
  try simp only [NF] at h32
  refine Jr (Za (Za (ab (aC ?_))))
  refine bI (rv := .tmp 2) (rv' := .tmp 3) rfl () (Sel.all _) (.tmp Sr) (.tmp Sr) (B := tSl bu []) (B' := tV (.bool false)) (Frz.sub F6) (Frz.sub Sr) ?_
  have hno : ln p.Plan = false := by unfold ln; rw [decide_eq_false_iff_not]; omega
  rw [if_neg (by rw [hno]; simp), hno]
  exact Sr
 try simp only [NF] at h32
 have hok : ln p.Plan = true := by unfold ln; rw [decide_eq_true_eq]; omega
 have hr : 0 <= p.Plan.Col /\ p.Plan.Col < (nth p.Plan.Kids 0).Attrs.length /\ p.Plan.Attrs.length = (nth p.Plan.Kids 0).Attrs.length := by omega
 refine av (ap ?_)
 refine bQ [⟨0, [4], true⟩, ⟨1, [1], true⟩, ⟨2, [34], true⟩, ⟨3, [35], true⟩, ⟨4, [1], true⟩, ⟨5, [37], true⟩, ⟨6, [38], true⟩, ⟨7, [1], true⟩, ⟨8, [40], true⟩, ⟨9, [41], true⟩, ⟨10, [39, 42], true⟩, ⟨11, [43], true⟩, ⟨12, [44], true⟩, ⟨13, [33, 36], false⟩, ⟨14, [46], false⟩, ⟨15, [45, 47], false⟩] rfl (by kernel_rfl) ?_
 refine Zv rfl (Zf rfl (aa cW Sr rfl) (Zf rfl (aa cq Sr rfl) (Zf rfl (ad ty3 Sr) (Zf rfl (aa cW Sr rfl) (Zf rfl (aa cq Sr rfl) ?_)))))
 refine Zf rfl (ad eP Sr) (Zf rfl (aa cW Sr rfl) (Zf rfl (aa cq Sr rfl) (Zf rfl (ad ty3 Sr) ?_)))
 refine Zf rfl (ae (i := p.Plan.Col.toNat) underlying28 eS Sr Sr (by show p.Plan.Col = _; omega) (gb (by show p.Plan.Col.toNat < p.Plan.Attrs.length; omega))) ?_
 refine Zf rfl (aa gV Sr rfl) (Zf rfl (ad ty9 Sr) ?_)
 refine e8 rfl rfl rfl rfl (aG (i := p.Plan.Col.toNat) underlying28 eS Sr zS Sr (by show p.Plan.Col = _; omega) (by show _ < (nth p.Plan.Kids 0).Attrs.length; omega)) ?_
 refine e8 rfl rfl rfl rfl (bv (i := p.Plan.Col.toNat) gV Sr rfl zS (by show _ < (nth p.Plan.Kids 0).Attrs.length; omega)) ?_
 refine ju rfl rfl rfl (bW (i := p.Plan.Col.toNat) (y := nth (nth p.Plan.Kids 0).Attrs p.Plan.Col.toNat) (y' := { nth (nth p.Plan.Kids 0).Attrs p.Plan.Col.toNat with Name := (nth p.Plan.Attrs p.Plan.Col.toNat).Name }) ty9 Sr Sr zS (gb (by show _ < (nth p.Plan.Kids 0).Attrs.length; omega)) ⟨fun _ _ q => q, rfl, by intro g hg; simp only [List.mem_cons, List.not_mem_nil, or_false] at hg; rcases hg with rfl | rfl | rfl <;> rfl⟩) fun _ => ?_
 refine bP (Jr (Zm (Za (Za (ab ?_)))))
 refine aC ?_
 refine bI (rv := .tmp 2) (rv' := .tmp 3) rfl () (Sel.all _) (.tmp Sr) (.tmp Sr) (B := tSl bu (zD p.Plan)) (B' := tV (.bool true)) (Frz.own) (Frz.sub Sr) ?_
 rw [if_pos hok, hok]
 exact Sr
theorem ve (n : Nat) (p : Gplan) (hk0 : 0 < p.Plan.Kids.length) (hl0 : (nth p.Plan.Kids 0).Attrs.length <= 100000000) (hc : p.Plan.Cols.length <= 100000000) : Fun1 prog 80 [(gA n).ty p] (fW [tSl bu (if kw p.Plan = true then o3 p.Plan else []), tV (.bool (kw p.Plan && ly p.Plan))]) := by
 refine Spec.enter func80 rfl rfl fun h0 w0 fr0 => ?_
 refine fF 0 (fun _ _ r => iD hk0 r) fun hm => ?_
 obtain ⟨n, rfl⟩ := hm
 refine Jr (Zs (aF (R := (gA (n + 1))) Sr) (Za (Za (ab (Jr ?_)))))
 refine Zs (aa cW Sr rfl) (Zs (aa cq Sr rfl) (Zl lW Sr ?_))
 refine Zs (ae (i := 0) underlying25 da Sr Sr (by rfl) (gb (by exact hk0))) ?_
 refine Zs (aa cq Sr rfl) (Zl eP Sr (Za (ab (Jr (Zm ?_)))))
 refine Zs (aa cW Sr rfl) (Zs (aa cq Sr rfl) (Zl dn Sr ?_))
 refine Zx (aR (FN _) (nW _ _ (by show p.Plan.Cols.length <= _; omega)) ⟨Sr, Sr, trivial⟩ call122) fun v19 => ?_
 refine Zm (Zs (aL Sr rfl) (Zs (aL Sr rfl) (Za (Za (ab ?_)))))
 refine ap (Jr (Zm (Zs (bc Sr) (Zm ?_))))
 refine Zk (aa cW Sr rfl) ?_
 refine Zg (fun hw => aa cq (Sub.w hw) rfl) (Zg (fun hw => ad eP (Sub.w hw)) (Zg (fun hw => ag underlying28 (Sub.w hw)) ?_))
 refine Zk (ar Sr) ?_
 refine Zg (fun hw => bC underlying28 (Sub.w hw) zS) ?_
 refine Zg (fun hw => ax (Sub.w hw) Sr (by show iu (((eE (nth p.Plan.Kids 0).Attrs p.Plan.Cols).length : Int) + 1); have := qj (nth p.Plan.Kids 0).Attrs p.Plan.Cols; unfold iu; omega)) ?_
 refine Zg (fun hw => be (Sub.w hw) (Sub.w hw)) (Zs (aD Sr Sr) (Zm ?_))
 refine Zk (aa cW Sr rfl) ?_
 refine Zg (fun hw => aa cq (Sub.w hw) rfl) (Zg (fun hw => ad ty3 (Sub.w hw)) (Zg (fun hw => az (Sub.w hw) Sr) (Zs (aD Sr Sr) (Zm ?_))))
 refine Zk (aa cW Sr rfl) ?_
 refine Zg (fun hw => aa cq (Sub.w hw) rfl) (Zg (fun hw => ad ty3 (Sub.w hw)) (Zg (fun hw => bj (Sub.w hw) Sr) (Zs (aD Sr Sr) (ab ?_))))
 refine am Sr (fun h45 => ?_) (fun h45 => ?_)
 ·
  try simp only [NF] at h45
  refine Jr (Za (Za (ab (aC ?_))))
  refine bI (rv := .tmp 2) (rv' := .tmp 3) rfl () (Sel.all _) (.tmp Sr) (.tmp Sr) (B := tSl bu []) (B' := tV (.bool false)) (Frz.sub F6) (Frz.sub Sr) ?_
  have hno : kw p.Plan = false := by
   unfold kw
   by_cases hpk : dX (nth p.Plan.Kids 0).Attrs.length p.Plan.Cols = true
   ·
    have hpl : (eE (nth p.Plan.Kids 0).Attrs p.Plan.Cols).length = p.Plan.Cols.length := by rw [eE, if_pos hpk]; simp [jd]
    rw [hpk, Bool.true_and, decide_eq_false_iff_not]
    rcases h45 with ((h | h) | h) | h
    ·
     exact absurd hpk (by rw [show dX (nth p.Plan.Kids 0).Attrs.length p.Plan.Cols = false from h]; simp)
    all_goals omega
   rw [Bool.eq_false_iff.2 hpk, Bool.false_and]
  rw [if_neg (by rw [hno]; simp), hno]
  exact Sr
 try simp only [NF] at h45
 have hpk : dX (nth p.Plan.Kids 0).Attrs.length p.Plan.Cols = true := by simp_all
 have hpm : (eE (nth p.Plan.Kids 0).Attrs p.Plan.Cols) = jd (nth p.Plan.Kids 0).Attrs p.Plan.Cols := by rw [eE, if_pos hpk]
 have hpl : (eE (nth p.Plan.Kids 0).Attrs p.Plan.Cols).length = p.Plan.Cols.length := by rw [hpm]; simp [jd]
 have hok : kw p.Plan = true := by unfold kw; rw [hpk, Bool.true_and, decide_eq_true_eq]; omega
 refine av (Jr (Zs (aa cW Sr rfl) (Zs (aa cq Sr rfl) (Zl eP Sr (Zm ?_)))))
 refine Zs (bC underlying28 Sr zS) ?_
 refine Zs (ae (i := p.Plan.Cols.length) underlying28 eS Sr Sr (by rw [hpl]) (gb (by show p.Plan.Cols.length < p.Plan.Attrs.length; omega))) ?_
 refine Zs (aa gV Sr rfl) (Zl ty9 Sr (Zs (aP (x := (⟨(nth p.Plan.Attrs p.Plan.Cols.length).Name, 2, [], ⟨0, 0, ⟨#[]⟩⟩⟩ : GAttr)) (zs := [[Value.string ⟨#[]⟩], [Value.int .i64 0], [Value.slice none 0 0], [Value.int .i64 0, Value.int .i64 0, Value.string ⟨#[]⟩]]) gV (fun w => zeroValue64 w) ⟨Sr, Sr, trivial⟩ ⟨⟨Sr, rfl⟩, ⟨Sr, rfl⟩, fun _ => ⟨_, rfl, none, ⟨0, Nat.le_refl _⟩, rfl, fun q => absurd rfl q⟩, fun _ => ⟨[Value.int .i64 0], _, rfl, rfl, ⟨[Value.int .i64 0], _, rfl, rfl, ⟨[Value.string ⟨#[]⟩], _, rfl, rfl, rfl⟩⟩⟩, trivial⟩) ?_))
 refine Zx (aE (fun w => zeroValue64 w) zx) fun b7 => ?_
 refine Ju (ai eS Sr Sr zS) fun _ => ?_
 refine ab (ap (au (Jr (Zs (aa cW Sr rfl) (Zs (aa cq Sr rfl) ?_)))))
 refine Zl ty3 Sr (Zs (aJ Sr Sr) (Za (ab ?_)))
 refine am Sr (fun h63 => ?_) (fun h63 => ?_)
 ·
  try simp only [NF] at h63
  refine ah (Zs (aa cW Sr rfl) (Zs (aa cq Sr rfl) (Zl ty3 Sr (Zs (aJ Sr Sr) (Za ?_)))))
  refine ab (Jr (Zm ?_))
  refine Zs (bb eS Sr zS) ?_
  refine Zs (aB (ys := [_]) underlying28 rZ ⟨rfl, Sr, trivial⟩ rfl (by decide)) ?_
  refine Zx (aH underlying28 rZ Sr Sr zS (by rw [hpl]; simp; omega) (by rw [hpl]; simp; omega)) fun v101 => ?_
  refine Zm (Za (Za (ab (aC ?_))))
  refine bI (rv := .tmp 2) (rv' := .tmp 3) rfl () (Sel.all _) (.tmp Sr) (.tmp Sr) Frz.own (Frz.sub Sr) (Gs ?_ ?_)
  ·
   rw [if_pos hok]
   show (eE (nth p.Plan.Kids 0).Attrs p.Plan.Cols) ++ _ = _
   rw [hpm]
   first | (simp [o3, u5, h63]; done) | (simp [o3, u5, h63, hgi]; done) | (simp [o3, u5, h63, hgi, h85]; done)
  rw [hok, Bool.true_and]
  first | (simp [ly, h63]; done) | (simp [ly, h63, hgi]; done) | (simp [ly, h63, hgi, h85]; done) | (simp [ly, h63, hgi, h85]; exact hpk)
 try simp only [NF] at h63
 refine Jr (Zs (aa cW Sr rfl) (Zs (aa cq Sr rfl) (Zl ty3 Sr (Zs (az Sr Sr) (Zm ?_)))))
 refine Zk (aa cW Sr rfl) ?_
 refine Zg (fun hw => aa cq (Sub.w hw) rfl) (Zg (fun hw => ad ty3 (Sub.w hw)) ?_)
 refine Zk (ar Sr) ?_
 refine Zg (fun hw => ag underlying28 (Sub.w hw)) (Zg (fun hw => bA (Sub.w hw) (Sub.w hw)) (Zs (aD Sr Sr) (Za (ab ?_))))
 refine am Sr (fun h72 => ?_) (fun h72 => ?_)
 ·
  try simp only [NF] at h72
  have hgi : qg p.Plan = false := by unfold qg; rw [decide_eq_false_iff_not]; omega
  refine ah (Za (ab (Jr (Zm ?_))))
  refine Zs (bb eS Sr zS) ?_
  refine Zs (aB (ys := [_]) underlying28 rZ ⟨rfl, Sr, trivial⟩ rfl (by decide)) ?_
  refine Zx (aH underlying28 rZ Sr Sr zS (by rw [hpl]; simp; omega) (by rw [hpl]; simp; omega)) fun v101 => ?_
  refine Zm (Za (Za (ab (aC ?_))))
  refine bI (rv := .tmp 2) (rv' := .tmp 3) rfl () (Sel.all _) (.tmp Sr) (.tmp Sr) Frz.own (Frz.sub Sr) (Gs ?_ ?_)
  ·
   rw [if_pos hok]
   show (eE (nth p.Plan.Kids 0).Attrs p.Plan.Cols) ++ _ = _
   rw [hpm]
   first | (simp [o3, u5, h63]; done) | (simp [o3, u5, h63, hgi]; done) | (simp [o3, u5, h63, hgi, h85]; done)
  rw [hok, Bool.true_and]
  first | (simp [ly, h63]; done) | (simp [ly, h63, hgi]; done) | (simp [ly, h63, hgi, h85]; done) | (simp [ly, h63, hgi, h85]; exact hpk)
 try simp only [NF] at h72
 have hgi : qg p.Plan = true := by unfold qg; rw [decide_eq_true_eq]; omega
 have hin : 0 <= p.Plan.Col /\ p.Plan.Col < (nth p.Plan.Kids 0).Attrs.length := by omega
 refine Jr (Zs (aa cW Sr rfl) (Zs (aa cq Sr rfl) (Zl ty3 Sr (Zs (aJ Sr Sr) (Za ?_)))))
 refine ab ?_
 refine am Sr (fun h85 => ?_) (fun h85 => ?_)
 ·
  try simp only [NF] at h85
  refine ah (Zm (Zs (aa cW Sr rfl) (Zs (aa cq Sr rfl) (Zl ty3 Sr ?_))))
  refine Zs (ae (i := p.Plan.Col.toNat) underlying28 eS Sr Sr (by show p.Plan.Col = _; omega) (gb (by show _ < (nth p.Plan.Kids 0).Attrs.length; omega))) ?_
  refine Zs (aa gV Sr rfl) (Zl ty3 Sr (Zs (aJ Sr Sr) (Za (ab (Jr ?_)))))
  refine Zm ?_
  refine Zs (bb eS Sr zS) ?_
  refine Zs (aB (ys := [_]) underlying28 rZ ⟨rfl, Sr, trivial⟩ rfl (by decide)) ?_
  refine Zx (aH underlying28 rZ Sr Sr zS (by rw [hpl]; simp; omega) (by rw [hpl]; simp; omega)) fun v101 => ?_
  refine Zm (Za (Za (ab (aC ?_))))
  refine bI (rv := .tmp 2) (rv' := .tmp 3) rfl () (Sel.all _) (.tmp Sr) (.tmp Sr) Frz.own (Frz.sub Sr) (Gs ?_ ?_)
  ·
   rw [if_pos hok]
   show (eE (nth p.Plan.Kids 0).Attrs p.Plan.Cols) ++ _ = _
   rw [hpm]
   first | (simp [o3, u5, h63]; done) | (simp [o3, u5, h63, hgi]; done) | (simp [o3, u5, h63, hgi, h85]; done)
  rw [hok, Bool.true_and]
  first | (simp [ly, h63]; done) | (simp [ly, h63, hgi]; done) | (simp [ly, h63, hgi, h85]; done) | (simp [ly, h63, hgi, h85]; exact hpk)
 try simp only [NF] at h85
 refine ah (Zm (Zs (aa cW Sr rfl) (Zs (aa cq Sr rfl) (Zl ty3 Sr ?_))))
 refine Zs (ae (i := p.Plan.Col.toNat) underlying28 eS Sr Sr (by show p.Plan.Col = _; omega) (gb (by show _ < (nth p.Plan.Kids 0).Attrs.length; omega))) ?_
 refine Zs (aa gV Sr rfl) (Zl ty3 Sr (Zs (aq gV Sr rfl) ?_))
 refine Ju (aS (R := aO) (y' := (⟨(nth p.Plan.Attrs p.Plan.Cols.length).Name, (nth (nth p.Plan.Kids 0).Attrs p.Plan.Col.toNat).Kind, [], ⟨0, 0, ⟨#[]⟩⟩⟩ : GAttr)) ty3 Sr Sr zS (by exact ⟨rfl, fun _ _ q => q, rfl, by intro g hg; simp only [List.mem_cons, List.not_mem_nil, or_false] at hg; rcases hg with rfl | rfl <;> rfl⟩)) fun _ => ?_
 refine ab (Jr (Zm ?_))
 refine Zs (bb eS Sr zS) ?_
 refine Zs (aB (ys := [_]) underlying28 rZ ⟨rfl, Sr, trivial⟩ rfl (by decide)) ?_
 refine Zx (aH underlying28 rZ Sr Sr zS (by rw [hpl]; simp; omega) (by rw [hpl]; simp; omega)) fun v101 => ?_
 refine Zm (Za (Za (ab (aC ?_))))
 refine bI (rv := .tmp 2) (rv' := .tmp 3) rfl () (Sel.all _) (.tmp Sr) (.tmp Sr) Frz.own (Frz.sub Sr) (Gs ?_ ?_)
 ·
  rw [if_pos hok]
  show (eE (nth p.Plan.Kids 0).Attrs p.Plan.Cols) ++ _ = _
  rw [hpm]
  first | (simp [o3, u5, h63]; done) | (simp [o3, u5, h63, hgi]; done) | (simp [o3, u5, h63, hgi, h85]; done)
 rw [hok, Bool.true_and]
 first | (simp [ly, h63]; done) | (simp [ly, h63, hgi]; done) | (simp [ly, h63, hgi, h85]; done) | (simp [ly, h63, hgi, h85]; exact hpk)
open Go
theorem fd {α : Type} [Inhabited α] {enc : α -> Value} {w : World} {g off m : Nat} {dk : Array α} {os : Array Obj} {b : Nat} (hb : b < w.heap.size) (hne : b ≠ g) : (Go.Proofs.sortWorld enc w g off m dk os).heap[b]? = w.heap[b]? := by
 show ((Sort.mapBlock (Sort.ahead w m) g _).heap ++ os)[b]? = _
 rw [Array.getElem?_append_left (by simp [Sort.mapBlock, Sort.ahead, hb])]
 simp only [Sort.mapBlock, Sort.ahead, Array.getElem?_modify, Ne.symm hne, if_false]
theorem jJ {α : Type} [Inhabited α] {enc : α -> Value} {w : World} {g off m : Nat} {dk : Array α} {os : Array Obj} {cur : Array Value} {e : Nat} {fz : Nat × Nat} (hb : w.heap[g]? = some (.cells cur e fz)) :
  (Go.Proofs.sortWorld enc w g off m dk os).heap[g]? = some (.cells (Sort.putCells enc off dk cur) e fz) := by
 have hlt := (Array.getElem?_eq_some_iff.1 hb).1
 show ((Sort.mapBlock (Sort.ahead w m) g _).heap ++ os)[g]? = _
 rw [Array.getElem?_append_left (by simp [Sort.mapBlock, Sort.ahead, hlt])]
 simp only [Sort.mapBlock, Sort.ahead, Array.getElem?_modify, if_true, hb, Option.map_some, Sort.onCells]
theorem tI {P : Program} {f : Nat} {As : List Ty} {rest : List Value} (v : Value) (xs : List ByteArray) (ds : List (List UInt8)) (hd : ds.length = xs.length) (m : Nat) (hm : m <= xs.length) (ret : Option Addr -> Nat -> Value) (T : Value -> Ty) (hT : ∀ h a n cap, (xs = [] -> n = 0) -> (xs ≠ [] -> n = m) -> (T (.slice a n cap)).p h (ret a cap)) (hrest : ∀ h vs, Args h As vs -> vs = rest)
  (hk : ∀ (g cap : Nat) (w : World), Sort.Holds Go.Proofs.encStr w g 0 (xs.map ofB).toArray -> g < w.heap.size -> xs.length <= cap -> Calls P f (.slice (some ⟨g, 0, none⟩) xs.length cap :: rest).toArray w fun e w' => e = .returned (ret (some ⟨g, 0, none⟩) cap) /\ ∃ n os, w' = Go.Proofs.sortWorld Go.Proofs.encStr w g 0 n ds.toArray os)
  (hn : ∀ a cap w, xs = [] -> Calls P f (.slice a 0 cap :: rest).toArray w fun e w' => e = .returned (ret a cap) /\ w' = w) :
  Spec (X := { z : Value // m = xs.length -> z = v }) P f (rV.ty v :: As) [own 9 d5 v xs] (fun z => T z.1) (fun z => [own 9 d5 z.1 ((ds.take m).map toB)]) := by
 intro vs h m0 r w ha sp st
 match vs, ha with
 | u1 :: us, ⟨a1, a2⟩ =>
 obtain ⟨e1, _⟩ := a1
 subst e1
 have := hrest _ _ a2
 subst this
 obtain ⟨m1, m2, d12, rfl, ho, e3⟩ := st
 rw [eY] at e3; subst e3
 rw [FY] at sp
 have none_case : ∀ (p : Option Addr) (cap : Nat), u1 = .slice p 0 cap -> xs = [] -> (own 9 d5 u1 xs).p h m1 -> Calls P f (u1 :: us).toArray w (Ret (X := { z : Value // m = xs.length -> z = u1 }) h w r (fun z => T z.1) (fun z => [own 9 d5 z.1 ((ds.take m).map toB)])) := by
  intro p cap hu hx ho
  subst hu; subst hx
  have hds : ds = [] := List.length_eq_zero_iff.1 hd
  subst hds
  refine (hn p cap w rfl).mono ?_
  rintro e' w' ⟨rfl, rfl⟩
  exact ⟨⟨.slice p 0 cap, fun _ => rfl⟩, _, h, m1, rfl, HL.refl, sp, ⟨m1, PH.emp, FX _, (FY _).symm, by simpa using ho, rfl⟩, hT _ _ _ _ (fun _ => rfl) (fun q => absurd rfl q)⟩
 have ho0 := ho
 rcases ho with ⟨rfl, rfl, rfl⟩ | ⟨g, cap, cur, rfl, rfl, hl, hmx, hs, hr⟩
 · exact none_case none 0 rfl rfl ho0
 · by_cases hx : xs = []
   · subst hx; exact none_case _ cap rfl rfl ho0
   · have hk1 : d5.k = 1 := rfl
     rw [hk1, Nat.mul_one] at hs hr
     rw [iB] at hr
     have hb := sp.mw g _ (F3 _ _)
     have hH : Sort.Holds Go.Proofs.encStr w g 0 (xs.map ofB).toArray := fun j hj => ⟨by
      rw [Nat.zero_add]; simp only [World.cell?, hb]
      have hj' : j < xs.length := by simpa using hj
      have : (cur.toList.take xs.length)[j]? = some (.string xs[j]) := by rw [hr]; simp [hj']
      rw [List.getElem?_take, if_pos hj'] at this
      rw [getElem!_pos _ j hj]
      have e2 : Go.Proofs.encStr ((xs.map ofB).toArray[j]) = .string xs[j] := by
       simp only [List.getElem_toArray, List.getElem_map]
      rw [e2]
      first | exact this | simpa using this, by simp [World.frozen?, hb]⟩
     have hblk : g < w.heap.size := (Array.getElem?_eq_some_iff.1 hb).1
     refine (hk g cap w hH hblk hl).mono ?_
     rintro e' w' ⟨rfl, n, os, rfl⟩
     have hlen : ((ds.take m).map toB).length = m := by rw [List.length_map, List.length_take, Nat.min_eq_left (by omega)]
     refine ⟨⟨.slice (some ⟨g, 0, none⟩) m cap, fun q => by rw [q]⟩, _, h, PH.one g (.cells (Sort.putCells Go.Proofs.encStr 0 ds.toArray cur) 9 (0, 0)), rfl, HL.same ⟨rfl, rfl, rfl⟩, ?_, ⟨_, PH.emp, FX _, (FY _).symm, .inr ⟨g, cap, _, by rw [hlen], rfl, by rw [hlen]; omega, hmx, ?_, ?_⟩, rfl⟩, hT _ _ _ _ (fun q => absurd q hx) (fun _ => rfl)⟩
     · have sp' : Sep h ((PH.one g (.cells cur 9 (0, 0))).join PH.emp) r w := by rw [FY]; exact sp
       have := F4 (o' := .cells (Sort.putCells Go.Proofs.encStr 0 ds.toArray cur) 9 (0, 0)) (FX _) sp' (fun b hne' hb' => fd (enc := Go.Proofs.encStr) (off := 0) (m := n) (dk := ds.toArray) (os := os) hb' hne') (jJ hb)
       rw [FY] at this; exact this
     · simp [Sort.putCells, hs, hk1]
     · rw [hlen, hk1, Nat.mul_one, iB]
       apply List.ext_getElem?
       intro j
       rw [List.getElem?_take]
       split
       · rename_i hj
         have hjc : j < cur.size := by omega
         have hjd : j < ds.length := by omega
         simp [Sort.putCells, hjc, hjd, hj]
       · rw [List.getElem?_eq_none (by rw [List.length_map, hlen]; omega)]
def sm (xs : List ByteArray) : List ByteArray := ((xs.map ofB).mergeSort fun x y => decide (x <= y)).map toB
theorem mh (xs : List ByteArray) : (sm xs).length = xs.length := by simp [sm]
def zI (xs : List ByteArray) : List ByteArray := (Lib.compact (xs.map ofB)).map toB
theorem ql {P : Program} {ρ : Shelf.Ren} (LL : Go.Proofs.Lays.n190 P ρ) (v : Value) (xs : List ByteArray) (hn : xs.length < 4611686018427387904) :
  Spec (X := Unit) P (ρ.f 190) [rV.ty v] [own 9 d5 v xs] (fun _ => fW []) (fun _ => [own 9 d5 v (sm xs)]) := by
 have h := tI (P := P) (f := ρ.f 190) (As := []) (rest := []) v xs ((xs.map ofB).mergeSort fun x y => decide (x <= y)) (by simp) xs.length (Nat.le_refl _) (fun _ _ => .tuple #[]) (fun _ => fW []) (fun _ _ _ _ _ _ => ⟨[], rfl, trivial⟩) (fun h vs a => by match vs, a with | [], _ => rfl)
  (fun g cap w hH hb hc => by
   have := Go.Proofs.Any.slices_Sort_string LL g 0 cap (xs.map ofB) w hH hb (by simpa using hn)
   rw [List.length_map] at this
   exact this)
  (fun a cap w _ => Go.Proofs.Any.slices_Sort_string_none LL a cap w)
 intro vs h0 m r w ha sp st
 refine (h vs h0 m r w ha sp st).mono ?_
 rintro e w' ⟨⟨z, hz⟩, u, h', m', rfl, l, s, st', hu⟩
 have := hz rfl
 subst this
 refine ⟨(), u, h', m', rfl, l, s, ?_, hu⟩
 have e1 : (((xs.map ofB).mergeSort fun x y => decide (x <= y)).take xs.length) = ((xs.map ofB).mergeSort fun x y => decide (x <= y)) := List.take_of_length_le (by simp)
 rw [e1] at st'
 exact st'
theorem sq (zs : List (List UInt8)) : (Lib.compact zs).length <= zs.length := by
 unfold Lib.compact Lib.compactUpTo
 rw [List.length_map]
 refine Nat.le_trans (List.length_filter_le _ _) ?_
 rw [List.length_range]; exact Nat.le_refl _
theorem qm {P : Program} {ρ : Shelf.Ren} (LL : Go.Proofs.Lays.n194 P ρ) (v : Value) (xs : List ByteArray) (hn : xs.length <= 4611686018427387904) :
  Spec (X := Value) P (ρ.f 194) [rV.ty v] [own 9 d5 v xs] (fun z => rV.ty z) (fun z => [own 9 d5 z (zI xs)]) := by
 have hcl := sq (xs.map ofB)
 rw [List.length_map] at hcl
 have h := tI (P := P) (f := ρ.f 194) (As := []) (rest := []) v xs (Lib.compact (xs.map ofB) ++ List.replicate (xs.length - (Lib.compact (xs.map ofB)).length) []) (by simp; omega) (Lib.compact (xs.map ofB)).length hcl
  (fun a cap => .slice a (Lib.compact (xs.map ofB)).length cap) (fun z => rV.ty z) (fun _ a n cap h1 h2 => by
   by_cases hx : xs = []
   · rw [h1 hx]; subst hx; exact ⟨rfl, rfl⟩
   · rw [h2 hx]; exact ⟨rfl, rfl⟩) (fun h vs a => by match vs, a with | [], _ => rfl)
  (fun g cap w hH hb hc => by
   have := Go.Proofs.Any.slices_Compact_string LL g 0 cap (xs.map ofB) w hH (by rw [List.length_map]; omega) (by rw [List.length_map]; omega)
   rw [List.length_map] at this
   refine this.mono ?_
   rintro e w' ⟨he, q, hq⟩
   exact ⟨he, q, #[], by rw [hq]; unfold Go.Proofs.sortWorld; rw [Sort.grow_empty]⟩)
  (fun a cap w hx => by subst hx; exact Go.Proofs.Any.slices_Compact_string_empty LL a cap w)
 intro vs h0 m r w ha sp st
 refine (h vs h0 m r w ha sp st).mono ?_
 rintro e w' ⟨⟨z, hz⟩, u, h', m', rfl, l, s, st', hu⟩
 refine ⟨z, u, h', m', rfl, l, s, ?_, hu⟩
 rw [List.take_left' rfl] at st'
 exact st'
theorem BP (a b : List UInt8) : (decide (a <= b) || decide (b <= a)) = true := by
 rcases List.le_total a b with h | h <;> simp [h]
theorem w9 (a b c : List UInt8) (h1 : decide (a <= b) = true) (h2 : decide (b <= c) = true) : decide (a <= c) = true := by
 simp only [decide_eq_true_eq] at *; exact List.le_trans h1 h2
theorem BQ {x y : ByteArray} (h : ofB x = ofB y) : x = y := by rw [<- oQ x, h, oQ]
theorem sr {α : Type} {p : α -> Bool} {l : List α} (h : l.length <= (l.filter p).length) : ∀ x ∈ l, p x = true := by
 induction l with
 | nil => intro x hx; cases hx
 | cons a l ih =>
   intro x hx
   have hle := List.length_filter_le p l
   by_cases ha : p a = true
   · rw [List.filter_cons_of_pos ha, List.length_cons, List.length_cons] at h
     rcases List.mem_cons.1 hx with rfl | hx
     · exact ha
     · exact ih (by omega) x hx
   · rw [List.filter_cons_of_neg ha, List.length_cons] at h; omega
theorem qn (zs : List (List UInt8)) (hs : zs.Pairwise fun a b => decide (a <= b) = true) : zs.length <= (Lib.compact zs).length ↔ zs.Nodup := by
 have e : (Lib.compact zs).length = ((List.range zs.length).filter (Lib.keeps zs.toArray)).length := by simp [Lib.compact, Lib.compactUpTo]
 have hk : ∀ j, j < zs.length -> (Lib.keeps zs.toArray j = true ↔ (j = 0 \/ ∀ (h1 : j < zs.length) (h2 : j - 1 < zs.length), zs[j] ≠ zs[j - 1])) := by
  intro j hj
  have h2 : j - 1 < zs.length := by omega
  unfold Lib.keeps
  rw [decide_eq_true_eq]
  rw [getElem!_pos zs.toArray j (by simpa using hj), getElem!_pos zs.toArray (j - 1) (by simpa using h2)]
  simp only [List.getElem_toArray]
  constructor
  · rintro (h | h)
    · exact .inl h
    · exact .inr fun _ _ => h
  · rintro (h | h)
    · exact .inl h
    · exact .inr (h hj h2)
 rw [e]
 constructor
 · intro h
   have hall := sr (p := Lib.keeps zs.toArray) (l := List.range zs.length) (by rw [List.length_range]; exact h)
   have hadj : ∀ j (h1 : j + 1 < zs.length), zs[j] < zs[j + 1] := by
    intro j h1
    have h2 := (hk (j + 1) h1).1 (hall _ (List.mem_range.2 h1))
    rcases h2 with h2 | h2
    · omega
    · have h3 := h2 h1 (by omega)
      have h4 := List.pairwise_iff_getElem.1 hs j (j + 1) (by omega) h1 (by omega)
      simp only [decide_eq_true_eq] at h4
      simp only [Nat.add_sub_cancel] at h3
      rcases Decidable.em (zs[j] < zs[j + 1]) with h5 | h5
      · exact h5
      · exact absurd (List.le_antisymm (List.not_lt.1 h5) h4) h3
   have hlt : ∀ d i (h1 : i + d + 1 < zs.length), zs[i] < zs[i + d + 1] := by
    intro d
    induction d with
    | zero => intro i h1; exact hadj i h1
    | succ d ih =>
      intro i h1
      exact List.lt_trans (ih i (by omega)) (hadj (i + d + 1) h1)
   refine List.pairwise_iff_getElem.2 fun i j hi hj hij he => ?_
   have := hlt (j - i - 1) i (by omega)
   simp only [show i + (j - i - 1) + 1 = j by omega] at this
   rw [he] at this
   exact List.lt_irrefl _ this
 · intro h
   have : (List.range zs.length).filter (Lib.keeps zs.toArray) = List.range zs.length := by
    refine List.filter_eq_self.2 fun j hj => ?_
    have hj := List.mem_range.1 hj
    rw [hk j hj]
    by_cases h0 : j = 0
    · exact .inl h0
    · refine .inr fun h1 h2 he => ?_
      exact List.pairwise_iff_getElem.1 h (j - 1) j h2 h1 (by omega) he.symm
   rw [this, List.length_range]; exact Nat.le_refl _
theorem xc (l : List ByteArray) : (l.map ofB).Nodup ↔ l.Nodup := by
 unfold List.Nodup
 rw [List.pairwise_map]
 exact ⟨fun h => h.imp fun {a b} h e => h (by rw [e]), fun h => h.imp fun {a b} h e => h (BQ e)⟩
theorem nX (l : List ByteArray) : l.length <= (zI (sm l)).length ↔ l.Nodup := by
 have e : (zI (sm l)).length = (Lib.compact ((l.map ofB).mergeSort fun x y => decide (x <= y))).length := by
  unfold zI sm
  rw [List.length_map, List.map_map]
  congr 2
  conv => rhs; rw [<- List.map_id ((l.map ofB).mergeSort fun x y => decide (x <= y))]
  exact List.map_congr_left fun x _ => BA x
 have hl : l.length = ((l.map ofB).mergeSort fun x y => decide (x <= y)).length := by simp
 rw [e]
 conv => lhs; lhs; rw [hl]
 rw [qn _ (List.pairwise_mergeSort w9 BP (l.map ofB)), <- xc l]
 exact (List.mergeSort_perm (l.map ofB) _).nodup_iff
end Lg
namespace Go.Proofs
open Go.Shelf
def Tryz.sortSJ_ren : Go.Shelf.Ren := ⟨fun | 190 => 138 | 125 => 108 | 258 => 174 | 128 => 154 | 129 => 155 | 302 => 191 | 303 => 192 | 304 => 193 | 305 => 194 | 306 => 195 | 307 => 196 | 308 => 197 | 309 => 198 | 310 => 199 | 333 => 206 | 329 => 180 | 330 => 181 | 334 => 207 | 335 => 208 | 336 => 209 | 344 => 220 | n => n, fun | 31 => 60 | 9 => 9 | 3 => 3 | 46 => 157 | 0 => 0 | 51 => 199 | 53 => 201 | 4 => 4 | 183 => 193 | 182 => 192 | 131 => 145 | 5 => 5 | 218 => 221 | 222 => 225 | 228 => 252 | 229 => 253 | n => n, fun | n => n⟩
theorem Tryz.sortSJ : Go.Proofs.Lays.n190 Tryz.prog Tryz.sortSJ_ren := {
 mixed := by kernel_rfl
 f125 := Tryz.func108.trans (congrArg some (by kernel_rfl))
 f128 := Tryz.func154.trans (congrArg some (by kernel_rfl))
 f129 := Tryz.func155.trans (congrArg some (by kernel_rfl))
 f190 := Tryz.func138.trans (congrArg some (by kernel_rfl))
 f258 := Tryz.func174.trans (congrArg some (by kernel_rfl))
 f302 := Tryz.func191.trans (congrArg some (by kernel_rfl))
 f303 := Tryz.func192.trans (congrArg some (by kernel_rfl))
 f304 := Tryz.func193.trans (congrArg some (by kernel_rfl))
 f305 := Tryz.func194.trans (congrArg some (by kernel_rfl))
 f306 := Tryz.func195.trans (congrArg some (by kernel_rfl))
 f307 := Tryz.func196.trans (congrArg some (by kernel_rfl))
 f308 := Tryz.func197.trans (congrArg some (by kernel_rfl))
 f309 := Tryz.func198.trans (congrArg some (by kernel_rfl))
 f310 := Tryz.func199.trans (congrArg some (by kernel_rfl))
 f329 := Tryz.func180.trans (congrArg some (by kernel_rfl))
 f330 := Tryz.func181.trans (congrArg some (by kernel_rfl))
 f333 := Tryz.func206.trans (congrArg some (by kernel_rfl))
 f334 := Tryz.func207.trans (congrArg some (by kernel_rfl))
 f335 := Tryz.func208.trans (congrArg some (by kernel_rfl))
 f336 := Tryz.func209.trans (congrArg some (by kernel_rfl))
 f344 := Tryz.func220.trans (congrArg some (by kernel_rfl))
 t0 := Tryz.underlying0
 a0 := Tryz.isAgg0
 z0 := Tryz.sizeOf0
 v0 := Tryz.zeroValue0
 t3 := Tryz.underlying3
 a3 := Tryz.isAgg3
 z3 := Tryz.sizeOf3
 v3 := Tryz.zeroValue3
 t4 := Tryz.underlying4
 a4 := Tryz.isAgg4
 z4 := Tryz.sizeOf4
 v4 := Tryz.zeroValue4
 t5 := Tryz.underlying5
 a5 := Tryz.isAgg5
 z5 := Tryz.sizeOf5
 v5 := Tryz.zeroValue5
 t9 := Tryz.underlying9
 a9 := Tryz.isAgg9
 z9 := Tryz.sizeOf9
 v9 := Tryz.zeroValue9
 t31 := Tryz.underlying60
 a31 := Tryz.isAgg60
 z31 := Tryz.sizeOf60
 v31 := Tryz.zeroValue60
 t46 := Tryz.underlying157
 a46 := Tryz.isAgg157
 z46 := Tryz.sizeOf157
 v46 := Tryz.zeroValue157
 t51 := Tryz.underlying199
 a51 := Tryz.isAgg199
 z51 := Tryz.sizeOf199
 v51 := Tryz.zeroValue199
 t53 := Tryz.underlying201
 a53 := Tryz.isAgg201
 z53 := Tryz.sizeOf201
 v53 := Tryz.zeroValue201
 t131 := Tryz.underlying145
 a131 := Tryz.isAgg145
 z131 := Tryz.sizeOf145
 v131 := Tryz.zeroValue145
 t182 := Tryz.underlying192
 a182 := Tryz.isAgg192
 z182 := Tryz.sizeOf192
 v182 := Tryz.zeroValue192
 t183 := Tryz.underlying193
 a183 := Tryz.isAgg193
 z183 := Tryz.sizeOf193
 v183 := Tryz.zeroValue193
 t218 := Tryz.underlying221
 a218 := Tryz.isAgg221
 z218 := Tryz.sizeOf221
 v218 := Tryz.zeroValue221
 t222 := Tryz.underlying225
 a222 := Tryz.isAgg225
 z222 := Tryz.sizeOf225
 v222 := Tryz.zeroValue225
 t228 := Tryz.underlying252
 a228 := Tryz.isAgg252
 z228 := Tryz.sizeOf252
 v228 := Tryz.zeroValue252
 t229 := Tryz.underlying253
 a229 := Tryz.isAgg253
 z229 := Tryz.sizeOf253
 v229 := Tryz.zeroValue253 }
def Tryz.compJ_ren : Go.Shelf.Ren := ⟨fun | 194 => 139 | n => n, fun | 31 => 60 | 9 => 9 | 3 => 3 | 4 => 4 | 0 => 0 | n => n, fun | n => n⟩
theorem Tryz.compJ : Go.Proofs.Lays.n194 Tryz.prog Tryz.compJ_ren := {
 mixed := by kernel_rfl
 f194 := Tryz.func139.trans (congrArg some (by kernel_rfl))
 t0 := Tryz.underlying0
 a0 := Tryz.isAgg0
 z0 := Tryz.sizeOf0
 v0 := Tryz.zeroValue0
 t3 := Tryz.underlying3
 a3 := Tryz.isAgg3
 z3 := Tryz.sizeOf3
 v3 := Tryz.zeroValue3
 t4 := Tryz.underlying4
 a4 := Tryz.isAgg4
 z4 := Tryz.sizeOf4
 v4 := Tryz.zeroValue4
 t9 := Tryz.underlying9
 a9 := Tryz.isAgg9
 z9 := Tryz.sizeOf9
 v9 := Tryz.zeroValue9
 t31 := Tryz.underlying60
 a31 := Tryz.isAgg60
 z31 := Tryz.sizeOf60
 v31 := Tryz.zeroValue60 }
end Go.Proofs
namespace Lg
open Go Go.Proofs Go.Proofs.Tryz
def mj (a : GAttr) : Bool := decide (1 <= a.Kind) && decide (a.Kind <= 4) && zC a.Kind a.Default
def ml (t : GTable) (i : Nat) : Bool := decide (0 <= nth t.Key i) && decide (nth t.Key i < t.Attrs.length) && (decide (i = 0) || decide (nth t.Key (i - 1) < nth t.Key i))
def szT (t : GTable) : Bool := decide (1 <= t.Attrs.length /\ t.Attrs.length <= 12 /\ 1 <= t.Key.length)
def rightM (t : GTable) : Bool := md t.Name && szT t && t.Attrs.all mj && (namesL t.Attrs).all md && decide (namesL t.Attrs).Nodup && (List.range t.Key.length).all (ml t)
theorem vg {l : List GAttr} {i : Nat} (h : i < l.length) : namesL (l.take (i + 1)) = (namesL (l.take i) ++ [(nth l i).Name]) ++ (nth l i).Was := by rw [di h, uW]
theorem A7 {α : Type} {p : α -> Bool} {l : List α} : (l.any fun x => !p x) = !(l.all p) := by
  rw [List.any_eq_not_all_not]; simp
theorem vh (t : GTable) (hz : TabSz t) : Fun1 prog 100 [cS.ty t] (tV (.bool (rightM t))) := by
 refine Spec.enter func100 rfl rfl fun h0 w0 fr0 => ?_
 have hz1 := hz.nm
 have hz2 := hz.at'
 have hz3 := hz.key
 refine Jr (Zs (aF (R := cS) Sr) (Za (ab (ap (Jr ?_)))))
 refine Zs (aa jC Sr rfl) (Zl ty9 Sr (Zs (aj (qe _ hz1) ⟨Sr, trivial⟩ call135) (Zs (bc Sr) (Zm ?_))))
 refine Zk (aa jC Sr rfl) ?_
 refine Zg (fun hw => ad eP (Sub.w hw)) (Zg (fun hw => ag underlying28 (Sub.w hw)) (Zg (fun hw => aJ (Sub.w hw) Sr) (Zs (aD Sr Sr) (Zm ?_))))
 refine Zk (aa jC Sr rfl) ?_
 refine Zg (fun hw => ad eP (Sub.w hw)) (Zg (fun hw => ag underlying28 (Sub.w hw)) (Zg (fun hw => bj (Sub.w hw) Sr) (Zs (aD Sr Sr) (Zm ?_))))
 refine Zk (aa jC Sr rfl) ?_
 refine Zg (fun hw => ad dn (Sub.w hw)) (Zg (fun hw => ag underlying27 (Sub.w hw)) (Zg (fun hw => aJ (Sub.w hw) Sr) (Zs (aD Sr Sr) (ab ?_))))
 refine am Sr (fun h29 => ?_) (fun h29 => ?_)
 ·
  try simp only [NF] at h29
  refine Jr (Za (ab (aC ?_)))
  refine aI (t := 2) rfl () ?_
  refine Sub.bool ?_
  have hs : md t.Name = false \/ szT t = false := by
   rcases h29 with ((h | h) | h) | h
   ·
    exact .inl h
   all_goals exact .inr (by unfold szT; rw [decide_eq_false_iff_not]; omega)
  rcases hs with h | h <;> simp [rightM, h]
 try simp only [NF] at h29
 have hsz : szT t = true := by unfold szT; rw [decide_eq_true_eq]; omega
 have hA12 : t.Attrs.length <= 12 := by omega
 have hnmT : md t.Name = true := by simp_all
 have hnl := qd hz.was
 have hnl2 : (namesL t.Attrs).length <= 12 * 1000001 := Nat.le_trans hnl (Nat.mul_le_mul_right _ hA12)
 refine av (Jr (Za (ab (ap (Jr ?_)))))
 refine Zs (aa jC Sr rfl) (Zl eP Sr (Zs (ag underlying28 Sr) (Zm (ab (au ?_)))))
 refine aK (σ := Nat × Value) (fun ⟨i, v⟩ => i <= t.Attrs.length /\ ∀ k, k < i -> mj (nth t.Attrs k) = true) (fun ⟨i, v⟩ => upd (upd (upd (upd (upd co 1 (bx cS t)) 3 (rV.ty v)) 31 (tSl bu t.Attrs)) 32 (tV (.int .i64 t.Attrs.length))) 33 (tV (.int .i64 i))) (fun ⟨i, v⟩ => [own 9 d5 v (namesL (t.Attrs.take i))]) (fun ⟨i, v⟩ => t.Attrs.length - i) (0, .slice none 0 0) ⟨by omega, fun k hk => by omega⟩ (.u (.u (.u (SubE.upd (FT rfl) (zU))))) (FR) ?_
 rintro ⟨i, v⟩ ⟨hi, hv⟩
 refine Jr (Zs (az Sr Sr) (ab (ap ?_)))
 refine am Sr (fun h34 => ?_) (fun h34 => ?_)
 ·
  try simp only [NF] at h34
  have hlt : i < t.Attrs.length := by omega
  have hnt := vg hlt
  have hnl3 := qd (l := t.Attrs.take i) (M := 1000000) (fun a ha => hz.was a (List.mem_of_mem_take ha))
  have hnl4 : (namesL (t.Attrs.take i)).length <= 12 * 1000001 := Nat.le_trans hnl3 (Nat.mul_le_mul_right _ (by rw [List.length_take]; omega))
  have hwl := hz.was _ (nth_mem hlt)
  refine av (ap (au (Jr ?_)))
  refine Zs (ae  underlying28 eS Sr Sr rfl (gb (by exact hlt))) ?_
  refine Zl eS Sr ?_
  refine Zx (aE (fun w => zeroValue64 w) zx) fun v5 => ?_
  refine Ju (ai eS Sr Sr zS) fun _ => ?_
  refine aN (t := 5) (Sel.take (FN _)) Frz.box ?_
  refine ab (ap (Jr (Zs (aa gV Sr rfl) (Zl ty3 Sr (Zs (az Sr Sr) ?_)))))
  refine Zm ?_
  refine Zk (aa gV Sr rfl) ?_
  refine Zg (fun hw => ad ty3 (Sub.w hw)) (Zg (fun hw => bj (Sub.w hw) Sr) (Zs (aD Sr Sr) (Zm ?_)))
  refine Zk (aa gV Sr rfl) ?_
  refine Zg (fun hw => ad ty3 (Sub.w hw)) ?_
  refine Zk (aa gV Sr rfl) ?_
  refine Zg (fun hw => ad bZ (Sub.w hw)) (Zg (fun hw => aj (tG _ _) ⟨(Sub.w hw), (Sub.w hw), trivial⟩ call61) (Zg (fun hw => bc (Sub.w hw)) (Zs (aD Sr Sr) (ab ?_))))
  refine am Sr (fun h52 => ?_) (fun h52 => ?_)
  ·
   try simp only [NF] at h52
   refine Jr (Za (ab (aC ?_)))
   refine aY (rv := .tmp 2) rfl () (Sel.all _) (.tmp Sr) (Frz.sub (Sub.bool ?_))
   have : mj (nth t.Attrs i) = false := by
    unfold mj
    rcases h52 with (h | h) | h
    ·
     simp [show ¬ 1 <= (nth t.Attrs i).Kind by omega]
    ·
     simp [show ¬ (nth t.Attrs i).Kind <= 4 by omega]
    simp [h]
   simp [rightM, ll hlt this]
  try simp only [NF] at h52
  refine av ?_
  refine bQ [⟨0, [3], true⟩, ⟨1, [5], true⟩, ⟨2, [54], true⟩, ⟨3, [55], true⟩, ⟨5, [5], true⟩, ⟨6, [58], true⟩, ⟨4, [53, 56], false⟩, ⟨7, [57, 59], false⟩, ⟨8, [60], true⟩] rfl (by kernel_rfl) ?_
  refine Zv rfl (Zf rfl (aa gV Sr rfl) (Zf rfl (ad ty9 Sr) ?_))
  refine Zf rfl (aB (ys := [_]) underlying60 el9 ⟨rfl, Sr, trivial⟩ rfl (by decide)) ?_
  refine Zf rfl (aa gV Sr rfl) (Zf rfl (ad wU Sr) ?_)
  refine cN rfl rfl rfl rfl (aH underlying60 el9 Sr Sr zS (by simp; omega) (by simp; omega)) fun v57 => ?_
  refine cN rfl rfl rfl rfl (aH underlying60 el9 Sr Sr zS (by simp; omega) (by simp; omega)) fun v60 => ?_
  refine Zf rfl (bd Sr) (bP (ah (Zs (ax Sr Sr z6) (Zm (ab ?_)))))
  refine ay (σ := Nat × Value) (s := (i, v)) (i + 1, v60) zO ?_ (zU) (.c zS (SPs.of (A := own 9 d5 v60 ((namesL (t.Attrs.take i) ++ [(nth t.Attrs i).Name]) ++ (nth t.Attrs i).Was)) (by rw [hnt])) (LSub.nil))
  refine ⟨by omega, fun k hk => ?_⟩
  by_cases e : k = i
  ·
   subst e; first | (simp_all [mj]; done) | (simp_all [mj]; omega)
  exact hv k zG
 try simp only [NF] at h34
 obtain rfl : i = t.Attrs.length := by omega
 have hats : t.Attrs.all mj = true := l4 hv
 refine a7 (L' := [own 9 d5 v (namesL t.Attrs)]) (.c zS (SPs.of (A := own 9 d5 v (namesL (t.Attrs.take t.Attrs.length))) (by rw [List.take_length])) (LSub.nil)) ?_
 refine aV (ap (Jr (Zm ?_)))
 refine Zs (cP zS (jF (namesL t.Attrs) zG 137 [] (fun s => !md s) (fun x hx => u4 x (hz.nms x hx)) call137) (fun _ => Flat.v _) ⟨(Frz.own), (Frz.sub F5), trivial⟩ call136) ?_
 refine ab ?_
 refine am Sr (fun h63 => ?_) (fun h63 => ?_)
 ·
  try simp only [NF] at h63
  refine Jr (Za (ab (aC ?_)))
  refine aY (rv := .tmp 2) rfl () (Sel.all _) (.tmp Sr) (Frz.sub (Sub.bool ?_))
  have : (namesL t.Attrs).all md = false := by rw [A7] at h63; simpa using h63
  simp [rightM, this]
 try simp only [NF] at h63
 have hnms : (namesL t.Attrs).all md = true := by rw [A7] at h63; simpa using h63
 refine av (Jr (Zm ?_))
 refine Zx (aR zS (ql Tryz.sortSJ v (namesL t.Attrs) zG) ⟨Sr, trivial⟩ call138) fun v65 => ?_
 refine ab (ap (ap ?_))
 refine o0 zS fun hv14 => ?_
 obtain ⟨p14, cap14, hv14⟩ := hv14
 subst hv14
 refine ah (Zm ?_)
 refine Zx (aR zS (qm Tryz.compJ _ (sm (namesL t.Attrs)) (by rw [mh]; omega)) ⟨Sr, trivial⟩ call139) fun v67 => ?_
 refine Zs (bC underlying60 Sr zS) ?_
 refine Zm (Zs (me underlying60 Sr) (Zs (az Sr Sr) (ab ?_)))
 refine am Sr (fun h71 => ?_) (fun h71 => ?_)
 ·
  try simp only [NF] at h71
  refine Jr (Za (ab (aC ?_)))
  refine aY (rv := .tmp 2) rfl () (Sel.all _) (.tmp Sr) (Frz.sub (Sub.bool ?_))
  have : ¬ (namesL t.Attrs).Nodup := fun h => by have := (nX _).2 h; rw [mh] at h71; omega
  simp [rightM, this]
 try simp only [NF] at h71
 rw [mh] at h71
 have hnd : (namesL t.Attrs).Nodup := (nX _).1 zG
 refine lH (Sel.all _) ?_
 refine av (ap (Jr (Zs (aa jC Sr rfl) (Zl dn Sr (Zs (ag underlying27 Sr) ?_)))))
 refine Zm (ab (au ?_))
 refine aK (σ := Nat) (fun i => i <= t.Key.length /\ ∀ k, k < i -> ml t k = true) (fun i => upd (upd (upd (upd co 1 (bx cS t)) 73 (tSl aO t.Key)) 74 (tV (.int .i64 t.Key.length))) 75 (tV (.int .i64 i))) (fun i => []) (fun i => t.Key.length - i) 0 ⟨by omega, fun k hk => by omega⟩ (zU) (LSub.rfl) ?_
 rintro i ⟨hi2, hv2⟩
 refine Jr (Zs (az Sr Sr) (ab (ap ?_)))
 refine am Sr (fun h76 => ?_) (fun h76 => ?_)
 ·
  try simp only [NF] at h76
  have hkt : i < t.Key.length := by omega
  refine av (ap (au (Jr (Zm ?_))))
  refine Zs (ae  underlying27 ty3 Sr Sr rfl (gb (by exact hkt))) ?_
  refine Zl ty3 Sr (Za (Za (ab (Jr (Zm ?_)))))
  refine Zs (az Sr Sr) (Zm ?_)
  refine Zk (ar Sr) ?_
  refine Zk (aa jC Sr rfl) ?_
  refine Zg (fun hw => ad eP (Sub.w hw)) (Zg (fun hw => ag underlying28 (Sub.w hw)) (Zg (fun hw => bA (Sub.w hw) (Sub.w hw)) (Zs (aD Sr Sr) (Zm ?_))))
  refine Zk (ar Sr) ?_
  refine Zg (fun hw => bj (Sub.w hw) Sr) (Zg (fun hw => ar (Sub.w hw)) ?_)
  refine Ji rfl Sr rfl (ar Sr) ?_
  refine Ji rfl Sr rfl (aa jC Sr rfl) ?_
  refine Jh rfl Sr rfl (fun hw => ad dn (Sub.w hw)) ?_
  refine Ji rfl Sr rfl (ar Sr) ?_
  refine Jh rfl Sr rfl (fun hw => cK (Sub.w hw) Sr (by have hwq := hw; (try simp only [beqB_t, beqB_f, NF] at hwq); unfold iu; omega)) ?_
  refine Jh rfl Sr rfl (fun hw => ae (i := (i - 1)) underlying27 ty3 (Sub.w hw) (Sub.w hw) (by have hwq := hw; (try simp only [beqB_t, beqB_f, NF] at hwq); omega) (gb (by have hwq := hw; (try simp only [beqB_t, beqB_f, NF] at hwq); show i - 1 < t.Key.length; omega))) ?_
  refine Jh rfl Sr rfl (fun hw => ad ty3 (Sub.w hw)) (Jh rfl Sr rfl (fun hw => bS (Sub.w hw) (Sub.w hw)) (Zg (fun hw => aw (Sub.w hw) (Gw hw)) (Zs (aD Sr Sr) (ab ?_))))
  refine am Sr (fun h102 => ?_) (fun h102 => ?_)
  ·
   try simp only [NF] at h102
   refine Jr (Za (ab (aC ?_)))
   refine aY (rv := .tmp 2) rfl () (Sel.all _) (.tmp Sr) (Frz.sub (Sub.bool ?_))
   have : ml t i = false := by
    unfold ml
    rcases h102 with (h | h) | ⟨h1, h2⟩
    ·
     simp [show ¬ 0 <= nth t.Key i by omega]
    ·
     simp [show ¬ nth t.Key i < t.Attrs.length by omega]
    simp [show ¬ nth t.Key (i - 1) < nth t.Key i by omega, show ¬ i = 0 by omega]
   simp [rightM, f9 hkt this]
  try simp only [NF] at h102
  refine av (ah (Zs (ax Sr Sr z6) (Zm (ab ?_))))
  refine ay (σ := Nat) (s := i) (i + 1) zO ?_ (zU) (LSub.rfl)
  refine ⟨by omega, fun k hk => ?_⟩
  by_cases e : k = i
  ·
   subst e; first | (simp_all [ml]; done) | (simp_all [ml]; omega)
  exact hv2 k zG
 try simp only [NF] at h76
 have hks : (List.range t.Key.length).all (ml t) = true := fE (fun k hk => hv2 k zG)
 refine aV (Jr (Za (ab (aC ?_))))
 refine aY (rv := .tmp 2) rfl () (Sel.all _) (.tmp Sr) (Frz.sub (Sub.bool ?_))
 simp [rightM, hnmT, hsz, hats, hnms, hnd, hks]
def no (s : GSchema) : Bool := decide (s.Tables.length <= 20) && (List.range s.Tables.length).all fun i => rightM (nth s.Tables i) && decide (wZ s (nth s.Tables i).Name = i)
theorem o4 (s : GSchema) (hz : SchSz s) : Fun1 prog 46 [bB.ty s] (tV (.bool (no s))) := by
 refine Spec.enter func46 rfl rfl fun h0 w0 fr0 => ?_
 have hz1 := hz.tabs
 refine Jr (Zs (aF (R := bB) Sr) (Za (ab (ap (Jr ?_)))))
 refine Zs (aa qb Sr rfl) (Zl qa Sr (Zs (ag underlying22 Sr) (Zs (bj Sr Sr) (ab ?_))))
 refine am Sr (fun h7 => ?_) (fun h7 => ?_)
 ·
  try simp only [NF] at h7
  refine Jr (Za (ab (aC ?_)))
  refine aI (t := 2) rfl () ?_
  refine Sub.bool ?_
  have : ¬ s.Tables.length <= 20 := by omega
  simp [no, this]
 try simp only [NF] at h7
 refine av (ap (Jr (Zs (aa qb Sr rfl) (Zl qa Sr (Zs (ag underlying22 Sr) ?_)))))
 refine Zm (ab (au ?_))
 refine aK (σ := Nat) (fun i => i <= s.Tables.length /\ ∀ k, k < i -> (rightM (nth s.Tables k) && decide (wZ s (nth s.Tables k).Name = k)) = true) (fun i => upd (upd (upd co 1 (bx bB s)) 10 (tV (.int .i64 s.Tables.length))) 11 (tV (.int .i64 i))) (fun i => []) (fun i => s.Tables.length - i) 0 ⟨by omega, fun k hk => by omega⟩ (zU) (LSub.rfl) ?_
 rintro i ⟨hi, hv⟩
 refine Jr (Zs (az Sr Sr) (ab (ap ?_)))
 refine am Sr (fun h12 => ?_) (fun h12 => ?_)
 ·
  try simp only [NF] at h12
  have hlt : i < s.Tables.length := by omega
  refine av (ap (au (Jr (Zm (Za ?_)))))
  refine ab (ap ?_)
  refine bQ [⟨0, [1], true⟩, ⟨1, [14], true⟩, ⟨2, [3], true⟩, ⟨3, [15, 16], true⟩, ⟨4, [17], true⟩, ⟨5, [18], true⟩, ⟨6, [19], true⟩, ⟨7, [20], true⟩, ⟨8, [1, 21], true⟩, ⟨9, [1, 21], true⟩, ⟨10, [21, 23], true⟩, ⟨11, [3, 21], true⟩, ⟨12, [21, 24, 25], true⟩, ⟨13, [21, 26], true⟩, ⟨14, [21, 27], true⟩, ⟨15, [21, 22, 28], true⟩, ⟨16, [3, 21], true⟩, ⟨17, [21, 29, 30], true⟩, ⟨18, [21, 31], true⟩] rfl (by kernel_rfl) ?_
  refine Zf rfl (aa qb Sr rfl) (Zf rfl (ad qa Sr) (Zv rfl ?_))
  refine Zf rfl (ae (i := i) underlying22 nl Sr Sr (by rfl) (gb (by exact hlt))) ?_
  refine Zf rfl (ad nl Sr) (Zf rfl (aj (vh _ (hz.tab _ (nth_mem hlt))) ⟨Sr, trivial⟩ call100) (Zf rfl (bc Sr) (Zv rfl ?_)))
  refine Mk rfl rfl Sr rfl (ad lV Sr) ?_
  refine Mk rfl rfl Sr rfl (aa qb Sr rfl) ?_
  refine Mg rfl rfl Sr rfl (fun hw => ad qa (Sub.w hw)) ?_
  refine Mk rfl rfl Sr rfl (ar Sr) ?_
  refine Mg rfl rfl Sr rfl (fun hw => ae (i := i) underlying22 nl (Sub.w hw) (Sub.w hw) (by rfl) (gb (by have hwq := hw; (try simp only [beqB_t, beqB_f, NF] at hwq); exact hlt))) ?_
  refine Mg rfl rfl Sr rfl (fun hw => aa jC (Sub.w hw) rfl) (Mg rfl rfl Sr rfl (fun hw => ad ty9 (Sub.w hw)) (Mg rfl rfl Sr rfl (fun hw => aj (w4 _ _ hz1) ⟨(Sub.w hw), (Sub.w hw), trivial⟩ call101) ?_))
  refine Mk rfl rfl Sr rfl (ar Sr) ?_
  refine Mg rfl rfl Sr rfl (fun hw => be (Sub.w hw) (Sub.w hw)) (Zf rfl (aD Sr Sr) (bP ?_))
  refine am Sr (fun h32 => ?_) (fun h32 => ?_)
  ·
   try simp only [NF] at h32
   refine Jr (Za (ab (aC ?_)))
   refine aI (t := 2) rfl () ?_
   refine Sub.bool ?_
   have : (rightM (nth s.Tables i) && decide (wZ s (nth s.Tables i).Name = i)) = false := by rcases h32 with h | h <;> simp [h]
   simp only [no, f9 (f := fun i => rightM (nth s.Tables i) && decide (wZ s (nth s.Tables i).Name = i)) hlt this]; simp
  try simp only [NF] at h32
  refine av (ah (Zs (ax Sr Sr z6) (Zm (ab ?_))))
  refine ay (σ := Nat) (s := i) (i + 1) zO ?_ (zU) (LSub.rfl)
  refine ⟨by omega, fun k hk => ?_⟩
  by_cases e : k = i
  ·
   subst e; simp_all
  exact hv k zG
 try simp only [NF] at h12
 have hall := fE (n := s.Tables.length) (fun k hk => hv k zG)
 refine aV (Jr (Za (ab (aC ?_))))
 refine aI (t := 2) rfl () ?_
 refine Sub.bool ?_
 have : s.Tables.length <= 20 := by omega
 simp only [no, hall, this]; simp
end Lg
namespace Lg
theorem mn {α : Type} [DecidableEq α] : ∀ {l U : List α}, l.Nodup -> (∀ x ∈ l, x ∈ U) -> l.length <= U.length
 | [], _, _, _ => Nat.zero_le _
 | x :: l, U, hd, hs => by
   have hx := hs x (by simp)
   have h1 : (U.erase x).length + 1 = U.length := by
    have := List.length_erase_of_mem hx
    have := List.length_pos_of_mem hx
    omega
   have hd := List.nodup_cons.1 hd
   have := mn (U := U.erase x) hd.2 (fun y hy => (List.mem_erase_of_ne (fun e => hd.1 (by rw [<- e]; exact hy))).2 (hs y (by simp [hy])))
   simp; omega
section
variable (rec : Nat -> List Int -> Bool × List Int)
def cycRow : List (Nat × Bool) -> List Int -> Bool × List Int
 | [], st => (false, st)
 | (g, is) :: r, st => if is = true then (if (rec g st).1 = true then (true, (rec g st).2) else cycRow r (rec g st).2) else cycRow r st
end
def fe {α : Type} : List α -> Nat -> List (Nat × α)
 | [], _ => []
 | x :: l, i => (i, x) :: fe l (i + 1)
section
variable (l : List (List Bool))
def cyc : Nat -> Nat -> List Int -> Bool × List Int
 | 0, _, st => (true, st)
 | n + 1, f, st => if nth st f ≠ 0 then (decide (nth st f = 1), st) else
   if (cycRow (cyc n) (fe (nth l f) 0) (st.set f 1)).1 = true then (true, (cycRow (cyc n) (fe (nth l f) 0) (st.set f 1)).2)
   else (false, (cycRow (cyc n) (fe (nth l f) 0) (st.set f 1)).2.set f 2)
def ga : Nat -> List Nat -> List Int -> Bool × List Int
 | _, [], st => (false, st)
 | n, f :: r, st => if (cyc l n f st).1 = true then (true, (cyc l n f st).2) else ga n r (cyc l n f st).2
def ed (f g : Nat) : Prop := (g, true) ∈ fe (nth l f) 0
def Topo (fin : List Nat) : Prop := ∀ pre v post, fin = pre ++ v :: post -> ∀ g, ed l v g -> g ∈ pre
def zeros (st : List Int) : Nat := st.count 0
structure Fits (st : List Int) (fin : List Nat) : Prop where
 two : ∀ v, nth st v = 2 ↔ v ∈ fin
 topo : Topo l fin
 dom : ∀ v, nth st v = 0 \/ nth st v = 1 \/ nth st v = 2
theorem g9 : ∀ (st : List Int) (f v : Nat) (x : Int) (hf : f < st.length), nth (st.set f x) v = if v = f then x else nth st v
 | a :: st, 0, 0, x, _ => rfl
 | a :: st, 0, v + 1, x, _ => rfl
 | a :: st, f + 1, 0, x, _ => rfl
 | a :: st, f + 1, v + 1, x, h => by
   have := g9 st f v x (by simpa using h)
   simp only [List.set_cons_succ, nth, Nat.add_right_cancel_iff]
   exact this
theorem Topo.snoc {fin : List Nat} {f : Nat} (h : Topo l fin) (hg : ∀ g, ed l f g -> g ∈ fin) : Topo l (fin ++ [f]) := by
 intro pre v post e g hv
 rcases List.eq_nil_or_concat post with rfl | ⟨post', z, rfl⟩
 · have : fin = pre /\ [f] = [v] := List.append_inj' (by simpa using e) rfl
   obtain ⟨rfl, h2⟩ := this
   injection h2 with h2; subst h2
   exact hg g hv
 · have e' : fin ++ [f] = (pre ++ v :: post') ++ [z] := by rw [e]; simp
   obtain ⟨h1, h2⟩ := List.append_inj' e' rfl
   exact h pre v post' h1 g hv
theorem mo : ∀ (n f : Nat) (st : List Int) (fin : List Nat), Fits l st fin -> f < st.length -> (∀ v g, ed l v g -> g < st.length) -> (cyc l n f st).1 = false ->
  (cyc l n f st).2.length = st.length /\ ∃ ext, Fits l (cyc l n f st).2 (fin ++ ext) /\ f ∈ fin ++ ext /\ ∀ v, nth st v = 1 ↔ nth (cyc l n f st).2 v = 1 := by
 intro n
 induction n with
 | zero => intro f st fin _ _ _ h; simp [cyc] at h
 | succ n ih =>
   intro f st fin F hf hr h
   by_cases h0 : nth st f = 0
   · have hrow : ∀ (r : List (Nat × Bool)) (st : List Int) (fin : List Nat), Fits l st fin -> (∀ p ∈ r, p.2 = true -> p.1 < st.length) -> (∀ v g, ed l v g -> g < st.length) -> (cycRow (cyc l n) r st).1 = false ->
         (cycRow (cyc l n) r st).2.length = st.length /\ ∃ ext, Fits l (cycRow (cyc l n) r st).2 (fin ++ ext) /\ (∀ g, (g, true) ∈ r -> g ∈ fin ++ ext) /\ ∀ v, nth st v = 1 ↔ nth (cycRow (cyc l n) r st).2 v = 1 := by
       intro r
       induction r with
       | nil => intro st fin F _ _ _; exact ⟨rfl, [], by simpa [cycRow] using F, by simp, fun v => Iff.rfl⟩
       | cons p r ihr =>
         obtain ⟨g, is⟩ := p
         intro st fin F hp hr h
         simp only [cycRow] at h ⊢
         by_cases hi : is = true
         · simp only [hi, if_true] at h ⊢
           by_cases hc : (cyc l n g st).1 = true
           · rw [if_pos hc] at h; cases h
           · rw [if_neg hc] at h ⊢
             obtain ⟨l1, e1, F1, m1, o1⟩ := ih g st fin F (hp (g, is) (by simp) hi) hr (by simpa using hc)
             obtain ⟨l2, e2, F2, m2, o2⟩ := ihr _ _ F1 (fun p hq => by rw [l1]; exact hp p (by simp [hq])) (fun v g hv => by rw [l1]; exact hr v g hv) h
             refine ⟨l2.trans l1, e1 ++ e2, by rw [<- List.append_assoc]; exact F2, fun g' hg' => ?_, fun v => (o1 v).trans (o2 v)⟩
             rw [<- List.append_assoc]
             rcases List.mem_cons.1 hg' with e | hg'
             · injection e with e _; subst e; exact List.mem_append_left _ m1
             · exact m2 g' hg'
         · simp only [hi, if_false] at h ⊢
           obtain ⟨l2, e2, F2, m2, o2⟩ := ihr st fin F (fun p hq => hp p (by simp [hq])) hr h
           refine ⟨l2, e2, F2, fun g' hg' => ?_, o2⟩
           rcases List.mem_cons.1 hg' with e | hg'
           · simp only [Prod.mk.injEq] at e; exact absurd e.2.symm (by simp_all)
           · exact m2 g' hg'
     simp only [cyc] at h ⊢
     rw [if_neg (by simpa using h0)] at h ⊢
     by_cases hc : (cycRow (cyc l n) (fe (nth l f) 0) (st.set f 1)).1 = true
     · rw [if_pos hc] at h; cases h
     · rw [if_neg hc] at h ⊢
       have hnf : f ∉ fin := fun q => by have := (F.two f).2 q; omega
       have F0 : Fits l (st.set f 1) fin := ⟨fun v => by
        rw [g9 st f v 1 hf]
        split
        · rename_i e; subst e; simp [hnf]
        · exact F.two v, F.topo, fun v => by
        rw [g9 st f v 1 hf]
        split
        · simp
        · exact F.dom v⟩
       have hp : ∀ p ∈ fe (nth l f) 0, p.2 = true -> p.1 < (st.set f 1).length := fun p hp e => by
        rw [List.length_set]; exact hr f p.1 (by obtain ⟨a, b⟩ := p; have e : b = true := e; subst e; exact hp)
       obtain ⟨l2, ext, F2, m2, o2⟩ := hrow _ _ _ F0 hp (fun v g hv => by rw [List.length_set]; exact hr v g hv) (by simpa using hc)
       generalize (cycRow (cyc l n) (fe (nth l f) 0) (st.set f 1)).2 = st2 at l2 F2 o2 ⊢
       rw [List.length_set] at l2
       have hf2 : f < st2.length := by omega
       have h1 : nth st2 f = 1 := (o2 f).1 (by rw [g9 st f f 1 hf, if_pos rfl])
       have hnf2 : f ∉ fin ++ ext := fun q => by have := (F2.two f).2 q; omega
       refine ⟨by rw [List.length_set]; exact l2, ext ++ [f], ⟨fun v => ?_, ?_, fun v => ?_⟩, by simp, fun v => ?_⟩
       · rw [g9 st2 f v 2 hf2, <- List.append_assoc]
         split
         · rename_i e; subst e; simp
         · rename_i e
           rw [F2.two v, List.mem_append (t := [f])]
           simp [e]
       · rw [<- List.append_assoc]
         exact F2.topo.snoc l (fun g hg => m2 g hg)
       · rw [g9 st2 f v 2 hf2]
         split
         · simp
         · exact F2.dom v
       · rw [g9 st2 f v 2 hf2]
         split
         · rename_i e; subst e; omega
         · rename_i e
           rw [<- o2 v, g9 st f v 1 hf, if_neg e]
   · simp only [cyc] at h ⊢
     rw [if_pos h0] at h ⊢
     have h1 : ¬ nth st f = 1 := by simpa using h
     refine ⟨rfl, [], by simpa using F, ?_, fun v => Iff.rfl⟩
     rw [List.append_nil]
     exact (F.two f).1 ((F.dom f).resolve_left h0 |>.resolve_left h1)
theorem k8 : ∀ (n : Nat) (r : List Nat) (st : List Int) (fin : List Nat), Fits l st fin -> (∀ f ∈ r, f < st.length) -> (∀ v g, ed l v g -> g < st.length) -> (ga l n r st).1 = false -> ∃ ext, Topo l (fin ++ ext) /\ ∀ f ∈ r, f ∈ fin ++ ext
 | n, [], st, fin, F, _, _, _ => ⟨[], by simpa using F.topo, by simp⟩
 | n, f :: r, st, fin, F, hf, hr, h => by
   simp only [ga] at h
   by_cases hc : (cyc l n f st).1 = true
   · rw [if_pos hc] at h; cases h
   · rw [if_neg hc] at h
     obtain ⟨l1, e1, F1, m1, o1⟩ := mo l n f st fin F (hf f (by simp)) hr (by simpa using hc)
     obtain ⟨e2, t2, m2⟩ := k8 n r _ _ F1 (fun f' h' => by rw [l1]; exact hf f' (by simp [h'])) (fun v g hv => by rw [l1]; exact hr v g hv) h
     refine ⟨e1 ++ e2, by rw [<- List.append_assoc]; exact t2, fun f' h' => ?_⟩
     rw [<- List.append_assoc]
     rcases List.mem_cons.1 h' with rfl | h'
     · exact List.mem_append_left _ m1
     · exact m2 f' h'
inductive Rch : Nat -> Nat -> Prop
 | refl (v : Nat) : Rch v v
 | step {u v w : Nat} : ed l u v -> Rch v w -> Rch u w
def zJ : Prop := ∃ u v, ed l u v /\ Rch l v u
theorem qo {st : List Int} {f : Nat} {x : Int} (hf : f < st.length) (h0 : nth st f = 0) (hx : x ≠ 0) : zeros (st.set f x) + 1 = zeros st := by
 induction st generalizing f with
 | nil => simp at hf
 | cons a st ih =>
   match f with
   | 0 =>
     have h0 : a = 0 := h0
     subst h0
     simp only [zeros, List.set_cons_zero, List.count_cons]
     simp [hx]
   | f + 1 =>
     have := ih (f := f) (by simpa using hf) h0
     simp only [zeros, List.set_cons_succ, List.count_cons] at this ⊢
     omega
theorem nY {st : List Int} {f : Nat} {x : Int} (hx : x ≠ 0) : zeros (st.set f x) <= zeros st := by
 induction st generalizing f with
 | nil => simp [zeros]
 | cons a st ih =>
   match f with
   | 0 =>
     simp only [zeros, List.set_cons_zero, List.count_cons]
     simp [hx]
   | f + 1 =>
     have := ih (f := f)
     simp only [zeros, List.set_cons_succ, List.count_cons] at this ⊢
     omega
theorem hG {rec : Nat -> List Int -> Bool × List Int} (hr : ∀ g st, zeros (rec g st).2 <= zeros st /\ (rec g st).2.length = st.length) : ∀ (r : List (Nat × Bool)) (st : List Int), zeros (cycRow rec r st).2 <= zeros st /\ (cycRow rec r st).2.length = st.length
 | [], st => ⟨Nat.le_refl _, rfl⟩
 | (g, is) :: r, st => by
   simp only [cycRow]
   have h1 := hr g st
   have h2 := hG hr r (rec g st).2
   split
   · split
     · exact h1
     · exact ⟨by omega, by omega⟩
   · exact hG hr r st
theorem ff : ∀ (n f : Nat) (st : List Int), zeros (cyc l n f st).2 <= zeros st /\ (cyc l n f st).2.length = st.length
 | 0, f, st => ⟨Nat.le_refl _, rfl⟩
 | n + 1, f, st => by
   have h2 := hG (ff n) (fe (nth l f) 0) (st.set f 1)
   have h3 := nY (st := st) (f := f) (x := 1) (by decide)
   have h4 := nY (st := (cycRow (cyc l n) (fe (nth l f) 0) (st.set f 1)).2) (f := f) (x := 2) (by decide)
   have h5 : (st.set f 1).length = st.length := List.length_set
   simp only [cyc]
   split
   · exact ⟨Nat.le_refl _, rfl⟩
   · split
     · exact ⟨by show zeros (cycRow (cyc l n) (fe (nth l f) 0) (st.set f 1)).2 <= _; omega, by show (cycRow (cyc l n) (fe (nth l f) 0) (st.set f 1)).2.length = _; omega⟩
     · exact ⟨by simp only; omega, by rw [List.length_set]; omega⟩
theorem zK : ∀ (n f : Nat) (st : List Int) (fin : List Nat), Fits l st fin -> f < st.length -> (∀ v g, ed l v g -> g < st.length) -> zeros st < n -> (cyc l n f st).1 = true -> zJ l \/ ∃ v, nth st v = 1 /\ Rch l f v := by
 intro n
 induction n with
 | zero => intro f st fin _ _ _ hz; omega
 | succ n ih =>
   intro f st fin F hf hr hz h
   by_cases h0 : nth st f = 0
   · have hrow : ∀ (r : List (Nat × Bool)) (st : List Int) (fin : List Nat), Fits l st fin -> (∀ p ∈ r, p.2 = true -> p.1 < st.length) -> (∀ v g, ed l v g -> g < st.length) -> zeros st < n -> (cycRow (cyc l n) r st).1 = true ->
         zJ l \/ ∃ g v, (g, true) ∈ r /\ nth st v = 1 /\ Rch l g v := by
       intro r
       induction r with
       | nil => intro st fin F _ _ _ h; simp [cycRow] at h
       | cons p r ihr =>
         obtain ⟨g, is⟩ := p
         intro st fin F hp hr hz h
         simp only [cycRow] at h
         by_cases hi : is = true
         · subst hi
           simp only [if_true] at h
           by_cases hc : (cyc l n g st).1 = true
           · rcases ih g st fin F (hp (g, true) (by simp) rfl) hr hz hc with h1 | ⟨v, h1, h2⟩
             · exact .inl h1
             · exact .inr ⟨g, v, by simp, h1, h2⟩
           · rw [if_neg hc] at h
             obtain ⟨l1, e1, F1, m1, o1⟩ := mo l n g st fin F (hp (g, true) (by simp) rfl) hr (by simpa using hc)
             rcases ihr _ _ F1 (fun p hq => by rw [l1]; exact hp p (by simp [hq])) (fun v g hv => by rw [l1]; exact hr v g hv) (Nat.lt_of_le_of_lt (ff l n g st).1 hz) h with h1 | ⟨g', v, h1, h2, h3⟩
             · exact .inl h1
             · exact .inr ⟨g', v, by simp [h1], (o1 v).2 h2, h3⟩
         · rw [if_neg hi] at h
           rcases ihr _ _ F (fun p hq => hp p (by simp [hq])) hr hz h with h1 | ⟨g', v, h1, h2, h3⟩
           · exact .inl h1
           · exact .inr ⟨g', v, by simp [h1], h2, h3⟩
     simp only [cyc] at h
     rw [if_neg (by simpa using h0)] at h
     by_cases hc : (cycRow (cyc l n) (fe (nth l f) 0) (st.set f 1)).1 = true
     · have hnf : f ∉ fin := fun q => by have := (F.two f).2 q; omega
       have F0 : Fits l (st.set f 1) fin := ⟨fun v => by
        rw [g9 st f v 1 hf]
        split
        · rename_i e; subst e; simp [hnf]
        · exact F.two v, F.topo, fun v => by
        rw [g9 st f v 1 hf]
        split
        · simp
        · exact F.dom v⟩
       have hp : ∀ p ∈ fe (nth l f) 0, p.2 = true -> p.1 < (st.set f 1).length := fun p hp e => by
        rw [List.length_set]; exact hr f p.1 (by obtain ⟨a, b⟩ := p; have e : b = true := e; subst e; exact hp)
       have hzz := qo (x := 1) hf h0 (by decide)
       rcases hrow _ _ _ F0 hp (fun v g hv => by rw [List.length_set]; exact hr v g hv) (by omega) hc with h1 | ⟨g, v, h1, h2, h3⟩
       · exact .inl h1
       · rw [g9 st f v 1 hf] at h2
         by_cases e : v = f
         · subst e; exact .inl ⟨v, g, h1, h3⟩
         · rw [if_neg e] at h2
           exact .inr ⟨v, h2, .step h1 h3⟩
     · rw [if_neg hc] at h; cases h
   · simp only [cyc] at h
     rw [if_pos h0] at h
     exact .inr ⟨f, by simpa using h, .refl _⟩
theorem mp : ∀ (n : Nat) (r : List Nat) (st : List Int) (fin : List Nat), Fits l st fin -> (∀ f ∈ r, f < st.length) -> (∀ v g, ed l v g -> g < st.length) -> zeros st < n -> (∀ v, nth st v ≠ 1) -> (ga l n r st).1 = true -> zJ l
 | n, [], st, fin, F, _, _, _, _, h => by simp [ga] at h
 | n, f :: r, st, fin, F, hf, hr, hz, h1, h => by
   simp only [ga] at h
   by_cases hc : (cyc l n f st).1 = true
   · rcases zK l n f st fin F (hf f (by simp)) hr hz hc with h2 | ⟨v, h2, _⟩
     · exact h2
     · exact absurd h2 (h1 v)
   · rw [if_neg hc] at h
     obtain ⟨l1, e1, F1, m1, o1⟩ := mo l n f st fin F (hf f (by simp)) hr (by simpa using hc)
     exact mp n r _ _ F1 (fun f' h' => by rw [l1]; exact hf f' (by simp [h'])) (fun v g hv => by rw [l1]; exact hr v g hv) (Nat.lt_of_le_of_lt (ff l n f st).1 hz) (fun v e => h1 v ((o1 v).2 e)) h
end
open Go Go.Proofs Go.Proofs.Tryz
theorem Frz.mapV {κ β : Type} [DecidableEq κ] {kv : κ -> Value} {R : Rp β} {v : Value} {m : List (κ × β)} {S : List SP} : Frz (bD kv R v m :: S) (rV.ty v) (d6 kv R m) := fun h mm u d hs hu => GA h mm u d hs hu.1
theorem C7 : TyOf prog 216 rV := ⟨fun w => isAgg216 w, fun w => sizeOf216 w⟩
abbrev MapB := List (Int × Bool)
def pT (m : MapB) (ts : List Int) : MapB := ts.foldl (fun m t => if 0 <= t then mput m t true else m) m
def C8 (m : MapB) (ts : List Int) : Bool := !(ts.any fun t => decide (0 <= t) && !((mget m t).getD false))
abbrev keyT (q : GConj) (i : Nat) : List Int := (nth q.Atoms i).Terms.take (nth q.Atoms i).Key.toNat
def fg (q : GConj) (w : Int) (m : MapB) : Nat -> MapB
  | 0 => m
  | i + 1 => if (i : Int) ≠ w /\ C8 (fg q w m i) (keyT q i) = true then pT (fg q w m i) (nth q.Atoms i).Terms else fg q w m i
inductive ClV (q : GConj) (w : Int) (vars : List Int) : Int -> Prop
  | base {t : Int} : t ∈ vars -> ClV q w vars t
  | step {H : Nat} {t : Int} : H < q.Atoms.length -> (H : Int) ≠ w -> (∀ t' ∈ keyT q H, 0 <= t' -> ClV q w vars t') -> t ∈ (nth q.Atoms H).Terms -> ClV q w vars t
def BR (q : GConj) (vars : List Int) : List Int := vars ++ q.Atoms.flatMap (·.Terms)
structure GoodM (q : GConj) (w : Int) (vars : List Int) (m : MapB) : Prop where
  nd : (m.map (·.1)).Nodup
  ok : ∀ x ∈ m, x.2 = true /\ 0 <= x.1 /\ ClV q w vars x.1 /\ x.1 ∈ BR q vars
  base : ∀ t ∈ vars, 0 <= t -> t ∈ m.map (·.1)
theorem o5 {m : MapB} {t s : Int} {b : Bool} : s ∈ (mput m t b).map (·.1) ↔ s = t \/ s ∈ m.map (·.1) := by
  rw [lK]
  split
  · rename_i h
    exact ⟨.inr, fun q => q.elim (fun e => e ▸ h) id⟩
  · rw [List.mem_append, List.mem_singleton]; exact ⟨fun h => h.elim .inr .inl, fun h => h.elim .inr .inl⟩
theorem zM {m : MapB} {t : Int} {b : Bool} {x : Int × Bool} (h : x ∈ mput m t b) : x = (t, b) \/ x ∈ m := by
  induction m with
  | nil => simp [mput] at h; exact .inl h
  | cons a m ih =>
    obtain ⟨k, y⟩ := a
    simp only [mput] at h
    split at h
    · rcases List.mem_cons.1 h with h | h
      · exact .inl h
      · exact .inr (by simp [h])
    · rcases List.mem_cons.1 h with h | h
      · exact .inr (by simp [h])
      · exact (ih h).imp id (fun h => by simp [h])
theorem gc : ∀ (ts : List Int) (m : MapB) (s : Int), s ∈ (pT m ts).map (·.1) ↔ s ∈ m.map (·.1) \/ (s ∈ ts /\ 0 <= s)
  | [], m, s => by simp [pT]
  | t :: ts, m, s => by
    have ih := gc ts (if 0 <= t then mput m t true else m) s
    have e : pT m (t :: ts) = pT (if 0 <= t then mput m t true else m) ts := rfl
    rw [e, ih]
    split
    · rename_i h0
      rw [o5]
      constructor
      · rintro ((h | h) | h)
        · exact .inr ⟨by simp [h], h ▸ h0⟩
        · exact .inl h
        · exact .inr ⟨by simp [h.1], h.2⟩
      · rintro (h | ⟨h, h1⟩)
        · exact .inl (.inr h)
        · rcases List.mem_cons.1 h with h | h
          · exact .inl (.inl h)
          · exact .inr ⟨h, h1⟩
    · rename_i h0
      constructor
      · rintro (h | h)
        · exact .inl h
        · exact .inr ⟨by simp [h.1], h.2⟩
      · rintro (h | ⟨h, h1⟩)
        · exact .inl h
        · rcases List.mem_cons.1 h with h | h
          · exact absurd (h ▸ h1) h0
          · exact .inr ⟨h, h1⟩
theorem su : ∀ (ts : List Int) {m : MapB}, (m.map (·.1)).Nodup -> ((pT m ts).map (·.1)).Nodup
  | [], m, h => h
  | t :: ts, m, h => by
    show ((pT (if 0 <= t then mput m t true else m) ts).map (·.1)).Nodup
    apply su
    split
    · exact uN h _ _
    · exact h
theorem o6 : ∀ (ts : List Int) {m : MapB} {x : Int × Bool}, x ∈ pT m ts -> x ∈ m \/ (x.2 = true /\ 0 <= x.1 /\ x.1 ∈ ts)
  | [], m, x, h => .inl h
  | t :: ts, m, x, h => by
    have h : x ∈ pT (if 0 <= t then mput m t true else m) ts := h
    rcases o6 ts h with h | ⟨h1, h2, h3⟩
    · split at h
      · rename_i h0
        rcases zM h with rfl | h
        · exact .inr ⟨rfl, h0, by simp⟩
        · exact .inl h
      · exact .inl h
    · exact .inr ⟨h1, h2, by simp [h3]⟩
theorem GoodM.val {q : GConj} {w : Int} {vars : List Int} {m : MapB} (g : GoodM q w vars m) (t : Int) : (mget m t).getD false = true ↔ t ∈ m.map (·.1) := by
  constructor
  · intro h
    cases e : mget m t with
    | none => rw [e] at h; cases h
    | some b => exact List.mem_map.2 ⟨(t, b), (tt g.nd).1 e, rfl⟩
  · intro h
    obtain ⟨⟨s, b⟩, hx, e⟩ := List.mem_map.1 h
    have e : s = t := e
    subst e
    have hb := (g.ok _ hx).1
    have hb : b = true := hb
    rw [(tt g.nd).2 hx, hb]; rfl
theorem GoodM.cov {q : GConj} {w : Int} {vars : List Int} {m : MapB} (g : GoodM q w vars m) (ts : List Int) : C8 m ts = true ↔ ∀ t ∈ ts, 0 <= t -> t ∈ m.map (·.1) := by
  unfold C8
  rw [Bool.not_eq_true', List.any_eq_false]
  refine forall_congr' fun t => forall_congr' fun ht => ?_
  rw [Bool.and_eq_true, Bool.not_eq_true', decide_eq_true_eq, <- g.val t]
  constructor
  · intro h h0
    cases e : (mget m t).getD false with
    | true => rfl
    | false => exact absurd ⟨h0, e⟩ h
  · rintro h ⟨h0, h1⟩
    rw [h h0] at h1; cases h1
theorem xd {q : GConj} {vars : List Int} {H : Nat} {t : Int} (hH : H < q.Atoms.length) (ht : t ∈ (nth q.Atoms H).Terms) : t ∈ BR q vars :=
  List.mem_append_right _ (List.mem_flatMap.2 ⟨_, nth_mem hH, ht⟩)
theorem gd {q : GConj} {w : Int} {vars : List Int} {m : MapB} (g : GoodM q w vars m) : ∀ i, i <= q.Atoms.length -> GoodM q w vars (fg q w m i) /\ ∀ s, s ∈ m.map (·.1) -> s ∈ (fg q w m i).map (·.1)
  | 0, _ => ⟨g, fun _ h => h⟩
  | i + 1, hi => by
    obtain ⟨g1, s1⟩ := gd g i (by omega)
    simp only [fg]
    split
    · rename_i h
      have hc := (g1.cov _).1 h.2
      refine ⟨⟨su _ g1.nd, fun x hx => ?_, fun t ht h0 => (gc _ _ _).2 (.inl (g1.base t ht h0))⟩, fun s hs => (gc _ _ _).2 (.inl (s1 s hs))⟩
      rcases o6 _ hx with hx | ⟨h1, h2, h3⟩
      · exact g1.ok x hx
      · refine ⟨h1, h2, ClV.step (by omega) h.1 (fun t' ht' h0 => ?_) h3, xd (by omega) h3⟩
        obtain ⟨y, hy, e⟩ := List.mem_map.1 (hc t' ht' h0)
        have := (g1.ok y hy).2.2.1
        rw [e] at this; exact this
    · exact ⟨g1, s1⟩
theorem GoodM.len {q : GConj} {w : Int} {vars : List Int} {m : MapB} (g : GoodM q w vars m) : m.length <= (BR q vars).length := by
  have := mn (U := BR q vars) g.nd (fun x hx => by
    obtain ⟨y, hy, e⟩ := List.mem_map.1 hx
    have := (g.ok y hy).2.2.2
    rw [e] at this; exact this)
  simpa using this
theorem qp {α : Type} [DecidableEq α] {a b : List α} (ha : a.Nodup) (hb : b.Nodup) (h : ∀ x ∈ a, x ∈ b) (hl : b.length <= a.length) : ∀ x ∈ b, x ∈ a := by
  intro x hx
  apply Classical.byContradiction
  intro hn
  have := mn (l := x :: a) (U := b) (List.nodup_cons.2 ⟨hn, ha⟩) (fun y hy => by
    rcases List.mem_cons.1 hy with rfl | hy
    · exact hx
    · exact h y hy)
  simp at this; omega
theorem vi {q : GConj} {w : Int} {vars : List Int} {m : MapB} (g : GoodM q w vars m) (hl : (fg q w m q.Atoms.length).length <= m.length) {t : Int} (h : ClV q w vars t) (h0 : 0 <= t) : t ∈ (fg q w m q.Atoms.length).map (·.1) := by
  obtain ⟨gn, sn⟩ := gd g q.Atoms.length (Nat.le_refl _)
  have back := qp g.nd gn.nd sn (by simpa using hl)
  have mono : ∀ i j, i <= j -> j <= q.Atoms.length -> ∀ s, s ∈ (fg q w m i).map (·.1) -> s ∈ (fg q w m j).map (·.1) := by
    intro i j hij
    induction hij with
    | refl => intro _ s h; exact h
    | @step j hij ih =>
      intro hj s hs
      have := ih (by omega) s hs
      simp only [fg]
      split
      · exact (gc _ _ _).2 (.inl this)
      · exact this
  induction h with
  | base h => exact gn.base _ h h0
  | @step H t hH hw _ ht ih =>
    obtain ⟨gH, sH⟩ := gd g H (by omega)
    have hc : C8 (fg q w m H) (keyT q H) = true := (gH.cov _).2 (fun t' ht' h0' => sH _ (back _ (ih t' ht' h0' h0')))
    refine mono (H + 1) _ (by omega) (Nat.le_refl _) t ?_
    simp only [fg]
    rw [if_pos ⟨hw, hc⟩]
    exact (gc _ _ _).2 (.inr ⟨ht, h0⟩)
structure ClRes (q : GConj) (w : Int) (vars : List Int) (m : MapB) : Prop where
  good : GoodM q w vars m
  all : ∀ t, 0 <= t -> ((mget m t).getD false = true ↔ ClV q w vars t)
theorem C9 {q : GConj} {w : Int} {vars : List Int} {m : MapB} (g : GoodM q w vars m) (hl : (fg q w m q.Atoms.length).length <= m.length) : ClRes q w vars (fg q w m q.Atoms.length) := by
  obtain ⟨gn, sn⟩ := gd g q.Atoms.length (Nat.le_refl _)
  refine ⟨gn, fun t h0 => ⟨fun h => ?_, fun h => (gn.val t).2 (vi g hl h h0)⟩⟩
  obtain ⟨y, hy, e⟩ := List.mem_map.1 ((gn.val t).1 h)
  have := (gn.ok y hy).2.2.1
  rw [e] at this; exact this
theorem vj (q : GConj) (w : Int) (vars : List Int) : GoodM q w vars (pT [] vars) where
  nd := su _ (by simp)
  ok := fun x hx => by
    rcases o6 _ hx with hx | ⟨h1, h2, h3⟩
    · cases hx
    · exact ⟨h1, h2, .base h3, List.mem_append_left _ h3⟩
  base := fun t ht h0 => (gc _ _ _).2 (.inr ⟨ht, h0⟩)
def CInv (q : GConj) (w : Int) (vars : List Int) (m : MapB) (size : Int) : Prop := GoodM q w vars m /\ -1 <= size /\ (size = -1 \/ ∃ m0, GoodM q w vars m0 /\ size = m0.length /\ m = fg q w m0 q.Atoms.length)
theorem CInv.res {q : GConj} {w : Int} {vars : List Int} {m : MapB} {size : Int} (h : CInv q w vars m size) (hx : ¬ size < m.length) : ClRes q w vars m := by
  obtain ⟨g, _, h | ⟨m0, g0, e1, rfl⟩⟩ := h
  · omega
  · exact C9 g0 (by omega)
theorem qr {m : MapB} {ts : List Int} {i : Nat} (h : i < ts.length) : pT m (ts.take (i + 1)) = if 0 <= nth ts i then mput (pT m (ts.take i)) (nth ts i) true else pT m (ts.take i) := by
  rw [di h]; simp [pT]
theorem dR {q : GConj} (hq : bE q = true) {i : Nat} (hi : i < q.Atoms.length) : 1 <= (nth q.Atoms i).Cols.length /\ (nth q.Atoms i).Cols.length <= 12 /\ (nth q.Atoms i).Terms.length = (nth q.Atoms i).Cols.length /\ 1 <= (nth q.Atoms i).Key /\ (nth q.Atoms i).Key <= (nth q.Atoms i).Cols.length := by
  unfold bE at hq
  rw [Bool.and_eq_true] at hq
  have h1 := ez.1 hq.2 i hi
  unfold okA at h1
  simp only [Bool.and_eq_true, decide_eq_true_eq] at h1
  exact h1.1.2
theorem fG {q : GConj} (hq : bE q = true) : 0 <= q.Vars /\ q.Vars <= 240 /\ q.Consts.length <= 240 /\ q.Atoms.length <= 20 := by
  unfold bE at hq
  simp only [Bool.and_eq_true, decide_eq_true_eq] at hq
  exact hq.1.1
theorem mq (v : Value) (m : MapB) (ts : List Int) (hl : ts.length <= 1000000000000) : Spec (X := Unit) prog 189 [rV.ty v, tSl aO ts] ([bD kvI bN v m]) (fun _ => fW []) (fun _ => [bD kvI bN v (pT m ts)]) := by
 refine Spec.enter func189 rfl rfl fun h0 w0 fr0 => ?_
 refine Jr (Zm (Zs (ag underlying27 Sr) (Zm (ab (au ?_)))))
 refine aK (σ := Nat) (fun i => i <= ts.length) (fun i => upd (upd (upd (upd co 0 (rV.ty v)) 6 (tSl aO ts)) 7 (tV (.int .i64 ts.length))) 8 (tV (.int .i64 i))) (fun i => [bD kvI bN v (pT m (ts.take i))]) (fun i => ts.length - i) 0 zG (zU) (.c zS (SPs.of (by simp [pT])) (LSub.nil)) ?_
 rintro i hi
 refine Jr (Zs (az Sr Sr) (ab (ap ?_)))
 refine am Sr (fun h9 => ?_) (fun h9 => ?_)
 ·
  try simp only [NF] at h9
  have hlt : i < ts.length := by omega
  refine av (ap (au (Jr ?_)))
  refine Zs (ae  underlying27 ty3 Sr Sr rfl (gb (by exact hlt))) ?_
  refine Zl ty3 Sr (Za (ab (Jr (Zm (Zs (bA Sr Sr) ?_)))))
  refine ab ?_
  refine am Sr (fun h13 => ?_) (fun h13 => ?_)
  ·
   try simp only [NF] at h13
   refine ah (Zm (Zm ?_))
   refine Ju (dc (kv := kvI) (R := bN) (KeyT.int underlying3) underlying216 F9 Sr Sr zS) fun _ => ?_
   refine ab (ah (Zs (ax Sr Sr z6) (Zm (ab ?_))))
   refine ay (σ := Nat) (s := i) (i + 1) zO zG (zU) (.c zS (SPs.of (by rw [qr hlt, if_pos h13])) (LSub.nil))
  try simp only [NF] at h13
  refine av (ah (Zs (ax Sr Sr z6) (Zm (ab ?_))))
  refine ay (σ := Nat) (s := i) (i + 1) zO zG (zU) (.c zS (SPs.of (by rw [qr hlt, if_neg zG])) (LSub.nil))
 try simp only [NF] at h9
 refine aV ?_
 refine a7 (.c zS (SPs.of (by rw [List.take_of_length_le zG])) (LSub.nil)) ?_
 refine iU rfl () Sr
theorem qs (v : Value) (m : MapB) (t : Int) : Spec (X := Unit) prog 205 [tV (.int .i64 t), bx rV v] ([bD kvI bN v m]) (fun _ => tV (.bool (decide (0 <= t) && !((mget m t).getD false)))) (fun _ => [bD kvI bN v m]) := by
 refine Spec.enter func205 rfl rfl fun h0 w0 fr0 => ?_
 refine Jr (Za (ab (Jr (Zm (Zs (bA Sr Sr) ?_)))))
 refine Zm ?_
 refine Zk (ad C7 Sr) ?_
 refine Zk (ar Sr) ?_
 refine Zg (fun hw => lL (kv := kvI) (R := bN) (z := false) (KeyT.int underlying3) underlying216 (fun w => zeroValue4 w) zr4 (Sub.trans (Sub.w hw) F9) (Sub.w hw) zS) ?_
 refine Zg (fun hw => bc (Sub.w hw)) (Zs (aw Sr Sr) (Za (ab (aC ?_))))
 refine bz (rv := .tmp 3) rfl () (.tmp Sr) (Sub.bool ?_)
 simp
theorem sv (v : Value) (m : MapB) (ts : List Int) (hl : ts.length <= 1000000000000) : Spec (X := Unit) prog 190 [rV.ty v, tSl aO ts] ([bD kvI bN v m]) (fun _ => tV (.bool (C8 m ts))) (fun _ => [bD kvI bN v m]) := by
 refine Spec.enter func190 rfl rfl fun h0 w0 fr0 => ?_
 refine Jr ?_
 refine Zx (cL (R := rV) Sr) fun v2 => ?_
 refine Za (ab (Jr ?_))
 refine aN (t := 2) (Sel.take (FN _)) Frz.box ?_
 refine Zm (Zs (bl (As := [_]) ⟨Sr, trivial⟩) ?_)
 refine Zx (aR (Sel.all _) (fC ts hl 205 [bx rV v] (bD kvI bN v m) (fun t => decide (0 <= t) && !((mget m t).getD false)) (fun x _ => qs v m x) call205) ⟨Sr, Sr, trivial⟩ call43) fun v7 => ?_
 refine Zs (bc Sr) (Za (ab (aC ?_)))
 refine bz (rv := .tmp 4) rfl () (.tmp Sr) Sr
theorem qt (q : GConj) (hq : bE q = true) (w : Int) (vars : List Int) (hl : vars.length <= 1000000000) : Spec (X := { m : MapB // ClRes q w vars m }) prog 171 [bK.ty q, tV (.int .i64 w), tSl aO vars] ([]) (fun m => d6 kvI bN m.1) (fun m => []) := by
 refine Spec.enter func171 rfl rfl fun h0 w0 fr0 => ?_
 have hvb := fG hq
 refine Jr (Zs (aF (R := bK) Sr) (Za (ab (Jr ?_))))
 refine Zx (eO (kv := kvI) (R := bN)) fun v11 => ?_
 refine Za (ab (Jr (Zm (Zm ?_))))
 refine Zx (aR zS (mq v11 [] vars zG) ⟨Sr, Sr, trivial⟩ call189) fun v14 => ?_
 refine ab (ap (Jr (Za (ab (au ?_)))))
 refine aK (σ := MapB × Int) (fun ⟨m, size⟩ => CInv q w vars m size) (fun ⟨m, size⟩ => upd (upd (upd (upd co 1 (tV (.int .i64 w))) 3 (bx bK q)) 7 (rV.ty v11)) 8 (tV (.int .i64 size))) (fun ⟨m, size⟩ => [bD kvI bN v11 m]) (fun ⟨m, size⟩ => ((BR q vars).length + 1 - size).toNat) (pT [] vars, -1) ⟨vj q w vars, by omega, .inl rfl⟩ (zU) (zL) ?_
 rintro ⟨m, size⟩ hci
 try dsimp only at hci
 refine ap (Jr (Zm (Zm ?_)))
 refine Zs (fA underlying216 Sr zS) ?_
 refine Zs (az Sr Sr) (ab ?_)
 refine am Sr (fun h18 => ?_) (fun h18 => ?_)
 ·
  try simp only [NF] at h18
  refine av (au (Jr (Zm ?_)))
  refine Zs (fA underlying216 Sr zS) ?_
  refine Za (ab (Jr (Zs (aa ft Sr rfl) (Zl lx Sr (Zs (ag underlying47 Sr) ?_)))))
  refine Zm (ab (au ?_))
  refine aK (σ := Nat) (fun i => i <= q.Atoms.length) (fun i => upd (upd (upd (upd (upd (upd (upd (upd (upd (upd (upd co 1 (tV (.int .i64 w))) 3 (bx bK q)) 7 (rV.ty v11)) 8 (tV (.int .i64 m.length))) 15 (tV (.int .i64 size))) 16 (rV.ty v11)) 19 (rV.ty v11)) 20 (tV (.int .i64 m.length))) 22 (tSl cg q.Atoms)) 23 (tV (.int .i64 q.Atoms.length))) 24 (tV (.int .i64 i))) (fun i => [bD kvI bN v11 (fg q w m i)]) (fun i => q.Atoms.length - i) 0 zG (zU) (.c zS (SPs.of rfl) (LSub.nil)) ?_
  rintro i hi
  refine Jr (Zs (az Sr Sr) (ab (ap ?_)))
  refine am Sr (fun h25 => ?_) (fun h25 => ?_)
  ·
   try simp only [NF] at h25
   have hlt : i < q.Atoms.length := by omega
   refine av (ap (au (Jr (Zm ?_))))
   refine Zs (ae  underlying47 gO Sr Sr rfl (gb (by exact hlt))) ?_
   refine Zl gO Sr ?_
   refine Zx (aE (fun w => zeroValue88 w) zu) fun v10 => ?_
   refine Za ?_
   refine Ju (ai gO Sr Sr zS) fun _ => ?_
   refine aN (t := 10) (Sel.take (FN _)) Frz.box ?_
   refine ab (Jr (Zm (Zm (Zs (be Sr Sr) (Zm ?_)))))
   refine Zk (ar Sr) ?_
   refine Zk (aa fY Sr rfl) ?_
   refine Zg (fun hw => ad dn (Sub.w hw)) ?_
   refine Zk (aa fY Sr rfl) ?_
   refine Zg (fun hw => ad ty3 (Sub.w hw)) ?_
   refine Zg (fun hw => dz (n := (nth q.Atoms i).Key.toNat) underlying27 ty3 (Sub.w hw) (Sub.w hw) (by have hwq := hw; (try simp only [beqB_t, beqB_f, NF] at hwq); have := dR hq hlt; show (nth q.Atoms i).Key = (((nth q.Atoms i).Key.toNat : Nat) : Int); omega) (by have hwq := hw; (try simp only [beqB_t, beqB_f, NF] at hwq); have := dR hq hlt; show (nth q.Atoms i).Key.toNat <= (nth q.Atoms i).Terms.length; omega)) ?_
   refine p6 (tV (.bool false)) rfl rfl rfl (FS Sr) rfl rfl (fun hw => aR zS (sv v11 (fg q w m i) (keyT q i) (by have := dR hq hlt; rw [List.length_take]; omega)) ⟨(Sub.w hw), (Sub.w hw), trivial⟩ call190) (fun hw v39 => ?_) (fun hw => ?_)
   ·
    skip
    refine Zs (aw Sr Sr) (ab ?_)
    refine am Sr (fun h40 => ?_) (fun h40 => ?_)
    ·
     try simp only [NF] at h40
     refine ah (Zm (Zs (aa fY Sr rfl) (Zl dn Sr ?_)))
     refine Zx (aR zS (mq v11 (fg q w m i) (nth q.Atoms i).Terms (by have := dR hq hlt; omega)) ⟨Sr, Sr, trivial⟩ call189) fun v44 => ?_
     refine ab (ah (Zs (ax Sr Sr z6) (Zm (ab ?_))))
     refine ay (σ := Nat) (s := i) (i + 1) zO zG (zU) (.c zS (SPs.of (by simp only [fg]; rw [if_pos (by simp_all)])) (LSub.nil))
    try simp only [NF] at h40
    refine av (ah (Zs (ax Sr Sr z6) (Zm (ab ?_))))
    refine ay (σ := Nat) (s := i) (i + 1) zO zG (zU) (.c zS (SPs.of (by simp only [fg]; rw [if_neg (by simp_all)])) (LSub.nil))
   skip
   refine Zs (aw Sr Sr) (ab ?_)
   refine am Sr (fun h40 => ?_) (fun h40 => ?_)
   ·
    try simp only [NF] at h40
    first | contradiction | omega | (simp_all; done)
   try simp only [NF] at h40
   refine av (ah (Zs (ax Sr Sr z6) (Zm (ab ?_))))
   refine ay (σ := Nat) (s := i) (i + 1) zO zG (zU) (.c zS (SPs.of (by simp only [fg]; rw [if_neg (by simp_all)])) (LSub.nil))
  try simp only [NF] at h25
  refine aV ?_
  have hg := (gd hci.1 q.Atoms.length (Nat.le_refl _)).1
  have hlm := hci.1.len
  have hsz := hci.2.1
  refine ay (σ := MapB × Int) (s := (m, size)) (fg q w m q.Atoms.length, m.length) (by show (((BR q vars).length : Int) + 1 - (m.length : Int)).toNat < (((BR q vars).length : Int) + 1 - size).toNat; omega) ⟨hg, by omega, .inr ⟨m, hci.1, rfl, rfl⟩⟩ (zU) (.c zS (SPs.of (by rw [show i = q.Atoms.length by omega])) (LSub.nil))
 try simp only [NF] at h18
 refine aV (Jr (Zm (Za (ab (aC ?_)))))
 refine aY (rv := .tmp 6) rfl ⟨m, hci.res zG⟩ (Sel.all _) (.tmp Sr) Frz.mapV
def tEx {X : Type} (T : X -> Ty) : Ty := ⟨fun h v => ∃ x, (T x).p h v, fun l ⟨x, a⟩ => ⟨x, (T x).mono l a⟩⟩
theorem Spec.ex {X : Type} {P : Program} {f : Nat} {aT : List Ty} {T : X -> Ty} (h : Spec (X := X) P f aT [] T (fun _ => [])) : Fun1 P f aT (tEx T) := fun vs h0 m r w ha sp st =>
  (h vs h0 m r w ha sp st).mono fun e w' ⟨x, u, h', m', e1, l, s, st', hu⟩ => ⟨(), u, h', m', e1, l, s, st', ⟨x, hu⟩⟩
theorem Em {X : Type} {C : Cx} {k : Act -> World -> Prop} {E : Env} {L : List SP} {t : Nat} {A : X -> Ty} (hE : ∀ h v, (E t).p h v -> ∃ x, (A x).p h v) (hk : ∀ x, K C k (upd E t (A x)) L) : K C k E L :=
  fun a w ⟨n, ds, h, m, l, sp, st, fr⟩ => by
  obtain ⟨x, hx⟩ := hE h _ (fr t)
  refine hk x a w ⟨n, ds, h, m, l, sp, st, fun u => ?_⟩
  by_cases e : u = t
  · subst e; rw [de]; exact hx
  · rw [bV _ _ e]; exact fr u
theorem xe {κ β X : Type} [DecidableEq κ] {kv : κ -> Value} {R : Rp β} {m : X -> List (κ × β)} : ∀ h v, (tEx fun x => d6 kv R (m x)).p h v -> v.oneCell' = true := by
  rintro h v ⟨x, hx⟩
  obtain ⟨r, es, rfl, _⟩ := lO hx; rfl
theorem Da {κ β X : Type} [DecidableEq κ] {kv : κ -> Value} {R : Rp β} {m : X -> List (κ × β)} : ∀ h v, (bx (uR (tEx fun x => d6 kv R (m x)) xe) ()).p h v -> ∃ x, (bx (rOM kv R) (some (m x))).p h v := by
  rintro h v ⟨b, off, cs, rfl, H, u, rfl, x, hx⟩
  exact ⟨x, b, off, [u], rfl, H, u, rfl, hx⟩
theorem LSub.unstars {A L : List SP} : LSub (Lg.stars A :: L) (A ++ L) := fun h m p => cj.2 p
theorem Db : TyOf prog 216 (rOM kvI bN) := ⟨fun w => isAgg216 w, fun w => sizeOf216 w⟩
inductive RcQ (q : GConj) (f : Nat) : Nat -> Prop
  | refl : RcQ q f f
  | step {H K : Nat} {t : Int} : RcQ q f H -> H < q.Atoms.length -> K < q.Atoms.length -> t ∈ (nth q.Atoms H).Terms -> t ∈ (nth q.Atoms K).Terms -> 0 <= t -> ¬ ClV q f (keyT q f) t -> RcQ q f K
open Classical in
noncomputable def wA (q : GConj) (f : Nat) : List Bool := (List.range q.Atoms.length).map fun h => decide (RcQ q f h /\ h ≠ f)
abbrev CO (q : GConj) (m : MapB) (x : Nat) (t : Int) : Bool := (decide (0 <= t) && !((mget m t).getD false)) && ((nth q.Atoms x).Terms.any fun s => decide (t = s))
def lnk (q : GConj) (m : MapB) (x k : Nat) : Bool := (nth q.Atoms k).Terms.any (CO q m x)
theorem xf {q : GConj} {f : Nat} {m : MapB} (hm : ClRes q f (keyT q f) m) {x k : Nat} : lnk q m x k = true ↔ ∃ t, t ∈ (nth q.Atoms x).Terms /\ t ∈ (nth q.Atoms k).Terms /\ 0 <= t /\ ¬ ClV q f (keyT q f) t := by
  unfold lnk
  rw [List.any_eq_true]
  constructor
  · rintro ⟨t, ht, h⟩
    simp only [CO, Bool.and_eq_true, Bool.not_eq_true', decide_eq_true_eq, List.any_eq_true] at h
    obtain ⟨⟨h0, h1⟩, s, hs, e⟩ := h
    subst e
    exact ⟨t, hs, ht, h0, fun q => by rw [(hm.all t h0).2 q] at h1; cases h1⟩
  · rintro ⟨t, h1, h2, h0, h3⟩
    refine ⟨t, h2, ?_⟩
    simp only [CO, Bool.and_eq_true, Bool.not_eq_true', decide_eq_true_eq, List.any_eq_true]
    refine ⟨⟨h0, ?_⟩, t, h1, rfl⟩
    cases e : (mget m t).getD false with
    | false => rfl
    | true => exact absurd ((hm.all t h0).1 e) h3
structure BInv (q : GConj) (f : Nat) (m : MapB) (out : List Bool) (w : List Int) (x : Option Nat) : Prop where
  len : out.length = q.Atoms.length
  self : nth out f = true
  rc : ∀ h, h < q.Atoms.length -> nth out h = true -> RcQ q f h
  wok : ∀ y ∈ w, ∃ h : Nat, y = h /\ h < q.Atoms.length /\ nth out h = true
  cl : ∀ h, h < q.Atoms.length -> nth out h = true -> (h : Int) ∉ w -> some h ≠ x -> ∀ k, k < q.Atoms.length -> lnk q m h k = true -> nth out k = true
theorem xg : ∀ {out : List Bool} {k : Nat}, k < out.length -> nth out k = false -> (out.set k true).count false + 1 = out.count false
  | [], k, h, _ => by simp at h
  | a :: out, 0, _, h => by
    have h : a = false := h
    subst h; simp
  | a :: out, k + 1, h, h0 => by
    have := xg (out := out) (k := k) (by simpa using h) h0
    simp only [List.set_cons_succ, List.count_cons] at this ⊢
    omega
theorem dH {out : List Bool} {k j : Nat} (h : j < out.length) : nth (out.set k true) j = if k = j then true else nth out j := Lg.nth_set h
theorem BInv.add {q : GConj} {f : Nat} {m : MapB} {out : List Bool} {w : List Int} {x k : Nat} (b : BInv q f m out w (some x)) (hm : ClRes q f (keyT q f) m) (hf : f < q.Atoms.length) (hx : x < q.Atoms.length) (hxo : nth out x = true) (hk : k < q.Atoms.length) (hl : lnk q m x k = true) (h0 : nth out k = false) :
    BInv q f m (out.set k true) (w ++ [(k : Int)]) (some x) where
  len := by rw [List.length_set]; exact b.len
  self := by
    have := b.self
    rw [dH (by rw [b.len]; exact hf)]; split <;> simp [this]
  rc := fun h hh e => by
    rw [dH (by rw [b.len]; exact hh)] at e
    split at e
    · rename_i q; subst q
      obtain ⟨t, h1, h2, h3, h4⟩ := (xf hm).1 hl
      exact .step (b.rc x hx hxo) hx hk h1 h2 h3 h4
    · exact b.rc h hh e
  wok := fun y hy => by
    rcases List.mem_append.1 hy with hy | hy
    · obtain ⟨h, e, h1, h2⟩ := b.wok y hy
      refine ⟨h, e, h1, ?_⟩
      rw [dH (by rw [b.len]; exact h1)]; split <;> simp [h2]
    · simp only [List.mem_singleton] at hy
      refine ⟨k, hy, hk, ?_⟩
      rw [dH (by rw [b.len]; exact hk), if_pos rfl]
  cl := fun h hh e hw hne j hj hlj => by
    rw [dH (by rw [b.len]; exact hh)] at e
    have hw : (h : Int) ∉ w /\ ¬ (h : Int) = (k : Int) := by simpa [not_or] using hw
    rw [if_neg (by omega)] at e
    rw [dH (by rw [b.len]; exact hj)]
    split
    · rfl
    · exact b.cl h hh e hw.1 hne j hj hlj
theorem BInv.next {q : GConj} {f : Nat} {m : MapB} {out : List Bool} {r : List Int} {x : Nat} (b : BInv q f m out ((x : Int) :: r) (some x)) (hx : ∀ k, k < q.Atoms.length -> lnk q m x k = true -> nth out k = true) : BInv q f m out r none where
  len := b.len
  self := b.self
  rc := b.rc
  wok := fun y hy => b.wok y (by simp [hy])
  cl := fun h hh e hw _ k hk hl => by
    by_cases q : h = x
    · subst q; exact hx k hk hl
    · exact b.cl h hh e (by simp only [List.mem_cons, not_or]; exact ⟨by omega, hw⟩) (fun e => by injection e with e; exact q e) k hk hl
theorem BInv.open {q : GConj} {f : Nat} {m : MapB} {out : List Bool} {w : List Int} (b : BInv q f m out w none) (x : Nat) : BInv q f m out w (some x) where
  len := b.len
  self := b.self
  rc := b.rc
  wok := b.wok
  cl := fun h hh e hw _ k hk hl => b.cl h hh e hw (by simp) k hk hl
theorem BInv.start {q : GConj} {f : Nat} {m : MapB} (hf : f < q.Atoms.length) : BInv q f m ((List.replicate q.Atoms.length false).set f true) [(f : Int)] none := by
  have hn : ∀ h, h < q.Atoms.length -> nth (List.replicate q.Atoms.length false) h = false := fun h hh => by rw [nth_get (by simpa using hh)]; simp
  refine ⟨by simp, by rw [dH (by simpa using hf), if_pos rfl], fun h hh e => ?_, fun y hy => ⟨f, by simpa using hy, hf, by rw [dH (by simpa using hf), if_pos rfl]⟩, fun h hh e hw _ k hk hl => ?_⟩
  · rw [dH (by simpa using hh), hn h hh] at e
    split at e
    · rename_i q; subst q; exact .refl
    · cases e
  · rw [dH (by simpa using hh), hn h hh] at e
    split at e
    · rename_i q; subst q; simp at hw
    · cases e
theorem BInv.res {q : GConj} {f : Nat} {m : MapB} {out : List Bool} (hm : ClRes q f (keyT q f) m) (hf : f < q.Atoms.length) (b : BInv q f m out [] none) : out.set f false = wA q f := by
  have hall : ∀ h, RcQ q f h -> h < q.Atoms.length -> nth out h = true := by
    intro h r
    induction r with
    | refl => intro _; exact b.self
    | step r hH hK h1 h2 h3 h4 ih => intro _; exact b.cl _ hH (ih hH) (by simp) (by simp) _ hK ((xf hm).2 ⟨_, h1, h2, h3, h4⟩)
  apply List.ext_getElem?
  intro i
  unfold wA
  by_cases hi : i < q.Atoms.length
  · rw [List.getElem?_set, List.getElem?_map, List.getElem?_range hi]
    by_cases e : f = i
    · subst e; simp [b.len, hi]
    · rw [if_neg e, List.getElem?_eq_getElem (by rw [b.len]; exact hi)]
      simp only [Option.map_some, Option.some.injEq]
      rw [<- nth_get]
      by_cases r : RcQ q f i
      · rw [hall i r hi]; simp [r, Ne.symm e]
      · cases e2 : nth out i with
        | false => simp [r]
        | true => exact absurd (b.rc i hi e2) r
  · rw [List.getElem?_eq_none (by simp [b.len]; omega), List.getElem?_eq_none (by simp; omega)]
theorem xh {q : GConj} {f x i n0 : Nat} {m : MapB} {out2 : List Bool} {r : List Int} (hm : ClRes q f (keyT q f) m) (hf : f < q.Atoms.length) (hx : x < q.Atoms.length) (hlt : i < q.Atoms.length) (hbi : BInv q f m out2 ((x : Int) :: r) (some x)) (hxo : nth out2 x = true) (hlk : ∀ k, k < i -> lnk q m x k = true -> nth out2 k = true) (hms : 2 * out2.count false + r.length <= n0) (hl : lnk q m x i = true) (h0 : nth out2 i = false) :
    i + 1 <= q.Atoms.length /\ BInv q f m (out2.set i true) ((x : Int) :: (r ++ [(i : Int)])) (some x) /\ nth (out2.set i true) x = true /\ (∀ k, k < i + 1 -> lnk q m x k = true -> nth (out2.set i true) k = true) /\ 2 * (out2.set i true).count false + (r ++ [(i : Int)]).length <= n0 := by
  have hil : i < out2.length := by rw [hbi.len]; exact hlt
  have hc := xg hil h0
  refine ⟨hlt, hbi.add hm hf hx hxo hlt hl h0, ?_, fun k hk hlk' => ?_, ?_⟩
  · rw [dH (by rw [hbi.len]; exact hx)]; split <;> simp [hxo]
  · rw [dH (by rw [hbi.len]; omega)]
    split
    · rfl
    · exact hlk k (by omega) hlk'
  · rw [List.length_append]; simp only [List.length_cons, List.length_nil]; omega
theorem vl {q : GConj} {f x i n0 : Nat} {m : MapB} {out2 : List Bool} {r : List Int} (hlt : i < q.Atoms.length) (hbi : BInv q f m out2 ((x : Int) :: r) (some x)) (hxo : nth out2 x = true) (hlk : ∀ k, k < i -> lnk q m x k = true -> nth out2 k = true) (hms : 2 * out2.count false + r.length <= n0) (h : lnk q m x i = false \/ nth out2 i = true) :
    i + 1 <= q.Atoms.length /\ BInv q f m out2 ((x : Int) :: r) (some x) /\ nth out2 x = true /\ (∀ k, k < i + 1 -> lnk q m x k = true -> nth out2 k = true) /\ 2 * out2.count false + r.length <= n0 := by
  refine ⟨hlt, hbi, hxo, fun k hk hl => ?_, hms⟩
  by_cases e : k = i
  · subst e
    rcases h with h | h
    · rw [h] at hl; cases hl
    · exact h
  · exact hlk k (by omega) hl
theorem jK (q : GConj) (f : Nat) : (wA q f).length = q.Atoms.length := by simp [wA]
theorem o7 (q : GConj) (hq : bE q = true) (w : Int) (vars : List Int) (hl : vars.length <= 1000000000) : Fun1 prog 171 [bK.ty q, tV (.int .i64 w), tSl aO vars] (tEx fun m : { m : MapB // ClRes q w vars m } => d6 kvI bN m.1) := Spec.ex (qt q hq w vars hl)
theorem Dc {A : Ty} {ho : ∀ h v, A.p h v -> v.oneCell' = true} : TyOf prog 216 (uR A ho) := ⟨fun w => isAgg216 w, fun w => sizeOf216 w⟩
noncomputable def fH (q : GConj) : List (List Bool) := (List.range q.Atoms.length).map (wA q)
theorem xi (q : GConj) (m : MapB) (b : Nat) (v : Value) (x : Nat) (hx : x < q.Atoms.length) (r : List Int) (hlx : (nth q.Atoms x).Terms.length <= 1000000000000) (t : Int) : Spec (X := Unit) prog 172 [tV (.int .i64 t), bx (rOM kvI bN) (some m), bx bK q, tAt b 0] ([stars [box b 27 rV v, que v ((x : Int) :: r)]]) (fun _ => tV (.bool (CO q m x t))) (fun _ => [stars [box b 27 rV v, que v ((x : Int) :: r)]]) := by
 refine Spec.enter func172 rfl rfl fun h0 w0 fr0 => ?_
 refine ap ?_
 refine a7 LSub.unstars ?_
 refine ah (Za (ab (ap ?_)))
 refine km [⟨0, [0], true⟩, ⟨1, [6], true⟩, ⟨2, [7], true⟩, ⟨3, [1, 8], true⟩, ⟨4, [0, 8], true⟩, ⟨5, [8, 9, 10], true⟩, ⟨6, [8, 11], true⟩, ⟨7, [8, 12], true⟩, ⟨8, [13], true⟩, ⟨9, [2, 14], true⟩, ⟨10, [14, 15], true⟩, ⟨17, [0, 14], true⟩, ⟨11, [3, 14], true⟩, ⟨12, [14, 17], true⟩, ⟨13, [14, 18], true⟩, ⟨14, [14, 16, 19], true⟩, ⟨15, [14, 20], true⟩, ⟨16, [14, 21], true⟩, ⟨18, [14, 22, 23], true⟩, ⟨19, [14, 24], true⟩, ⟨20, [25], true⟩] rfl (by kernel_rfl) rfl ?_
 refine bf rfl rfl rfl rfl (ar Sr) ?_
 refine bf rfl rfl rfl rfl (bA Sr Sr) ?_
 refine bf rfl rfl rfl rfl (ar Sr) ?_
 refine bw rfl rfl rfl rfl (FS Sr) rfl rfl (fun hw => ad Db Sr) ?_
 refine bw rfl rfl rfl rfl (FS Sr) rfl rfl (fun hw => ar Sr) ?_
 refine bw rfl rfl rfl rfl (FS Sr) rfl rfl (fun hw => eD (kv := kvI) (R := bN) (z := false) (KeyT.int underlying3) underlying216 (fun w => zeroValue4 w) zr4 (Sub.w hw) (Sub.w hw)) ?_
 refine bw rfl rfl rfl rfl (FS Sr) rfl rfl (fun hw => bc (Sub.w hw)) ?_
 refine bf rfl rfl rfl rfl (aw Sr Sr) ?_
 refine bf rfl rfl rfl rfl (ar Sr) ?_
 refine bw rfl rfl rfl rfl (FS Sr) rfl rfl (fun hw => aa ft Sr rfl) ?_
 refine bw rfl rfl rfl rfl (FS Sr) rfl rfl (fun hw => ad lx (Sub.w hw)) ?_
 refine bw rfl rfl rfl rfl (FS Sr) rfl rfl (fun hw => ar Sr) ?_
 refine bw rfl rfl rfl rfl (FS Sr) rfl rfl (fun hw => bb jA Sr zS) ?_
 refine bw rfl rfl rfl rfl (FS Sr) rfl rfl (fun hw => nw underlying27 ty3 (Sub.w hw) Sr zS) ?_
 refine bw rfl rfl rfl rfl (FS Sr) rfl rfl (fun hw => oS ty3 (Sub.w hw) zS) ?_
 refine bw rfl rfl rfl rfl (FS Sr) rfl rfl (fun hw => ae (i := x) underlying47 gO (Sub.w hw) (Sub.w hw) (by rfl) (gb (by have hwq := hw; (try simp only [beqB_t, beqB_f, NF] at hwq); exact hx))) ?_
 refine bw rfl rfl rfl rfl (FS Sr) rfl rfl (fun hw => aa fY (Sub.w hw) rfl) ?_
 refine bw rfl rfl rfl rfl (FS Sr) rfl rfl (fun hw => ad dn (Sub.w hw)) ?_
 refine bw rfl rfl rfl rfl (FS Sr) rfl rfl (fun hw => aj (ey _ _ hlx) ⟨(Sub.w hw), (Sub.w hw), trivial⟩ call52) ?_
 refine bf rfl rfl rfl rfl (aw Sr Sr) ?_
 refine bf rfl rfl rfl rfl (bd Sr) ?_
 refine nQ (aC ?_)
 refine a7 (LSub.stars LSub.rfl) ?_
 refine bz (rv := .tmp 5) rfl () (.tmp Sr) (Sub.bool ?_)
 simp [CO]
theorem qu (q : GConj) (hq : bE q = true) (f : Nat) (hf : f < q.Atoms.length) : Fun1 prog 132 [bK.ty q, tV (.int .i64 f)] (tSl bN (wA q f)) := by
 refine Spec.enter func132 rfl rfl fun h0 w0 fr0 => ?_
 have hvb := fG hq
 have hvf := dR hq hf
 refine Jr (Zs (aF (R := bK) Sr) (Za (ab (Jr (Zs (aa ft Sr rfl) ?_)))))
 refine Zl lx Sr (Zm ?_)
 refine Zs (ae (i := f) underlying47 gO Sr Sr (by rfl) (gb (by exact hf))) ?_
 refine Zl gO Sr ?_
 refine Zx (aE (fun w => zeroValue88 w) zu) fun v5 => ?_
 refine Ju (ai gO Sr Sr zS) fun _ => ?_
 refine aN (t := 5) (Sel.take (FN _)) Frz.box ?_
 refine ab (ap ?_)
 refine bQ [⟨0, [2], true⟩, ⟨1, [1], true⟩, ⟨2, [5], true⟩, ⟨3, [19], true⟩, ⟨4, [5], true⟩, ⟨5, [21], true⟩, ⟨6, [20, 22], true⟩, ⟨7, [17, 18, 23], true⟩, ⟨8, [], false⟩, ⟨9, [6, 24], false⟩] rfl (by kernel_rfl) ?_
 refine Zf rfl (ad g7 Sr) (Zv rfl (Zf rfl (aa fY Sr rfl) (Zf rfl (ad dn Sr) (Zf rfl (aa fY Sr rfl) (Zf rfl (ad ty3 Sr) ?_)))))
 refine Zf rfl (dz (n := (nth q.Atoms f).Key.toNat) underlying27 ty3 Sr Sr (by show (nth q.Atoms f).Key = (((nth q.Atoms f).Key.toNat : Nat) : Int); omega) (by show (nth q.Atoms f).Key.toNat <= (nth q.Atoms f).Terms.length; omega)) ?_
 refine Zf rfl (aj (o7 q hq f (keyT q f) (by rw [List.length_take]; omega)) ⟨Sr, Sr, Sr, trivial⟩ call171) ?_
 refine cN rfl rfl rfl rfl (aE (R := rV) (z := Value.map none) (fun w => zeroValue216 w) (fun _ => ⟨rfl, rfl⟩)) fun v6 => ?_
 refine ju rfl rfl rfl (gY (R := rV) (R' := uR (tEx fun m : { m : MapB // ClRes q f (keyT q f) m } => d6 kvI bN m.1) xe) (z := ()) Dc rfl Sr Sr zS) fun _ => ?_
 refine bP (ap ?_)
 refine cA (t := 6) (Sel.take (FN _)) Frz.box ?_
 refine Em (t := 6) (A := fun m : { m : MapB // ClRes q f (keyT q f) m } => bx (rOM kvI bN) (some m.1)) Da fun mm => ?_
 refine ah (Zs (aa ft Sr rfl) (Zl lx Sr (Zs (ag underlying47 Sr) ?_)))
 refine Zx (f3 (n := q.Atoms.length) underlying56 el4 Sr Sr rfl zG zG) fun v28 => ?_
 refine Za (ab (Jr (Zm (Zm ?_))))
 refine Zs (aG (i := f) underlying56 ty4 Sr zS Sr (by rfl) (by rw [List.length_replicate]; exact hf)) ?_
 refine Ju (bL ty4 Sr Sr zS (by rw [List.length_replicate]; exact hf)) fun _ => ?_
 refine ab (ap (Jr (Zm ?_)))
 refine Zx (bO (ys := [_]) underlying27 el3 ⟨rfl, Sr, trivial⟩ rfl (by decide)) fun v33 => ?_
 refine Zx (aE (R := rV) (z := Value.slice none 0 0) (fun w => zeroValue27 w) (fun _ => ⟨rfl, rfl⟩)) fun b9 => ?_
 refine Ju (ai (R := rV) jA Sr Sr zS) fun _ => ?_
 refine ab (au ?_)
 refine aK (σ := Nat × Value × List Bool × List Int) (fun ⟨b8, vo, out, w⟩ => BInv q f mm.1 out w none /\ 2 * out.count false + w.length <= 1000) (fun ⟨b8, vo, out, w⟩ => upd (upd (upd (upd (upd (upd co 1 (tV (.int .i64 f))) 2 (bx bK q)) 4 (tV (.slice none 0 0))) 6 (bx (rOM kvI bN) (some mm.1))) 7 (rV.ty v28)) 8 (tAt b8 0)) (fun ⟨b8, vo, out, w⟩ => [box b8 27 rV vo, que vo w, own 4 bN v28 out]) (fun ⟨b8, vo, out, w⟩ => 2 * out.count false + w.length) (b9, v33, (List.replicate q.Atoms.length false).set f true, [(f : Int)]) ⟨BInv.start hf, by have := List.count_le_length (a := false) (l := (List.replicate q.Atoms.length false).set f true); simp only [List.length_set, List.length_replicate] at this; simp only [List.length_cons, List.length_nil]; omega⟩ (zU) (.r zS (.c zS (BD (by simp)) (zL))) ?_
 rintro ⟨b8, vo, out, w⟩ ⟨hbi, hbd⟩
 refine ap (Jr ?_)
 refine Zs (bb jA Sr zS) ?_
 refine Zs (p8 underlying27 Sr zS) ?_
 refine Zs (bj Sr Sr) (ab ?_)
 refine am Sr (fun h36 => ?_) (fun h36 => ?_)
 ·
  try simp only [NF] at h36
  obtain ⟨y, r0, rfl⟩ : ∃ y r0, w = y :: r0 := by cases w with | nil => simp at h36 | cons a b => exact ⟨a, b, rfl⟩
  obtain ⟨x, rfl, hx, hxo0⟩ := hbi.wok y (by simp)
  refine av (ap (au (Jr (Zs (aa ft Sr rfl) (Zl lx Sr ?_)))))
  refine Zs (ag underlying47 Sr) (Zm (ab (au ?_)))
  refine aK (σ := Nat × Value × List Bool × List Int) (fun ⟨i, vw, out2, r⟩ => i <= q.Atoms.length /\ BInv q f mm.1 out2 ((x : Int) :: r) (some x) /\ nth out2 x = true /\ (∀ k, k < i -> lnk q mm.1 x k = true -> nth out2 k = true) /\ 2 * out2.count false + r.length <= 2 * out.count false + r0.length) (fun ⟨i, vw, out2, r⟩ => upd (upd (upd (upd (upd (upd (upd (upd (upd co 1 (tV (.int .i64 f))) 2 (bx bK q)) 4 (tV (.slice none 0 0))) 6 (bx (rOM kvI bN) (some mm.1))) 7 (rV.ty v28)) 8 (tAt b8 0)) 40 (tSl cg q.Atoms)) 41 (tV (.int .i64 q.Atoms.length))) 42 (tV (.int .i64 i))) (fun ⟨i, vw, out2, r⟩ => [box b8 27 rV vw, que vw ((x : Int) :: r), own 4 bN v28 out2]) (fun ⟨i, vw, out2, r⟩ => q.Atoms.length - i) (0, vo, out, r0) ⟨by omega, hbi.open x, hxo0, fun k hk => by omega, Nat.le_refl _⟩ (zU) (zL) ?_
  rintro ⟨i, vw, out2, r⟩ ⟨hi, hbi, hxo, hlk, hms⟩
  refine Jr (Zs (az Sr Sr) (ab (ap ?_)))
  refine am Sr (fun h43 => ?_) (fun h43 => ?_)
  ·
   try simp only [NF] at h43
   have hlt : i < q.Atoms.length := by omega
   refine av (ap (au (Jr (Zm ?_))))
   refine Zs (ae  underlying47 gO Sr Sr rfl (gb (by exact hlt))) ?_
   refine Zl gO Sr ?_
   refine Zx (aE (fun w => zeroValue88 w) zu) fun v10 => ?_
   refine Za ?_
   refine Ju (ai gO Sr Sr zS) fun _ => ?_
   refine aN (t := 10) (Sel.take (FN _)) Frz.box ?_
   refine ab (Jr (Zs (aa fY Sr rfl) (Zl dn Sr (Zs (bl (As := [_, _, _]) ⟨Sr, Sr, Sr, trivial⟩) ?_))))
   refine oO (LSub.trans (B := [box b8 27 rV vw, que vw ((x : Int) :: r), own 4 bN v28 out2]) (zL) (LSub.stars (A := [box b8 27 rV vw, que vw ((x : Int) :: r)]) (L' := [own 4 bN v28 out2]) LSub.rfl)) ?_
   refine Zx (aR (Sel.take (FN _)) (fC (nth q.Atoms i).Terms (by have := dR hq hlt; omega) 172 [bx (rOM kvI bN) (some mm.1), bx bK q, tAt b8 0] (stars [box b8 27 rV vw, que vw ((x : Int) :: r)]) (fun t => CO q mm.1 x t) (fun t _ => xi q mm.1 b8 vw x hx r (by have := dR hq hx; omega) t) call172) ⟨Sr, Sr, trivial⟩ call43) fun v50 => ?_
   refine Za (ab (ap ?_))
   refine a7 LSub.unstars ?_
   refine ah (Zm (Zm ?_))
   refine Zk (ar Sr) ?_
   refine Zk (ar Sr) ?_
   refine Zg (fun hw => aG (i := i) underlying56 ty4 (Sub.w hw) zS (Sub.w hw) (by rfl) (by have hwq := hw; (try simp only [beqB_t, beqB_f, NF] at hwq); rw [hbi.len]; exact hlt)) ?_
   refine Zg (fun hw => bH ty4 (Sub.w hw) zS (gb (by have hwq := hw; (try simp only [beqB_t, beqB_f, NF] at hwq); rw [hbi.len]; exact hlt))) ?_
   refine Zg (fun hw => bc (Sub.w hw)) (Zs (aw Sr Sr) (ab ?_))
   refine am Sr (fun h58 => ?_) (fun h58 => ?_)
   ·
    try simp only [NF] at h58
    refine Jr (Zm (Zm ?_))
    refine Zs (aG (i := i) underlying56 ty4 Sr zS Sr (by rfl) (by rw [hbi.len]; exact hlt)) ?_
    refine Ju (bL ty4 Sr Sr zS (by rw [hbi.len]; exact hlt)) fun _ => ?_
    refine ab (ah ?_)
    refine Zs (bb jA Sr zS) ?_
    refine Zm ?_
    refine Zs (aB (ys := [_]) underlying27 el3 ⟨rfl, Sr, trivial⟩ rfl (by decide)) ?_
    refine Zx (lQ underlying27 rfl el3 Sr Sr (by simp) zS (by simp only [List.length_cons, List.length_nil] at hbd ⊢; omega)) fun v65 => ?_
    refine Ju (ai (R := rV) jA Sr Sr zS) fun _ => ?_
    refine ab (ah (Zs (ax Sr Sr z6) (Zm (ab ?_))))
    refine ay (σ := Nat × Value × List Bool × List Int) (s := (i, vw, out2, r)) (i + 1, v65, out2.set i true, r ++ [(i : Int)]) zO (xh mm.2 hf hx hlt hbi hxo hlk hms h58.1 h58.2) (zU) (LSub.rfl)
   try simp only [NF] at h58
   refine av (ah (Zs (ax Sr Sr z6) (Zm (ab ?_))))
   refine ay (σ := Nat × Value × List Bool × List Int) (s := (i, vw, out2, r)) (i + 1, vw, out2, r) zO (vl hlt hbi hxo hlk hms h58) (zU) (LSub.rfl)
  try simp only [NF] at h43
  refine aV (ap (Jr ?_))
  refine Zs (bb jA Sr zS) ?_
  refine ab (ah ?_)
  refine Zx (aE (R := rV) (z := Value.slice none 0 0) (fun w => zeroValue27 w) (fun _ => ⟨rfl, rfl⟩)) fun b9 => ?_
  refine Ju (ai (R := rV) jA Sr Sr zS) fun _ => ?_
  refine ab (ah ?_)
  refine Zs (bb jA Sr zS) ?_
  refine Zx (nx underlying27 ty3 Sr Sr zS) fun v38 => ?_
  refine Ju (ai (R := rV) jA Sr Sr zS) fun _ => ?_
  refine ab ?_
  refine a7 (L' := [box b8 27 rV vw, box b9 27 rV v38, que v38 r, own 4 bN v28 out2]) (zL) ?_
  refine lH (Sel.take (FN _)) ?_
  refine ay (σ := Nat × Value × List Bool × List Int) (s := (b8, vo, out, ((x : Int) :: r0))) (b9, v38, out2, r) (by show 2 * out2.count false + r.length < _; simp only [List.length_cons] at hms ⊢; omega) ⟨hbi.next (fun k hk => hlk k zG), by simp only [List.length_cons] at hbd; omega⟩ (zU) (zL)
 try simp only [NF] at h36
 obtain rfl : w = [] := by cases w with | nil => rfl | cons a b => (exfalso; simp at h36; omega)
 refine aV (Jr (Zm (Zm ?_)))
 refine Zs (aG (i := f) underlying56 ty4 Sr zS Sr (by rfl) (by rw [hbi.len]; exact hf)) ?_
 refine Ju (bL ty4 Sr Sr zS (by rw [hbi.len]; exact hf)) fun _ => ?_
 refine ab (Jr (Zm (Za (ab (aC ?_)))))
 refine a7 (L' := [own 4 bN v28 (out.set f false), box b8 27 rV vo, que vo []]) (zL) ?_
 refine aY (rv := .tmp 4) rfl () (Sel.all _) (.tmp Sr) (Gi (hbi.res mm.2 hf))
theorem Dd {C : Cx} {k : Act -> World -> Prop} {E : Env} {L : List SP} {t : Nat} {A : Ty} (hE : Sub (E t) A) (hk : K C k (upd E t A) L) : K C k E L :=
  fun a w ⟨n, ds, h, m, l, sp, st, fr⟩ => by
  refine hk a w ⟨n, ds, h, m, l, sp, st, fun u => ?_⟩
  by_cases e : u = t
  · subst e; rw [de]; exact hE _ _ (fr u)
  · rw [bV _ _ e]; exact fr u
theorem xj {A : Ty} {ho : ∀ h v, A.p h v -> v.oneCell' = true} : TyOf prog 103 (uR A ho) := ⟨fun w => isAgg103 w, fun w => sizeOf103 w⟩
theorem o8 {f : Nat} {As : List Ty} : ∀ h v, (eZ f As).p h v -> v.oneCell' = true := by rintro h v ⟨c, rfl, _⟩; rfl
abbrev errV (q : GConj) : Int := if bE q = true then 0 else 1
abbrev De (v : Value) (l : List (List Bool)) (b : Nat) : List Ty := [bx rV v, bx (rSl (rSl bN)) l, tAt b 0]
abbrev BS (b : Nat) (v : Value) (l : List (List Bool)) : SP := box b 103 (uR (eZ 133 (De v l b)) o8) ()
def En (l : List (List Bool)) (b : Nat) (v : Value) (n f : Nat) (st : List Int) : Prop := Spec (X := Unit) prog 133 ([tV (.int .i64 f)] ++ De v l b) [BS b v l, own 3 aO v st] (fun _ => tV (.bool (cyc l n f st).1)) (fun _ => [BS b v l, own 3 aO v (cyc l n f st).2])
theorem ms {α : Type} [Inhabited α] {l : List α} {i : Nat} (h : i < l.length) : fe (l.drop i) i = (i, nth l i) :: fe (l.drop (i + 1)) (i + 1) := by
  rw [fq h]; rfl
structure RowI (l : List (List Bool)) (n f i : Nat) (st st2 : List Int) : Prop where
  le : i <= (nth l f).length
  eq : cycRow (cyc l n) (fe (nth l f) 0) (st.set f 1) = cycRow (cyc l n) (fe ((nth l f).drop i) i) st2
  z : zeros st2 < n
  len : st2.length = st.length
theorem RowI.start {l : List (List Bool)} {n f : Nat} {st : List Int} (hf : f < st.length) (hz : zeros st < n + 1) (h0 : nth st f = 0) : RowI l n f 0 st (st.set f 1) :=
  ⟨Nat.zero_le _, by rw [List.drop_zero], by have := qo (x := 1) hf h0 (by decide); omega, List.length_set⟩
theorem RowI.skip {l : List (List Bool)} {n f i : Nat} {st st2 : List Int} (r : RowI l n f i st st2) (hi : i < (nth l f).length) (h : nth (nth l f) i = false) : RowI l n f (i + 1) st st2 :=
  ⟨hi, by rw [r.eq, ms hi, h]; simp only [cycRow]; rw [if_neg (by decide)], r.z, r.len⟩
theorem RowI.go {l : List (List Bool)} {n f i : Nat} {st st2 : List Int} (r : RowI l n f i st st2) (hi : i < (nth l f).length) (h : nth (nth l f) i = true) (hc : (cyc l n i st2).1 = false) : RowI l n f (i + 1) st (cyc l n i st2).2 :=
  ⟨hi, by rw [r.eq, ms hi, h]; simp only [cycRow, if_true]; rw [if_neg (by rw [hc]; decide)], Nat.lt_of_le_of_lt (ff l n i st2).1 r.z, ((ff l n i st2).2).trans r.len⟩
theorem RowI.hit {l : List (List Bool)} {n f i : Nat} {st st2 : List Int} (r : RowI l n f i st st2) (hi : i < (nth l f).length) (h0 : nth st f = 0) (h : nth (nth l f) i = true) (hc : (cyc l n i st2).1 = true) : cyc l (n + 1) f st = (true, (cyc l n i st2).2) := by
  have : cycRow (cyc l n) (fe (nth l f) 0) (st.set f 1) = (true, (cyc l n i st2).2) := by rw [r.eq, ms hi, h]; simp only [cycRow, if_true]; rw [if_pos hc]
  simp only [cyc]
  rw [if_neg (by simpa using h0), this]; simp
theorem RowI.fin {l : List (List Bool)} {n f : Nat} {st st2 : List Int} (r : RowI l n f (nth l f).length st st2) (h0 : nth st f = 0) : cyc l (n + 1) f st = (false, st2.set f 2) := by
  have : cycRow (cyc l n) (fe (nth l f) 0) (st.set f 1) = (false, st2) := by rw [r.eq, List.drop_of_length_le (Nat.le_refl _)]; rfl
  simp only [cyc]
  rw [if_neg (by simpa using h0), this]; simp
theorem Df {l : List (List Bool)} {n f : Nat} {st : List Int} (h : nth st f ≠ 0) : cyc l (n + 1) f st = (decide (nth st f = 1), st) := by
  simp only [cyc]; rw [if_pos h]
theorem lc (q : GConj) : Fun1 prog 83 [bK.ty q] (fW [tSl (rSl bN) (if bE q = true then fH q else []), tV (.int .i64 (errV q))]) := by
 refine Spec.enter func83 rfl rfl fun h0 w0 fr0 => ?_
 refine Jr (Zs (aF (R := bK) Sr) (Za (Za (ab (ap ?_)))))
 refine Jr (Zl g7 Sr (Zs (aj (dG q) ⟨Sr, trivial⟩ call18) (Zs (bc Sr) (ab ?_))))
 refine am Sr (fun h8 => ?_) (fun h8 => ?_)
 ·
  try simp only [NF] at h8
  have hv : ¬ bE q = true := by simp [h8]
  refine Jr (Za (Za (ab (aC ?_))))
  refine bI (rv := .tmp 2) (rv' := .tmp 3) rfl () (Sel.all _) (.tmp Sr) (.tmp Sr) (Frz.sub ?_) (Frz.sub ?_) Sr
  ·
   rw [if_neg hv]; exact F6
  rw [errV, if_neg hv]; exact Sr
 try simp only [NF] at h8
 have hq : bE q = true := by simpa using h8
 have hvb := fG hq
 refine av (Jr (Za (ab ?_)))
 refine a7 (FR (e := 56) (R := rSl bN)) ?_
 refine ap (Jr (Zs (aa ft Sr rfl) (Zl lx Sr (Zs (ag underlying47 Sr) (Zm ?_)))))
 refine ab (au ?_)
 refine aK (σ := Nat × Value) (fun ⟨i, vo⟩ => i <= q.Atoms.length) (fun ⟨i, vo⟩ => upd (upd (upd (upd (upd (upd co 1 (bx bK q)) 2 (tV (.slice none 0 0))) 3 (tV (.int .i64 0))) 4 (rV.ty vo)) 11 (tV (.int .i64 q.Atoms.length))) 12 (tV (.int .i64 i))) (fun ⟨i, vo⟩ => [own 56 (rSl bN) vo ((List.range i).map (wA q))]) (fun ⟨i, vo⟩ => q.Atoms.length - i) (0, .slice none 0 0) (by simp) (.u (.u (SubE.upd (FT rfl) (zU)))) (.c zS (f5 (by simp)) (LSub.nil)) ?_
 rintro ⟨i, vo⟩ hi
 try dsimp only at hi
 refine Jr (Zs (az Sr Sr) (ab (ap ?_)))
 refine am Sr (fun h13 => ?_) (fun h13 => ?_)
 ·
  try simp only [NF] at h13
  have hlt : i < q.Atoms.length := by omega
  refine av (ap (au (Jr (Zm (Za ?_)))))
  refine ab (ah (Zm (Zl g7 Sr (Zm (Zs (aj (qu q hq i hlt) ⟨Sr, Sr, trivial⟩ call132) ?_)))))
  refine Zs (aB (ys := [_]) underlying126 EY ⟨rfl, Sr, trivial⟩ rfl (by decide)) ?_
  refine Zx (aH underlying126 EY Sr Sr zS (by simp; omega) (by simp; omega)) fun v20 => ?_
  refine Za (ab (ah (Zs (ax Sr Sr z6) (Zm (ab ?_)))))
  refine ay (σ := Nat × Value) (s := (i, vo)) (i + 1, v20) zO hlt (zU) (.c zS (f5 (by rw [List.range_succ]; simp)) (LSub.nil))
 try simp only [NF] at h13
 refine aV (Jr (Zm (Za (Za (ab ?_)))))
 refine aC ?_
 refine bI (rv := .tmp 2) (rv' := .tmp 3) rfl () (Sel.all _) (.tmp Sr) (.tmp Sr) (Gi (by rw [if_pos hq, show i = q.Atoms.length by omega]; rfl)) (Frz.sub ?_) Sr
 rw [errV, if_pos hq]; exact Sr
theorem sw (l : List (List Bool)) (b : Nat) (v : Value) (n : Nat) (IH : ∀ (g : Nat) (st : List Int), g < l.length -> st.length = l.length -> zeros st < n -> En l b v n g st) (f : Nat) (st : List Int) (hf : f < l.length) (hs : st.length = l.length) (hz : zeros st < n + 1) (hrl : (nth l f).length <= l.length) (hl1 : l.length <= 1000) : En l b v (n + 1) f st := by
 refine Spec.enter func133 rfl rfl fun h0 w0 fr0 => ?_
 refine Jr (Za (ab (ap (Jr (Zl jA Sr ?_)))))
 refine Zm ?_
 refine Zs (aG (i := f) underlying27 ty3 Sr zS Sr (by rfl) (by rw [hs]; exact hf)) ?_
 refine Zs (bH ty3 Sr zS (gb (by rw [hs]; exact hf))) ?_
 refine Zs (be Sr Sr) (ab ?_)
 refine am Sr (fun h12 => ?_) (fun h12 => ?_)
 ·
  try simp only [NF] at h12
  have hne : nth st f ≠ 0 := by simpa using h12
  refine Jr (Zl jA Sr (Zm ?_))
  refine Zs (aG (i := f) underlying27 ty3 Sr zS Sr (by rfl) (by rw [hs]; exact hf)) ?_
  refine Zs (bH ty3 Sr zS (gb (by rw [hs]; exact hf))) ?_
  refine Zs (aJ Sr Sr) (Za (ab (aC ?_)))
  have hcy := Df (l := l) (n := n) hne
  refine a7 (L' := [BS b v l, own 3 aO v (cyc l (n + 1) f st).2]) (.r zS (.c zS (f5 (by rw [hcy])) (LSub.nil))) ?_
  refine bz (rv := .tmp 5) rfl () (.tmp Sr) (Sub.bool ?_)
  rw [hcy]
 try simp only [NF] at h12
 have h00 : nth st f = 0 := by simpa using h12
 refine av (Jr (Zl jA Sr (Zm ?_)))
 refine Zs (aG (i := f) underlying27 ty3 Sr zS Sr (by rfl) (by rw [hs]; exact hf)) ?_
 refine Ju (bL ty3 Sr Sr zS (by rw [hs]; exact hf)) fun _ => ?_
 refine ab (ap (Jr (Zl zt Sr (Zm ?_))))
 refine Zs (ae (i := f) underlying126 rY Sr Sr (by rfl) (gb (by exact hf))) ?_
 refine Zl rY Sr (Zs (ag underlying56 Sr) (Zm (ab (au ?_))))
 refine aK (σ := Nat × List Int) (fun ⟨i, st2⟩ => RowI l n f i st st2) (fun ⟨i, st2⟩ => upd (upd (upd (upd (upd (upd co 0 (tV (.int .i64 f))) 1 (bx rV v)) 3 (tAt b 0)) 24 (tSl bN (nth l f))) 25 (tV (.int .i64 (nth l f).length))) 26 (tV (.int .i64 i))) (fun ⟨i, st2⟩ => [BS b v l, own 3 aO v st2]) (fun ⟨i, st2⟩ => (nth l f).length - i) (0, st.set f 1) (RowI.start (by rw [hs]; exact hf) hz h00) (zU) (zL) ?_
 rintro ⟨i, st2⟩ hr
 try dsimp only at hr
 refine Jr (Zs (az Sr Sr) (ab (ap ?_)))
 refine am Sr (fun h27 => ?_) (fun h27 => ?_)
 ·
  try simp only [NF] at h27
  have hlt : i < (nth l f).length := by omega
  refine av (ap (au (Jr (Zm ?_))))
  refine Zs (ae  underlying56 ty4 Sr Sr rfl (gb (by exact hlt))) ?_
  refine Zl ty4 Sr (Za (Za (ab (Jr (Zm ?_)))))
  refine Zm ?_
  refine Zk (bb (R := uR (eZ 133 (De v l b)) o8) xj Sr zS) ?_
  refine Zk (ar Sr) ?_
  refine p6 (tV (.bool false)) rfl rfl rfl (FS Sr) rfl rfl (fun hw => eR (aT := [_]) (Sub.w hw) (Sel.all _) (IH i st2 zG (by rw [hr.len]; exact hs) hr.z) ⟨Sub.w hw, trivial⟩ call133) (fun hw v35 => ?_) (fun hw => ?_)
  ·
   skip
   refine Zs (aw Sr Sr) (ab ?_)
   refine am Sr (fun h36 => ?_) (fun h36 => ?_)
   ·
    try simp only [NF] at h36
    refine Jr (Za (ab (aC ?_)))
    have hcy := hr.hit hlt h00 (by simpa using hw) h36.2
    refine a7 (L' := [BS b v l, own 3 aO v (cyc l (n + 1) f st).2]) (.r zS (.c zS (f5 (by rw [hcy])) (LSub.nil))) ?_
    refine bz (rv := .tmp 5) rfl () (.tmp Sr) (Sub.bool ?_)
    rw [hcy]
   try simp only [NF] at h36
   refine av (ah (Zs (ax Sr Sr z6) (Zm (ab ?_))))
   refine ay (σ := Nat × List Int) (s := (i, st2)) (i + 1, (cyc l n i st2).2) zO (hr.go hlt (by simpa using hw) (h36.resolve_left (by rw [show nth (nth l f) i = true by simpa using hw]; decide))) (zU) (zL)
  skip
  refine Zs (aw Sr Sr) (ab ?_)
  refine am Sr (fun h36 => ?_) (fun h36 => ?_)
  ·
   try simp only [NF] at h36
   first | contradiction | omega | (simp_all; done)
  try simp only [NF] at h36
  refine av (ah (Zs (ax Sr Sr z6) (Zm (ab ?_))))
  refine ay (σ := Nat × List Int) (s := (i, st2)) (i + 1, st2) zO (hr.skip hlt (by simpa using hw)) (zU) (zL)
 try simp only [NF] at h27
 refine aV (Jr (Zl jA Sr (Zm ?_)))
 refine Zs (aG (i := f) underlying27 ty3 Sr zS Sr (by rfl) (by rw [hr.len, hs]; exact hf)) ?_
 refine Ju (bL ty3 Sr Sr zS (by rw [hr.len, hs]; exact hf)) fun _ => ?_
 refine ab (Jr (Za (ab (aC ?_))))
 have hcy := RowI.fin (show RowI l n f (nth l f).length st st2 by have := hr.le; rw [show (nth l f).length = i by omega]; exact hr) h00
 refine a7 (L' := [BS b v l, own 3 aO v (cyc l (n + 1) f st).2]) (.r zS (.c zS (f5 (by rw [hcy])) (LSub.nil))) ?_
 refine bz (rv := .tmp 5) rfl () (.tmp Sr) (Sub.bool ?_)
 rw [hcy]
theorem nZ (l : List (List Bool)) (hll : ∀ f, f < l.length -> (nth l f).length <= l.length) (hl1 : l.length <= 1000) (b : Nat) (v : Value) : ∀ (n f : Nat) (st : List Int), f < l.length -> st.length = l.length -> zeros st < n -> En l b v n f st
  | 0, _, _, _, _, h => absurd h (Nat.not_lt_zero _)
  | n + 1, f, st, hf, hs, hz => sw l b v n (fun g st hg hs hz => nZ l hll hl1 b v n g st hg hs hz) f st hf hs hz (hll f hf) hl1
noncomputable def d8 (q : GConj) : Bool := !(ga (fH q) (q.Atoms.length + 1) (List.range q.Atoms.length) (List.replicate q.Atoms.length 0)).1
theorem eQ (q : GConj) : (fH q).length = q.Atoms.length := by simp [fH]
theorem lz (q : GConj) {f : Nat} (h : f < q.Atoms.length) : nth (fH q) f = wA q f := by
  rw [nth_get (by rw [eQ]; exact h)]; simp [fH]
structure AllI (q : GConj) (i : Nat) (st : List Int) : Prop where
  le : i <= q.Atoms.length
  eq : ga (fH q) (q.Atoms.length + 1) (List.range q.Atoms.length) (List.replicate q.Atoms.length 0) = ga (fH q) (q.Atoms.length + 1) (List.range' i (q.Atoms.length - i)) st
  z : zeros st < q.Atoms.length + 1
  len : st.length = q.Atoms.length
theorem AllI.start (q : GConj) : AllI q 0 (List.replicate q.Atoms.length 0) :=
  ⟨Nat.zero_le _, by rw [List.range_eq_range', Nat.sub_zero], by have := List.count_le_length (a := (0 : Int)) (l := List.replicate q.Atoms.length 0); simp only [List.length_replicate] at this; show List.count 0 _ < _; omega, by simp⟩
theorem AllI.go {q : GConj} {i : Nat} {st : List Int} (a : AllI q i st) (hi : i < q.Atoms.length) (hc : (cyc (fH q) (q.Atoms.length + 1) i st).1 = false) : AllI q (i + 1) (cyc (fH q) (q.Atoms.length + 1) i st).2 := by
  refine ⟨hi, ?_, Nat.lt_of_le_of_lt (ff _ _ i st).1 a.z, (ff _ _ i st).2.trans a.len⟩
  rw [a.eq, show q.Atoms.length - i = (q.Atoms.length - (i + 1)) + 1 by omega, List.range'_succ]
  simp only [ga]
  rw [if_neg (by rw [hc]; decide)]
theorem AllI.hit {q : GConj} {i : Nat} {st : List Int} (a : AllI q i st) (hi : i < q.Atoms.length) (hc : (cyc (fH q) (q.Atoms.length + 1) i st).1 = true) : d8 q = false := by
  unfold d8
  rw [a.eq, show q.Atoms.length - i = (q.Atoms.length - (i + 1)) + 1 by omega, List.range'_succ]
  simp only [ga]
  rw [if_pos hc]; rfl
theorem AllI.fin {q : GConj} {st : List Int} (a : AllI q q.Atoms.length st) : d8 q = true := by
  unfold d8
  rw [a.eq, Nat.sub_self]; rfl
theorem mt (q : GConj) : Fun1 prog 84 [bK.ty q] (fW [tV (.bool (bE q && d8 q)), tV (.int .i64 (errV q))]) := by
 refine Spec.enter func84 rfl rfl fun h0 w0 fr0 => ?_
 refine Jr (Zs (aF (R := bK) Sr) (Za (Za (ab (Jr ?_)))))
 refine Zl g7 Sr (Zs (aj (lc q) ⟨Sr, trivial⟩ call83) (Zm (Zs (aL Sr rfl) (Zs (aL Sr rfl) ?_))))
 refine Zx (aE (fun w => zeroValue126 w) Ea) fun v4 => ?_
 refine Ju (ai zt Sr Sr zS) fun _ => ?_
 refine aN (t := 4) (Sel.take (FN _)) Frz.box ?_
 refine Za (ab (ap (Jr (Zm (Zs (be Sr Sr) ?_)))))
 refine ab ?_
 refine am Sr (fun h15 => ?_) (fun h15 => ?_)
 ·
  try simp only [NF] at h15
  have hv : ¬ bE q = true := by intro h; rw [errV, if_pos h] at h15; exact h15 rfl
  refine Jr (Zm (Za (Za (ab (aC ?_)))))
  refine bI (rv := .tmp 2) (rv' := .tmp 3) rfl () (Sel.all _) (.tmp Sr) (.tmp Sr) (Frz.sub ?_) (Frz.sub ?_) Sr
  ·
   refine Sub.bool ?_
   simp [hv]
  exact Sr
 try simp only [NF] at h15
 have hq : bE q = true := by cases h : bE q with | true => rfl | false => (exfalso; simp [errV, h] at h15)
 have hvb := fG hq
 have hal := eQ q
 refine av (ap ?_)
 refine Dd (t := 4) (A := bx (rSl (rSl bN)) (fH q)) (by rw [if_pos hq]; exact Sr) ?_
 refine ah (Zl zt Sr (Zs (ag underlying126 Sr) ?_))
 refine Zx (f3 (n := q.Atoms.length) underlying27 el3 Sr Sr (by show ((fH q).length : Int) = _; omega) zG zG) fun v19 => ?_
 refine Zx (aE (R := rV) (z := Value.slice none 0 0) (fun w => zeroValue27 w) (fun _ => ⟨rfl, rfl⟩)) fun b6 => ?_
 refine Ju (ai (R := rV) jA Sr Sr zS) fun _ => ?_
 refine ab (ap ?_)
 refine cA (t := 6) (Sel.take (FN _)) Frz.box ?_
 refine ah ?_
 refine Zx (aE (R := rV) (fun w => zeroValue103 w) (fun _ => ⟨rfl, rfl⟩)) fun b7 => ?_
 refine ab (Jr (Zs (bl (As := [_, _, _]) ⟨Sr, Sr, Sr, trivial⟩) ?_))
 refine Ju (gY (R := rV) (R' := uR (eZ 133 (De v19 (fH q) b7)) o8) (z := ()) xj rfl Sr Sr zS) fun _ => ?_
 refine ab (ap (Jr (Zl zt Sr (Zs (ag underlying126 Sr) (Zm ?_)))))
 refine ab (au ?_)
 refine aK (σ := Nat × List Int) (fun ⟨i, st⟩ => AllI q i st) (fun ⟨i, st⟩ => upd (upd (upd co 7 (tAt b7 0)) 22 (tV (.int .i64 (fH q).length))) 23 (tV (.int .i64 i))) (fun ⟨i, st⟩ => [BS b7 v19 (fH q), own 3 aO v19 st]) (fun ⟨i, st⟩ => q.Atoms.length - i) (0, List.replicate q.Atoms.length 0) (AllI.start q) (zU) (zL) ?_
 rintro ⟨i, st⟩ ha
 try dsimp only at ha
 refine Jr (Zs (az Sr Sr) (ab (ap ?_)))
 refine am Sr (fun h24 => ?_) (fun h24 => ?_)
 ·
  try simp only [NF] at h24
  have hlt : i < q.Atoms.length := by omega
  refine av (ap (au (Jr (Zm (Za ?_)))))
  refine ab (Jr ?_)
  refine Zs (bb (R := uR (eZ 133 (De v19 (fH q) b7)) o8) xj Sr zS) ?_
  refine Zm ?_
  refine Zx (eR (aT := [_]) Sr (Sel.all _) (nZ (fH q) (fun f hf => by rw [hal] at hf; rw [lz q hf, jK]; omega) zG b7 v19 (q.Atoms.length + 1) i st zG (by rw [ha.len]; omega) ha.z) ⟨Sr, trivial⟩ call133) fun v28 => ?_
  refine ab ?_
  refine am Sr (fun h28 => ?_) (fun h28 => ?_)
  ·
   try simp only [NF] at h28
   refine Jr (Za (Za (ab (aC ?_))))
   refine bI (rv := .tmp 2) (rv' := .tmp 3) rfl () (Sel.all _) (.tmp Sr) (.tmp Sr) (Frz.sub ?_) (Frz.sub ?_) Sr
   ·
    refine Sub.bool ?_
    rw [ha.hit hlt (by simpa using h28)]; simp
   rw [errV, if_pos hq]; exact Sr
  try simp only [NF] at h28
  refine av (ah (Zs (ax Sr Sr z6) (Zm (ab ?_))))
  refine ay (σ := Nat × List Int) (s := (i, st)) (i + 1, (cyc (fH q) (q.Atoms.length + 1) i st).2) zO (ha.go hlt (by simpa using h28)) (zU) (zL)
 try simp only [NF] at h24
 refine aV (Jr (Za (Za (ab (aC ?_)))))
 refine bI (rv := .tmp 2) (rv' := .tmp 3) rfl () (Sel.all _) (.tmp Sr) (.tmp Sr) (Frz.sub ?_) (Frz.sub ?_) Sr
 ·
  refine Sub.bool ?_
  have := AllI.fin (show AllI q q.Atoms.length st by have := ha.le; rw [show q.Atoms.length = i by omega]; exact ha)
  rw [this, hq]; rfl
 rw [errV, if_pos hq]; exact Sr
theorem vn {q : GConj} (hq : bE q = true) {a : GAtom} (ha : a ∈ q.Atoms) : a.Cols.length <= 12 /\ a.Terms.length = a.Cols.length /\ 1 <= a.Key /\ a.Key <= a.Cols.length /\ ∀ k, k < a.Cols.length -> 0 <= nth a.Cols k /\ nth a.Terms k < q.Vars /\ -(q.Consts.length : Int) <= nth a.Terms k := by
 obtain ⟨i, hi, rfl⟩ := List.getElem_of_mem ha
 have e : q.Atoms[i] = nth q.Atoms i := by rw [nth_get hi]
 rw [e]
 have h1 := dR hq hi
 refine ⟨h1.2.1, h1.2.2.1, h1.2.2.2.1, h1.2.2.2.2, fun k hk => ?_⟩
 unfold bE at hq
 rw [Bool.and_eq_true] at hq
 have h2 := ez.1 hq.2 i hi
 unfold okA at h2
 rw [Bool.and_eq_true] at h2
 have h3 := ez.1 h2.2 k hk
 unfold okK at h3
 simp only [Bool.and_eq_true, decide_eq_true_eq] at h3
 exact ⟨h3.1.1.1, h3.1.2, h3.2⟩
theorem tJ {α : Type} [Inhabited α] {x : α} {g : Nat} : ∀ {l : List α} {i : Nat}, (g, x) ∈ fe l i ↔ i <= g /\ g < i + l.length /\ nth l (g - i) = x
 | [], i => by simp [fe]; omega
 | a :: l, i => by
   simp only [fe, List.mem_cons, Prod.mk.injEq, List.length_cons]
   rw [tJ (l := l)]
   constructor
   · rintro (⟨rfl, rfl⟩ | ⟨h1, h2, h3⟩)
     · exact ⟨by omega, by omega, by rw [Nat.sub_self]; rfl⟩
     · refine ⟨by omega, by omega, ?_⟩
       rw [show g - i = (g - (i + 1)) + 1 by omega]; exact h3
   · rintro ⟨h1, h2, h3⟩
     by_cases e : g = i
     · subst e; rw [Nat.sub_self] at h3; exact .inl ⟨rfl, h3.symm⟩
     · right
       refine ⟨by omega, by omega, ?_⟩
       rw [show g - i = (g - (i + 1)) + 1 by omega] at h3; exact h3
theorem tK {l : List (List Bool)} {f g : Nat} : ed l f g ↔ g < (nth l f).length /\ nth (nth l f) g = true := by
 unfold ed
 rw [tJ]
 simp
theorem vq {q : GConj} (h : d8 q = true) : ∃ fin, Topo (fH q) fin /\ ∀ f, f < q.Atoms.length -> f ∈ fin := by
 unfold d8 at h
 have h : (ga (fH q) (q.Atoms.length + 1) (List.range q.Atoms.length) (List.replicate q.Atoms.length 0)).1 = false := by simpa using h
 have hn : ∀ v, nth (List.replicate q.Atoms.length (0 : Int)) v = 0 := by
  intro v
  by_cases hv : v < q.Atoms.length
  · rw [nth_get (by simpa using hv)]; simp
  · have : ∀ (n v : Nat), n <= v -> nth (List.replicate n (0 : Int)) v = 0 := by
      intro n
      induction n with
      | zero => intro v _; cases v <;> rfl
      | succ n ih => intro v hv; obtain ⟨w, rfl⟩ : ∃ w, v = w + 1 := ⟨v - 1, by omega⟩; exact ih w (by omega)
    exact this _ _ (by omega)
 have F : Fits (fH q) (List.replicate q.Atoms.length (0 : Int)) [] := ⟨fun v => by rw [hn]; simp, fun pre v post e => by simp at e, fun v => .inl (hn v)⟩
 have hr : ∀ v g, ed (fH q) v g -> g < (List.replicate q.Atoms.length (0 : Int)).length := by
  intro v g hv
  have := tK.1 hv
  rw [List.length_replicate]
  by_cases hvn : v < q.Atoms.length
  · rw [lz q hvn, jK] at this; exact this.1
  · exfalso
    have h0 : ∀ (l : List (List Bool)) (v : Nat), l.length <= v -> nth l v = [] := by
     intro l
     induction l with
     | nil => intro v _; cases v <;> rfl
     | cons a l ih => intro v hv; obtain ⟨w, rfl⟩ : ∃ w, v = w + 1 := ⟨v - 1, by simp at hv; omega⟩; exact ih w (by simpa using hv)
    rw [h0 _ v (by rw [eQ]; omega)] at this
    simp at this
 obtain ⟨ext, t, m⟩ := k8 (fH q) _ _ _ [] F (fun f hf => by rw [List.length_replicate]; exact List.mem_range.1 hf) hr h
 exact ⟨ext, by simpa using t, fun f hf => by simpa using m f (List.mem_range.2 hf)⟩
theorem Fp {P : Nat -> Prop} {n : Nat} (h : P n) : ∃ m, m <= n /\ P m /\ ∀ k, k < m -> ¬ P k := by
 induction n using Nat.strongRecOn with
 | _ n ih =>
   by_cases h2 : ∃ k, k < n /\ P k
   · obtain ⟨k, hk, hp⟩ := h2
     obtain ⟨m, hm, h3⟩ := ih k hk hp
     exact ⟨m, by omega, h3⟩
   · exact ⟨n, Nat.le_refl _, h, fun k hk hp => h2 ⟨k, hk, hp⟩⟩
theorem tL {α : Type} [Inhabited α] : ∀ {l : List α} {i : Nat}, l.length <= i -> nth l i = default
 | [], _, _ => rfl
 | _ :: _, 0, h => absurd h (Nat.not_succ_le_zero _)
 | _ :: l, i + 1, h => tL (l := l) (i := i) (by simpa using h)
theorem gC {β : Type} [Inhabited β] {n : Nat} {f : Nat -> β} {i : Nat} (h : i < n) : nth ((List.range n).map f) i = f i := by
 rw [nth_get (by simpa using h)]; simp
theorem o9 {α : Type} [Inhabited α] {l m : List α} (h : l.length = m.length) (hn : ∀ i, i < l.length -> nth l i = nth m i) : l = m := by
 apply List.ext_getElem h
 intro i h1 h2
 have := hn i h1
 rwa [nth_get h1, nth_get h2] at this
theorem n4 {α : Type} [Inhabited α] {p : α -> Bool} : ∀ {l : List α} {i : Nat} {s : Int}, i < l.length -> (∀ k, k < i -> p (nth l k) = false) -> p (nth l i) = true -> findI p s l = s + i
  | [], i, s, h, _, _ => absurd h (Nat.not_lt_zero _)
  | x :: l, 0, s, _, _, hp => by
    have : p x = true := hp
    simp [findI, this]
  | x :: l, i + 1, s, h, hn, hp => by
    have h0 : p x = false := hn 0 (by omega)
    have := n4 (p := p) (l := l) (i := i) (s := s + 1) (by simpa using h) (fun k hk => hn (k + 1) (by omega)) hp
    simp [findI, h0, this]; omega
theorem zN {α : Type} [Inhabited α] {p : α -> Bool} {l : List α} {i : Nat} (h : i < l.length) (hn : ∀ k, k < i -> p (nth l k) = false) (hp : p (nth l i) = true) : findI p 0 l = i := by
  rw [n4 h hn hp]; omega
def fh : List (Int × Gkind) := [(1, ⟨0, .func (.func 64) #[] #[], .func (.func 65) #[] #[], .func (.func 66) #[] #[]⟩), (2, ⟨1, .func (.func 67) #[] #[], .func (.func 68) #[] #[], .func (.func 69) #[] #[]⟩), (3, ⟨1, .func (.func 70) #[] #[], .func (.func 71) #[] #[], .func (.func 62) #[] #[]⟩), (4, ⟨2, .func (.func 72) #[] #[], .func (.func 73) #[] #[], .func (.func 63) #[] #[]⟩), (5, ⟨2, .func (.func 74) #[] #[], .func (.func 75) #[] #[], .func (.func 63) #[] #[]⟩), (6, ⟨2, .func (.func 74) #[] #[], .func (.func 76) #[] #[], .func (.func 63) #[] #[]⟩), (7, ⟨1, .func (.func 77) #[] #[], .func (.func 78) #[] #[], .func (.func 79) #[] #[]⟩), (8, ⟨1, .func (.func 80) #[] #[], .func (.func 81) #[] #[], .func (.func 82) #[] #[]⟩)]
abbrev xl (k : Int) : Gkind := (mget fh k).getD r7
def fI (k : Int) : Bool := decide (1 <= k /\ k <= 8)
def kidsN (k : Int) : Int := if k = 1 then 0 else if k = 4 \/ k = 5 \/ k = 6 then 2 else 1
theorem dS {k : Int} (h : fI k = true) : k = 1 \/ k = 2 \/ k = 3 \/ k = 4 \/ k = 5 \/ k = 6 \/ k = 7 \/ k = 8 := by unfold fI at h; rw [decide_eq_true_eq] at h; omega
theorem n5 (k : Int) : (mget fh k).isSome = fI k := by
  by_cases h : fI k = true
  · rcases dS h with rfl | rfl | rfl | rfl | rfl | rfl | rfl | rfl <;> rfl
  · have h2 : ¬ (1 <= k /\ k <= 8) := by intro q; exact h (by unfold fI; rw [decide_eq_true_eq]; exact q)
    rw [Bool.eq_false_iff.2 h]
    simp [fh, mget, show ¬ k = 1 by omega, show ¬ k = 2 by omega, show ¬ k = 3 by omega, show ¬ k = 4 by omega, show ¬ k = 5 by omega, show ¬ k = 6 by omega, show ¬ k = 7 by omega, show ¬ k = 8 by omega]
theorem n7 {k : Int} (h : fI k = true) : (xl k).kids = kidsN k := by
  rcases dS h with rfl | rfl | rfl | rfl | rfl | rfl | rfl | rfl <;> rfl
def fu (p : aQ) : aQ :=
  if p.Kind = 1 then GPl.mk p.Kind 0 p.Kids p.Tests p.Cols p.Col p.Agg p.Attrs
  else if p.Kind = 2 then GPl.mk p.Kind p.Table p.Kids [] p.Cols p.Col p.Agg p.Attrs
  else if p.Kind = 3 then GPl.mk p.Kind p.Table p.Kids p.Tests [] p.Col p.Agg p.Attrs
  else if p.Kind = 7 then GPl.mk p.Kind p.Table p.Kids p.Tests p.Cols 0 p.Agg p.Attrs
  else if p.Kind = 8 then GPl.mk p.Kind p.Table p.Kids p.Tests [] 0 0 p.Attrs
  else p
def xm (p : aQ) : Bool := !((((!decide ((fu p).Table = 0) || decide (0 < ((fu p).Tests.length : Int))) || decide (0 < ((fu p).Cols.length : Int))) || !decide ((fu p).Col = 0)) || !decide ((fu p).Agg = 0))
def kx (l : List GAttr) (i : Nat) : Bool := decide (aM l (nth l i).Name = i)
def validM (s : GSchema) : Nat -> aQ -> Bool
  | 0, _ => false
  | l + 1, p => fI p.Kind && decide ((p.Kids.length : Int) = kidsN p.Kind) && p.Kids.all (validM s l) && xm p && (List.range p.Attrs.length).all (kx p.Attrs) && ((colsM s p).2 && jG (colsM s p).1 p.Attrs)
def n8 : Nat -> aQ -> Prop
  | 0, _ => True
  | n + 1, p => p.Kids.length <= 9223372036854775807 /\ p.Tests.length <= 1000 /\ p.Cols.length <= 1000 /\ p.Attrs.length <= 1000 /\ ∀ q ∈ p.Kids, n8 n q /\ q.Attrs.length <= 1000
theorem pa (n : Nat) (p : aQ) : Fun1 prog 62 [(aX (n + 1)).ty p] ((aX (n + 1)).ty (GPl.mk p.Kind p.Table p.Kids p.Tests [] p.Col p.Agg p.Attrs)) := by
 refine Spec.enter func62 rfl rfl fun h0 w0 fr0 => ?_
 refine Jr ?_
 refine Zx (cL (R := aX (n + 1)) Sr) fun b1 => ?_
 refine Zx (aE (fun w => zeroValue30 w) (tC (n := n))) fun b2 => ?_
 refine ab (Jr (Zs (aq (cq (n := n)) Sr rfl) ?_))
 refine Ju (aS (R := (rSl aO)) (y' := GPl.mk p.Kind p.Table p.Kids p.Tests [] p.Col p.Agg p.Attrs) dn Sr F6 zS (by exact ⟨rfl, ⟨rfl, ⟨rfl, ⟨rfl, ⟨fun _ _ q => q, rfl, by intro g hg; simp only [List.mem_cons, List.not_mem_nil, or_false] at hg; rcases hg with rfl | rfl | rfl <;> rfl⟩⟩⟩⟩⟩)) fun _ => ?_
 refine ab (Jr ?_)
 refine Zs (bb (R := aX (n + 1)) da Sr zS) ?_
 refine Ju (ai (R := aX (n + 1)) da Sr Sr zS) fun _ => ?_
 refine ab (aC ?_)
 refine aY (rv := .cell 2 30) rfl () (Sel.all _) (.cell (R := aX (n + 1)) da Sr zS Sr) (Frz.sub Sr)
theorem gD (n : Nat) (p : aQ) : Fun1 prog 63 [(aX (n + 1)).ty p] ((aX (n + 1)).ty (p)) := by
 refine Spec.enter func63 rfl rfl fun h0 w0 fr0 => ?_
 refine Jr ?_
 refine Zx (cL (R := aX (n + 1)) Sr) fun b1 => ?_
 refine Zx (aE (fun w => zeroValue30 w) (tC (n := n))) fun b2 => ?_
 refine ab (Jr ?_)
 refine Zs (bb (R := aX (n + 1)) da Sr zS) ?_
 refine Ju (ai (R := aX (n + 1)) da Sr Sr zS) fun _ => ?_
 refine ab (aC ?_)
 refine aY (rv := .cell 2 30) rfl () (Sel.all _) (.cell (R := aX (n + 1)) da Sr zS Sr) (Frz.sub Sr)
theorem nA (n : Nat) (p : aQ) : Fun1 prog 66 [(aX (n + 1)).ty p] ((aX (n + 1)).ty (GPl.mk p.Kind 0 p.Kids p.Tests p.Cols p.Col p.Agg p.Attrs)) := by
 refine Spec.enter func66 rfl rfl fun h0 w0 fr0 => ?_
 refine Jr ?_
 refine Zx (cL (R := aX (n + 1)) Sr) fun b1 => ?_
 refine Zx (aE (fun w => zeroValue30 w) (tC (n := n))) fun b2 => ?_
 refine ab (Jr (Zs (aq (cq (n := n)) Sr rfl) ?_))
 refine Ju (aS (R := aO) (y' := GPl.mk p.Kind 0 p.Kids p.Tests p.Cols p.Col p.Agg p.Attrs) ty3 Sr Sr zS (by exact ⟨rfl, ⟨fun _ _ q => q, rfl, by intro g hg; simp only [List.mem_cons, List.not_mem_nil, or_false] at hg; rcases hg with rfl | rfl | rfl | rfl | rfl | rfl <;> rfl⟩⟩)) fun _ => ?_
 refine ab (Jr ?_)
 refine Zs (bb (R := aX (n + 1)) da Sr zS) ?_
 refine Ju (ai (R := aX (n + 1)) da Sr Sr zS) fun _ => ?_
 refine ab (aC ?_)
 refine aY (rv := .cell 2 30) rfl () (Sel.all _) (.cell (R := aX (n + 1)) da Sr zS Sr) (Frz.sub Sr)
theorem nB (n : Nat) (p : aQ) : Fun1 prog 69 [(aX (n + 1)).ty p] ((aX (n + 1)).ty (GPl.mk p.Kind p.Table p.Kids [] p.Cols p.Col p.Agg p.Attrs)) := by
 refine Spec.enter func69 rfl rfl fun h0 w0 fr0 => ?_
 refine Jr ?_
 refine Zx (cL (R := aX (n + 1)) Sr) fun b1 => ?_
 refine Zx (aE (fun w => zeroValue30 w) (tC (n := n))) fun b2 => ?_
 refine ab (Jr (Zs (aq (cq (n := n)) Sr rfl) ?_))
 refine Ju (aS (R := (rSl dV)) (y' := GPl.mk p.Kind p.Table p.Kids [] p.Cols p.Col p.Agg p.Attrs) ze Sr F6 zS (by exact ⟨rfl, ⟨rfl, ⟨rfl, ⟨fun _ _ q => q, rfl, by intro g hg; simp only [List.mem_cons, List.not_mem_nil, or_false] at hg; rcases hg with rfl | rfl | rfl | rfl <;> rfl⟩⟩⟩⟩)) fun _ => ?_
 refine ab (Jr ?_)
 refine Zs (bb (R := aX (n + 1)) da Sr zS) ?_
 refine Ju (ai (R := aX (n + 1)) da Sr Sr zS) fun _ => ?_
 refine ab (aC ?_)
 refine aY (rv := .cell 2 30) rfl () (Sel.all _) (.cell (R := aX (n + 1)) da Sr zS Sr) (Frz.sub Sr)
theorem qv (n : Nat) (p : aQ) : Fun1 prog 79 [(aX (n + 1)).ty p] ((aX (n + 1)).ty (GPl.mk p.Kind p.Table p.Kids p.Tests p.Cols 0 p.Agg p.Attrs)) := by
 refine Spec.enter func79 rfl rfl fun h0 w0 fr0 => ?_
 refine Jr ?_
 refine Zx (cL (R := aX (n + 1)) Sr) fun b1 => ?_
 refine Zx (aE (fun w => zeroValue30 w) (tC (n := n))) fun b2 => ?_
 refine ab (Jr (Zs (aq (cq (n := n)) Sr rfl) ?_))
 refine Ju (aS (R := aO) (y' := GPl.mk p.Kind p.Table p.Kids p.Tests p.Cols 0 p.Agg p.Attrs) ty3 Sr Sr zS (by exact ⟨rfl, ⟨rfl, ⟨rfl, ⟨rfl, ⟨rfl, ⟨fun _ _ q => q, rfl, by intro g hg; simp only [List.mem_cons, List.not_mem_nil, or_false] at hg; rcases hg with rfl | rfl <;> rfl⟩⟩⟩⟩⟩⟩)) fun _ => ?_
 refine ab (Jr ?_)
 refine Zs (bb (R := aX (n + 1)) da Sr zS) ?_
 refine Ju (ai (R := aX (n + 1)) da Sr Sr zS) fun _ => ?_
 refine ab (aC ?_)
 refine aY (rv := .cell 2 30) rfl () (Sel.all _) (.cell (R := aX (n + 1)) da Sr zS Sr) (Frz.sub Sr)
theorem qw (n : Nat) (p : aQ) : Fun1 prog 82 [(aX (n + 1)).ty p] ((aX (n + 1)).ty (GPl.mk p.Kind p.Table p.Kids p.Tests [] 0 0 p.Attrs)) := by
 refine Spec.enter func82 rfl rfl fun h0 w0 fr0 => ?_
 refine Jr ?_
 refine Zx (cL (R := aX (n + 1)) Sr) fun b1 => ?_
 refine Zx (aE (fun w => zeroValue30 w) (tC (n := n))) fun b2 => ?_
 refine ab (Jr (Zs (aq (cq (n := n)) Sr rfl) ?_))
 refine Ju (aS (R := (rSl aO)) (y' := GPl.mk p.Kind p.Table p.Kids p.Tests [] p.Col p.Agg p.Attrs) dn Sr F6 zS (by exact ⟨rfl, ⟨rfl, ⟨rfl, ⟨rfl, ⟨fun _ _ q => q, rfl, by intro g hg; simp only [List.mem_cons, List.not_mem_nil, or_false] at hg; rcases hg with rfl | rfl | rfl <;> rfl⟩⟩⟩⟩⟩)) fun _ => ?_
 refine Zs (aq (cq (n := n)) Sr rfl) ?_
 refine Ju (aS (R := aO) (y' := GPl.mk p.Kind p.Table p.Kids p.Tests [] 0 p.Agg p.Attrs) ty3 Sr Sr zS (by exact ⟨rfl, ⟨rfl, ⟨rfl, ⟨rfl, ⟨rfl, ⟨fun _ _ q => q, rfl, by intro g hg; simp only [List.mem_cons, List.not_mem_nil, or_false] at hg; rcases hg with rfl | rfl <;> rfl⟩⟩⟩⟩⟩⟩)) fun _ => ?_
 refine Zs (aq (cq (n := n)) Sr rfl) ?_
 refine Ju (aS (R := aO) (y' := GPl.mk p.Kind p.Table p.Kids p.Tests [] 0 0 p.Attrs) ty3 Sr Sr zS (by exact ⟨rfl, ⟨rfl, ⟨rfl, ⟨rfl, ⟨rfl, ⟨rfl, ⟨fun _ _ q => q, rfl, by intro g hg; simp only [List.mem_cons, List.not_mem_nil, or_false] at hg; subst hg; rfl⟩⟩⟩⟩⟩⟩⟩)) fun _ => ?_
 refine ab (Jr ?_)
 refine Zs (bb (R := aX (n + 1)) da Sr zS) ?_
 refine Ju (ai (R := aX (n + 1)) da Sr Sr zS) fun _ => ?_
 refine ab (aC ?_)
 refine aY (rv := .cell 2 30) rfl () (Sel.all _) (.cell (R := aX (n + 1)) da Sr zS Sr) (Frz.sub Sr)
theorem n9  : Fun1 prog 35 [] (d6 kvI fQ fh) := by
 refine Spec.enter func35 rfl rfl fun h0 w0 fr0 => ?_
 refine Jr (Za (ab (Jr (Za (ab ?_)))))
 refine Jr (Za (ab (Jr ?_)))
 refine Zx (kZ (kv := kvI) (R := fQ)) fun v3 => ?_
 refine Zs (aP (x := (⟨0, .func (.func 64) #[] #[], .func (.func 65) #[] #[], .func (.func 66) #[] #[]⟩ : Gkind)) (zs := [[Value.int .i64 0], [Value.nilFunc], [Value.nilFunc], [Value.nilFunc]]) lk (fun w => zeroValue125 w) ⟨Sr, (by first | exact Sr | exact FT rfl), (by first | exact Sr | exact FT rfl), (by first | exact Sr | exact FT rfl), trivial⟩ ⟨⟨Sr, rfl⟩, ⟨(by first | exact Sr | exact FT rfl), rfl⟩, ⟨(by first | exact Sr | exact FT rfl), rfl⟩, ⟨(by first | exact Sr | exact FT rfl), rfl⟩, trivial⟩) ?_
 refine Ju (cd (kv := kvI) (R := fQ) (KeyT.int underlying3) underlying80 Sr Sr Sr zS) fun _ => ?_
 refine Zs (aP (x := (⟨1, .func (.func 67) #[] #[], .func (.func 68) #[] #[], .func (.func 69) #[] #[]⟩ : Gkind)) (zs := [[Value.int .i64 0], [Value.nilFunc], [Value.nilFunc], [Value.nilFunc]]) lk (fun w => zeroValue125 w) ⟨Sr, (by first | exact Sr | exact FT rfl), (by first | exact Sr | exact FT rfl), (by first | exact Sr | exact FT rfl), trivial⟩ ⟨⟨Sr, rfl⟩, ⟨(by first | exact Sr | exact FT rfl), rfl⟩, ⟨(by first | exact Sr | exact FT rfl), rfl⟩, ⟨(by first | exact Sr | exact FT rfl), rfl⟩, trivial⟩) ?_
 refine Ju (cd (kv := kvI) (R := fQ) (KeyT.int underlying3) underlying80 Sr Sr Sr zS) fun _ => ?_
 refine Zm ?_
 refine Zs (aP (x := (⟨1, .func (.func 70) #[] #[], .func (.func 71) #[] #[], .func (.func 62) #[] #[]⟩ : Gkind)) (zs := [[Value.int .i64 0], [Value.nilFunc], [Value.nilFunc], [Value.nilFunc]]) lk (fun w => zeroValue125 w) ⟨Sr, (by first | exact Sr | exact FT rfl), (by first | exact Sr | exact FT rfl), (by first | exact Sr | exact FT rfl), trivial⟩ ⟨⟨Sr, rfl⟩, ⟨(by first | exact Sr | exact FT rfl), rfl⟩, ⟨(by first | exact Sr | exact FT rfl), rfl⟩, ⟨(by first | exact Sr | exact FT rfl), rfl⟩, trivial⟩) ?_
 refine Ju (cd (kv := kvI) (R := fQ) (KeyT.int underlying3) underlying80 Sr Sr Sr zS) fun _ => ?_
 refine Zm ?_
 refine Zs (aP (x := (⟨2, .func (.func 72) #[] #[], .func (.func 73) #[] #[], .func (.func 63) #[] #[]⟩ : Gkind)) (zs := [[Value.int .i64 0], [Value.nilFunc], [Value.nilFunc], [Value.nilFunc]]) lk (fun w => zeroValue125 w) ⟨Sr, (by first | exact Sr | exact FT rfl), (by first | exact Sr | exact FT rfl), (by first | exact Sr | exact FT rfl), trivial⟩ ⟨⟨Sr, rfl⟩, ⟨(by first | exact Sr | exact FT rfl), rfl⟩, ⟨(by first | exact Sr | exact FT rfl), rfl⟩, ⟨(by first | exact Sr | exact FT rfl), rfl⟩, trivial⟩) ?_
 refine Ju (cd (kv := kvI) (R := fQ) (KeyT.int underlying3) underlying80 Sr Sr Sr zS) fun _ => ?_
 refine Zm ?_
 refine Zs (aP (x := (⟨2, .func (.func 74) #[] #[], .func (.func 75) #[] #[], .func (.func 63) #[] #[]⟩ : Gkind)) (zs := [[Value.int .i64 0], [Value.nilFunc], [Value.nilFunc], [Value.nilFunc]]) lk (fun w => zeroValue125 w) ⟨Sr, (by first | exact Sr | exact FT rfl), (by first | exact Sr | exact FT rfl), (by first | exact Sr | exact FT rfl), trivial⟩ ⟨⟨Sr, rfl⟩, ⟨(by first | exact Sr | exact FT rfl), rfl⟩, ⟨(by first | exact Sr | exact FT rfl), rfl⟩, ⟨(by first | exact Sr | exact FT rfl), rfl⟩, trivial⟩) ?_
 refine Ju (cd (kv := kvI) (R := fQ) (KeyT.int underlying3) underlying80 Sr Sr Sr zS) fun _ => ?_
 refine Zm ?_
 refine Zs (aP (x := (⟨2, .func (.func 74) #[] #[], .func (.func 76) #[] #[], .func (.func 63) #[] #[]⟩ : Gkind)) (zs := [[Value.int .i64 0], [Value.nilFunc], [Value.nilFunc], [Value.nilFunc]]) lk (fun w => zeroValue125 w) ⟨Sr, (by first | exact Sr | exact FT rfl), (by first | exact Sr | exact FT rfl), (by first | exact Sr | exact FT rfl), trivial⟩ ⟨⟨Sr, rfl⟩, ⟨(by first | exact Sr | exact FT rfl), rfl⟩, ⟨(by first | exact Sr | exact FT rfl), rfl⟩, ⟨(by first | exact Sr | exact FT rfl), rfl⟩, trivial⟩) ?_
 refine Ju (cd (kv := kvI) (R := fQ) (KeyT.int underlying3) underlying80 Sr Sr Sr zS) fun _ => ?_
 refine Zs (aP (x := (⟨1, .func (.func 77) #[] #[], .func (.func 78) #[] #[], .func (.func 79) #[] #[]⟩ : Gkind)) (zs := [[Value.int .i64 0], [Value.nilFunc], [Value.nilFunc], [Value.nilFunc]]) lk (fun w => zeroValue125 w) ⟨Sr, (by first | exact Sr | exact FT rfl), (by first | exact Sr | exact FT rfl), (by first | exact Sr | exact FT rfl), trivial⟩ ⟨⟨Sr, rfl⟩, ⟨(by first | exact Sr | exact FT rfl), rfl⟩, ⟨(by first | exact Sr | exact FT rfl), rfl⟩, ⟨(by first | exact Sr | exact FT rfl), rfl⟩, trivial⟩) ?_
 refine Ju (cd (kv := kvI) (R := fQ) (KeyT.int underlying3) underlying80 Sr Sr Sr zS) fun _ => ?_
 refine Zs (aP (x := (⟨1, .func (.func 80) #[] #[], .func (.func 81) #[] #[], .func (.func 82) #[] #[]⟩ : Gkind)) (zs := [[Value.int .i64 0], [Value.nilFunc], [Value.nilFunc], [Value.nilFunc]]) lk (fun w => zeroValue125 w) ⟨Sr, (by first | exact Sr | exact FT rfl), (by first | exact Sr | exact FT rfl), (by first | exact Sr | exact FT rfl), trivial⟩ ⟨⟨Sr, rfl⟩, ⟨(by first | exact Sr | exact FT rfl), rfl⟩, ⟨(by first | exact Sr | exact FT rfl), rfl⟩, ⟨(by first | exact Sr | exact FT rfl), rfl⟩, trivial⟩) ?_
 refine Ju (cd (kv := kvI) (R := fQ) (KeyT.int underlying3) underlying80 Sr Sr Sr zS) fun _ => ?_
 refine Zm (Za (ab (aC ?_)))
 refine aY (rv := .tmp 0) rfl () (Sel.all _) (.tmp Sr) (GA (m := fh))
section
variable {ro : Option Nat} {N : Nat} {ds : List Deferred} {h0 : PH} {w0 : World} {r : PH} {E : Env} {L : List SP} {d : Option Nat} {ty : Nat} {pos : String} {af : Array Edge} {g : Option (Nat × Bool)} {x y : Operand} {ts : Array Nat}
theorem cw {f : Nat} {A : Ty} {R : Ty} (v : Value) (hv : v = .func (.func f) #[] #[]) (hf : Fun1 prog f [A] R) (he : ∀ args w, (callFunc f args).run prog w = .ok (.enter f args) w) (hx : Sub (opTy E x) (rV.ty v)) (hy : Sub (opTy E y) A) :
    Step (X := Unit) ⟨prog, ro, N, ds, h0, w0, r⟩ ⟨d, .call { callee := .value x, args := #[y], argTypes := ts }, ty, pos, af, g⟩ E L (fun _ => R) (fun _ => L) :=
  bp (f := f) (aT := [A]) (As := []) (fun h u e => by
    obtain ⟨e1, _⟩ := hx h u e
    rw [hv] at e1
    exact ⟨[], e1, trivial⟩) hf ⟨hy, trivial⟩ he
theorem xo {n : Nat} {p : aQ} (hk : fI p.Kind = true) (hx : Sub (opTy E x) (rV.ty (xl p.Kind).rest)) (hy : Sub (opTy E y) ((aX (n + 1)).ty p)) :
    Step (X := Unit) ⟨prog, ro, N, ds, h0, w0, r⟩ ⟨d, .call { callee := .value x, args := #[y], argTypes := ts }, ty, pos, af, g⟩ E L (fun _ => (aX (n + 1)).ty (fu p)) (fun _ => L) := by
  rcases dS hk with h | h | h | h | h | h | h | h <;> rw [h] at hx
  · rw [show fu p = GPl.mk p.Kind 0 p.Kids p.Tests p.Cols p.Col p.Agg p.Attrs by simp [fu, h]]; exact cw _ rfl (nA n p) call66 hx hy
  · rw [show fu p = GPl.mk p.Kind p.Table p.Kids [] p.Cols p.Col p.Agg p.Attrs by simp [fu, h]]; exact cw _ rfl (nB n p) call69 hx hy
  · rw [show fu p = GPl.mk p.Kind p.Table p.Kids p.Tests [] p.Col p.Agg p.Attrs by simp [fu, h]]; exact cw _ rfl (pa n p) call62 hx hy
  · rw [show fu p = p by simp [fu, h]]; exact cw _ rfl (gD n p) call63 hx hy
  · rw [show fu p = p by simp [fu, h]]; exact cw _ rfl (gD n p) call63 hx hy
  · rw [show fu p = p by simp [fu, h]]; exact cw _ rfl (gD n p) call63 hx hy
  · rw [show fu p = GPl.mk p.Kind p.Table p.Kids p.Tests p.Cols 0 p.Agg p.Attrs by simp [fu, h]]; exact cw _ rfl (qv n p) call79 hx hy
  · rw [show fu p = GPl.mk p.Kind p.Table p.Kids p.Tests [] 0 0 p.Attrs by simp [fu, h]]; exact cw _ rfl (qw n p) call82 hx hy
theorem xp {n : Nat} {p : Gplan} (hk : fI p.Plan.Kind = true) (hn : (p.Plan.Kids.length : Int) = kidsN p.Plan.Kind) (hz : SchSz p.schema) (hp : n8 (n + 1) p.Plan) (hx : Sub (opTy E x) (rV.ty (xl p.Plan.Kind).columns)) (hy : Sub (opTy E y) ((gA n).ty p)) :
    Step (X := Unit) ⟨prog, ro, N, ds, h0, w0, r⟩ ⟨d, .call { callee := .value x, args := #[y], argTypes := ts }, ty, pos, af, g⟩ E L (fun _ => fW [tSl bu (colsM p.schema p.Plan).1, tV (.bool (colsM p.schema p.Plan).2)]) (fun _ => L) := by
  obtain ⟨z1, z2, z3, z4, z5⟩ := hp
  have hA : ∀ i, i < p.Plan.Kids.length -> (nth p.Plan.Kids i).Attrs.length <= 100000000 := fun i hi => Nat.le_trans (z5 _ (nth_mem hi)).2 (by omega)
  rcases dS hk with h | h | h | h | h | h | h | h <;> rw [h] at hx hn
  · have e : colsM p.schema p.Plan = (if 0 <= p.Plan.Table /\ p.Plan.Table < p.schema.Tables.length then iW (nth p.schema.Tables p.Plan.Table.toNat) p.Plan.Attrs else [], decide (0 <= p.Plan.Table /\ p.Plan.Table < p.schema.Tables.length)) := by
      unfold colsM; rw [if_pos h]; split
      · rename_i q; simp [q]
      · rename_i q; simp [q]
    rw [e]; exact cw _ rfl (qk n p hz (by omega)) call64 hx hy
  · have e : colsM p.schema p.Plan = ((nth p.Plan.Kids 0).Attrs, decide (0 < (p.Plan.Tests.length : Int)) && !(p.Plan.Tests.any fun t => !dY t (nth p.Plan.Kids 0).Attrs.length)) := by simp [colsM, h]
    rw [e]; exact cw _ rfl (u7 n p (by simp [kidsN] at hn; omega) (by omega)) call67 hx hy
  · have e : colsM p.schema p.Plan = (eE (nth p.Plan.Kids 0).Attrs p.Plan.Cols, dX (nth p.Plan.Kids 0).Attrs.length p.Plan.Cols) := by simp [colsM, h]
    rw [e]; exact cw _ rfl (sj n p (by simp [kidsN] at hn; omega) (by omega)) call70 hx hy
  · have hn2 : p.Plan.Kids.length = 2 := by simp [kidsN] at hn; omega
    have e : colsM p.schema p.Plan = (if iX (nth p.Plan.Kids 0).Attrs (nth p.Plan.Kids 1).Attrs = true then dv (nth p.Plan.Kids 0).Attrs (nth p.Plan.Kids 1).Attrs else [], iX (nth p.Plan.Kids 0).Attrs (nth p.Plan.Kids 1).Attrs) := by
      have e1 : colsM p.schema p.Plan = if iX (nth p.Plan.Kids 0).Attrs (nth p.Plan.Kids 1).Attrs = true then (dv (nth p.Plan.Kids 0).Attrs (nth p.Plan.Kids 1).Attrs, true) else ([], false) := by simp [colsM, h]
      rw [e1]; split
      · rename_i q; rw [q]
      · rename_i q; rw [Bool.eq_false_iff.2 q]
    rw [e]; exact cw _ rfl (sk n p (by omega) (hA 0 (by omega)) (hA 1 (by omega))) call72 hx hy
  · have hn2 : p.Plan.Kids.length = 2 := by simp [kidsN] at hn; omega
    have e : colsM p.schema p.Plan = ((nth p.Plan.Kids 0).Attrs, jG (nth p.Plan.Kids 0).Attrs (nth p.Plan.Kids 1).Attrs) := by simp [colsM, h]
    rw [e]; exact cw _ rfl (mg n p (by omega) (hA 0 (by omega))) call74 hx hy
  · have hn2 : p.Plan.Kids.length = 2 := by simp [kidsN] at hn; omega
    have e : colsM p.schema p.Plan = ((nth p.Plan.Kids 0).Attrs, jG (nth p.Plan.Kids 0).Attrs (nth p.Plan.Kids 1).Attrs) := by simp [colsM, h]
    rw [e]; exact cw _ rfl (mg n p (by omega) (hA 0 (by omega))) call74 hx hy
  · have hn1 : p.Plan.Kids.length = 1 := by simp [kidsN] at hn; omega
    have e : colsM p.schema p.Plan = (if ln p.Plan = true then zD p.Plan else [], ln p.Plan) := by
      have e1 : colsM p.schema p.Plan = if ln p.Plan = true then (zD p.Plan, true) else ([], false) := by simp [colsM, h]
      rw [e1]; split
      · rename_i q; rw [q]
      · rename_i q; rw [Bool.eq_false_iff.2 q]
    rw [e]; exact cw _ rfl (vd n p (by omega) (hA 0 (by omega))) call77 hx hy
  · have hn1 : p.Plan.Kids.length = 1 := by simp [kidsN] at hn; omega
    have e : colsM p.schema p.Plan = (if kw p.Plan = true then o3 p.Plan else [], kw p.Plan && ly p.Plan) := by
      have e1 : colsM p.schema p.Plan = if kw p.Plan = true then (o3 p.Plan, ly p.Plan) else ([], false) := by simp [colsM, h]
      rw [e1]; split
      · rename_i q; rw [q, Bool.true_and]
      · rename_i q; rw [Bool.eq_false_iff.2 q, Bool.false_and]
    rw [e]; exact cw _ rfl (ve n p (by omega) (hA 0 (by omega)) (by omega)) call80 hx hy
end
theorem zP {s : GSchema} {n : Nat} {p : aQ} (hz : SchSz s) (hp : n8 (n + 1) p) (hk : fI p.Kind = true) (hn : (p.Kids.length : Int) = kidsN p.Kind) : (colsM s p).1.length <= 1000000000000 := by
  obtain ⟨z1, z2, z3, z4, z5⟩ := hp
  have hA : ∀ i, i < p.Kids.length -> (nth p.Kids i).Attrs.length <= 100000000 := fun i hi => Nat.le_trans (z5 _ (nth_mem hi)).2 (by omega)
  rcases dS hk with h | h | h | h | h | h | h | h <;> rw [h] at hn <;> simp only [kidsN] at hn <;> simp at hn
  · have e : colsM s p = if 0 <= p.Table /\ p.Table < s.Tables.length then (iW (nth s.Tables p.Table.toNat) p.Attrs, true) else ([], false) := by simp [colsM, h]
    rw [e]; split
    · rename_i q
      have := (hz.tab _ (nth_mem (l := s.Tables) (i := p.Table.toNat) (by omega))).at'
      simp only [iW, List.length_map, List.length_range]; omega
    · simp
  · have e : (colsM s p).1 = (nth p.Kids 0).Attrs := by simp [colsM, h]
    rw [e]; have := hA 0 (by omega); omega
  · have e : (colsM s p).1 = eE (nth p.Kids 0).Attrs p.Cols := by simp [colsM, h]
    rw [e]; have := qj (nth p.Kids 0).Attrs p.Cols; omega
  · have e : colsM s p = if iX (nth p.Kids 0).Attrs (nth p.Kids 1).Attrs = true then (dv (nth p.Kids 0).Attrs (nth p.Kids 1).Attrs, true) else ([], false) := by simp [colsM, h]
    rw [e]; split
    · have := qh (nth p.Kids 0).Attrs (nth p.Kids 1).Attrs
      have := hA 0 (by omega); have := hA 1 (by omega); simp only []; omega
    · simp
  · have e : (colsM s p).1 = (nth p.Kids 0).Attrs := by simp [colsM, h]
    rw [e]; have := hA 0 (by omega); omega
  · have e : (colsM s p).1 = (nth p.Kids 0).Attrs := by simp [colsM, h]
    rw [e]; have := hA 0 (by omega); omega
  · have e : colsM s p = if ln p = true then (zD p, true) else ([], false) := by simp [colsM, h]
    rw [e]; split
    · simp only [zD, List.length_set]; have := hA 0 (by omega); omega
    · simp
  · have e : colsM s p = if kw p = true then (o3 p, ly p) else ([], false) := by simp [colsM, h]
    rw [e]; split
    · simp only [o3, jd, List.length_append, List.length_map, List.length_singleton]; omega
    · simp
def A8 (s : GSchema) (n : Nat) : Prop := ∀ (lv : Nat) (p : aQ), lv <= 1000 -> n8 n p -> Fun1 prog 47 [bB.ty s, d6 kvI fQ fh, (aX n).ty p, tV (.int .i64 lv)] (tV (.bool (validM s lv p)))
theorem sx (s : GSchema) (hz : SchSz s) (n lv : Nat) (p : aQ) (hlv : lv <= 1000) (hp : n8 (n + 1) p) (ih : A8 s n) : Fun1 prog 47 [bB.ty s, d6 kvI fQ fh, (aX (n + 1)).ty p, tV (.int .i64 lv)] (tV (.bool (validM s lv p))) := by
 refine Spec.enter func47 rfl rfl fun h0 w0 fr0 => ?_
 obtain ⟨z1, z2, z3, z4, z5⟩ := id hp
 refine Jr (Zs (aF (R := bB) Sr) (Zs (aF (R := (aX (n + 1))) Sr) (Za (ab (Jr ?_)))))
 refine Zm (Zs (aa cq Sr rfl) (Zl ty3 Sr (Zs (lM (kv := kvI) (R := fQ) (z := r7) (KeyT.int underlying3) underlying80 (fun w => zeroValue125 w) BM Sr Sr) (Zm (Zs (aL Sr rfl) ?_)))))
 refine Zs (aL Sr rfl) ?_
 refine Zx (aE (fun w => zeroValue125 w) BM) fun v9 => ?_
 refine Ju (ai C1 Sr Sr zS) fun _ => ?_
 refine aN (t := 9) (Sel.take (FN _)) Frz.box ?_
 refine Za (ab (ap (Jr (Zm (Zs (bc Sr) ?_)))))
 refine Zm ?_
 refine Zk (ar Sr) ?_
 refine Zg (fun hw => aJ (Sub.w hw) Sr) (Zs (aD Sr Sr) (Zm ?_))
 refine Zk (aa cq Sr rfl) ?_
 refine Zg (fun hw => ad lW (Sub.w hw)) (Zg (fun hw => ag underlying25 (Sub.w hw)) ?_)
 refine Zk (aa lk Sr rfl) ?_
 refine Zg (fun hw => ad ty3 (Sub.w hw)) (Zg (fun hw => be (Sub.w hw) (Sub.w hw)) (Zs (aD Sr Sr) (ab ?_)))
 refine am Sr (fun h37 => ?_) (fun h37 => ?_)
 ·
  try simp only [NF] at h37
  refine Jr (Za (ab (aC ?_)))
  refine aI (t := 8) rfl () ?_
  refine Sub.bool ?_
  cases lv with
  | zero => rfl
  | succ l =>
   have : (fI p.Kind && decide ((p.Kids.length : Int) = kidsN p.Kind)) = false := by
    rw [n5] at h37
    by_cases hkd : fI p.Kind = true
    ·
     rw [hkd, Bool.true_and, decide_eq_false_iff_not, <- n7 hkd]
     rcases h37 with (h | h) | h
     ·
      rw [hkd] at h; cases h
     ·
      omega
     exact h
    rw [Bool.eq_false_iff.2 hkd, Bool.false_and]
   simp only [validM, this, Bool.false_and]
 try simp only [NF] at h37
 rw [n5] at h37
 have hkd : fI p.Kind = true := by simp_all
 have hkn : (p.Kids.length : Int) = kidsN p.Kind := by rw [<- n7 hkd]; simp_all
 obtain ⟨l, rfl⟩ : ∃ l, lv = l + 1 := ⟨lv - 1, by omega⟩
 refine av (ap (Jr (Zs (aa cq Sr rfl) (Zl lW Sr (Zs (ag underlying25 Sr) ?_)))))
 refine Zm (ab (au ?_))
 refine aK (σ := Nat) (fun i => i <= p.Kids.length /\ ∀ k, k < i -> validM s l (nth p.Kids k) = true) (fun i => upd (upd (upd (upd (upd (upd (upd (upd (upd co 1 (d6 kvI fQ fh)) 3 (tV (.int .i64 ((l + 1 : Nat) : Int)))) 4 (bx bB s)) 6 (bx (aX (n + 1)) p)) 9 (bx fQ (xl p.Kind))) 10 (tV (.bool (mget fh p.Kind).isSome))) 39 (tSl (aX n) p.Kids)) 40 (tV (.int .i64 p.Kids.length))) 41 (tV (.int .i64 i))) (fun i => []) (fun i => p.Kids.length - i) 0 ⟨by omega, fun k hk => by omega⟩ (zU) (LSub.rfl) ?_
 rintro i ⟨hi, hv⟩
 refine Jr (Zs (az Sr Sr) (ab (ap ?_)))
 refine am Sr (fun h42 => ?_) (fun h42 => ?_)
 ·
  try simp only [NF] at h42
  have hlt : i < p.Kids.length := by omega
  refine fF 39 (fun _ _ r => jI zG r) fun ⟨m, hm⟩ => ?_
  subst hm
  refine av (ap (au (Jr ?_)))
  refine Zs (ae  underlying25 da Sr Sr rfl (gb (by exact hlt))) ?_
  refine Zl da Sr ?_
  refine Zx (aE (fun w => zeroValue30 w) (tC (n := m))) fun v12 => ?_
  refine Ju (ai da Sr Sr zS) fun _ => ?_
  refine aN (t := 12) (Sel.take (FN _)) Frz.box ?_
  refine ab (Jr (Zl lV Sr (Zm (Zl da Sr (Zm ?_)))))
  refine Zs (cK Sr Sr z6) (Zs (aj (ih l _ zG (z5 _ (nth_mem hlt)).1) ⟨Sr, Sr, Sr, Sub.int zG, trivial⟩ call47) (Zs (bc Sr) (ab ?_)))
  refine am Sr (fun h51 => ?_) (fun h51 => ?_)
  ·
   try simp only [NF] at h51
   refine Jr (Za (ab (aC ?_)))
   refine aI (t := 8) rfl () ?_
   refine Sub.bool ?_
   have : p.Kids.all (validM s l) = false := ll hlt (by simpa using h51)
   simp only [validM, this]; simp
  try simp only [NF] at h51
  refine av (ah (Zs (ax Sr Sr z6) (Zm (ab ?_))))
  refine ay (σ := Nat) (s := i) (i + 1) zO ?_ (zU) (LSub.rfl)
  exact nU (p := fun q => validM s l q = true) hlt hv (by simpa using h51)
 try simp only [NF] at h42
 have hkids : p.Kids.all (validM s l) = true := l4 (fun k hk => hv k zG)
 refine aV (ap (Jr (Zs (aa lk Sr rfl) (Zl C0 Sr (Zl da Sr ?_)))))
 refine Zs (xo hkd Sr Sr) ?_
 refine Zx (aE (fun w => zeroValue30 w) (tC (n := n))) fun v13 => ?_
 refine Ju (ai da Sr Sr zS) fun _ => ?_
 refine aN (t := 13) (Sel.take (FN _)) Frz.box ?_
 refine ab (Jr (Zs (aa cq Sr rfl) (Zl ty3 Sr (Zs (be Sr Sr) (Zm ?_)))))
 refine Zk (aa cq Sr rfl) ?_
 refine Zg (fun hw => ad ze (Sub.w hw)) (Zg (fun hw => ag underlying26 (Sub.w hw)) (Zg (fun hw => bj (Sub.w hw) Sr) (Zs (aD Sr Sr) (Zm ?_))))
 refine Zk (aa cq Sr rfl) ?_
 refine Zg (fun hw => ad dn (Sub.w hw)) (Zg (fun hw => ag underlying27 (Sub.w hw)) (Zg (fun hw => bj (Sub.w hw) Sr) (Zs (aD Sr Sr) (Zm ?_))))
 refine Zk (aa cq Sr rfl) ?_
 refine Zg (fun hw => ad ty3 (Sub.w hw)) (Zg (fun hw => be (Sub.w hw) Sr) (Zs (aD Sr Sr) (Zm ?_)))
 refine Zk (aa cq Sr rfl) ?_
 refine Zg (fun hw => ad ty3 (Sub.w hw)) (Zg (fun hw => be (Sub.w hw) Sr) (Zs (aD Sr Sr) (ab ?_)))
 refine am Sr (fun h81 => ?_) (fun h81 => ?_)
 ·
  try simp only [NF] at h81
  refine Jr (Za (ab (aC ?_)))
  refine aI (t := 8) rfl () ?_
  refine Sub.bool ?_
  have : xm p = false := by
   unfold xm
   simp only [NF]
   exact h81
  simp only [validM, this]; simp
 try simp only [NF] at h81
 have hb : xm p = true := by
  unfold xm
  simp only [NF]
  exact h81
 refine av (ap (Jr (Zs (aa cq Sr rfl) (Zl eP Sr (Zs (ag underlying28 Sr) ?_)))))
 refine Zm (ab (au ?_))
 refine aK (σ := Nat) (fun i => i <= p.Attrs.length /\ ∀ k, k < i -> kx p.Attrs k = true) (fun i => upd (upd (upd (upd (upd (upd (upd co 4 (bx bB s)) 6 (bx (aX (n + 1)) p)) 9 (bx fQ (xl p.Kind))) 10 (tV (.bool (mget fh p.Kind).isSome))) 83 (tSl bu p.Attrs)) 84 (tV (.int .i64 p.Attrs.length))) 85 (tV (.int .i64 i))) (fun i => []) (fun i => p.Attrs.length - i) 0 ⟨by omega, fun k hk => by omega⟩ (zU) (LSub.rfl) ?_
 rintro i ⟨hi2, hv2⟩
 refine Jr (Zs (az Sr Sr) (ab (ap ?_)))
 refine am Sr (fun h86 => ?_) (fun h86 => ?_)
 ·
  try simp only [NF] at h86
  have hlt : i < p.Attrs.length := by omega
  refine av (ap (au (Jr (Zm ?_))))
  refine Zs (ae  underlying28 eS Sr Sr rfl (gb (by exact hlt))) ?_
  refine Zl eS Sr ?_
  refine Zx (aE (fun w => zeroValue64 w) zx) fun v15 => ?_
  refine Za ?_
  refine Ju (ai eS Sr Sr zS) fun _ => ?_
  refine aN (t := 15) (Sel.take (FN _)) Frz.box ?_
  refine ab (Jr (Zs (aa cq Sr rfl) (Zl eP Sr (Zs (aa gV Sr rfl) (Zl ty9 Sr ?_)))))
  refine Zs (aj (g8 _ _ (by show p.Attrs.length <= _; omega)) ⟨Sr, Sr, trivial⟩ call102) ?_
  refine Zm (Zs (be Sr Sr) (ab ?_))
  refine am Sr (fun h96 => ?_) (fun h96 => ?_)
  ·
   try simp only [NF] at h96
   refine Jr (Za (ab (aC ?_)))
   refine aI (t := 8) rfl () ?_
   refine Sub.bool ?_
   have : kx p.Attrs i = false := by simpa [kx] using h96
   simp only [validM, f9 hlt this]; simp
  try simp only [NF] at h96
  refine av (ah (Zs (ax Sr Sr z6) (Zm (ab ?_))))
  refine ay (σ := Nat) (s := i) (i + 1) zO ?_ (zU) (LSub.rfl)
  refine ⟨by omega, fun k hk => ?_⟩
  by_cases e : k = i
  ·
   subst e; simpa [kx] using h96
  exact hv2 k zG
 try simp only [NF] at h86
 have hns : (List.range p.Attrs.length).all (kx p.Attrs) = true := fE (fun k hk => hv2 k zG)
 refine aV (Jr (Zs (aa lk Sr rfl) (Zl CZ Sr (Zl da Sr (Zl lV Sr ?_)))))
 refine Zs (aP (x := (⟨p, s⟩ : Gplan)) (zs := [[Value.int .i64 0, Value.int .i64 0, Value.slice none 0 0, Value.slice none 0 0, Value.slice none 0 0, Value.int .i64 0, Value.int .i64 0, Value.slice none 0 0], [Value.slice none 0 0]]) cW (fun w => zeroValue121 w) ⟨Sr, Sr, trivial⟩ ⟨⟨Sr, rfl⟩, ⟨Sr, rfl⟩, trivial⟩) (Zs (xp hkd hkn hz hp Sr Sr) (Zm (Zs (aL Sr rfl) (Zs (aL Sr rfl) (Za ?_)))))
 refine Za (ab (Jr (Zm (Zm ?_))))
 refine Zk (ar Sr) ?_
 refine Zk (aa cq Sr rfl) ?_
 refine Zg (fun hw => ad eP (Sub.w hw)) (Zg (fun hw => aj (nV _ _ (zP hz hp hkd hkn)) ⟨(Sub.w hw), (Sub.w hw), trivial⟩ call103) (Zs (aw Sr Sr) (Za (ab (aC ?_)))))
 refine aI (t := 8) rfl () ?_
 refine Sub.bool ?_
 have hkn2 : decide ((p.Kids.length : Int) = kidsN p.Kind) = true := by rw [decide_eq_true_eq]; exact hkn
 simp only [validM, hkd, hkn2, hkids, hb, hns, Bool.true_and]
theorem oc (s : GSchema) (hz : SchSz s) : ∀ n, A8 s n
 | 0 => fun lv p hlv hp => by
  refine Spec.enter func47 rfl rfl fun h0 w0 fr0 => ?_
  exact fF 2 (fun _ _ r => (show False from r)) fun q => q.elim
 | n + 1 => fun lv p hlv hp => sx s hz n lv p hlv hp (oc s hz n)
def np (s : GSchema) (p : aQ) : Bool := no s && validM s 12 p
theorem gE (s : GSchema) (hz : SchSz s) (n : Nat) (p : aQ) (hp : n8 n p) : Fun1 prog 16 [bB.ty s, (aX n).ty p] (tV (.bool (np s p))) := by
 refine Spec.enter func16 rfl rfl fun h0 w0 fr0 => ?_
 refine Jr (Zs (aF (R := bB) Sr) (Zs (aF (R := (aX n)) Sr) (Za (ab (ap ?_)))))
 refine bQ [⟨0, [2], true⟩, ⟨1, [5], true⟩, ⟨2, [6], true⟩, ⟨3, [2, 7], true⟩, ⟨4, [7], true⟩, ⟨5, [3, 7], true⟩, ⟨6, [7, 8, 9, 10], true⟩, ⟨7, [7, 11], true⟩, ⟨8, [12], true⟩] rfl (by kernel_rfl) ?_
 refine Zf rfl (ad lV Sr) (Zf rfl (aj (o4 _ hz) ⟨Sr, trivial⟩ call46) (Zv rfl ?_))
 refine Mk rfl rfl Sr rfl (ad lV Sr) ?_
 refine Mk rfl rfl Sr rfl (aj (n9) trivial call35) ?_
 refine Mk rfl rfl Sr rfl (ad da Sr) ?_
 refine Mg rfl rfl Sr rfl (fun hw => aj (oc s hz n 12 p zG hp) ⟨Sub.w hw, Sub.w hw, Sub.w hw, Sr, trivial⟩ call47) (Zf rfl (aw Sr Sr) (Zf rfl (bd Sr) (bP (aC ?_))))
 exact aI (t := 4) rfl () Sr
section
variable {C : Cx} {E : Env} {L : List SP} {d : Option Nat} {ty : Nat} {pos : String} {af : Array Edge} {g : Option (Nat × Bool)}
theorem xq {T U : Nat} {x y : Operand} {a b : Int} (hx : Sub (opTy E x) (tV (.int .i64 a))) (hy : Sub (opTy E y) (tV (.int .i64 b))) :
    a8 C ⟨d, .binOp .add T x y U, ty, pos, af, g⟩ E L (tV (.int .i64 (IntKind.i64.wrap (a + b)))) := dE hx hy (fun P w => by simp [binOp, Op.intArith])
end
end Lg
namespace Lg
def Acy (up : Nat -> Nat) (n : Nat) : Prop := ∃ r : Nat -> Nat, ∀ i, i < n -> up i < n /\ (up i = i \/ r (up i) < r i)
inductive Rt (up : Nat -> Nat) : Nat -> Nat -> Prop
 | here {i : Nat} : up i = i -> Rt up i i
 | go {i t : Nat} : up i ≠ i -> Rt up (up i) t -> Rt up i t
theorem Rt.top {up : Nat -> Nat} {i t : Nat} (h : Rt up i t) : up t = t := by
 induction h with
 | here h => exact h
 | go _ _ ih => exact ih
theorem Rt.uniq {up : Nat -> Nat} {i t t' : Nat} (h : Rt up i t) (h' : Rt up i t') : t = t' := by
 induction h with
 | here h =>
   cases h' with
   | here _ => rfl
   | go hn _ => exact absurd h hn
 | go hn _ ih =>
   cases h' with
   | here h2 => exact absurd h2 hn
   | go _ h2 => exact ih h2
def tM (up : Nat -> Nat) (k i : Nat) : Nat -> Nat := fun j => if j = k then i else up j
theorem Dg {up : Nat -> Nat} {k i : Nat} (hk : up k = k) (hi : up i = i) (hne : i ≠ k) {j t : Nat} (h : Rt up j t) : Rt (tM up k i) j (if t = k then i else t) := by
 have hii : tM up k i i = i := by unfold tM; rw [if_neg hne]; exact hi
 induction h with
 | @here j h =>
   by_cases e : j = k
   · subst e
     rw [if_pos rfl]
     have e2 : tM up j i j = i := by unfold tM; rw [if_pos rfl]
     exact .go (by rw [e2]; exact hne) (by rw [e2]; exact .here hii)
   · rw [if_neg e]
     exact .here (by unfold tM; rw [if_neg e]; exact h)
 | @go j t hn _ ih =>
   have e : j ≠ k := fun e => hn (by rw [e]; exact hk)
   have e2 : tM up k i j = up j := by unfold tM; rw [if_neg e]
   exact .go (by rw [e2]; exact hn) (by rw [e2]; exact ih)
theorem BT {up : Nat -> Nat} {n k i : Nat} (a : Acy up n) (hi : up i = i) (hin : i < n) (hne : i ≠ k) : Acy (tM up k i) n := by
 obtain ⟨r, hr⟩ := a
 -- all that is not bound to i's place rises by what i has
 refine ⟨fun j => if j = i then 0 else r j + 1, fun j hj => ?_⟩
 unfold tM
 by_cases e : j = k
 · rw [if_pos e]
   subst e
   refine ⟨hin, .inr ?_⟩
   dsimp only
   rw [if_pos rfl, if_neg fun x => hne x.symm]; omega
 · rw [if_neg e]
   refine ⟨(hr j hj).1, ?_⟩
   rcases (hr j hj).2 with h | h
   · exact .inl h
   · by_cases e2 : j = i
     · subst e2; exact .inl hi
     · refine .inr ?_
       dsimp only
       rw [if_neg e2]
       split <;> omega
end Lg
