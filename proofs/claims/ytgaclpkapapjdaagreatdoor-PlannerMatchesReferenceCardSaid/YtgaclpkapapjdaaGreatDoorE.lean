/- A part of the proof of the law PlannerMatchesReference: contracts of functions that the law reaches, and facts about what they compute. -/
import Derived.Test.YtgaclpkapapjdaaGreatDoorD
import Derived.Lib.SliceRun
set_option linter.unusedVariables false
set_option linter.unusedSimpArgs false
set_option linter.unusedSectionVars false
set_option maxHeartbeats 16000000
namespace Lg
open Go Go.Proofs Go.Proofs.Tryz
def CG (s : GSchema) (p : aG) (st : GStats) : Gplanner := if bq s p st = true then (⟨s, st⟩ : Gplanner) else zplanner
def pb (s : GSchema) (n : Nat) (p : aG) (st : GStats) : Int := if bq s p st = true then (cD ⟨s, st⟩ n p).size.cost else 0
def tM (s : GSchema) (p : aG) (st : GStats) : Int := if bq s p st = true then 0 else 1
def fewP (st : GStats) : Bool := (st.Distinct.all fun d => decide (d.length <= 30)) && (decide (st.Rows.length <= 30) && decide (st.Distinct.length <= 30))
theorem zW {st : GStats} (h : fewP st = true) : st.Rows.length <= 30 /\ st.Distinct.length <= 30 /\ ∀ d ∈ st.Distinct, d.length <= 30 := by
  unfold fewP at h
  simp only [Bool.and_eq_true, decide_eq_true_eq, List.all_eq_true] at h
  exact ⟨h.2.1, h.2.2, h.1⟩
theorem xZ {s : GSchema} (h : lX s = true) : ∀ t ∈ s.Tables, t.Attrs.length <= 1000000 := fun t ht => by have := xL h t ht; omega
def gk : Nat -> aG -> aG -> Bool
  | 0, _, _ => false
  | n + 1, a, b => decide (a.Kind = b.Kind) && decide (a.Table = b.Table) && decide (a.Col = b.Col) && decide (a.Agg = b.Agg) && decide (a.Cols = b.Cols) && cq a.Attrs b.Attrs && decide (a.Kids.length = b.Kids.length) && decide (a.Tests = b.Tests) && (List.range a.Kids.length).all fun i => gk n (nth a.Kids i) (nth b.Kids i)
def PlS : Nat -> aG -> Prop
  | 0, _ => True
  | n + 1, p => p.Kids.length <= 9223372036854775807 /\ p.Tests.length <= 1000000000000 /\ p.Cols.length <= 1000000000000 /\ p.Attrs.length <= 1000000000000 /\ ∀ q ∈ p.Kids, PlS n q
theorem tN (a : List GAttr) : cq a a = true := by
  unfold cq eqL
  simp [alikeA]
theorem p7 : ∀ {n : Nat} {p : aG}, Dep n p -> gk n p p = true
  | 0, _, h => h.elim
  | n + 1, p, h => by
    simp only [gk, decide_true, Bool.true_and, tN, List.all_eq_true, List.mem_range]
    exact fun i hi => p7 (h _ (aH hi))
def Bc (n : Nat) : Prop := ∀ a b : aG, PlS n a -> PlS n b -> Fun1 prog 43 [(aR n).ty a, (aR n).ty b] (tV (.bool (gk n a b)))
theorem ov (s : GSchema) (hz : SchSz s) (n : Nat) (p : aG) (hp : od n p) (st : GStats) (hd : ∀ d ∈ st.Distinct, d.length <= 1000000000000) : Fun1 prog 38 [aV.ty s, (aR n).ty p, bA.ty st] (fA [tV (.int .i64 (pb s n p st)), tV (.int .i64 (tM s p st))]) := by
 refine Spec.enter func38 rfl rfl fun h0 w0 fr0 => ?_
 refine eX 1 (fun _ _ r => let ⟨_, r, _⟩ := (aR n).iff.1 r; pM r) fun hdp => ?_
 refine Jr (Zs (aJ (R := aV) Sr) (Zs (aJ (R := (aR n)) Sr) (Zs (aJ (R := bA) Sr) (Za (Za ?_)))))
 refine ae (Jr (Zl fR Sr (Zl dl Sr (Zl gh Sr (Zs (ai (mf s hz n p hp st hd) ⟨Sr, Sr, Sr, trivial⟩ call92) ?_)))))
 refine Zm (Zs (aM Sr rfl) (Zs (aM Sr rfl) ?_))
 refine Zx (aD (fun w => zeroValue146 w) zM) fun v8 => ?_
 refine Ju (aj dy Sr Sr zS) fun _ => ?_
 refine bc (t := 8) (Sel.take (Dz _)) Frz.box ?_
 refine Za (ae (ar (Jr (Zm (Zs (bf Sr) ?_)))))
 refine ae ?_
 refine au Sr (fun h18 => ?_) (fun h18 => ?_)
 ·
  try simp only [NF] at h18
  have hf : ¬ bq s p st = true := by simpa using h18
  refine Jr (Za (Za (ae (aF ?_))))
  refine bJ (rv := .tmp 6) (rv' := .tmp 7) rfl () (Sel.all _) (.tmp Sr) (.tmp Sr) (Frz.sub (Sub.int (show _ = pb s n p st by unfold pb; rw [if_neg hf]))) (Frz.sub (Sub.int (show _ = tM s p st by unfold tM; rw [if_neg hf]))) Sr
 try simp only [NF] at h18
 have hf : bq s p st = true := by simpa using h18
 obtain ⟨hvl, hst⟩ := jO hf
 have hx : CG s p st = ⟨s, st⟩ := if_pos hf
 have hok := lD hst (xZ (Bool.and_eq_true_iff.1 hvl).1) hdp (Bool.and_eq_true_iff.1 hvl).2 hp
 refine ay (Jr (Zl dy Sr (Zl dl Sr ?_)))
 refine Zs (ai (kz ⟨s, st⟩ n p hok.1) ⟨Ec (show bu.ty (CG s p st) = _ by rw [hx]), Sr, trivial⟩ call93) ?_
 refine Zs (cI bX Sr rfl) (Zs (cI ci Sr rfl) (Za (Za (ae (aF ?_)))))
 refine bJ (rv := .tmp 6) (rv' := .tmp 7) rfl () (Sel.all _) (.tmp Sr) (.tmp Sr) (Frz.sub (Sub.int (show _ = pb s n p st by unfold pb; rw [if_pos hf]; try rfl))) (Frz.sub (Sub.int (show _ = tM s p st by unfold tM; rw [if_pos hf]))) Sr
theorem rG (st : GStats) (hl : st.Distinct.length <= 9223372036854775807) : Fun1 prog 35 [bA.ty st] (tV (.bool (fewP st))) := by
 refine Spec.enter func35 rfl rfl fun h0 w0 fr0 => ?_
 refine Jr (Zs (aJ (R := bA) Sr) (Za (ae (ar (Jr ?_)))))
 refine Za (ae (av ?_))
 refine aO (σ := Nat) (fun i => i <= st.Distinct.length /\ ∀ k, k < i -> decide ((nth st.Distinct k).length <= 30) = true) (fun i => upd (upd cg 1 (bx bA st)) 3 (tV (.int .i64 i))) (fun i => []) (fun i => st.Distinct.length - i) 0 ⟨by omega, fun k hk => by omega⟩ (zU) (LSub.rfl) ?_
 rintro i ⟨hi, hv⟩
 refine ar (Jr (Zm (Zs (aa iO Sr rfl) (Zl nq Sr (Zs (ah underlying58 Sr) ?_)))))
 refine Zs (aA Sr Sr) (ae ?_)
 refine au Sr (fun h8 => ?_) (fun h8 => ?_)
 ·
  try simp only [NF] at h8
  have hlt : i < st.Distinct.length := by omega
  refine ay (ar (av (Jr (Zs (aa iO Sr rfl) (Zl nq Sr ?_)))))
  refine Zm ?_
  refine Zs (ad (i := i) underlying58 bY Sr Sr (by rfl) (gb (by exact hlt))) ?_
  refine Zl bY Sr (Zs (ah underlying36 Sr) (Zs (bD Sr Sr) (ae ?_)))
  refine au Sr (fun h17 => ?_) (fun h17 => ?_)
  ·
   try simp only [NF] at h17
   refine Jr (Za (ae (aF ?_)))
   refine aK (t := 2) rfl () ?_
   refine Sub.bool ?_
   have : (st.Distinct.all fun d => decide (d.length <= 30)) = false := gZ hlt (by rw [decide_eq_false_iff_not]; omega)
   simp only [fewP, this, Bool.false_and]
  try simp only [NF] at h17
  refine ay (aq (Zm (Zs (aB Sr Sr z6) (Za (ae ?_)))))
  refine aE (σ := Nat) (s := i) (i + 1) zO ?_ (zU) (LSub.rfl)
  refine ⟨by omega, fun k hk => ?_⟩
  by_cases e : k = i
  ·
   rw [e, decide_eq_true_eq]; omega
  exact hv k zG
 try simp only [NF] at h8
 have hall : (st.Distinct.all fun d => decide (d.length <= 30)) = true := iP (fun k hk => hv k zG)
 refine aY (Jr (Zs (aa iO Sr rfl) (Zl bY Sr (Zs (ah underlying36 Sr) (Zs (bM Sr Sr) ?_)))))
 refine Zm ?_
 refine Zk (aa iO Sr rfl) ?_
 refine Zg (fun hw => ab nq (Sub.w hw)) (Zg (fun hw => ah underlying58 (Sub.w hw)) (Zg (fun hw => bM (Sub.w hw) Sr) (Zs (aw Sr Sr) (Za (ae ?_)))))
 refine aF ?_
 refine aK (t := 2) rfl () ?_
 refine Sub.bool ?_
 have e : ∀ a : Nat, decide ((a : Int) <= 30) = decide (a <= 30) := fun a => by rw [decide_eq_decide]; omega
 rw [fewP, hall, Bool.true_and]
 simp only [<- e]
theorem je (a b : List Int) (hb : b.length <= 1000000000000) : Fun1 prog 98 [tSl bg a, tSl bg b] (tV (.bool (decide (a = b)))) := by
 refine Spec.enter func98 rfl rfl fun h0 w0 fr0 => ?_
 refine Jr (Za (ae (ar (Jr (Zm ?_)))))
 refine Zs (ah underlying36 Sr) (Zm (Zs (ah underlying36 Sr) (Zs (bb Sr Sr) (ae ?_))))
 refine au Sr (fun h10 => ?_) (fun h10 => ?_)
 ·
  try simp only [NF] at h10
  refine Jr (Za (ae (aF ?_)))
  refine aK (t := 4) rfl () ?_
  refine Sub.bool ?_
  exact (decide_eq_false (fun e => h10 (by rw [e]))).symm
 try simp only [NF] at h10
 have hab : a.length = b.length := by omega
 refine ay (ar (Jr (Za (ae (av ?_)))))
 refine aO (σ := Nat) (fun i => i <= a.length /\ a.take i = b.take i) (fun i => upd (upd (upd cg 0 (tSl bg a)) 1 (tSl bg b)) 5 (tV (.int .i64 i))) (fun i => []) (fun i => a.length - i) 0 ⟨Nat.zero_le _, by simp⟩ (zU) (LSub.rfl) ?_
 rintro i ⟨hi, hv⟩
 refine ar (Jr (Zm (Zm (Zs (ah underlying36 Sr) (Zs (aA Sr Sr) ?_)))))
 refine ae ?_
 refine au Sr (fun h14 => ?_) (fun h14 => ?_)
 ·
  try simp only [NF] at h14
  have hlt : i < a.length := by omega
  have hlb : i < b.length := by omega
  refine ay (ar (av (ar ?_)))
  refine bl [⟨0, [0], true⟩, ⟨1, [5], true⟩, ⟨2, [17, 18], true⟩, ⟨3, [19], true⟩, ⟨4, [1], true⟩, ⟨5, [5], true⟩, ⟨6, [21, 22], true⟩, ⟨7, [23], true⟩, ⟨8, [20, 24], true⟩] rfl (by kernel_rfl) ?_
  refine Zv rfl (Zv rfl ?_)
  refine Zf rfl (ad (i := i) underlying36 ty3 Sr Sr (by rfl) (gb (by exact hlt))) ?_
  refine Zf rfl (ab ty3 Sr) (Zv rfl (Zv rfl ?_))
  refine Zf rfl (ad (i := i) underlying36 ty3 Sr Sr (by rfl) (gb zG)) ?_
  refine Zf rfl (ab ty3 Sr) (Zf rfl (bb Sr Sr) (bj ?_))
  refine au Sr (fun h25 => ?_) (fun h25 => ?_)
  ·
   try simp only [NF] at h25
   have hne : ¬ nth a i = nth b i := by first | exact h25 | simpa using h25
   refine Jr (Za (ae (aF ?_)))
   refine aK (t := 4) rfl () ?_
   refine Sub.bool ?_
   exact (decide_eq_false (fun e => hne (by rw [e]))).symm
  try simp only [NF] at h25
  have heq : nth a i = nth b i := by first | exact h25 | simpa using h25
  refine ay (aq (Zm (Zs (aB Sr Sr z6) (Za (ae ?_)))))
  refine aE (σ := Nat) (s := i) (i + 1) zO ⟨by omega, by rw [dM hlt, dM hlb, hv, heq]⟩ (zU) (LSub.rfl)
 try simp only [NF] at h14
 obtain rfl : i = a.length := by omega
 refine aY (Jr (Za (ae (aF ?_))))
 refine aK (t := 4) rfl () ?_
 refine Sub.bool ?_
 refine (decide_eq_true ?_).symm
 rw [List.take_length, hab, List.take_length] at hv; exact hv
theorem p8 (a b : List GAttr) (hl : a.length <= 1000000000000) : Fun1 prog 99 [tSl aS a, tSl aS b] (tV (.bool (cq a b))) := by
 refine Spec.enter func99 rfl rfl fun h0 w0 fr0 => ?_
 refine Jr (Za (ae (ar (Jr (Zm ?_)))))
 refine Zs (ah underlying44 Sr) (Zm (Zs (ah underlying44 Sr) (Zs (bb Sr Sr) (ae ?_))))
 refine au Sr (fun h10 => ?_) (fun h10 => ?_)
 ·
  try simp only [NF] at h10
  refine Jr (Za (ae (aF ?_)))
  refine aK (t := 4) rfl () ?_
  refine Sub.bool ?_
  have : ¬ a.length = b.length := by omega
  simp [cq, eqL, this]
 try simp only [NF] at h10
 have heq : a.length = b.length := by omega
 refine ay (ar (Jr (Za (ae (av ?_)))))
 refine aO (σ := Nat) (fun i => i <= a.length /\ ∀ k, k < i -> alikeA (nth a k) (nth b k) = true) (fun i => upd (upd (upd cg 0 (tSl aS a)) 1 (tSl aS b)) 5 (tV (.int .i64 i))) (fun i => []) (fun i => a.length - i) 0 ⟨by omega, fun k hk => by omega⟩ (zU) (LSub.rfl) ?_
 rintro i ⟨hi, hv⟩
 refine ar (Jr (Zm (Zm (Zs (ah underlying44 Sr) (Zs (aA Sr Sr) ?_)))))
 refine ae ?_
 refine au Sr (fun h14 => ?_) (fun h14 => ?_)
 ·
  try simp only [NF] at h14
  have hlt : i < a.length := by omega
  refine ay (ar (av (ar ?_)))
  refine bl [⟨0, [0], true⟩, ⟨1, [5], true⟩, ⟨2, [17, 18], true⟩, ⟨3, [19], true⟩, ⟨4, [20], true⟩, ⟨5, [1], true⟩, ⟨6, [5], true⟩, ⟨7, [22, 23], true⟩, ⟨8, [24], true⟩, ⟨9, [25], true⟩, ⟨10, [21, 26], true⟩, ⟨11, [27], true⟩, ⟨12, [0, 28], true⟩, ⟨13, [5, 28], true⟩, ⟨14, [28, 29, 30], true⟩, ⟨15, [28, 31], true⟩, ⟨16, [28, 32], true⟩, ⟨17, [1, 28], true⟩, ⟨18, [5, 28], true⟩, ⟨19, [28, 34, 35], true⟩, ⟨20, [28, 36], true⟩, ⟨21, [28, 37], true⟩, ⟨22, [28, 33, 38], true⟩, ⟨23, [28, 39], true⟩] rfl (by kernel_rfl) ?_
  refine Zv rfl (Zv rfl ?_)
  refine Zf rfl (ad (i := i) underlying44 ct Sr Sr (by rfl) (gb (by exact hlt))) ?_
  refine Zf rfl (aa dH Sr rfl) (Zf rfl (ab ty9 Sr) (Zv rfl (Zv rfl ?_)))
  refine Zf rfl (ad (i := i) underlying44 ct Sr Sr (by rfl) (gb (by show i < b.length; omega))) ?_
  refine Zf rfl (aa dH Sr rfl) (Zf rfl (ab ty9 Sr) (Zf rfl (fV Sr Sr) (Zv rfl ?_)))
  refine Mk rfl rfl Sr rfl (al Sr) ?_
  refine Mk rfl rfl Sr rfl (al Sr) ?_
  refine Mg rfl rfl Sr rfl (fun hw => ad (i := i) underlying44 ct (Sub.w hw) (Sub.w hw) (by rfl) (gb (by have hwq := hw; (try simp only [beqB_t, beqB_f, NF] at hwq); exact hlt))) ?_
  refine Mg rfl rfl Sr rfl (fun hw => aa dH (Sub.w hw) rfl) (Mg rfl rfl Sr rfl (fun hw => ab ty3 (Sub.w hw)) ?_)
  refine Mk rfl rfl Sr rfl (al Sr) ?_
  refine Mk rfl rfl Sr rfl (al Sr) ?_
  refine Mg rfl rfl Sr rfl (fun hw => ad (i := i) underlying44 ct (Sub.w hw) (Sub.w hw) (by rfl) (gb (by have hwq := hw; (try simp only [beqB_t, beqB_f, NF] at hwq); show i < b.length; omega))) ?_
  refine Mg rfl rfl Sr rfl (fun hw => aa dH (Sub.w hw) rfl) (Mg rfl rfl Sr rfl (fun hw => ab ty3 (Sub.w hw)) (Mg rfl rfl Sr rfl (fun hw => bb (Sub.w hw) (Sub.w hw)) (Zf rfl (az Sr Sr) (bj ?_))))
  refine au Sr (fun h40 => ?_) (fun h40 => ?_)
  ·
   try simp only [NF] at h40
   refine Jr (Za (ae (aF ?_)))
   refine aK (t := 4) rfl () ?_
   refine Sub.bool ?_
   have : alikeA (nth a i) (nth b i) = false := by rcases h40 with h | h <;> simp [alikeA, h]
   simp only [cq, eqL, eV (f := fun i => alikeA (nth a i) (nth b i)) hlt this]; simp
  try simp only [NF] at h40
  refine ay (aq (Zm (Zs (aB Sr Sr z6) (Za (ae ?_)))))
  refine aE (σ := Nat) (s := i) (i + 1) zO ?_ (zU) (LSub.rfl)
  refine ⟨by omega, fun k hk => ?_⟩
  by_cases e : k = i
  ·
   subst e; simp_all [alikeA]
  exact hv k zG
 try simp only [NF] at h14
 have hall := eU (n := a.length) (fun k hk => hv k zG)
 refine aY (Jr (Za (ae (aF ?_))))
 refine aK (t := 4) rfl () ?_
 refine Sub.bool ?_
 rw [cq, eqL, hall]; simp [heq]
theorem i6 (a b : GStats) (hb : b.Rows.length <= 1000000000000 /\ b.Distinct.length <= 1000000000000 /\ ∀ d ∈ b.Distinct, d.length <= 1000000000000) : Fun1 prog 42 [bA.ty a, bA.ty b] (tV (.bool (decide (a.Rows = b.Rows) && decide (a.Distinct = b.Distinct)))) := by
 refine Spec.enter func42 rfl rfl fun h0 w0 fr0 => ?_
 refine Jr (Zs (aJ (R := bA) Sr) (Zs (aJ (R := bA) Sr) (Za (ae (ar ?_)))))
 refine Jr (Zs (aa iO Sr rfl) (Zl bY Sr (Zs (aa iO Sr rfl) (Zl bY Sr (Zs (ai (je _ _ hb.1) ⟨Sr, Sr, trivial⟩ call98) ?_)))))
 refine Zs (bf Sr) (Zm ?_)
 refine Zk (aa iO Sr rfl) ?_
 refine Zg (fun hw => ab nq (Sub.w hw)) (Zg (fun hw => ah underlying58 (Sub.w hw)) ?_)
 refine Zk (aa iO Sr rfl) ?_
 refine Zg (fun hw => ab nq (Sub.w hw)) (Zg (fun hw => ah underlying58 (Sub.w hw)) (Zg (fun hw => bb (Sub.w hw) (Sub.w hw)) (Zs (az Sr Sr) (ae ?_))))
 refine au Sr (fun h20 => ?_) (fun h20 => ?_)
 ·
  try simp only [NF] at h20
  refine Jr (Za (ae (aF ?_)))
  refine aK (t := 4) rfl () ?_
  refine Sub.bool ?_
  rcases h20 with h | h
  ·
   have : ¬ a.Rows = b.Rows := by simpa using h
   simp [this]
  have : ¬ a.Distinct = b.Distinct := fun e => by rw [e] at h; omega
  simp [this]
 try simp only [NF] at h20
 have hq : a.Rows = b.Rows /\ a.Distinct.length = b.Distinct.length := by exact ⟨by simpa using h20.1, by have := h20.2; omega⟩
 refine ay (ar (Jr (Za (ae (av ?_)))))
 refine aO (σ := Nat) (fun i => i <= a.Distinct.length /\ a.Distinct.take i = b.Distinct.take i) (fun i => upd (upd (upd cg 2 (bx bA a)) 3 (bx bA b)) 5 (tV (.int .i64 i))) (fun i => []) (fun i => a.Distinct.length - i) 0 ⟨Nat.zero_le _, by simp⟩ (zU) (LSub.rfl) ?_
 rintro i ⟨hi, hv⟩
 refine ar (Jr (Zm (Zs (aa iO Sr rfl) (Zl nq Sr (Zs (ah underlying58 Sr) ?_)))))
 refine Zs (aA Sr Sr) (ae ?_)
 refine au Sr (fun h25 => ?_) (fun h25 => ?_)
 ·
  try simp only [NF] at h25
  have hlt : i < a.Distinct.length := by omega
  have hlb : i < b.Distinct.length := by omega
  refine ay (ar (av (ar ?_)))
  refine bl [⟨0, [2], true⟩, ⟨1, [28], true⟩, ⟨2, [5], true⟩, ⟨3, [29, 30], true⟩, ⟨4, [31], true⟩, ⟨5, [3], true⟩, ⟨6, [33], true⟩, ⟨7, [5], true⟩, ⟨8, [34, 35], true⟩, ⟨9, [36], true⟩, ⟨10, [32, 37], true⟩, ⟨11, [38], true⟩] rfl (by kernel_rfl) ?_
  refine Zf rfl (aa iO Sr rfl) (Zf rfl (ab nq Sr) (Zv rfl ?_))
  refine Zf rfl (ad (i := i) underlying58 bY Sr Sr (by rfl) (gb (by exact hlt))) ?_
  refine Zf rfl (ab bY Sr) (Zf rfl (aa iO Sr rfl) (Zf rfl (ab nq Sr) (Zv rfl ?_)))
  refine Zf rfl (ad (i := i) underlying58 bY Sr Sr (by rfl) (gb (by exact hlb))) ?_
  refine Zf rfl (ab bY Sr) (Zf rfl (ai (je _ _ (hb.2.2 _ (aH hlb))) ⟨Sr, Sr, trivial⟩ call98) (Zf rfl (bf Sr) (bj ?_)))
  refine au Sr (fun h39 => ?_) (fun h39 => ?_)
  ·
   try simp only [NF] at h39
   have hne : ¬ nth a.Distinct i = nth b.Distinct i := by simpa using h39
   refine Jr (Za (ae (aF ?_)))
   refine aK (t := 4) rfl () ?_
   refine Sub.bool ?_
   have : ¬ a.Distinct = b.Distinct := fun e => hne (by rw [e])
   simp [this]
  try simp only [NF] at h39
  have heq : nth a.Distinct i = nth b.Distinct i := by simpa using h39
  refine ay (aq (Zm (Zs (aB Sr Sr z6) (Za (ae ?_)))))
  refine aE (σ := Nat) (s := i) (i + 1) zO ⟨by omega, by rw [dM hlt, dM hlb, hv, heq]⟩ (zU) (LSub.rfl)
 try simp only [NF] at h25
 obtain rfl : i = a.Distinct.length := by omega
 refine aY (Jr (Za (ae (aF ?_))))
 refine aK (t := 4) rfl () ?_
 refine Sub.bool ?_
 have : a.Distinct = b.Distinct := by rw [List.take_length, hq.2, List.take_length] at hv; exact hv
 rw [decide_eq_true hq.1, decide_eq_true this]; rfl
theorem tO (n : Nat) (a b : aG) (ha : PlS (n + 1) a) (hb : PlS (n + 1) b) (ih : Bc n) : Fun1 prog 43 [(aR (n + 1)).ty a, (aR (n + 1)).ty b] (tV (.bool (gk (n + 1) a b))) := by
 refine Spec.enter func43 rfl rfl fun h0 w0 fr0 => ?_
 obtain ⟨a1, a2, a3, a4, a5⟩ := id ha
 obtain ⟨b1, b2, b3, b4, b5⟩ := id hb
 refine Jr (Zs (aJ (R := (aR (n + 1))) Sr) (Zs (aJ (R := (aR (n + 1))) Sr) (Za (ae (ar ?_)))))
 refine Jr (Zs (aa br Sr rfl) (Zl ty3 Sr (Zs (aa br Sr rfl) (Zl ty3 Sr (Zs (bb Sr Sr) ?_)))))
 refine Zm ?_
 refine Zk (aa br Sr rfl) ?_
 refine Zg (fun hw => ab ty3 (Sub.w hw)) ?_
 refine Zk (aa br Sr rfl) ?_
 refine Zg (fun hw => ab ty3 (Sub.w hw)) (Zg (fun hw => bb (Sub.w hw) (Sub.w hw)) (Zs (az Sr Sr) (Zm ?_)))
 refine Zk (aa br Sr rfl) ?_
 refine Zg (fun hw => ab ty3 (Sub.w hw)) ?_
 refine Zk (aa br Sr rfl) ?_
 refine Zg (fun hw => ab ty3 (Sub.w hw)) (Zg (fun hw => bb (Sub.w hw) (Sub.w hw)) (Zs (az Sr Sr) (Zm ?_)))
 refine Zk (aa br Sr rfl) ?_
 refine Zg (fun hw => ab ty3 (Sub.w hw)) ?_
 refine Zk (aa br Sr rfl) ?_
 refine Zg (fun hw => ab ty3 (Sub.w hw)) (Zg (fun hw => bb (Sub.w hw) (Sub.w hw)) (Zs (az Sr Sr) (Zm ?_)))
 refine Zk (aa br Sr rfl) ?_
 refine Zg (fun hw => ab bY (Sub.w hw)) ?_
 refine Zk (aa br Sr rfl) ?_
 refine Zg (fun hw => ab bY (Sub.w hw)) (Zg (fun hw => ai (je _ _ b3) ⟨(Sub.w hw), (Sub.w hw), trivial⟩ call98) (Zg (fun hw => bf (Sub.w hw)) (Zs (az Sr Sr) (Zm ?_))))
 refine Zk (aa br Sr rfl) ?_
 refine Zg (fun hw => ab bQ (Sub.w hw)) ?_
 refine Zk (aa br Sr rfl) ?_
 refine Zg (fun hw => ab bQ (Sub.w hw)) (Zg (fun hw => ai (p8 _ _ a4) ⟨(Sub.w hw), (Sub.w hw), trivial⟩ call99) (Zg (fun hw => bf (Sub.w hw)) (Zs (az Sr Sr) (Zm ?_))))
 refine Zk (aa br Sr rfl) ?_
 refine Zg (fun hw => ab gp (Sub.w hw)) (Zg (fun hw => ah underlying42 (Sub.w hw)) ?_)
 refine Zk (aa br Sr rfl) ?_
 refine Zg (fun hw => ab gp (Sub.w hw)) (Zg (fun hw => ah underlying42 (Sub.w hw)) (Zg (fun hw => bb (Sub.w hw) (Sub.w hw)) (Zs (az Sr Sr) (Zm ?_))))
 refine Zk (aa br Sr rfl) ?_
 refine Zg (fun hw => ab iN (Sub.w hw)) (Zg (fun hw => ah underlying43 (Sub.w hw)) ?_)
 refine Zk (aa br Sr rfl) ?_
 refine Zg (fun hw => ab iN (Sub.w hw)) (Zg (fun hw => ah underlying43 (Sub.w hw)) (Zg (fun hw => bb (Sub.w hw) (Sub.w hw)) (Zs (az Sr Sr) (ae ?_))))
 refine au Sr (fun h66 => ?_) (fun h66 => ?_)
 ·
  try simp only [NF] at h66
  refine Jr (Za (ae (aF ?_)))
  refine aK (t := 4) rfl () ?_
  refine Sub.bool ?_
  refine (Bool.eq_false_iff.2 fun e => ?_).symm
  simp only [gk, Bool.and_eq_true, decide_eq_true_eq] at e
  obtain ⟨⟨⟨⟨⟨⟨⟨⟨e1, e2⟩, e3⟩, e4⟩, e5⟩, e6⟩, e7⟩, e8⟩, _⟩ := e
  have e9 : a.Tests.length = b.Tests.length := by rw [e8]
  rcases h66 with ((((((h | h) | h) | h) | h) | h) | h) | h
  ·
   exact h e1
  ·
   exact h e2
  ·
   exact h e3
  ·
   exact h e4
  ·
   simp [e5] at h
  ·
   simp [e6] at h
  ·
   omega
  omega
 try simp only [NF] at h66
 have hq : (a.Kind = b.Kind /\ a.Table = b.Table /\ a.Col = b.Col /\ a.Agg = b.Agg) /\ a.Cols = b.Cols /\ cq a.Attrs b.Attrs = true /\ a.Kids.length = b.Kids.length /\ a.Tests.length = b.Tests.length := by
  obtain ⟨⟨⟨⟨⟨⟨⟨q1, q2⟩, q3⟩, q4⟩, q5⟩, q6⟩, q7⟩, q8⟩ := h66
  exact ⟨⟨q1, q2, q3, q4⟩, by simpa using q5, by simpa using q6, by omega, by omega⟩
 obtain ⟨⟨q1, q2, q3, q4⟩, q5, q6, q7, q8⟩ := hq
 refine ay (ar (Jr (Za (ae (av ?_)))))
 refine aO (σ := Nat) (fun i => i <= a.Tests.length /\ a.Tests.take i = b.Tests.take i) (fun i => upd (upd (upd cg 2 (bx (aR (n + 1)) a)) 3 (bx (aR (n + 1)) b)) 5 (tV (.int .i64 i))) (fun i => []) (fun i => a.Tests.length - i) 0 ⟨Nat.zero_le _, by simp⟩ (zU) (LSub.rfl) ?_
 rintro i ⟨hi, hv⟩
 refine ar (Jr (Zm (Zs (aa br Sr rfl) (Zl iN Sr (Zs (ah underlying43 Sr) ?_)))))
 refine Zs (aA Sr Sr) (ae ?_)
 refine au Sr (fun h71 => ?_) (fun h71 => ?_)
 ·
  try simp only [NF] at h71
  have hlt : i < a.Tests.length := by omega
  have hlb : i < b.Tests.length := by omega
  refine ay (ar (av (ar ?_)))
  refine bl [⟨0, [2], true⟩, ⟨1, [74], true⟩, ⟨2, [5], true⟩, ⟨3, [75, 76], true⟩, ⟨4, [77], true⟩, ⟨5, [3], true⟩, ⟨6, [79], true⟩, ⟨7, [5], true⟩, ⟨8, [80, 81], true⟩, ⟨9, [82], true⟩, ⟨10, [78, 83], true⟩] rfl (by kernel_rfl) ?_
  refine Zf rfl (aa br Sr rfl) (Zf rfl (ab iN Sr) (Zv rfl ?_))
  refine Zf rfl (ad (i := i) underlying43 fd Sr Sr (by rfl) (gb (by exact hlt))) ?_
  refine Zf rfl (ab fd Sr) (Zf rfl (aa br Sr rfl) (Zf rfl (ab iN Sr) (Zv rfl ?_)))
  refine Zf rfl (ad (i := i) underlying43 fd Sr Sr (by rfl) (gb (by exact hlb))) ?_
  refine Zf rfl (ab fd Sr) (Zf rfl (ou Sr Sr) (bj ?_))
  refine au Sr (fun h84 => ?_) (fun h84 => ?_)
  ·
   try simp only [NF] at h84
   have hne : ¬ nth a.Tests i = nth b.Tests i := by simpa using h84
   refine Jr (Za (ae (aF ?_)))
   refine aK (t := 4) rfl () ?_
   refine Sub.bool ?_
   refine (Bool.eq_false_iff.2 fun e => ?_).symm
   simp only [gk, Bool.and_eq_true, decide_eq_true_eq] at e
   exact hne (by rw [e.1.2])
  try simp only [NF] at h84
  have heq : nth a.Tests i = nth b.Tests i := by simpa using h84
  refine ay (aq (Zm (Zs (aB Sr Sr z6) (Za (ae ?_)))))
  refine aE (σ := Nat) (s := i) (i + 1) zO ⟨by omega, by rw [dM hlt, dM hlb, hv, heq]⟩ (zU) (LSub.rfl)
 try simp only [NF] at h71
 obtain rfl : i = a.Tests.length := by omega
 have hts : a.Tests = b.Tests := by rw [List.take_length, q8, List.take_length] at hv; exact hv
 refine aY (ar (Jr (Za (ae (av ?_)))))
 refine aO (σ := Nat) (fun k => k <= a.Kids.length /\ ∀ j, j < k -> gk n (nth a.Kids j) (nth b.Kids j) = true) (fun k => upd (upd (upd cg 2 (bx (aR (n + 1)) a)) 3 (bx (aR (n + 1)) b)) 6 (tV (.int .i64 k))) (fun k => []) (fun k => a.Kids.length - k) 0 ⟨Nat.zero_le _, fun j hj => by omega⟩ (zU) (LSub.rfl) ?_
 rintro k ⟨hk, hw⟩
 refine ar (Jr (Zm (Zs (aa br Sr rfl) (Zl gp Sr (Zs (ah underlying42 Sr) ?_)))))
 refine Zs (aA Sr Sr) (ae ?_)
 refine au Sr (fun h89 => ?_) (fun h89 => ?_)
 ·
  try simp only [NF] at h89
  have hlt2 : k < a.Kids.length := by omega
  have hlb2 : k < b.Kids.length := by omega
  refine ay (ar (av (ar ?_)))
  refine bl [⟨0, [2], true⟩, ⟨1, [92], true⟩, ⟨2, [6], true⟩, ⟨3, [93, 94], true⟩, ⟨4, [95], true⟩, ⟨5, [3], true⟩, ⟨6, [97], true⟩, ⟨7, [6], true⟩, ⟨8, [98, 99], true⟩, ⟨9, [100], true⟩, ⟨10, [96, 101], true⟩, ⟨11, [102], true⟩] rfl (by kernel_rfl) ?_
  refine Zf rfl (aa br Sr rfl) (Zf rfl (ab gp Sr) (Zv rfl ?_))
  refine Zf rfl (ad (i := k) underlying42 dl Sr Sr (by rfl) (gb (by exact hlt2))) ?_
  refine Zf rfl (ab dl Sr) (Zf rfl (aa br Sr rfl) (Zf rfl (ab gp Sr) (Zv rfl ?_)))
  refine Zf rfl (ad (i := k) underlying42 dl Sr Sr (by rfl) (gb (by exact hlb2))) ?_
  refine Zf rfl (ab dl Sr) (Zf rfl (ai (ih _ _ (a5 _ (aH hlt2)) (b5 _ (aH hlb2))) ⟨Sr, Sr, trivial⟩ call43) (Zf rfl (bf Sr) (bj ?_)))
  refine au Sr (fun h103 => ?_) (fun h103 => ?_)
  ·
   try simp only [NF] at h103
   have hsk : gk n (nth a.Kids k) (nth b.Kids k) = false := by simpa using h103
   refine Jr (Za (ae (aF ?_)))
   refine aK (t := 4) rfl () ?_
   refine Sub.bool ?_
   refine (Bool.eq_false_iff.2 fun e => ?_).symm
   simp only [gk, Bool.and_eq_true, decide_eq_true_eq, List.all_eq_true, List.mem_range] at e
   rw [e.2 k hlt2] at hsk; cases hsk
  try simp only [NF] at h103
  have hsk : gk n (nth a.Kids k) (nth b.Kids k) = true := by simpa using h103
  refine ay (aq (Zm (Zs (aB Sr Sr z6) (Za (ae ?_)))))
  refine aE (σ := Nat) (s := k) (k + 1) zO ⟨by omega, fun j hj => by by_cases e : j = k; exact e ▸ hsk; exact hw j zG⟩ (zU) (LSub.rfl)
 try simp only [NF] at h89
 obtain rfl : k = a.Kids.length := by omega
 refine aY (Jr (Za (ae (aF ?_))))
 refine aK (t := 4) rfl () ?_
 refine Sub.bool ?_
 refine Eq.symm ?_
 simp only [gk, Bool.and_eq_true, decide_eq_true_eq, List.all_eq_true, List.mem_range]
 exact ⟨⟨⟨⟨⟨⟨⟨⟨q1, q2⟩, q3⟩, q4⟩, q5⟩, q6⟩, q7⟩, hts⟩, fun j hj => hw j hj⟩
theorem mg : ∀ n, Bc n
 | 0 => fun a b _ _ => by
  refine Spec.enter func43 rfl rfl fun h0 w0 fr0 => ?_
  exact eX 1 (fun _ _ r => (show False from r)) fun q => q.elim
 | n + 1 => fun a b ha hb => tO n a b ha hb (mg n)
def attrN (n : ByteArray) : GAttr := ⟨n, 2, [], zValue⟩
def numV (k : Int) : GValue := ⟨2, k, ⟨#[]⟩⟩
def eqT (c k : Int) : GTest := ⟨⟨0, c, zValue⟩, 1, ⟨-1, 0, numV k⟩, 0⟩
theorem ec (n : ByteArray) : Fun1 prog 81 [tV (.string n)] (aS.ty (attrN n)) := by
 refine Spec.enter func81 rfl rfl fun h0 w0 fr0 => ?_
 refine Jr ?_
 refine Zx (aD (fun w => zeroValue89 w) qY) fun v2 => ?_
 refine ae (Jr (Zm (Zs (aU (x := (attrN n : GAttr)) (zs := [[Value.string ⟨#[]⟩], [Value.int .i64 0], [Value.slice none 0 0], [Value.int .i64 0, Value.int .i64 0, Value.string ⟨#[]⟩]]) dH (fun w => zeroValue89 w) ⟨Sr, Sr, trivial⟩ ⟨⟨Sr, rfl⟩, ⟨Sr, rfl⟩, fun _ => ⟨_, rfl, none, ⟨0, Nat.le_refl _⟩, rfl, fun q => absurd rfl q⟩, fun _ => ⟨[Value.int .i64 0], _, rfl, rfl, ⟨[Value.int .i64 0], _, rfl, rfl, ⟨[Value.string ⟨#[]⟩], _, rfl, rfl, rfl⟩⟩⟩, trivial⟩) ?_)))
 refine Ju (aj ct Sr Sr zS) fun _ => ?_
 refine ae (aF ?_)
 refine aZ (rv := .cell 2 89) rfl () (Sel.all _) (.cell ct Sr zS Sr) (Frz.sub Sr)
theorem eN (k : Int) : Fun1 prog 82 [tV (.int .i64 k)] (rValue.ty (numV k)) := by
 refine Spec.enter func82 rfl rfl fun h0 w0 fr0 => ?_
 refine Jr ?_
 refine Zx (aD (fun w => zeroValue87 w) Cu) fun v2 => ?_
 refine ae (Jr (Zm (Zs (aU (x := (numV k : GValue)) (zs := [[Value.int .i64 0], [Value.int .i64 0], [Value.string ⟨#[]⟩]]) eT (fun w => zeroValue87 w) ⟨Sr, Sr, trivial⟩ ⟨⟨Sr, rfl⟩, ⟨Sr, rfl⟩, fun _ => rfl, trivial⟩) ?_)))
 refine Ju (aj jp Sr Sr zS) fun _ => ?_
 refine ae (aF ?_)
 refine aZ (rv := .cell 2 87) rfl () (Sel.all _) (.cell jp Sr zS Sr) (Frz.sub Sr)
theorem jP (c k : Int) : Fun1 prog 80 [tV (.int .i64 c), tV (.int .i64 k)] (be.ty (eqT c k)) := by
 refine Spec.enter func80 rfl rfl fun h0 w0 fr0 => ?_
 refine Jr ?_
 refine Zx (aD (fun w => zeroValue93 w) zx) fun v4 => ?_
 refine ae (Jr (Zm (Zs (aU (x := (⟨0, c, zValue⟩ : GSide)) (zs := [[Value.int .i64 0], [Value.int .i64 0], [Value.int .i64 0, Value.int .i64 0, Value.string ⟨#[]⟩]]) fQ (fun w => zeroValue91 w) ⟨Sr, trivial⟩ ⟨fun _ => rfl, ⟨Sr, rfl⟩, fun _ => ⟨[Value.int .i64 0], _, rfl, rfl, ⟨[Value.int .i64 0], _, rfl, rfl, ⟨[Value.string ⟨#[]⟩], _, rfl, rfl, rfl⟩⟩⟩, trivial⟩) (Zm (Zs (aU (x := (numV k : GValue)) (zs := [[Value.int .i64 0], [Value.int .i64 0], [Value.string ⟨#[]⟩]]) eT (fun w => zeroValue87 w) ⟨Sr, Sr, trivial⟩ ⟨⟨Sr, rfl⟩, ⟨Sr, rfl⟩, fun _ => rfl, trivial⟩) ?_)))))
 refine Zs (aU (x := (⟨-1, 0, numV k⟩ : GSide)) (zs := [[Value.int .i64 0], [Value.int .i64 0], [Value.int .i64 0, Value.int .i64 0, Value.string ⟨#[]⟩]]) fQ (fun w => zeroValue91 w) ⟨Sr, Sr, trivial⟩ ⟨⟨Sr, rfl⟩, fun _ => rfl, ⟨Sr, rfl⟩, trivial⟩) (Zs (aU (x := (eqT c k : GTest)) (zs := [[Value.int .i64 0, Value.int .i64 0, Value.int .i64 0, Value.int .i64 0, Value.string ⟨#[]⟩], [Value.int .i64 0], [Value.int .i64 0, Value.int .i64 0, Value.int .i64 0, Value.int .i64 0, Value.string ⟨#[]⟩], [Value.int .i64 0]]) gd (fun w => zeroValue93 w) ⟨Sr, Sr, Sr, trivial⟩ ⟨⟨Sr, rfl⟩, ⟨Sr, rfl⟩, ⟨Sr, rfl⟩, fun _ => rfl, trivial⟩) ?_)
 refine Ju (aj fd Sr Sr zS) fun _ => ?_
 refine ae (aF ?_)
 refine aZ (rv := .cell 4 93) rfl () (Sel.all _) (.cell fd Sr zS Sr) (Frz.sub Sr)
theorem ow {P : Nat -> Nat -> Prop} (hm : ∀ i n n', n <= n' -> P i n -> P i n') : ∀ m, (∀ i, i < m -> ∃ n, P i n) -> ∃ n, ∀ i, i < m -> P i n
 | 0, _ => ⟨0, fun i hi => absurd hi (Nat.not_lt_zero _)⟩
 | m + 1, h => by
   obtain ⟨n1, h1⟩ := ow hm m fun i hi => h i (Nat.lt_succ_of_lt hi)
   obtain ⟨n2, h2⟩ := h m (Nat.lt_succ_self m)
   refine ⟨max n1 n2, fun i hi => ?_⟩
   rcases Nat.lt_succ_iff_lt_or_eq.1 hi with h3 | rfl
   · exact hm _ _ _ (Nat.le_max_left _ _) (h1 i h3)
   · exact hm _ _ _ (Nat.le_max_right _ _) h2
def dZ : Rp aG where
 k := 8
 agg := true
 rel := fun h p cs => ∃ n, (aR n).rel h p cs
 ty := fun p => ⟨fun h v => ∃ n, ((aR n).ty p).p h v, fun l ⟨n, r⟩ => ⟨n, ((aR n).ty _).mono l r⟩⟩
 len := fun {h x cs} ⟨n, r⟩ => by rw [(aR n).len r, mY]
 one := fun ⟨n, r⟩ => (aR n).one r
 mono := fun l ⟨n, r⟩ => ⟨n, (aR n).mono l r⟩
 scalar := fun e => by cases e
 iff := by
  intro h x v
  constructor
  · rintro ⟨n, r⟩
    obtain ⟨cs, r, e⟩ := (aR n).iff.1 r
    exact ⟨cs, ⟨n, r⟩, by rw [e, show (aR n).agg = true from rPl_agg cPl aS be n]⟩
  · rintro ⟨cs, ⟨n, r⟩, e⟩
    exact ⟨n, (aR n).iff.2 ⟨cs, r, by rw [e, show (aR n).agg = true from rPl_agg cPl aS be n]⟩⟩
abbrev jf : List (SF aG) := fsPl cPl aS be dZ
abbrev bO : Rp aG := bG jf
theorem Bd {n : Nat} {h : PH} {xs : List aG} {v : Value} (hv : (tSl (aR n) xs).p h v) : (tSl dZ xs).p h v := tSl_up (R := aR n) (R' := dZ) (mY (n := n)) (fun r => ⟨n, r⟩) hv
theorem Be {h : PH} {xs : List aG} {v : Value} (hv : (tSl dZ xs).p h v) : ∃ n, (tSl (aR n) xs).p h v := by
 obtain ⟨ao, cap, e, H⟩ := hv
 by_cases hx : xs = []
 · exact ⟨0, ao, cap, e, fun q => absurd hx q⟩
 · obtain ⟨b, off, ea, H2⟩ := H hx
   obtain ⟨n, hn⟩ := ow (P := fun i n => ∀ x, xs[i]? = some x -> ∃ cs, Holds h b (off + i * 8) cs /\ (aR n).rel h x cs) (fun i n n' hle hp x hx => by
    obtain ⟨cs, H, r⟩ := hp x hx
    exact ⟨cs, H, rPl_le cPl aS be hle r⟩) xs.length (fun i hi => by
    obtain ⟨cs, H, n, r⟩ := H2 i _ (List.getElem?_eq_getElem hi)
    refine ⟨n, fun x hx => ?_⟩
    rw [List.getElem?_eq_getElem hi] at hx
    cases hx
    exact ⟨cs, H, r⟩)
   refine ⟨n, ao, cap, e, fun _ => ⟨b, off, ea, fun i x hx => ?_⟩⟩
   rw [mY]
   exact hn i (List.getElem?_eq_some_iff.1 hx).1 x hx
theorem mh {h : PH} {p : aG} {cs : List Value} (r : dZ.rel h p cs) : bO.rel h p cs := by
 obtain ⟨n, r⟩ := r
 obtain ⟨m, rfl⟩ := rPl_pos cPl aS be r
 obtain ⟨c0, _, rfl, r0, c1, _, rfl, r1, c2, _, rfl, ⟨v, e, r2⟩, rest⟩ := (show SF.rel h p (fsPl cPl aS be (aR m)) cs from r)
 exact ⟨c0, _, rfl, r0, c1, _, rfl, r1, c2, _, rfl, ⟨v, e, Bd r2⟩, rest⟩
theorem ox {h : PH} {p : aG} {cs : List Value} (r : bO.rel h p cs) : dZ.rel h p cs := by
 obtain ⟨c0, _, rfl, r0, c1, _, rfl, r1, c2, _, rfl, ⟨v, e, r2⟩, rest⟩ := (show SF.rel h p jf cs from r)
 obtain ⟨m, r2⟩ := Be r2
 exact ⟨m + 1, c0, _, rfl, r0, c1, _, rfl, r1, c2, _, rfl, ⟨v, e, r2⟩, rest⟩
theorem Sub.ps {p : aG} : Sub (dZ.ty p) (bO.ty p) := fun h v hv => by
 obtain ⟨cs, r, e⟩ := dZ.iff.1 hv
 exact ⟨cs, mh r, e⟩
theorem Sub.pe {p : aG} : Sub (bO.ty p) (dZ.ty p) := fun h v ⟨cs, r, e⟩ => dZ.iff.2 ⟨cs, ox r, e⟩
theorem Sub.pn {n : Nat} {p : aG} : Sub ((aR n).ty p) (bO.ty p) := fun h v hv => Sub.ps h v ⟨n, hv⟩
theorem DQ {p : aG} : Sub (bx dZ p) (bx bO p) := fun h v ⟨b, off, cs, e, H, r⟩ => ⟨b, off, cs, e, H, mh r⟩
theorem jQ {h : PH} {p : aG} {v : Value} (hv : (bO.ty p).p h v) : ∃ n, ((aR n).ty p).p h v := Sub.pe h v hv
theorem dQ : TyOf Tryz.prog 42 (rSl dZ) := ⟨fun w => Tryz.isAgg42 w, fun w => Tryz.sizeOf42 w⟩
theorem ba : TyOf Tryz.prog 46 bO := ⟨fun w => Tryz.isAgg46 w, fun w => Tryz.sizeOf46 w⟩
theorem eO : TyOf Tryz.prog 46 dZ := ⟨fun w => Tryz.isAgg46 w, fun w => Tryz.sizeOf46 w⟩
theorem aX : StructOf Tryz.prog 46 jf := ⟨⟨_, Tryz.underlying46, ⟨rfl, rfl, ty3, by decide, ⟨rfl, rfl, ty3, by decide, ⟨rfl, rfl, dQ, (by show (1 : Nat) ≠ 0; decide), ⟨rfl, rfl, iN, by decide, ⟨rfl, rfl, bY, by decide, ⟨rfl, rfl, ty3, by decide, ⟨rfl, rfl, ty3, by decide, ⟨rfl, rfl, bQ, by decide, trivial⟩⟩⟩⟩⟩⟩⟩⟩⟩, ba⟩
theorem fL : ∀ h, (bO.ty GPl.zero).p h (.agg #[Value.int .i64 0, Value.int .i64 0, Value.slice none 0 0, Value.slice none 0 0, Value.slice none 0 0, Value.int .i64 0, Value.int .i64 0, Value.slice none 0 0]) := fun h => Sub.pn (n := 1) h _ (ss h)
def rH : List (SF Gnode) := [⟨aG, 46, bO, Gnode.Plan⟩, ⟨Gsize, 150, vj, Gnode.size⟩]
abbrev bm : Rp Gnode := bG rH
theorem bp : TyOf Tryz.prog 152 bm := ⟨fun w => Tryz.isAgg152 w, fun w => Tryz.sizeOf152 w⟩
theorem eC : StructOf Tryz.prog 152 rH := ⟨⟨_, Tryz.underlying152, ⟨rfl, rfl, ba, by decide, ⟨rfl, rfl, zK, by decide, trivial⟩⟩⟩, bp⟩
theorem x4 {n : Nat} {h : PH} {k : Gnode} {cs : List Value} (r : (bT n).rel h k cs) : bm.rel h k cs := by
 obtain ⟨c0, _, rfl, r0, rest⟩ := r
 exact ⟨c0, _, rfl, mh ⟨n, r0⟩, rest⟩
theorem x5 {h : PH} {k : Gnode} {cs : List Value} (r : bm.rel h k cs) : ∃ n, (bT n).rel h k cs := by
 obtain ⟨c0, _, rfl, r0, rest⟩ := r
 obtain ⟨n, r0⟩ := ox r0
 exact ⟨n, c0, _, rfl, r0, rest⟩
theorem zX {m n : Nat} (hmn : m <= n) {h : PH} {k : Gnode} {cs : List Value} (r : (bT m).rel h k cs) : (bT n).rel h k cs := by
 obtain ⟨c0, _, rfl, r0, rest⟩ := r
 exact ⟨c0, _, rfl, rPl_le cPl aS be hmn r0, rest⟩
theorem Ep {n : Nat} {k : Gnode} : Sub ((bT n).ty k) (bm.ty k) := fun h v ⟨cs, r, e⟩ => ⟨cs, x4 r, e⟩
theorem zY {h : PH} {xs : List Gnode} {v : Value} (hv : (tSl bm xs).p h v) : ∃ n, (tSl (bT n) xs).p h v := by
 obtain ⟨ao, cap, e, H⟩ := hv
 by_cases hx : xs = []
 · exact ⟨0, ao, cap, e, fun q => absurd hx q⟩
 · obtain ⟨b, off, ea, H2⟩ := H hx
   obtain ⟨n, hn⟩ := ow (P := fun i n => ∀ x, xs[i]? = some x -> ∃ cs, Holds h b (off + i * 11) cs /\ (bT n).rel h x cs) (fun i n n' hle hp x hx => by
    obtain ⟨cs, H, r⟩ := hp x hx
    exact ⟨cs, H, zX hle r⟩) xs.length (fun i hi => by
    obtain ⟨cs, H, r⟩ := H2 i _ (List.getElem?_eq_getElem hi)
    obtain ⟨n, r⟩ := x5 r
    refine ⟨n, fun x hx => ?_⟩
    rw [List.getElem?_eq_getElem hi] at hx
    cases hx
    exact ⟨cs, H, r⟩)
   refine ⟨n, ao, cap, e, fun _ => ⟨b, off, ea, fun i x hx => ?_⟩⟩
   rw [xO]
   exact hn i (List.getElem?_eq_some_iff.1 hx).1 x hx
theorem sG : TyOf Tryz.prog 197 (rSl bm) := ⟨fun w => Tryz.isAgg197 w, fun w => Tryz.sizeOf197 w⟩
theorem fM : ∀ h, (bm.ty ⟨GPl.zero, dF⟩).p h (.agg #[Value.int .i64 0, Value.int .i64 0, Value.slice none 0 0, Value.slice none 0 0, Value.slice none 0 0, Value.int .i64 0, Value.int .i64 0, Value.slice none 0 0, Value.int .i64 0, Value.int .i64 0, Value.slice none 0 0]) := fun h => Ep h _ (vn (n := 0) h)
theorem fW : ElT Tryz.prog 152 bm 168 ⟨GPl.zero, dF⟩ := ⟨bp, by decide, Tryz.t152, (.agg #[Value.int .i64 0, Value.int .i64 0, Value.slice none 0 0, Value.slice none 0 0, Value.slice none 0 0, Value.int .i64 0, Value.int .i64 0, Value.slice none 0 0, Value.int .i64 0, Value.int .i64 0, Value.slice none 0 0]), by kernel_rfl, by kernel_rfl, by kernel_rfl, by kernel_rfl, fM⟩
theorem jR : ElT Tryz.prog 46 bO 128 GPl.zero := ⟨ba, by decide, Tryz.t46, (.agg #[Value.int .i64 0, Value.int .i64 0, Value.slice none 0 0, Value.slice none 0 0, Value.slice none 0 0, Value.int .i64 0, Value.int .i64 0, Value.slice none 0 0]), by kernel_rfl, by kernel_rfl, by kernel_rfl, by kernel_rfl, fL⟩
def depP : aG -> Nat
 | .mk _ _ kids _ _ _ _ _ => (kids.attach.map fun k => depP k.1).foldr max 0 + 1
termination_by p => sizeOf p
decreasing_by
 have := List.sizeOf_lt_of_mem k.2
 simp only [GPl.mk.sizeOf_spec]; omega
theorem fv : ∀ {n m : Nat} {p : aG}, n <= m -> Dep n p -> Dep m p
 | 0, _, _, _, h => h.elim
 | n + 1, 0, _, hle, _ => absurd hle (by omega)
 | n + 1, m + 1, p, hle, h => fun q hq => fv (by omega) (h q hq)
theorem nI {l : List Nat} {a : Nat} (h : a ∈ l) : a <= l.foldr max 0 := by
 induction l with
 | nil => cases h
 | cons b l ih =>
   simp only [List.foldr_cons]
   rcases List.mem_cons.1 h with rfl | h
   · exact Nat.le_max_left _ _
   · exact Nat.le_trans (ih h) (Nat.le_max_right _ _)
theorem nJ {l : List Nat} {b : Nat} (h : ∀ a ∈ l, a <= b) : l.foldr max 0 <= b := by
 induction l with
 | nil => exact Nat.zero_le _
 | cons c l ih =>
   simp only [List.foldr_cons]
   exact Nat.max_le.2 ⟨h c List.mem_cons_self, ih fun a ha => h a (List.mem_cons_of_mem _ ha)⟩
theorem sH : ∀ (n : Nat) (p : aG), sizeOf p <= n -> Dep (depP p) p
 | 0, .mk _ _ _ _ _ _ _ _, h => by simp only [GPl.mk.sizeOf_spec] at h; omega
 | n + 1, .mk a b kids c d e f g, h => by
   rw [depP]
   intro q hq
   have hq : q ∈ kids := hq
   have h1 := List.sizeOf_lt_of_mem hq
   simp only [GPl.mk.sizeOf_spec] at h
   refine fv (nI ?_) (sH n q (by omega))
   exact List.mem_map.2 ⟨⟨q, hq⟩, List.mem_attach _ _, rfl⟩
theorem dG (p : aG) : Dep (depP p) p := sH _ p (Nat.le_refl _)
theorem jS (x : Gplanner) : ∀ {n m : Nat} {p : aG}, Dep n p -> Dep m p -> cD x n p = cD x m p
 | 0, _, _, h, _ => h.elim
 | n + 1, 0, _, _, h => h.elim
 | n + 1, m + 1, p, h1, h2 => by
   show makeM x p (p.Kids.map (cD x n)) = makeM x p (p.Kids.map (cD x m))
   rw [List.map_congr_left fun q hq => jS x (h1 q hq) (h2 q hq)]
def cd (x : Gplanner) (p : aG) : Gnode := cD x (depP p) p
theorem jT {x : Gplanner} {n : Nat} {p : aG} (h : Dep n p) : cD x n p = cd x p := jS x h (dG p)
theorem ij (x : Gplanner) (p : aG) : cd x p = makeM x p (p.Kids.map (cd x)) := by
 have hd := dG p
 unfold cd
 revert hd
 generalize depP p = n
 intro hd
 cases n with
 | zero => exact hd.elim
 | succ n =>
   show makeM x p (p.Kids.map (cD x n)) = _
   rw [List.map_congr_left fun q hq => jT (x := x) (hd q hq)]
   rfl
def x6 (x : Gplanner) (p : aG) : Prop := EOk x (depP p) p
theorem mi (x : Gplanner) : ∀ {n m : Nat} {p : aG}, Dep n p -> Dep m p -> EOk x n p -> EOk x m p
 | 0, _, _, h, _, _ => h.elim
 | n + 1, 0, _, _, h, _ => h.elim
 | n + 1, m + 1, p, h1, h2, ⟨e1, e2⟩ => by
   refine ⟨?_, fun q hq => mi x (h1 q hq) (h2 q hq) (e2 q hq)⟩
   rw [<- List.map_congr_left fun q hq => jS x (h1 q hq) (h2 q hq)]; exact e1
theorem iI {x : Gplanner} {p : aG} : x6 x p ↔ MkOk x p (p.Kids.map (cd x)) /\ ∀ q ∈ p.Kids, x6 x q := by
 have hd := dG p
 unfold x6
 revert hd
 generalize depP p = n
 intro hd
 cases n with
 | zero => exact hd.elim
 | succ n =>
   have he : p.Kids.map (cD x n) = p.Kids.map (cd x) := List.map_congr_left fun q hq => jT (hd q hq)
   constructor
   · rintro ⟨e1, e2⟩
     exact ⟨by rw [<- he]; exact e1, fun q hq => mi x (hd q hq) (dG q) (e2 q hq)⟩
   · rintro ⟨e1, e2⟩
     exact ⟨by rw [he]; exact e1, fun q hq => mi x (dG q) (hd q hq) (e2 q hq)⟩
structure NGd (x : Gplanner) (k : Gnode) : Prop where
 nd : NdOk k
 w : cd x k.Plan = k
 e : x6 x k.Plan
theorem p9 {x : Gplanner} {p q : aG} {ks : List Gnode} (h : MkOk x p ks) (hk : q.Kind = p.Kind) (ht : q.Table = p.Table) (hs : q.Tests = p.Tests) (hc : q.Cols = p.Cols) : MkOk x q ks :=
 ⟨h.k0, h.n, by rw [hs]; exact h.t, by rw [hc]; exact h.c, by rw [hk, ht]; exact h.k1, by rw [hk]; exact h.k2, by rw [hk, hs]; exact h.k3, by rw [hk, hc]; exact h.k4, by rw [hk]; exact h.k5, by rw [hk]; exact h.k6⟩
theorem vM (x : Gplanner) (p : aG) (ks : List Gnode) : makeM x (makeM x p ks).Plan ks = makeM x p ks := rfl
theorem zZ {x : Gplanner} {p : aG} {ks : List Gnode} (hm : MkOk x p ks) (hk : ∀ k ∈ ks, NGd x k) (hn : NdOk (makeM x p ks)) : NGd x (makeM x p ks) := by
 have he : (makeM x p ks).Plan.Kids.map (cd x) = ks := by
  show (ks.map Gnode.Plan).map (cd x) = ks
  rw [List.map_map]
  conv => rhs; rw [<- List.map_id ks]
  exact List.map_congr_left fun k hk' => (hk k hk').w
 refine ⟨hn, ?_, ?_⟩
 · rw [ij, he]; exact vM x p ks
 · rw [iI, he]
   refine ⟨p9 hm rfl rfl rfl rfl, fun q hq => ?_⟩
   obtain ⟨k, hk', rfl⟩ := List.mem_map.1 (show q ∈ ks.map Gnode.Plan from hq)
   exact (hk k hk').e
def fw (pl : Int -> Int) (s : GSide) : GSide := if s.Var = 0 then { s with Col := pl s.Col } else s
def okS (pl : Int -> Int) (s : GSide) : Bool := !decide (s.Var = 0) || decide (0 <= pl s.Col)
def fi (pl : Int -> Int) (t : GTest) : GTest := { t with Left := fw pl t.Left, Right := fw pl t.Right }
def okT (pl : Int -> Int) (t : GTest) : Bool := okS pl t.Left && okS pl t.Right
def cu (pl : Int -> Int) (l : List GTest) : List GTest := (l.filter (okT pl)).map (fi pl)
def cr (pl : Int -> Int) (l : List GTest) : List GTest := l.filter fun t => !okT pl t
def fX (x : Gplanner) (n : Gnode) (ts : List GTest) : Gnode := if ts.length = 0 then n else makeM x (GPl.mk 2 0 [] ts [] 0 0 n.Plan.Attrs) [n]
def bw (x : Gplanner) (a b : Gnode) : Gnode := makeM x (GPl.mk 4 0 [] [] [] 0 0 (bL a.Plan.Attrs b.Plan.Attrs)) [a, b]
def cheapI (f : Gnode -> Int) (l : List Gnode) (n : Nat) : Nat := (List.range n).foldl (fun a i => if f (nth l i) < f (nth l a) then i else a) 0
def bC (f : Gnode -> Int) (l : List Gnode) : Gnode × List Gnode := (nth l (cheapI f l l.length), l.eraseIdx (cheapI f l l.length))
def d5 (x : Gplanner) : Nat -> Gnode -> List Gnode -> Gnode
 | 0, out, _ => out
 | n + 1, out, rest => if rest.length = 0 then out else d5 x n (bw x out (bC (fun k => (bw x out k).size.rows) rest).1) (bC (fun k => (bw x out k).size.rows) rest).2
def inputsM : Nat -> aG -> List aG
 | 0, _ => []
 | n + 1, p => p.Kids.flatMap fun k => if k.Kind = 4 then inputsM n k else [k]
def mZ (p q : aG) (c : Int) : Int := columnL q.Attrs (nth p.Attrs c.toNat).Name
def yW (push : aG -> List GTest -> Gnode) (p : aG) (st : List Gnode × List GTest) (q : aG) : List Gnode × List GTest := (st.1 ++ [push q (cu (mZ p q) st.2)], cr (mZ p q) st.2)
def joinFold (push : aG -> List GTest -> Gnode) (p : aG) (qs : List aG) (ts : List GTest) : List Gnode × List GTest := qs.foldl (yW push p) ([], ts)
def colsOf (p : aG) (out : Gnode) : List Int := p.Attrs.map fun a => columnL out.Plan.Attrs a.Name
def eD (l : List Int) : Bool := (List.range (l.length - 1)).all fun i => !decide (nth l (i + 1) < nth l i)
def fY (x : Gplanner) (p : aG) (out : Gnode) : Gnode := if eD (colsOf p out) = true then out else makeM x (GPl.mk 3 0 [] [] (colsOf p out) 0 0 (bv out.Plan.Attrs (colsOf p out))) [out]
def fN (x : Gplanner) (p : aG) (st : List Gnode × List GTest) : Gnode :=
 if st.1.length = 2 then fX x (bw x (nth st.1 0) (nth st.1 1)) st.2
 else fX x (fY x p (d5 x st.1.length (bC (fun k => k.size.rows) st.1).1 (bC (fun k => k.size.rows) st.1).2)) st.2
def pc (p : aG) (c : Int) : Int := nth p.Cols c.toNat
def gH (p : aG) (c : Int) : Int := if c < p.Cols.length then nth p.Cols c.toNat else -1
def rI (x : Gplanner) (p : aG) (kid : Gnode) : Gnode :=
 if kid.Plan.Kind = 3 then makeM x (GPl.mk 3 0 [] [] (p.Cols.map fun c => nth kid.Plan.Cols c.toNat) 0 0 (bv kid.Plan.Attrs p.Cols)) [cd x (nth kid.Plan.Kids 0)]
 else makeM x (GPl.mk 3 0 [] [] p.Cols 0 0 (bv kid.Plan.Attrs p.Cols)) [kid]
def AH (x : Gplanner) (p : aG) (kid : Gnode) : Gnode := makeM x (GPl.mk 8 0 [] [] p.Cols p.Col p.Agg (bv kid.Plan.Attrs p.Cols ++ [nth p.Attrs p.Cols.length])) [kid]
def BQ (x : Gplanner) (p : aG) (kid : Gnode) : Gnode := makeM x (GPl.mk 7 0 [] [] [] p.Col 0 (kid.Plan.Attrs.set p.Col.toNat { nth kid.Plan.Attrs p.Col.toNat with Name := (nth p.Attrs p.Col.toNat).Name })) [kid]
def pushM (x : Gplanner) : Nat -> aG -> List GTest -> Gnode
 | 0, _, _ => ⟨GPl.zero, dF⟩
 | n + 1, p, ts =>
   if p.Kind = 1 then fX x (makeM x (GPl.mk 1 p.Table [] [] [] 0 0 p.Attrs) []) ts
   else if p.Kind = 2 then pushM x n (nth p.Kids 0) (p.Tests ++ ts)
   else if p.Kind = 4 then fN x p (joinFold (pushM x n) p (inputsM (n + 1) p) ts)
   else if p.Kind = 3 then rI x p (pushM x n (nth p.Kids 0) (cu (pc p) ts))
   else if p.Kind = 8 then fX x (AH x p (pushM x n (nth p.Kids 0) (cu (gH p) ts))) (cr (gH p) ts)
   else if p.Kind = 7 then BQ x p (pushM x n (nth p.Kids 0) ts)
   else makeM x (GPl.mk p.Kind 0 [] [] [] 0 0 (pushM x n (nth p.Kids 0) ts).Plan.Attrs) [pushM x n (nth p.Kids 0) ts, pushM x n (nth p.Kids 1) ts]
def x7 (s : GSchema) (n : Nat) (p : aG) (st : GStats) : aG :=
 if bq s p st = true then (if iE s (pushM ⟨s, st⟩ n p []).Plan = false \/ (cD ⟨s, st⟩ n p).size.cost < (pushM ⟨s, st⟩ n p []).size.cost then p else (pushM ⟨s, st⟩ n p []).Plan) else GPl.zero
def nmL (l : List GAttr) : List ByteArray := l.map GAttr.Name
theorem dz (l : List GAttr) : (nmL l).length = l.length := by simp [nmL]
theorem cE {a b : List GAttr} (h : nmL a = nmL b) : a.length = b.length := by rw [<- dz a, <- dz b, h]
theorem fZ {l : List GAttr} {i : Nat} (h : i < l.length) : nth (nmL l) i = (nth l i).Name := by
 rw [nth_get (by rw [dz]; exact h), nth_get h]; simp [nmL]
theorem qa {α β : Type} (f : α -> β) (p : β -> Bool) : ∀ (l : List α) (i : Int), findI p i (l.map f) = findI (fun a => p (f a)) i l
 | [], _ => rfl
 | a :: l, i => by simp only [List.map_cons, findI, qa f p l]
theorem sI (l : List GAttr) (n : ByteArray) : columnL l n = findI (fun m => decide (m = n)) 0 (nmL l) := (qa GAttr.Name (fun m => decide (m = n)) l 0).symm
theorem vO {a b : List GAttr} (h : nmL a = nmL b) (n : ByteArray) : columnL a n = columnL b n := by rw [sI, sI, h]
theorem vP {l : List GAttr} {n : ByteArray} : 0 <= columnL l n ↔ n ∈ nmL l := by
 rw [sI]
 have := (fu (fun m : ByteArray => decide (m = n)) (nmL l) 0 (Int.le_refl _)).2.2
 rw [this]; simp
theorem sJ {α : Type} (p : α -> Bool) : ∀ (l : List α) (s : Int), findI p s l = -1 \/ s <= findI p s l
 | [], _ => .inl rfl
 | a :: l, s => by
   unfold findI
   split
   · exact .inr (Int.le_refl _)
   · rcases sJ p l (s + 1) with h | h
     · exact .inl h
     · exact .inr (by omega)
theorem qb {α : Type} [Inhabited α] {p : α -> Bool} : ∀ {l : List α} {s : Int}, 0 <= s -> 0 <= findI p s l -> p (nth l (findI p s l - s).toNat) = true
 | [], s, hs, h => by simp [findI] at h
 | a :: l, s, hs, h => by
   unfold findI at h ⊢
   by_cases hp : p a = true
   · rw [if_pos hp]
     simp [hp]
   · rw [if_neg hp] at h ⊢
     have h1 := qb (p := p) (l := l) (s := s + 1) (by omega) h
     have h3 : s + 1 <= findI p (s + 1) l := by rcases sJ p l (s + 1) with h2 | h2 <;> omega
     obtain ⟨j, hj⟩ : ∃ j : Nat, findI p (s + 1) l - (s + 1) = j := ⟨(findI p (s + 1) l - (s + 1)).toNat, by omega⟩
     rw [show (findI p (s + 1) l - (s + 1)).toNat = j by omega] at h1
     rw [show (findI p (s + 1) l - s).toNat = j + 1 by omega]
     exact h1
theorem mj {l : List GAttr} {n : ByteArray} (h : 0 <= columnL l n) : nth (nmL l) (columnL l n).toNat = n := by
 rw [sI] at h ⊢
 have := qb (p := fun m : ByteArray => decide (m = n)) (l := nmL l) (s := 0) (Int.le_refl _) h
 simpa using this
theorem x8 {l : List GAttr} {n : ByteArray} (h : 0 <= columnL l n) : (nth l (columnL l n).toNat).Name = n := by
 have h1 := iY l n
 rw [<- fZ (by omega)]; exact mj h
def AI (a : List GAttr) (n : ByteArray) : Bool := (nmL a).any fun m => decide (m = n)
theorem oy {a : List GAttr} {n : ByteArray} : AI a n = true ↔ n ∈ nmL a := by unfold AI; simp
theorem lE (a b : List GAttr) : nmL (bL a b) = nmL a ++ (nmL b).filter fun n => !AI a n := by
 unfold bL
 show List.map GAttr.Name (a ++ _) = _
 rw [List.map_append]
 show nmL a ++ _ = nmL a ++ _
 congr 1
 unfold nmL
 rw [List.filter_map]
 congr 1
 refine List.filter_congr fun x _ => ?_
 have := vP (l := a) (n := x.Name)
 rw [<- oy] at this
 simp only [Function.comp]
 rw [Bool.eq_iff_iff]
 simp only [decide_eq_true_eq, Bool.not_eq_true']
 rw [Bool.eq_false_iff, ne_eq, <- this]; omega
theorem jU {a a' b b' : List GAttr} (h1 : nmL a = nmL a') (h2 : nmL b = nmL b') : nmL (bL a b) = nmL (bL a' b') := by
 rw [lE, lE, h1, h2]
 have : AI a = AI a' := by funext n; unfold AI; rw [h1]
 rw [this]
theorem ik {a b : List GAttr} {n : ByteArray} : n ∈ nmL (bL a b) ↔ n ∈ nmL a \/ n ∈ nmL b := by
 rw [lE, List.mem_append, List.mem_filter]
 constructor
 · rintro (h | h)
   · exact .inl h
   · exact .inr h.1
 · rintro (h | h)
   · exact .inl h
   · by_cases h2 : n ∈ nmL a
     · exact .inl h2
     · refine .inr ⟨h, ?_⟩
       rw [Bool.not_eq_true', Bool.eq_false_iff]
       exact fun e => h2 (oy.1 e)
theorem jg {a b : List GAttr} (ha : (nmL a).Nodup) (hb : (nmL b).Nodup) : (nmL (bL a b)).Nodup := by
 rw [lE]
 refine List.nodup_append.2 ⟨ha, hb.filter _, fun x hx y hy e => ?_⟩
 subst e
 rw [List.mem_filter, Bool.not_eq_true', Bool.eq_false_iff] at hy
 exact hy.2 (oy.2 hx)
theorem oz (l : List GAttr) (cols : List Int) : nmL (bv l cols) = cols.map fun c => (nth l c.toNat).Name := by unfold nmL bv; rw [List.map_map]; rfl
theorem gP {a b : List GAttr} (h : nmL a = nmL b) {cols : List Int} (hc : ∀ c ∈ cols, 0 <= c /\ c < b.length) : nmL (bv a cols) = nmL (bv b cols) := by
 rw [oz, oz]
 refine List.map_congr_left fun c hc' => ?_
 have h1 := hc c hc'
 have h2 := cE h
 rw [<- fZ (by omega), <- fZ (l := b) (by omega), h]
theorem x9 {a b : List GAttr} (h : cq a b = true) : nmL a = nmL b := by
 have hl := l0 h
 unfold cq eqL at h
 simp only [Bool.and_eq_true, decide_eq_true_eq, List.all_eq_true, List.mem_range] at h
 refine eW (by rw [dz, dz, hl]) fun i hi => ?_
 rw [dz] at hi
 rw [fZ hi, fZ (by omega)]
 have := h.2 i hi
 unfold alikeA at this
 simp only [Bool.and_eq_true, decide_eq_true_eq] at this
 exact this.1
section
variable {s : GSchema} {l : Nat} {p : aG}
theorem i7 (h : validM s l p = true) : (colsM s p).2 = true /\ nmL (colsM s p).1 = nmL p.Attrs /\ (nmL p.Attrs).Nodup := by
 cases l with
 | zero => simp [validM] at h
 | succ l =>
   simp only [validM, Bool.and_eq_true, decide_eq_true_eq, List.all_eq_true, List.mem_range] at h
   refine ⟨h.2.1, x9 h.2.2, ?_⟩
   have hn : ∀ i, i < p.Attrs.length -> columnL p.Attrs (nth p.Attrs i).Name = i := fun i hi => by
    have := h.1.2 i hi
    unfold ez at this
    simpa using this
   rw [List.nodup_iff_pairwise_ne, List.pairwise_iff_getElem]
   intro i j hi hj hij e
   rw [dz] at hi hj
   have e1 : (nth p.Attrs i).Name = (nth p.Attrs j).Name := by
    rw [<- fZ hi, <- fZ hj, nth_get (by rw [dz]; exact hi), nth_get (by rw [dz]; exact hj)]; exact e
   have h1 := hn i hi
   have h2 := hn j hj
   rw [e1] at h1
   omega
theorem vn2 (h : validM s l p = true) (hk : p.Kind = 2) : nmL p.Attrs = nmL (nth p.Kids 0).Attrs := by
 obtain ⟨_, h2, _⟩ := i7 h
 rw [<- h2]; simp [colsM, hk]
theorem vn3 (h : validM s l p = true) (hk : p.Kind = 3) : nmL p.Attrs = nmL (bv (nth p.Kids 0).Attrs p.Cols) := by
 obtain ⟨h1, h2, _⟩ := i7 h
 have e : colsM s p = (ej (nth p.Kids 0).Attrs p.Cols, dU (nth p.Kids 0).Attrs.length p.Cols) := by simp [colsM, hk]
 rw [e] at h1 h2
 rw [<- h2]
 show nmL (ej _ _) = _
 rw [ej, if_pos h1]
theorem vn4 (h : validM s l p = true) (hk : p.Kind = 4) : nmL p.Attrs = nmL (bL (nth p.Kids 0).Attrs (nth p.Kids 1).Attrs) := by
 obtain ⟨h1, h2, _⟩ := i7 h
 have e : colsM s p = if fG (nth p.Kids 0).Attrs (nth p.Kids 1).Attrs = true then (bL (nth p.Kids 0).Attrs (nth p.Kids 1).Attrs, true) else ([], false) := by simp [colsM, hk]
 rw [e] at h1 h2
 split at h1
 · rename_i q
   rw [if_pos q] at h2; exact h2.symm
 · cases h1
theorem vn5 (h : validM s l p = true) (hk : p.Kind = 5 \/ p.Kind = 6) : nmL p.Attrs = nmL (nth p.Kids 0).Attrs := by
 obtain ⟨h1, h2, _⟩ := i7 h
 rw [<- h2]; rcases hk with hk | hk <;> simp [colsM, hk]
theorem vn7 (h : validM s l p = true) (hk : p.Kind = 7) : (0 <= p.Col /\ p.Col < (nth p.Kids 0).Attrs.length) /\ nmL p.Attrs = (nmL (nth p.Kids 0).Attrs).set p.Col.toNat (nth p.Attrs p.Col.toNat).Name := by
 obtain ⟨h1, h2, _⟩ := i7 h
 have e : colsM s p = if gw p = true then (tv p, true) else ([], false) := by simp [colsM, hk]
 rw [e] at h1 h2
 split at h1
 · rename_i q
   rw [if_pos q] at h2
   simp only [gw, decide_eq_true_eq] at q
   refine ⟨⟨q.1, q.2.1⟩, ?_⟩
   rw [<- h2]
   show nmL (tv p) = _
   unfold tv nmL
   rw [List.map_set]
 · cases h1
theorem vn8 (h : validM s l p = true) (hk : p.Kind = 8) : nmL p.Attrs = nmL (bv (nth p.Kids 0).Attrs p.Cols) ++ [(nth p.Attrs p.Cols.length).Name] := by
 obtain ⟨h1, h2, _⟩ := i7 h
 have e : colsM s p = if fS p = true then (jB p, jq p) else ([], false) := by simp [colsM, hk]
 rw [e] at h1 h2
 split at h1
 · rename_i q
   rw [if_pos q] at h2
   rw [<- h2]
   show nmL (jB p) = _
   unfold jB nmL
   rw [List.map_append]; rfl
 · cases h1
end
def gQ : Nat -> aG -> Nat
 | 0, _ => 0
 | n + 1, p => p.Tests.length + (p.Kids.map (gQ n)).foldr max 0
def PSz (p : aG) : Prop := ∀ m, od m p
theorem yX : ∀ {n : Nat} {p : aG}, Dep n p -> od n p -> PSz p
 | 0, _, h, _ => h.elim
 | n + 1, p, hd, ⟨z1, z2, z3, z4, z5⟩ => fun m => by
   cases m with
   | zero => exact trivial
   | succ m => exact ⟨z1, z2, z3, z4, fun q hq => ⟨yX (hd q hq) (z5 q hq).1 m, (z5 q hq).2⟩⟩
theorem fj {p q : aG} (h : PSz p) (hq : q ∈ p.Kids) : PSz q /\ q.Attrs.length <= 1000 := ⟨fun m => ((h (m + 1)).2.2.2.2 q hq).1, ((h 1).2.2.2.2 q hq).2⟩
theorem il {p : aG} (h : PSz p) : p.Tests.length <= 1000 /\ p.Cols.length <= 1000 /\ p.Attrs.length <= 1000 := ⟨(h 1).2.1, (h 1).2.2.1, (h 1).2.2.2.1⟩
theorem jV {n : Nat} {p q : aG} (hq : q ∈ p.Kids) : p.Tests.length + gQ n q <= gQ (n + 1) p := by
 have := nI (List.mem_map.2 ⟨q, hq, rfl⟩ : gQ n q ∈ p.Kids.map (gQ n))
 simp only [gQ]; omega
structure PI (x : Gplanner) (b : Nat) (k : Gnode) : Prop where
 g : NGd x k
 z : PSz k.Plan
 a : k.Plan.Attrs.length <= 1000
 t : ∀ m, gQ m k.Plan <= b
theorem PI.le {x : Gplanner} {b b' : Nat} {k : Gnode} (h : PI x b k) (hb : b <= b') : PI x b' k := ⟨h.g, h.z, h.a, fun m => Nat.le_trans (h.t m) hb⟩
theorem PI.dn {x : Gplanner} {b : Nat} {k : Gnode} (h : PI x b k) : k.size.distinct.length = k.Plan.Attrs.length := h.g.nd.n
section
variable {x : Gplanner}
theorem jh {p : aG} {ks : List Gnode} {b : Nat} (hm : MkOk x p ks) (hks : ∀ k ∈ ks, PI x b k) (hd : (dsM x p ks).length = p.Attrs.length) (hnn : p.Kind = 1 -> ∀ v ∈ nth x.st.Distinct p.Table.toNat, 0 <= v) (ha : p.Attrs.length <= 1000) (ht : p.Tests.length <= 1000) (hc : p.Cols.length <= 1000) :
  PI x (p.Tests.length + b) (makeM x p ks) := by
 refine ⟨zZ hm (fun k hk => (hks k hk).g) (yU hm (yV hm hnn) hd (by omega)), fun m => ?_, ha, fun m => ?_⟩
 · cases m with
   | zero => exact trivial
   | succ m =>
     refine ⟨?_, ht, hc, ha, fun q hq => ?_⟩
     · show (ks.map Gnode.Plan).length <= _
       rw [List.length_map]; have := hm.n; omega
     · obtain ⟨k, hk, rfl⟩ := List.mem_map.1 (show q ∈ ks.map Gnode.Plan from hq)
       exact ⟨(hks k hk).z m, (hks k hk).a⟩
 · cases m with
   | zero => exact Nat.zero_le _
   | succ m =>
     refine Nat.add_le_add_left (nJ fun a hin0 => ?_) _
     obtain ⟨q, hq, rfl⟩ := List.mem_map.1 hin0
     obtain ⟨k, hk, rfl⟩ := List.mem_map.1 (show q ∈ ks.map Gnode.Plan from hq)
     exact (hks k hk).t m
theorem ml (x : Gplanner) : ∀ (n : Nat) (p : aG), sizeOf p <= n -> (cd x p).Plan = p
 | 0, .mk _ _ _ _ _ _ _ _, h => by simp only [GPl.mk.sizeOf_spec] at h; omega
 | n + 1, .mk a b kids c d e f g, h => by
   rw [ij]
   show GPl.mk a b ((kids.map (cd x)).map Gnode.Plan) c d e f g = _
   rw [List.map_map]
   have : kids.map (Gnode.Plan ∘ cd x) = kids := by
    conv => rhs; rw [<- List.map_id kids]
    refine List.map_congr_left fun q hq => ?_
    have h1 := List.sizeOf_lt_of_mem hq
    simp only [GPl.mk.sizeOf_spec] at h
    exact ml x n q (by omega)
   rw [this]
theorem cP (x : Gplanner) (p : aG) : (cd x p).Plan = p := ml x _ p (Nat.le_refl _)
theorem yY {b : Nat} {k : Gnode} (h : PI x b k) {q : aG} (hq : q ∈ k.Plan.Kids) : PI x b (cd x q) := by
 have he := (iI.1 h.g.e)
 have hz := fj h.z hq
 refine ⟨⟨he.1.k0 _ (List.mem_map.2 ⟨q, hq, rfl⟩), by rw [cP], by rw [cP]; exact he.2 q hq⟩, by rw [cP]; exact hz.1, by rw [cP]; exact hz.2, fun m => ?_⟩
 rw [cP]
 have h1 := jV (n := m) hq
 have h2 := h.t (m + 1)
 omega
def TIn (k : Nat) (ts : List GTest) : Prop := ∀ t ∈ ts, mb k t
theorem jW {b : Nat} {n : Gnode} (h : PI x b n) {ts : List GTest} (hl : ts.length <= 1000) (ht : TIn n.Plan.Attrs.length ts) : PI x (ts.length + b) (fX x n ts) /\ (fX x n ts).Plan.Attrs = n.Plan.Attrs := by
 unfold fX
 split
 · exact ⟨h.le (by omega), rfl⟩
 · have hm : MkOk x (GPl.mk 2 0 [] ts [] 0 0 n.Plan.Attrs) [n] := ⟨fun k hk => by rw [List.mem_singleton.1 hk]; exact h.g.nd, by simp, by show ts.length <= _; omega, by show (0 : Nat) <= _; omega, fun q => absurd q (show ¬ (2 : Int) = 1 by decide), fun _ => Nat.one_pos,
     fun _ t ht' => by show mb n.size.distinct.length t; rw [h.dn]; exact ht t ht', fun q => absurd q (show ¬ ((2 : Int) = 3 \/ (2 : Int) = 8) by decide), fun q => absurd q (show ¬ ((2 : Int) = 4 \/ (2 : Int) = 5) by decide), fun q => absurd q (show ¬ (2 : Int) = 5 by decide)⟩
   exact ⟨jh hm (fun k hk => by rw [List.mem_singleton.1 hk]; exact h) (by rw [AF rfl]; exact h.dn) (fun q => absurd q (show ¬ (2 : Int) = 1 by decide)) h.a hl (Nat.zero_le _), rfl⟩
theorem mn {b : Nat} {k : Gnode} (h : PI x b k) {cols : List Int} {ats : List GAttr} (hc : d9 k.Plan.Attrs.length cols) (hl : cols.length <= 1000) (ha : ats.length = cols.length) : PI x b (makeM x (GPl.mk 3 0 [] [] cols 0 0 ats) [k]) := by
 have hm : MkOk x (GPl.mk 3 0 [] [] cols 0 0 ats) [k] := ⟨fun q hq => by rw [List.mem_singleton.1 hq]; exact h.g.nd, by simp, by show (0 : Nat) <= _; omega, by show cols.length <= _; omega, fun q => absurd q (show ¬ (3 : Int) = 1 by decide), fun _ => Nat.one_pos,
   fun q => absurd q (show ¬ (3 : Int) = 2 by decide), fun _ => by show d9 k.size.distinct.length cols; rw [h.dn]; exact hc, fun q => absurd q (show ¬ ((3 : Int) = 4 \/ (3 : Int) = 5) by decide), fun q => absurd q (show ¬ (3 : Int) = 5 by decide)⟩
 have := jh (b := b) hm (fun q hq => by rw [List.mem_singleton.1 hq]; exact h) (by rw [yQ rfl]; show (cm _ cols).length = ats.length; rw [cm, List.length_map, ha]) (fun q => absurd q (show ¬ (3 : Int) = 1 by decide)) (by show ats.length <= _; omega) (by show (0 : Nat) <= _; omega) hl
 exact this.le (by show 0 + b <= b; omega)
theorem yZ {b : Nat} {k : Gnode} (h : PI x b k) {cols : List Int} {c g : Int} {ats : List GAttr} (hc : d9 k.Plan.Attrs.length cols) (hl : ats.length <= 1000) (ha : ats.length = cols.length + 1) : PI x b (makeM x (GPl.mk 8 0 [] [] cols c g ats) [k]) := by
 have hm : MkOk x (GPl.mk 8 0 [] [] cols c g ats) [k] := ⟨fun q hq => by rw [List.mem_singleton.1 hq]; exact h.g.nd, by simp, by show (0 : Nat) <= _; omega, by show cols.length <= _; omega, fun q => absurd q (show ¬ (8 : Int) = 1 by decide), fun _ => Nat.one_pos,
   fun q => absurd q (show ¬ (8 : Int) = 2 by decide), fun _ => by show d9 k.size.distinct.length cols; rw [h.dn]; exact hc, fun q => absurd q (show ¬ ((8 : Int) = 4 \/ (8 : Int) = 5) by decide), fun q => absurd q (show ¬ (8 : Int) = 5 by decide)⟩
 have := jh (b := b) hm (fun q hq => by rw [List.mem_singleton.1 hq]; exact h) (by rw [yR rfl]; show (cm _ cols ++ [_]).length = ats.length; rw [cm, List.length_append, List.length_map, ha]; rfl) (fun q => absurd q (show ¬ (8 : Int) = 1 by decide)) hl (by show (0 : Nat) <= _; omega) (by show cols.length <= _; omega)
 exact this.le (by show 0 + b <= b; omega)
theorem y8 {b : Nat} {k : Gnode} (h : PI x b k) {c : Int} {ats : List GAttr} (ha : ats.length = k.Plan.Attrs.length) : PI x b (makeM x (GPl.mk 7 0 [] [] [] c 0 ats) [k]) := by
 have hm : MkOk x (GPl.mk 7 0 [] [] [] c 0 ats) [k] := ⟨fun q hq => by rw [List.mem_singleton.1 hq]; exact h.g.nd, by simp, by show (0 : Nat) <= _; omega, by show (0 : Nat) <= _; omega, fun q => absurd q (show ¬ (7 : Int) = 1 by decide), fun _ => Nat.one_pos,
   fun q => absurd q (show ¬ (7 : Int) = 2 by decide), fun q => absurd q (show ¬ ((7 : Int) = 3 \/ (7 : Int) = 8) by decide), fun q => absurd q (show ¬ ((7 : Int) = 4 \/ (7 : Int) = 5) by decide), fun q => absurd q (show ¬ (7 : Int) = 5 by decide)⟩
 have := jh (b := b) hm (fun q hq => by rw [List.mem_singleton.1 hq]; exact h) (by rw [yS (p := GPl.mk 7 0 [] [] [] c 0 ats) (show (7 : Int) ≠ 1 by decide) (show (7 : Int) ≠ 2 by decide) (show (7 : Int) ≠ 3 by decide) (show (7 : Int) ≠ 4 by decide) (show (7 : Int) ≠ 5 by decide) (show (7 : Int) ≠ 8 by decide)]; show k.size.distinct.length = ats.length; rw [h.dn, ha]) (fun q => absurd q (show ¬ (7 : Int) = 1 by decide)) (by show ats.length <= _; have := h.a; omega) (by show (0 : Nat) <= _; omega) (by show (0 : Nat) <= _; omega)
 exact this.le (by show 0 + b <= b; omega)
theorem vQ {b : Nat} {k l : Gnode} (h : PI x b k) (h2 : PI x b l) (hl : k.Plan.Attrs.length = l.Plan.Attrs.length) {kd : Int} (hk : kd = 5 \/ kd = 6) : PI x b (makeM x (GPl.mk kd 0 [] [] [] 0 0 k.Plan.Attrs) [k, l]) := by
 have hin : ∀ q ∈ [k, l], PI x b q := fun q hq => by
  simp only [List.mem_cons, List.not_mem_nil, or_false] at hq
  rcases hq with rfl | rfl <;> assumption
 have hm : MkOk x (GPl.mk kd 0 [] [] [] 0 0 k.Plan.Attrs) [k, l] := ⟨fun q hq => (hin q hq).g.nd, by simp, by show (0 : Nat) <= _; omega, by show (0 : Nat) <= _; omega, fun (q : kd = 1) => by omega, fun _ => Nat.two_pos,
   fun (q : kd = 2) => by omega, fun (q : kd = 3 \/ kd = 8) => by omega, fun _ => by show 1 < 2; omega, fun _ => by show k.size.distinct.length <= l.size.distinct.length; rw [h.dn, h2.dn, hl]; exact Nat.le_refl _⟩
 have hd : (dsM x (GPl.mk kd 0 [] [] [] 0 0 k.Plan.Attrs) [k, l]).length = k.Plan.Attrs.length := by
  rcases hk with rfl | rfl
  · rw [zR rfl]; show (uDs _ _ k.size.distinct.length).length = _; rw [uDs, List.length_map, List.length_range, h.dn]
  · rw [yS (p := GPl.mk 6 0 [] [] [] 0 0 k.Plan.Attrs) (show (6 : Int) ≠ 1 by decide) (show (6 : Int) ≠ 2 by decide) (show (6 : Int) ≠ 3 by decide) (show (6 : Int) ≠ 4 by decide) (show (6 : Int) ≠ 5 by decide) (show (6 : Int) ≠ 8 by decide)]; exact h.dn
 have := jh (b := b) hm hin hd (fun (q : kd = 1) => by omega) h.a (by show (0 : Nat) <= _; omega) (by show (0 : Nat) <= _; omega)
 exact this.le (by show 0 + b <= b; omega)
theorem kD {b : Nat} {k l : Gnode} (h : PI x b k) (h2 : PI x b l) (hl : (bL k.Plan.Attrs l.Plan.Attrs).length <= 1000) : PI x b (bw x k l) := by
 have hin : ∀ q ∈ [k, l], PI x b q := fun q hq => by
  simp only [List.mem_cons, List.not_mem_nil, or_false] at hq
  rcases hq with rfl | rfl <;> assumption
 have hm : MkOk x (GPl.mk 4 0 [] [] [] 0 0 (bL k.Plan.Attrs l.Plan.Attrs)) [k, l] := ⟨fun q hq => (hin q hq).g.nd, by simp, by show (0 : Nat) <= _; omega, by show (0 : Nat) <= _; omega, fun q => absurd q (show ¬ (4 : Int) = 1 by decide), fun _ => Nat.two_pos,
   fun q => absurd q (show ¬ (4 : Int) = 2 by decide), fun q => absurd q (show ¬ ((4 : Int) = 3 \/ (4 : Int) = 8) by decide), fun _ => by show 1 < 2; omega, fun q => absurd q (show ¬ (4 : Int) = 5 by decide)⟩
 have := jh (b := b) hm hin (by rw [AG rfl]; exact vK h.g.nd) (fun q => absurd q (show ¬ (4 : Int) = 1 by decide)) hl (by show (0 : Nat) <= _; omega) (by show (0 : Nat) <= _; omega)
 exact this.le (by show 0 + b <= b; omega)
theorem y9 (hst : StOk x) {t : Int} (ht : 0 <= t /\ t < x.s.Tables.length) {ats : List GAttr} (ha : ats.length = (nth x.s.Tables t.toNat).Attrs.length) (hl : ats.length <= 1000) : PI x 0 (makeM x (GPl.mk 1 t [] [] [] 0 0 ats) []) := by
 have htt : t.toNat < x.s.Tables.length := by omega
 have hm : MkOk x (GPl.mk 1 t [] [] [] 0 0 ats) [] := ⟨fun q hq => (by cases hq), by simp, by show (0 : Nat) <= _; omega, by show (0 : Nat) <= _; omega,
   fun _ => ⟨ht.1, by show t < _; have := hst.r; omega, by show t < _; have := hst.d; omega, hst.u _ htt, by show (nth x.st.Distinct t.toNat).length <= _; rw [hst.n _ htt]; omega⟩,
   fun q => absurd (show (1 : Int) = 1 from rfl) q, fun q => absurd q (show ¬ (1 : Int) = 2 by decide), fun q => absurd q (show ¬ ((1 : Int) = 3 \/ (1 : Int) = 8) by decide), fun q => absurd q (show ¬ ((1 : Int) = 4 \/ (1 : Int) = 5) by decide), fun q => absurd q (show ¬ (1 : Int) = 5 by decide)⟩
 exact jh (b := 0) hm (fun q hq => (by cases hq)) (by rw [AE rfl]; show (nth x.st.Distinct t.toNat).length = ats.length; rw [hst.n _ htt, ha]) (fun _ v hv => (hst.a _ htt v hv).1) hl (by show (0 : Nat) <= _; omega) (by show (0 : Nat) <= _; omega)
end
theorem gB (f : Gnode -> Int) (l : List Gnode) (hl : 0 < l.length) : cheapI f l l.length < l.length :=
 fK (P := fun a => a < l.length) (fun a ha i hi => by split; exact List.mem_range.1 hi; exact ha) hl
theorem im {f : Gnode -> Int} {l : List Gnode} (hl : 0 < l.length) : (bC f l).1 ∈ l := aH (gB f l hl)
theorem eE {f : Gnode -> Int} {l : List Gnode} (hl : 0 < l.length) : (bC f l).2.length = l.length - 1 := List.length_eraseIdx_of_lt (gB f l hl)
theorem iJ {f : Gnode -> Int} {l : List Gnode} (hl : 0 < l.length) : ((bC f l).1 :: (bC f l).2).Perm l := by
 have h := gB f l hl
 show (nth l _ :: l.eraseIdx _).Perm l
 rw [List.eraseIdx_eq_take_drop_succ]
 refine List.perm_middle.symm.trans ?_
 have : nth l (cheapI f l l.length) :: l.drop (cheapI f l l.length + 1) = l.drop (cheapI f l l.length) := by rw [nth_get h]; exact (List.drop_eq_getElem_cons h).symm
 rw [this, List.take_append_drop]
def nmS (ls : List Gnode) (n : ByteArray) : Prop := ∃ k ∈ ls, n ∈ nmL k.Plan.Attrs
section
variable {x : Gplanner} {b : Nat}
theorem sK {U : List ByteArray} (hU : U.length <= 1000) : ∀ (fuel : Nat) (out : Gnode) (rest : List Gnode), rest.length <= fuel -> PI x b out -> (∀ k ∈ rest, PI x b k) -> (nmL out.Plan.Attrs).Nodup -> (∀ k ∈ rest, (nmL k.Plan.Attrs).Nodup) ->
  (∀ n ∈ nmL out.Plan.Attrs, n ∈ U) -> (∀ k ∈ rest, ∀ n ∈ nmL k.Plan.Attrs, n ∈ U) ->
  PI x b (d5 x fuel out rest) /\ (nmL (d5 x fuel out rest).Plan.Attrs).Nodup /\ ∀ n, n ∈ nmL (d5 x fuel out rest).Plan.Attrs ↔ n ∈ nmL out.Plan.Attrs \/ nmS rest n := by
 intro fuel
 induction fuel with
 | zero =>
   intro out rest hr ho _ hn _ _ _
   have : rest = [] := List.length_eq_zero_iff.1 (by omega)
   subst this
   exact ⟨ho, hn, fun n => ⟨.inl, fun h => h.elim id fun ⟨k, hk, _⟩ => by cases hk⟩⟩
 | succ fuel ih =>
   intro out rest hr ho hks hn hkn hu hku
   by_cases h0 : rest.length = 0
   · have : rest = [] := List.length_eq_zero_iff.1 h0
     subst this
     simp only [d5, List.length_nil, if_true]
     exact ⟨ho, hn, fun n => ⟨.inl, fun h => h.elim id fun ⟨k, hk, _⟩ => by cases hk⟩⟩
   · simp only [d5, if_neg h0]
     generalize hf : (fun k => (bw x out k).size.rows) = f
     have hl : 0 < rest.length := by omega
     have hm := im (f := f) hl
     have hp := iJ (f := f) hl
     have hlen := eE (f := f) hl
     have hsub : ∀ k ∈ (bC f rest).2, k ∈ rest := fun k hk => hp.mem_iff.1 (List.mem_cons_of_mem _ hk)
     have hnd := jg hn (hkn _ hm)
     have hjU : ∀ n ∈ nmL (bL out.Plan.Attrs (bC f rest).1.Plan.Attrs), n ∈ U := fun n h => (ik.1 h).elim (hu n) (hku _ hm n)
     have hjl : (bL out.Plan.Attrs (bC f rest).1.Plan.Attrs).length <= 1000 := by
      have := hQ hnd hjU
      rw [dz] at this; omega
     obtain ⟨i1, i2, i3⟩ := ih (bw x out (bC f rest).1) (bC f rest).2 (by omega) (kD ho (hks _ hm) hjl) (fun k hk => hks k (hsub k hk)) hnd (fun k hk => hkn k (hsub k hk)) hjU (fun k hk => hku k (hsub k hk))
     refine ⟨i1, i2, fun n => ?_⟩
     rw [i3]
     show n ∈ nmL (bL _ _) \/ _ ↔ _
     rw [ik]
     constructor
     · rintro ((h | h) | ⟨k, hk, h⟩)
       · exact .inl h
       · exact .inr ⟨_, hm, h⟩
       · exact .inr ⟨k, hsub k hk, h⟩
     · rintro (h | ⟨k, hk, h⟩)
       · exact .inl (.inl h)
       · rcases List.mem_cons.1 (hp.mem_iff.2 hk) with rfl | hk
         · exact .inl (.inr h)
         · exact .inr ⟨k, hk, h⟩
theorem vR {n : Nat} {f : Nat -> Nat} (h1 : ∀ i, i < n -> f i < n) (h2 : ∀ i, i + 1 < n -> f i < f (i + 1)) : ∀ i, i < n -> f i = i := by
 have hlo : ∀ i, i < n -> i <= f i := by
  intro i
  induction i with
  | zero => intro _; exact Nat.zero_le _
  | succ i ih => intro hi; have := ih (by omega); have := h2 i hi; omega
 have hhi : ∀ d i, i + d + 1 = n -> f i <= i := by
  intro d
  induction d with
  | zero => intro i hi; have := h1 i (by omega); omega
  | succ d ih =>
    intro i hi
    have := ih (i + 1) (by omega)
    have := h2 i (by omega)
    omega
 intro i hi
 have := hlo i hi
 have := hhi (n - 1 - i) i (by omega)
 omega
theorem oA {p : aG} {out : Gnode} (h : PI x b out) (hn : (nmL out.Plan.Attrs).Nodup) (hp : (nmL p.Attrs).Nodup) (he : ∀ n, n ∈ nmL out.Plan.Attrs ↔ n ∈ nmL p.Attrs) (ha : p.Attrs.length <= 1000) :
  PI x b (fY x p out) /\ nmL (fY x p out).Plan.Attrs = nmL p.Attrs /\ d9 out.Plan.Attrs.length (colsOf p out) := by
 have hci : ∀ i, i < p.Attrs.length -> 0 <= columnL out.Plan.Attrs (nth p.Attrs i).Name /\ columnL out.Plan.Attrs (nth p.Attrs i).Name < out.Plan.Attrs.length := fun i hi => by
  refine ⟨vP.2 ((he _).2 ?_), (iY _ _).2⟩
  rw [<- fZ hi]; exact aH (by rw [dz]; exact hi)
 have hcl : (colsOf p out).length = p.Attrs.length := by simp [colsOf]
 have hcn : ∀ i, i < p.Attrs.length -> nth (colsOf p out) i = columnL out.Plan.Attrs (nth p.Attrs i).Name := fun i hi => by
  rw [nth_get (by rw [hcl]; exact hi), nth_get hi]; simp [colsOf]
 have hcols : d9 out.Plan.Attrs.length (colsOf p out) := fun c hc => by
  obtain ⟨i, hi, rfl⟩ := List.getElem_of_mem hc
  rw [hcl] at hi
  rw [<- nth_get (by rw [hcl]; exact hi), hcn i hi]; exact hci i hi
 unfold fY
 split
 · rename_i hs
   refine ⟨h, ?_, hcols⟩
   have hl : out.Plan.Attrs.length = p.Attrs.length := by
    have h1 := hQ hn (fun n hn => (he n).1 hn)
    have h2 := hQ hp (fun n hn => (he n).2 hn)
    rw [dz, dz] at h1 h2
    omega
   have hinj : ∀ i j, i < p.Attrs.length -> j < p.Attrs.length -> nth (colsOf p out) i = nth (colsOf p out) j -> i = j := fun i j hi hj e => by
    rw [hcn i hi, hcn j hj] at e
    have e1 := mj (hci i hi).1
    have e2 := mj (hci j hj).1
    rw [e, e2] at e1
    have hpw := List.pairwise_iff_getElem.1 (List.nodup_iff_pairwise_ne.1 hp)
    have e1 : nth (nmL p.Attrs) i = nth (nmL p.Attrs) j := by rw [fZ hi, fZ hj]; exact e1.symm
    rw [nth_get (by rw [dz]; exact hi), nth_get (by rw [dz]; exact hj)] at e1
    rcases Nat.lt_trichotomy i j with q | q | q
    · exact absurd e1 (hpw i j _ _ q)
    · exact q
    · exact absurd e1.symm (hpw j i _ _ q)
   have hst : ∀ i, i + 1 < p.Attrs.length -> (nth (colsOf p out) i).toNat < (nth (colsOf p out) (i + 1)).toNat := fun i hi => by
    unfold eD at hs
    simp only [List.all_eq_true, List.mem_range, Bool.not_eq_true', decide_eq_false_iff_not] at hs
    have h1 := hs i (by rw [hcl]; omega)
    have h2 := hcn i (by omega)
    have h3 := hcn (i + 1) hi
    have h4 := hci i (by omega)
    have h5 := hci (i + 1) hi
    have h6 : nth (colsOf p out) i ≠ nth (colsOf p out) (i + 1) := fun e => by have := hinj _ _ (by omega) hi e; omega
    omega
   have hid := vR (n := p.Attrs.length) (f := fun i => (nth (colsOf p out) i).toNat) (fun i hi => by have := hci i hi; rw [hcn i hi]; omega) hst
   refine eW (by rw [dz, dz, hl]) fun i hi => ?_
   rw [dz, hl] at hi
   have h1 := hid i hi
   simp only [hcn i hi] at h1
   have h2 := mj (hci i hi).1
   rw [h1] at h2
   rw [h2, fZ hi]
 · refine ⟨mn h hcols (by rw [hcl]; exact ha) (by simp [bv]), ?_, hcols⟩
   show nmL (bv out.Plan.Attrs (colsOf p out)) = _
   rw [oz]
   refine eW (by rw [List.length_map, hcl, dz]) fun i hi => ?_
   rw [List.length_map, hcl] at hi
   rw [nth_get (by rw [List.length_map, hcl]; exact hi), List.getElem_map, <- nth_get (by rw [hcl]; exact hi), hcn i hi, fZ hi]
   exact x8 (hci i hi).1
end
theorem sL : ∀ {n m : Nat} {p : aG}, Dep n p -> Dep m p -> gQ n p = gQ m p
 | 0, _, _, h, _ => h.elim
 | n + 1, 0, _, _, h => h.elim
 | n + 1, m + 1, p, h1, h2 => by
   simp only [gQ]
   rw [List.map_congr_left fun q hq => sL (h1 q hq) (h2 q hq)]
theorem d7 (pl : Int -> Int) (l : List GTest) : (cu pl l).length + (cr pl l).length = l.length := by
 unfold cu cr
 rw [List.length_map]
 induction l with
 | nil => rfl
 | cons a l ih =>
   simp only [List.filter_cons]
   cases okT pl a <;> simp <;> omega
theorem vS {pl : Int -> Int} {m k : Nat} (hk : ∀ c : Int, 0 <= c -> c < (m : Int) -> 0 <= pl c -> pl c < (k : Int)) {s : GSide} (hs : s.Var = 0 -> 0 <= s.Col /\ s.Col < m) (ho : okS pl s = true) : (fw pl s).Var = 0 -> 0 <= (fw pl s).Col /\ (fw pl s).Col < k := by
 unfold fw
 unfold okS at ho
 by_cases hv : s.Var = 0
 · rw [if_pos hv]
   intro _
   obtain ⟨h1, h2⟩ := hs hv
   have h3 : 0 <= pl s.Col := by simpa [hv] using ho
   exact ⟨h3, hk _ h1 h2 h3⟩
 · rw [if_neg hv]
   exact fun q => absurd q hv
theorem kW {pl : Int -> Int} {m k : Nat} (hk : ∀ c : Int, 0 <= c -> c < (m : Int) -> 0 <= pl c -> pl c < (k : Int)) {l : List GTest} (hl : TIn m l) : TIn k (cu pl l) := fun t ht => by
 unfold cu at ht
 simp only [List.mem_map, List.mem_filter] at ht
 obtain ⟨u, ⟨hu, ho⟩, rfl⟩ := ht
 unfold okT at ho
 rw [Bool.and_eq_true] at ho
 have h0 := hl u hu
 intro s hs
 simp only [fi, List.mem_cons, List.not_mem_nil, or_false] at hs
 rcases hs with rfl | rfl
 · exact vS hk (h0 u.Left (by simp)) ho.1
 · exact vS hk (h0 u.Right (by simp)) ho.2
theorem rJ {pl : Int -> Int} {m : Nat} {l : List GTest} (hl : TIn m l) : TIn m (cr pl l) := fun t ht => hl t (List.mem_filter.1 ht).1
theorem ya {l : List aG} (h : l.length = 2) : l = [nth l 0, nth l 1] := by
 match l, h with
 | [a, b], _ => rfl
theorem io {s : GSchema} : ∀ {n l : Nat} {p : aG}, Dep (n + 1) p -> validM s l p = true -> PSz p -> p.Kind = 4 ->
  (∀ q ∈ inputsM (n + 1) p, Dep n q /\ (∃ l', validM s l' q = true) /\ PSz q /\ gQ n q <= gQ (n + 1) p /\ q.Kind ≠ 4) /\ (∀ m, m ∈ nmL p.Attrs ↔ ∃ q ∈ inputsM (n + 1) p, m ∈ nmL q.Attrs) ∧
   2 <= (inputsM (n + 1) p).length /\ ((inputsM (n + 1) p).length = 2 -> inputsM (n + 1) p = p.Kids) := by
 intro n
 induction n with
 | zero =>
   intro l p hd hv hz hk
   obtain ⟨h1, h2⟩ := vk4 hv hk
   exact (hd _ (aH (l := p.Kids) (i := 0) (by omega))).elim
 | succ n ih =>
   intro l p hd hv hz hk
   obtain ⟨h1, h2⟩ := vk4 hv hk
   obtain ⟨l', _, _, _, hkv, _⟩ := dE hv
   have hnm := vn4 hv hk
   have hkids := ya h1
   have hm0 : nth p.Kids 0 ∈ p.Kids := aH (by omega)
   have hm1 : nth p.Kids 1 ∈ p.Kids := aH (by omega)
   have key : ∀ k ∈ p.Kids, (∀ q ∈ (if k.Kind = 4 then inputsM (n + 1) k else [k]), Dep (n + 1) q /\ (∃ l', validM s l' q = true) /\ PSz q /\ gQ (n + 1) q <= gQ (n + 1 + 1) p /\ q.Kind ≠ 4) /\ (∀ m, m ∈ nmL k.Attrs ↔ ∃ q ∈ (if k.Kind = 4 then inputsM (n + 1) k else [k]), m ∈ nmL q.Attrs) ∧
     1 <= (if k.Kind = 4 then inputsM (n + 1) k else [k]).length /\ (k.Kind = 4 -> 2 <= (if k.Kind = 4 then inputsM (n + 1) k else [k]).length) := fun k hk' => by
    have hps := jV (n := n + 1) hk'
    by_cases h4 : k.Kind = 4
    · rw [if_pos h4]
      obtain ⟨i1, i2, i3, _⟩ := ih (hd k hk') (hkv k hk') (fj hz hk').1 h4
      refine ⟨fun q hq => ?_, i2, by omega, fun _ => i3⟩
      obtain ⟨j1, j2, j3, j4, j5⟩ := i1 q hq
      have j6 := fv (Nat.le_succ n) j1
      refine ⟨j6, j2, j3, ?_, j5⟩
      rw [<- sL j1 j6]; omega
    · rw [if_neg h4]
      refine ⟨fun q hq => ?_, fun m => by simp, by simp, fun q => absurd q h4⟩
      rw [List.mem_singleton] at hq
      subst hq
      exact ⟨hd q hk', ⟨l', hkv q hk'⟩, (fj hz hk').1, by omega, h4⟩
   have he : inputsM (n + 1 + 1) p = (if (nth p.Kids 0).Kind = 4 then inputsM (n + 1) (nth p.Kids 0) else [nth p.Kids 0]) ++ (if (nth p.Kids 1).Kind = 4 then inputsM (n + 1) (nth p.Kids 1) else [nth p.Kids 1]) := by
    show p.Kids.flatMap _ = _
    conv => lhs; rw [hkids]
    simp [List.flatMap]
   obtain ⟨a1, a2, a3, a4⟩ := key _ hm0
   obtain ⟨b1, b2, b3, b4⟩ := key _ hm1
   rw [he]
   refine ⟨fun q hq => ?_, fun m => ?_, by rw [List.length_append]; omega, fun hl => ?_⟩
   · rcases List.mem_append.1 hq with hq | hq
     · exact a1 q hq
     · exact b1 q hq
   · rw [hnm, ik, a2, b2]
     constructor
     · rintro (⟨q, hq, h⟩ | ⟨q, hq, h⟩)
       · exact ⟨q, List.mem_append_left _ hq, h⟩
       · exact ⟨q, List.mem_append_right _ hq, h⟩
     · rintro ⟨q, hq, h⟩
       rcases List.mem_append.1 hq with hq | hq
       · exact .inl ⟨q, hq, h⟩
       · exact .inr ⟨q, hq, h⟩
   · rw [List.length_append] at hl
     have n0 : ¬ (nth p.Kids 0).Kind = 4 := fun q => by have := a4 q; omega
     have n1 : ¬ (nth p.Kids 1).Kind = 4 := fun q => by have := b4 q; omega
     rw [if_neg n0, if_neg n1, List.singleton_append]
     exact hkids.symm
theorem oB (push : aG -> List GTest -> Gnode) (p : aG) {qs : List aG} (ts : List GTest) {i : Nat} (h : i < qs.length) : joinFold push p (qs.take (i + 1)) ts = yW push p (joinFold push p (qs.take i) ts) (nth qs i) := eB h
section
variable {x : Gplanner}
theorem vT {push : aG -> List GTest -> Gnode} {p : aG} {P : Nat} {qs : List aG} {ts : List GTest}
  (hq : ∀ q ∈ qs, ∀ ts', TIn q.Attrs.length ts' -> ts'.length + P <= 1000 -> PI x (ts'.length + P) (push q ts') /\ nmL (push q ts').Plan.Attrs = nmL q.Attrs) (ht : TIn p.Attrs.length ts) (hl : ts.length + P <= 1000) : ∀ i, i <= qs.length ->
  (joinFold push p (qs.take i) ts).1.length = i /\ (∀ j, j < i -> nmL (nth (joinFold push p (qs.take i) ts).1 j).Plan.Attrs = nmL (nth qs j).Attrs) /\ (∀ k ∈ (joinFold push p (qs.take i) ts).1, PI x (ts.length - (joinFold push p (qs.take i) ts).2.length + P) k) ∧
   TIn p.Attrs.length (joinFold push p (qs.take i) ts).2 /\ (joinFold push p (qs.take i) ts).2.length <= ts.length := by
 intro i
 induction i with
 | zero => intro _; exact ⟨rfl, fun j hj => absurd hj (Nat.not_lt_zero _), fun k hk => (by cases hk), ht, Nat.le_refl _⟩
 | succ i ih =>
   intro hi
   obtain ⟨i1, i2, i3, i4, i5⟩ := ih (by omega)
   rw [oB push p ts (by omega)]
   generalize joinFold push p (qs.take i) ts = st at i1 i2 i3 i4 i5
   obtain ⟨ls, tt⟩ := st
   simp only at i1 i2 i3 i4 i5
   have hmem : nth qs i ∈ qs := aH (by omega)
   have hdl := d7 (mZ p (nth qs i)) tt
   have hin : TIn (nth qs i).Attrs.length (cu (mZ p (nth qs i)) tt) := kW (fun c _ _ _ => (iY _ _).2) i4
   obtain ⟨j1, j2⟩ := hq _ hmem _ hin (by omega)
   refine ⟨?_, fun j hj => ?_, fun k hk => ?_, rJ i4, ?_⟩
   · show (ls ++ [_]).length = _
     rw [List.length_append, i1]; rfl
   · show nmL (nth (ls ++ [_]) j).Plan.Attrs = _
     by_cases h : j < i
     · rw [cR (by omega)]; exact i2 j h
     · obtain rfl : j = i := by omega
       rw [jG (by omega) (by rw [List.length_singleton]; omega), i1, Nat.sub_self]; exact j2
   · show PI x (ts.length - (cr _ tt).length + P) k
     rcases List.mem_append.1 (show k ∈ ls ++ [_] from hk) with hk | hk
     · exact (i3 k hk).le (by omega)
     · rw [List.mem_singleton] at hk
       subst hk
       exact j1.le (by omega)
   · show (cr _ tt).length <= _
     omega
theorem mo (hst : StOk x) : ∀ (n : Nat) {l : Nat} {p : aG} {ts : List GTest}, Dep n p -> validM x.s l p = true -> PSz p -> TIn p.Attrs.length ts -> ts.length + gQ n p <= 1000 ->
  PI x (ts.length + gQ n p) (pushM x n p ts) /\ nmL (pushM x n p ts).Plan.Attrs = nmL p.Attrs := by
 intro n
 induction n with
 | zero => intro l p ts hd; exact hd.elim
 | succ n ih =>
   intro l p ts hd hv hz ht hl
   obtain ⟨l', _, hkd, hkn, hkv, _⟩ := dE hv
   have hsz := il hz
   have hkid : ∀ i, i < p.Kids.length -> nth p.Kids i ∈ p.Kids := fun i hi => aH hi
   have hps : ∀ q ∈ p.Kids, p.Tests.length + gQ n q <= gQ (n + 1) p := fun q hq => jV hq
   have IH : ∀ i, i < p.Kids.length -> ∀ ts', TIn (nth p.Kids i).Attrs.length ts' -> ts'.length <= ts.length + p.Tests.length -> PI x (ts.length + gQ (n + 1) p) (pushM x n (nth p.Kids i) ts') /\ nmL (pushM x n (nth p.Kids i) ts').Plan.Attrs = nmL (nth p.Kids i).Attrs := fun i hi ts' h1 h2 => by
    have h3 := hps _ (hkid i hi)
    obtain ⟨h4, h5⟩ := ih (hd _ (hkid i hi)) (hkv _ (hkid i hi)) (fj hz (hkid i hi)).1 h1 (by omega)
    exact ⟨h4.le (by omega), h5⟩
   have hdiv : ∀ pl, (cu pl ts).length <= ts.length /\ (cr pl ts).length <= ts.length := fun pl => by have := d7 pl ts; omega
   rcases cZ hkd with k | k | k | k | k | k | k | k
   · -- a table
     simp only [pushM, if_pos k]
     obtain ⟨v1, v2⟩ := vk1 hv k
     have h0 := y9 hst v1 v2 hsz.2.2
     obtain ⟨h1, h2⟩ := jW h0 (ts := ts) (by omega) ht
     exact ⟨h1.le (by omega), by rw [h2]; rfl⟩
   · -- a selection
     have e : pushM x (n + 1) p ts = pushM x n (nth p.Kids 0) (p.Tests ++ ts) := by simp [pushM, k]
     obtain ⟨v1, v2, v3⟩ := vk2 hv k
     rw [e, vn2 hv k]
     refine IH 0 (by omega) _ (fun t ht' => ?_) (by rw [List.length_append]; omega)
     rcases List.mem_append.1 ht' with h | h
     · exact rE (v2 t h) rfl
     · rw [<- v3]; exact ht t h
   · -- a projection
     have e : pushM x (n + 1) p ts = rI x p (pushM x n (nth p.Kids 0) (cu (pc p) ts)) := by simp [pushM, k]
     obtain ⟨v1, v2, v3⟩ := vk3 hv k
     obtain ⟨j1, j2⟩ := IH 0 (by omega) (cu (pc p) ts) (kW (fun c h1 h2 _ => (v2 _ (aH (by omega))).2) ht) (by have := hdiv (pc p); omega)
     rw [e, vn3 hv k]
     generalize pushM x n (nth p.Kids 0) (cu (pc p) ts) = kid at j1 j2
     have hal := cE j2
     have hci : d9 kid.Plan.Attrs.length p.Cols := fun c hc => by rw [hal]; exact v2 c hc
     unfold rI
     split
     · rename_i h3
       obtain ⟨e1, e2⟩ := iI.1 j1.g.e
       have hk0 : 0 < kid.Plan.Kids.length := by have := e1.k2 (by omega); rwa [List.length_map] at this
       have hq : nth kid.Plan.Kids 0 ∈ kid.Plan.Kids := aH hk0
       have hsub := yY j1 hq
       have h4 := e1.k4 (.inl h3)
       have h5 : nth (kid.Plan.Kids.map (cd x)) 0 = cd x (nth kid.Plan.Kids 0) := by rw [nth_get (by rw [List.length_map]; exact hk0), nth_get hk0]; simp
       rw [h5, hsub.dn] at h4
       have hcl : kid.Plan.Cols.length = kid.Plan.Attrs.length := by
        have hd2 := j1.dn
        have hw := j1.g.w
        rw [ij] at hw
        have h7 : kid.size.distinct = (dsM x kid.Plan (kid.Plan.Kids.map (cd x))).map fun d => min d (cL x kid.Plan (kid.Plan.Kids.map (cd x))) := (congrArg (fun a : Gnode => a.size.distinct) hw).symm
        rw [<- hd2, h7, List.length_map, yQ h3, cm, List.length_map]
       refine ⟨mn hsub (fun c hc => ?_) (by rw [List.length_map]; exact hsz.2.1) (by simp [bv]), gP j2 v2⟩
       obtain ⟨d, hd', rfl⟩ := List.mem_map.1 hc
       have h6 := v2 d hd'
       exact h4 _ (aH (by omega))
     · exact ⟨mn j1 hci hsz.2.1 (by simp [bv]), gP j2 v2⟩
   · -- a join
     have e : pushM x (n + 1) p ts = fN x p (joinFold (pushM x n) p (inputsM (n + 1) p) ts) := by simp [pushM, k]
     obtain ⟨i1, i2, i3, i4⟩ := io hd hv hz k
     obtain ⟨_, _, hpn⟩ := i7 hv
     have hf := vT (x := x) (push := pushM x n) (p := p) (P := gQ (n + 1) p) (qs := inputsM (n + 1) p) (ts := ts) (fun q hq ts' h1 h2 => by
      obtain ⟨q1, ⟨l2, q2⟩, q3, q4, q5⟩ := i1 q hq
      obtain ⟨h3, h4⟩ := ih q1 q2 q3 h1 (by omega)
      exact ⟨h3.le (by omega), h4⟩) ht hl _ (Nat.le_refl _)
     rw [List.take_length] at hf
     rw [e]
     generalize joinFold (pushM x n) p (inputsM (n + 1) p) ts = st at hf
     obtain ⟨ls, tt⟩ := st
     obtain ⟨f1, f2, f3, f4, f5⟩ := hf
     simp only at f1 f2 f3 f4 f5
     have hmemq : ∀ a ∈ ls, ∃ q ∈ inputsM (n + 1) p, nmL a.Plan.Attrs = nmL q.Attrs := fun a ha => by
      obtain ⟨i, hi, rfl⟩ := List.getElem_of_mem ha
      refine ⟨nth (inputsM (n + 1) p) i, aH (by omega), ?_⟩
      rw [<- nth_get hi]; exact f2 i (by omega)
     unfold fN
     split
     · rename_i h2
       have h2 : ls.length = 2 := h2
       have hkeq := i4 (by omega)
       have g0 : nmL (nth ls 0).Plan.Attrs = nmL (nth p.Kids 0).Attrs := by rw [f2 0 (by omega), hkeq]
       have g1 : nmL (nth ls 1).Plan.Attrs = nmL (nth p.Kids 1).Attrs := by rw [f2 1 (by omega), hkeq]
       have hjn : nmL (bL (nth ls 0).Plan.Attrs (nth ls 1).Plan.Attrs) = nmL p.Attrs := by rw [vn4 hv k]; exact jU g0 g1
       have hjl := cE hjn
       have hj := kD (f3 _ (aH (l := ls) (i := 0) (by omega))) (f3 _ (aH (l := ls) (i := 1) (by omega))) (by omega)
       obtain ⟨a1, a2⟩ := jW hj (ts := tt) (by omega) (by show TIn (bL _ _).length tt; rw [hjl]; exact f4)
       exact ⟨a1.le (by omega), by rw [a2]; exact hjn⟩
     · rename_i h2
       have h2 : ¬ ls.length = 2 := h2
       have hl0 : 0 < ls.length := by omega
       have hnd : ∀ a ∈ ls, (nmL a.Plan.Attrs).Nodup := fun a ha => by
        obtain ⟨q, hq, e⟩ := hmemq a ha
        obtain ⟨q1, ⟨l2, q2⟩, _⟩ := i1 q hq
        rw [e]; exact (i7 q2).2.2
       have hU : ∀ a ∈ ls, ∀ m ∈ nmL a.Plan.Attrs, m ∈ nmL p.Attrs := fun a ha m hm => by
        obtain ⟨q, hq, e⟩ := hmemq a ha
        rw [e] at hm
        exact (i2 m).2 ⟨q, hq, hm⟩
       generalize hfr : (fun k : Gnode => k.size.rows) = fr
       have c1 := im (f := fr) hl0
       have c2 := eE (f := fr) hl0
       have c3 := iJ (f := fr) hl0
       have c4 : ∀ a ∈ (bC fr ls).2, a ∈ ls := fun a ha => c3.mem_iff.1 (List.mem_cons_of_mem _ ha)
       obtain ⟨d1, d2, d3⟩ := sK (x := x) (U := nmL p.Attrs) (by rw [dz]; exact hsz.2.2) ls.length (bC fr ls).1 (bC fr ls).2 (by omega) (f3 _ c1) (fun a ha => f3 a (c4 a ha)) (hnd _ c1) (fun a ha => hnd a (c4 a ha)) (hU _ c1) (fun a ha => hU a (c4 a ha))
       have d4 : ∀ m, m ∈ nmL (d5 x ls.length (bC fr ls).1 (bC fr ls).2).Plan.Attrs ↔ m ∈ nmL p.Attrs := fun m => by
        rw [d3, i2]
        constructor
        · rintro (h | ⟨a, ha, h⟩)
          · obtain ⟨q, hq, e⟩ := hmemq _ c1
            exact ⟨q, hq, by rw [<- e]; exact h⟩
          · obtain ⟨q, hq, e⟩ := hmemq _ (c4 a ha)
            exact ⟨q, hq, by rw [<- e]; exact h⟩
        · rintro ⟨q, hq, h⟩
          obtain ⟨i, hi, rfl⟩ := List.getElem_of_mem hq
          rw [<- nth_get hi, <- f2 i (by omega)] at h
          rcases List.mem_cons.1 (c3.mem_iff.2 (aH (l := ls) (i := i) (by omega))) with e | hm
          · exact .inl (by rw [<- e]; exact h)
          · exact .inr ⟨_, hm, h⟩
       obtain ⟨o1, o2, _⟩ := oA d1 d2 hpn d4 hsz.2.2
       obtain ⟨a1, a2⟩ := jW o1 (ts := tt) (by omega) (by rw [cE o2]; exact f4)
       exact ⟨a1.le (by omega), by rw [a2]; exact o2⟩
   · -- a union
     have e : pushM x (n + 1) p ts = makeM x (GPl.mk p.Kind 0 [] [] [] 0 0 (pushM x n (nth p.Kids 0) ts).Plan.Attrs) [pushM x n (nth p.Kids 0) ts, pushM x n (nth p.Kids 1) ts] := by simp [pushM, k]
     obtain ⟨v1, v2, v3⟩ := wk5 hv (.inl k)
     obtain ⟨j1, j2⟩ := IH 0 (by omega) ts (by rw [<- v2]; exact ht) (by omega)
     obtain ⟨j3, j4⟩ := IH 1 (by omega) ts (by rw [<- v3, <- v2]; exact ht) (by omega)
     rw [e, vn5 hv (.inl k)]
     exact ⟨vQ j1 j3 (by rw [cE j2, cE j4, v3]) (.inl k), j2⟩
   · -- a difference
     have e : pushM x (n + 1) p ts = makeM x (GPl.mk p.Kind 0 [] [] [] 0 0 (pushM x n (nth p.Kids 0) ts).Plan.Attrs) [pushM x n (nth p.Kids 0) ts, pushM x n (nth p.Kids 1) ts] := by simp [pushM, k]
     obtain ⟨v1, v2, v3⟩ := wk5 hv (.inr k)
     obtain ⟨j1, j2⟩ := IH 0 (by omega) ts (by rw [<- v2]; exact ht) (by omega)
     obtain ⟨j3, j4⟩ := IH 1 (by omega) ts (by rw [<- v3, <- v2]; exact ht) (by omega)
     rw [e, vn5 hv (.inr k)]
     exact ⟨vQ j1 j3 (by rw [cE j2, cE j4, v3]) (.inr k), j2⟩
   · -- a renaming
     have e : pushM x (n + 1) p ts = BQ x p (pushM x n (nth p.Kids 0) ts) := by simp [pushM, k]
     obtain ⟨v1, v2⟩ := vk7 hv k
     obtain ⟨⟨w1, w2⟩, w3⟩ := vn7 hv k
     obtain ⟨j1, j2⟩ := IH 0 (by omega) ts (by rw [<- v2]; exact ht) (by omega)
     rw [e]
     refine ⟨y8 j1 (by rw [List.length_set]), ?_⟩
     rw [w3, <- j2]
     show nmL (List.set _ _ _) = _
     unfold nmL
     rw [List.map_set]
   · -- a group
     have e : pushM x (n + 1) p ts = fX x (AH x p (pushM x n (nth p.Kids 0) (cu (gH p) ts))) (cr (gH p) ts) := by simp [pushM, k]
     obtain ⟨v1, v2, v3⟩ := wk8 hv k
     obtain ⟨j1, j2⟩ := IH 0 (by omega) (cu (gH p) ts) (kW (fun c h1 h2 h3 => by
      unfold gH at h3 ⊢
      split
      · exact (v2 _ (aH (by omega))).2
      · rename_i h4; rw [if_neg h4] at h3; omega) ht) (by have := hdiv (gH p); omega)
     rw [e]
     have hl2 := hdiv (gH p)
     have hdl := d7 (gH p) ts
     obtain ⟨g1, g2⟩ := ih (hd _ (hkid 0 (by omega))) (hkv _ (hkid 0 (by omega))) (fj hz (hkid 0 (by omega))).1 (ts := cu (gH p) ts) (kW (fun c h1 h2 h3 => by
      unfold gH at h3 ⊢
      split
      · exact (v2 _ (aH (by omega))).2
      · rename_i h4; rw [if_neg h4] at h3; omega) ht) (by have := hps _ (hkid 0 (by omega)); omega)
     have hg := yZ g1 (cols := p.Cols) (c := p.Col) (g := p.Agg) (ats := bv (pushM x n (nth p.Kids 0) (cu (gH p) ts)).Plan.Attrs p.Cols ++ [nth p.Attrs p.Cols.length]) (fun c hc => by rw [cE g2]; exact v2 c hc) (by rw [List.length_append]; simp [bv]; omega) (by rw [List.length_append]; simp [bv])
     have hga : nmL (AH x p (pushM x n (nth p.Kids 0) (cu (gH p) ts))).Plan.Attrs = nmL p.Attrs := by
      rw [vn8 hv k]
      show nmL (bv _ _ ++ [_]) = _
      have : ∀ a b : List GAttr, nmL (a ++ b) = nmL a ++ nmL b := fun a b => by simp [nmL]
      rw [this, gP g2 v2]; rfl
     obtain ⟨a1, a2⟩ := jW (n := AH x p (pushM x n (nth p.Kids 0) (cu (gH p) ts))) hg (ts := cr (gH p) ts) (by omega) (by rw [cE hga]; exact rJ ht)
     have := hps _ (hkid 0 (by omega))
     exact ⟨a1.le (by omega), by rw [a2]; exact hga⟩
end
theorem z8 : TyOf prog 298 rV := ⟨fun w => isAgg298 w, fun w => sizeOf298 w⟩
theorem B9 : ElT prog 298 rV 8 (.pointer none) := ⟨z8, by decide, t298, (Value.pointer none), by kernel_rfl, by kernel_rfl, by kernel_rfl, by kernel_rfl, fun _ => ⟨rfl, rfl⟩⟩
theorem vU {h : PH} {A B : Ty} {vs : List Value} (ha : Args h [A, B] vs) : ∃ v1 v2, vs = [v1, v2] /\ A.p h v1 /\ B.p h v2 := by
  rcases vs with _ | ⟨v1, _ | ⟨v2, _ | ⟨v3, vs⟩⟩⟩
  · exact ha.elim
  · exact ha.2.elim
  · exact ⟨v1, v2, rfl, ha.1, ha.2.1⟩
  · exact ha.2.2.elim
theorem yb {h : PH} {A B D : Ty} {vs : List Value} (ha : Args h [A, B, D] vs) : ∃ v1 v2 v3, vs = [v1, v2, v3] /\ A.p h v1 /\ B.p h v2 /\ D.p h v3 := by
  rcases vs with _ | ⟨v1, vs⟩
  · exact ha.elim
  · obtain ⟨v2, v3, rfl, h2, h3⟩ := vU (A := B) (B := D) ha.2
    exact ⟨v1, v2, v3, rfl, ha.1, h2, h3⟩
theorem Fun1.ex {ι : Type} {P : Program} {f : Nat} {As : List Ty} {R : Ty} (A' : ι -> List Ty) (R' : ι -> Ty) (hE : ∀ (vs : List Value) (h : PH), Args h As vs -> ∃ i, Args h (A' i) vs /\ Fun1 P f (A' i) (R' i) /\ Sub (R' i) R) : Fun1 P f As R := fun vs h m r w ha sp st => by
  obtain ⟨i, ha', hs, hR⟩ := hE vs h ha
  refine (hs vs h m r w ha' sp st).mono ?_
  rintro e w' ⟨x', v, h', m', he, l, s, st', hv⟩
  exact ⟨x', v, h', m', he, l, s, st', hR _ _ hv⟩
theorem dY (x : Gplanner) (p : aG) (ks : List Gnode) (hm : MkOk x p ks) : Fun1 prog 146 [bu.ty x, bO.ty p, tSl bm ks] (bm.ty (makeM x p ks)) :=
  Fun1.ex (ι := Nat × Nat) (fun i => [bu.ty x, (aR (i.1 + 1)).ty p, tSl (bT i.2) ks]) (fun i => (bT (i.2 + 1)).ty (makeM x p ks)) fun vs h ha => by
    obtain ⟨v1, v2, v3, rfl, a1, a2, a3⟩ := yb ha
    obtain ⟨n0, a2⟩ := jQ a2
    have hpos : ∃ m0, n0 = m0 + 1 := by
      obtain ⟨cs, r, _⟩ := (aR n0).iff.1 a2
      exact rPl_pos cPl aS be r
    obtain ⟨m0, rfl⟩ := hpos
    obtain ⟨n, a3⟩ := zY a3
    exact ⟨(m0, n), ⟨a1, a2, a3, trivial⟩, p6 x m0 n p ks hm, Ep⟩
theorem mp (x : Gplanner) (p : aG) (he : x6 x p) : Fun1 prog 93 [bu.ty x, bO.ty p] (bm.ty (cd x p)) :=
  Fun1.ex (ι := Nat) (fun n => [bu.ty x, (aR n).ty p]) (fun n => (bT n).ty (cD x n p)) fun vs h ha => by
    obtain ⟨v1, v2, rfl, a1, a2⟩ := vU ha
    obtain ⟨n, a2⟩ := jQ a2
    have hd : Dep n p := pN a2
    refine ⟨n, ⟨a1, a2, trivial⟩, kz x n p (mi x (dG p) hd he), ?_⟩
    rw [<- jT hd]; exact Ep
def cn (t : GTest) : List Value := [.int .i64 t.Left.Var, .int .i64 t.Left.Col, .int .i64 t.Left.Value.Kind, .int .i64 t.Left.Value.N, .string t.Left.Value.Text, .int .i64 t.Op, .int .i64 t.Right.Var, .int .i64 t.Right.Col, .int .i64 t.Right.Value.Kind, .int .i64 t.Right.Value.N, .string t.Right.Value.Text, .int .i64 t.Add]
theorem nK {h : PH} {t : GTest} {cs : List Value} (r : be.rel h t cs) : cs = cn t := by
  obtain ⟨c0, _, rfl, r0, c1, _, rfl, r1, c2, _, rfl, r2, c3, _, rfl, r3, rz⟩ := r
  have r1 : c1 = [.int .i64 t.Op] := r1
  have r3 : c3 = [.int .i64 t.Add] := r3
  rw [show c0 = _ from iH r0, show c2 = _ from iH r2]
  subst r1 r3; rw [show _ = [] from rz]; rfl
theorem Aa (h : PH) (x : GValue) : rValue.rel h x [.int .i64 x.Kind, .int .i64 x.N, .string x.Text] := ⟨[_], _, rfl, rfl, [_], _, rfl, rfl, [_], _, rfl, rfl, rfl⟩
theorem sM (h : PH) (x : GSide) : kq.rel h x [.int .i64 x.Var, .int .i64 x.Col, .int .i64 x.Value.Kind, .int .i64 x.Value.N, .string x.Value.Text] := ⟨[_], _, rfl, rfl, [_], _, rfl, rfl, [_, _, _], _, rfl, Aa h x.Value, rfl⟩
theorem yc (h : PH) (t : GTest) : be.rel h t (cn t) := ⟨[_, _, _, _, _], _, rfl, sM h t.Left, [_], _, rfl, rfl, [_, _, _, _, _], _, rfl, sM h t.Right, [_], _, rfl, rfl, rfl⟩
section
variable {C : Cx} {E : Env} {L : List SP} {d : Option Nat} {ty : Nat} {pos : String} {af : Array Edge} {g : Option (Nat × Bool)}
theorem di {T U b o : Nat} {x : Operand} {t : GTest} {n : Int} {S : List SP} (hR : TyOf C.P T bg) (hx : Sub (opTy E x) (tAt b o)) (sel : Sel L [box b U be t] S) (hv : (cn t)[o]? = some (.int .i64 n)) :
    bs C ⟨d, .load T x, ty, pos, af, g⟩ E L (tV (.int .i64 n)) :=
  DC (by intro c h; cases h) fun a w h m l sp st fr => by
    obtain ⟨m1, m2, d12, rfl, ⟨cs, r, rfl⟩, s2⟩ := sel.one.1 st
    have hb := sp.heap_own
    rw [nK r] at hb
    have := ce (P := C.P) (T := T) (b := b) (o := o) (w := w) (cs := [.int .i64 n]) (k := 1) (g := false) hR.agg hR.size rfl (fun _ => rfl) (fun i v hv' => by
      rw [ep (h := h) hb]
      cases i with
      | zero => simp at hv'; subst hv'; simpa using hv
      | succ i => simp at hv')
    refine ⟨(), .int .i64 n, w, h, _, ?_, HL.refl, sp, st, rfl⟩
    have hp : a.eval x = .pointer (some ⟨b, o, none⟩) := fr.get hx
    simp [execOp, Instr.loadAt, Instr.sureAddr, hp, this, packV]
theorem fx {T U b o : Nat} {x u : Operand} {t t' : GTest} {z : Int} {S : List SP} (hR : TyOf C.P T bg) (hx : Sub (opTy E x) (tAt b o)) (hv : Sub (opTy E u) (tV (.int .i64 z))) (sel : Sel L [box b U be t] S) (ho : o < 12) (ht : cn t' = (cn t).set o (.int .i64 z)) :
    Step C ⟨d, .store T x u, ty, pos, af, g⟩ E L (fun _ : Unit => tAny) (fun _ => box b U be t' :: S) :=
  D3 (by intro c h; cases h) fun a w h m l sp st fr => by
    obtain ⟨m1, m2, d12, rfl, ⟨cs, r, rfl⟩, s2⟩ := sel.one.1 st
    have hb := sp.heap_own
    have hc := nK r
    subst hc
    have hz : a.eval u = .int .i64 z := fr.get hv
    have hp : a.eval x = .pointer (some ⟨b, o, none⟩) := fr.get hx
    have hlen : (cn t).length = 12 := rfl
    have h1 : ∀ v ∈ (a.eval u).cells.toList, v.oneCell' = true := by
      rw [hz]; intro v hv'
      have : v = .int .i64 z := by simpa [Value.cells] using hv'
      subst this; rfl
    obtain ⟨w', hrun, hoth, hsame, hnew⟩ := db (P := C.P) (b := b) (o := o) (v := a.eval u) (k := 1) hR.size (by rw [hz]; rfl) hb (by simp [hlen]; omega) (h1)
    refine ⟨(), w', h, (PH.one b (.cells (cn t').toArray U (0, 0))).join m2, ?_, HL.same hsame, DX d12 sp (fun b' hne _ => hoth b' hne) ?_, ?_⟩
    · simp [execOp, Instr.storeAt, Instr.sureAddr, hp, hrun]
    · rw [hnew, ht, hz]
      congr 3
      have : (Value.int IntKind.i64 z).cells.toList = [Value.int IntKind.i64 z] := rfl
      rw [this]
      show (cn t).take o ++ [_] ++ (cn t).drop (o + 1) = _
      rw [List.set_eq_take_append_cons_drop, if_pos (by rw [hlen]; exact ho), List.append_assoc]; rfl
    · exact ⟨_, m2, PH.one_disj_iff.2 (PH.one_disj_iff.1 d12), rfl, ⟨_, yc h t', rfl⟩, s2⟩
end
def fo (t : GTest) (i : Nat) : GSide := if i = 0 then t.Left else t.Right
def mS (i : Nat) : Nat := if i = 0 then 0 else 6
def mvI (pl : Int -> Int) (t : GTest) (i : Nat) : GTest := if i = 0 then t else if i = 1 then { t with Left := fw pl t.Left } else fi pl t
def okI (pl : Int -> Int) (t : GTest) (i : Nat) : Bool := if i = 0 then true else if i = 1 then okS pl t.Left else okT pl t
theorem Ca {pl : Int -> Int} {t : GTest} {i : Nat} (hi : i < 2) : fo (mvI pl t i) i = fo t i := by
  rcases (by omega : i = 0 \/ i = 1) with rfl | rfl <;> rfl
theorem Bf {pl : Int -> Int} {t : GTest} {i : Nat} (hi : i < 2) : (cn (mvI pl t i))[mS i]? = some (.int .i64 (fo t i).Var) := by
  rcases (by omega : i = 0 \/ i = 1) with rfl | rfl <;> rfl
theorem Bg {pl : Int -> Int} {t : GTest} {i : Nat} (hi : i < 2) : (cn (mvI pl t i))[mS i + 1]? = some (.int .i64 (fo t i).Col) := by
  rcases (by omega : i = 0 \/ i = 1) with rfl | rfl <;> rfl
theorem Ab {pl : Int -> Int} {t : GTest} {i : Nat} (hi : i < 2) (hv : (fo t i).Var = 0) : cn (mvI pl t (i + 1)) = (cn (mvI pl t i)).set (mS i + 1) (.int .i64 (pl (fo t i).Col)) /\ (cn (mvI pl t (i + 1)))[mS i + 1]? = some (.int .i64 (pl (fo t i).Col)) /\ okI pl t (i + 1) = (okI pl t i && decide (0 <= pl (fo t i).Col)) := by
  rcases (by omega : i = 0 \/ i = 1) with rfl | rfl
  · have hv : t.Left.Var = 0 := hv
    simp [mvI, okI, cn, fw, okS, hv, fo, mS]
  · have hv : t.Right.Var = 0 := hv
    refine ⟨?_, ?_, ?_⟩
    · simp [mvI, cn, fi, fw, hv, fo, mS]
    · simp [mvI, cn, fi, fw, hv, fo, mS]
    · simp [okI, okT, okS, hv, fo]
theorem Ac {pl : Int -> Int} {t : GTest} {i : Nat} (hi : i < 2) (hv : ¬ (fo t i).Var = 0) : mvI pl t (i + 1) = mvI pl t i /\ okI pl t (i + 1) = okI pl t i := by
  rcases (by omega : i = 0 \/ i = 1) with rfl | rfl
  · have hv : ¬ t.Left.Var = 0 := hv
    exact ⟨by simp [mvI, fw, hv], by simp [okI, okS, hv]⟩
  · have hv : ¬ t.Right.Var = 0 := hv
    exact ⟨by simp [mvI, fi, fw, hv], by simp [okI, okT, okS, hv]⟩
theorem yd {k : Nat} {t : GTest} (ht : mb k t) {i : Nat} (hi : i < 2) (hv : (fo t i).Var = 0) : 0 <= (fo t i).Col /\ (fo t i).Col < k := by
  rcases (by omega : i = 0 \/ i = 1) with rfl | rfl
  · exact ht t.Left (by simp) hv
  · exact ht t.Right (by simp) hv
def ye (b : Nat) : List Value := [.pointer (some ⟨b, 0, none⟩), .pointer (some ⟨b, 6, none⟩)]
theorem Ad {b i : Nat} (hi : i < 2) : nth (ye b) i = .pointer (some ⟨b, mS i, none⟩) := by
  rcases (by omega : i = 0 \/ i = 1) with rfl | rfl <;> rfl
theorem Cb {v : Value} : Sub (rV.ty v) (tV v) := fun _ _ e => e.1
theorem Bh {v : Value} (h1 : v.oneCell' = true) : Sub (tV v) (rV.ty v) := fun _ _ e => ⟨e, by have e := (show _ = v from e); subst e; exact h1⟩
theorem sN {b i : Nat} (hi : i < 2) : Sub (rV.ty (nth (ye b) i)) (tAt b (mS i)) := Sub.trans Cb (DE (by rw [Ad hi]))
theorem vW {pl : Int -> Int} {l : List GTest} {i : Nat} (h : i < l.length) (hk : okT pl (nth l i) = true) : cu pl (l.take (i + 1)) = cu pl (l.take i) ++ [fi pl (nth l i)] /\ cr pl (l.take (i + 1)) = cr pl (l.take i) := by
  unfold cu cr; rw [dM h, List.filter_append, List.filter_append]; simp [hk]
theorem vX {pl : Int -> Int} {l : List GTest} {i : Nat} (h : i < l.length) (hk : okT pl (nth l i) = false) : cu pl (l.take (i + 1)) = cu pl (l.take i) /\ cr pl (l.take (i + 1)) = cr pl (l.take i) ++ [nth l i] := by
  unfold cu cr; rw [dM h, List.filter_append, List.filter_append]; simp [hk]
def CH (gf : Nat) (As : List Ty) (m : Nat) (pl : Int -> Int) : Prop := ∀ c : Int, 0 <= c -> c < (m : Int) -> Fun1 prog gf ([tV (.int .i64 c)] ++ As) (tV (.int .i64 (pl c)))
theorem iK {a b : List GAttr} {i : Nat} (h : i < b.length) : bL a (b.take (i + 1)) = if columnL a (nth b i).Name < 0 then bL a (b.take i) ++ [nth b i] else bL a (b.take i) := by rw [dM h, lT]
theorem qc (a : List GAttr) : bL a [] = a := by simp [bL]
theorem vY (t : GTest) (gf : Nat) (As : List Ty) (m : Nat) (pl : Int -> Int) (hp : CH gf As m pl) (he : ∀ args w, (callFunc gf args).run prog w = .ok (.enter gf args) w) (ht : mb m t) : Fun1 prog 228 [be.ty t, g4 gf As] (fA [be.ty (fi pl t), tV (.bool (okT pl t))]) := by
 refine Spec.enter func228 rfl rfl fun h0 w0 fr0 => ?_
 refine Jr ?_
 refine Zx (cw (R := be) Sr) fun b2 => ?_
 refine Zx (aD (fun w => zeroValue93 w) zx) fun b4 => ?_
 refine Za (ae (Jr (Za (ae (ar ?_)))))
 refine Jr (Zs (ap (o := 0) (o' := 0) gd Sr rfl rfl) (Zs (ap (o := 0) (o' := 6) gd Sr rfl rfl) ?_))
 refine Zs (ax (R := rV) (ys := ye b2) underlying299 B9 ⟨rfl, (Bh rfl), rfl, (Bh rfl), trivial⟩ rfl (by decide)) ?_
 refine Zs (ah underlying299 Sr) (Zm (ae (av ?_)))
 refine aO (σ := Nat) (fun i => i <= 2) (fun i => upd (upd (upd (upd (upd (upd (upd (upd cg 1 (g4 gf As)) 2 (tAt b2 0)) 4 (tAt b4 0)) 5 (tV (.bool false))) 6 (tV (.bool (okI pl t i)))) 11 (tSl rV (ye b2))) 12 (tV (.int .i64 2))) 13 (tV (.int .i64 i))) (fun i => [box b4 93 be xu, box b2 93 be (mvI pl t i)]) (fun i => 2 - i) 0 zG (zU) (LSub.rfl) ?_
 rintro i hi
 refine Jr (Zs (aA Sr Sr) (ae (ar ?_)))
 refine au Sr (fun h14 => ?_) (fun h14 => ?_)
 ·
  try simp only [NF] at h14
  have hlt : i < 2 := by omega
  refine ay (ar (av (Jr (Zs (ad (i := i) underlying299 z8 Sr Sr rfl (gb hlt)) (Zl z8 Sr ?_)))))
  refine Za (ae (Jr (Zm ?_)))
  refine Zs (ft (b := b2) (o := mS i) (by exact sN hlt)) ?_
  refine Zs (ap (o := mS i) (o' := mS i) fQ Sr rfl rfl) ?_
  refine Zs (di ty3 Sr zS (Bf hlt)) ?_
  refine Zs (aC Sr Sr) (ae ?_)
  refine au Sr (fun h21 => ?_) (fun h21 => ?_)
  ·
   try simp only [NF] at h21
   have hin := yd ht hlt h21
   have hmv := Ab (pl := pl) hlt h21
   refine Jr (Zm (Zm (Zm ?_)))
   refine Zs (ft (b := b2) (o := mS i) (by exact sN hlt)) ?_
   refine Zs (ap (o := mS i) (o' := mS i + 1) fQ Sr rfl rfl) ?_
   refine Zs (di ty3 Sr zS (Bg hlt)) ?_
   refine Zs (bH (aT := [_]) Sr (hp _ hin.1 hin.2) ⟨Sr, trivial⟩ he) ?_
   refine Zs (ft (b := b2) (o := mS i) (by exact sN hlt)) ?_
   refine Zs (ap (o := mS i) (o' := mS i + 1) fQ Sr rfl rfl) ?_
   refine Ju (fx (t' := mvI pl t (i + 1)) ty3 Sr Sr zS (by unfold mS; split <;> omega) hmv.1) fun _ => ?_
   refine ae (aq (Zm (Zm ?_)))
   refine Zk (al Sr) ?_
   refine Zg (fun hw => ft (b := b2) (o := mS i) (by exact Sub.trans (Sub.w hw) (sN hlt))) ?_
   refine Zg (fun hw => ap (o := mS i) (o' := mS i + 1) fQ (Sub.w hw) rfl rfl) ?_
   refine Zg (fun hw => di ty3 (Sub.w hw) zS hmv.2.1) ?_
   refine Zg (fun hw => bE (Sub.w hw) Sr) (Zs (aw Sr Sr) (Za (ae (aq (Zs (aB Sr Sr z6) ?_)))))
   refine Zm (ae ?_)
   refine aE (σ := Nat) (s := i) (i + 1) zO zG (.u (.u (.u (SubE.upd (Sub.bool hmv.2.2.symm) (zU))))) (zL)
  try simp only [NF] at h21
  have hst := Ac (pl := pl) hlt h21
  refine ay (aq (Zs (aB Sr Sr z6) (Zm (ae ?_))))
  refine aE (σ := Nat) (s := i) (i + 1) zO zG (.u (.u (.u (SubE.upd (Sub.bool hst.2.symm) (zU))))) (.r zS (.c zS (SPs.of (A := box b2 93 be (mvI pl t i)) (by rw [hst.1])) (LSub.nil)))
 try simp only [NF] at h14
 obtain rfl : i = 2 := by omega
 refine aY (Jr ?_)
 refine Zs (aN fd Sr zS) ?_
 refine Zm ?_
 refine Ju (aj fd Sr Sr zS) fun _ => ?_
 refine Za (ae (aF ?_))
 refine bJ (rv := .cell 4 93) (rv' := .tmp 5) rfl () (Sel.all _) (.cell (R := be) fd Sr zS Sr) (.tmp Sr) (Frz.sub Sr) (Frz.sub Sr) Sr
theorem ji (l : List GTest) (gf : Nat) (As : List Ty) (m : Nat) (pl : Int -> Int) (hp : CH gf As m pl) (he : ∀ args w, (callFunc gf args).run prog w = .ok (.enter gf args) w) (ht : TIn m l) (hl : l.length <= 1000000) : Fun1 prog 154 [tSl be l, g4 gf As] (fA [tSl be (cu pl l), tSl be (cr pl l)]) := by
 refine Spec.enter func154 rfl rfl fun h0 w0 fr0 => ?_
 refine Jr (Za (Za (ae (ar (Jr ?_)))))
 refine Zm (Zs (ah underlying43 Sr) (Zm (ae (av ?_))))
 refine aO (σ := Nat × Value × Value) (fun ⟨i, va, vb⟩ => i <= l.length) (fun ⟨i, va, vb⟩ => upd (upd (upd (upd (upd (upd cg 1 (g4 gf As)) 4 (rV.ty va)) 5 (rV.ty vb)) 10 (tSl be l)) 11 (tV (.int .i64 l.length))) 12 (tV (.int .i64 i))) (fun ⟨i, va, vb⟩ => [own 93 be va (cu pl (l.take i)), own 93 be vb (cr pl (l.take i))]) (fun ⟨i, va, vb⟩ => l.length - i) (0, .slice none 0 0, .slice none 0 0) (by exact Nat.zero_le _) (.u (.u (.u (SubE.upd (DG rfl) (SubE.upd (DG rfl) (zU)))))) (LSub.trans (DB (e := 93) (R := be)) (DB (e := 93) (R := be))) ?_
 rintro ⟨i, va, vb⟩ hi
 try dsimp only at hi
 refine Jr (Zs (aA Sr Sr) (ae (ar ?_)))
 refine au Sr (fun h13 => ?_) (fun h13 => ?_)
 ·
  try simp only [NF] at h13
  have hlt : i < l.length := by omega
  refine ay (ar (av (Jr ?_)))
  refine Zs (ad (i := i) underlying43 fd Sr Sr (by rfl) (gb (by exact hlt))) ?_
  refine Zl fd Sr ?_
  refine Zx (aD (fun w => zeroValue93 w) zx) fun b7 => ?_
  refine Ju (aj fd Sr Sr zS) fun _ => ?_
  refine bc (t := 7) (Sel.take (Dz _)) Frz.box ?_
  refine ae (Jr (Zl fd Sr (Zm (Zs (ai (vY (nth l i) gf As m pl hp he (ht _ (aH hlt))) ⟨Sr, Sr, trivial⟩ call228) (Zm ?_)))))
  refine Zs (aM Sr rfl) (Zs (aM Sr rfl) ?_)
  refine Zx (aD (fun w => zeroValue93 w) zx) fun b8 => ?_
  refine Ju (aj fd Sr Sr zS) fun _ => ?_
  refine bc (t := 8) (Sel.take (Dz _)) Frz.box ?_
  refine Za (ae (Jr (Zm (ae ?_))))
  refine au Sr (fun h22 => ?_) (fun h22 => ?_)
  ·
   try simp only [NF] at h22
   have hdi := vW hlt (by simpa using h22)
   refine aq (Zm (Zl fd Sr ?_))
   refine Zs (ax (ys := [_]) underlying43 pr ⟨rfl, Sr, trivial⟩ rfl (by decide)) ?_
   refine Zx (aL underlying43 pr Sr Sr zS (by have := d7 pl (l.take i); simp only [List.length_append, List.length_cons, List.length_nil, List.length_take] at this ⊢; omega) (by have := d7 pl (l.take i); simp only [List.length_append, List.length_cons, List.length_nil, List.length_take] at this ⊢; omega)) fun v26 => ?_
   refine Za (ae (aq (Zs (aB Sr Sr z6) (Zm (ae ?_)))))
   refine aE (σ := Nat × Value × Value) (s := (i, va, vb)) (i + 1, v26, vb) zO (by show i + 1 <= _; omega) (zU) (.c zS (SPs.of (A := own 93 be v26 (cu pl (l.take i) ++ [fi pl (nth l i)])) (by rw [hdi.1])) (.c zS (SPs.of (A := own 93 be vb (cr pl (l.take i))) (by rw [hdi.2])) (LSub.nil)))
  try simp only [NF] at h22
  have hdi := vX hlt (by simpa using h22)
  refine aq (Zm (Zl fd Sr ?_))
  refine Zs (ax (ys := [_]) underlying43 pr ⟨rfl, Sr, trivial⟩ rfl (by decide)) ?_
  refine Zx (aL underlying43 pr Sr Sr zS (by have := d7 pl (l.take i); simp only [List.length_append, List.length_cons, List.length_nil, List.length_take] at this ⊢; omega) (by have := d7 pl (l.take i); simp only [List.length_append, List.length_cons, List.length_nil, List.length_take] at this ⊢; omega)) fun v30 => ?_
  refine Za (ae (aq (Zs (aB Sr Sr z6) (Zm (ae ?_)))))
  refine aE (σ := Nat × Value × Value) (s := (i, va, vb)) (i + 1, va, v30) zO (by show i + 1 <= _; omega) (zU) (.c zS (SPs.of (A := own 93 be va (cu pl (l.take i))) (by rw [hdi.1])) (.c zS (SPs.of (A := own 93 be v30 (cr pl (l.take i) ++ [nth l i])) (by rw [hdi.2])) (LSub.nil)))
 try simp only [NF] at h13
 obtain rfl : i = l.length := by omega
 refine aY (Jr (Zm (Zm (Za (Za ?_)))))
 refine ae (aF ?_)
 refine bJ (rv := .tmp 4) (rv' := .tmp 5) rfl () (Sel.all _) (.tmp Sr) (.tmp Sr) (B := tSl be (cu pl l)) (B' := tSl be (cr pl l)) (DO (by rw [List.take_length])) (Frz.skip (DO (by rw [List.take_length]))) Sr
theorem nL (l : List GAttr) (cols : List Int) (hc : d9 l.length cols) (hl : cols.length <= 1000000) : Spec (X := Value) prog 156 [tSl aS l, tSl bg cols] ([]) (fun z => rV.ty z) (fun z => [own 89 aS z (bv l cols)]) := by
 refine Spec.enter func156 rfl rfl fun h0 w0 fr0 => ?_
 refine Jr (Za (ae (Jr (Za (ae ?_)))))
 refine ar (Jr (Zm (Zs (ah underlying36 Sr) (Zm (ae ?_)))))
 refine av ?_
 refine aO (σ := Nat × Value) (fun ⟨i, vo⟩ => i <= cols.length) (fun ⟨i, vo⟩ => upd (upd (upd (upd (upd (upd cg 0 (tSl aS l)) 4 (tV (.slice none 0 0))) 5 (rV.ty vo)) 8 (tSl bg cols)) 9 (tV (.int .i64 cols.length))) 10 (tV (.int .i64 i))) (fun ⟨i, vo⟩ => [own 89 aS vo (bv l (cols.take i))]) (fun ⟨i, vo⟩ => cols.length - i) (0, .slice none 0 0) (by exact Nat.zero_le _) (.u (.u (.u (SubE.upd (DG rfl) (zU))))) (DB) ?_
 rintro ⟨i, vo⟩ hi
 try dsimp only at hi
 refine Jr (Zs (aA Sr Sr) (ae (ar ?_)))
 refine au Sr (fun h11 => ?_) (fun h11 => ?_)
 ·
  try simp only [NF] at h11
  have hlt : i < cols.length := by omega
  have hci := hc _ (aH hlt)
  refine ay (ar (av (Jr ?_)))
  refine Zs (ad (i := i) underlying36 ty3 Sr Sr (by rfl) (gb (by exact hlt))) ?_
  refine Zl ty3 Sr (Za (ae (aq (Zm (Zm ?_)))))
  refine Zm ?_
  refine Zs (ad (i := (nth cols i).toNat) underlying44 ct Sr Sr (by show nth cols i = _; omega) (gb (by show _ < l.length; omega))) ?_
  refine Zl ct Sr ?_
  refine Zs (ax (ys := [_]) underlying44 gv ⟨rfl, Sr, trivial⟩ rfl (by decide)) ?_
  refine Zx (aL underlying44 gv Sr Sr zS (by simp only [bv, List.length_append, List.length_cons, List.length_nil, List.length_map, List.length_take]; omega) (by simp only [bv, List.length_append, List.length_cons, List.length_nil, List.length_map, List.length_take]; omega)) fun v20 => ?_
  refine Za (ae (aq (Zs (aB Sr Sr z6) (Zm (ae ?_)))))
  refine aE (σ := Nat × Value) (s := (i, vo)) (i + 1, v20) zO (by show i + 1 <= _; omega) (zU) (.c zS (SPs.of (A := own 89 aS v20 ((bv l (cols.take i)) ++ [nth l (nth cols i).toNat])) (by unfold bv; rw [dM hlt, List.map_append]; rfl)) (LSub.nil))
 try simp only [NF] at h11
 obtain rfl : i = cols.length := by omega
 refine aY (Jr (Zm (Za (ae (aF ?_)))))
 refine bZ (L' := [own 89 aS vo (bv l cols)]) (.c zS (SPs.of (A := own 89 aS vo (bv l (cols.take cols.length))) (by rw [List.take_length])) (LSub.nil)) ?_
 refine cW (rv := .tmp 4) rfl vo (.tmp Sr) Sr
theorem gC (x : Gplanner) (n : Gnode) (ts : List GTest) (hm : ¬ ts.length = 0 -> MkOk x (GPl.mk 2 0 [] ts [] 0 0 n.Plan.Attrs) [n]) : Fun1 prog 151 [bu.ty x, bm.ty n, tSl be ts] (bm.ty (fX x n ts)) := by
 refine Spec.enter func151 rfl rfl fun h0 w0 fr0 => ?_
 refine Jr (Zs (aJ (R := bu) Sr) (Zs (aJ (R := bm) Sr) ?_))
 refine Zx (aD (fun w => zeroValue152 w) fM) fun b6 => ?_
 refine ae (ar (Jr (Zm (Zs (ah underlying43 Sr) (Zs (aC Sr Sr) ?_)))))
 refine ae ?_
 refine au Sr (fun h9 => ?_) (fun h9 => ?_)
 ·
  try simp only [NF] at h9
  refine Jr (Zl bp Sr ?_)
  refine Ju (aj bp Sr Sr zS) fun _ => ?_
  refine ae (aF ?_)
  refine aZ (rv := .cell 6 152) rfl () (Sel.all _) (.cell (R := bm) bp Sr zS Sr) (Frz.sub (DE (by rw [fX, if_pos zG])))
 try simp only [NF] at h9
 refine ay (Jr (Zl dy Sr (Zm (Zs (aa eC Sr rfl) (Zs (aa aX Sr rfl) ?_)))))
 refine Zl bQ Sr (Zs (aU (x := ((GPl.mk 2 0 [] ts [] 0 0 n.Plan.Attrs) : aG)) (zs := [[Value.int .i64 0], [Value.int .i64 0], [Value.slice none 0 0], [Value.slice none 0 0], [Value.slice none 0 0], [Value.int .i64 0], [Value.int .i64 0], [Value.slice none 0 0]]) aX (fun w => zeroValue46 w) ⟨Sr, Sr, Sr, trivial⟩ ⟨⟨Sr, rfl⟩, fun _ => rfl, fun _ => ⟨_, rfl, none, ⟨0, Nat.le_refl _⟩, rfl, fun q => absurd rfl q⟩, ⟨Sr, rfl⟩, fun _ => ⟨_, rfl, none, ⟨0, Nat.le_refl _⟩, rfl, fun q => absurd rfl q⟩, fun _ => rfl, fun _ => rfl, ⟨Sr, rfl⟩, trivial⟩) (Zl bp Sr ?_))
 refine Zs (ax (ys := [n]) underlying197 fW ⟨rfl, Sr, trivial⟩ rfl (by decide)) ?_
 refine Zs (ai (dY x (GPl.mk 2 0 [] ts [] 0 0 n.Plan.Attrs) [n] (hm zG)) ⟨Sr, Sr, Sr, trivial⟩ call146) ?_
 refine Ju (aj bp Sr Sr zS) fun _ => ?_
 refine ae (aF ?_)
 refine aZ (rv := .cell 6 152) rfl () (Sel.all _) (.cell (R := bm) bp Sr zS Sr) (Frz.sub (DE (by rw [fX, if_neg zG])))
theorem jj (x : Gplanner) (a b : Gnode) (ha : a.Plan.Attrs.length <= 1000000) (hb : b.Plan.Attrs.length <= 1000000) (hm : MkOk x (GPl.mk 4 0 [] [] [] 0 0 (bL a.Plan.Attrs b.Plan.Attrs)) [a, b]) : Fun1 prog 223 [bu.ty x, bm.ty a, bm.ty b] (bm.ty (bw x a b)) := by
 refine Spec.enter func223 rfl rfl fun h0 w0 fr0 => ?_
 refine Jr (Zs (aJ (R := bu) Sr) (Zs (aJ (R := bm) Sr) (Zs (aJ (R := bm) Sr) ?_)))
 refine Zx (aD (fun w => zeroValue152 w) fM) fun b6 => ?_
 refine ae (Jr (Zs (aa eC Sr rfl) (Zs (aa aX Sr rfl) (Zl bQ Sr ?_))))
 refine Zx (bz (Dz _) (fH _ (by show a.Plan.Attrs.length <= _; omega)) ⟨Sr, trivial⟩ call158) fun v13 => ?_
 refine Za (ae (ar (Jr (Zs (aa eC Sr rfl) (Zs (aa aX Sr rfl) ?_)))))
 refine Zl bQ Sr (Zs (ah underlying44 Sr) (Zm (ae (av ?_))))
 refine aO (σ := Nat × Value) (fun ⟨i, vo⟩ => i <= b.Plan.Attrs.length) (fun ⟨i, vo⟩ => upd (upd (upd (upd (upd (upd (upd (upd cg 3 (bx bu x)) 4 (bx bm a)) 5 (bx bm b)) 6 (tAt b6 0)) 7 (rV.ty vo)) 16 (tSl aS b.Plan.Attrs)) 17 (tV (.int .i64 b.Plan.Attrs.length))) 18 (tV (.int .i64 i))) (fun ⟨i, vo⟩ => [own 89 aS vo (bL a.Plan.Attrs (b.Plan.Attrs.take i)), box b6 152 bm ⟨GPl.zero, dF⟩]) (fun ⟨i, vo⟩ => b.Plan.Attrs.length - i) (0, v13) (by exact Nat.zero_le _) (zU) (.c zS (SPs.of (A := own 89 aS v13 a.Plan.Attrs) (by rw [List.take_zero, qc])) (zL)) ?_
 rintro ⟨i, vo⟩ hi
 try dsimp only at hi
 refine Jr (Zs (aA Sr Sr) (ae (ar ?_)))
 refine au Sr (fun h19 => ?_) (fun h19 => ?_)
 ·
  try simp only [NF] at h19
  have hlt : i < b.Plan.Attrs.length := by omega
  have hjl := hG a.Plan.Attrs (b.Plan.Attrs.take i)
  rw [List.length_take] at hjl
  refine ay (ar (av (Jr ?_)))
  refine Zs (ad (i := i) underlying44 ct Sr Sr (by rfl) (gb (by exact hlt))) ?_
  refine Zl ct Sr ?_
  refine Zx (aD (fun w => zeroValue89 w) qY) fun b9 => ?_
  refine Ju (aj ct Sr Sr zS) fun _ => ?_
  refine bc (t := 9) (Sel.take (Dz _)) Frz.box ?_
  refine ae (Jr (Zs (aa eC Sr rfl) (Zs (aa aX Sr rfl) (Zl bQ Sr (Zs (aa dH Sr rfl) ?_)))))
  refine Zl ty9 Sr ?_
  refine Zs (ai (fc _ _ (by show a.Plan.Attrs.length <= _; omega)) ⟨Sr, Sr, trivial⟩ call219) ?_
  refine Zs (aA Sr Sr) (ae ?_)
  refine au Sr (fun h28 => ?_) (fun h28 => ?_)
  ·
   try simp only [NF] at h28
   refine aq (Zm (Zl ct Sr ?_))
   refine Zs (ax (ys := [_]) underlying44 gv ⟨rfl, Sr, trivial⟩ rfl (by decide)) ?_
   refine Zx (aL underlying44 gv Sr Sr zS (by simp only [List.length_append, List.length_cons, List.length_nil]; omega) (by simp only [List.length_append, List.length_cons, List.length_nil]; omega)) fun v32 => ?_
   refine Za (ae (aq (Zs (aB Sr Sr z6) (Zm (ae ?_)))))
   refine aE (σ := Nat × Value) (s := (i, vo)) (i + 1, v32) zO (by show i + 1 <= _; omega) (zU) (.c zS (SPs.of (A := own 89 aS v32 ((bL a.Plan.Attrs (b.Plan.Attrs.take i)) ++ [nth b.Plan.Attrs i])) (by rw [iK hlt, if_pos h28])) (zL))
  try simp only [NF] at h28
  have h28 : ¬ columnL a.Plan.Attrs (nth b.Plan.Attrs i).Name < 0 := by show ¬ columnL _ _ < 0; omega
  refine ay (aq (Zs (aB Sr Sr z6) (Zm (ae ?_))))
  refine aE (σ := Nat × Value) (s := (i, vo)) (i + 1, vo) zO (by show i + 1 <= _; omega) (zU) (.c zS (SPs.of (A := own 89 aS vo (bL a.Plan.Attrs (b.Plan.Attrs.take i))) (by rw [iK hlt, if_neg h28])) (zL))
 try simp only [NF] at h19
 obtain rfl : i = b.Plan.Attrs.length := by omega
 refine aY (ar ?_)
 refine bF (t := 7) (A' := tSl aS (bL a.Plan.Attrs b.Plan.Attrs)) (Sel.take (Dz _)) (DO (by rw [List.take_length])) ?_
 refine aq (Zl dy Sr (Zm (Zs (aU (x := ((GPl.mk 4 0 [] [] [] 0 0 (bL a.Plan.Attrs b.Plan.Attrs)) : aG)) (zs := [[Value.int .i64 0], [Value.int .i64 0], [Value.slice none 0 0], [Value.slice none 0 0], [Value.slice none 0 0], [Value.int .i64 0], [Value.int .i64 0], [Value.slice none 0 0]]) aX (fun w => zeroValue46 w) ⟨Sr, Sr, trivial⟩ ⟨⟨Sr, rfl⟩, fun _ => rfl, fun _ => ⟨_, rfl, none, ⟨0, Nat.le_refl _⟩, rfl, fun q => absurd rfl q⟩, fun _ => ⟨_, rfl, none, ⟨0, Nat.le_refl _⟩, rfl, fun q => absurd rfl q⟩, fun _ => ⟨_, rfl, none, ⟨0, Nat.le_refl _⟩, rfl, fun q => absurd rfl q⟩, fun _ => rfl, fun _ => rfl, ⟨Sr, rfl⟩, trivial⟩) (Zl bp Sr (Zl bp Sr ?_)))))
 refine Zs (ax (ys := [a, b]) underlying197 fW ⟨rfl, Sr, rfl, Sr, trivial⟩ rfl (by decide)) ?_
 refine Zs (ai (dY x (GPl.mk 4 0 [] [] [] 0 0 (bL a.Plan.Attrs b.Plan.Attrs)) [a, b] hm) ⟨Sr, Sr, Sr, trivial⟩ call146) ?_
 refine Ju (aj bp Sr Sr zS) fun _ => ?_
 refine ae (aF ?_)
 refine aZ (rv := .cell 6 152) rfl () (Sel.all _) (.cell (R := bm) bp Sr zS Sr) (Frz.sub (DE rfl))
open Go
def gR (v : Value) (K k : Nat) : Value := match v with
 | .slice (some a) n c => .slice (some ⟨a.block, a.off + k * K, none⟩) (n - k) (c - k)
 | _ => undef
theorem oC {P : Program} {w : World} {t e ty : TypeId} {z : Value} (ht : P.underlying t = some (.slice e)) (hv : ∀ w, (zeroValue e).run P w = .ok z w) (hz : z.cells = #[z]) (h1 : z.oneCell' = true) {b o n c el : Nat} {cur : Array Value} (hn : 0 < n)
  (hb : w.heap[b]? = some (.cells cur el (0, 0))) (hl : o + n <= cur.size) :
  ∃ w', (Builtin.clear_ #[t] ty #[.slice (some ⟨b, o, none⟩) n c]).run P w = .ok (.tuple #[]) w' /\ (∀ b', b' ≠ b -> w'.heap[b']? = w.heap[b']?) /\ Same w w' ∧
   w'.heap[b]? = some (.cells (cur.toList.take o ++ List.replicate n z ++ cur.toList.drop (o + n)).toArray el (0, 0)) := by
 have hzc : (Builtin.zeroCells z.cells n).toList = List.replicate n z := by
  rw [hz]
  simp [Builtin.zeroCells]
  apply List.ext_getElem
  · simp
  · intro i h1 h2
    simp [Nat.mod_one]
 have hst := run_storeCells_at P b o el (List.replicate n z) 0 cur w hb (by simpa using hl) (by intro v hv'; rw [List.eq_of_mem_replicate hv']; exact h1)
 simp only [Nat.add_zero, List.length_replicate] at hst
 refine ⟨_, ?_, fun b' hne => setRow_other w b b' _ hne, ⟨rfl, rfl, rfl⟩, setRow_heap w b cur _ el _ hb⟩
 obtain ⟨m, rfl⟩ : ∃ m, n = m + 1 := ⟨n - 1, by omega⟩
 simp [Builtin.clear_, run_underlying ht, hv, hzc, hst]
section
variable {C : Cx} {E : Env} {L : List SP} {d : Option Nat} {ty : Nat} {pos : String} {af : Array Edge} {g : Option (Nat × Bool)}
theorem qd {α : Type} {T e k : Nat} {R : Rp α} {x y : Operand} {v : Value} {xs : List α} {S : List SP} {i : Int} (hu : C.P.underlying T = some (.slice e)) (hR : TyOf C.P e R)
  (hx : Sub (opTy E x) (rV.ty v)) (hy : Sub (opTy E y) (tV (.int .i64 i))) (hi : i = k) (sel : Sel L [own e R v xs] S) (hn : k < xs.length) :
  bs C ⟨d, .slice T x (some y) none none, ty, pos, af, g⟩ E L (tV (gR v R.k k)) :=
 DC (by intro c h; cases h) fun a w h m l sp st fr => by
  have hv : a.eval x = v := (fr.get hx).1
  have h2 : a.eval y = .int .i64 i := fr.get hy
  subst hi
  obtain ⟨m1, m2, d12, rfl, ho, s2⟩ := sel.one.1 st
  refine ⟨(), gR v R.k k, w, h, _, ?_, HL.refl, sp, st, rfl⟩
  rcases ho with ⟨rfl, rfl, rfl⟩ | ⟨b, cap, cur, rfl, rfl, hl, hm, hs, r⟩
  · simp at hn
  · simp [execOp, Instr.sliceAt, run_underlying hu, hv, h2, Instr.slice, Instr.sliceBounds, Instr.sliceBound, asIntOf, hR.size, show k <= xs.length by omega, show k <= cap by omega, cK, gR]
    intro q; exfalso; omega
theorem oD {α : Type} {T e k : Nat} {R : Rp α} {K : Nat} {x : Operand} {v : Value} {xs : List α} {S : List SP} (hu : C.P.underlying T = some (.slice e)) (hx : Sub (opTy E x) (tV (gR v K k))) (sel : Sel L [own e R v xs] S) (hn : k < xs.length) :
  bs C ⟨d, .call { callee := .builtin .len, args := #[x], argTypes := #[T] }, ty, pos, af, g⟩ E L (tV (.int .i64 ((xs.length - k : Nat) : Int))) :=
 DC (by intro c h; cases h) fun a w h m l sp st fr => by
  have hv : a.eval x = gR v K k := fr.get hx
  obtain ⟨m1, m2, d12, rfl, ho, s2⟩ := sel.one.1 st
  refine ⟨(), _, w, h, _, ?_, HL.refl, sp, st, rfl⟩
  rcases ho with ⟨rfl, rfl, rfl⟩ | ⟨b, cap, cur, rfl, rfl, hl, hm, hs, r⟩
  · simp at hn
  · simp [execOp, resolve, invoke, builtin, Builtin.len_, hv, run_underlying hu, goInt, gR]
theorem gm {α : Type} {R : Rp α} {T e k : Nat} {x ix : Operand} {v : Value} {xs : List α} {z : Int} {i : Nat} {S : List SP} (hu : C.P.underlying T = some (.slice e)) (hR : TyOf C.P e R)
  (hx : Sub (opTy E x) (tV (gR v R.k k))) (sel : Sel L [own e R v xs] S) (hi : Sub (opTy E ix) (tV (.int .i64 z))) (hz : z = i) (hlt : k + i < xs.length) :
  bs C ⟨d, .indexAddr T x ix, ty, pos, af, g⟩ E L (tV (fE v R.k (k + i))) :=
 DC (by intro c h; cases h) fun a w h m l sp st fr => by
  have hv : a.eval x = gR v R.k k := fr.get hx
  have h2 : a.eval ix = .int .i64 z := fr.get hi
  obtain ⟨m1, m2, d12, rfl, ho, s2⟩ := sel.one.1 st
  subst hz
  refine ⟨(), fE v R.k (k + i), w, h, _, ?_, HL.refl, sp, st, rfl⟩
  rcases ho with ⟨rfl, rfl, _⟩ | ⟨b, cap, _, rfl, _⟩
  · simp at hlt
  · have : k * R.k + i * R.k = (k + i) * R.k := (Nat.add_mul _ _ _).symm
    simp [execOp, Instr.indexAt, hv, h2, asIntOf, run_underlying hu, hR.size, show i < xs.length - k by omega, cK, fE, gR, this]
theorem mq {α : Type} {R : Rp α} {T e k : Nat} {x : Operand} {v : Value} {xs : List α} {z : α} {zv : Value} {S : List SP} (hu : C.P.underlying T = some (.slice e)) (hzv : ∀ w, (zeroValue e).run C.P w = .ok zv w) (hzc : zv.cells = #[zv]) (h1 : zv.oneCell' = true) (hR : R.k = 1) (hr : ∀ h, R.rel h z [zv])
  (hx : Sub (opTy E x) (tV (gR v R.k k))) (sel : Sel L [own e R v xs] S) (hk : k < xs.length) :
  Step C ⟨d, .call { callee := .builtin .clear, args := #[x], argTypes := #[T] }, ty, pos, af, g⟩ E L (fun _ : Unit => tAny) (fun _ => own e R v (xs.take k ++ List.replicate (xs.length - k) z) :: S) :=
 DC (by intro c h; cases h) fun a w h m l sp st fr => by
  have hv : a.eval x = gR v R.k k := fr.get hx
  obtain ⟨m1, m2, d12, rfl, ho, s2⟩ := sel.one.1 st
  rcases ho with ⟨rfl, rfl, _⟩ | ⟨b, cap, cur, rfl, rfl, hl, hm, hs, r⟩
  · simp at hk
  · have hb := sp.heap_own
    simp only [gR, hR, Nat.mul_one, Nat.zero_add] at hv
    rw [hR, Nat.mul_one] at hs r
    obtain ⟨w', hrun, hoth, hsame, hnew⟩ := oC (P := C.P) (ty := ty) (c := cap - k) hu hzv hzc h1 (n := xs.length - k) (o := k) (by omega) hb (by omega)
    refine ⟨(), .tuple #[], w', h, (PH.one b _).join m2, ?_, HL.same hsame, DX d12 sp (fun b' hne _ => hoth b' hne) hnew, ?_, trivial⟩
    · simp [execOp, resolve, invoke, builtin, hv, hrun]
    · have hcl : cur.toList.length = cap := by simpa using hs
      refine ⟨_, m2, PH.one_disj_iff.2 (PH.one_disj_iff.1 d12), rfl, .inr ⟨b, cap, _, ?_, rfl, ?_, hm, ?_, ?_⟩, s2⟩
      · simp only [List.length_append, List.length_take, List.length_replicate]
        rw [show min k xs.length + (xs.length - k) = xs.length by omega]
      · simp only [List.length_append, List.length_take, List.length_replicate]; omega
      · simp only [List.size_toArray, List.length_append, List.length_take, List.length_drop, List.length_replicate, hcl, hR]; omega
      · have e1 : (xs.take k ++ List.replicate (xs.length - k) z).length = xs.length := by simp only [List.length_append, List.length_take, List.length_replicate]; omega
        have e2 : (cur.toList.take k ++ List.replicate (xs.length - k) zv ++ cur.toList.drop (k + (xs.length - k))).take xs.length = cur.toList.take k ++ List.replicate (xs.length - k) zv := by
         refine List.take_left' ?_
         simp only [List.length_append, List.length_take, List.length_replicate, hcl]; omega
        rw [e1, hR, Nat.mul_one, e2]
        refine dB ?_ ?_
        · have := eL k r
          rwa [List.take_take, hR, Nat.mul_one, Nat.min_eq_left (by omega)] at this
        · have := gU (hr h) (xs.length - k)
          rwa [show (List.replicate (xs.length - k) [zv]).flatten = List.replicate (xs.length - k) zv by simp] at this
end
def headV (v : Value) (k : Nat) : Value := match v with
 | .slice (some a) _ c => .slice (some a) k c
 | _ => undef
def oE (v : Value) (K k : Nat) : Value := match v with
 | .slice (some a) n c => .slice (some (if c = k then a else ⟨a.block, a.off + k * K, none⟩)) (n - k) (c - k)
 | _ => undef
theorem ip {α : Type} {R : Rp α} {h : PH} : ∀ {xs : List α} {cs : List Value} (n : Nat), relAll R h xs cs -> relAll R h (xs.drop n) (cs.drop (n * R.k))
 | [], _, n, r => by cases r; simp [relAll]
 | x :: xs, _, 0, r => by simpa using r
 | x :: xs, _, n + 1, ⟨c1, c2, e, r1, r2⟩ => by
   subst e
   have hl := R.len r1
   have : (c1 ++ c2).drop ((n + 1) * R.k) = c2.drop (n * R.k) := by
    rw [Nat.add_mul, Nat.one_mul, Nat.add_comm, <- List.drop_drop, List.drop_left' hl]
   rw [this]
   exact ip n r2
def vZ {α : Type} (xs : List α) (i : Nat) : List α := xs.take i ++ xs.drop (i + 1) ++ xs.drop (xs.length - 1)
theorem dP {α : Type} {xs : List α} {i : Nat} (h : i < xs.length) : (vZ xs i).length = xs.length := by
 simp only [vZ, List.length_append, List.length_take, List.length_drop]; omega
theorem wa {α : Type} {xs : List α} {i : Nat} (h : i < xs.length) : (vZ xs i).take (xs.length - 1) = xs.eraseIdx i := by
 rw [List.eraseIdx_eq_take_drop_succ, vZ]
 refine List.take_left' ?_
 simp only [List.length_append, List.length_take, List.length_drop]; omega
section
variable {C : Cx} {E : Env} {L : List SP} {d : Option Nat} {ty : Nat} {pos : String} {af : Array Edge} {g : Option (Nat × Bool)}
theorem wb {α : Type} {T e k : Nat} {R : Rp α} {x y : Operand} {v : Value} {xs : List α} {S : List SP} {i : Int} (hu : C.P.underlying T = some (.slice e)) (hR : TyOf C.P e R)
  (hx : Sub (opTy E x) (rV.ty v)) (hy : Sub (opTy E y) (tV (.int .i64 i))) (hi : i = k) (sel : Sel L [own e R v xs] S) (hn : k < xs.length) :
  bs C ⟨d, .slice T x none (some y) none, ty, pos, af, g⟩ E L (tV (headV v k)) :=
 DC (by intro c h; cases h) fun a w h m l sp st fr => by
  have hv : a.eval x = v := (fr.get hx).1
  have h2 : a.eval y = .int .i64 i := fr.get hy
  subst hi
  obtain ⟨m1, m2, d12, rfl, ho, s2⟩ := sel.one.1 st
  refine ⟨(), headV v k, w, h, _, ?_, HL.refl, sp, st, rfl⟩
  rcases ho with ⟨rfl, rfl, rfl⟩ | ⟨b, cap, cur, rfl, rfl, hl, hm, hs, r⟩
  · simp at hn
  · simp [execOp, Instr.sliceAt, run_underlying hu, hv, h2, Instr.slice, Instr.sliceBounds, Instr.sliceBound, asIntOf, hR.size, show k <= cap by omega, cK, headV]
theorem rK {α : Type} {T e j k l : Nat} {R : Rp α} {x y z u : Operand} {v : Value} {xs : List α} {S : List SP} {i1 i2 i3 : Int} (hu : C.P.underlying T = some (.slice e)) (hR : TyOf C.P e R)
  (hx : Sub (opTy E x) (rV.ty v)) (hy : Sub (opTy E y) (tV (.int .i64 i1))) (hz : Sub (opTy E z) (tV (.int .i64 i2))) (hw : Sub (opTy E u) (tV (.int .i64 i3))) (e1 : i1 = j) (e2 : i2 = k) (e3 : i3 = l) (sel : Sel L [own e R v xs] S)
  (hjk : j <= k) (hkl : k <= l) (hl : l <= xs.length) :
  bs C ⟨d, .slice T x (some y) (some z) (some u), ty, pos, af, g⟩ E L tAny :=
 DC (by intro c h; cases h) fun a w h m lv sp st fr => by
  have hv : a.eval x = v := (fr.get hx).1
  have h1 : a.eval y = .int .i64 i1 := fr.get hy
  have h2 : a.eval z = .int .i64 i2 := fr.get hz
  have h3 : a.eval u = .int .i64 i3 := fr.get hw
  subst e1 e2 e3
  obtain ⟨m1, m2, d12, rfl, ho, s2⟩ := sel.one.1 st
  rcases ho with ⟨rfl, rfl, rfl⟩ | ⟨b, cap, cur, rfl, rfl, hlc, hm, hs, r⟩
  · have q1 : l = 0 := by simpa using hl
    have q2 : k = 0 := by omega
    have q3 : j = 0 := by omega
    subst q1 q2 q3
    exact ⟨(), .slice none 0 0, w, h, _, by simp [execOp, Instr.sliceAt, run_underlying hu, hv, h1, h2, h3, Instr.slice, Instr.sliceBounds, Instr.sliceBound, asIntOf, hR.size], HL.refl, sp, st, trivial⟩
  · exact ⟨(), _, w, h, _, by simp [execOp, Instr.sliceAt, run_underlying hu, hv, h1, h2, h3, Instr.slice, Instr.sliceBounds, Instr.sliceBound, asIntOf, hR.size, show l <= cap by omega, hkl, hjk]; rfl, HL.refl, sp, st, trivial⟩
theorem tP {α : Type} {T e k : Nat} {R : Rp α} {x y : Operand} {v : Value} {xs : List α} {S : List SP} {i : Int} (hu : C.P.underlying T = some (.slice e)) (hR : TyOf C.P e R)
  (hx : Sub (opTy E x) (rV.ty v)) (hy : Sub (opTy E y) (tV (.int .i64 i))) (hi : i = k) (sel : Sel L [own e R v xs] S) (hn : k <= xs.length) (h0 : 0 < xs.length) :
  bs C ⟨d, .slice T x (some y) none none, ty, pos, af, g⟩ E L (tV (oE v R.k k)) :=
 DC (by intro c h; cases h) fun a w h m l sp st fr => by
  have hv : a.eval x = v := (fr.get hx).1
  have h2 : a.eval y = .int .i64 i := fr.get hy
  subst hi
  obtain ⟨m1, m2, d12, rfl, ho, s2⟩ := sel.one.1 st
  refine ⟨(), oE v R.k k, w, h, _, ?_, HL.refl, sp, st, rfl⟩
  rcases ho with ⟨rfl, rfl, rfl⟩ | ⟨b, cap, cur, rfl, rfl, hl, hm, hs, r⟩
  · simp at h0
  · by_cases hc : cap = k
    · simp [execOp, Instr.sliceAt, run_underlying hu, hv, h2, Instr.slice, Instr.sliceBounds, Instr.sliceBound, asIntOf, hR.size, hn, hc, cK, oE]
    · simp [execOp, Instr.sliceAt, run_underlying hu, hv, h2, Instr.slice, Instr.sliceBounds, Instr.sliceBound, asIntOf, hR.size, hn, hc, cK, oE]
theorem yf {α : Type} {T e i : Nat} {R : Rp α} {x y : Operand} {v : Value} {xs : List α} {S : List SP} {bytes : Nat} {z : α} (hu : C.P.underlying T = some (.slice e)) (hE : ElT C.P e R bytes z)
  (hx : Sub (opTy E x) (tV (headV v i))) (hy : Sub (opTy E y) (tV (oE v R.k (i + 1)))) (sel : Sel L [own e R v xs] S) (hi : i < xs.length) :
  Step C ⟨d, .call { callee := .builtin .append, args := #[x, y], argTypes := #[T, T] }, ty, pos, af, g⟩ E L (fun _ : Unit => tV (headV v (xs.length - 1))) (fun _ => own e R v (vZ xs i) :: S) :=
 DC (by intro c h; cases h) fun a w h m l sp st fr => by
  have hv : a.eval x = headV v i := fr.get hx
  have hyv : a.eval y = oE v R.k (i + 1) := fr.get hy
  obtain ⟨m1, m2, d12, rfl, ho, s2⟩ := sel.one.1 st
  obtain ⟨ii, zv, hii, hz, hk, hby, hzr⟩ := hE.inf
  have hop : ∀ u w', (Builtin.append_ #[T, T] ty #[headV v i, oE v R.k (i + 1)]).run C.P w = .ok u w' ->
    (execOp a.eval ⟨d, .call { callee := .builtin .append, args := #[x, y], argTypes := #[T, T] }, ty, pos, af, g⟩).run C.P w = .ok (.value u) w' := by
   intro u w' hr
   simp [execOp, resolve, invoke, builtin, hv, hyv, hr]
  rcases ho with ⟨rfl, rfl, _⟩ | ⟨b, cap, cur, rfl, rfl, hl, hm, hs, r⟩
  · simp at hi
  · by_cases hlast : i + 1 = xs.length
    · -- nothing to move
      refine ⟨(), _, w, h, (PH.one b (.cells cur e (0, 0))).join m2, hop _ _ (by
       show (Builtin.append_ #[T, T] ty #[.slice (some ⟨b, 0, none⟩) i cap, .slice _ (xs.length - (i + 1)) (cap - (i + 1))]).run C.P w = _
       rw [show xs.length - (i + 1) = 0 by omega]
       exact et w T ty e ii hu hii _ _ i cap _ (by omega)), HL.refl, sp, ?_, ?_⟩
      · refine ⟨_, m2, d12, rfl, .inr ⟨b, cap, cur, by rw [dP hi], rfl, by rw [dP hi]; exact hl, hm, hs, ?_⟩, s2⟩
        have : vZ xs i = xs := by
         rw [vZ, show i + 1 = xs.length from hlast, List.drop_length, List.append_nil, show xs.length - 1 = i by omega, List.take_append_drop]
        rw [this]; exact r
      · show _ = headV _ _
        simp only [headV]; rw [show i = xs.length - 1 by omega]
    · have hb := sp.heap_own
      have hcl : cur.toList.length = cap * R.k := by simpa using hs
      have hle : (i + 1) * R.k <= xs.length * R.k := Nat.mul_le_mul_right _ (by omega)
      have hle2 : xs.length * R.k <= cap * R.k := Nat.mul_le_mul_right _ hl
      have hce : cap ≠ i + 1 := by omega
      have hrl := cY r
      have rd := ip (i + 1) r
      have hdl : ((cur.toList.take (xs.length * R.k)).drop ((i + 1) * R.k)).length = (xs.length - (i + 1)) * R.k := by have := cY rd; rwa [List.length_drop (l := xs)] at this
      have hr' := run_append_room (P := C.P) w T ty e ii hu hii b i cap cur hb ⟨b, (i + 1) * R.k, none⟩ (xs.length - (i + 1)) (cap - (i + 1)) ((cur.toList.take (xs.length * R.k)).drop ((i + 1) * R.k)) (by rw [hk]; exact hdl)
       (fun j u hu' => by
        rw [cK, ep (h := h) hb]
        rw [List.getElem?_drop, List.getElem?_take] at hu'
        split at hu'
        · simpa using hu'
        · cases hu') (kg rd) (by omega)
       (by rw [hk, hdl, <- Nat.add_mul, hs]; exact Nat.mul_le_mul_right _ (by omega))
      have e0 : oE (.slice (some ⟨b, 0, none⟩) xs.length cap) R.k (i + 1) = .slice (some ⟨b, (i + 1) * R.k, none⟩) (xs.length - (i + 1)) (cap - (i + 1)) := by simp only [oE]; rw [if_neg hce, Nat.zero_add]
      rw [e0] at hop
      have hop' := hop _ _ hr'
      refine ⟨(), _, _, h, (PH.one b _).join m2, hop', HL.same ⟨rfl, rfl, rfl⟩, DX d12 sp (fun b0 hne _ => setRow_other w b b0 _ hne) (setRow_heap w b cur _ e _ hb), ?_, ?_⟩
      · refine ⟨_, m2, PH.one_disj_iff.2 (PH.one_disj_iff.1 d12), rfl, .inr ⟨b, cap, _, by rw [dP hi], rfl, by rw [dP hi]; exact hl, hm, ?_, ?_⟩, s2⟩
        · have h3 : i * R.k <= cap * R.k := Nat.mul_le_mul_right _ (by omega)
          have h4 : i * R.k + (xs.length - (i + 1)) * R.k <= cap * R.k := by rw [<- Nat.add_mul]; exact Nat.mul_le_mul_right _ (by omega)
          simp only [List.size_toArray, List.length_append, List.length_take, List.length_drop, hk, hcl, hdl] at *
          omega
        · rw [List.toList_toArray, dP hi, hk, hdl, <- Nat.add_mul, show i + (xs.length - (i + 1)) = xs.length - 1 by omega]
          have h5 : (xs.length - 1) * R.k + R.k = xs.length * R.k := by rw [<- Nat.succ_mul]; congr 1; omega
          have h3 : i * R.k <= xs.length * R.k := Nat.mul_le_mul_right _ (by omega)
          have hA : (cur.toList.take (i * R.k)).length = i * R.k := by rw [List.length_take, hcl]; omega
          have hAB : (cur.toList.take (i * R.k) ++ (cur.toList.take (xs.length * R.k)).drop ((i + 1) * R.k)).length = (xs.length - 1) * R.k := by
           rw [List.length_append, hA, hdl, <- Nat.add_mul]; congr 1; omega
          rw [List.take_append, hAB, List.take_of_length_le (by rw [hAB]; omega)]
          refine dB (dB ?_ rd) ?_
          · have := eL i r
            rwa [List.take_take, Nat.min_eq_left h3] at this
          · have := ip (xs.length - 1) r
            rw [List.drop_take] at this
            exact this
      · show _ = headV _ _
        simp only [headV]; rw [show i + (xs.length - (i + 1)) = xs.length - 1 by omega]
theorem oF {α : Type} {T e k : Nat} {R : Rp α} {x : Operand} {v : Value} {xs : List α} {S : List SP} (hu : C.P.underlying T = some (.slice e)) (hx : Sub (opTy E x) (tV (headV v k))) (sel : Sel L [own e R v xs] S) (h0 : 0 < xs.length) :
  bs C ⟨d, .call { callee := .builtin .len, args := #[x], argTypes := #[T] }, ty, pos, af, g⟩ E L (tV (.int .i64 (k : Int))) :=
 DC (by intro c h; cases h) fun a w h m l sp st fr => by
  have hv : a.eval x = headV v k := fr.get hx
  obtain ⟨m1, m2, d12, rfl, ho, s2⟩ := sel.one.1 st
  rcases ho with ⟨rfl, rfl, rfl⟩ | ⟨b, cap, cur, rfl, rfl, hl, hm, hs, r⟩
  · simp at h0
  · exact ⟨(), _, w, h, _, by simp [execOp, resolve, invoke, builtin, Builtin.len_, hv, run_underlying hu, goInt, headV], HL.refl, sp, st, rfl⟩
theorem Ae {v : Value} {k : Nat} (hv : ∃ a n c, v = .slice (some a) n c) : Sub (tV (headV v k)) (rV.ty (headV v k)) := fun _ _ e => ⟨e, by obtain ⟨a, n, c, rfl⟩ := hv; have e := (show _ = headV _ k from e); subst e; rfl⟩
theorem wc {α : Type} {T e : Nat} {R : Rp α} {x y u : Operand} {v : Value} {xs : List α} {S : List SP} {i1 i2 : Int} (hu : C.P.underlying T = some (.slice e)) (hR : TyOf C.P e R)
  (hx : Sub (opTy E x) (tV (headV v (xs.length - 1)))) (hy : Sub (opTy E y) (tV (.int .i64 i1))) (hz : Sub (opTy E u) (tV (.int .i64 i2))) (e1 : i1 = (xs.length - 1 : Nat)) (e2 : i2 = xs.length) (sel : Sel L [own e R v xs] S) (hn : 0 < xs.length) :
  bs C ⟨d, .slice T x (some y) (some u) none, ty, pos, af, g⟩ E L (tV (gR v R.k (xs.length - 1))) :=
 DC (by intro c h; cases h) fun a w h m l sp st fr => by
  have hv : a.eval x = headV v (xs.length - 1) := fr.get hx
  have h1 : a.eval y = .int .i64 i1 := fr.get hy
  have h2 : a.eval u = .int .i64 i2 := fr.get hz
  subst e1 e2
  obtain ⟨m1, m2, d12, rfl, ho, s2⟩ := sel.one.1 st
  refine ⟨(), gR v R.k (xs.length - 1), w, h, _, ?_, HL.refl, sp, st, rfl⟩
  rcases ho with ⟨rfl, rfl, rfl⟩ | ⟨b, cap, cur, rfl, rfl, hl, hm, hs, r⟩
  · simp at hn
  · have q1 : ¬ cap = xs.length - 1 := by omega
    simp only [headV] at hv
    have e1 : ((xs.length - 1 : Nat) : Int).toNat = xs.length - 1 := Int.toNat_natCast _
    simp [execOp, Instr.sliceAt, run_underlying hu, hv, h1, h2, Instr.slice, Instr.sliceBounds, Instr.sliceBound, asIntOf, hR.size, show xs.length <= cap by omega, show xs.length - 1 <= xs.length by omega, q1, cK, gR]
theorem rL {α : Type} {T e : Nat} {R : Rp α} {x : Operand} {v : Value} {xs : List α} {S : List SP} {bytes : Nat} {z : α} (hu : C.P.underlying T = some (.slice e)) (hE : ElT C.P e R bytes z)
  (hx : Sub (opTy E x) (tV (gR v R.k (xs.length - 1)))) (sel : Sel L [own e R v xs] S) (hn : 0 < xs.length) :
  Step C ⟨d, .call { callee := .builtin .clear, args := #[x], argTypes := #[T] }, ty, pos, af, g⟩ E L (fun _ : Unit => tAny) (fun _ => own e R v (xs.take (xs.length - 1) ++ [z]) :: S) :=
 DC (by intro c h; cases h) fun a w h m l sp st fr => by
  have hv : a.eval x = gR v R.k (xs.length - 1) := fr.get hx
  obtain ⟨m1, m2, d12, rfl, ho, s2⟩ := sel.one.1 st
  obtain ⟨ii, zv, hii, hz, hk, hby, hzr⟩ := hE.inf
  rcases ho with ⟨rfl, rfl, _⟩ | ⟨b, cap, cur, rfl, rfl, hl, hm, hs, r⟩
  · simp at hn
  · have hb := sp.heap_own
    have hcl : cur.toList.length = cap * R.k := by simpa using hs
    have rz := R.cells (hzr h)
    have hzl := R.len rz
    have hzs : zv.cells.size = R.k := by simpa using hzl
    have hzc : (Builtin.zeroCells zv.cells 1).toList = zv.cells.toList := by
     have := gc zv hE.pos hzs 1
     rw [show Builtin.zeroCells zv.cells 1 = madeCells zv.cells (1 * R.k) by rw [<- hzs]; rfl, this]
     simp
    have h5 : (xs.length - 1) * R.k + R.k = xs.length * R.k := by rw [<- Nat.succ_mul]; congr 1; omega
    have hle : xs.length * R.k <= cap * R.k := Nat.mul_le_mul_right _ hl
    have hst := run_storeCells_at C.P b ((xs.length - 1) * R.k) e zv.cells.toList 0 cur w hb (by rw [hzl, hs]; omega) (R.one rz)
    simp only [Nat.add_zero] at hst
    simp only [gR, Nat.zero_add] at hv
    rw [show xs.length - (xs.length - 1) = 1 by omega] at hv
    have hop : (execOp a.eval ⟨d, .call { callee := .builtin .clear, args := #[x], argTypes := #[T] }, ty, pos, af, g⟩).run C.P w = .ok (.value (.tuple #[])) (w.setRow b (cur.toList.take ((xs.length - 1) * R.k) ++ zv.cells.toList ++ cur.toList.drop ((xs.length - 1) * R.k + zv.cells.toList.length)).toArray) := by
     simp [execOp, resolve, invoke, builtin, hv, Builtin.clear_, run_underlying hu, zeroValue, typeInfo, hii, hz, hzc, hst]
    refine ⟨(), .tuple #[], _, h, (PH.one b _).join m2, hop, HL.same ⟨rfl, rfl, rfl⟩, DX d12 sp (fun b0 hne _ => setRow_other w b b0 _ hne) (setRow_heap w b cur _ e _ hb), ?_, trivial⟩
    · have e1 : (xs.take (xs.length - 1) ++ [z]).length = xs.length := by simp only [List.length_append, List.length_take, List.length_singleton]; omega
      refine ⟨_, m2, PH.one_disj_iff.2 (PH.one_disj_iff.1 d12), rfl, .inr ⟨b, cap, _, by rw [e1], rfl, by rw [e1]; exact hl, hm, ?_, ?_⟩, s2⟩
      · simp only [List.size_toArray, List.length_append, List.length_take, List.length_drop, hcl, hzl]; omega
      · rw [List.toList_toArray, e1]
        have hA : (cur.toList.take ((xs.length - 1) * R.k) ++ zv.cells.toList).length = xs.length * R.k := by
         rw [List.length_append, List.length_take, hcl, hzl]; omega
        rw [List.take_left' hA]
        refine dB ?_ ⟨_, [], by simp, rz, rfl⟩
        have := eL (xs.length - 1) r
        rwa [List.take_take, Nat.min_eq_left (by omega)] at this
end
theorem LSub.headV {α : Type} {e k : Nat} {R : Rp α} {v : Value} {xs : List α} {L : List SP} (hk : k <= xs.length) (h0 : 0 < xs.length) : LSub (own e R v xs :: L) (own e R (Lg.headV v k) (xs.take k) :: L) := fun h m p => by
 obtain ⟨m1, m2, d, rfl, ho, s2⟩ := p
 refine ⟨m1, m2, d, _root_.rfl, ?_, s2⟩
 rcases ho with ⟨rfl, rfl, rfl⟩ | ⟨b, cap, cur, rfl, rfl, hl, hm, hs, r⟩
 · simp at h0
 · refine .inr ⟨b, cap, cur, by simp [Lg.headV, hk], _root_.rfl, by rw [List.length_take]; omega, hm, hs, ?_⟩
   have := eL k r
   rwa [List.take_take, show min (k * R.k) (xs.length * R.k) = (xs.take k).length * R.k by rw [List.length_take, Nat.min_eq_left hk, Nat.min_eq_left (Nat.mul_le_mul_right _ hk)]] at this
theorem jk {P : Program} (w : World) (t ti ty e : TypeId) (i : TypeInfo) (z : Value) (ht : P.underlying t = some (.slice e)) (hti : P.underlying ti = some (.int .i64)) (hi : P.info? e = some i) (hz : i.zero = some z) (hk : 0 < i.size) (n : Nat) (h0 : 0 < n) (h63 : (n : Int) <= 9223372036854775807) (h48 : n * i.bytes <= 281474976710656) :
  (Builtin.append_ #[t, ti] ty #[.slice none 0 0, .int .i64 n]).run P w =
   .ok (.slice (some ⟨w.heap.size, 0, none⟩) n (grownCap w n 0 e)) (w.drew.alloc (.cells (Builtin.zeroCells z.cells n ++ Builtin.zeroCells z.cells (grownCap w n 0 e - n)) e)) := by
 have hn : n ≠ 0 := by omega
 have h63' : ¬ (9223372036854775807 < (n : Int)) := by omega
 have h48' : ¬ (281474976710656 < Builtin.nextslicecap n 0 * i.bytes) := by rw [nextslicecap_zero h0]; omega
 have h48'' : ¬ (281474976710656 < (n : Int) * (i.bytes : Int)) := by
  have : ((n * i.bytes : Nat) : Int) <= 281474976710656 := by omega
  rw [Int.natCast_mul] at this; omega
 have hw : IntKind.i64.wrap (n : Int) = n := gr ⟨by omega, by omega⟩
 have hns : ¬ (n * i.size = 0) := Nat.mul_ne_zero (by omega) (by omega)
 have hmx : ¬ (9223372036854775807 < max (n : Int) 0) := by omega
 simp [Builtin.append_, run_underlying ht, run_underlying hti, Go.sizeOf, typeInfo, zeroValue, hi, hz, Builtin.lenOf, hn, hw, asInt, asIntOf, h63', h48', h48'', hns, hmx, Question.forced, run_firstCells_none, newRow, grownCap]
 intro q; exfalso; omega
section
variable {C : Cx} {E : Env} {L : List SP} {d : Option Nat} {ty : Nat} {pos : String} {af : Array Edge} {g : Option (Nat × Bool)}
theorem kX {T e : Nat} {x : Operand} (hu : C.P.underlying T = some (.slice e)) (hx : Sub (opTy E x) (rV.ty (.slice none 0 0))) :
  bs C ⟨d, .call { callee := .builtin .cap, args := #[x], argTypes := #[T] }, ty, pos, af, g⟩ E L (tV (.int .i64 0)) :=
 DF (by intro c h; cases h) fun a w h hw fr => by
  have hv : a.eval x = .slice none 0 0 := (fr.get hx).1
  exact ⟨_, by simp [execOp, resolve, invoke, builtin, Builtin.cap_, hv, run_underlying hu, goInt], rfl⟩
theorem kY {T e : Nat} {x : Operand} (hu : C.P.underlying T = some (.slice e)) (hx : Sub (opTy E x) (rV.ty (.slice none 0 0))) :
  bs C ⟨d, .call { callee := .builtin .len, args := #[x], argTypes := #[T] }, ty, pos, af, g⟩ E L (tV (.int .i64 0)) :=
 DF (by intro c h; cases h) fun a w h hw fr => by
  have hv : a.eval x = .slice none 0 0 := (fr.get hx).1
  exact ⟨_, by simp [execOp, resolve, invoke, builtin, Builtin.len_, hv, run_underlying hu, goInt], rfl⟩
theorem m6 {T e : Nat} {α : Type} {R : Rp α} {x y : Operand} {z : Int} (hu : C.P.underlying T = some (.slice e)) (hR : TyOf C.P e R) (hx : Sub (opTy E x) (rV.ty (.slice none 0 0))) (hy : Sub (opTy E y) (tV (.int .i64 z))) (hz : z = 0) :
  bs C ⟨d, .slice T x none (some y) none, ty, pos, af, g⟩ E L (rV.ty (.slice none 0 0)) :=
 DC (by intro c h; cases h) fun a w h m l sp st fr => by
  have hv : a.eval x = .slice none 0 0 := (fr.get hx).1
  have h2 : a.eval y = .int .i64 z := fr.get hy
  subst hz
  refine ⟨(), .slice none 0 0, w, h, _, ?_, HL.refl, sp, st, ⟨rfl, rfl⟩⟩
  simp [execOp, Instr.sliceAt, run_underlying hu, hv, h2, Instr.slice, Instr.sliceBounds, Instr.sliceBound, asIntOf, hR.size]
theorem lu {α : Type} {T Ti e bytes n : Nat} {R : Rp α} {z : α} {x y : Operand} {i : Int} (hu : C.P.underlying T = some (.slice e)) (hi : C.P.underlying Ti = some (.int .i64)) (hE : ElT C.P e R bytes z)
  (hx : Sub (opTy E x) (rV.ty (.slice none 0 0))) (hy : Sub (opTy E y) (tV (.int .i64 i))) (hn : i = n) (h0 : 0 < n) (hb : n * bytes <= 281474976710656) (h63 : n <= 4611686018427387904) :
  Step C ⟨d, .call { callee := .builtin .append, args := #[x, y], argTypes := #[T, Ti] }, ty, pos, af, g⟩ E L (fun v' : Value => rV.ty v') (fun v' => own e R v' (List.replicate n z) :: L) :=
 DC (by intro c h; cases h) fun a w h m l sp st fr => by
  have hv : a.eval x = .slice none 0 0 := (fr.get hx).1
  have h2 : a.eval y = .int .i64 i := fr.get hy
  subst hn
  obtain ⟨ii, zv, hii, hz, hk, hby, hzr⟩ := hE.inf
  have rz := R.cells (hzr h)
  have hzl := R.len rz
  have hzs : zv.cells.size = R.k := by simpa using hzl
  have hp := hE.pos
  have hr := jk (P := C.P) w T Ti ty e ii zv hu hi hii hz (by omega) n h0 (by omega) (by rw [hby]; exact hb)
  have hop : (execOp a.eval ⟨d, .call { callee := .builtin .append, args := #[x, y], argTypes := #[T, Ti] }, ty, pos, af, g⟩).run C.P w = .ok (.value (.slice (some ⟨w.heap.size, 0, none⟩) n (grownCap w n 0 e))) (w.drew.alloc (.cells (Builtin.zeroCells zv.cells n ++ Builtin.zeroCells zv.cells (grownCap w n 0 e - n)) e)) := by
   simp [execOp, resolve, invoke, builtin, hv, h2, hr]
  have hge := grownCap_ge w n 0 e
  have hzf : (Builtin.zeroCells zv.cells n).toList = (List.replicate n zv).flatMap fun v => v.cells.toList := by
   rw [show Builtin.zeroCells zv.cells n = madeCells zv.cells (n * R.k) by rw [<- hzs]; rfl]
   exact gc zv hE.pos hzs n
  have hra : Args h ((List.replicate n z).map R.ty) (List.replicate n zv) := by
   have : ∀ n : Nat, Args h ((List.replicate n z).map R.ty) (List.replicate n zv) := by
    intro n
    induction n with
    | zero => trivial
    | succ n ih => exact ⟨hzr h, ih⟩
   exact this n
  have hrf := gJ hra
  have hlf := cY hrf
  rw [List.length_replicate] at hlf
  refine ⟨_, _, _, h, (PH.one w.heap.size (.cells _ e)).join m, hop, HL.same (D0 _ _), Sep.drew sp |>.allocOwn (w := w.drew) _, ?_, ⟨rfl, rfl⟩⟩
  refine ⟨_, m, DD (DI sp.mw _), rfl, .inr ⟨w.heap.size, _, _, by rw [List.length_replicate], rfl, by rw [List.length_replicate]; exact hge, grownCap_le_maxLen w _ _ _ (by unfold maxLen; omega), ?_, ?_⟩, st⟩
  · rw [Array.size_append, size_zeroCells, size_zeroCells, hzs, <- Nat.add_mul]; congr 1; omega
  · rw [List.length_replicate, Array.toList_append, hzf, List.take_append_of_le_length (by rw [hlf]; exact Nat.le_refl _), List.take_of_length_le (by rw [hlf]; exact Nat.le_refl _)]
    exact hrf
end
def okP {α : Type} (tot : List α) : List α -> Prop := fun l => l <+: tot
section
variable {C : Cx} {E : Env} {L : List SP} {d : Option Nat} {ty : Nat} {pos : String} {af : Array Edge} {g : Option (Nat × Bool)}
theorem ef {T U b n : Nat} {f : SF aG} {x : Operand} {k : Gnode} {S : List SP} (hR : TyOf C.P T f.R) (hx : Sub (opTy E x) (tAt b (SF.off jf n))) (sel : Sel L [box b U bm k] S) (hf : jf[n]? = some f) :
  bs C ⟨d, .load T x, ty, pos, af, g⟩ E L (f.R.ty (f.get k.Plan)) :=
 DC (by intro c h; cases h) fun a w h m l sp st fr => by
  obtain ⟨m1, m2, d12, rfl, ⟨cs, r, rfl⟩, s2⟩ := sel.one.1 st
  have hb := sp.heap_own
  obtain ⟨c0, rest, rfl, r0, _⟩ := (show SF.rel h k rH cs from r)
  obtain ⟨c, rc, hc⟩ := D4 (show SF.rel h k.Plan jf c0 from r0) hf
  have := ce (b := b) (o := SF.off jf n) (w := w) hR.agg hR.size (f.R.len rc) f.R.scalar (fun i v hv' => by
   rw [ep (h := h) hb]
   have h1 := hc i v hv'
   have h2 := (List.getElem?_eq_some_iff.1 h1).1
   simpa [List.getElem?_append_left h2] using h1)
  refine ⟨(), packV f.R.agg c, w, h, _, ?_, HL.refl, sp, st, f.R.pack rc⟩
  have hv : a.eval x = .pointer (some ⟨b, SF.off jf n, none⟩) := fr.get hx
  simp [execOp, Instr.loadAt, Instr.sureAddr, hv, this]
theorem eh {n b : Nat} {x : Operand} {f : SF aG} (S : StructOf C.P 46 jf) (hx : Sub (opTy E x) (tAt b 0)) (hf : jf[n]? = some f) :
  bs C ⟨d, .fieldAddr 46 x n, ty, pos, af, g⟩ E L (tAt b (SF.off jf n)) := ap S hx hf (Nat.zero_add _)
end
theorem Spec.frz {X : Type} {P : Program} {f : Nat} {As : List Ty} {res : X -> Ty} {Lo : X -> List SP} {B : Ty} (h : Spec P f As [] res Lo) (fz : ∀ x, Frz (Lo x) (res x) B) : Fun1 P f As B := fun vs h0 m r w ha sp st => by
 refine (h vs h0 m r w ha sp st).mono ?_
 rintro e w' ⟨x', v, h', m', he, l, s, st', hv⟩
 refine ⟨(), v, h'.join m', PH.emp, he, HL.trans l ⟨Dy _ _, Same.refl _⟩, ?_, rfl, fz x' h' m' v s.hm st' hv⟩
 have s' : Sep h' (m'.join PH.emp) r w' := by rw [DJ]; exact s
 exact s'.freeze (DM _)
theorem Spec.frame {X : Type} {P : Program} {f : Nat} {As : List Ty} {L : List SP} {res : X -> Ty} {Lo : X -> List SP} {B : SP} (h : Spec P f As L res Lo) : Spec P f As (B :: L) res (fun x => B :: Lo x) := fun vs h0 m r w ha sp st => by
 obtain ⟨m1, m2, d12, rfl, s1, s2⟩ := st
 have hm := PH.disj_join'.1 sp.hm
 have hr := PH.disj_join.1 sp.mr
 have s' : Sep h0 m2 (m1.join r) w := ⟨sp.inv, hm.2, PH.disj_join'.2 ⟨hm.1, sp.hr⟩, PH.disj_join'.2 ⟨DD d12, hr.2⟩, sp.hw, fun b o e => sp.mw _ _ (DA d12 _ _ e), DL (fun b o e => sp.mw _ _ (Dy _ _ _ _ e)) sp.rw⟩
 refine (h vs h0 m2 (m1.join r) w ha s' s2).mono ?_
 rintro e w' ⟨x', v, h', m', he, l, s, st', hv⟩
 have e1 := PH.disj_join'.1 s.hr
 have e2 := PH.disj_join'.1 s.mr
 refine ⟨x', v, h', m1.join m', he, l, ⟨s.inv, PH.disj_join'.2 ⟨e1.1, s.hm⟩, e1.2, PH.disj_join.2 ⟨hr.1, e2.2⟩, s.hw, DL (fun b o e => s.rw _ _ (Dy _ _ _ _ e)) s.mw, fun b o e => s.rw _ _ (DA hr.1 _ _ e)⟩, ⟨m1, m', DD e2.1, rfl, B.mono l.1 s1, st'⟩, hv⟩
theorem Frz.boxOwn {α : Type} {b T e : Nat} {R : Rp α} {v : Value} {xs : List α} {S : List SP} : Frz (Lg.box b T rV v :: Lg.own e R v xs :: S) (tAt b 0) (bx (rSl R) xs) := fun h m u d st hu => by
 obtain ⟨m1, m2, d12, e0, ⟨cs, r, e1⟩, st2⟩ := st
 subst e0 e1
 have hd := PH.disj_join'.1 d
 obtain ⟨rfl, h1⟩ := (show rV.rel h v cs from r)
 have ht := D6 (S := S) h m2 v hd.2 st2 rfl
 refine ⟨b, 0, [v], hu, ⟨#[v], T, (0, 0), ?_, fun i w hw => by simpa using hw⟩, ⟨v, rfl, ?_⟩⟩
 · exact DA d _ _ (Dy _ _ _ _ (DS _ _))
 · refine (tSl R xs).mono ?_ ht
   refine PH.join_le (Dy _ _) ?_
   exact PH.le_trans (DA d12) (DA d)
theorem LSub.stn {L : List SP} : LSub L (Lg.stars [] :: L) := fun h m p => ⟨PH.emp, m, DP m, (DN m).symm, _root_.rfl, p⟩
theorem LSub.unemp {L : List SP} : LSub (Lg.stars [] :: L) L := fun h m ⟨m1, m2, d, e, h1, h2⟩ => by
 rw [show m1 = PH.emp from h1, DN] at e; exact e ▸ h2
theorem gS (f : Gnode -> Int) (l : List Gnode) (i : Nat) : cheapI f l (i + 1) = if f (nth l i) < f (nth l (cheapI f l i)) then i else cheapI f l i := jM
theorem qe {f : Gnode -> Int} {l : List Gnode} {i : Nat} (h0 : 0 < l.length) (hi : i <= l.length) : cheapI f l i < l.length :=
  fK (P := fun a => a < l.length) (fun a ha j hj => by have := List.mem_range.1 hj; split <;> omega) h0
theorem rM {α : Type} {ls : List (List α)} {i : Nat} : (ls.take i).flatten.length <= ls.flatten.length := by
  conv => rhs; rw [<- List.take_append_drop i ls, List.flatten_append, List.length_append]
  omega
theorem iq {α : Type} {ls : List (List α)} {i : Nat} (h : i < ls.length) : (ls.take (i + 1)).flatten = (ls.take i).flatten ++ nth ls i := by
  rw [dM h, List.flatten_append]; simp
def za (l : List Int) (i : Nat) : Bool := (List.range (l.length - 1 - i)).all fun k => !decide (nth l (i + k + 1) < nth l (i + k))
theorem yg {l : List Int} {i : Nat} (h : l.length - 1 <= i) : za l i = true := by
  unfold za; rw [show l.length - 1 - i = 0 by omega]; rfl
theorem we (l : List Int) : za l 0 = eD l := by
  unfold za eD; simp
theorem wg {l : List Int} {i : Nat} (h : i < l.length - 1) : za l i = (!decide (nth l (i + 1) < nth l i) && za l (i + 1)) := by
  unfold za
  rw [show l.length - 1 - i = (l.length - 1 - (i + 1)) + 1 by omega, List.range_succ_eq_map, List.all_cons, List.all_map]
  congr 1
  refine List.all_congr rfl fun k => ?_
  show (!decide (nth l (i + (k + 1) + 1) < nth l (i + (k + 1)))) = _
  rw [show i + (k + 1) = i + 1 + k by omega]
theorem tQ {l : List Int} {i : Nat} (hi : i < l.length - 1) (h : nth l (i + 1) < nth l i) : eD l = false := by
  unfold eD
  rw [List.all_eq_false]
  exact ⟨i, List.mem_range.2 hi, by simp [h]⟩
theorem Af {α : Type} {xs : List α} {i : Nat} {z : α} (h : i < xs.length) : ((vZ xs i).take ((vZ xs i).length - 1) ++ [z]).take (xs.length - 1) = xs.eraseIdx i := by
  rw [dP h, List.take_append_of_le_length (by rw [List.length_take, dP h]; omega), List.take_take, Nat.min_self, wa h]
theorem wh {α : Type} {e : Nat} {R : Rp α} {v : Value} {xs : List α} {C : Cx} {k : Act -> World -> Prop} {E : Env} {L S : List SP} (sel : Sel L [own e R v xs] S) (h0 : 0 < xs.length) (hk : (∃ a n c, v = .slice (some a) n c) -> K C k E L) : K C k E L := fun a w p => by
  obtain ⟨h1, h2, h, m, l, sp, st, f⟩ := id p
  obtain ⟨m1, m2, d12, rfl, ho, s2⟩ := sel.one.1 st
  refine hk ?_ a w p
  rcases ho with ⟨rfl, rfl, rfl⟩ | ⟨g, cap, cur, rfl, rfl, hl, hm, hs, hr⟩
  · simp at h0
  · exact ⟨_, _, _, rfl⟩
theorem tR (p : aG) (c : Int) (h0c : 0 <= c) (hc : c < (p.Cols.length : Int)) : Fun1 prog 155 [tV (.int .i64 c), bx bO p] (tV (.int .i64 (pc p c))) := by
 refine Spec.enter func155 rfl rfl fun h0 w0 fr0 => ?_
 refine Jr (Za (ae (Jr (Zs (aa aX Sr rfl) (Zl bY Sr ?_)))))
 refine Zm ?_
 refine Zs (ad (i := c.toNat) underlying36 ty3 Sr Sr (by show c = _; omega) (gb (by show _ < p.Cols.length; omega))) ?_
 refine Zl ty3 Sr (Za (ae (aF ?_)))
 exact aK (t := 3) rfl () Sr
theorem tS (p : aG) (c : Int) (h0c : 0 <= c) : Fun1 prog 157 [tV (.int .i64 c), bx bO p] (tV (.int .i64 (gH p c))) := by
 refine Spec.enter func157 rfl rfl fun h0 w0 fr0 => ?_
 refine Jr (Za (ae (ar (Jr (Zm ?_)))))
 refine Zs (aa aX Sr rfl) (Zl bY Sr (Zs (ah underlying36 Sr) (Zs (aA Sr Sr) (ae ?_))))
 refine au Sr (fun h8 => ?_) (fun h8 => ?_)
 ·
  try simp only [NF] at h8
  refine Jr (Zs (aa aX Sr rfl) (Zl bY Sr (Zm ?_)))
  refine Zs (ad (i := c.toNat) underlying36 ty3 Sr Sr (by show c = _; omega) (gb (by show _ < p.Cols.length; omega))) ?_
  refine Zl ty3 Sr (Za (ae (aF ?_)))
  exact aK (t := 3) rfl () (Sub.int (by rw [gH, if_pos h8]))
 try simp only [NF] at h8
 refine ay (Jr (Za (ae (aF ?_))))
 exact aK (t := 3) rfl () (Sub.int (by rw [gH, if_neg zG]))
theorem tT (p q : aG) (c : Int) (h0c : 0 <= c) (hc : c < (p.Attrs.length : Int)) (hq : q.Attrs.length <= 1000000000000) : Fun1 prog 222 [tV (.int .i64 c), bx bO q, bx bO p] (tV (.int .i64 (mZ p q c))) := by
 refine Spec.enter func222 rfl rfl fun h0 w0 fr0 => ?_
 refine Jr (Za (ae (ar ?_)))
 refine bl [⟨0, [1], true⟩, ⟨1, [5], true⟩, ⟨2, [2], true⟩, ⟨3, [7], true⟩, ⟨4, [0], true⟩, ⟨5, [8, 9], true⟩, ⟨6, [10], true⟩, ⟨7, [11], true⟩, ⟨8, [6, 12], true⟩, ⟨9, [13], true⟩] rfl (by kernel_rfl) ?_
 refine Zf rfl (aa aX Sr rfl) (Zf rfl (ab bQ Sr) (Zf rfl (aa aX Sr rfl) (Zf rfl (ab bQ Sr) (Zv rfl ?_))))
 refine Zf rfl (ad (i := c.toNat) underlying44 ct Sr Sr (by show c = _; omega) (gb (by show _ < p.Attrs.length; omega))) ?_
 refine Zf rfl (aa dH Sr rfl) (Zf rfl (ab ty9 Sr) (Zf rfl (ai (fc _ _ hq) ⟨Sr, Sr, trivial⟩ call219) (Zf rfl (aW Sr) (bj (aF ?_)))))
 exact aK (t := 4) rfl () Sr
theorem tU (k : Gnode) : Fun1 prog 225 [bm.ty k] (tV (.int .i64 k.size.rows)) := by
 refine Spec.enter func225 rfl rfl fun h0 w0 fr0 => ?_
 refine Jr (Zs (aJ (R := bm) Sr) (Za (ae (Jr (Zs (aa eC Sr rfl) ?_)))))
 refine Zs (aa ci Sr rfl) (Zl ty3 Sr (Za (ae (aF ?_))))
 exact aK (t := 2) rfl () Sr
theorem tX (x : Gplanner) (a k : Gnode) (bo : Nat) (ha : a.Plan.Attrs.length <= 1000000) (hb : k.Plan.Attrs.length <= 1000000) (hm : MkOk x (GPl.mk 4 0 [] [] [] 0 0 (bL a.Plan.Attrs k.Plan.Attrs)) [a, k]) : Spec (X := Unit) prog 226 [bm.ty k, bx bu x, tAt bo 0] ([box bo 152 bm a]) (fun _ => tV (.int .i64 (bw x a k).size.rows)) (fun _ => [box bo 152 bm a]) := by
 refine Spec.enter func226 rfl rfl fun h0 w0 fr0 => ?_
 refine Jr (Zs (aJ (R := bm) Sr) (Za (ae (Jr (Zl dy Sr ?_)))))
 refine Zs (aN bp Sr zS) ?_
 refine Zl bp Sr (Zs (ai (jj x a k ha hb hm) ⟨Sr, Sr, Sr, trivial⟩ call223) (Zs (cI eC Sr rfl) (Zs (cI ci Sr rfl) (Za (ae ?_)))))
 refine aF ?_
 exact aK (t := 4) rfl () Sr
theorem ms (x : Int) : Fun1 prog 276 [tV (.int .i64 x)] (tV (.bool (!decide (x = x)))) := by
 refine Spec.enter func276 rfl rfl fun h0 w0 fr0 => ?_
 refine Jr (Za (ae (Jr (Zm (Zm ?_)))))
 refine Zs (bb Sr Sr) (Za (ae (aF ?_)))
 exact aK (t := 2) rfl () Sr
theorem tY (x y : Int) : Fun1 prog 201 [tV (.int .i64 x), tV (.int .i64 y)] (tV (.bool (decide (x < y)))) := by
 refine Spec.enter func201 rfl rfl fun h0 w0 fr0 => ?_
 refine Jr (Za (ae (Jr (Zm (Zs (ai (ms x) ⟨Sr, trivial⟩ call276) ?_)))))
 refine Zm ?_
 refine Zk (al Sr) ?_
 refine Zg (fun hw => ai (ms y) ⟨(Sub.w hw), trivial⟩ call276) (Zg (fun hw => bf (Sub.w hw)) (Zs (aw Sr Sr) (Zm ?_)))
 refine Zk (al Sr) ?_
 refine Zk (al Sr) ?_
 refine Zg (fun hw => aA (Sub.w hw) (Sub.w hw)) (Zs (az Sr Sr) (Za (ae (aF ?_))))
 refine aK (t := 4) rfl () (Sub.bool (by simp))
theorem m7 (l : List Int) (hl : l.length <= 1000000000) : Fun1 prog 227 [tSl bg l] (tV (.bool (eD l))) := by
 refine Spec.enter func227 rfl rfl fun h0 w0 fr0 => ?_
 refine Jr (Za (ae (ar (Jr (Zm ?_)))))
 refine Zs (ah underlying36 Sr) (Zs (dN Sr Sr z6) (Za (ae (av ?_))))
 refine aO (σ := Int) (fun i => -1 <= i /\ i <= (l.length : Int) - 1 /\ za l i.toNat = true) (fun i => upd (upd cg 0 (tSl bg l)) 3 (tV (.int .i64 i))) (fun i => []) (fun i => i.toNat) ((l.length : Int) - 1) ⟨by omega, by omega, yg zG⟩ (zU) (LSub.rfl) ?_
 rintro i hi
 refine ar (Jr (Zm (Zs (bD Sr Sr) (ae ?_))))
 refine au Sr (fun h8 => ?_) (fun h8 => ?_)
 ·
  try simp only [NF] at h8
  have hst := wg (l := l) (i := i.toNat - 1) zG
  rw [show i.toNat - 1 + 1 = i.toNat by omega] at hst
  refine ay (ar (av (ar ?_)))
  refine bl [⟨0, [0], true⟩, ⟨1, [3], true⟩, ⟨2, [11, 12], true⟩, ⟨3, [13], true⟩, ⟨4, [0], true⟩, ⟨5, [3], true⟩, ⟨6, [16], true⟩, ⟨7, [15, 17], true⟩, ⟨8, [18], true⟩, ⟨9, [14, 19], true⟩] rfl (by kernel_rfl) ?_
  refine Zv rfl (Zv rfl (Zf rfl (ad (i := i.toNat) underlying36 ty3 Sr Sr zG (gb zG)) (Zf rfl (ab ty3 Sr) (Zv rfl (Zv rfl ?_)))))
  refine Zf rfl (dN Sr Sr z6) (Zf rfl (ad (i := (i.toNat - 1)) underlying36 ty3 Sr Sr zG (gb zG)) (Zf rfl (ab ty3 Sr) (Zf rfl (ai (tY (nth l i.toNat) (nth l (i.toNat - 1))) ⟨Sr, Sr, trivial⟩ call201) (bj ?_))))
  refine au Sr (fun h20 => ?_) (fun h20 => ?_)
  ·
   try simp only [NF] at h20
   refine Jr (Za (ae (aF ?_)))
   refine aK (t := 2) rfl () (Sub.bool (Eq.symm ?_))
   exact tQ (i := i.toNat - 1) zG (by rw [show i.toNat - 1 + 1 = i.toNat by omega]; exact h20)
  try simp only [NF] at h20
  refine ay (aq (Zm (Zs (dN Sr Sr z6) (Za (ae ?_)))))
  refine aE (σ := Int) (s := i) (i - 1) zO ?_ (zU) (LSub.rfl)
  refine ⟨by omega, by omega, ?_⟩
  rw [show (i - 1).toNat = i.toNat - 1 by omega, hst, hi.2.2, Bool.and_true, Bool.not_eq_true', decide_eq_false_iff_not]
  omega
 try simp only [NF] at h8
 have hi0 : i.toNat = 0 := by omega
 have hsb := hi.2.2
 rw [hi0, we] at hsb
 refine aY (Jr (Za (ae (aF ?_))))
 exact aK (t := 2) rfl () (Sub.bool hsb.symm)
theorem tZ (n : Nat) (hn : n <= 1000000) : Spec (X := Value) prog 220 [rV.ty (.slice none 0 0), tV (.int .i64 n)] ([]) (fun z => rV.ty z) (fun z => [own 93 be z []]) := by
 refine Spec.enter func220 rfl rfl fun h0 w0 fr0 => ?_
 refine Jr (Za (ae (ar (Jr (Zm ?_)))))
 refine Zs (aA Sr Sr) (ae ?_)
 refine au Sr (fun h6 => ?_) (fun h6 => ?_)
 ·
  try simp only [NF] at h6
  omega
 try simp only [NF] at h6
 refine ay (ar (Jr (Zm (Zm (Zs (kX underlying43 Sr) ?_)))))
 refine Zm (Zs (kY underlying43 Sr) (Zs (dN Sr Sr z6) (Zs (dN Sr Sr z6) (Za (ae ?_)))))
 refine Jr (Zm (Zs (bD Sr Sr) (ae ?_)))
 refine au Sr (fun h16 => ?_) (fun h16 => ?_)
 ·
  try simp only [NF] at h16
  refine aq (Zm (Zm (Zs (kX underlying43 Sr) (Zs (m6 underlying43 fd Sr Sr rfl) (Zm ?_)))))
  refine Zx (lu (n := n) underlying43 underlying3 pr Sr Sr zG zG zG zG) fun v22 => ?_
  refine Zm (Zs (kY underlying43 Sr) ?_)
  refine Zx (iU (n := 0) underlying43 fd Sr Sr (by rfl) zS (by exact Nat.zero_le _)) fun v25 => ?_
  refine Za (ae (Jr (Zm (Za (ae ?_)))))
  refine aF ?_
  refine cW (rv := .tmp 4) rfl v25 (.tmp Sr) Sr
 try simp only [NF] at h16
 refine ay (Jr (Zm (Za (ae (aF ?_)))))
 refine bZ (DB (e := 93) (R := be)) ?_
 refine cW (rv := .tmp 4) rfl (.slice none 0 0 : Value) (.tmp Sr) Sr
theorem qf (ls : List (List GTest)) (hn : ls.length <= 1000) (hl : ls.flatten.length <= 1000000) : Spec (X := Value) prog 152 [tSl (rSl be) ls] ([]) (fun z => rV.ty z) (fun z => [own 93 be z ls.flatten]) := by
 refine Spec.enter func152 rfl rfl fun h0 w0 fr0 => ?_
 refine Jr (Za (ae (Jr (Za (ae ?_)))))
 refine ar (Jr (Zm (Zs (ah underlying241 Sr) (Zm (ae ?_)))))
 refine av ?_
 refine aO (σ := Nat) (fun i => i <= ls.length) (fun i => upd (upd (upd (upd (upd (upd cg 0 (tSl (rSl be) ls)) 2 (tV (.slice none 0 0))) 3 (tV (.int .i64 ((ls.take i).flatten.length : Nat)))) 9 (tSl (rSl be) ls)) 10 (tV (.int .i64 ls.length))) 11 (tV (.int .i64 i))) (fun i => []) (fun i => ls.length - i) 0 (by exact Nat.zero_le _) (zU) (LSub.rfl) ?_
 rintro i hi
 refine Jr (Zs (aA Sr Sr) (ae (ar ?_)))
 refine au Sr (fun h12 => ?_) (fun h12 => ?_)
 ·
  try simp only [NF] at h12
  have hlt : i < ls.length := by omega
  refine ay (ar (av (Jr ?_)))
  refine Zs (ad (i := i) underlying241 iN Sr Sr (by rfl) (gb (by exact hlt))) ?_
  refine Zl iN Sr (Za (ae (Jr (Zm (Zm ?_)))))
  refine Zs (ah underlying43 Sr) ?_
  refine Zs (aB Sr Sr (by have := rM (ls := ls) (i := i + 1); rw [iq hlt, List.length_append] at this; unfold fe; omega)) ?_
  refine Za (ae (Jr (Zm (Zs (aA Sr Sr) (ae ?_)))))
  refine au Sr (fun h20 => ?_) (fun h20 => ?_)
  ·
   try simp only [NF] at h20
   omega
  try simp only [NF] at h20
  refine ay (aq (Zs (aB Sr Sr z6) (Zm (ae ?_))))
  refine aE (σ := Nat) (s := i) (i + 1) zO zG (.u (.u (.u (SubE.upd (Sub.int (by rw [iq hlt, List.length_append, Int.natCast_add])) (zU))))) (LSub.rfl)
 try simp only [NF] at h12
 obtain rfl : i = ls.length := by omega
 refine aY (Jr (Zm ?_))
 refine Zx (bz (Dz _) (tZ ls.flatten.length hl) ⟨DG rfl, Sub.int (by rw [List.take_length]), trivial⟩ call220) fun v24 => ?_
 refine Za (ae (ar (Jr (Zm (Zs (ah underlying241 Sr) ?_)))))
 refine Zm (ae (av ?_))
 refine aO (σ := Nat × Value) (fun ⟨i, vo⟩ => i <= ls.length) (fun ⟨i, vo⟩ => upd (upd (upd (upd (upd cg 2 (tV (.slice none 0 0))) 6 (rV.ty vo)) 25 (tSl (rSl be) ls)) 26 (tV (.int .i64 ls.length))) 27 (tV (.int .i64 i))) (fun ⟨i, vo⟩ => [own 93 be vo (ls.take i).flatten]) (fun ⟨i, vo⟩ => ls.length - i) (0, v24) (by exact Nat.zero_le _) (zU) (zL) ?_
 rintro ⟨i, vo⟩ hi
 try dsimp only at hi
 refine Jr (Zs (aA Sr Sr) (ae (ar ?_)))
 refine au Sr (fun h28 => ?_) (fun h28 => ?_)
 ·
  try simp only [NF] at h28
  have hlt : i < ls.length := by omega
  refine ay (ar (av (Jr ?_)))
  refine Zs (ad (i := i) underlying241 iN Sr Sr (by rfl) (gb (by exact hlt))) ?_
  refine Zl iN Sr (Za (ae (aq (Zm (Zm ?_)))))
  refine Zx (aL underlying43 pr Sr Sr zS (by have := rM (ls := ls) (i := i + 1); rw [iq hlt, List.length_append] at this; omega) (by have := rM (ls := ls) (i := i + 1); rw [iq hlt, List.length_append] at this; omega)) fun v33 => ?_
  refine Za (ae (aq (Zs (aB Sr Sr z6) (Zm (ae ?_)))))
  refine aE (σ := Nat × Value) (s := (i, vo)) (i + 1, v33) zO (by show i + 1 <= _; omega) (zU) (.c zS (SPs.of (A := own 93 be v33 ((ls.take i).flatten ++ nth ls i)) (by rw [iq hlt])) (LSub.nil))
 try simp only [NF] at h28
 obtain rfl : i = ls.length := by omega
 refine aY (Jr (Zm (Za (ae (aF ?_)))))
 refine bZ (L' := [own 93 be vo ls.flatten]) (.c zS (SPs.of (A := own 93 be vo (ls.take ls.length).flatten) (by rw [List.take_length])) (LSub.nil)) ?_
 refine cW (rv := .tmp 2) rfl vo (.tmp Sr) Sr
theorem rN (l : List Gnode) (hl : l.length <= 1000000000) : Spec (X := Value) prog 291 [tSl bm l] ([]) (fun v => rV.ty v) (fun v => [own 152 bm v l]) := by
 refine Spec.enter func291 rfl rfl fun h0 w0 fr0 => ?_
 refine Jr (Za (ae (ar (Jr (Zm ?_)))))
 refine Zx (d8 underlying197 Sr) fun v4 => ?_
 refine ae ?_
 refine au Sr (fun h4 => ?_) (fun h4 => ?_)
 ·
  try simp only [NF] at h4
  refine Jr (Za (ae (aF ?_)))
  have hl0 := v4.2 h4
  subst hl0
  refine bZ (DB (e := 152) (R := bm)) ?_
  refine aZ (rv := .tmp 2) rfl (.slice none 0 0) (Dz _) (.tmp (DG rfl)) (Frz.sub Sr)
 try simp only [NF] at h4
 refine ay (Jr ?_)
 refine Zx (cx (ys := []) underlying197 fW trivial rfl (by decide)) fun v5 => ?_
 refine Zm ?_
 refine Zx (aL underlying197 fW Sr Sr zS (by simp; omega) (by simp; omega)) fun v7 => ?_
 refine Za (ae (aF ?_))
 refine aZ (rv := .tmp 2) rfl v7 (Dz _) (.tmp Sr) (Frz.sub Sr)
theorem qg (v : Value) (l : List Gnode) (i : Nat) (hi : i < l.length) (hl : l.length <= 1000000000) : Spec (X := Value) prog 290 [rV.ty v, tV (.int .i64 i), tV (.int .i64 ((i : Int) + 1))] ([own 152 bm v l]) (fun z => rV.ty z) (fun z => [own 152 bm z (l.eraseIdx i)]) := by
 refine Spec.enter func290 rfl rfl fun h0 w0 fr0 => ?_
 refine wh zS zG fun hsh => ?_
 refine Jr (Za (ae (Jr (Zm (Zm ?_)))))
 refine Zm (Zm ?_)
 refine Zs (cj underlying197 Sr zS) ?_
 refine Zs (rK (j := i) (k := i + 1) (l := l.length) underlying197 bp Sr Sr Sr Sr rfl rfl rfl zS zG zG zG) ?_
 refine ae (ar (Jr (Zm (Zm (Zs (aC Sr Sr) ?_)))))
 refine ae ?_
 refine au Sr (fun h16 => ?_) (fun h16 => ?_)
 ·
  try simp only [NF] at h16
  omega
 try simp only [NF] at h16
 refine ay (Jr (Zm ?_))
 refine Zs (cj underlying197 Sr zS) ?_
 refine Za (ae (ar ?_))
 refine cl [⟨0, [0], 0⟩, ⟨1, [1], 0⟩, ⟨3, [0], 0⟩, ⟨4, [2], 0⟩, ⟨2, [20, 21], 1⟩, ⟨5, [23, 24], 1⟩, ⟨6, [22, 25], 2⟩, ⟨7, [26], 0⟩] rfl (by kernel_rfl) ?_
 refine ZX rfl (al Sr) ?_
 refine ZX rfl (al Sr) ?_
 refine ZX rfl (al Sr) ?_
 refine ZX rfl (al Sr) ?_
 refine bW rfl rfl rfl rfl (wb (k := i) underlying197 bp Sr Sr rfl zS hi) ?_
 refine bW rfl rfl rfl rfl (tP (k := i + 1) underlying197 bp Sr Sr rfl zS hi zG) ?_
 refine dq rfl rfl rfl rfl (yf (i := i) underlying197 fW Sr Sr zS hi) fun _ => ?_
 refine ZX rfl (aW Sr) ?_
 refine cC (Jr (Zm (Zm ?_)))
 refine Zs (oF underlying197 Sr zS (by rw [dP hi]; omega)) ?_
 refine Zm ?_
 refine Zs (wc (xs := vZ l i) underlying197 bp (by rw [dP hi]; exact Sr) Sr Sr (by rw [dP hi]) (by rw [dP hi]) zS (by rw [dP hi]; omega)) ?_
 refine Ju (rL (xs := vZ l i) underlying197 fW Sr zS (by rw [dP hi]; omega)) fun _ => ?_
 refine ae (Jr (Zm (Za (ae (aF ?_)))))
 refine bZ (L' := [own 152 bm (headV v (l.length - 1)) (l.eraseIdx i)]) (LSub.trans (LSub.headV (k := l.length - 1) (by rw [List.length_append, List.length_take, dP hi, List.length_singleton]; omega) (by rw [List.length_append, List.length_singleton]; omega)) (LSub.of (by rw [Af hi]))) ?_
 refine cW (rv := .tmp 6) rfl (headV v (l.length - 1)) (.tmp (Ae hsh)) Sr
theorem jX (l : List Gnode) (f : Gnode -> Int) (gf : Nat) (As : List Ty) (B : SP) (hp : ∀ k ∈ l, Spec (X := Unit) prog gf ([bm.ty k] ++ As) [B] (fun _ => tV (.int .i64 (f k))) (fun _ => [B])) (he : ∀ args w, (callFunc gf args).run prog w = .ok (.enter gf args) w) (h0l : 0 < l.length) (hl : l.length <= 1000000) : Spec (X := Unit) prog 224 [tSl bm l, g4 gf As] ([B]) (fun _ => fA [bm.ty (bC f l).1, tSl bm (bC f l).2]) (fun _ => [B]) := by
 refine Spec.enter func224 rfl rfl fun h0 w0 fr0 => ?_
 refine Jr ?_
 refine Zx (aD (fun w => zeroValue152 w) fM) fun b4 => ?_
 refine Za (ae (Jr (Za (ae (ar ?_)))))
 refine Jr (Zm (Zs (ah underlying197 Sr) (Zm (ae (av ?_)))))
 refine aO (σ := Nat) (fun i => i <= l.length) (fun i => upd (upd (upd (upd (upd (upd (upd (upd cg 0 (tSl bm l)) 1 (g4 gf As)) 4 (tAt b4 0)) 5 (tV (.slice none 0 0))) 6 (tV (.int .i64 ((cheapI f l i) : Nat)))) 9 (tSl bm l)) 10 (tV (.int .i64 l.length))) 11 (tV (.int .i64 i))) (fun i => [box b4 152 bm ⟨GPl.zero, dF⟩, B]) (fun i => l.length - i) 0 (by exact Nat.zero_le _) (zU) (zL) ?_
 rintro i hi
 refine Jr (Zs (aA Sr Sr) (ae (ar ?_)))
 refine au Sr (fun h12 => ?_) (fun h12 => ?_)
 ·
  try simp only [NF] at h12
  have hlt : i < l.length := by omega
  have hci := qe (f := f) h0l hi
  refine ay (ar (av (Jr (Zm ?_))))
  refine Zs (ad (i := i) underlying197 bp Sr Sr (by rfl) (gb (by exact hlt))) ?_
  refine Zl bp Sr ?_
  refine Zx (aD (fun w => zeroValue152 w) fM) fun b8 => ?_
  refine Za ?_
  refine Ju (aj bp Sr Sr zS) fun _ => ?_
  refine bc (t := 8) (Sel.take (Dz _)) Frz.box ?_
  refine ae (ar ?_)
  refine bl [⟨0, [1], true⟩, ⟨1, [8], true⟩, ⟨3, [1], true⟩, ⟨4, [0], true⟩, ⟨5, [6], true⟩, ⟨6, [20, 21], true⟩, ⟨7, [22], true⟩, ⟨2, [16, 17], false⟩, ⟨8, [19, 23], false⟩, ⟨9, [18, 24], true⟩] rfl (by kernel_rfl) ?_
  refine Zv rfl (Zf rfl (ab bp Sr) (Zv rfl (Zv rfl (Zv rfl ?_))))
  refine Zf rfl (ad (i := (cheapI f l i)) underlying197 bp Sr Sr (by rfl) (gb (by exact hci))) ?_
  refine Zf rfl (ab bp Sr) ?_
  refine cB rfl rfl rfl rfl (ki (aT := [_]) Sr zS (hp _ (aH hlt)) ⟨Sr, trivial⟩ he) fun v18 => ?_
  refine cB rfl rfl rfl rfl (ki (aT := [_]) Sr zS (hp _ (aH hci)) ⟨Sr, trivial⟩ he) fun v24 => ?_
  refine Zf rfl (aA Sr Sr) (bj ?_)
  refine au Sr (fun h25 => ?_) (fun h25 => ?_)
  ·
   try simp only [NF] at h25
   refine aq (Zm (Za (ae (aq (Zs (aB Sr Sr z6) ?_)))))
   refine Zm (ae ?_)
   refine aE (σ := Nat) (s := i) (i + 1) zO zG (.u (.u (.u (SubE.upd (Sub.int (by rw [gS, if_pos h25])) (zU))))) (zL)
  try simp only [NF] at h25
  refine ay (aq (Zs (aB Sr Sr z6) (Zm (ae ?_))))
  refine aE (σ := Nat) (s := i) (i + 1) zO zG (.u (.u (.u (SubE.upd (Sub.int (by rw [gS, if_neg zG])) (zU))))) (zL)
 try simp only [NF] at h12
 obtain rfl : i = l.length := by omega
 have hcl := qe (f := f) h0l (Nat.le_refl _)
 refine aY (ar ?_)
 refine cl [⟨0, [0], 0⟩, ⟨1, [6], 0⟩, ⟨2, [28, 29], 0⟩, ⟨3, [30], 0⟩, ⟨4, [0], 0⟩, ⟨6, [6], 0⟩, ⟨7, [6], 0⟩, ⟨8, [35], 0⟩, ⟨5, [32], 2⟩, ⟨9, [33, 34, 36], 2⟩, ⟨10, [4, 31], 2⟩, ⟨11, [37], 0⟩] rfl (by kernel_rfl) ?_
 refine ZX rfl (al Sr) ?_
 refine ZX rfl (al Sr) ?_
 refine ZX rfl (ad (i := (cheapI f l l.length)) underlying197 bp Sr Sr (by rfl) (gb (by exact hcl))) ?_
 refine ZX rfl (ab bp Sr) ?_
 refine ZX rfl (al Sr) ?_
 refine ZX rfl (al Sr) ?_
 refine ZX rfl (al Sr) ?_
 refine ZX rfl (aB Sr Sr z6) ?_
 refine dq rfl rfl rfl rfl (bz (Dz _) (rN l zG) ⟨Sr, trivial⟩ call291) fun v33 => ?_
 refine dq rfl rfl rfl rfl (bz zS (qg v33 l (cheapI f l l.length) hcl zG) ⟨Sr, Sr, Sr, trivial⟩ call290) fun v37 => ?_
 refine bI rfl rfl rfl (aj bp Sr Sr zS) fun _ => ?_
 refine ZX rfl (aW Sr) ?_
 refine cC (aF ?_)
 refine bJ (rv := .cell 4 152) (rv' := .tmp 5) (S := [_, _]) rfl () (by first | exact Sel.take (Sel.take (Dz _)) | exact Sel.take (Sel.skip (Sel.take (Dz _))) | exact Sel.skip (Sel.take (Sel.take (Dz _)))) (.cell (R := bm) bp Sr zS Sr) (.tmp Sr) (B := bm.ty (bC f l).1) (B' := tSl bm (bC f l).2) (Frz.sub Sr) (by first | exact Frz.own | exact Frz.skip Frz.own) Sr
def inK (n : Nat) (k : aG) : List aG := if k.Kind = 4 then inputsM n k else [k]
theorem mu (n : Nat) (p : aG) : inputsM (n + 1) p = p.Kids.flatMap (inK n) := rfl
def tPl (q : aG) : List Ty := [bO.ty q]
theorem mv {n : Nat} {l : List aG} {i : Nat} (h : i < l.length) : (l.take (i + 1)).flatMap (inK n) = (l.take i).flatMap (inK n) ++ inK n (nth l i) := by rw [dM h, List.flatMap_append]; simp
theorem wi {n : Nat} {l : List aG} {i : Nat} (h : i < l.length) : (l.take i).flatMap (inK n) ++ inK n (nth l i) <+: l.flatMap (inK n) := by
  rw [<- mv h]
  conv => rhs; rw [<- List.take_append_drop (i + 1) l, List.flatMap_append]
  exact List.prefix_append _ _
theorem rO {n : Nat} {k : aG} (h : k.Kind = 4) : inK n k = inputsM n k := if_pos h
theorem t6 {n : Nat} {k : aG} (h : ¬ k.Kind = 4) : inK n k = [k] := if_neg h
theorem zb {tot : List aG} {M Mx : List aG -> SP} : TyOf prog 102 (rY prog tPl (okP tot) M Mx) := ⟨fun w => isAgg102 w, fun w => sizeOf102 w⟩
def Cc (n : Nat) : Prop := ∀ p : aG, Dep n p -> PSz p -> lL prog 289 [bx bO p] [] tPl (okP (inputsM n p)) (fun l => l = inputsM n p)
theorem my (p : aG) : Fun1 prog 221 [bO.ty p] (g4 289 [bx bO p]) := by
 refine Spec.enter func221 rfl rfl fun h0 w0 fr0 => ?_
 refine Jr (Zs (aJ (R := bO) Sr) (Za (ae (Jr (Zs (bK (As := [_]) ⟨Sr, trivial⟩) ?_)))))
 refine Za (ae (aF ?_))
 exact aK (t := 2) rfl () Sr
theorem yh : Cc 0 := fun p hd => hd.elim
theorem qh (n : Nat) (ih : Cc n) (p : aG) (hd : Dep (n + 1) p) (hz : PSz p) : lL prog 289 [bx bO p] [] (tPl) (okP (inputsM (n + 1) p)) (fun l => l = (inputsM (n + 1) p)) := by
 intro M Mx
 refine Spec.enter func289 rfl rfl fun h0 w0 fr0 => ?_
 have hkl : p.Kids.length <= 9223372036854775807 := (hz 1).1
 refine Jr (Zs (aJ (R := rY prog tPl (okP (inputsM (n + 1) p)) M Mx) (y := ()) Sr) (ae (Jr (Zs (aa aX Sr rfl) (Zl dQ Sr ?_)))))
 refine Zs (ah underlying42 Sr) (Zm (ae (av ?_)))
 refine zt (σ := Nat × List Nat) (fun ⟨i, Ds⟩ => i <= p.Kids.length) (fun ⟨i, Ds⟩ => upd (upd (upd (upd cg 2 (bx (rY prog tPl (okP (inputsM (n + 1) p)) M Mx) ())) 7 (tSl dZ p.Kids)) 8 (tV (.int .i64 p.Kids.length))) 9 (tV (.int .i64 i))) (fun ⟨i, Ds⟩ => [M ((p.Kids.take i).flatMap (inK n)), stars (Ds.map dfB)]) (fun ⟨i, Ds⟩ => p.Kids.length - i) (fun ⟨i, Ds⟩ => Ds.map qR) (0, []) (by exact Nat.zero_le _) (zU) ((fun h m ⟨m1, m2, d, e, hm, he⟩ => ⟨m1, m2, d, e, hm, PH.emp, m2, DP _, (DN _).symm, rfl, he⟩)) rfl ?_
 rintro ⟨i, Ds⟩ hi
 try dsimp only at hi
 refine Jr (Zs (aA Sr Sr) (ae (ar ?_)))
 refine au Sr (fun h10 => ?_) (fun h10 => ?_)
 ·
  try simp only [NF] at h10
  have hlt : i < p.Kids.length := by omega
  refine ay (ar (av (Jr (Zs (ad (i := i) underlying42 eO Sr Sr rfl (gb hlt)) (Zs (ab ba DQ) ?_)))))
  refine Zx (aD (fun w => zeroValue46 w) fL) fun v4 => ?_
  refine Ju (aj ba Sr Sr zS) fun _ => ?_
  refine bc (t := 4) (Sel.take (Dz _)) Frz.box ?_
  refine ae (ar (Jr (Zs (aa aX Sr rfl) (Zl ty3 Sr (Zs (bb Sr Sr) ?_)))))
  refine ae ?_
  refine au Sr (fun h15 => ?_) (fun h15 => ?_)
  ·
   try simp only [NF] at h15
   refine ar (Jr (Zl zb Sr (Zl ba Sr ?_)))
   refine Zx (ko (T := tPl) (Ok := okP (inputsM (n + 1) p)) (M := M) (Mx := Mx) (pre := ((p.Kids.take i).flatMap (inK n))) (y := (nth p.Kids i)) Sr (by show _ <+: _; rw [<- t6 (n := n) (show ¬ (nth p.Kids i).Kind = 4 from h15)]; exact wi hlt) (by exact ⟨Sr, trivial⟩) zS) fun v18 => ?_
   cases v18
   ·
    skip
    refine Zs (bf Sr) (ae ?_)
    refine au Sr (fun hc3 => ?_) (fun hc3 => ?_)
    ·
     try simp only [NF] at hc3
     refine aF ?_
     refine lN (Ds := Ds) (L' := [Mx (((p.Kids.take i).flatMap (inK n)) ++ [(nth p.Kids i)])]) ?_ ?_
     ·
      exact zL
     refine nX (Fin := fun p_1 => p_1 = (inputsM (n + 1) p)) (M := M) (Mx := Mx) (A := []) ?_ (((p.Kids.take i).flatMap (inK n)) ++ [(nth p.Kids i)]) ?_
     ·
      rfl
     exact LSub.of rfl
    try simp only [NF] at hc3
    exfalso; simp_all
   skip
   refine Zs (bf Sr) (ae ?_)
   refine au Sr (fun hc4 => ?_) (fun hc4 => ?_)
   ·
    try simp only [NF] at hc4
    exfalso; simp_all
   try simp only [NF] at hc4
   refine ay (aY (aq (Zs (aB Sr Sr z6) (Zm (ae ?_)))))
   refine so (σ := Nat × List Nat) (s := (i, Ds)) (i + 1, Ds) zO (by show i + 1 <= _; omega) (zU) (.c zS (SPs.of (A := M (((p.Kids.take i).flatMap (inK n)) ++ [(nth p.Kids i)])) (by rw [mv hlt, t6 (show ¬ (nth p.Kids i).Kind = 4 from h15)])) (zL)) rfl
  try simp only [NF] at h15
  refine ay (Jr (Zl ba Sr (Zs (ai (my _) ⟨Sr, trivial⟩ call221) (ae (av ?_)))))
  refine qU (A := []) (T := tPl) (Ok := okP (inputsM n (nth p.Kids i))) (Fin := fun l => l = inputsM n (nth p.Kids i)) (R := [stars (Ds.map dfB)]) (fun xs => M (((p.Kids.take i).flatMap (inK n)) ++ xs)) (fun c xs => stars [SP.pure (c = .ret), Mx (((p.Kids.take i).flatMap (inK n)) ++ xs)]) rfl (fun _ => rfl) rfl (ih (nth p.Kids i) (hd _ (aH hlt)) (fj hz (aH hlt)).1) Sr call289 (.c zS (SPs.of (by rw [List.append_nil])) (zL)) ?round1 ?done1 ?stop1
  case round1 =>
   intro l1 rec1 h2 w2 fr2 pre y hle1 hst1 hpd1 hdj1 hok
   refine aq ?_
   refine Zx (aD (fun w => zeroValue46 w) fL) fun v5 => ?_
   refine Ju (aj ba Sr Sr zS) fun _ => ?_
   refine bc (t := 5) (Sel.take (Dz _)) Frz.box ?_
   refine ae ?_
   refine qS hst1 hdj1 ?_
   refine av (Jr (Zl zb Sr (Zl ba Sr ?_)))
   refine Zx (ko (T := tPl) (Ok := okP (inputsM (n + 1) p)) (M := M) (Mx := Mx) (pre := ((p.Kids.take i).flatMap (inK n)) ++ pre) (y := y) Sr (by show _ <+: _; rw [List.append_assoc]; refine List.IsPrefix.trans ((List.prefix_append_right_inj _).2 hok) ?_; rw [<- rO (n := n) (show (nth p.Kids i).Kind = 4 from h15)]; exact wi hlt) (by exact ⟨Sr, trivial⟩) zS) fun v25 => ?_
   cases v25
   ·
    skip
    refine Zs (bf Sr) (ae ?_)
    refine au Sr (fun hc5 => ?_) (fun hc5 => ?_)
    ·
     try simp only [NF] at hc5
     refine aF ?_
     refine xm ?_
     exact LSub.cons zS SPs.rfl (LSub.stars (LSub.pure rfl (.c zS (SPs.of (by first | (rw [List.append_assoc]; done) | (rw [List.append_assoc]; rfl))) LSub.nil)))
    try simp only [NF] at hc5
    exfalso; simp_all
   skip
   refine Zs (bf Sr) (ae ?_)
   refine au Sr (fun hc6 => ?_) (fun hc6 => ?_)
   ·
    try simp only [NF] at hc6
    exfalso; simp_all
   try simp only [NF] at hc6
   refine ay ?_
   refine nW hst1 hpd1 ?_
   exact .r zS (.c zS (SPs.of (by first | (rw [List.append_assoc]; done) | (rw [List.append_assoc]; rfl))) (LSub.nil))
  case done1 =>
   intro D1 xs hfin
   subst hfin
   refine aq (Zs (aB Sr Sr z6) (Zm (ae ?_)))
   refine so (σ := Nat × List Nat) (s := (i, Ds)) (i + 1, D1 :: Ds) zO (by show i + 1 <= _; omega) (zU) (LSub.trans (B := [dfB D1, stars (Ds.map dfB), M (((p.Kids.take i).flatMap (inK n)) ++ inputsM n (nth p.Kids i))]) (zL) (LSub.trans LSub.push (.c zS (SPs.of (A := M (((p.Kids.take i).flatMap (inK n)) ++ inputsM n (nth p.Kids i))) (by rw [mv hlt, rO (show (nth p.Kids i).Kind = 4 from h15)])) (zL)))) rfl
  case stop1 =>
   intro D1 c1 xs
   refine lK (uy fun hcc => ?_)
   subst hcc
   refine aF ?_
   refine lN (Ds := D1 :: Ds) (L' := [Mx (((p.Kids.take i).flatMap (inK n)) ++ xs)]) ?_ ?_
   ·
    exact LSub.trans (B := [dfB D1, stars (Ds.map dfB), Mx (((p.Kids.take i).flatMap (inK n)) ++ xs)]) (zL) LSub.push
   refine nX (Fin := fun p_1 => p_1 = (inputsM (n + 1) p)) (M := M) (Mx := Mx) (A := []) ?_ (((p.Kids.take i).flatMap (inK n)) ++ xs) ?_
   ·
    rfl
   exact LSub.of rfl
 try simp only [NF] at h10
 obtain rfl : i = p.Kids.length := by omega
 refine aY ?_
 refine sn (lN (L' := [M ((p.Kids.take p.Kids.length).flatMap (inK n))]) (zL) (sm (Fin := fun p_1 => p_1 = (inputsM (n + 1) p)) (M := M) (Mx := Mx) (A := []) ?_ (inputsM (n + 1) p) rfl ?_))
 ·
  rfl
 exact LSub.of (by rw [List.take_length]; rfl)
theorem sO : ∀ n, Cc n
  | 0 => yh
  | n + 1 => fun p hd hz => qh n (sO n) p hd hz
section
variable {x : Gplanner}
theorem wj {p : aG} {ks : List Gnode} (hk : ∀ k ∈ ks, NGd x k) : (makeM x p ks).Plan.Kids.map (cd x) = ks := by
 show (ks.map Gnode.Plan).map (cd x) = ks
 rw [List.map_map]
 conv => rhs; rw [<- List.map_id ks]
 exact List.map_congr_left fun k hk' => (hk k hk').w
theorem fy {p : aG} {ks : List Gnode} (hk : ∀ k ∈ ks, NGd x k) (h : NGd x (makeM x p ks)) : MkOk x p ks := by
 obtain ⟨e1, _⟩ := iI.1 h.e
 rw [wj hk] at e1
 exact p9 e1 rfl rfl rfl rfl
theorem jY {b : Nat} {n : Gnode} (h : PI x b n) {ts : List GTest} (hl : ts.length <= 1000) (ht : TIn n.Plan.Attrs.length ts) : ¬ ts.length = 0 -> MkOk x (GPl.mk 2 0 [] ts [] 0 0 n.Plan.Attrs) [n] := fun h0 => by
 have h1 := (jW h hl ht).1.g
 rw [fX, if_neg h0] at h1
 exact fy (fun k hk => by rw [List.mem_singleton] at hk; subst hk; exact h.g) h1
theorem wk {b : Nat} {k l : Gnode} (h : PI x b k) (h2 : PI x b l) : ∀ q ∈ [k, l], NGd x q := fun q hq => by
 rcases List.mem_cons.1 hq with rfl | hq
 · exact h.g
 · rw [List.mem_singleton] at hq; subst hq; exact h2.g
theorem wl {b : Nat} {k l : Gnode} (h : PI x b k) (h2 : PI x b l) (hl : (bL k.Plan.Attrs l.Plan.Attrs).length <= 1000) : MkOk x (GPl.mk 4 0 [] [] [] 0 0 (bL k.Plan.Attrs l.Plan.Attrs)) [k, l] :=
 fy (wk h h2) (kD h h2 hl).g
theorem qi {b : Nat} {k : Gnode} (h : PI x b k) : ∀ q ∈ [k], NGd x q := fun q hq => by
 rw [List.mem_singleton] at hq; subst hq; exact h.g
structure JnOk (x : Gplanner) (b : Nat) (U : List ByteArray) (out : Gnode) (rest : List Gnode) : Prop where
 l : U.length <= 1000
 o : PI x b out
 k : ∀ k ∈ rest, PI x b k
 n : (nmL out.Plan.Attrs).Nodup
 kn : ∀ k ∈ rest, (nmL k.Plan.Attrs).Nodup
 u : ∀ n ∈ nmL out.Plan.Attrs, n ∈ U
 ku : ∀ k ∈ rest, ∀ n ∈ nmL k.Plan.Attrs, n ∈ U
theorem JnOk.len {b : Nat} {U : List ByteArray} {out : Gnode} {rest : List Gnode} (h : JnOk x b U out rest) {k : Gnode} (hk : k ∈ rest) : (bL out.Plan.Attrs k.Plan.Attrs).length <= 1000 := by
 have hnd := jg h.n (h.kn _ hk)
 have hjU : ∀ n ∈ nmL (bL out.Plan.Attrs k.Plan.Attrs), n ∈ U := fun n q => (ik.1 q).elim (h.u n) (h.ku _ hk n)
 have := hQ hnd hjU
 have := h.l
 rw [dz] at *; omega
theorem JnOk.mk1 {b : Nat} {U : List ByteArray} {out : Gnode} {rest : List Gnode} (h : JnOk x b U out rest) {k : Gnode} (hk : k ∈ rest) : MkOk x (GPl.mk 4 0 [] [] [] 0 0 (bL out.Plan.Attrs k.Plan.Attrs)) [out, k] := wl h.o (h.k _ hk) (h.len hk)
theorem JnOk.next {b : Nat} {U : List ByteArray} {out : Gnode} {rest : List Gnode} (h : JnOk x b U out rest) (hl : 0 < rest.length) (f : Gnode -> Int) : JnOk x b U (bw x out (bC f rest).1) (bC f rest).2 := by
 have hm := im (f := f) hl
 have hp := iJ (f := f) hl
 have hsub : ∀ k ∈ (bC f rest).2, k ∈ rest := fun k hk => hp.mem_iff.1 (List.mem_cons_of_mem _ hk)
 exact ⟨h.l, kD h.o (h.k _ hm) (h.len hm), fun k hk => h.k k (hsub k hk), jg h.n (h.kn _ hm), fun k hk => h.kn k (hsub k hk), fun n q => (ik.1 q).elim (h.u n) (h.ku _ hm n), fun k hk => h.ku k (hsub k hk)⟩
theorem mz {n : Nat} {out : Gnode} {rest : List Gnode} (h : rest.length = 0) : d5 x n out rest = out := by
 cases n with
 | zero => rfl
 | succ n => rw [d5, if_pos h]
theorem kE {n : Nat} {out : Gnode} {rest : List Gnode} (h : ¬ rest.length = 0) : d5 x (n + 1) out rest = d5 x n (bw x out (bC (fun k => (bw x out k).size.rows) rest).1) (bC (fun k => (bw x out k).size.rows) rest).2 := by
 rw [d5, if_neg h]
theorem qj (x : Gplanner) {b : Nat} {U : List ByteArray} : ∀ {n : Nat} {out : Gnode} {rest : List Gnode}, JnOk x b U out rest -> rest.length <= n -> JnOk x b U (d5 x n out rest) []
 | 0, out, rest, h, _ => ⟨h.l, h.o, fun k hk => (by cases hk), h.n, fun k hk => (by cases hk), h.u, fun k hk => (by cases hk)⟩
 | n + 1, out, rest, h, hl => by
   by_cases h0 : rest.length = 0
   · rw [mz h0]; exact ⟨h.l, h.o, fun k hk => (by cases hk), h.n, fun k hk => (by cases hk), h.u, fun k hk => (by cases hk)⟩
   · rw [kE h0]
     have := eE (f := fun k => (bw x out k).size.rows) (l := rest) (by omega)
     exact qj x (h.next (by omega) _) (by omega)
abbrev fO : Gnode -> Int := fun k => k.size.rows
structure JoinF (x : Gplanner) (p : aG) (m : Nat) (st : List Gnode × List GTest) : Prop where
 l : st.1.length = m
 l2 : 2 <= st.1.length
 k : ∀ k ∈ st.1, PI x 1000 k
 t : TIn p.Attrs.length st.2
 tl : st.2.length <= 1000
 two : st.1.length = 2 -> (bL (nth st.1 0).Plan.Attrs (nth st.1 1).Plan.Attrs).length = p.Attrs.length
 many : JnOk x 1000 (nmL p.Attrs) (bC fO st.1).1 (bC fO st.1).2
 nd : (nmL p.Attrs).Nodup
 mem : ∀ n, n ∈ nmL (d5 x st.1.length (bC fO st.1).1 (bC fO st.1).2).Plan.Attrs ↔ n ∈ nmL p.Attrs
theorem gD (hst : StOk x) {n l : Nat} {p : aG} {ts : List GTest} (hd : Dep (n + 1) p) (hv : validM x.s l p = true) (hz : PSz p) (k : p.Kind = 4) (ht : TIn p.Attrs.length ts) (hl : ts.length + gQ (n + 1) p <= 1000) :
  ∀ i, i <= (inputsM (n + 1) p).length ->
  (joinFold (pushM x n) p ((inputsM (n + 1) p).take i) ts).1.length = i /\ (∀ j, j < i -> nmL (nth (joinFold (pushM x n) p ((inputsM (n + 1) p).take i) ts).1 j).Plan.Attrs = nmL (nth (inputsM (n + 1) p) j).Attrs) /\ (∀ k ∈ (joinFold (pushM x n) p ((inputsM (n + 1) p).take i) ts).1, PI x (ts.length - (joinFold (pushM x n) p ((inputsM (n + 1) p).take i) ts).2.length + gQ (n + 1) p) k) ∧
   TIn p.Attrs.length (joinFold (pushM x n) p ((inputsM (n + 1) p).take i) ts).2 /\ (joinFold (pushM x n) p ((inputsM (n + 1) p).take i) ts).2.length <= ts.length := by
 obtain ⟨i1, i2, i3, i4⟩ := io hd hv hz k
 exact vT (x := x) (push := pushM x n) (p := p) (P := gQ (n + 1) p) (qs := inputsM (n + 1) p) (ts := ts) (fun q hq ts' h1 h2 => by
  obtain ⟨q1, ⟨l2, q2⟩, q3, q4, q5⟩ := i1 q hq
  obtain ⟨h3, h4⟩ := mo hst n q1 q2 q3 h1 (by omega)
  exact ⟨h3.le (by omega), h4⟩) ht hl
theorem nM (hst : StOk x) {n l : Nat} {p : aG} {ts : List GTest} (hd : Dep (n + 1) p) (hv : validM x.s l p = true) (hz : PSz p) (k : p.Kind = 4) (ht : TIn p.Attrs.length ts) (hl : ts.length + gQ (n + 1) p <= 1000) :
  JoinF x p (inputsM (n + 1) p).length (joinFold (pushM x n) p (inputsM (n + 1) p) ts) := by
 have hsz := il hz
 obtain ⟨i1, i2, i3, i4⟩ := io hd hv hz k
 obtain ⟨_, _, hpn⟩ := i7 hv
 have hf := gD hst hd hv hz k ht hl _ (Nat.le_refl _)
 rw [List.take_length] at hf
 generalize joinFold (pushM x n) p (inputsM (n + 1) p) ts = st at hf
 obtain ⟨ls, tt⟩ := st
 obtain ⟨f1, f2, f3, f4, f5⟩ := hf
 simp only at f1 f2 f3 f4 f5
 have hl0 : 0 < ls.length := by omega
 have hmemq : ∀ a ∈ ls, ∃ q ∈ inputsM (n + 1) p, nmL a.Plan.Attrs = nmL q.Attrs := fun a ha => by
  obtain ⟨i, hi, rfl⟩ := List.getElem_of_mem ha
  refine ⟨nth (inputsM (n + 1) p) i, aH (by omega), ?_⟩
  rw [<- nth_get hi]; exact f2 i (by omega)
 have hnd : ∀ a ∈ ls, (nmL a.Plan.Attrs).Nodup := fun a ha => by
  obtain ⟨q, hq, e⟩ := hmemq a ha
  obtain ⟨q1, ⟨l2, q2⟩, _⟩ := i1 q hq
  rw [e]; exact (i7 q2).2.2
 have hU : ∀ a ∈ ls, ∀ m ∈ nmL a.Plan.Attrs, m ∈ nmL p.Attrs := fun a ha m hm => by
  obtain ⟨q, hq, e⟩ := hmemq a ha
  rw [e] at hm
  exact (i2 m).2 ⟨q, hq, hm⟩
 have hP : ∀ a ∈ ls, PI x 1000 a := fun a ha => (f3 a ha).le (by omega)
 have c1 := im (f := fO) hl0
 have c2 := eE (f := fO) hl0
 have c3 := iJ (f := fO) hl0
 have c4 : ∀ a ∈ (bC fO ls).2, a ∈ ls := fun a ha => c3.mem_iff.1 (List.mem_cons_of_mem _ ha)
 refine ⟨f1, by show 2 <= ls.length; omega, hP, f4, by show tt.length <= _; omega, fun h2 => ?_, ⟨by rw [dz]; exact hsz.2.2, hP _ c1, fun a ha => hP a (c4 a ha), hnd _ c1, fun a ha => hnd a (c4 a ha), hU _ c1, fun a ha => hU a (c4 a ha)⟩, hpn, fun m => ?_⟩
 · have h2 : ls.length = 2 := h2
   have hkeq := i4 (by omega)
   have g0 : nmL (nth ls 0).Plan.Attrs = nmL (nth p.Kids 0).Attrs := by rw [f2 0 (by omega), hkeq]
   have g1 : nmL (nth ls 1).Plan.Attrs = nmL (nth p.Kids 1).Attrs := by rw [f2 1 (by omega), hkeq]
   have hjn : nmL (bL (nth ls 0).Plan.Attrs (nth ls 1).Plan.Attrs) = nmL p.Attrs := by rw [vn4 hv k]; exact jU g0 g1
   exact cE hjn
 · show m ∈ nmL (d5 x ls.length (bC fO ls).1 (bC fO ls).2).Plan.Attrs ↔ _
   obtain ⟨d1, d2, d3⟩ := sK (x := x) (U := nmL p.Attrs) (by rw [dz]; exact hsz.2.2) ls.length (bC fO ls).1 (bC fO ls).2 (by omega) (hP _ c1) (fun a ha => hP a (c4 a ha)) (hnd _ c1) (fun a ha => hnd a (c4 a ha)) (hU _ c1) (fun a ha => hU a (c4 a ha))
   rw [d3, i2]
   constructor
   · rintro (h | ⟨a, ha, h⟩)
     · obtain ⟨q, hq, e⟩ := hmemq _ c1
       exact ⟨q, hq, by rw [<- e]; exact h⟩
     · obtain ⟨q, hq, e⟩ := hmemq _ (c4 a ha)
       exact ⟨q, hq, by rw [<- e]; exact h⟩
   · rintro ⟨q, hq, h⟩
     obtain ⟨i, hi, rfl⟩ := List.getElem_of_mem hq
     rw [<- nth_get hi, <- f2 i (by omega)] at h
     rcases List.mem_cons.1 (c3.mem_iff.2 (aH (l := ls) (i := i) (by omega))) with e | hm
     · exact .inl (by rw [<- e]; exact h)
     · exact .inr ⟨_, hm, h⟩
theorem mB {p : aG} {b : Nat} {out : Gnode} (hj : JnOk x b (nmL p.Attrs) out []) (hn : (nmL p.Attrs).Nodup) (he : ∀ n, n ∈ nmL out.Plan.Attrs ↔ n ∈ nmL p.Attrs) (ha : p.Attrs.length <= 1000) :
  PI x b (fY x p out) /\ (fY x p out).Plan.Attrs.length = p.Attrs.length /\ d9 out.Plan.Attrs.length (colsOf p out) /\ (¬ eD (colsOf p out) = true -> MkOk x (GPl.mk 3 0 [] [] (colsOf p out) 0 0 (bv out.Plan.Attrs (colsOf p out))) [out]) := by
 obtain ⟨o1, o2, o3⟩ := oA hj.o hj.n hn he ha
 refine ⟨o1, cE o2, o3, fun h => ?_⟩
 unfold fY at o1
 rw [if_neg h] at o1
 exact fy (qi hj.o) o1.g
end
end Lg
