/- A part of the proofs of the laws of cleanselaw33 and cleanselaw36: contracts of functions that the law reaches, and facts about what they compute. -/
import Derived.Test.YtecikhenhjphfaaGreatDoorG
import Derived.Test.YtecikhenhjphfaaGreatDoorCards
import Derived.Test.YtecikhenhjphfaaGreatDoorTie
import Derived.Lib.LaidTab
import Derived.Stop.LaidErr
import Derived.ProofKit
import Derived.OpenShut
import Derived.Deep.DeepHandedRow
import Derived.Lay
set_option linter.unusedVariables false
set_option linter.unusedSimpArgs false
set_option linter.unusedSectionVars false
set_option maxHeartbeats 16000000
namespace Lg
open Go Go.Proofs Go.Proofs.Tryz
def EL (q : GConj) (n : Int) : Bool := (List.range q.Atoms.length).all (fun i => decide ((nth q.Atoms i).Cols.length <= 14) && decide ((nth q.Atoms i).Terms.length <= 14)) && decide ((q.Atoms.length : Int) <= n) && decide (q.Consts.length <= 30) && decide (q.Vars <= 40)
theorem uJ {x y : GAtom} (h1 : x.Table = y.Table) (h2 : x.Key = y.Key) (h3 : x.Cols = y.Cols) (h4 : x.Terms = y.Terms) : x = y := by cases x; cases y; simp_all
theorem uK {x y : GConj} (h1 : x.Vars = y.Vars) (h2 : x.Consts = y.Consts) (h3 : x.Atoms = y.Atoms) : x = y := by cases x; cases y; simp_all
instance : DecidableEq GAtom := fun a b => decidable_of_iff (a.Table = b.Table /\ a.Key = b.Key /\ a.Cols = b.Cols /\ a.Terms = b.Terms) ⟨fun ⟨h1, h2, h3, h4⟩ => uJ h1 h2 h3 h4, fun h => by subst h; exact ⟨rfl, rfl, rfl, rfl⟩⟩
instance : DecidableEq GConj := fun a b => decidable_of_iff (a.Vars = b.Vars /\ a.Consts = b.Consts /\ a.Atoms = b.Atoms) ⟨fun ⟨h1, h2, h3⟩ => uK h1 h2 h3, fun h => by subst h; exact ⟨rfl, rfl, rfl⟩⟩
structure GAtomC where
  Table : Int
  Cols : Value
  Terms : List Int
  Key : Int
def DT : GAtomC := { Table := 0, Cols := Value.slice none 0 0, Terms := [], Key := 0 }
def y8 : List (SF GAtomC) := [⟨Int, 3, aO, GAtomC.Table⟩, ⟨Value, 27, rV, GAtomC.Cols⟩, ⟨List Int, 27, rSl aO, GAtomC.Terms⟩, ⟨Int, 3, aO, GAtomC.Key⟩]
abbrev uL : Rp GAtomC := aU y8
theorem DU : TyOf prog 88 uL := ⟨fun w => isAgg88 w, fun w => sizeOf88 w⟩
theorem CL : StructOf prog 88 y8 := ⟨⟨_, underlying88, ⟨rfl, rfl, ty3, by decide, ⟨rfl, rfl, fR, by decide, ⟨rfl, rfl, dn, by decide, ⟨rfl, rfl, ty3, by decide, trivial⟩⟩⟩⟩⟩, DU⟩
theorem EM : ∀ h, (uL.ty DT).p h (.agg #[Value.int .i64 0, Value.slice none 0 0, Value.slice none 0 0, Value.int .i64 0]) := fun _ => ⟨_, ⟨[Value.int .i64 0], _, rfl, rfl, ⟨[Value.slice none 0 0], _, rfl, ⟨rfl, rfl⟩, ⟨[Value.slice none 0 0], _, rfl, ⟨_, rfl, none, ⟨0, Nat.le_refl _⟩, rfl, fun q => absurd rfl q⟩, ⟨[Value.int .i64 0], _, rfl, rfl, rfl⟩⟩⟩⟩, rfl⟩
theorem Frz.atomC {b : Nat} {t k : Int} {vc : Value} {cols terms : List Int} {S : List SP} : Frz (Lg.box b 88 uL ⟨t, vc, terms, k⟩ :: Lg.own 3 aO vc cols :: S) (tAt b 0) (bx cg ⟨t, cols, terms, k⟩) :=
  GD fun h m cs d hs r => by
    obtain ⟨c0, _, rfl, r0, c1, _, rfl, r1, c2, _, rfl, r2, c3, _, rfl, r3, rz⟩ := r
    exact ⟨c0, _, rfl, aO.mono (FM h m) r0, c1, _, rfl, ⟨_, r1.1, Gk h m vc d hs rfl⟩, c2, _, rfl, (rSl aO).mono (FM h m) r2, c3, _, rfl, aO.mono (FM h m) r3, rz⟩
def idL (n : Nat) : List Int := (List.range n).map fun (i : Nat) => (i : Int)
theorem AT (n : Nat) : idL (n + 1) = idL n ++ [(n : Int)] := by simp [idL, List.range_succ]
theorem y9 (n : Nat) : (idL n).length = n := by simp [idL]
theorem ir {C : Cx} {o : Oper} {E : Env} {L : List SP} {A B : Ty} (h : a8 C o E L A) (s : A = B) : a8 C o E L B := s ▸ h
theorem AU (q : GConj) (n : Int) (hl : q.Atoms.length <= 9223372036854775807) : Fun1 prog 17 [bK.ty q, tV (.int .i64 n)] (tV (.bool (EL q n))) := by
 refine Spec.enter func17 rfl rfl fun h0 w0 fr0 => ?_
 refine Jr (Zs (aF (R := bK) Sr) (Za (ab (ap (Jr ?_)))))
 refine Za (ab (au ?_))
 refine aK (σ := Nat) (fun i => i <= q.Atoms.length /\ ∀ i2, i2 < i -> (decide ((nth q.Atoms i2).Cols.length <= 14) && decide ((nth q.Atoms i2).Terms.length <= 14)) = true) (fun i => upd (upd (upd co 1 (tV (.int .i64 n))) 2 (bx bK q)) 5 (tV (.int .i64 i))) (fun i => []) (fun i => q.Atoms.length - i) 0 ⟨Nat.zero_le _, fun k hk => by omega⟩ (zU) (LSub.rfl) ?_
 rintro i ⟨hi, hv⟩
 refine ap (Jr (Zm (Zs (aa ft Sr rfl) (Zl lx Sr (Zs (ag underlying47 Sr) ?_)))))
 refine Zs (az Sr Sr) (ab ?_)
 refine am Sr (fun h10 => ?_) (fun h10 => ?_)
 ·
  try simp only [NF] at h10
  have hlt : i < q.Atoms.length := by omega
  refine av (ap (au (Jr (Zs (aa ft Sr rfl) (Zl lx Sr ?_)))))
  refine Zm ?_
  refine Zs (ae (i := i) underlying47 gO Sr Sr (by rfl) (gb (by exact hlt))) ?_
  refine Zs (aa fY Sr rfl) (Zl dn Sr (Zs (ag underlying27 Sr) (Zs (bj Sr Sr) (Zm ?_))))
  refine Zk (aa ft Sr rfl) ?_
  refine Zg (fun hw => ad lx (Sub.w hw)) ?_
  refine Zk (ar Sr) ?_
  refine Zg (fun hw => ae (i := i) underlying47 gO (Sub.w hw) (Sub.w hw) (by rfl) (gb (by have hwq := hw; (try simp only [beqB_t, beqB_f, NF] at hwq); exact hlt))) ?_
  refine Zg (fun hw => aa fY (Sub.w hw) rfl) (Zg (fun hw => ad dn (Sub.w hw)) (Zg (fun hw => ag underlying27 (Sub.w hw)) (Zg (fun hw => bj (Sub.w hw) Sr) (Zs (aD Sr Sr) (ab ?_)))))
  refine am Sr (fun h30 => ?_) (fun h30 => ?_)
  ·
   try simp only [NF] at h30
   refine Jr (Za (ab (aC ?_)))
   refine aI (t := 4) rfl () ?_
   refine Sub.bool ?_
   have h1 : (decide ((nth q.Atoms i).Cols.length <= 14) && decide ((nth q.Atoms i).Terms.length <= 14)) = false := by
    rcases h30 with h | h
    ·
     rw [decide_eq_false zG]; rfl
    rw [decide_eq_false (p := (nth q.Atoms i).Terms.length <= 14) zG, Bool.and_false]
   unfold EL; rw [f9 (f := fun i => (decide ((nth q.Atoms i).Cols.length <= 14) && decide ((nth q.Atoms i).Terms.length <= 14))) hlt h1]; simp
  try simp only [NF] at h30
  refine av (ah (Zm (Zs (ax Sr Sr z6) (Za (ab ?_)))))
  refine ay (σ := Nat) (s := i) (i + 1) zO ?_ (zU) (LSub.rfl)
  refine ⟨by omega, fun k hk => ?_⟩
  by_cases e : k = i
  ·
   subst e
   rw [decide_eq_true zG, decide_eq_true zG]; rfl
  exact hv k zG
 try simp only [NF] at h10
 refine aV (Jr (Zs (aa ft Sr rfl) (Zl lx Sr (Zs (ag underlying47 Sr) (Zm ?_)))))
 refine Zs (bS Sr Sr) (Zm ?_)
 refine Zk (aa ft Sr rfl) ?_
 refine Zg (fun hw => ad dt (Sub.w hw)) (Zg (fun hw => ag underlying45 (Sub.w hw)) (Zg (fun hw => bS (Sub.w hw) Sr) (Zs (aw Sr Sr) (Zm ?_))))
 refine Zk (aa ft Sr rfl) ?_
 refine Zg (fun hw => ad ty3 (Sub.w hw)) (Zg (fun hw => bS (Sub.w hw) Sr) (Zs (aw Sr Sr) (Za (ab (aC ?_)))))
 refine aI (t := 4) rfl () ?_
 refine Sub.bool ?_
 have h2 : (List.range q.Atoms.length).all (fun i => (decide ((nth q.Atoms i).Cols.length <= 14) && decide ((nth q.Atoms i).Terms.length <= 14))) = true := fE (fun k hk => hv k zG)
 unfold EL; rw [h2]
 have e1 : decide ((q.Consts.length : Int) <= 30) = decide (q.Consts.length <= 30) := by simp; omega
 first | (rw [<- e1]; simp [Bool.and_assoc]) | simp [Bool.and_assoc]
theorem rO (a b : List Int) (hb : b.length <= 4398046511104) : Fun1 prog 85 [tSl aO a, tSl aO b] (tV (.bool (decide (a = b)))) := by
 refine Spec.enter func85 rfl rfl fun h0 w0 fr0 => ?_
 refine Jr (Za (ab (ap (Jr (Zm ?_)))))
 refine Zs (ag underlying27 Sr) (Zm (Zs (ag underlying27 Sr) (Zs (be Sr Sr) (ab ?_))))
 refine am Sr (fun h10 => ?_) (fun h10 => ?_)
 ·
  try simp only [NF] at h10
  refine Jr (Za (ab (aC ?_)))
  refine aI (t := 4) rfl () ?_
  refine Sub.bool ?_
  exact (decide_eq_false (fun e => h10 (by rw [e]))).symm
 try simp only [NF] at h10
 have hab : a.length = b.length := by omega
 refine av (ap (Jr (Za (ab (au ?_)))))
 refine aK (σ := Nat) (fun i => i <= a.length /\ a.take i = b.take i) (fun i => upd (upd (upd co 0 (tSl aO a)) 1 (tSl aO b)) 5 (tV (.int .i64 i))) (fun i => []) (fun i => a.length - i) 0 ⟨Nat.zero_le _, by simp⟩ (zU) (LSub.rfl) ?_
 rintro i ⟨hi, hv⟩
 refine ap (Jr (Zm (Zm (Zs (ag underlying27 Sr) (Zs (az Sr Sr) ?_)))))
 refine ab ?_
 refine am Sr (fun h14 => ?_) (fun h14 => ?_)
 ·
  try simp only [NF] at h14
  have hlt : i < a.length := by omega
  have hlb : i < b.length := by omega
  refine av (ap (au (ap ?_)))
  refine bQ [⟨0, [0], true⟩, ⟨1, [5], true⟩, ⟨2, [17, 18], true⟩, ⟨3, [19], true⟩, ⟨4, [1], true⟩, ⟨5, [5], true⟩, ⟨6, [21, 22], true⟩, ⟨7, [23], true⟩, ⟨8, [20, 24], true⟩] rfl (by kernel_rfl) ?_
  refine Zv rfl (Zv rfl ?_)
  refine Zf rfl (ae (i := i) underlying27 ty3 Sr Sr (by rfl) (gb (by exact hlt))) ?_
  refine Zf rfl (ad ty3 Sr) (Zv rfl (Zv rfl ?_))
  refine Zf rfl (ae (i := i) underlying27 ty3 Sr Sr (by rfl) (gb zG)) ?_
  refine Zf rfl (ad ty3 Sr) (Zf rfl (be Sr Sr) (bP ?_))
  refine am Sr (fun h25 => ?_) (fun h25 => ?_)
  ·
   try simp only [NF] at h25
   have hne : ¬ nth a i = nth b i := by first | exact h25 | simpa using h25
   refine Jr (Za (ab (aC ?_)))
   refine aI (t := 4) rfl () ?_
   refine Sub.bool ?_
   exact (decide_eq_false (fun e => hne (by rw [e]))).symm
  try simp only [NF] at h25
  have heq : nth a i = nth b i := by first | exact h25 | simpa using h25
  refine av (ah (Zm (Zs (ax Sr Sr z6) (Za (ab ?_)))))
  refine ay (σ := Nat) (s := i) (i + 1) zO ⟨by omega, by rw [di hlt, di hlb, hv, heq]⟩ (zU) (LSub.rfl)
 try simp only [NF] at h14
 obtain rfl : i = a.length := by omega
 refine aV (Jr (Za (ab (aC ?_))))
 refine aI (t := 4) rfl () ?_
 refine Sub.bool ?_
 refine (decide_eq_true ?_).symm
 rw [List.take_length, hab, List.take_length] at hv; exact hv
theorem za (a b : List GValue) (hb : b.length <= 4398046511104) : Fun1 prog 29 [tSl rValue a, tSl rValue b] (tV (.bool (decide (a = b)))) := by
 refine Spec.enter func29 rfl rfl fun h0 w0 fr0 => ?_
 refine Jr (Za (ab (ap (Jr (Zm ?_)))))
 refine Zs (ag underlying45 Sr) (Zm (Zs (ag underlying45 Sr) (Zs (be Sr Sr) (ab ?_))))
 refine am Sr (fun h10 => ?_) (fun h10 => ?_)
 ·
  try simp only [NF] at h10
  refine Jr (Za (ab (aC ?_)))
  refine aI (t := 4) rfl () ?_
  refine Sub.bool ?_
  exact (decide_eq_false (fun e => h10 (by rw [e]))).symm
 try simp only [NF] at h10
 have hab : a.length = b.length := by omega
 refine av (ap (Jr (Za (ab (au ?_)))))
 refine aK (σ := Nat) (fun i => i <= a.length /\ a.take i = b.take i) (fun i => upd (upd (upd co 0 (tSl rValue a)) 1 (tSl rValue b)) 5 (tV (.int .i64 i))) (fun i => []) (fun i => a.length - i) 0 ⟨Nat.zero_le _, by simp⟩ (zU) (LSub.rfl) ?_
 rintro i ⟨hi, hv⟩
 refine ap (Jr (Zm (Zm (Zs (ag underlying45 Sr) (Zs (az Sr Sr) ?_)))))
 refine ab ?_
 refine am Sr (fun h14 => ?_) (fun h14 => ?_)
 ·
  try simp only [NF] at h14
  have hlt : i < a.length := by omega
  have hlb : i < b.length := by omega
  refine av (ap (au (ap ?_)))
  refine bQ [⟨0, [0], true⟩, ⟨1, [5], true⟩, ⟨2, [17, 18], true⟩, ⟨3, [19], true⟩, ⟨4, [1], true⟩, ⟨5, [5], true⟩, ⟨6, [21, 22], true⟩, ⟨7, [23], true⟩, ⟨8, [20, 24], true⟩] rfl (by kernel_rfl) ?_
  refine Zv rfl (Zv rfl ?_)
  refine Zf rfl (ae (i := i) underlying45 bZ Sr Sr (by rfl) (gb (by exact hlt))) ?_
  refine Zf rfl (ad bZ Sr) (Zv rfl (Zv rfl ?_))
  refine Zf rfl (ae (i := i) underlying45 bZ Sr Sr (by rfl) (gb zG)) ?_
  refine Zf rfl (ad bZ Sr) (Zf rfl (k5 Sr Sr) (bP ?_))
  refine am Sr (fun h25 => ?_) (fun h25 => ?_)
  ·
   try simp only [NF] at h25
   have hne : ¬ nth a i = nth b i := by first | exact h25 | simpa using h25
   refine Jr (Za (ab (aC ?_)))
   refine aI (t := 4) rfl () ?_
   refine Sub.bool ?_
   exact (decide_eq_false (fun e => hne (by rw [e]))).symm
  try simp only [NF] at h25
  have heq : nth a i = nth b i := by first | exact h25 | simpa using h25
  refine av (ah (Zm (Zs (ax Sr Sr z6) (Za (ab ?_)))))
  refine ay (σ := Nat) (s := i) (i + 1) zO ⟨by omega, by rw [di hlt, di hlb, hv, heq]⟩ (zU) (LSub.rfl)
 try simp only [NF] at h14
 obtain rfl : i = a.length := by omega
 refine aV (Jr (Za (ab (aC ?_))))
 refine aI (t := 4) rfl () ?_
 refine Sub.bool ?_
 refine (decide_eq_true ?_).symm
 rw [List.take_length, hab, List.take_length] at hv; exact hv
theorem rP (a b : GConj) (hc : b.Consts.length <= 1000000000) (ha : b.Atoms.length <= 1000000000) (hx : ∀ x ∈ b.Atoms, x.Cols.length <= 1000000000 /\ x.Terms.length <= 1000000000) : Fun1 prog 40 [bK.ty a, bK.ty b] (tV (.bool (decide (a = b)))) := by
 refine Spec.enter func40 rfl rfl fun h0 w0 fr0 => ?_
 refine Jr (Zs (aF (R := bK) Sr) (Zs (aF (R := bK) Sr) (Za (ab (ap ?_)))))
 refine Jr (Zs (aa ft Sr rfl) (Zl ty3 Sr (Zs (aa ft Sr rfl) (Zl ty3 Sr (Zs (be Sr Sr) ?_)))))
 refine Zm ?_
 refine Zk (aa ft Sr rfl) ?_
 refine Zg (fun hw => ad dt (Sub.w hw)) ?_
 refine Zk (aa ft Sr rfl) ?_
 refine Zg (fun hw => ad dt (Sub.w hw)) (Zg (fun hw => aj (za a.Consts b.Consts zG) ⟨(Sub.w hw), (Sub.w hw), trivial⟩ call29) (Zg (fun hw => bc (Sub.w hw)) (Zs (aD Sr Sr) (Zm ?_))))
 refine Zk (aa ft Sr rfl) ?_
 refine Zg (fun hw => ad lx (Sub.w hw)) (Zg (fun hw => ag underlying47 (Sub.w hw)) ?_)
 refine Zk (aa ft Sr rfl) ?_
 refine Zg (fun hw => ad lx (Sub.w hw)) (Zg (fun hw => ag underlying47 (Sub.w hw)) (Zg (fun hw => be (Sub.w hw) (Sub.w hw)) (Zs (aD Sr Sr) (ab ?_))))
 refine am Sr (fun h29 => ?_) (fun h29 => ?_)
 ·
  try simp only [NF] at h29
  refine Jr (Za (ab (aC ?_)))
  refine aI (t := 4) rfl () ?_
  refine Sub.bool ?_
  refine (decide_eq_false (fun e => ?_)).symm
  subst e
  simp at h29
 try simp only [NF] at h29
 obtain ⟨⟨hv1, hv2⟩, hv3⟩ := h29
 have hab : a.Atoms.length = b.Atoms.length := by omega
 have hv2 : a.Consts = b.Consts := by simpa using hv2
 refine av (ap (Jr (Za (ab (au ?_)))))
 refine aK (σ := Nat) (fun i => i <= a.Atoms.length /\ a.Atoms.take i = b.Atoms.take i) (fun i => upd (upd (upd co 2 (bx bK a)) 3 (bx bK b)) 5 (tV (.int .i64 i))) (fun i => []) (fun i => a.Atoms.length - i) 0 ⟨Nat.zero_le _, by simp⟩ (zU) (LSub.rfl) ?_
 rintro i ⟨hi, hv⟩
 refine ap (Jr (Zm (Zs (aa ft Sr rfl) (Zl lx Sr (Zs (ag underlying47 Sr) ?_)))))
 refine Zs (az Sr Sr) (ab ?_)
 refine am Sr (fun h34 => ?_) (fun h34 => ?_)
 ·
  try simp only [NF] at h34
  have hlt : i < a.Atoms.length := by omega
  have hlb : i < b.Atoms.length := by omega
  refine av (ap (au (ap ?_)))
  refine pj [] [⟨0, [2], 0⟩, ⟨1, [37], 0⟩, ⟨2, [5], 0⟩, ⟨3, [38, 39], 0⟩, ⟨4, [40], 0⟩, ⟨5, [3], 0⟩, ⟨6, [42], 0⟩, ⟨7, [5], 0⟩, ⟨8, [43, 44], 0⟩, ⟨9, [45], 0⟩] [⟨10, [], 6, SP.emp, fun v => tAt (vN v) 0, fun v => box (vN v) 88 cg uT⟩, ⟨11, [], 7, SP.emp, fun v => tAt (vN v) 0, fun v => box (vN v) 88 cg uT⟩] [⟨12, [6, 41], 2⟩, ⟨13, [7, 46], 2⟩] (L := []) (LSub.trans LSub.emp LSub.emp) rfl (by kernel_rfl) (Nat.le_of_ble_eq_true rfl) ?_
  refine ba rfl rfl rfl rfl (fun _ => aa ft Sr rfl) ?_
  refine ba rfl rfl rfl rfl (fun _ => ad lx Sr) ?_
  refine ba rfl rfl rfl rfl (fun _ => ar Sr) ?_
  refine ba rfl rfl rfl rfl (fun _ => ae (i := i) underlying47 gO Sr Sr (by rfl) (gb (by exact hlt))) ?_
  refine ba rfl rfl rfl rfl (fun _ => ad gO Sr) ?_
  refine ba rfl rfl rfl rfl (fun _ => aa ft Sr rfl) ?_
  refine ba rfl rfl rfl rfl (fun _ => ad lx Sr) ?_
  refine ba rfl rfl rfl rfl (fun _ => ar Sr) ?_
  refine ba rfl rfl rfl rfl (fun _ => ae (i := i) underlying47 gO Sr Sr (by rfl) (gb (by exact hlb))) ?_
  refine ba rfl rfl rfl rfl (fun _ => ad gO Sr) ?_
  refine oo ?_
  refine ⟨⟨_, rfl, rfl, rfl, rfl, fun _ => by refine Gp ?_; exact Gt Es (aE (fun w => zeroValue88 w) zu) (fun _ => rfl) (fun _ => rfl)⟩, fun v6 => ?_⟩
  refine ⟨⟨_, rfl, rfl, rfl, rfl, fun _ => by refine Gp ?_; exact Gt Es (aE (fun w => zeroValue88 w) zu) (fun _ => rfl) (fun _ => rfl)⟩, fun v7 => ?_⟩
  refine qG ?_
  refine fB rfl rfl rfl (ai gO Sr Sr (Sel.skip (Sel.take (FN _)))) fun _ => ?_
  refine fB rfl rfl rfl (ai gO Sr Sr (Sel.skip (Sel.take (FN _)))) fun _ => ?_
  refine nT ?_
  refine cA (t := 7) (A' := bx cg (nth b.Atoms i)) (Sel.take (FN _)) Frz.box ?_
  refine cA (t := 6) (A' := bx cg (nth a.Atoms i)) (Sel.take (FN _)) Frz.box ?_
  refine Jr (Zs (aa fY Sr rfl) (Zl ty3 Sr (Zs (aa fY Sr rfl) (Zl ty3 Sr (Zs (be Sr Sr) ?_)))))
  refine Zm ?_
  refine Zk (aa fY Sr rfl) ?_
  refine Zg (fun hw => ad ty3 (Sub.w hw)) ?_
  refine Zk (aa fY Sr rfl) ?_
  refine Zg (fun hw => ad ty3 (Sub.w hw)) (Zg (fun hw => be (Sub.w hw) (Sub.w hw)) (Zs (aD Sr Sr) (Zm ?_)))
  refine Zk (aa fY Sr rfl) ?_
  refine Zg (fun hw => ad dn (Sub.w hw)) ?_
  refine Zk (aa fY Sr rfl) ?_
  refine Zg (fun hw => ad dn (Sub.w hw)) ?_
  refine Zg (fun hw => aj (rO (nth a.Atoms i).Cols (nth b.Atoms i).Cols (by have := hx _ (nth_mem hlb); omega)) ⟨(Sub.w hw), (Sub.w hw), trivial⟩ call85) ?_
  refine Zg (fun hw => bc (Sub.w hw)) (Zs (aD Sr Sr) (Zm ?_))
  refine Zk (aa fY Sr rfl) ?_
  refine Zg (fun hw => ad dn (Sub.w hw)) ?_
  refine Zk (aa fY Sr rfl) ?_
  refine Zg (fun hw => ad dn (Sub.w hw)) ?_
  refine Zg (fun hw => aj (rO (nth a.Atoms i).Terms (nth b.Atoms i).Terms (by have := hx _ (nth_mem hlb); omega)) ⟨(Sub.w hw), (Sub.w hw), trivial⟩ call85) ?_
  refine Zg (fun hw => bc (Sub.w hw)) (Zs (aD Sr Sr) (ab ?_))
  refine am Sr (fun h74 => ?_) (fun h74 => ?_)
  ·
   try simp only [NF] at h74
   refine Jr (Za (ab (aC ?_)))
   refine aI (t := 4) rfl () ?_
   refine Sub.bool ?_
   refine (decide_eq_false (fun e => ?_)).symm
   subst e
   simp at h74
  try simp only [NF] at h74
  have heq : (nth a.Atoms i) = (nth b.Atoms i) := by obtain ⟨⟨⟨q1, q2⟩, q3⟩, q4⟩ := h74; exact uJ q1 q2 (by simpa using q3) (by simpa using q4)
  refine av (ah (Zm (Zs (ax Sr Sr z6) (Za (ab ?_)))))
  refine ay (σ := Nat) (s := i) (i + 1) zO ⟨by omega, by rw [di hlt, di hlb, hv, heq]⟩ (zU) (LSub.rfl)
 try simp only [NF] at h34
 obtain rfl : i = a.Atoms.length := by omega
 refine aV (Jr (Za (ab (aC ?_))))
 refine aI (t := 4) rfl () ?_
 refine Sub.bool ?_
 refine (decide_eq_true ?_).symm
 rw [List.take_length, hab, List.take_length] at hv; exact uK hv1 hv2 hv
theorem dU (t k : Int) (ts : List Int) (hl : ts.length <= 1000000000) : Fun1 prog 39 [tV (.int .i64 t), tV (.int .i64 k), tSl aO ts] (cg.ty (atE t k ts)) := by
 refine Spec.enter func39 rfl rfl fun h0 w0 fr0 => ?_
 refine Jr ?_
 refine Zx (aE (fun w => zeroValue88 w) zu) fun v6 => ?_
 refine ab (Jr (Zm (Zm (Zm (Zs (aP (x := (⟨t, (.slice none 0 0), ts, k⟩ : GAtomC)) (zs := [[Value.int .i64 0], [Value.slice none 0 0], [Value.slice none 0 0], [Value.int .i64 0]]) CL (fun w => zeroValue88 w) ⟨Sr, Sr, Sr, trivial⟩ ⟨⟨Sr, rfl⟩, fun _ => ⟨rfl, rfl⟩, ⟨Sr, rfl⟩, ⟨Sr, rfl⟩, trivial⟩) ?_)))))
 refine Zx (aE (fun w => zeroValue88 w) EM) fun v7 => ?_
 refine Ju (ai DU Sr Sr zS) fun _ => ?_
 refine ab (ap (Jr (Za (ab (au ?_)))))
 refine aK (σ := Nat × Value) (fun ⟨i, vc⟩ => i <= ts.length) (fun ⟨i, vc⟩ => upd (upd (upd (upd co 2 (tSl aO ts)) 6 (tAt v6 0)) 7 (tAt v7 0)) 8 (tV (.int .i64 i))) (fun ⟨i, vc⟩ => [box v7 88 uL (⟨t, vc, ts, k⟩ : GAtomC), own 3 aO vc (idL i), box v6 88 cg uT]) (fun ⟨i, vc⟩ => ts.length - i) (0, (.slice none 0 0)) (by simp) (zU) (LSub.trans (FR (e := 3) (R := aO)) (zL)) ?_
 rintro ⟨i, vc⟩ hil
 try dsimp only at hil
 refine ap (Jr (Zm (Zm (Zs (ag underlying27 Sr) (Zs (az Sr Sr) ?_)))))
 refine ab ?_
 refine am Sr (fun h16 => ?_) (fun h16 => ?_)
 ·
  try simp only [NF] at h16
  have hlt : i < ts.length := by omega
  refine av (ap (au (ah (Zs (aq CL Sr rfl) ?_))))
  refine Zs (a6 fR Sr rfl zS) ?_
  refine Zm ?_
  refine Zs (aB (ys := [_]) underlying27 el3 ⟨rfl, Sr, trivial⟩ rfl (by decide)) ?_
  refine Zx (aH underlying27 el3 Sr Sr zS (by rw [y9]; simp; omega) (by rw [y9]; simp; omega)) fun v23 => ?_
  refine Zs (aq CL Sr rfl) ?_
  refine Ju (aS (R := rV) (y' := (⟨t, v23, ts, k⟩ : GAtomC)) fR Sr Sr zS (by exact ⟨rfl, ⟨fun _ _ q => q, rfl, by intro g hg; simp only [List.mem_cons, List.not_mem_nil, or_false] at hg; rcases hg with rfl | rfl <;> rfl⟩⟩)) fun _ => ?_
  refine ab (ah (Zm (Zs (ax Sr Sr z6) (Za (ab ?_)))))
  refine ay (σ := Nat × Value) (s := (i, vc)) (i + 1, v23) zO zG (zU) (.r zS (.c zS (SPs.of (A := own 3 aO v23 (idL i ++ [(i : Int)])) (by rw [AT])) (zL)))
 try simp only [NF] at h16
 obtain rfl : i = ts.length := by omega
 refine aV (ap ?_)
 refine cA (t := 7) (A' := bx cg (atE t k ts)) (Sel.take (Sel.take (FN _))) Frz.atomC ?_
 refine ah (Zl gO Sr ?_)
 refine Ju (ai gO Sr Sr zS) fun _ => ?_
 refine ab (aC ?_)
 refine aY (rv := .cell 6 88) rfl () (Sel.all _) (.cell gO Sr zS Sr) (Frz.sub Sr)
theorem iL (a b : GAtom) : Fun1 prog 38 [cg.ty a, cg.ty b] (bK.ty (boE a b)) := by
 refine Spec.enter func38 rfl rfl fun h0 w0 fr0 => ?_
 refine Jr (Zs (aF (R := cg) Sr) (Zs (aF (R := cg) Sr) ?_))
 refine Zx (aE (fun w => zeroValue49 w) zw) fun v4 => ?_
 refine ab (Jr (Zl gO Sr (Zl gO Sr ?_)))
 refine Zs (aB (ys := [_, _]) underlying47 CY ⟨rfl, Sr, rfl, Sr, trivial⟩ rfl (by decide)) ?_
 refine Zs (aP (x := (⟨3, [], [a, b]⟩ : GConj)) (zs := [[Value.int .i64 0], [Value.slice none 0 0], [Value.slice none 0 0]]) ft (fun w => zeroValue49 w) ⟨Sr, Sr, trivial⟩ ⟨⟨Sr, rfl⟩, fun _ => ⟨_, rfl, none, ⟨0, Nat.le_refl _⟩, rfl, fun q => absurd rfl q⟩, ⟨Sr, rfl⟩, trivial⟩) ?_
 refine Ju (ai g7 Sr Sr zS) fun _ => ?_
 refine ab (aC ?_)
 refine aY (rv := .cell 4 49) rfl () (Sel.all _) (.cell g7 Sr zS Sr) (Frz.sub Sr)
theorem ke (q : GConj) (x y f : Bool) (hq : bE q = true) (hl : fH q = [[false, x], [y, false]]) (hf : d8 q = f) : Fun1 prog 37 [bK.ty q, tV (.bool x), tV (.bool y), tV (.bool f)] (tV (.bool true)) := by
 refine Spec.enter func37 rfl rfl fun h0 w0 fr0 => ?_
 refine Jr (Zs (aF (R := bK) Sr) (Za (ab (Jr (Zl g7 Sr ?_)))))
 refine Zs (ir (B := fW [tSl (rSl bN) [[false, x], [y, false]], tV (.int .i64 0)]) (aj (lc q) (by exact ⟨Sr, trivial⟩) call83) (by rw [errV, if_pos hq, if_pos hq, hl])) ?_
 refine Zm (Zs (aL Sr rfl) (Zs (aL Sr rfl) (Za (Za (ab ?_)))))
 refine Jr (Zl g7 Sr ?_)
 refine Zs (ir (B := fW [tV (.bool f), tV (.int .i64 0)]) (aj (mt q) (by exact ⟨Sr, trivial⟩) call84) (by rw [errV, if_pos hq, hq, hf, Bool.true_and])) ?_
 refine Zm (Zs (aL Sr rfl) (Zs (aL Sr rfl) (Za (Za (ab ?_)))))
 refine Jr (Zm (Zs (aJ Sr Sr) (Zm ?_)))
 refine Zk (ar Sr) ?_
 refine Zg (fun hw => aJ (Sub.w hw) Sr) (Zs (aw Sr Sr) (Zm ?_))
 refine Zk (ar Sr) ?_
 refine Zk (ar Sr) ?_
 refine Zg (fun hw => dW underlying4 (Sub.w hw) (Sub.w hw)) (Zs (aw Sr Sr) (Zm ?_))
 refine Zk (ar Sr) ?_
 refine Zg (fun hw => ag underlying126 (Sub.w hw)) (Zg (fun hw => aJ (Sub.w hw) Sr) (Zs (aw Sr Sr) (Zm ?_)))
 refine Zk (ar Sr) ?_
 refine Zg (fun hw => ae (i := 0) underlying126 rY (Sub.w hw) Sr (by rfl) (gb (by have hwq := hw; (try simp only [beqB_t, beqB_f, NF] at hwq); simp [nth]))) ?_
 refine Zg (fun hw => ad rY (Sub.w hw)) (Zg (fun hw => ag underlying56 (Sub.w hw)) (Zg (fun hw => aJ (Sub.w hw) Sr) (Zs (aw Sr Sr) (Zm ?_))))
 refine Zk (ar Sr) ?_
 refine Zg (fun hw => ae (i := 1) underlying126 rY (Sub.w hw) Sr (by rfl) (gb (by have hwq := hw; (try simp only [beqB_t, beqB_f, NF] at hwq); simp [nth]))) ?_
 refine Zg (fun hw => ad rY (Sub.w hw)) (Zg (fun hw => ag underlying56 (Sub.w hw)) (Zg (fun hw => aJ (Sub.w hw) Sr) (Zs (aw Sr Sr) (Zm ?_))))
 refine Zk (ar Sr) ?_
 refine Zg (fun hw => ae (i := 0) underlying126 rY (Sub.w hw) Sr (by rfl) (gb (by have hwq := hw; (try simp only [beqB_t, beqB_f, NF] at hwq); simp [nth]))) ?_
 refine Zg (fun hw => ad rY (Sub.w hw)) ?_
 refine Zg (fun hw => ae (i := 1) underlying56 ty4 (Sub.w hw) Sr (by rfl) (gb (by have hwq := hw; (try simp only [beqB_t, beqB_f, NF] at hwq); simp [nth]))) ?_
 refine Zg (fun hw => ad ty4 (Sub.w hw)) ?_
 refine Zk (ar Sr) ?_
 refine Zg (fun hw => dW underlying4 (Sub.w hw) (Sub.w hw)) (Zs (aw Sr Sr) (Zm ?_))
 refine Zk (ar Sr) ?_
 refine Zg (fun hw => ae (i := 1) underlying126 rY (Sub.w hw) Sr (by rfl) (gb (by have hwq := hw; (try simp only [beqB_t, beqB_f, NF] at hwq); simp [nth]))) ?_
 refine Zg (fun hw => ad rY (Sub.w hw)) ?_
 refine Zg (fun hw => ae (i := 0) underlying56 ty4 (Sub.w hw) Sr (by rfl) (gb (by have hwq := hw; (try simp only [beqB_t, beqB_f, NF] at hwq); simp [nth]))) ?_
 refine Zg (fun hw => ad ty4 (Sub.w hw)) ?_
 refine Zk (ar Sr) ?_
 refine Zg (fun hw => dW underlying4 (Sub.w hw) (Sub.w hw)) (Zs (aw Sr Sr) (Zm ?_))
 refine Zk (ar Sr) ?_
 refine Zg (fun hw => ae (i := 0) underlying126 rY (Sub.w hw) Sr (by rfl) (gb (by have hwq := hw; (try simp only [beqB_t, beqB_f, NF] at hwq); simp [nth]))) ?_
 refine Zg (fun hw => ad rY (Sub.w hw)) ?_
 refine Zg (fun hw => ae (i := 0) underlying56 ty4 (Sub.w hw) Sr (by rfl) (gb (by have hwq := hw; (try simp only [beqB_t, beqB_f, NF] at hwq); simp [nth]))) ?_
 refine Zg (fun hw => ad ty4 (Sub.w hw)) (Zg (fun hw => bc (Sub.w hw)) (Zs (aw Sr Sr) (Zm ?_)))
 refine Zk (ar Sr) ?_
 refine Zg (fun hw => ae (i := 1) underlying126 rY (Sub.w hw) Sr (by rfl) (gb (by have hwq := hw; (try simp only [beqB_t, beqB_f, NF] at hwq); simp [nth]))) ?_
 refine Zg (fun hw => ad rY (Sub.w hw)) ?_
 refine Zg (fun hw => ae (i := 1) underlying56 ty4 (Sub.w hw) Sr (by rfl) (gb (by have hwq := hw; (try simp only [beqB_t, beqB_f, NF] at hwq); simp [nth]))) ?_
 refine Zg (fun hw => ad ty4 (Sub.w hw)) (Zg (fun hw => bc (Sub.w hw)) (Zs (aw Sr Sr) (Za (ab (aC ?_)))))
 refine aI (t := 8) rfl () ?_
 refine Sub.bool ?_
 simp [nth]
abbrev sA : ByteArray := ⟨#[97]⟩
abbrev sB : ByteArray := ⟨#[98]⟩
abbrev sTt : ByteArray := ⟨#[116]⟩
abbrev sX : ByteArray := ⟨#[120]⟩
abbrev exA : List GAttr := [⟨sA, 1, [], c9⟩, ⟨sB, 1, [], c9⟩]
abbrev exS : GSchema := ⟨[⟨sTt, exA, [1]⟩]⟩
abbrev exX : GValue := ⟨1, 0, sX⟩
abbrev exT : GTest := ⟨uU, 1, ⟨-1, 0, exX⟩, 0⟩
abbrev exT0 : GTest := ⟨uU, 1, uU, 0⟩
abbrev exP : aQ := GPl.mk 1 0 [] [] [] 0 0 exA
abbrev AV : aQ := GPl.mk 2 0 [exP] [exT] [] 0 0 exA
abbrev oJ : aQ := GPl.mk 2 0 [exP] [exT0] [] 0 0 exA
abbrev exQ1 : GConj := ⟨2, [], [⟨0, [1, 0], [0, 1], 1⟩]⟩
abbrev exQ2 : GConj := ⟨1, [exX], [⟨0, [1, 0], [0, -1], 1⟩]⟩
theorem EN : SchSz exS := ⟨by decide, fun t ht => by
  rw [List.mem_singleton.1 ht]
  exact ⟨by decide, by decide, by decide, by decide, by decide⟩⟩
theorem EO : ofM exS 1 exP = (exQ1, 0) := by decide +kernel
theorem EP : ofM exS 2 AV = (exQ2, 0) := by decide +kernel
theorem EQ : ofM exS 2 oJ = (oh, 11) := by decide +kernel
theorem CM : n8 1 exP := ⟨by decide, by decide, by decide, by decide, fun q hq => by cases hq⟩
theorem ER : n8 2 AV := ⟨by decide, by decide, by decide, by decide, fun q hq => by rw [List.mem_singleton.1 hq]; exact ⟨CM, by decide⟩⟩
theorem ES : n8 2 oJ := ⟨by decide, by decide, by decide, by decide, fun q hq => by rw [List.mem_singleton.1 hq]; exact ⟨CM, by decide⟩⟩
theorem zb : Dep 1 exP := by intro q hq; cases hq
theorem DV : Dep 2 AV := by intro q hq; rw [List.mem_singleton.1 hq]; exact zb
theorem DW : Dep 2 oJ := by intro q hq; rw [List.mem_singleton.1 hq]; exact zb
theorem tm  : Fun1 prog 14 [] (tV (.bool true)) := by
 refine Spec.enter func14 rfl rfl fun h0 w0 fr0 => ?_
 refine Jr (Za (ab (Jr ?_)))
 refine Zs (aB (ys := [0, 1]) underlying27 el3 ⟨rfl, Sr, rfl, Sr, trivial⟩ rfl (by decide)) ?_
 refine Zs (aj (dU 0 1 [0, 1] (by decide)) ⟨Sr, Sr, Sr, trivial⟩ call39) ?_
 refine Zs (aB (ys := [1, 2]) underlying27 el3 ⟨rfl, Sr, rfl, Sr, trivial⟩ rfl (by decide)) ?_
 refine Zs (aj (dU 1 1 [1, 2] (by decide)) ⟨Sr, Sr, Sr, trivial⟩ call39) ?_
 refine Zs (aj (iL (atE 0 1 [0, 1]) (atE 1 1 [1, 2])) ⟨Sr, Sr, trivial⟩ call38) (Zs (aj (ke aq1 true false true yW.1 yW.2.1 yW.2.2) ⟨Sr, Sr, Sr, Sr, trivial⟩ call37) (Zm ?_))
 refine Zk (aB (ys := [0, 1]) underlying27 el3 ⟨rfl, Sr, rfl, Sr, trivial⟩ rfl (by decide)) ?_
 refine Zg (fun hw => aj (dU 0 1 [0, 1] (by decide)) ⟨Sr, Sr, (Sub.w hw), trivial⟩ call39) ?_
 refine Zk (aB (ys := [1, 0]) underlying27 el3 ⟨rfl, Sr, rfl, Sr, trivial⟩ rfl (by decide)) ?_
 refine Zg (fun hw => aj (dU 1 1 [1, 0] (by decide)) ⟨Sr, Sr, (Sub.w hw), trivial⟩ call39) ?_
 refine Zg (fun hw => aj (iL (atE 0 1 [0, 1]) (atE 1 1 [1, 0])) ⟨(Sub.w hw), (Sub.w hw), trivial⟩ call38) (Zg (fun hw => aj (ke aq2 true true false yX.1 yX.2.1 yX.2.2) ⟨(Sub.w hw), Sr, Sr, Sr, trivial⟩ call37) (Zs (aw Sr Sr) (Za (ab (Jr ?_)))))
 refine Zs (aB (ys := [0, 1]) underlying27 el3 ⟨rfl, Sr, rfl, Sr, trivial⟩ rfl (by decide)) ?_
 refine Zs (aj (dU 0 1 [0, 1] (by decide)) ⟨Sr, Sr, Sr, trivial⟩ call39) ?_
 refine Zs (aB (ys := [2, 1]) underlying27 el3 ⟨rfl, Sr, rfl, Sr, trivial⟩ rfl (by decide)) ?_
 refine Zs (aj (dU 1 1 [2, 1] (by decide)) ⟨Sr, Sr, Sr, trivial⟩ call39) ?_
 refine Zs (aj (iL (atE 0 1 [0, 1]) (atE 1 1 [2, 1])) ⟨Sr, Sr, trivial⟩ call38) (Zs (aj (ke aq3 true true false yY.1 yY.2.1 yY.2.2) ⟨Sr, Sr, Sr, Sr, trivial⟩ call37) (Zm ?_))
 refine Zk (aB (ys := [0, 1]) underlying27 el3 ⟨rfl, Sr, rfl, Sr, trivial⟩ rfl (by decide)) ?_
 refine Zg (fun hw => aj (dU 0 2 [0, 1] (by decide)) ⟨Sr, Sr, (Sub.w hw), trivial⟩ call39) ?_
 refine Zk (aB (ys := [0, 1]) underlying27 el3 ⟨rfl, Sr, rfl, Sr, trivial⟩ rfl (by decide)) ?_
 refine Zg (fun hw => aj (dU 1 1 [0, 1] (by decide)) ⟨Sr, Sr, (Sub.w hw), trivial⟩ call39) ?_
 refine Zg (fun hw => aj (iL (atE 0 2 [0, 1]) (atE 1 1 [0, 1])) ⟨(Sub.w hw), (Sub.w hw), trivial⟩ call38) (Zg (fun hw => aj (ke aq4 false true true yZ.1 yZ.2.1 yZ.2.2) ⟨(Sub.w hw), Sr, Sr, Sr, trivial⟩ call37) (Zs (aw Sr Sr) (Za (ab (Jr ?_)))))
 refine Zs (aP (x := (⟨sA, 1, [], c9⟩ : GAttr)) (zs := [[Value.string ⟨#[]⟩], [Value.int .i64 0], [Value.slice none 0 0], [Value.int .i64 0, Value.int .i64 0, Value.string ⟨#[]⟩]]) gV (fun w => zeroValue64 w) ⟨Sr, Sr, trivial⟩ ⟨⟨Sr, rfl⟩, ⟨Sr, rfl⟩, fun _ => ⟨_, rfl, none, ⟨0, Nat.le_refl _⟩, rfl, fun q => absurd rfl q⟩, fun _ => ⟨[Value.int .i64 0], _, rfl, rfl, ⟨[Value.int .i64 0], _, rfl, rfl, ⟨[Value.string ⟨#[]⟩], _, rfl, rfl, rfl⟩⟩⟩, trivial⟩) (Zs (aP (x := (⟨sB, 1, [], c9⟩ : GAttr)) (zs := [[Value.string ⟨#[]⟩], [Value.int .i64 0], [Value.slice none 0 0], [Value.int .i64 0, Value.int .i64 0, Value.string ⟨#[]⟩]]) gV (fun w => zeroValue64 w) ⟨Sr, Sr, trivial⟩ ⟨⟨Sr, rfl⟩, ⟨Sr, rfl⟩, fun _ => ⟨_, rfl, none, ⟨0, Nat.le_refl _⟩, rfl, fun q => absurd rfl q⟩, fun _ => ⟨[Value.int .i64 0], _, rfl, rfl, ⟨[Value.int .i64 0], _, rfl, rfl, ⟨[Value.string ⟨#[]⟩], _, rfl, rfl, rfl⟩⟩⟩, trivial⟩) ?_)
 refine Zs (aB (ys := exA) underlying28 rZ ⟨rfl, Sr, rfl, Sr, trivial⟩ rfl (by decide)) ?_
 refine Zs (aB (ys := [1]) underlying27 el3 ⟨rfl, Sr, trivial⟩ rfl (by decide)) ?_
 refine Zs (aP (x := (⟨sTt, exA, [1]⟩ : GTable)) (zs := [[Value.string ⟨#[]⟩], [Value.slice none 0 0], [Value.slice none 0 0]]) jC (fun w => zeroValue77 w) ⟨Sr, Sr, Sr, trivial⟩ ⟨⟨Sr, rfl⟩, ⟨Sr, rfl⟩, ⟨Sr, rfl⟩, trivial⟩) ?_
 refine Zs (aB (ys := [⟨sTt, exA, [1]⟩]) underlying22 Fj ⟨rfl, Sr, trivial⟩ rfl (by decide)) ?_
 refine Zs (aP (x := (exS : GSchema)) (zs := [[Value.slice none 0 0]]) qb (fun w => zeroValue24 w) ⟨Sr, trivial⟩ ⟨⟨Sr, rfl⟩, trivial⟩) ?_
 refine Zx (aE (fun w => zeroValue24 w) Fk) fun v3 => ?_
 refine Ju (ai lV Sr Sr zS) fun _ => ?_
 refine aN (t := 3) (Sel.take (FN _)) Frz.box ?_
 refine ab (Jr (Zs (aa qb Sr rfl) (Zl qa Sr ?_)))
 refine Zs (ae (i := 0) underlying22 nl Sr Sr (by rfl) (gb (by decide))) ?_
 refine Zs (aa jC Sr rfl) (Zl eP Sr (Zs (aP (x := (GPl.mk 1 0 [] [] [] 0 0 exA : aQ)) (zs := [[Value.int .i64 0], [Value.int .i64 0], [Value.slice none 0 0], [Value.slice none 0 0], [Value.slice none 0 0], [Value.int .i64 0], [Value.int .i64 0], [Value.slice none 0 0]]) (cq (n := 0)) (fun w => zeroValue30 w) ⟨Sr, Sr, trivial⟩ ⟨⟨Sr, rfl⟩, fun _ => rfl, fun _ => ⟨_, rfl, none, ⟨0, Nat.le_refl _⟩, rfl, fun q => absurd rfl q⟩, fun _ => ⟨_, rfl, none, ⟨0, Nat.le_refl _⟩, rfl, fun q => absurd rfl q⟩, fun _ => ⟨_, rfl, none, ⟨0, Nat.le_refl _⟩, rfl, fun q => absurd rfl q⟩, fun _ => rfl, fun _ => rfl, ⟨Sr, rfl⟩, trivial⟩) ?_))
 refine Zx (aE (fun w => zeroValue30 w) (tC (n := 0))) fun v4 => ?_
 refine Ju (ai da Sr Sr zS) fun _ => ?_
 refine aN (t := 4) (Sel.take (FN _)) Frz.box ?_
 refine ab (Jr (Zs (aP (x := (exX : GValue)) (zs := [[Value.int .i64 0], [Value.int .i64 0], [Value.string ⟨#[]⟩]]) fp (fun w => zeroValue62 w) ⟨Sr, Sr, trivial⟩ ⟨⟨Sr, rfl⟩, fun _ => rfl, ⟨Sr, rfl⟩, trivial⟩) ?_))
 refine Zx (aE (fun w => zeroValue62 w) wz) fun v5 => ?_
 refine Ju (ai bZ Sr Sr zS) fun _ => ?_
 refine aN (t := 5) (Sel.take (FN _)) Frz.box ?_
 refine ab (Jr (Zl da Sr ?_))
 refine Zs (aB (ys := [exP]) underlying25 Fl ⟨rfl, Sr, trivial⟩ rfl (by decide)) ?_
 refine Zs (aa cq Sr rfl) (Zl eP Sr (Zl bZ Sr (Zs (aP (x := (⟨-1, 0, exX⟩ : GSide)) (zs := [[Value.int .i64 0], [Value.int .i64 0], [Value.int .i64 0, Value.int .i64 0, Value.string ⟨#[]⟩]]) nk (fun w => zeroValue91 w) ⟨Sr, Sr, trivial⟩ ⟨⟨Sr, rfl⟩, fun _ => rfl, ⟨Sr, rfl⟩, trivial⟩) (Zs (aP (x := (exT : GTest)) (zs := [[Value.int .i64 0, Value.int .i64 0, Value.int .i64 0, Value.int .i64 0, Value.string ⟨#[]⟩], [Value.int .i64 0], [Value.int .i64 0, Value.int .i64 0, Value.int .i64 0, Value.int .i64 0, Value.string ⟨#[]⟩], [Value.int .i64 0]]) lU (fun w => zeroValue93 w) ⟨Sr, Sr, trivial⟩ ⟨fun _ => ⟨[Value.int .i64 0], _, rfl, rfl, ⟨[Value.int .i64 0], _, rfl, rfl, ⟨[Value.int .i64 0, Value.int .i64 0, Value.string ⟨#[]⟩], _, rfl, ⟨[Value.int .i64 0], _, rfl, rfl, ⟨[Value.int .i64 0], _, rfl, rfl, ⟨[Value.string ⟨#[]⟩], _, rfl, rfl, rfl⟩⟩⟩, rfl⟩⟩⟩, ⟨Sr, rfl⟩, ⟨Sr, rfl⟩, fun _ => rfl, trivial⟩) ?_))))
 refine Zs (aB (ys := [exT]) underlying26 E2 ⟨rfl, Sr, trivial⟩ rfl (by decide)) ?_
 refine Zs (aP (x := (GPl.mk 2 0 [exP] [exT] [] 0 0 exA : aQ)) (zs := [[Value.int .i64 0], [Value.int .i64 0], [Value.slice none 0 0], [Value.slice none 0 0], [Value.slice none 0 0], [Value.int .i64 0], [Value.int .i64 0], [Value.slice none 0 0]]) (cq (n := 1)) (fun w => zeroValue30 w) ⟨Sr, Sr, Sr, Sr, trivial⟩ ⟨⟨Sr, rfl⟩, fun _ => rfl, ⟨Sr, rfl⟩, ⟨Sr, rfl⟩, fun _ => ⟨_, rfl, none, ⟨0, Nat.le_refl _⟩, rfl, fun q => absurd rfl q⟩, fun _ => rfl, fun _ => rfl, ⟨Sr, rfl⟩, trivial⟩) ?_
 refine Zx (aE (fun w => zeroValue30 w) (tC (n := 1))) fun v6 => ?_
 refine Ju (ai da Sr Sr zS) fun _ => ?_
 refine aN (t := 6) (Sel.take (FN _)) Frz.box ?_
 refine ab (Jr (Zl da Sr ?_))
 refine Zx (aE (fun w => zeroValue30 w) (tC (n := 1))) fun v7 => ?_
 refine Ju (ai da Sr Sr zS) fun _ => ?_
 refine ab (Jr (Zs (aP (x := (exT0 : GTest)) (zs := [[Value.int .i64 0, Value.int .i64 0, Value.int .i64 0, Value.int .i64 0, Value.string ⟨#[]⟩], [Value.int .i64 0], [Value.int .i64 0, Value.int .i64 0, Value.int .i64 0, Value.int .i64 0, Value.string ⟨#[]⟩], [Value.int .i64 0]]) lU (fun w => zeroValue93 w) ⟨Sr, trivial⟩ ⟨fun _ => ⟨[Value.int .i64 0], _, rfl, rfl, ⟨[Value.int .i64 0], _, rfl, rfl, ⟨[Value.int .i64 0, Value.int .i64 0, Value.string ⟨#[]⟩], _, rfl, ⟨[Value.int .i64 0], _, rfl, rfl, ⟨[Value.int .i64 0], _, rfl, rfl, ⟨[Value.string ⟨#[]⟩], _, rfl, rfl, rfl⟩⟩⟩, rfl⟩⟩⟩, ⟨Sr, rfl⟩, fun _ => ⟨[Value.int .i64 0], _, rfl, rfl, ⟨[Value.int .i64 0], _, rfl, rfl, ⟨[Value.int .i64 0, Value.int .i64 0, Value.string ⟨#[]⟩], _, rfl, ⟨[Value.int .i64 0], _, rfl, rfl, ⟨[Value.int .i64 0], _, rfl, rfl, ⟨[Value.string ⟨#[]⟩], _, rfl, rfl, rfl⟩⟩⟩, rfl⟩⟩⟩, fun _ => rfl, trivial⟩) ?_))
 refine Zs (aB (ys := [exT0]) underlying26 E2 ⟨rfl, Sr, trivial⟩ rfl (by decide)) ?_
 refine Zs (aq (cq (n := 1)) Sr rfl) ?_
 refine Ju (aS (R := (rSl dV)) (y' := oJ) ze Sr Sr zS (by exact ⟨rfl, ⟨rfl, ⟨rfl, ⟨fun _ _ q => q, rfl, by intro g hg; simp only [List.mem_cons, List.not_mem_nil, or_false] at hg; rcases hg with rfl | rfl | rfl | rfl <;> rfl⟩⟩⟩⟩)) fun _ => ?_
 refine ab ?_
 refine cA (t := 7) (A' := bx (aX 2) oJ) (Sel.take (FN _)) Frz.box ?_
 refine Jr (Zl lV Sr (Zl da Sr ?_))
 refine Zs (ir (B := fW [bK.ty exQ1, tV (.int .i64 0)]) (aj (pk exS EN 1 exP CM zb (fun _ => by decide) (fun _ => by decide)) (by exact ⟨Sr, Sr, trivial⟩) call15) (by rw [EO])) ?_
 refine Zm (Zs (aL Sr rfl) (Zs (aL Sr rfl) ?_))
 refine Zx (aE (fun w => zeroValue49 w) zw) fun v8 => ?_
 refine Ju (ai g7 Sr Sr zS) fun _ => ?_
 refine aN (t := 8) (Sel.take (FN _)) Frz.box ?_
 refine Za (ab (Jr (Zl lV Sr (Zl da Sr ?_))))
 refine Zs (ir (B := fW [bK.ty exQ2, tV (.int .i64 0)]) (aj (pk exS EN 2 AV ER DV (fun _ => by decide) (fun _ => by decide)) (by exact ⟨Sr, Sr, trivial⟩) call15) (by rw [EP])) ?_
 refine Zm (Zs (aL Sr rfl) (Zs (aL Sr rfl) ?_))
 refine Zx (aE (fun w => zeroValue49 w) zw) fun v10 => ?_
 refine Ju (ai g7 Sr Sr zS) fun _ => ?_
 refine aN (t := 10) (Sel.take (FN _)) Frz.box ?_
 refine Za (ab (Jr (Zl lV Sr (Zl da Sr ?_))))
 refine Zs (ir (B := fW [bK.ty oh, tV (.int .i64 11)]) (aj (pk exS EN 2 oJ ES DW (fun _ => by decide) (fun _ => by decide)) (by exact ⟨Sr, Sr, trivial⟩) call15) (by rw [EQ])) ?_
 refine Zm (Zs (aL Sr rfl) (Zs (aL Sr rfl) ?_))
 refine Zx (aE (fun w => zeroValue49 w) zw) fun v12 => ?_
 refine Ju (ai g7 Sr Sr zS) fun _ => ?_
 refine aN (t := 12) (Sel.take (FN _)) Frz.box ?_
 refine Za (ab (Jr ?_))
 refine Zs (aB (ys := [1, 0]) underlying27 el3 ⟨rfl, Sr, rfl, Sr, trivial⟩ rfl (by decide)) ?_
 refine Zs (aB (ys := [0, 1]) underlying27 el3 ⟨rfl, Sr, rfl, Sr, trivial⟩ rfl (by decide)) ?_
 refine Zs (aP (x := (⟨0, [1, 0], [0, 1], 1⟩ : GAtom)) (zs := [[Value.int .i64 0], [Value.slice none 0 0], [Value.slice none 0 0], [Value.int .i64 0]]) fY (fun w => zeroValue88 w) ⟨Sr, Sr, Sr, trivial⟩ ⟨fun _ => rfl, ⟨Sr, rfl⟩, ⟨Sr, rfl⟩, ⟨Sr, rfl⟩, trivial⟩) ?_
 refine Zs (aB (ys := [⟨0, [1, 0], [0, 1], 1⟩]) underlying47 CY ⟨rfl, Sr, trivial⟩ rfl (by decide)) ?_
 refine Zs (aP (x := (exQ1 : GConj)) (zs := [[Value.int .i64 0], [Value.slice none 0 0], [Value.slice none 0 0]]) ft (fun w => zeroValue49 w) ⟨Sr, Sr, trivial⟩ ⟨⟨Sr, rfl⟩, fun _ => ⟨_, rfl, none, ⟨0, Nat.le_refl _⟩, rfl, fun q => absurd rfl q⟩, ⟨Sr, rfl⟩, trivial⟩) ?_
 refine Zx (aE (fun w => zeroValue49 w) zw) fun v14 => ?_
 refine Ju (ai g7 Sr Sr zS) fun _ => ?_
 refine aN (t := 14) (Sel.take (FN _)) Frz.box ?_
 refine ab (Jr (Zl bZ Sr ?_))
 refine Zs (aB (ys := [exX]) underlying45 pS ⟨rfl, Sr, trivial⟩ rfl (by decide)) ?_
 refine Zs (aB (ys := [1, 0]) underlying27 el3 ⟨rfl, Sr, rfl, Sr, trivial⟩ rfl (by decide)) ?_
 refine Zs (aB (ys := [0, -1]) underlying27 el3 ⟨rfl, Sr, rfl, Sr, trivial⟩ rfl (by decide)) ?_
 refine Zs (aP (x := (⟨0, [1, 0], [0, -1], 1⟩ : GAtom)) (zs := [[Value.int .i64 0], [Value.slice none 0 0], [Value.slice none 0 0], [Value.int .i64 0]]) fY (fun w => zeroValue88 w) ⟨Sr, Sr, Sr, trivial⟩ ⟨fun _ => rfl, ⟨Sr, rfl⟩, ⟨Sr, rfl⟩, ⟨Sr, rfl⟩, trivial⟩) ?_
 refine Zs (aB (ys := [⟨0, [1, 0], [0, -1], 1⟩]) underlying47 CY ⟨rfl, Sr, trivial⟩ rfl (by decide)) ?_
 refine Zs (aP (x := (exQ2 : GConj)) (zs := [[Value.int .i64 0], [Value.slice none 0 0], [Value.slice none 0 0]]) ft (fun w => zeroValue49 w) ⟨Sr, Sr, Sr, trivial⟩ ⟨⟨Sr, rfl⟩, ⟨Sr, rfl⟩, ⟨Sr, rfl⟩, trivial⟩) ?_
 refine Zx (aE (fun w => zeroValue49 w) zw) fun v15 => ?_
 refine Ju (ai g7 Sr Sr zS) fun _ => ?_
 refine aN (t := 15) (Sel.take (FN _)) Frz.box ?_
 refine ab (Jr (Zm (Zm ?_)))
 refine Zk (ar Sr) ?_
 refine Zs (aw Sr Sr) (Zm ?_)
 refine Zk (ar Sr) ?_
 refine Zg (fun hw => aJ (Sub.w hw) Sr) (Zs (aw Sr Sr) (Zm ?_))
 refine Zk (ad g7 Sr) ?_
 refine Zk (ad g7 Sr) ?_
 refine Zg (fun hw => aj (rP exQ1 exQ1 (by decide) (by decide) (by decide)) ⟨(Sub.w hw), (Sub.w hw), trivial⟩ call40) ?_
 refine Zs (aw Sr Sr) (Zm ?_)
 refine Zk (ar Sr) ?_
 refine Zg (fun hw => aJ (Sub.w hw) Sr) (Zs (aw Sr Sr) (Zm ?_))
 refine Zk (ad g7 Sr) ?_
 refine Zk (ad g7 Sr) ?_
 refine Zg (fun hw => aj (rP exQ2 exQ2 (by decide) (by decide) (by decide)) ⟨(Sub.w hw), (Sub.w hw), trivial⟩ call40) ?_
 refine Zs (aw Sr Sr) (Zm ?_)
 refine Zk (ar Sr) ?_
 refine Zg (fun hw => aJ (Sub.w hw) Sr) (Zs (aw Sr Sr) (Zm ?_))
 refine Zk (aP (x := (⟨-1, [], []⟩ : GConj)) (zs := [[Value.int .i64 0], [Value.slice none 0 0], [Value.slice none 0 0]]) ft (fun w => zeroValue49 w) ⟨Sr, trivial⟩ ⟨⟨Sr, rfl⟩, fun _ => ⟨_, rfl, none, ⟨0, Nat.le_refl _⟩, rfl, fun q => absurd rfl q⟩, fun _ => ⟨_, rfl, none, ⟨0, Nat.le_refl _⟩, rfl, fun q => absurd rfl q⟩, trivial⟩) ?_
 refine Zg (fun hw => aj (dG ⟨-1, [], []⟩) ⟨(Sub.w hw), trivial⟩ call18) (Zg (fun hw => bc (Sub.w hw)) (Zs (aw Sr Sr) (Za (ab (aC ?_)))))
 refine aI (t := 0) rfl () ?_
 refine Sub.bool ?_
 decide +kernel
variable {H : Type} {enc : TypeId × Value -> H} {W : World}
theorem rd3 : Rd enc Tryz.prog W 3 aO := Rd.int ty3 Tryz.underlying3
theorem rd9 : Rd enc Tryz.prog W 9 d5 := Rd.str ty9 Tryz.underlying9
theorem D3 : Rd enc Tryz.prog W 27 (rSl aO) := Rd.sl dn Tryz.underlying27 rd3 (by decide)
theorem D4 : Rd enc Tryz.prog W 62 rValue where
 k := bZ.cells W
 rd := fun fuel cs x h => by
  obtain ⟨hl, hf⟩ := dQ fp h
  obtain ⟨y0, h0⟩ := Rd.at (t := 62) (i := 0) hf rd3 rfl
  obtain ⟨y1, h1⟩ := Rd.at (t := 62) (i := 1) hf rd3 rfl
  obtain ⟨y2, h2⟩ := Rd.at (t := 62) (i := 2) hf rd9 rfl
  refine ⟨⟨y0, y1, y2⟩, Gb hl fun i f hi => ?_⟩
  match i, hi with
  | 0, hi => cases hi; exact h0
  | 1, hi => cases hi; exact h1
  | 2, hi => cases hi; exact h2
  | n + 3, hi => simp [rX] at hi
theorem Fx : Rd enc Tryz.prog W 45 (rSl rValue) := Rd.sl dt Tryz.underlying45 D4 (by decide)
theorem Fy : Rd enc Tryz.prog W 88 cg where
 k := gO.cells W
 rd := fun fuel cs x h => by
  obtain ⟨hl, hf⟩ := dQ fY h
  obtain ⟨y0, h0⟩ := Rd.at (t := 88) (i := 0) hf rd3 rfl
  obtain ⟨y1, h1⟩ := Rd.at (t := 88) (i := 1) hf D3 rfl
  obtain ⟨y2, h2⟩ := Rd.at (t := 88) (i := 2) hf D3 rfl
  obtain ⟨y3, h3⟩ := Rd.at (t := 88) (i := 3) hf rd3 rfl
  refine ⟨⟨y0, y1, y2, y3⟩, Gb hl fun i f hi => ?_⟩
  match i, hi with
  | 0, hi => cases hi; exact h0
  | 1, hi => cases hi; exact h1
  | 2, hi => cases hi; exact h2
  | 3, hi => cases hi; exact h3
  | n + 4, hi => simp [tA] at hi
theorem Fz : Rd enc Tryz.prog W 47 (rSl cg) := Rd.sl lx Tryz.underlying47 Fy (by decide)
theorem run_true {P : Program} {f : Nat} {As : List Ty} {vs : List Value} {W : World} (sp : Fun1 P f As (tV (.bool true))) (hi : Inv (cF W)) (ha : Args (cF W) As vs) :
  Calls P f vs.toArray W fun e W' => e = .returned (.bool true) /\ Go.RowKit.Below W.heap.size W W' := by
 have hc := sp vs (cF W) PH.emp PH.emp W ha ⟨hi, FX _, FX _, FX _, uQ W, (fun b o e => by cases e), fun b o e => by cases e⟩ rfl
 refine hc.mono ?_
 rintro e W' ⟨x, v, h', m', rfl, l, s, _, hv⟩
 have hv : v = .bool true := hv
 subst hv
 exact ⟨rfl, zn l.1 s.hw l.2⟩
section
variable {H : Type} {enc : TypeId × Value -> H} {P : Program} {W : World} {base : Nat}
theorem E9 {α : Type} {t e : Nat} {R : Rp α} {v : Value} {d : DataW H} {p : List MemPlace} (hu : P.underlying t = some (.slice e)) (hR : Rd enc P W t (rSl R)) (hok : Value.okWide P W .any base t v) (h : DataW.Trod enc P W 0 (fun _ => true) true t v d p) :
  ∃ xs, (tSl R xs).p (cF W) v := by
 obtain ⟨a, len, cap, rfl⟩ := Go.WideShapes.okWide_slice hu hok
 obtain ⟨fuel, h⟩ := h
 obtain ⟨xs, u, e1, e2⟩ := hR.rd _ _ _ h
 have : Value.slice a len cap = u := by
  have := (List.cons.inj e1).1
  exact this
 exact ⟨xs, this ▸ e2⟩
theorem Bu {α : Type} {t e : Nat} {R : Rp α} (hu : P.underlying t = some (.slice e)) {fuel : Nat} {cs : List Value} {x : DataW H × List MemPlace} (h : DataW.trod enc P W 0 (fun _ => true) true fuel t cs = some x) {xs : List α} (r : (rSl R).rel (cF W) xs cs) :
  xs.length <= 9223372036854775807 /\ (x.1 = .nil /\ xs = [] \/ ∃ el rest, x.1 = .slice el rest /\ el.length = xs.length) := by
 obtain ⟨u, e1, ao, cap, e2, _⟩ := r
 subst e1; subst e2
 rcases DataW.trod_slice hu h with ⟨h1, h2⟩ | ⟨a, len, cap', elems, rest, n, _, h1, h2, _, hlc, hm, hlen, _⟩
 · have h3 := (Value.slice.inj (List.cons.inj h1).1).2.1
   have h4 : xs = [] := List.eq_nil_of_length_eq_zero h3
   subst h4
   exact ⟨by simp, .inl ⟨by rw [h2], rfl⟩⟩
 · have h3 := (Value.slice.inj (List.cons.inj h1).1).2.1
   refine ⟨?_, .inr ⟨elems.map (·.1), rest.map (·.1), by rw [h2], by rw [List.length_map]; omega⟩⟩
   have : maxLen = 9223372036854775807 := by decide
   omega
theorem ET {α : Type} {t e : Nat} {R : Rp α} {v : Value} {d : DataW H} {p : List MemPlace} (hu : P.underlying t = some (.slice e)) (hR : Rd enc P W t (rSl R)) (hok : Value.okWide P W .any base t v) (h : DataW.Trod enc P W 0 (fun _ => true) true t v d p) :
  ∃ xs, (tSl R xs).p (cF W) v /\ (d = .nil /\ xs = [] \/ ∃ el rest, d = .slice el rest /\ el.length = xs.length) := by
 obtain ⟨a, len, cap, rfl⟩ := Go.WideShapes.okWide_slice hu hok
 obtain ⟨fuel, h⟩ := h
 obtain ⟨xs, hr⟩ := hR.rd _ _ _ h
 have hl := (Bu hu h hr).2
 obtain ⟨u, e1, e2⟩ := hr
 have : Value.slice a len cap = u := (List.cons.inj e1).1
 exact ⟨xs, this ▸ e2, hl⟩
theorem Fa {α : Type} {t : Nat} {R : Rp α} {v : Value} {d : DataW H} {p : List MemPlace} (hR : Rd enc P W t R) (hg : R.agg = true) (hk : R.k ≠ 1) (h : DataW.Trod enc P W 0 (fun _ => true) true t v d p) :
  ∃ x, (R.ty x).p (cF W) v := by
 obtain ⟨fuel, h⟩ := h
 obtain ⟨x, r⟩ := hR.rd _ _ _ h
 refine ⟨x, R.iff.2 ⟨_, r, ?_⟩⟩
 have hl := R.len r
 unfold packV
 rw [hg]
 cases v with
 | agg cs => simp [Value.cells]
 | _ => simp [Value.cells] at hl; exact absurd hl.symm hk
theorem EU {t : Nat} {v : Value} {d : DataW H} {p : List MemPlace} (hu : P.underlying t = some .string) (hok : Value.okWide P W .any base t v) (h : DataW.Trod enc P W 0 (fun _ => true) true t v d p) :
  ∃ x : ByteArray, (tV (.string x)).p (cF W) v := by
 obtain ⟨x, rfl⟩ := Go.WideShapes.okWide_string hu hok
 exact ⟨x, rfl⟩
end
theorem Fb {H : Type} {enc : TypeId × Value -> H} {W : World} {v : Value} {d : DataW H} {p : List MemPlace} (h : DataW.Trod enc Tryz.prog W 0 (fun _ => true) true 49 v d p) :
  ∃ q : GConj, (bK.ty q).p (cF W) v /\ q.Atoms.length <= 9223372036854775807 := by
 obtain ⟨fuel, h⟩ := h
 obtain ⟨hl, hf⟩ := dQ ft h
 obtain ⟨y0, h0⟩ := Rd.at (t := 49) (i := 0) hf rd3 rfl
 obtain ⟨y1, h1⟩ := Rd.at (t := 49) (i := 1) hf Fx rfl
 obtain ⟨n, z, hz⟩ := hf 2 _ rfl
 obtain ⟨y2, h2⟩ := Fz.rd _ _ _ hz
 have hb := (Bu Tryz.underlying47 hz h2).1
 have hr : bK.rel (cF W) (⟨y0, y1, y2⟩ : GConj) (Value.cells v).toList := Gb hl fun i f hi => by
  match i, hi with
  | 0, hi => cases hi; exact h0
  | 1, hi => cases hi; exact h1
  | 2, hi => cases hi; exact h2
  | n + 3, hi => simp [tB] at hi
 refine ⟨⟨y0, y1, y2⟩, bK.iff.2 ⟨_, hr, ?_⟩, hb⟩
 have hl2 := bK.len hr
 unfold packV
 rw [show bK.agg = true from rfl]
 cases v with
 | agg cs => simp [Value.cells]
 | _ => simp [Value.cells] at hl2; exact absurd hl2.symm (by decide)
theorem inv_of {W : World} (h : Lib.TabIs Tryz.prog W "internal/strconv.uint64pow10" .u64 Lib.pow10Tab) : Inv (cF W) := by
 have hg : Tryz.prog.globalNamed "internal/strconv.uint64pow10" = some tabG := by kernel_rfl
 unfold Lib.TabIs World.var? at h
 rw [hg] at h
 simp only [Option.bind_some] at h
 unfold Inv cF
 cases hb : W.heap[tabG]? with
 | none => rw [hb] at h; cases h
 | some o =>
   rw [hb] at h
   cases o with
   | cells cs e fz => exact ⟨e, fz, by injection h with h; rw [h]; rfl⟩
   | _ => cases h
end Lg
namespace Go.Proofs.YtecikhenhjphfaaGreatDoor
open Go.ChangeShapes Go.WideShapes Go.ChangeAt Go.RowKit
theorem own : ownKnob Tryz.prog.godebug = none := by kernel_rfl
theorem laidOut : laidOutB Tryz.prog = true := by kernel_rfl
theorem size49 : (49 : Nat) < Tryz.prog.types.size := of_decide_eq_true (by kernel_rfl)
theorem rec49 : Tryz.prog.readableRec 49 = true := by kernel_rfl
theorem want49 : Tryz.prog.wantsStandIn 49 = false := by kernel_rfl
abbrev laidL : List (String × DataW Unit) := [("math/bits.deBruijn32tab", Rows.laid_math_bits_deBruijn32tab), ("math/bits.deBruijn64tab", Rows.laid_math_bits_deBruijn64tab), ("internal/strconv.uint64pow10", Rows.laid_internal_strconv_uint64pow10)]
noncomputable def laidWorld (os : Os) : World := World.laidAll Tryz.prog os laidL
theorem tab_of {W : World} (h : laidMet Tryz.prog laidL W) : Lib.TabIs Tryz.prog W "internal/strconv.uint64pow10" .u64 Lib.pow10Tab :=
 Lib.tabIs_of_head (g := Lg.tabG) (t := 296) (e := 201) (n := 20) (rest := []) (by kernel_rfl) (by kernel_rfl) Tryz.underlying296 Tryz.underlying201 (by kernel_rfl) (by kernel_rfl) h.tail.tail
theorem noLooks : true = Tryz.pinned.checked.prog.looks [] := by kernel_rfl
end Go.Proofs.YtecikhenhjphfaaGreatDoor
namespace Lg
open Go Go.Proofs Go.Proofs.Tryz
section
variable {H : Type} {enc : TypeId × Value -> H} {P : Program} {W : World}
structure RdQ {α H : Type} (enc : TypeId × Value -> H) (P : Program) (W : World) (t : Nat) (R : Rp α) (Q : α -> Prop) : Prop where
 k : P.cellsOf t = R.k
 rd : ∀ fuel cs x, DataW.trod enc P W 0 (fun _ => true) true fuel t cs = some x -> ∃ y, R.rel (cF W) y cs /\ Q y
theorem RdQ.str {t : Nat} (hT : TyOf P t d5) (hu : P.underlying t = some .string) : RdQ enc P W t d5 (fun s => s.size <= 9223372036854775807) where
 k := hT.cells W
 rd := fun _ _ _ h => by
  obtain ⟨n, rfl, _, hm⟩ := DataW.trod_string hu h
  have : maxLen = 9223372036854775807 := by decide
  exact ⟨n, rfl, by omega⟩
theorem Bv {α : Type} {t e N : Nat} {R : Rp α} {Q : α -> Prop} (hu : P.underlying t = some (.slice e)) (hk : 0 < R.k) (hc : P.cellsOf e = R.k)
  (hR : ∀ n, N = n + 1 -> ∀ cs x, DataW.trod enc P W 0 (fun _ => true) true n e cs = some x -> ∃ y, R.rel (cF W) y cs /\ Q y) {cs : List Value} {x : DataW H × List MemPlace} (h : DataW.trod enc P W 0 (fun _ => true) true N t cs = some x) :
  ∃ y, (rSl R).rel (cF W) y cs /\ y.length <= 9223372036854775807 /\ ∀ a ∈ y, Q a := by
 rcases DataW.trod_slice hu h with ⟨rfl, _⟩ | ⟨a, len, cap, elems, rest, n, hN, rfl, _, _, hlc, hmx, hlen, hel, _, _⟩
 · exact ⟨[], ⟨_, rfl, none, ⟨0, Nat.le_refl _⟩, rfl, fun q => absurd rfl q⟩, Nat.zero_le _, fun a ha => by cases ha⟩
 have hall : ∀ i : Fin len, ∃ y, (∃ cs, W.cells? 0 (a.add (i.1 * R.k)) R.k = some cs /\ R.rel (cF W) y cs) /\ Q y := fun i => by
  have h1 := hel i.1 i.2
  rw [List.getElem?_eq_getElem (by omega : i.1 < elems.length), Option.bind_eq_some_iff] at h1
  obtain ⟨cs, h2, h3⟩ := h1
  obtain ⟨y, hy, hq⟩ := hR n hN _ _ h3
  rw [hc] at h2
  exact ⟨y, ⟨cs, h2, hy⟩, hq⟩
 let f : Fin len -> α := fun i => Classical.choose (hall i)
 have hf : ∀ i : Fin len, ∃ cs, W.cells? 0 (a.add (i.1 * R.k)) R.k = some cs /\ R.rel (cF W) (f i) cs := fun i => (Classical.choose_spec (hall i)).1
 have hfq : ∀ i : Fin len, Q (f i) := fun i => (Classical.choose_spec (hall i)).2
 have hml : maxLen = 9223372036854775807 := by decide
 refine ⟨List.ofFn f, ⟨_, rfl, some a, ⟨cap, by rw [List.length_ofFn]; exact hlc⟩, by show Value.slice (some a) len cap = Value.slice (some a) (List.ofFn f).length cap; rw [List.length_ofFn], fun hne => ?_⟩, by rw [List.length_ofFn]; omega, fun y hy => ?_⟩
 · have hl0 : 0 < len := by
     rcases Nat.eq_zero_or_pos len with h0 | h0
     · exfalso; apply hne; subst h0; simp
     · exact h0
   have hsp : a.spot = none := by
    obtain ⟨cs, h1, h2⟩ := hf ⟨0, hl0⟩
    obtain ⟨_, h3, h4⟩ := World.cells?_some h1
    have h5 := h4 0 hk
    rw [List.getElem?_eq_getElem (by omega : 0 < cs.length)] at h5
    have h6 : (a.add (0 * R.k)).add 0 = a := by simp [Addr.add]
    rw [h6] at h5
    exact World.cell?_spot h5
   obtain ⟨b, off, sp⟩ := a
   simp only at hsp
   subst hsp
   refine ⟨b, off, rfl, fun i y hy => ?_⟩
   have hi : i < len := by have := (List.getElem?_eq_some_iff.1 hy).1; simpa using this
   have hy' : f ⟨i, hi⟩ = y := by
    rw [List.getElem?_eq_getElem (by simpa using hi)] at hy
    simpa using hy
   obtain ⟨cs, h1, h2⟩ := hf ⟨i, hi⟩
   obtain ⟨_, h3, h4⟩ := World.cells?_some h1
   rw [hy'] at h2
   refine ⟨cs, nP hk h3 fun j hj => ?_, h2⟩
   have := h4 j hj
   simp only [ce] at this
   exact this
 · obtain ⟨i, rfl⟩ := (List.mem_ofFn).1 hy
   exact hfq i
theorem RdQ.sl {α : Type} {t e : Nat} {R : Rp α} {Q : α -> Prop} (hT : TyOf P t (rSl R)) (hu : P.underlying t = some (.slice e)) (hR : RdQ enc P W e R Q) (hk : 0 < R.k) : RdQ enc P W t (rSl R) (fun xs => xs.length <= 9223372036854775807 /\ ∀ a ∈ xs, Q a) where
 k := hT.cells W
 rd := fun fuel cs x h => Bv hu hk hR.k (fun n _ cs x hx => hR.rd n cs x hx) h
theorem RdQ.at {α β : Type} {t : Nat} {fs : List (SF α)} {cs : List Value} {i : Nat} {T : Nat} {R : Rp β} {Q : β -> Prop} {get : α -> β} (hf : ∀ (i : Nat) (f : SF α), fs[i]? = some f -> ∃ n z, DataW.trod enc P W 0 (fun _ => true) true n f.T ((cs.drop (SF.off fs i)).take f.R.k) = some z)
  (hR : RdQ enc P W T R Q) (hi : fs[i]? = some ⟨β, T, R, get⟩) : ∃ y, R.rel (cF W) y ((cs.drop (SF.off fs i)).take R.k) /\ Q y := by
 obtain ⟨n, z, hz⟩ := hf i _ hi
 exact hR.rd _ _ _ hz
end
section
variable {H : Type} {enc : TypeId × Value -> H} {W : World}
def D5 (s : ByteArray) : Prop := s.size <= 9223372036854775807
def zc (a : GAttr) : Prop := D5 a.Name /\ ∀ x ∈ a.Was, D5 x
theorem rq9 : RdQ enc Tryz.prog W 9 d5 D5 := RdQ.str ty9 Tryz.underlying9
theorem FA : RdQ enc Tryz.prog W 60 (rSl d5) (fun xs => xs.length <= 9223372036854775807 /\ ∀ a ∈ xs, D5 a) := RdQ.sl wU Tryz.underlying60 rq9 (by decide)
theorem FB : RdQ enc Tryz.prog W 64 bu zc where
 k := eS.cells W
 rd := fun fuel cs x h => by
  obtain ⟨hl, hf⟩ := dQ gV h
  obtain ⟨y0, h0, q0⟩ := RdQ.at (t := 64) (i := 0) hf rq9 rfl
  obtain ⟨y1, h1⟩ := Rd.at (t := 64) (i := 1) hf rd3 rfl
  obtain ⟨y2, h2, q2⟩ := RdQ.at (t := 64) (i := 2) hf FA rfl
  obtain ⟨y3, h3⟩ := Rd.at (t := 64) (i := 3) hf D4 rfl
  refine ⟨⟨y0, y1, y2, y3⟩, Gb hl fun i f hi => ?_, q0, q2.2⟩
  match i, hi with
  | 0, hi => cases hi; exact h0
  | 1, hi => cases hi; exact h1
  | 2, hi => cases hi; exact h2
  | 3, hi => cases hi; exact h3
  | n + 4, hi => simp [wV] at hi
theorem Fc : RdQ enc Tryz.prog W 28 (rSl bu) (fun xs => xs.length <= 9223372036854775807 /\ ∀ a ∈ xs, zc a) := RdQ.sl eP Tryz.underlying28 FB (by decide)
theorem FC : Rd enc Tryz.prog W 28 (rSl bu) := ⟨eP.cells W, fun f cs x h => let ⟨y, hy, _⟩ := (Fc (enc := enc) (W := W)).rd f cs x h; ⟨y, hy⟩⟩
theorem FD : RdQ enc Tryz.prog W 77 cS (fun t => ∀ a ∈ t.Attrs, zc a) where
 k := nl.cells W
 rd := fun fuel cs x h => by
  obtain ⟨hl, hf⟩ := dQ jC h
  obtain ⟨y0, h0⟩ := Rd.at (t := 77) (i := 0) hf rd9 rfl
  obtain ⟨y1, h1, q1⟩ := RdQ.at (t := 77) (i := 1) hf Fc rfl
  obtain ⟨y2, h2⟩ := Rd.at (t := 77) (i := 2) hf D3 rfl
  refine ⟨⟨y0, y1, y2⟩, Gb hl fun i f hi => ?_, q1.2⟩
  match i, hi with
  | 0, hi => cases hi; exact h0
  | 1, hi => cases hi; exact h1
  | 2, hi => cases hi; exact h2
  | n + 3, hi => simp [r6] at hi
theorem FE : RdQ enc Tryz.prog W 22 (rSl cS) (fun xs => xs.length <= 9223372036854775807 /\ ∀ t ∈ xs, ∀ a ∈ t.Attrs, zc a) := RdQ.sl qa Tryz.underlying22 FD (by decide)
theorem FF : RdQ enc Tryz.prog W 24 bB (fun s => ∀ t ∈ s.Tables, ∀ a ∈ t.Attrs, zc a) where
 k := lV.cells W
 rd := fun fuel cs x h => by
  obtain ⟨hl, hf⟩ := dQ qb h
  obtain ⟨y0, h0, q0⟩ := RdQ.at (t := 24) (i := 0) hf FE rfl
  refine ⟨⟨y0⟩, Gb hl fun i f hi => ?_, q0.2⟩
  match i, hi with
  | 0, hi => cases hi; exact h0
  | n + 1, hi => simp [oW] at hi
theorem Fd : Rd enc Tryz.prog W 91 p9 where
 k := A1.cells W
 rd := fun fuel cs x h => by
  obtain ⟨hl, hf⟩ := dQ nk h
  obtain ⟨y0, h0⟩ := Rd.at (t := 91) (i := 0) hf rd3 rfl
  obtain ⟨y1, h1⟩ := Rd.at (t := 91) (i := 1) hf rd3 rfl
  obtain ⟨y2, h2⟩ := Rd.at (t := 91) (i := 2) hf D4 rfl
  refine ⟨⟨y0, y1, y2⟩, Gb hl fun i f hi => ?_⟩
  match i, hi with
  | 0, hi => cases hi; exact h0
  | 1, hi => cases hi; exact h1
  | 2, hi => cases hi; exact h2
  | n + 3, hi => simp [wS] at hi
theorem FG : Rd enc Tryz.prog W 93 dV where
 k := zd.cells W
 rd := fun fuel cs x h => by
  obtain ⟨hl, hf⟩ := dQ lU h
  obtain ⟨y0, h0⟩ := Rd.at (t := 93) (i := 0) hf Fd rfl
  obtain ⟨y1, h1⟩ := Rd.at (t := 93) (i := 1) hf rd3 rfl
  obtain ⟨y2, h2⟩ := Rd.at (t := 93) (i := 2) hf Fd rfl
  obtain ⟨y3, h3⟩ := Rd.at (t := 93) (i := 3) hf rd3 rfl
  refine ⟨⟨y0, y1, y2, y3⟩, Gb hl fun i f hi => ?_⟩
  match i, hi with
  | 0, hi => cases hi; exact h0
  | 1, hi => cases hi; exact h1
  | 2, hi => cases hi; exact h2
  | 3, hi => cases hi; exact h3
  | n + 4, hi => simp [wT] at hi
theorem FH : Rd enc Tryz.prog W 26 (rSl dV) := Rd.sl ze Tryz.underlying26 FG (by decide)
theorem Bw : ∀ {m n : Nat} {p : aQ}, Dep m p -> kG m p -> m <= n -> kG n p
 | 0, _, _, hd, _, _ => hd.elim
 | m + 1, 0, _, _, _, h => absurd h (by omega)
 | m + 1, n + 1, p, hd, ⟨h1, h2⟩, h => ⟨h1, fun q hq => Bw (hd q hq) (h2 q hq) (by omega)⟩
theorem DX : ∀ (N : Nat) {cs : List Value} {x : DataW H × List MemPlace}, DataW.trod enc Tryz.prog W 0 (fun _ => true) true N 30 cs = some x -> ∃ y, (aX N).rel (cF W) y cs /\ kG N y := by
 intro N
 induction N using Nat.strongRecOn with
 | ind N ih =>
   intro cs x h
   obtain ⟨n, rfl, hl, hf⟩ := D7 (cq (n := 0)) h
   obtain ⟨z0, e0⟩ := hf 0 _ rfl
   obtain ⟨z1, e1⟩ := hf 1 _ rfl
   obtain ⟨z2, e2⟩ := hf 2 _ rfl
   obtain ⟨z3, e3⟩ := hf 3 _ rfl
   obtain ⟨z4, e4⟩ := hf 4 _ rfl
   obtain ⟨z5, e5⟩ := hf 5 _ rfl
   obtain ⟨z6, e6⟩ := hf 6 _ rfl
   obtain ⟨z7, e7⟩ := hf 7 _ rfl
   obtain ⟨y0, h0⟩ := rd3.rd _ _ _ e0
   obtain ⟨y1, h1⟩ := rd3.rd _ _ _ e1
   obtain ⟨y2, h2, q2⟩ := Bv (R := aX n) (Q := kG n) Tryz.underlying25 (by rw [show (aX n).k = 8 from rPl_k _ _ _ n]; omega) (by rw [show (aX n).k = 8 from rPl_k _ _ _ n]; exact (da (n := 0)).cells W) (fun m hm cs x hx => by
    obtain ⟨y, hy, hq⟩ := ih m (by omega) hx
    exact ⟨y, rPl_le cPl bu dV (by omega) hy, Bw (xv hy) hq (by omega)⟩) e2
   obtain ⟨y3, h3⟩ := FH.rd _ _ _ e3
   obtain ⟨y4, h4⟩ := D3.rd _ _ _ e4
   obtain ⟨y5, h5⟩ := rd3.rd _ _ _ e5
   obtain ⟨y6, h6⟩ := rd3.rd _ _ _ e6
   obtain ⟨y7, h7⟩ := FC.rd _ _ _ e7
   refine ⟨GPl.mk y0 y1 y2 y3 y4 y5 y6 y7, Gb (fs := fsPl cPl bu dV (aX n)) hl fun i f hi => ?_, q2⟩
   match i, hi with
   | 0, hi => cases hi; exact h0
   | 1, hi => cases hi; exact h1
   | 2, hi => cases hi; exact h2
   | 3, hi => cases hi; exact h3
   | 4, hi => cases hi; exact h4
   | 5, hi => cases hi; exact h5
   | 6, hi => cases hi; exact h6
   | 7, hi => cases hi; exact h7
   | n + 8, hi => simp [fsPl] at hi
end
theorem DY {α H : Type} {enc : TypeId × Value -> H} {W : World} {t : Nat} {R : Rp α} {v : Value} {x : α} (r : R.rel (cF W) x (Value.cells v).toList) (hg : R.agg = true) (hk : R.k ≠ 1) : (R.ty x).p (cF W) v := by
 refine R.iff.2 ⟨_, r, ?_⟩
 have hl := R.len r
 unfold packV
 rw [hg]
 cases v with
 | agg cs => simp [Value.cells]
 | _ => simp [Value.cells] at hl; exact absurd hl.symm hk
set_option maxRecDepth 100000 in
theorem arg_sc {H : Type} {enc : TypeId × Value -> H} {W : World} {base : Nat} {v : Value} {d : DataW H} {p : List MemPlace} (hok : Value.okWide Tryz.prog W .any base 24 v) (h : DataW.Trod enc Tryz.prog W 0 (fun _ => true) true 24 v d p) :
  ∃ s : GSchema, (bB.ty s).p (cF W) v /\ ∀ t ∈ s.Tables, ∀ x ∈ namesL t.Attrs, x.size <= 9223372036854775807 := by
 simp only [Value.okWide, Tryz.underlying24] at hok
 obtain ⟨cs, rfl, _⟩ := hok
 obtain ⟨fuel, h⟩ := h
 obtain ⟨s, r, hq⟩ := FF.rd _ _ _ h
 refine ⟨s, ?_, fun t ht x hx => ?_⟩
 · refine bB.iff.2 ⟨_, r, ?_⟩
   unfold packV
   rw [show bB.agg = true from rfl]
   simp [Value.cells]
 · unfold namesL at hx
   obtain ⟨a, ha, hx⟩ := List.mem_flatMap.1 hx
   have := hq t ht a ha
   rcases List.mem_cons.1 hx with rfl | hx
   · exact this.1
   · exact this.2 x hx
theorem arg_pl {H : Type} {enc : TypeId × Value -> H} {W : World} {v : Value} {d : DataW H} {p : List MemPlace} (h : DataW.Trod enc Tryz.prog W 0 (fun _ => true) true 30 v d p) :
  ∃ (n : Nat) (q : aQ), ((aX n).ty q).p (cF W) v /\ kG n q /\ Dep n q := by
 obtain ⟨fuel, h⟩ := h
 obtain ⟨q, r, hq⟩ := DX fuel h
 exact ⟨fuel, q, DY (enc := enc) (t := 30) r (rPl_agg _ _ _ _) (by rw [show (aX fuel).k = 8 from rPl_k _ _ _ fuel]; omega), hq, xv r⟩
end Lg
namespace Go.Proofs.YtecikhenhjphfaaGreatDoor
open Go.ChangeShapes Go.WideShapes Go.ChangeAt Go.RowKit
theorem size24 : (24 : Nat) < Tryz.prog.types.size := of_decide_eq_true (by kernel_rfl)
theorem rec24 : Tryz.prog.readableRec 24 = true := by kernel_rfl
theorem want24 : Tryz.prog.wantsStandIn 24 = false := by kernel_rfl
theorem size30 : (30 : Nat) < Tryz.prog.types.size := of_decide_eq_true (by kernel_rfl)
theorem rec30 : Tryz.prog.readableRec 30 = true := by kernel_rfl
theorem want30 : Tryz.prog.wantsStandIn 30 = false := by kernel_rfl
end Go.Proofs.YtecikhenhjphfaaGreatDoor
namespace Lg
open Go Go.Proofs Go.Proofs.Tryz
section
variable {H : Type} {enc : TypeId × Value -> H} {W : World}
theorem FI : RdQ enc Tryz.prog W 62 rValue (fun _ => True) := ⟨bZ.cells W, fun f cs x h => let ⟨y, hy⟩ := (D4 (enc := enc) (W := W)).rd f cs x h; ⟨y, hy, trivial⟩⟩
theorem FJ : RdQ enc Tryz.prog W 45 (rSl rValue) (fun xs => xs.length <= 9223372036854775807 /\ ∀ a ∈ xs, True) := RdQ.sl dt Tryz.underlying45 FI (by decide)
theorem FK : RdQ enc Tryz.prog W 38 (rSl (rSl rValue)) (fun xs => xs.length <= 9223372036854775807 /\ ∀ a ∈ xs, a.length <= 9223372036854775807 /\ ∀ b ∈ a, True) := RdQ.sl fX Tryz.underlying38 FJ (by decide)
end
end Lg
namespace Go.Proofs.YtecikhenhjphfaaGreatDoor
open Go.ChangeShapes Go.WideShapes Go.ChangeAt Go.RowKit
end Go.Proofs.YtecikhenhjphfaaGreatDoor
namespace Lg
open Go Go.Proofs Go.Proofs.Tryz
section
variable {H : Type} {enc : TypeId × Value -> H} {W : World}
theorem FL : RdQ enc Tryz.prog W 35 (rSl (rSl (rSl rValue))) (fun xs => xs.length <= 9223372036854775807 /\ ∀ a ∈ xs, a.length <= 9223372036854775807 /\ ∀ b ∈ a, b.length <= 9223372036854775807 /\ ∀ c ∈ b, True) := RdQ.sl CX Tryz.underlying35 FK (by decide)
end
set_option maxRecDepth 100000 in
theorem arg_tb {H : Type} {enc : TypeId × Value -> H} {W : World} {base : Nat} {v : Value} {d : DataW H} {p : List MemPlace} (hok : Value.okWide Tryz.prog W .any base 35 v) (h : DataW.Trod enc Tryz.prog W 0 (fun _ => true) true 35 v d p) :
  ∃ xs : List (List (List GValue)), (tSl (rSl (rSl rValue)) xs).p (cF W) v /\ ∀ t ∈ xs, t.length <= 9223372036854775807 := by
 obtain ⟨a, len, cap, rfl⟩ := Go.WideShapes.okWide_slice Tryz.underlying35 hok
 obtain ⟨fuel, h⟩ := h
 obtain ⟨xs, ⟨u, e1, e2⟩, hq⟩ := FL.rd _ _ _ h
 have : Value.slice a len cap = u := (List.cons.inj e1).1
 exact ⟨xs, this ▸ e2, fun t ht => (hq.2 t ht).1⟩
end Lg
namespace Go.Proofs.YtecikhenhjphfaaGreatDoor
open Go.ChangeShapes Go.WideShapes Go.ChangeAt Go.RowKit
theorem size35 : (35 : Nat) < Tryz.prog.types.size := of_decide_eq_true (by kernel_rfl)
theorem rec35 : Tryz.prog.readableRec 35 = true := by kernel_rfl
theorem want35 : Tryz.prog.wantsStandIn 35 = false := by kernel_rfl
end Go.Proofs.YtecikhenhjphfaaGreatDoor
namespace Lg
open Go Go.Proofs Go.Proofs.Tryz
theorem uM {a b : LV} {i : Nat} (h1 : i <= a.length) (h2 : i <= b.length) (h : ¬ (i < a.length /\ i < b.length)) : cmpR (a.drop i) (b.drop i) = ordI a.length b.length := by
  have la : (a.drop i).length = a.length - i := List.length_drop ..
  have lb : (b.drop i).length = b.length - i := List.length_drop ..
  unfold ordI
  generalize a.drop i = x at la
  generalize b.drop i = y at lb
  match x, y with
  | [], [] => simp at la lb; rw [if_neg (by omega), if_neg (by omega)]; rfl
  | [], _ :: _ => simp at la lb; rw [if_pos (by omega)]; rfl
  | _ :: _, [] => simp at la lb; rw [if_neg (by omega), if_pos (by omega)]; rfl
  | _ :: _, _ :: _ => simp at la lb; omega
end Lg
