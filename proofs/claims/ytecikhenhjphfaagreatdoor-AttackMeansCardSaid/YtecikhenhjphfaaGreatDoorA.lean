/- A part of the proofs of the laws of cleanselaw33 and cleanselaw36: the program logic. -/
import Derived.Lib.ItoaNum
import Derived.Lib.LaidTab
import Derived.TacticsIn
import Derived.RangeFuncLeaves
import Derived.OrdersIn
import Derived.Laws.Cells
import Derived.IntWalk
import Derived.Laws.OwnMore
import Derived.Laws.CopyRow
import Derived.Laws.MakeOwn
import Derived.Great.BuildSlice
import Derived.Laws.Tables
import Derived.Laws.Strings
import Derived.Laws.StructEq
import Derived.RangeFuncNested
import Derived.Maps.RangeRun
import Derived.Laws.BytesString
import Derived.Laws.Strings2
import Derived.Laws.Entries
import Derived.ChangeArms
import Derived.ChangeKeysEq
import Derived.WideShapes
import Derived.Carry
set_option linter.unusedVariables false
set_option linter.unusedSimpArgs false
set_option linter.unusedSectionVars false
set_option maxHeartbeats 16000000
namespace Lg
open Go
abbrev PH := Nat -> Option Obj
def PH.le (h h' : PH) : Prop := ∀ b o, h b = some o -> h' b = some o
def PH.disj (h m : PH) : Prop := ∀ b, h b = none \/ m b = none
def PH.inw (h : PH) (w : World) : Prop := ∀ b o, h b = some o -> w.heap[b]? = some o
def PH.join (h m : PH) : PH := fun b => match h b with | some o => some o | none => m b
def PH.emp : PH := fun _ => none
def PH.one (b : Nat) (o : Obj) : PH := fun b' => if b' = b then some o else none
theorem PH.le_refl (h : PH) : h.le h := fun _ _ e => e
theorem PH.le_trans {a b c : PH} (h1 : a.le b) (h2 : b.le c) : a.le c := fun _ _ e => h2 _ _ (h1 _ _ e)
theorem FM (h m : PH) : h.le (h.join m) := fun b o e => by simp [PH.join, e]
theorem FO {h m : PH} (d : h.disj m) : m.le (h.join m) := fun b o e => by
 rcases d b with h0 | h0
 · simp [PH.join, h0, e]
 · rw [h0] at e; cases e
theorem FU {h m : PH} (d : h.disj m) : m.disj h := fun b => (d b).symm
theorem FX (h : PH) : h.disj PH.emp := fun _ => .inr rfl
theorem F8 (h : PH) : PH.emp.disj h := fun _ => .inl rfl
theorem FY (h : PH) : h.join PH.emp = h := by
 funext b; simp only [PH.join, PH.emp]; cases h b <;> rfl
theorem Gc (h : PH) : PH.emp.join h = h := by
 funext b; simp [PH.join, PH.emp]
theorem PH.join_comm {h m : PH} (d : h.disj m) : h.join m = m.join h := by
 funext b
 rcases d b with e | e
 · simp only [PH.join, e]; cases m b <;> rfl
 · simp only [PH.join, e]; cases h b <;> rfl
theorem FZ (a b c : PH) : (a.join b).join c = a.join (b.join c) := by
 funext x; simp only [PH.join]; cases a x <;> rfl
theorem PH.disj_join {a b c : PH} : (a.join b).disj c ↔ a.disj c /\ b.disj c := by
 constructor
 · intro d
   refine ⟨fun x => ?_, fun x => ?_⟩
   · rcases d x with e | e
     · simp only [PH.join] at e
       cases ha : a x with
       | none => exact .inl rfl
       | some o => rw [ha] at e; cases e
     · exact .inr e
   · rcases d x with e | e
     · simp only [PH.join] at e
       cases ha : a x with
       | none => rw [ha] at e; exact .inl e
       | some o => rw [ha] at e; cases e
     · exact .inr e
 · rintro ⟨d1, d2⟩ x
   rcases d1 x with e1 | e1
   · rcases d2 x with e2 | e2
     · left; simp [PH.join, e1, e2]
     · exact .inr e2
   · exact .inr e1
theorem PH.disj_join' {a b c : PH} : c.disj (a.join b) ↔ c.disj a /\ c.disj b :=
 ⟨fun d => let ⟨x, y⟩ := PH.disj_join.1 (FU d); ⟨FU x, FU y⟩,
  fun ⟨x, y⟩ => FU (PH.disj_join.2 ⟨FU x, FU y⟩)⟩
theorem FW {a b : PH} {w : World} (ha : a.inw w) (hb : b.inw w) : (a.join b).inw w := fun x o e => by
 simp only [PH.join] at e
 cases hx : a x with
 | none => rw [hx] at e; exact hb _ _ e
 | some o' => rw [hx] at e; cases e; exact ha _ _ hx
theorem F3 (b : Nat) (o : Obj) : PH.one b o b = some o := by simp [PH.one]
theorem PH.one_some {b : Nat} {o o' : Obj} {x : Nat} (e : PH.one b o x = some o') : x = b /\ o' = o := by
 unfold PH.one at e; split at e
 · cases e; exact ⟨‹_›, rfl⟩
 · cases e
def tabG : Nat := 0
def Fe : Array Value := (Go.Lib.pow10Tab.map fun z => Value.int .u64 z).toArray
def Inv (h : PH) : Prop := ∃ e fz, h tabG = some (.cells Fe e fz)
theorem Inv.mono {h h' : PH} (l : h.le h') : Inv h -> Inv h' := fun ⟨e, fz, q⟩ => ⟨e, fz, l _ _ q⟩
structure Sep (h m r : PH) (w : World) : Prop where
 inv : Inv h
 hm : h.disj m
 hr : h.disj r
 mr : m.disj r
 hw : h.inw w
 mw : m.inw w
 rw : r.inw w
theorem Gr {h : PH} {w : World} (hw : h.inw w) {b : Nat} {o : Obj} (e : h b = some o) : b < w.heap.size :=
 (Array.getElem?_eq_some_iff.1 (hw b o e)).1
theorem PH.inw_none {h : PH} {w : World} (hw : h.inw w) {b : Nat} (hb : w.heap.size <= b) : h b = none := by
 cases e : h b with
 | none => rfl
 | some o => have := Gr hw e; omega
theorem FV {h : PH} {w : World} (hw : h.inw w) (o : Obj) : h.disj (PH.one w.heap.size o) := fun b => by
 by_cases e : b = w.heap.size
 · subst e; exact .inl (PH.inw_none hw (Nat.le_refl _))
 · right; simp [PH.one, e]
structure Same (w w' : World) : Prop where
 os : w'.os = w.os
 tape : w'.tape = w.tape
 output : w'.output = w.output
theorem Same.refl (w : World) : Same w w := ⟨rfl, rfl, rfl⟩
theorem Same.trans {a b c : World} (h : Same a b) (k : Same b c) : Same a c := ⟨k.os.trans h.os, k.tape.trans h.tape, k.output.trans h.output⟩
def HL (h : PH) (w : World) (h' : PH) (w' : World) : Prop := h.le h' /\ Same w w'
theorem HL.refl {h : PH} {w : World} : HL h w h w := ⟨PH.le_refl h, Same.refl w⟩
theorem HL.trans {h h' h'' : PH} {w w' w'' : World} (l : HL h w h' w') (k : HL h' w' h'' w'') : HL h w h'' w'' := ⟨PH.le_trans l.1 k.1, l.2.trans k.2⟩
theorem HL.same {h : PH} {w w' : World} (s : Same w w') : HL h w h w' := ⟨PH.le_refl h, s⟩
structure SP where
 p : PH -> PH -> Prop
 mono : ∀ {h h' m}, h.le h' -> p h m -> p h' m
def SP.emp : SP where
 p := fun _ m => m = PH.emp
 mono := fun _ e => e
def SP.star (A B : SP) : SP where
 p := fun h m => ∃ m1 m2 : PH, m1.disj m2 /\ m = m1.join m2 /\ A.p h m1 /\ B.p h m2
 mono := fun l ⟨m1, m2, d, e, a, b⟩ => ⟨m1, m2, d, e, A.mono l a, B.mono l b⟩
def stars : List SP -> SP
 | [] => SP.emp
 | A :: L => SP.star A (stars L)
theorem eY {h m : PH} : (stars []).p h m ↔ m = PH.emp := Iff.rfl
theorem cj {L1 L2 : List SP} {h m : PH} : (stars (L1 ++ L2)).p h m ↔ ∃ m1 m2, m1.disj m2 /\ m = m1.join m2 /\ (stars L1).p h m1 /\ (stars L2).p h m2 := by
 induction L1 generalizing m with
 | nil =>
   constructor
   · intro hp; exact ⟨PH.emp, m, F8 m, (Gc m).symm, rfl, hp⟩
   · rintro ⟨m1, m2, _, rfl, e, hp⟩
     rw [eY] at e; subst e
     rw [Gc]; exact hp
 | cons A L1 ih =>
   constructor
   · rintro ⟨m1, m2, d, rfl, ha, hb⟩
     obtain ⟨m3, m4, d2, rfl, hc, hd⟩ := ih.1 hb
     have hd1 := PH.disj_join'.1 d
     exact ⟨m1.join m3, m4, PH.disj_join.2 ⟨hd1.2, d2⟩, (FZ _ _ _).symm, ⟨m1, m3, hd1.1, rfl, ha, hc⟩, hd⟩
   · rintro ⟨m5, m4, d, rfl, ⟨m1, m3, d1, rfl, ha, hc⟩, hd⟩
     have hd1 := PH.disj_join.1 d
     exact ⟨m1, m3.join m4, PH.disj_join'.2 ⟨d1, hd1.1⟩, FZ _ _ _, ha, ih.2 ⟨m3, m4, hd1.2, rfl, hc, hd⟩⟩
inductive Sel : List SP -> List SP -> List SP -> Prop
 | nil : Sel [] [] []
 | take {A L S R} : Sel L S R -> Sel (A :: L) (A :: S) R
 | skip {A L S R} : Sel L S R -> Sel (A :: L) S (A :: R)
theorem FN : (L : List SP) -> Sel L [] L
 | [] => .nil
 | _ :: L => .skip (FN L)
theorem Sel.all : (L : List SP) -> Sel L L []
 | [] => .nil
 | _ :: L => .take (Sel.all L)
theorem Sel.stars {L S R : List SP} (s : Sel L S R) {h m : PH} : (stars L).p h m ↔ ∃ m1 m2, m1.disj m2 /\ m = m1.join m2 /\ (Lg.stars S).p h m1 /\ (Lg.stars R).p h m2 := by
 induction s generalizing m with
 | nil =>
   constructor
   · intro e; rw [eY] at e; subst e
     exact ⟨PH.emp, PH.emp, FX _, (FY _).symm, rfl, rfl⟩
   · rintro ⟨m1, m2, _, rfl, e1, e2⟩
     rw [eY] at e1 e2; subst e1; subst e2
     rw [eY, FY]
 | take s ih =>
   constructor
   · rintro ⟨m1, m2, d, rfl, ha, hb⟩
     obtain ⟨m3, m4, d2, rfl, hc, hd⟩ := ih.1 hb
     have hd1 := PH.disj_join'.1 d
     exact ⟨m1.join m3, m4, PH.disj_join.2 ⟨hd1.2, d2⟩, (FZ _ _ _).symm, ⟨m1, m3, hd1.1, rfl, ha, hc⟩, hd⟩
   · rintro ⟨m5, m4, d, rfl, ⟨m1, m3, d1, rfl, ha, hc⟩, hd⟩
     have hd1 := PH.disj_join.1 d
     exact ⟨m1, m3.join m4, PH.disj_join'.2 ⟨d1, hd1.1⟩, FZ _ _ _, ha, ih.2 ⟨m3, m4, hd1.2, rfl, hc, hd⟩⟩
 | skip s ih =>
   constructor
   · rintro ⟨m1, m2, d, rfl, ha, hb⟩
     obtain ⟨m3, m4, d2, rfl, hc, hd⟩ := ih.1 hb
     have hd1 := PH.disj_join'.1 d
     refine ⟨m3, m1.join m4, PH.disj_join'.2 ⟨FU hd1.1, d2⟩, ?_, hc, ⟨m1, m4, hd1.2, rfl, ha, hd⟩⟩
     rw [<- FZ, <- FZ, PH.join_comm hd1.1]
   · rintro ⟨m3, m5, d, rfl, hc, ⟨m1, m4, d1, rfl, ha, hd⟩⟩
     have hd1 := PH.disj_join'.1 d
     refine ⟨m1, m3.join m4, PH.disj_join'.2 ⟨FU hd1.1, d1⟩, ?_, ha, ih.2 ⟨m3, m4, hd1.2, rfl, hc, hd⟩⟩
     rw [<- FZ, <- FZ, PH.join_comm hd1.1]
structure Ty where
 p : PH -> Value -> Prop
 mono : ∀ {h h' v}, h.le h' -> p h v -> p h' v
def tAny : Ty := ⟨fun _ _ => True, fun _ e => e⟩
def tV (v : Value) : Ty := ⟨fun _ u => u = v, fun {_ _ _} _ e => e⟩
def tW (w : Bool) (A : Ty) : Ty := ⟨fun h v => (w = true -> A.p h v) /\ (w = false -> v = undef), fun l e => ⟨fun hc => A.mono l (e.1 hc), e.2⟩⟩
def gT : Bool -> Bool -> Bool
 | true, true => true
 | false, false => true
 | _, _ => false
theorem zj {a b : Bool} : gT a b = true ↔ a = b := by cases a <;> cases b <;> simp [gT]
theorem Bx {a b : Bool} : gT a b = false ↔ a ≠ b := by cases a <;> cases b <;> simp [gT]
def Sub (A B : Ty) : Prop := ∀ h v, A.p h v -> B.p h v
theorem Sub.rfl {A : Ty} : Sub A A := fun _ _ e => e
theorem Sub.any {A : Ty} : Sub A tAny := fun _ _ _ => trivial
theorem Sub.trans {A B C : Ty} (h1 : Sub A B) (h2 : Sub B C) : Sub A C := fun h v e => h2 h v (h1 h v e)
theorem Sub.w {w : Bool} {A : Ty} (hw : w = true) : Sub (tW w A) A := fun _ _ e => e.1 hw
theorem Gw {w u : Bool} {A : Ty} (hw : w = true) : Sub (tW (w && u) A) (tW u A) := fun _ _ e => by subst hw; exact e
def Gd (G : Ty) (b w : Bool) : Prop := ∀ h v, G.p h v -> (w = true -> v = .bool b) /\ (w = false -> v ≠ .bool b)
theorem FS {G : Ty} {b c : Bool} (s : Sub G (tV (.bool c))) : Gd G b (gT c b) := fun h v e => by
 have hv : v = .bool c := s h v e
 subst hv
 exact ⟨fun q => by rw [zj.1 q], fun q e' => Bx.1 q (by cases e'; rfl)⟩
theorem Gl {G : Ty} {b c w : Bool} (s : Sub G (tW w (tV (.bool c)))) : Gd G b (w && gT c b) := fun h v e => by
 have hv := s h v e
 cases w with
 | true => exact FS (G := tV (.bool c)) Sub.rfl h v (hv.1 rfl)
 | false => exact ⟨fun q => by simp at q, fun _ e' => by rw [hv.2 rfl] at e'; simp [undef] at e'⟩
theorem Ge {A B : Ty} (e : A = B) : Sub A B := e ▸ Sub.rfl
theorem Sub.v {u v : Value} (e : u = v) : Sub (tV u) (tV v) := e ▸ Sub.rfl
theorem Sub.bool {a b : Bool} (e : a = b) : Sub (tV (.bool a)) (tV (.bool b)) := e ▸ Sub.rfl
theorem Sub.int {k : IntKind} {a b : Int} (e : a = b) : Sub (tV (.int k a)) (tV (.int k b)) := e ▸ Sub.rfl
abbrev Env := Nat -> Ty
def co : Env := fun _ => tAny
def upd (E : Env) (d : Nat) (A : Ty) : Env := fun t => match Nat.beq t d with | true => A | false => E t
theorem de (E : Env) (d : Nat) (A : Ty) : upd E d A d = A := by simp [upd]
theorem gW {t d : Nat} (h : t ≠ d) : Nat.beq t d = false := by
 cases e : Nat.beq t d with
 | false => rfl
 | true => exact absurd (Nat.eq_of_beq_eq_true e) h
theorem bV (E : Env) {d t : Nat} (A : Ty) (h : t ≠ d) : upd E d A t = E t := by simp only [upd, gW h]
def SubE (E E' : Env) : Prop := ∀ t, Sub (E t) (E' t)
theorem SubE.any {E : Env} : SubE E co := fun _ => Sub.any
theorem SubE.upd {E E' : Env} {d : Nat} {A : Ty} (h1 : Sub (E d) A) (h2 : SubE E E') : SubE E (upd E' d A) := fun t => by
 by_cases e : t = d
 · subst e; rw [de]; exact h1
 · rw [bV _ _ e]; exact h2 t
def opTy (E : Env) : Operand -> Ty
 | .tmp t => E t
 | .const v => tV v
 | .global g => tV (.pointer (some ⟨g, 0, none⟩))
 | .func f => tV (.func (.func f) #[] #[])
def Fr (E : Env) (h : PH) (a : Act) : Prop := ∀ t, (E t).p h (a.tmps.getD t undef)
theorem Fr.mono {E : Env} {h h' : PH} {a : Act} (l : h.le h') (f : Fr E h a) : Fr E h' a := fun t => (E t).mono l (f t)
theorem Fr.sub {E E' : Env} {h : PH} {a : Act} (s : SubE E E') (f : Fr E h a) : Fr E' h a := fun t => s t _ _ (f t)
theorem Fr.op {E : Env} {h : PH} {a : Act} (f : Fr E h a) (x : Operand) : (opTy E x).p h (a.eval x) := by
 cases x with
 | tmp t => exact f t
 | const v => exact rfl
 | global g => exact rfl
 | func g => exact rfl
theorem Fr.get {E : Env} {h : PH} {a : Act} (f : Fr E h a) {x : Operand} {A : Ty} (s : Sub (opTy E x) A) : A.p h (a.eval x) := s _ _ (f.op x)
theorem Fr.put {E : Env} {h : PH} {a : Act} (f : Fr E h a) {d : Nat} (hd : d < a.tmps.size) {A : Ty} {v : Value} (hv : A.p h v) : Fr (upd E d A) h (a.put (some d) v) := fun t => by
 by_cases e : t = d
 · subst e; rw [de]; simpa [Act.put, Array.getD, hd] using hv
 · rw [bV _ _ e]
   have : (a.put (some d) v).tmps.getD t undef = a.tmps.getD t undef := by
    simp only [Act.put, Array.getD_eq_getD_getElem?, Array.getElem?_setIfInBounds_ne (Ne.symm e)]
   rw [this]; exact f t
structure Cx where
 P : Program
 ro : Option Nat
 N : Nat
 ds : List Deferred
 h0 : PH
 w0 : World
 r : PH
def Fw (ro : Option Nat) : Fence := { Fence.wide with round := ro }
@[simp] theorem Fw_fn (ro : Option Nat) (f : Nat) : (Fw ro).fn f = True := rfl
@[simp] theorem Fw_depth (ro : Option Nat) : (Fw ro).depth = none := rfl
@[simp] theorem Fw_round (ro : Option Nat) : (Fw ro).round = ro := rfl
def Pre (C : Cx) (E : Env) (L : List SP) (a : Act) (w : World) : Prop :=
 a.tmps.size = C.N /\ a.defers = C.ds /\ ∃ h m, HL C.h0 C.w0 h w /\ Sep h m C.r w /\ (stars L).p h m /\ Fr E h a
theorem Pre.sub {C : Cx} {E E' : Env} {L : List SP} {a : Act} {w : World} (s : SubE E E') (p : Pre C E L a w) : Pre C E' L a w :=
 let ⟨n, d, h, m, l, sp, st, f⟩ := p; ⟨n, d, h, m, l, sp, st, f.sub s⟩
def K (C : Cx) (k : Act -> World -> Prop) (E : Env) (L : List SP) : Prop := ∀ a w, Pre C E L a w -> k a w
def J (C : Cx) (c : Code) (Q : Exit -> Act -> World -> Prop) (E : Env) (L : List SP) : Prop := K C (fun a w => c.wpIn (Fw C.ro) 0 C.P Q a w) E L
def JL (C : Cx) (ops : Array Oper) (l : List Oper) (Q : Exit -> Act -> World -> Prop) (E : Env) (L : List SP) : Prop :=
 K C (fun a w => wpListIn (Fw C.ro) 0 C.P ops Q l a w) E L
def inB (id : Nat) (Q : Exit -> Act -> World -> Prop) : Exit -> Act -> World -> Prop
 | .exit i, a, w => match Nat.beq i id with | true => Q .normal a w | false => Q (.exit i) a w
 | e, a, w => Q e a w
theorem ap {C : Cx} {x y : Code} {Q : Exit -> Act -> World -> Prop} {E : Env} {L : List SP}
  (h : J C x (Exit.then (fun a w => y.wpIn (Fw C.ro) 0 C.P Q a w) Q) E L) : J C (.seq x y) Q E L := fun a w p => wpIn_seq (h a w p)
theorem av {C : Cx} {Q : Exit -> Act -> World -> Prop} {E : Env} {L : List SP} (h : K C (Q .normal) E L) : J C .skip Q E L := fun a w p => wpIn_skip (h a w p)
theorem aV {C : Cx} {id : Nat} {Q : Exit -> Act -> World -> Prop} {E : Env} {L : List SP} (h : K C (Q (.exit id)) E L) : J C (.exit id) Q E L := fun a w p => wpIn_exit (h a w p)
theorem aC {C : Cx} {Q : Exit -> Act -> World -> Prop} {E : Env} {L : List SP} (h : K C (Q .ret) E L) : J C .ret Q E L := fun a w p => wpIn_ret (h a w p)
theorem au {C : Cx} {id : Nat} {c : Code} {Q : Exit -> Act -> World -> Prop} {E : Env} {L : List SP} (h : J C c (inB id Q) E L) : J C (.block id c) Q E L := fun a w p => by
 refine wpIn_block (Code.wpIn_mono ?_ (h a w p))
 intro e a w q
 cases e <;> simp only [inB, Exit.inBlock] at q ⊢ <;> first | exact q | skip
 rename_i i
 by_cases hi : i = id
 · subst hi; simpa using q
 · rw [gW hi] at q; simp only [hi, if_false]; exact q
theorem am {C : Cx} {x : Operand} {c d : Code} {t : Bool} {Q : Exit -> Act -> World -> Prop} {E : Env} {L : List SP} (hx : Sub (opTy E x) (tV (.bool t)))
  (ht : t = true -> J C c Q E L) (hf : t = false -> J C d Q E L) : J C (.cond x c d) Q E L := fun a w p => by
 obtain ⟨n, ds, h, m, l, sp, st, f⟩ := p
 exact wpIn_cond_split (f.get hx) (fun e => ht e a w ⟨n, ds, h, m, l, sp, st, f⟩) (fun e => hf e a w ⟨n, ds, h, m, l, sp, st, f⟩)
theorem ah {C : Cx} {id : Nat} {ops : Array Oper} {Q : Exit -> Act -> World -> Prop} {E : Env} {L : List SP} (h : JL C ops ops.toList Q E L) : J C (.region id ops false) Q E L :=
 fun a w p => wpIn_region_list (h a w p)
theorem ab {C : Cx} {ops : Array Oper} {Q : Exit -> Act -> World -> Prop} {E : Env} {L : List SP} (h : K C (Q .normal) E L) : JL C ops [] Q E L := fun a w p => h a w p
theorem oL {σ : Type} {F : Fence} {n : Nat} {P : Program} {Q : Exit -> Act -> World -> Prop} {c : Code} (I : σ -> Act -> World -> Prop) (μ : σ -> Nat)
  (round : ∀ s a w, I s a w -> c.wpIn F n P (Exit.then (fun a' w' => ∃ s', μ s' < μ s /\ I s' a' w') Q) a w) (s : σ) {a : Act} {w : World} (h₀ : I s a w) : (Code.loop c).wpIn F n P Q a w := by
 intro b k cs hro hb hr
 have key : ∀ j s a w, μ s = j -> I s a w ->
   ∃ e a' w', Q e a' w' /\ ArrivesIn (Machine.fenced P F) P (lone (b.atR a (.code c :: .inLoop c :: k)) cs w) b k cs e a' w' := by
  intro j
  induction j using Nat.strongRecOn with
  | _ j ih =>
    intro s a w hn hI
    obtain ⟨e, a₁, w₁, hq, harr⟩ := round s a w hI b (.inLoop c :: k) cs hro hb hr
    cases e with
    | normal =>
      obtain ⟨s', hlt, hI₁⟩ := hq
      obtain ⟨e₂, a₂, w₂, hq₂, harr₂⟩ := ih (μ s') (hn ▸ hlt) s' a₁ w₁ rfl hI₁
      exact ⟨e₂, a₂, w₂, hq₂, .of_steps (StepsIn.trans harr (.one (fenced_calm hb hr rfl) stepR_inLoop)) harr₂⟩
    | exit id => exact ⟨_, a₁, w₁, hq, .pass (x := .inLoop c) rfl (fun _ _ => .inl (by simp)) harr⟩
    | goto l => exact ⟨_, a₁, w₁, hq, .pass (x := .inLoop c) rfl (fun _ _ => .inl (by simp)) harr⟩
    | ret => exact ⟨_, a₁, w₁, hq, .pass (x := .inLoop c) rfl (fun _ _ => .inl (by simp)) harr⟩
    | panic ch => exact ⟨_, a₁, w₁, hq, .pass (x := .inLoop c) rfl (fun _ _ => .inl (by simp)) harr⟩
    | outgrown => exact ⟨_, a₁, w₁, hq, .pass (x := .inLoop c) rfl (fun _ _ => .inl (by simp)) harr⟩
 obtain ⟨e, a', w', hq, harr⟩ := key _ s a w rfl h₀
 exact ⟨e, a', w', hq, .of_steps (.one (fenced_calm hb hr rfl) stepR_loop) harr⟩
def zk {σ : Type} (C : Cx) (inv : σ -> Prop) (E : σ -> Env) (L : σ -> List SP) (μ : σ -> Nat) (s : σ) (a : Act) (w : World) : Prop := ∃ s', μ s' < μ s /\ inv s' /\ Pre C (E s') (L s') a w
theorem CV {σ : Type} {C : Cx} {c : Code} {Q : Exit -> Act -> World -> Prop} {E0 : Env} (inv : σ -> Prop) (E : σ -> Env) (L : σ -> List SP) (μ : σ -> Nat) (s0 : σ) (i0 : inv s0)
  (hE : SubE E0 (E s0)) (round : ∀ s, inv s -> J C c (Exit.then (zk C inv E L μ s) Q) (E s) (L s)) : J C (.loop c) Q E0 (L s0) := fun a w p =>
 oL (fun s a w => inv s /\ Pre C (E s) (L s) a w) μ
  (fun s a w ⟨i, p⟩ => Code.wpIn_mono (fun e a w q => by cases e <;> first | exact q | (obtain ⟨s', m, i', p'⟩ := q; exact ⟨s', m, i', p'⟩)) (round s i a w p)) s0 ⟨i0, p.sub hE⟩
theorem By {σ : Type} {C : Cx} {inv : σ -> Prop} {E : σ -> Env} {L : σ -> List SP} {μ : σ -> Nat} {s : σ} {E1 : Env} (s' : σ) (hm : μ s' < μ s) (hi : inv s') (hE : SubE E1 (E s')) :
  K C (zk C inv E L μ s) E1 (L s') := fun _ _ p => ⟨s', hm, hi, p.sub hE⟩
def Step {X : Type} (C : Cx) (o : Oper) (E : Env) (L : List SP) (A : X -> Ty) (L' : X -> List SP) : Prop :=
 ∀ a w h m, a.tmps.size = C.N -> HL C.h0 C.w0 h w -> Sep h m C.r w -> (stars L).p h m -> Fr E h a ->
  ∀ (next : Act -> World -> Prop) (Q : Exit -> Act -> World -> Prop),
   (∀ x v w' h' m', HL h w h' w' -> Sep h' m' C.r w' -> (stars (L' x)).p h' m' -> (A x).p h' v -> next (a.put o.dst v) w') -> o.wpIn (Fw C.ro) 0 C.P a w next Q
abbrev a8 (C : Cx) (o : Oper) (E : Env) (L : List SP) (A : Ty) : Prop := Step (X := Unit) C o E L (fun _ => A) (fun _ => L)
theorem dr {X : Type} {C : Cx} {ops : Array Oper} {o : Oper} {rest : List Oper} {Q : Exit -> Act -> World -> Prop} {E : Env} {L : List SP} {A : X -> Ty} {L' : X -> List SP} {d : Nat}
  (hg : o.guard = none) (hd : o.dst = some d) (hN : Nat.blt d C.N = true) (hs : Step C o E L A L')
  (hk : ∀ x, JL C ops rest Q (upd E d (A x)) (L' x)) : JL C ops (o :: rest) Q E L := fun a w ⟨n, ds, h, m, l, sp, st, f⟩ => by
 refine wpListIn_plain hg fun K hK => hs a w h m n l sp st f K Q fun x v w' h' m' l' sp' st' hv => hK _ _ (hk x _ _ ⟨?_, ?_, h', m', HL.trans l l', sp', st', ?_⟩)
 · rw [hd]; simpa [Act.put] using n
 · rw [hd]; exact ds
 · rw [hd]; exact (f.mono l'.1).put (by rw [n]; simpa using hN) hv
theorem oM {C : Cx} {ops : Array Oper} {o : Oper} {rest : List Oper} {Q : Exit -> Act -> World -> Prop} {E : Env} {L : List SP} {A : Ty} {d : Nat}
  (hg : o.guard = none) (hd : o.dst = some d) (hN : Nat.blt d C.N = true) (hs : a8 C o E L A)
  (hk : JL C ops rest Q (upd E d A) L) : JL C ops (o :: rest) Q E L := dr hg hd hN hs fun _ => hk
theorem jq {ops : Array Oper} {o og : Oper} {a : Act} {j t : Nat} {b : Bool} (hg : o.guard = some (j, b)) (hj : ops[j]? = some og) (ht : og.dst = some t) (hv : a.tmps.getD t undef = .bool b) : Region.wanted o (yielded ops a.tmps) = true := by
 have hy : yielded ops a.tmps j = some b := by
  simp only [yielded, hj, Option.bind_some, ht]
  simp only [Array.getD_eq_getD_getElem?] at hv
  cases ha : a.tmps[t]? with
  | none => rw [ha] at hv; simp [undef] at hv
  | some u => rw [ha] at hv; simp at hv; simp [hv]
 simp [Region.wanted, hg, hy]
theorem i7 {ops : Array Oper} {o og : Oper} {a : Act} {j t : Nat} {b : Bool} (hg : o.guard = some (j, b)) (hj : ops[j]? = some og) (ht : og.dst = some t) (hv : a.tmps.getD t undef ≠ .bool b) : Region.wanted o (yielded ops a.tmps) = false := by
 have hy : yielded ops a.tmps j ≠ some b := by
  simp only [yielded, hj, Option.bind_some, ht]
  simp only [Array.getD_eq_getD_getElem?] at hv
  cases ha : a.tmps[t]? with
  | none => simp
  | some u =>
    rw [ha] at hv
    have hv' : u ≠ .bool b := by simpa using hv
    intro e
    apply hv'
    revert e
    cases u <;> simp
 simp [Region.wanted, hg, hy]
theorem eu {X : Type} {C : Cx} {ops : Array Oper} {o : Oper} {rest : List Oper} {Q : Exit -> Act -> World -> Prop} {E : Env} {L : List SP} {A : X -> Ty} {L' : X -> List SP}
  (hg : o.guard = none) (hd : o.dst = none) (hs : Step C o E L A L')
  (hk : ∀ x, JL C ops rest Q E (L' x)) : JL C ops (o :: rest) Q E L := fun a w ⟨n, ds, h, m, l, sp, st, f⟩ => by
 refine wpListIn_plain hg fun K hK => hs a w h m n l sp st f K Q fun x v w' h' m' l' sp' st' hv => hK _ _ (hk x _ _ ⟨?_, ?_, h', m', HL.trans l l', sp', st', ?_⟩)
 · rw [hd]; exact n
 · rw [hd]; exact ds
 · rw [hd]; exact f.mono l'.1
theorem dD {C : Cx} {ops : Array Oper} {o og : Oper} {rest : List Oper} {Q : Exit -> Act -> World -> Prop} {E : Env} {L : List SP} {A : Ty} {d j t : Nat} {b w : Bool}
  (hg : o.guard = some (j, b)) (hj : ops[j]? = some og) (ht : og.dst = some t) (hc : Gd (E t) b w) (hd : o.dst = some d) (hN : Nat.blt d C.N = true)
  (hs : w = true -> a8 C o E L A)
  (hk : JL C ops rest Q (upd E d (tW w A)) L) : JL C ops (o :: rest) Q E L := fun a wd ⟨n, ds, h, m, l, sp, st, f⟩ => by
 have hlt : d < C.N := by simpa using hN
 have hv := hc _ _ (f t)
 show wpListIn _ _ _ _ _ _ _ _
 unfold wpListIn
 cases w with
 | true =>
   have hwt : Region.wanted o (yielded ops a.tmps) = true := jq hg hj ht (hv.1 rfl)
   rw [if_pos hwt]
   refine hs rfl a wd h m n l sp st f _ Q fun _ v w' h' m' l' sp' st' hv' => hk _ _ ⟨?_, ?_, h', m', HL.trans l l', sp', st', ?_⟩
   · rw [hd]; simpa [Act.put] using n
   · rw [hd]; exact ds
   · rw [hd]; exact (f.mono l'.1).put (by rw [n]; exact hlt) ⟨fun _ => hv', fun e => by simp at e⟩
 | false =>
   have hwt : Region.wanted o (yielded ops a.tmps) = false := i7 hg hj ht (hv.2 rfl)
   rw [if_neg (by rw [hwt]; simp)]
   refine ⟨fun _ _ => trivial, hk _ _ ⟨?_, ?_, h, m, l, sp, st, ?_⟩⟩
   · rw [hd]; simpa [Act.put] using n
   · rw [hd]; exact ds
   · rw [hd]; exact f.put (by rw [n]; exact hlt) ⟨fun e => by simp at e, fun _ => rfl⟩
def packV (agg : Bool) (cs : List Value) : Value := if agg then .agg cs.toArray else cs.headD undef
structure Rp (α : Type) where
 k : Nat
 agg : Bool
 rel : PH -> α -> List Value -> Prop
 ty : α -> Ty
 len : ∀ {h x cs}, rel h x cs -> cs.length = k
 one : ∀ {h x cs}, rel h x cs -> ∀ c ∈ cs, c.oneCell' = true
 mono : ∀ {h h' x cs}, h.le h' -> rel h x cs -> rel h' x cs
 scalar : agg = false -> k = 1
 iff : ∀ {h x v}, (ty x).p h v ↔ ∃ cs, rel h x cs /\ v = packV agg cs
theorem Rp.pack {α : Type} (R : Rp α) {h : PH} {x : α} {cs : List Value} (r : R.rel h x cs) : (R.ty x).p h (packV R.agg cs) := R.iff.2 ⟨cs, r, rfl⟩
theorem Rp.cells {α : Type} (R : Rp α) {h : PH} {x : α} {v : Value} (t : (R.ty x).p h v) : R.rel h x v.cells.toList := by
 obtain ⟨cs, r, rfl⟩ := R.iff.1 t
 have hl := R.len r
 have h1 := R.one r
 unfold packV
 cases ha : R.agg with
 | true => simpa [Value.cells] using r
 | false =>
   have hk := R.scalar ha
   match cs, hl with
   | [c], _ =>
     have hc := h1 c (by simp)
     have : c.cells = #[c] := by cases c <;> first | rfl | (simp [Value.oneCell'] at hc)
     simpa [this] using r
   | [], hl => simp [hk] at hl
   | _ :: _ :: _, hl => simp [hk] at hl
def rV : Rp Value where
 k := 1
 agg := false
 rel := fun _ x cs => cs = [x] /\ x.oneCell' = true
 ty := fun x => ⟨fun _ v => v = x /\ x.oneCell' = true, fun _ e => e⟩
 len := by rintro _ _ _ ⟨rfl, _⟩; rfl
 one := by rintro _ _ _ ⟨rfl, h⟩ c hc; simp at hc; subst hc; exact h
 mono := fun _ e => e
 scalar := fun _ => rfl
 iff := by
  intro h x v
  constructor
  · rintro ⟨rfl, h1⟩; exact ⟨[v], ⟨rfl, h1⟩, rfl⟩
  · rintro ⟨_, ⟨rfl, h1⟩, rfl⟩; exact ⟨rfl, h1⟩
def rS {α : Type} (f : α -> Value) (h1 : ∀ x, (f x).oneCell' = true) : Rp α where
 k := 1
 agg := false
 rel := fun _ x cs => cs = [f x]
 ty := fun x => tV (f x)
 len := by rintro _ _ _ rfl; rfl
 one := by rintro _ x _ rfl c hc; simp at hc; subst hc; exact h1 x
 mono := fun _ e => e
 scalar := fun _ => rfl
 iff := by
  intro h x v
  constructor
  · intro e; exact ⟨[f x], rfl, e⟩
  · rintro ⟨_, rfl, rfl⟩; rfl
abbrev aO : Rp Int := rS (fun n => .int .i64 n) (fun _ => rfl)
abbrev rU8 : Rp Int := rS (fun n => .int .u8 n) (fun _ => rfl)
abbrev bN : Rp Bool := rS .bool (fun _ => rfl)
abbrev d5 : Rp ByteArray := rS .string (fun _ => rfl)
def rT {α : Type} (T : α -> Ty) (h1 : ∀ {h x v}, (T x).p h v -> v.oneCell' = true) : Rp α where
 k := 1
 agg := false
 rel := fun h x cs => ∃ v, cs = [v] /\ (T x).p h v
 ty := T
 len := by rintro _ _ _ ⟨v, rfl, _⟩; rfl
 one := by rintro _ _ _ ⟨v, rfl, hv⟩ c hc; simp at hc; subst hc; exact h1 hv
 mono := fun l ⟨v, e, hv⟩ => ⟨v, e, (T _).mono l hv⟩
 scalar := fun _ => rfl
 iff := by
  intro h x v
  constructor
  · intro e; exact ⟨[v], ⟨v, rfl, e⟩, rfl⟩
  · rintro ⟨_, ⟨u, rfl, hu⟩, rfl⟩; exact hu
def Holds (h : PH) (b off : Nat) (cs : List Value) : Prop := ∃ c e fr, h b = some (.cells c e fr) /\ ∀ i v, cs[i]? = some v -> c[off + i]? = some v
theorem Holds.mono {h h' : PH} {b off : Nat} {cs : List Value} (l : h.le h') : Holds h b off cs -> Holds h' b off cs := fun ⟨c, e, fr, hb, hc⟩ => ⟨c, e, fr, l _ _ hb, hc⟩
theorem Holds.cell {h : PH} {w : World} {b off : Nat} {cs : List Value} (hw : h.inw w) (H : Holds h b off cs) {i : Nat} {v : Value} (hv : cs[i]? = some v) : w.cell? ⟨b, off + i, none⟩ = some v := by
 obtain ⟨c, e, fr, hb, hc⟩ := H
 have := hw _ _ hb
 simp [World.cell?, this, hc i v hv]
def bx {α : Type} (R : Rp α) (x : α) : Ty where
 p := fun h v => ∃ b off cs, v = .pointer (some ⟨b, off, none⟩) /\ Holds h b off cs /\ R.rel h x cs
 mono := fun l ⟨b, off, cs, e, H, r⟩ => ⟨b, off, cs, e, H.mono l, R.mono l r⟩
def tSl {α : Type} (R : Rp α) (xs : List α) : Ty where
 p := fun h v => ∃ (ao : Option Addr) (cap : { c : Nat // xs.length <= c }), v = .slice ao xs.length cap /\ (xs ≠ [] -> ∃ b off, ao = some ⟨b, off, none⟩ /\ ∀ (i : Nat) x, xs[i]? = some x -> ∃ cs, Holds h b (off + i * R.k) cs /\ R.rel h x cs)
 mono := fun l ⟨ao, cap, e, H⟩ => ⟨ao, cap, e, fun hn => let ⟨b, off, ea, H'⟩ := H hn; ⟨b, off, ea, fun i x hx => let ⟨cs, H1, r⟩ := H' i x hx; ⟨cs, H1.mono l, R.mono l r⟩⟩⟩
def rSl {α : Type} (R : Rp α) : Rp (List α) := rT (tSl R) (by rintro h x v ⟨ao, cap, rfl, _⟩; rfl)
structure TyOf {α : Type} (P : Program) (T : Nat) (R : Rp α) : Prop where
 agg : ∀ w, (isAgg T).run P w = .ok R.agg w
 size : ∀ w, (Go.sizeOf T).run P w = .ok R.k w
theorem ce (b o n : Nat) : (⟨b, o, none⟩ : Addr).add n = ⟨b, o + n, none⟩ := by
 unfold Addr.add; split
 · subst_vars; rfl
 · rfl
theorem bG {P : Program} {w : World} {T b o k : Nat} {g : Bool} {cs : List Value} (ha : ∀ w, (isAgg T).run P w = .ok g w) (hs : ∀ w, (Go.sizeOf T).run P w = .ok k w)
  (hl : cs.length = k) (h1 : g = false -> k = 1) (hc : ∀ i v, cs[i]? = some v -> w.cell? ⟨b, o + i, none⟩ = some v) : (loadVar T ⟨b, o, none⟩).run P w = .ok (packV g cs) w := by
 unfold loadVar
 cases g with
 | true =>
   have := run_loadCells_list (P := P) (w := w) ⟨b, o, none⟩ cs (fun j v hv => by rw [ce]; exact hc j v hv)
   rw [hl] at this
   simp [Sem.run_bind, ha, hs, this, packV]
 | false =>
   have hk := h1 rfl
   match cs, hl with
   | [c], _ =>
     have := hc 0 c rfl
     simp only [Nat.add_zero] at this
     simp [Sem.run_bind, ha, packV, this]
   | [], hl => simp [hk] at hl
   | _ :: _ :: _, hl => simp [hk] at hl
section
variable {C : Cx} {E : Env} {L : List SP} {d : Option Nat} {ty : Nat} {pos : String} {af : Array Edge} {g : Option (Nat × Bool)}
theorem FQ {X : Type} {o : Oper} {A : X -> Ty} {L' : X -> List SP} (hop : ∀ c, o.op ≠ .defer c)
  (H : ∀ a w h m, HL C.h0 C.w0 h w -> Sep h m C.r w -> (stars L).p h m -> Fr E h a -> ∃ x v w' h' m', (execOp a.eval o).run C.P w = .ok (.value v) w' /\ HL h w h' w' /\ Sep h' m' C.r w' /\ (stars (L' x)).p h' m' /\ (A x).p h' v) :
  Step C o E L A L' := fun a w h m n l sp st f next Q hk => by
 obtain ⟨x, v, w', h', m', hr, l', sp', st', hv⟩ := H a w h m l sp st f
 refine ⟨fun _ _ => trivial, ?_⟩
 rw [Fw_round, Oper.semAt_eq _ _ _ hop, hr]
 exact hk x v w' h' m' l' sp' st' hv
theorem Ga {X : Type} {o : Oper} {L' : X -> List SP} (hop : ∀ c, o.op ≠ .defer c)
  (H : ∀ a w h m, HL C.h0 C.w0 h w -> Sep h m C.r w -> (stars L).p h m -> Fr E h a -> ∃ x w' h' m', (execOp a.eval o).run C.P w = .ok .skip w' /\ HL h w h' w' /\ Sep h' m' C.r w' /\ (stars (L' x)).p h' m') :
  Step C o E L (fun _ => tAny) L' := fun a w h m n l sp st f next Q hk => by
 obtain ⟨x, w', h', m', hr, l', sp', st'⟩ := H a w h m l sp st f
 refine ⟨fun _ _ => trivial, ?_⟩
 rw [Fw_round, Oper.semAt_eq _ _ _ hop, hr]
 exact hk x undef w' h' m' l' sp' st' trivial
theorem FP {o : Oper} {A : Ty} (hop : ∀ c, o.op ≠ .defer c)
  (H : ∀ a w h, h.inw w -> Fr E h a -> ∃ v, (execOp a.eval o).run C.P w = .ok (.value v) w /\ A.p h v) : a8 C o E L A :=
 FQ hop fun a w h m _ sp st f => let ⟨v, hr, hv⟩ := H a w h sp.hw f; ⟨(), v, w, h, m, hr, HL.refl, sp, st, hv⟩
theorem ar {x : Operand} {A : Ty} (hx : Sub (opTy E x) A) : a8 C ⟨d, .move x, ty, pos, af, g⟩ E L A :=
 FP (by intro c h; cases h) fun a w h hw f => ⟨a.eval x, by simp [execOp], f.get hx⟩
theorem bd {x : Operand} {A : Ty} (hx : Sub (opTy E x) A) : a8 C ⟨d, .assign x, ty, pos, af, g⟩ E L A :=
 FP (by intro c h; cases h) fun a w h hw f => ⟨a.eval x, by simp [execOp], f.get hx⟩
theorem aw {c x : Operand} {b e : Bool} (hc : Sub (opTy E c) (tV (.bool b))) (hx : Sub (opTy E x) (tW (gT b true) (tV (.bool e)))) :
  a8 C ⟨d, .pick c x (.const (.bool false)), ty, pos, af, g⟩ E L (tV (.bool (b && e))) :=
 FP (by intro c h; cases h) fun a w h hw f => by
  have h1 := f.get hc
  have h2 := f.get hx
  refine ⟨.bool (b && e), ?_, rfl⟩
  have h1 : a.eval c = .bool b := h1
  cases b with
  | true => simp [execOp, h1, asBool, show a.eval x = .bool e from h2.1 rfl]
  | false => simp [execOp, h1, asBool, show a.eval (.const (.bool false)) = .bool false from rfl]
theorem aD {c x : Operand} {b e : Bool} (hc : Sub (opTy E c) (tV (.bool b))) (hx : Sub (opTy E x) (tW (gT b false) (tV (.bool e)))) :
  a8 C ⟨d, .pick c (.const (.bool true)) x, ty, pos, af, g⟩ E L (tV (.bool (b || e))) :=
 FP (by intro c h; cases h) fun a w h hw f => by
  have h1 := f.get hc
  have h2 := f.get hx
  refine ⟨.bool (b || e), ?_, rfl⟩
  have h1 : a.eval c = .bool b := h1
  cases b with
  | true => simp [execOp, h1, asBool, show a.eval (.const (.bool true)) = .bool true from rfl]
  | false => simp [execOp, h1, asBool, show a.eval x = .bool e from h2.1 rfl]
theorem bc {T : Nat} {x : Operand} {b : Bool} (hx : Sub (opTy E x) (tV (.bool b))) : a8 C ⟨d, .unOp .not T x, ty, pos, af, g⟩ E L (tV (.bool (!b))) :=
 FP (by intro c h; cases h) fun a w h hw f => ⟨.bool (!b), by
  have h1 : a.eval x = .bool b := f.get hx
  simp [execOp, h1, Op.unary], rfl⟩
theorem dE {T U : Nat} {op : BinOp} {x y : Operand} {k : IntKind} {a b : Int} {v : Value} (hx : Sub (opTy E x) (tV (.int k a))) (hy : Sub (opTy E y) (tV (.int k b)))
  (hr : ∀ P w, (binOp op T (.int k a) (.int k b)).run P w = .ok v w) : a8 C ⟨d, .binOp op T x y U, ty, pos, af, g⟩ E L (tV v) :=
 FP (by intro c h; cases h) fun ac w h hw f => ⟨v, by
  have h1 : ac.eval x = .int k a := f.get hx
  have h2 : ac.eval y = .int k b := f.get hy
  have he : ∀ w, (eqGuard op T x y (.int k a) (.int k b)).run C.P w = .ok () w := by intro w; cases op <;> simp [eqGuard]
  simp [execOp, h1, h2, Sem.run_bind, he, hr], rfl⟩
theorem az {T U : Nat} {x y : Operand} {k : IntKind} {a b : Int} (hx : Sub (opTy E x) (tV (.int k a))) (hy : Sub (opTy E y) (tV (.int k b))) :
  a8 C ⟨d, .binOp .lss T x y U, ty, pos, af, g⟩ E L (tV (.bool (decide (a < b)))) := dE hx hy (fun P w => by simp [binOp, Op.intCmp])
theorem bS {T U : Nat} {x y : Operand} {k : IntKind} {a b : Int} (hx : Sub (opTy E x) (tV (.int k a))) (hy : Sub (opTy E y) (tV (.int k b))) :
  a8 C ⟨d, .binOp .leq T x y U, ty, pos, af, g⟩ E L (tV (.bool (decide (a <= b)))) := dE hx hy (fun P w => by simp [binOp, Op.intCmp])
theorem bj {T U : Nat} {x y : Operand} {k : IntKind} {a b : Int} (hx : Sub (opTy E x) (tV (.int k a))) (hy : Sub (opTy E y) (tV (.int k b))) :
  a8 C ⟨d, .binOp .gtr T x y U, ty, pos, af, g⟩ E L (tV (.bool (decide (b < a)))) := dE hx hy (fun P w => by simp [binOp, Op.intCmp])
theorem bA {T U : Nat} {x y : Operand} {k : IntKind} {a b : Int} (hx : Sub (opTy E x) (tV (.int k a))) (hy : Sub (opTy E y) (tV (.int k b))) :
  a8 C ⟨d, .binOp .geq T x y U, ty, pos, af, g⟩ E L (tV (.bool (decide (b <= a)))) := dE hx hy (fun P w => by simp [binOp, Op.intCmp])
theorem aJ {T U : Nat} {x y : Operand} {k : IntKind} {a b : Int} (hx : Sub (opTy E x) (tV (.int k a))) (hy : Sub (opTy E y) (tV (.int k b))) :
  a8 C ⟨d, .binOp .eql T x y U, ty, pos, af, g⟩ E L (tV (.bool (decide (a = b)))) := dE hx hy (fun P w => by simp [binOp, Op.intCmp]; rfl)
theorem be {T U : Nat} {x y : Operand} {k : IntKind} {a b : Int} (hx : Sub (opTy E x) (tV (.int k a))) (hy : Sub (opTy E y) (tV (.int k b))) :
  a8 C ⟨d, .binOp .neq T x y U, ty, pos, af, g⟩ E L (tV (.bool (!decide (a = b)))) := dE hx hy (fun P w => by simp [binOp, Op.intCmp, bne]; rfl)
def iu (n : Int) : Prop := -9223372036854775808 <= n /\ n <= 9223372036854775807
theorem fZ {n : Int} (h : iu n) : IntKind.i64.wrap n = n := IntWalk.i64_in n ⟨h.1, h.2⟩
theorem ax {T U : Nat} {x y : Operand} {a b : Int} (hx : Sub (opTy E x) (tV (.int .i64 a))) (hy : Sub (opTy E y) (tV (.int .i64 b))) (hr : iu (a + b)) :
  a8 C ⟨d, .binOp .add T x y U, ty, pos, af, g⟩ E L (tV (.int .i64 (a + b))) := dE hx hy (fun P w => by simp [binOp, Op.intArith, fZ hr])
theorem cK {T U : Nat} {x y : Operand} {a b : Int} (hx : Sub (opTy E x) (tV (.int .i64 a))) (hy : Sub (opTy E y) (tV (.int .i64 b))) (hr : iu (a - b)) :
  a8 C ⟨d, .binOp .sub T x y U, ty, pos, af, g⟩ E L (tV (.int .i64 (a - b))) := dE hx hy (fun P w => by simp [binOp, Op.intArith, fZ hr])
theorem tn {T U : Nat} {x y : Operand} {a b : Int} (hx : Sub (opTy E x) (tV (.int .i64 a))) (hy : Sub (opTy E y) (tV (.int .i64 b))) (hr : iu (a * b)) :
  a8 C ⟨d, .binOp .mul T x y U, ty, pos, af, g⟩ E L (tV (.int .i64 (a * b))) := dE hx hy (fun P w => by simp [binOp, Op.intArith, fZ hr])
theorem ag {α : Type} {R : Rp α} {T e : Nat} {x : Operand} {xs : List α} (hu : C.P.underlying T = some (.slice e)) (hx : Sub (opTy E x) (tSl R xs)) :
  a8 C ⟨d, .call { callee := .builtin .len, args := #[x], argTypes := #[T] }, ty, pos, af, g⟩ E L (tV (.int .i64 xs.length)) :=
 FP (by intro c h; cases h) fun a w h hw f => by
  obtain ⟨ao, cap, hv, _⟩ := f.get hx
  exact ⟨.int .i64 xs.length, by simp [execOp, resolve, invoke, builtin, Builtin.len_, hv, run_underlying hu, goInt], rfl⟩
theorem ae {α : Type} {R : Rp α} {T e : Nat} {x ix : Operand} {xs : List α} {k : IntKind} {z : Int} {i : Nat} {y : α} (hu : C.P.underlying T = some (.slice e)) (hR : TyOf C.P e R)
  (hx : Sub (opTy E x) (tSl R xs)) (hi : Sub (opTy E ix) (tV (.int k z))) (hz : z = i) (hy : xs[i]? = some y) :
  a8 C ⟨d, .indexAddr T x ix, ty, pos, af, g⟩ E L (bx R y) :=
 FP (by intro c h; cases h) fun a w h hw f => by
  obtain ⟨ao, cap, hv, H⟩ := f.get hx
  have h2 : a.eval ix = .int k z := f.get hi
  have hlt : i < xs.length := (List.getElem?_eq_some_iff.1 hy).1
  obtain ⟨b, off, rfl, H'⟩ := H (by intro e; rw [e] at hlt; simp at hlt)
  obtain ⟨cs, H1, r⟩ := H' i y hy
  subst hz
  refine ⟨.pointer (some ⟨b, off + i * R.k, none⟩), ?_, b, off + i * R.k, cs, rfl, H1, r⟩
  simp [execOp, Instr.indexAt, hv, h2, asIntOf, run_underlying hu, hR.size, hlt, ce]
theorem ad {α : Type} {R : Rp α} {T : Nat} {x : Operand} {y : α} (hR : TyOf C.P T R) (hx : Sub (opTy E x) (bx R y)) :
  a8 C ⟨d, .load T x, ty, pos, af, g⟩ E L (R.ty y) :=
 FP (by intro c h; cases h) fun a w h hw f => by
  obtain ⟨b, off, cs, hv, H, r⟩ := f.get hx
  refine ⟨packV R.agg cs, ?_, R.pack r⟩
  have := bG (b := b) (o := off) (w := w) hR.agg hR.size (R.len r) R.scalar (fun i v hv' => H.cell hw hv')
  simp [execOp, Instr.loadAt, Instr.sureAddr, hv, this]
end
def Args (h : PH) : List Ty -> List Value -> Prop
 | [], [] => True
 | A :: As, v :: vs => A.p h v /\ Args h As vs
 | _, _ => False
def Ret {X : Type} (h0 : PH) (w0 : World) (r : PH) (res : X -> Ty) (L' : X -> List SP) (e : Ending) (w' : World) : Prop :=
 ∃ x v h m, e = .returned v /\ HL h0 w0 h w' /\ Sep h m r w' /\ (stars (L' x)).p h m /\ (res x).p h v
def Spec {X : Type} (P : Program) (f : Nat) (as : List Ty) (L : List SP) (res : X -> Ty) (L' : X -> List SP) : Prop :=
 ∀ (vs : List Value) (h m r : PH) (w : World), Args h as vs -> Sep h m r w -> (stars L).p h m -> Calls P f vs.toArray w (Ret h w r res L')
abbrev Fun {X : Type} (P : Program) (f : Nat) (as : List Ty) (res : X -> Ty) : Prop := Spec P f as [] res (fun _ => [])
abbrev Fun1 (P : Program) (f : Nat) (as : List Ty) (res : Ty) : Prop := Spec (X := Unit) P f as [] (fun _ => res) (fun _ => [])
def pX : List Ty -> Nat -> Env -> Env
 | [], _, E => E
 | A :: As, i, E => pX As (i + 1) (upd E i A)
theorem wE {h : PH} {as : List Ty} {vs : List Value} (ha : Args h as vs) (n : Nat) :
  Fr (pX as 0 co) h { tmps := vs.toArray ++ Array.replicate n undef, defers := [] } := by
 have key : ∀ (as : List Ty) (vs : List Value) (i : Nat) (E : Env) (f : Nat -> Value), Args h as vs -> (∀ t, (E t).p h (f t)) -> (∀ j v, vs[j]? = some v -> f (i + j) = v) -> ∀ t, (pX as i E t).p h (f t) := by
  intro as
  induction as with
  | nil => intro vs i E f _ hE _ t; exact hE t
  | cons A as ih =>
    intro vs i E f ha hE hf t
    match vs, ha with
    | v :: vs, ⟨h1, h2⟩ =>
      refine ih vs (i + 1) (upd E i A) f h2 (fun t => ?_) (fun j u hu => by have := hf (j + 1) u (by simpa using hu); rw [<- this]; congr 1; omega) t
      by_cases e : t = i
      · subst e; rw [de]
        have := hf 0 v rfl; simp at this; rw [this]; exact h1
      · rw [bV _ _ e]; exact hE t
 refine key as vs 0 co _ ha (fun _ => trivial) (fun j v hv => ?_)
 have hlt := (List.getElem?_eq_some_iff.1 hv).1
 have := List.getElem?_eq_some_iff.1 hv
 simp [Array.getD_eq_getD_getElem?, Array.getElem?_append, hlt, this.2]
theorem Args.length {h : PH} : ∀ {as : List Ty} {vs : List Value}, Args h as vs -> vs.length = as.length
 | [], [], _ => rfl
 | _ :: _, _ :: _, ha => by simp [ha.2.length]
theorem Spec.enter {X : Type} {P : Program} {f : Nat} {fn : Func} {c : Code} {as : List Ty} {L : List SP} {res : X -> Ty} {L' : X -> List SP} (hf : P.funcs[f]? = some fn) (hb : fn.body = some c)
  (hn : Nat.ble as.length fn.ntmps = true)
  (h : ∀ h0 w0 r, J ⟨P, none, fn.ntmps, [], h0, w0, r⟩ c (bodyPostM Fence.wide 0 P fn (Ret h0 w0 r res L')) (pX as 0 co) L) : Spec P f as L res L' := fun vs h0 m r w ha sp st => by
 have hl := ha.length
 have hn' : as.length <= fn.ntmps := by simpa using hn
 refine (callsIn_wide (n := 0)).1 (callsIn_of_wp_marks hf hb trivial ?_)
 refine h h0 w r _ w ⟨?_, rfl, h0, m, HL.refl, sp, st, wE ha _⟩
 simp only [Array.size_append, List.size_toArray, Array.size_replicate, hl]; omega
theorem aI {X : Type} {P : Program} {fn : Func} {N : Nat} {h0 : PH} {w0 : World} {r : PH} {res : X -> Ty} {L' : X -> List SP} {E : Env} {t : Nat} (hr : fn.results = #[.tmp t]) (x : X) (hs : Sub (E t) (res x)) :
  K ⟨P, none, N, [], h0, w0, r⟩ (bodyPostM Fence.wide 0 P fn (Ret h0 w0 r res L') .ret) E (L' x) := fun a w ⟨_, ds, h, m, l, sp, st, f⟩ => by
 have hd : a.defers = [] := ds
 show LeavesInM Fence.wide 0 P fn a.tmps (Ret h0 w0 r res L') a.defers .returning w
 rw [hd]
 exact ⟨a.tmps.getD t undef, results_tmp hr _ _ _, x, _, h, m, rfl, l, sp, st, hs _ _ (f t)⟩
def ArgsE (E : Env) : List Operand -> List Ty -> Prop
 | [], [] => True
 | x :: xs, A :: As => Sub (opTy E x) A /\ ArgsE E xs As
 | _, _ => False
theorem ArgsE.args {E : Env} {h : PH} {a : Act} (f : Fr E h a) : ∀ {xs : List Operand} {As : List Ty}, ArgsE E xs As -> Args h As (xs.map a.eval)
 | [], [], _ => trivial
 | _ :: _, _ :: _, ⟨h1, h2⟩ => ⟨f.get h1, ArgsE.args f h2⟩
theorem aR {X : Type} {C : Cx} {E : Env} {L S R : List SP} {d : Option Nat} {ty : Nat} {pos : String} {af : Array Edge} {g : Option (Nat × Bool)} {f : Nat} {xs : Array Operand} {ts : Array Nat} {as : List Ty} {res : X -> Ty} {L' : X -> List SP}
  (sel : Sel L S R) (sp : Spec C.P f as S res L') (ha : ArgsE E xs.toList as) (he : ∀ args w, (callFunc f args).run C.P w = .ok (.enter f args) w) :
  Step C ⟨d, .call { callee := .value (.func f), args := xs, argTypes := ts }, ty, pos, af, g⟩ E L res (fun x => L' x ++ R) := fun a w h m n l se st fr next Q hk => by
 obtain ⟨m1, m2, d12, rfl, s1, s2⟩ := sel.stars.1 st
 have hA := ha.args fr
 have hd := PH.disj_join'.1 se.hm
 have hr := PH.disj_join.1 se.mr
 have hc := sp _ h m1 (m2.join C.r) w hA ⟨(by first | exact Sep.inv (by assumption) | exact Inv.mono (FM _ _) (Sep.inv (by assumption))), hd.1, PH.disj_join'.2 ⟨hd.2, se.hr⟩, PH.disj_join'.2 ⟨d12, hr.1⟩, se.hw, fun b o e => se.mw _ _ (FM _ _ _ _ e),
  FW (fun b o e => se.mw _ _ (FO d12 _ _ e)) se.rw⟩ s1
 refine ⟨fun _ _ => trivial, ?_⟩
 rw [Fw_round, Oper.semAt_eq _ _ _ (by intro c h; cases h)]
 have hrun : (execOp a.eval ⟨d, .call { callee := .value (.func f), args := xs, argTypes := ts }, ty, pos, af, g⟩).run C.P w = .ok (.enter f (xs.toList.map a.eval).toArray) w := by
  simp only [execOp, resolve, show a.eval (.func f) = .func (.func f) #[] #[] from rfl, Deferred.ofValue]
  simp [invoke, he]
  rw [<- Array.toList_map]
 rw [hrun]
 refine ⟨by simp, (callsIn_wide (n := 0 - 1)).2 (hc.mono ?_)⟩
 rintro e w' ⟨x, v, h', m', rfl, l', se', st', hv⟩
 have e1 := PH.disj_join'.1 se'.hr
 have e2 := PH.disj_join'.1 se'.mr
 exact hk x v w' h' (m'.join m2) l' ⟨(by first | exact Sep.inv (by assumption) | exact Inv.mono (FM _ _) (Sep.inv (by assumption))), PH.disj_join'.2 ⟨se'.hm, e1.1⟩, e1.2, PH.disj_join.2 ⟨e2.2, hr.2⟩, se'.hw, FW se'.mw (fun b o e => se'.rw _ _ (FM _ _ _ _ e)), fun b o e => se'.rw _ _ (FO hr.2 _ _ e)⟩
  (cj.2 ⟨m', m2, e2.1, rfl, st', by
   have : (stars R).p h' m2 := (stars R).mono l'.1 s2
   exact this⟩) hv
theorem World.heap_alloc_lt {w : World} {o : Obj} {b : Nat} (h : b < w.heap.size) : (w.alloc o).heap[b]? = w.heap[b]? := by
 show (w.heap.push o)[b]? = _
 rw [Array.getElem?_push_lt h, Array.getElem?_eq_getElem h]
theorem f2 {h : PH} {w : World} (hw : h.inw w) (o : Obj) : h.inw (w.alloc o) := fun b o' e => by
 rw [World.heap_alloc_lt (Gr hw e)]; exact hw b o' e
theorem jr (w : World) (o : Obj) : (PH.one w.heap.size o).inw (w.alloc o) := fun b o' e => by
 obtain ⟨rfl, rfl⟩ := PH.one_some e; exact heap_alloc_new w _
theorem Sep.drew {h m r : PH} {w : World} (s : Sep h m r w) : Sep h m r w.drew := ⟨(by first | exact Sep.inv (by assumption) | exact Inv.mono (FM _ _) (Sep.inv (by assumption))), s.hm, s.hr, s.mr, s.hw, s.mw, s.rw⟩
theorem Sep.allocOwn {h m r : PH} {w : World} (s : Sep h m r w) (o : Obj) : Sep h ((PH.one w.heap.size o).join m) r (w.alloc o) where
 inv := by first | exact Sep.inv (by assumption) | exact Inv.mono (FM _ _) (Sep.inv (by assumption))
 hm := PH.disj_join'.2 ⟨FV s.hw o, s.hm⟩
 hr := s.hr
 mr := PH.disj_join.2 ⟨FU (FV s.rw o), s.mr⟩
 hw := f2 s.hw o
 mw := FW (jr w o) (f2 s.mw o)
 rw := f2 s.rw o
theorem Sep.allocImm {h m r : PH} {w : World} (s : Sep h m r w) (o : Obj) : Sep (h.join (PH.one w.heap.size o)) m r (w.alloc o) where
 inv := by first | exact Sep.inv (by assumption) | exact Inv.mono (FM _ _) (Sep.inv (by assumption))
 hm := PH.disj_join.2 ⟨s.hm, FU (FV s.mw o)⟩
 hr := PH.disj_join.2 ⟨s.hr, FU (FV s.rw o)⟩
 mr := s.mr
 hw := FW (f2 s.hw o) (jr w o)
 mw := f2 s.mw o
 rw := f2 s.rw o
theorem PH.one_disj_iff {h : PH} {g : Nat} {o : Obj} : (PH.one g o).disj h ↔ h g = none := by
 constructor
 · intro d
   rcases d g with e | e
   · simp [PH.one] at e
   · exact e
 · intro e b
   by_cases hb : b = g
   · subst hb; exact .inr e
   · left; simp [PH.one, hb]
theorem PH.disj_one_iff {h : PH} {g : Nat} {o : Obj} : h.disj (PH.one g o) ↔ h g = none := ⟨fun d => PH.one_disj_iff.1 (FU d), fun e => FU (PH.one_disj_iff.2 e)⟩
theorem F4 {h m r : PH} {w w' : World} {g : Nat} {o o' : Obj} (d : (PH.one g o).disj m) (s : Sep h ((PH.one g o).join m) r w)
  (hs : ∀ b, b ≠ g -> b < w.heap.size -> w'.heap[b]? = w.heap[b]?) (hg : w'.heap[g]? = some o') : Sep h ((PH.one g o').join m) r w' := by
 have h1 := PH.disj_join'.1 s.hm
 have h2 := PH.disj_join.1 s.mr
 have hgm : m g = none := PH.one_disj_iff.1 d
 have hgh : h g = none := PH.disj_one_iff.1 h1.1
 have hgr : r g = none := PH.one_disj_iff.1 h2.1
 have keep : ∀ {x : PH}, x g = none -> x.inw w -> x.inw w' := fun {x} hx hw b u e => by
  have hne : b ≠ g := fun e' => by rw [e', hx] at e; cases e
  rw [hs b hne (Gr hw e)]; exact hw b u e
 have mw : m.inw w := fun b u e => s.mw _ _ (FO d _ _ e)
 exact ⟨(by first | exact Sep.inv (by assumption) | exact Inv.mono (FM _ _) (Sep.inv (by assumption))), PH.disj_join'.2 ⟨PH.disj_one_iff.2 hgh, h1.2⟩, s.hr, PH.disj_join.2 ⟨PH.one_disj_iff.2 hgr, h2.2⟩, keep hgh s.hw,
  FW (fun b u e => by obtain ⟨rfl, rfl⟩ := PH.one_some e; exact hg) (keep hgm mw), keep hgr s.rw⟩
theorem Sep.freeze {h m1 m2 r : PH} {w : World} (d : m1.disj m2) (s : Sep h (m1.join m2) r w) : Sep (h.join m1) m2 r w where
 inv := by first | exact Sep.inv (by assumption) | exact Inv.mono (FM _ _) (Sep.inv (by assumption))
 hm := PH.disj_join.2 ⟨(PH.disj_join'.1 s.hm).2, d⟩
 hr := PH.disj_join.2 ⟨s.hr, (PH.disj_join.1 s.mr).1⟩
 mr := (PH.disj_join.1 s.mr).2
 hw := FW s.hw (fun b o e => s.mw _ _ (FM _ _ _ _ e))
 mw := fun b o e => s.mw _ _ (FO d _ _ e)
 rw := s.rw
theorem Sep.heap_own {h m r : PH} {w : World} {g : Nat} {o : Obj} (s : Sep h ((PH.one g o).join m) r w) : w.heap[g]? = some o :=
 s.mw g o (by simp [PH.join, PH.one])
theorem Same.alloc (w : World) (o : Obj) : Same w (w.alloc o) := ⟨rfl, rfl, rfl⟩
theorem Same.drew (w : World) : Same w w.drew := ⟨rfl, rfl, rfl⟩
theorem Gh (w : World) (o : Obj) : Same w (w.drew.alloc o) := ⟨rfl, rfl, rfl⟩
theorem HL.imm {h h' : PH} {w : World} (o : Obj) (l : h.le h') : HL h w h' (w.alloc o) := ⟨l, Same.alloc w o⟩
theorem HL.own {h : PH} {w : World} (o : Obj) : HL h w h (w.alloc o) := ⟨PH.le_refl h, Same.alloc w o⟩
structure SF (α : Type) where
 β : Type
 T : Nat
 R : Rp β
 get : α -> β
def SF.width {α : Type} (fs : List (SF α)) : Nat := match fs with
 | [] => 0
 | f :: fs => f.R.k + SF.width fs
def SF.rel {α : Type} (h : PH) (x : α) : List (SF α) -> List Value -> Prop
 | [], cs => cs = []
 | f :: fs, cs => ∃ c1 c2, cs = c1 ++ c2 /\ f.R.rel h (f.get x) c1 /\ SF.rel h x fs c2
def SF.off {α : Type} : List (SF α) -> Nat -> Nat
 | [], _ => 0
 | _ :: _, 0 => 0
 | f :: fs, n + 1 => f.R.k + SF.off fs n
theorem Gu {α : Type} {h : PH} {x : α} : ∀ {fs : List (SF α)} {cs : List Value}, SF.rel h x fs cs -> cs.length = SF.width fs
 | [], _, r => by cases r; rfl
 | f :: fs, _, ⟨c1, c2, e, r1, r2⟩ => by subst e; simp [SF.width, f.R.len r1, Gu r2]
theorem SF.rel_one {α : Type} {h : PH} {x : α} : ∀ {fs : List (SF α)} {cs : List Value}, SF.rel h x fs cs -> ∀ c ∈ cs, c.oneCell' = true
 | [], _, r => by cases r; intro c hc; cases hc
 | f :: fs, _, ⟨c1, c2, e, r1, r2⟩ => by
   subst e; intro c hc
   rcases List.mem_append.1 hc with hc | hc
   · exact f.R.one r1 c hc
   · exact SF.rel_one r2 c hc
theorem Gm {α : Type} {h h' : PH} {x : α} (l : h.le h') : ∀ {fs : List (SF α)} {cs : List Value}, SF.rel h x fs cs -> SF.rel h' x fs cs
 | [], _, r => r
 | f :: _, _, ⟨c1, c2, e, r1, r2⟩ => ⟨c1, c2, e, f.R.mono l r1, Gm l r2⟩
theorem Gj {α : Type} {h : PH} {x : α} : ∀ {fs : List (SF α)} {cs : List Value} {n : Nat} {f : SF α}, SF.rel h x fs cs -> fs[n]? = some f ->
  ∃ c, f.R.rel h (f.get x) c /\ ∀ (i : Nat) v, c[i]? = some v -> cs[SF.off fs n + i]? = some v
 | [], _, _, _, _, e => by simp at e
 | f :: fs, _, 0, g, ⟨c1, c2, e, r1, r2⟩, eg => by
   simp at eg; subst eg; subst e
   refine ⟨c1, r1, fun i v hv => ?_⟩
   have hlt := (List.getElem?_eq_some_iff.1 hv).1
   simp [SF.off, List.getElem?_append_left hlt, hv]
 | f :: fs, _, n + 1, g, ⟨c1, c2, e, r1, r2⟩, eg => by
   subst e
   obtain ⟨c, r, hc⟩ := Gj r2 (show fs[n]? = some g by simpa using eg)
   refine ⟨c, r, fun i v hv => ?_⟩
   have hl := f.R.len r1
   rw [SF.off, List.getElem?_append_right (by omega)]
   have : f.R.k + SF.off fs n + i - c1.length = SF.off fs n + i := by omega
   rw [this]; exact hc i v hv
def aU {α : Type} (fs : List (SF α)) : Rp α where
 k := SF.width fs
 agg := true
 rel := fun h x cs => SF.rel h x fs cs
 ty := fun x => ⟨fun h v => ∃ cs, SF.rel h x fs cs /\ v = packV true cs, fun l ⟨cs, r, e⟩ => ⟨cs, Gm l r, e⟩⟩
 len := Gu
 one := SF.rel_one
 mono := fun l r => Gm l r
 scalar := fun e => by cases e
 iff := Iff.rfl
def FldsOf {α : Type} (P : Program) : List Field -> Nat -> List (SF α) -> Prop
 | [], _, [] => True
 | fl :: fls, o, f :: fs => fl.type = f.T /\ fl.offset = o /\ TyOf P f.T f.R /\ f.R.k ≠ 0 /\ FldsOf P fls (o + f.R.k) fs
 | _, _, _ => False
structure StructOf {α : Type} (P : Program) (T : Nat) (fs : List (SF α)) : Prop where
 lays : ∃ fls : Array Field, P.underlying T = some (.struct fls) /\ FldsOf P fls.toList 0 fs
 ty : TyOf P T (aU fs)
theorem FldsOf.get {α : Type} {P : Program} : ∀ {fls : List Field} {o : Nat} {fs : List (SF α)} {n : Nat} {f : SF α}, FldsOf P fls o fs -> fs[n]? = some f ->
  ∃ fl, fls[n]? = some fl /\ fl.type = f.T /\ fl.offset = o + SF.off fs n /\ TyOf P f.T f.R /\ f.R.k ≠ 0
 | [], _, [], _, _, _, e => by simp at e
 | fl :: fls, o, f :: fs, 0, g, ⟨h1, h2, h3, h4, _⟩, e => by simp at e; subst e; exact ⟨fl, rfl, h1, by simp [SF.off, h2], h3, h4⟩
 | fl :: fls, o, f :: fs, n + 1, g, ⟨_, _, _, _, h5⟩, e => by
   obtain ⟨fl', a, b, c, d⟩ := FldsOf.get h5 (show fs[n]? = some g by simpa using e)
   exact ⟨fl', by simpa using a, b, by rw [c, SF.off]; omega, d⟩
theorem StructOf.fieldAt {α : Type} {P : Program} {T : Nat} {fs : List (SF α)} (S : StructOf P T fs) {n : Nat} {f : SF α} (hf : fs[n]? = some f) (b o : Nat) (w : World) :
  (Instr.fieldAt T (.pointer (some ⟨b, o, none⟩)) n).run P w = .ok (.pointer (some ⟨b, o + SF.off fs n, none⟩)) w := by
 obtain ⟨fls, hu, hl⟩ := S.lays
 obtain ⟨fl, h1, h2, h3, h4, h5⟩ := hl.get hf
 have h1' : fls[n]? = some fl := by simpa using h1
 simp only [Instr.fieldAt]
 simp [run_underlying hu, h1', Instr.sureAddr, fieldPlace, h2, h4.size, h5, h3, ce]
section
variable {C : Cx} {E : Env} {L : List SP} {d : Option Nat} {ty : Nat} {pos : String} {af : Array Edge} {g : Option (Nat × Bool)}
theorem aa {α : Type} {T n : Nat} {fs : List (SF α)} {x : Operand} {y : α} {f : SF α} (S : StructOf C.P T fs) (hx : Sub (opTy E x) (bx (aU fs) y)) (hf : fs[n]? = some f) :
  a8 C ⟨d, .fieldAddr T x n, ty, pos, af, g⟩ E L (bx f.R (f.get y)) :=
 FP (by intro c h; cases h) fun a w h hw fr => by
  obtain ⟨b, off, cs, hv, ⟨c, e, fz, hb, hc⟩, r⟩ := fr.get hx
  obtain ⟨c', r', hc'⟩ := Gj r hf
  refine ⟨.pointer (some ⟨b, off + SF.off fs n, none⟩), ?_, b, off + SF.off fs n, c', rfl, ⟨c, e, fz, hb, fun i v hv' => ?_⟩, r'⟩
  · have := S.fieldAt hf b off w
    simp [execOp, hv, this]
  · rw [Nat.add_assoc]; exact hc _ _ (hc' i v hv')
end
def box {α : Type} (b T : Nat) (R : Rp α) (x : α) : SP where
 p := fun h m => ∃ cs, R.rel h x cs /\ m = PH.one b (.cells cs.toArray T (0, 0))
 mono := fun l ⟨cs, r, e⟩ => ⟨cs, R.mono l r, e⟩
abbrev tAt (b o : Nat) : Ty := tV (.pointer (some ⟨b, o, none⟩))
theorem Sel.one {L R : List SP} {A : SP} (s : Sel L [A] R) {h m : PH} : (Lg.stars L).p h m ↔ ∃ m1 m2 : PH, m1.disj m2 /\ m = m1.join m2 /\ A.p h m1 /\ (Lg.stars R).p h m2 := by
 rw [s.stars]
 constructor
 · rintro ⟨m1, m2, d, e, ⟨a1, a2, d', e', p, q⟩, r⟩
   rw [eY] at q; subst q
   rw [FY] at e'; subst e'
   exact ⟨m1, m2, d, e, p, r⟩
 · rintro ⟨m1, m2, d, e, p, r⟩
   exact ⟨m1, m2, d, e, ⟨m1, PH.emp, FX _, (FY _).symm, p, rfl⟩, r⟩
section
variable {C : Cx} {E : Env} {L : List SP} {d : Option Nat} {ty : Nat} {pos : String} {af : Array Edge} {g : Option (Nat × Bool)}
theorem aE {α : Type} {T : Nat} {R : Rp α} {z : α} {zv : Value} (hz : ∀ w, (zeroValue T).run C.P w = .ok zv w) (hr : ∀ h, (R.ty z).p h zv) :
  Step C ⟨d, .alloc T, ty, pos, af, g⟩ E L (fun b : Nat => tAt b 0) (fun b => box b T R z :: L) :=
 FQ (by intro c h; cases h) fun a w h m l sp st fr => by
  have r := R.cells (hr h)
  refine ⟨w.heap.size, .pointer (some ⟨w.heap.size, 0, none⟩), w.alloc (.cells zv.cells T), h, (PH.one w.heap.size (.cells zv.cells T)).join m, ?_, HL.own _, sp.allocOwn _, ?_, rfl⟩
  · simp [execOp, Instr.alloc, hz, newVar, newRow]
  · exact ⟨_, m, FU (FV sp.mw _), rfl, ⟨_, r, by simp⟩, st⟩
theorem aF {α : Type} {T : Nat} {R : Rp α} {x : Operand} {y : α} (hx : Sub (opTy E x) (R.ty y)) :
  a8 C ⟨d, .box T x, ty, pos, af, g⟩ E L (bx R y) :=
 FQ (by intro c h; cases h) fun a w h m l sp st fr => by
  have r := R.cells (fr.get hx)
  refine ⟨(), .pointer (some ⟨w.heap.size, 0, none⟩), w.alloc (.cells (a.eval x).cells T), h.join (PH.one w.heap.size (.cells (a.eval x).cells T)), m, ?_, HL.imm _ (FM _ _), sp.allocImm _, (stars L).mono (FM _ _) st,
   w.heap.size, 0, (a.eval x).cells.toList, rfl, ⟨(a.eval x).cells, T, (0, 0), ?_, fun i v hv => by simpa using hv⟩, R.mono (FM _ _) r⟩
  · simp [execOp, Instr.box, newVar, newRow]
  · exact FO (FV sp.hw _) _ _ (F3 _ _)
theorem cL {α : Type} {T : Nat} {R : Rp α} {x : Operand} {y : α} (hx : Sub (opTy E x) (R.ty y)) :
  Step C ⟨d, .box T x, ty, pos, af, g⟩ E L (fun b : Nat => tAt b 0) (fun b => box b T R y :: L) :=
 FQ (by intro c h; cases h) fun a w h m l sp st fr => by
  have r := R.cells (fr.get hx)
  refine ⟨w.heap.size, .pointer (some ⟨w.heap.size, 0, none⟩), w.alloc (.cells (a.eval x).cells T), h, (PH.one w.heap.size (.cells (a.eval x).cells T)).join m, ?_, HL.own _, sp.allocOwn _, ?_, rfl⟩
  · simp [execOp, Instr.box, newVar, newRow]
  · exact ⟨_, m, FU (FV sp.mw _), rfl, ⟨_, r, by simp⟩, st⟩
theorem c8 {h : PH} {w : World} {b : Nat} {c : Array Value} {e : Nat} {fz : Nat × Nat} (hb : w.heap[b]? = some (.cells c e fz)) (i : Nat) : w.cell? ⟨b, i, none⟩ = c[i]? := by
 simp [World.cell?, hb]
theorem bb {α : Type} {T U b : Nat} {R : Rp α} {x : Operand} {y : α} {S : List SP} (hR : TyOf C.P T R) (hx : Sub (opTy E x) (tAt b 0)) (sel : Sel L [box b U R y] S) :
  a8 C ⟨d, .load T x, ty, pos, af, g⟩ E L (R.ty y) :=
 FQ (by intro c h; cases h) fun a w h m l sp st fr => by
  obtain ⟨m1, m2, d12, rfl, ⟨cs, r, rfl⟩, s2⟩ := sel.one.1 st
  have hb := sp.heap_own
  have := bG (b := b) (o := 0) (w := w) hR.agg hR.size (R.len r) R.scalar (fun i v hv' => by rw [c8 (h := h) hb]; simpa using hv')
  refine ⟨(), packV R.agg cs, w, h, _, ?_, HL.refl, sp, st, R.pack r⟩
  have hv : a.eval x = .pointer (some ⟨b, 0, none⟩) := fr.get hx
  simp [execOp, Instr.loadAt, Instr.sureAddr, hv, this]
theorem cr {P : Program} {w : World} {T b o k : Nat} {c : Array Value} {e : Nat} {v : Value} (hs : ∀ w, (Go.sizeOf T).run P w = .ok k w) (hk : v.cells.size = k)
  (hb : w.heap[b]? = some (.cells c e (0, 0))) (hl : o + k <= c.size) (h1 : ∀ u ∈ v.cells.toList, u.oneCell' = true) :
  ∃ w', (storeVar T ⟨b, o, none⟩ v).run P w = .ok () w' /\ (∀ b', b' ≠ b -> w'.heap[b']? = w.heap[b']?) /\ Same w w' ∧
   w'.heap[b]? = some (.cells (c.toList.take o ++ v.cells.toList ++ c.toList.drop (o + k)).toArray e (0, 0)) := by
 have hk' : v.cells.toList.length = k := by simpa using hk
 have hst := run_storeCells_at P b o e v.cells.toList 0 c w hb (by rw [hk']; simpa using hl) h1
 refine ⟨_, ?_, fun b' hne => setRow_other w b b' _ hne, ⟨rfl, rfl, rfl⟩, setRow_heap w b c _ e _ hb⟩
 unfold storeVar
 simp only [Sem.run_bind, hs, Result.andThen_ok, hk, hk', Nat.add_zero] at hst ⊢
 simp [hst]
theorem ai {α : Type} {T U b : Nat} {R : Rp α} {x v : Operand} {y z : α} {S : List SP} (hR : TyOf C.P T R) (hx : Sub (opTy E x) (tAt b 0)) (hv : Sub (opTy E v) (R.ty z)) (sel : Sel L [box b U R y] S) :
  Step C ⟨d, .store T x v, ty, pos, af, g⟩ E L (fun _ : Unit => tAny) (fun _ => box b U R z :: S) :=
 Ga (by intro c h; cases h) fun a w h m l sp st fr => by
  obtain ⟨m1, m2, d12, rfl, ⟨cs, r, rfl⟩, s2⟩ := sel.one.1 st
  have hb := sp.heap_own
  have r' := R.cells (fr.get hv)
  have hp : a.eval x = .pointer (some ⟨b, 0, none⟩) := fr.get hx
  obtain ⟨w', hrun, hoth, hsame, hnew⟩ := cr (P := C.P) (b := b) (o := 0) (v := a.eval v) hR.size (by simpa using R.len r') hb (by simp [R.len r]) (R.one r')
  have hd : List.drop R.k cs = [] := by simp [R.len r]
  refine ⟨(), w', h, (PH.one b (.cells (a.eval v).cells U (0, 0))).join m2, ?_, HL.same hsame, F4 d12 sp (fun b' hne _ => hoth b' hne) (by rw [hnew]; simp [hd]), ?_⟩
  · simp [execOp, Instr.storeAt, Instr.sureAddr, hp, hrun]
  · exact ⟨_, m2, PH.one_disj_iff.2 (PH.one_disj_iff.1 d12), rfl, ⟨_, r', by simp⟩, s2⟩
end
section
variable {C : Cx} {E : Env} {L : List SP} {d : Option Nat} {ty : Nat} {pos : String} {af : Array Edge} {g : Option (Nat × Bool)}
theorem fw {α : Type} {T n b o : Nat} {fs : List (SF α)} {x : Operand} {f : SF α} (S : StructOf C.P T fs) (hx : Sub (opTy E x) (tAt b o)) (hf : fs[n]? = some f) :
  a8 C ⟨d, .fieldAddr T x n, ty, pos, af, g⟩ E L (tAt b (o + SF.off fs n)) :=
 FP (by intro c h; cases h) fun a w h hw fr => by
  have hv : a.eval x = .pointer (some ⟨b, o, none⟩) := fr.get hx
  refine ⟨.pointer (some ⟨b, o + SF.off fs n, none⟩), ?_, rfl⟩
  simp [execOp, hv, S.fieldAt hf b o w]
def D6 {α : Type} (b : Nat) (fs : List (SF α)) (n : Nat) : Ty := tAt b (SF.off fs n)
theorem aq {α : Type} {T n b : Nat} {fs : List (SF α)} {x : Operand} {f : SF α} (S : StructOf C.P T fs) (hx : Sub (opTy E x) (tAt b 0)) (hf : fs[n]? = some f) :
  a8 C ⟨d, .fieldAddr T x n, ty, pos, af, g⟩ E L (D6 b fs n) := by
 have := fw (C := C) (E := E) (L := L) (d := d) (ty := ty) (pos := pos) (af := af) (g := g) S hx hf
 rwa [Nat.zero_add] at this
theorem a6 {α : Type} {T U b n : Nat} {fs : List (SF α)} {f : SF α} {x : Operand} {y : α} {S : List SP} (hR : TyOf C.P T f.R) (hx : Sub (opTy E x) (D6 b fs n)) (hf : fs[n]? = some f)
  (sel : Sel L [box b U (aU fs) y] S) : a8 C ⟨d, .load T x, ty, pos, af, g⟩ E L (f.R.ty (f.get y)) :=
 FQ (by intro c h; cases h) fun a w h m l sp st fr => by
  obtain ⟨m1, m2, d12, rfl, ⟨cs, r, rfl⟩, s2⟩ := sel.one.1 st
  have hb := sp.heap_own
  obtain ⟨c, rc, hc⟩ := Gj r hf
  have := bG (b := b) (o := SF.off fs n) (w := w) hR.agg hR.size (f.R.len rc) f.R.scalar (fun i v hv' => by rw [c8 (h := h) hb]; simpa using hc i v hv')
  refine ⟨(), packV f.R.agg c, w, h, _, ?_, HL.refl, sp, st, f.R.pack rc⟩
  have hv : a.eval x = .pointer (some ⟨b, SF.off fs n, none⟩) := fr.get hx
  simp [execOp, Instr.loadAt, Instr.sureAddr, hv, this]
def SF.upd {α : Type} (x y : α) {β : Type} (R : Rp β) (z : β) : List (SF α) -> Nat -> Prop
 | [], _ => False
 | f :: fs, 0 => (∀ h cs, R.rel h z cs -> f.R.rel h (f.get y) cs) /\ f.R.k = R.k /\ ∀ g ∈ fs, g.get y = g.get x
 | f :: fs, n + 1 => f.get y = f.get x /\ SF.upd x y R z fs n
theorem Gn {α : Type} {h : PH} {x y : α} : ∀ {fs : List (SF α)} {cs : List Value}, (∀ g ∈ fs, g.get y = g.get x) -> SF.rel h x fs cs -> SF.rel h y fs cs
 | [], _, _, r => r
 | f :: fs, _, hg, ⟨c1, c2, e, r1, r2⟩ => ⟨c1, c2, e, by rw [hg f (by simp)]; exact r1, Gn (fun g hg' => hg g (by simp [hg'])) r2⟩
theorem Gv {α : Type} {h : PH} {x y : α} {β : Type} {R : Rp β} {z : β} {cz : List Value} (rz : R.rel h z cz) : ∀ {fs : List (SF α)} {cs : List Value} {n : Nat}, SF.upd x y R z fs n -> SF.rel h x fs cs ->
  SF.rel h y fs (cs.take (SF.off fs n) ++ cz ++ cs.drop (SF.off fs n + R.k)) /\ SF.off fs n + R.k <= cs.length
 | [], _, _, u, _ => u.elim
 | f :: fs, _, 0, ⟨u1, u2, u3⟩, ⟨c1, c2, e, r1, r2⟩ => by
   subst e
   have hl := f.R.len r1
   rw [u2] at hl
   refine ⟨⟨cz, c2, ?_, u1 h cz rz, Gn u3 r2⟩, by simp [SF.off, hl]⟩
   have e1 : List.drop (SF.off (f :: fs) 0 + R.k) (c1 ++ c2) = c2 := by rw [SF.off, Nat.zero_add, <- hl]; simp
   rw [e1]; simp [SF.off]
 | f :: fs, _, n + 1, ⟨u1, u2⟩, ⟨c1, c2, e, r1, r2⟩ => by
   subst e
   have hl := f.R.len r1
   obtain ⟨ih, ihl⟩ := Gv rz u2 r2
   refine ⟨⟨c1, _, ?_, by rw [u1]; exact r1, ih⟩, by simp [SF.off, hl]; omega⟩
   have e1 : List.take (SF.off (f :: fs) (n + 1)) (c1 ++ c2) = c1 ++ c2.take (SF.off fs n) := by
    rw [SF.off, List.take_append, hl, List.take_of_length_le (by omega)]; simp
   have e2 : List.drop (SF.off (f :: fs) (n + 1) + R.k) (c1 ++ c2) = c2.drop (SF.off fs n + R.k) := by
    rw [SF.off, Nat.add_assoc, List.drop_append, hl, List.drop_of_length_le (by omega)]; simp
   rw [e1, e2]; simp [List.append_assoc]
theorem aS {α : Type} {T U b n : Nat} {fs : List (SF α)} {β : Type} {R : Rp β} {z : β} {x v : Operand} {y y' : α} {S : List SP} (hR : TyOf C.P T R) (hx : Sub (opTy E x) (D6 b fs n)) (hv : Sub (opTy E v) (R.ty z))
  (sel : Sel L [box b U (aU fs) y] S) (hu : SF.upd y y' R z fs n) :
  Step C ⟨d, .store T x v, ty, pos, af, g⟩ E L (fun _ : Unit => tAny) (fun _ => box b U (aU fs) y' :: S) :=
 Ga (by intro c h; cases h) fun a w h m l sp st fr => by
  obtain ⟨m1, m2, d12, rfl, ⟨cs, r, rfl⟩, s2⟩ := sel.one.1 st
  have hb := sp.heap_own
  have rz := R.cells (fr.get hv)
  have hp : a.eval x = .pointer (some ⟨b, SF.off fs n, none⟩) := fr.get hx
  obtain ⟨rn, hle⟩ := Gv rz hu r
  obtain ⟨w', hrun, hoth, hsame, hnew⟩ := cr (P := C.P) (b := b) (o := SF.off fs n) (v := a.eval v) hR.size (by simpa using R.len rz) hb (by simpa using hle) (R.one rz)
  refine ⟨(), w', h, (PH.one b _).join m2, ?_, HL.same hsame, F4 d12 sp (fun b' hne _ => hoth b' hne) hnew, ?_⟩
  · simp [execOp, Instr.storeAt, Instr.sureAddr, hp, hrun]
  · exact ⟨_, m2, PH.one_disj_iff.2 (PH.one_disj_iff.1 d12), rfl, ⟨_, rn, rfl⟩, s2⟩
end
def Frz (S : List SP) (A A' : Ty) : Prop := ∀ (h m : PH) (v : Value), h.disj m -> (stars S).p h m -> A.p h v -> A'.p (h.join m) v
theorem Frz.sub {S : List SP} {A A' : Ty} (s : Sub A A') : Frz S A A' := fun _ _ _ _ _ ha => A'.mono (FM _ _) (s _ _ ha)
theorem Frz.box {α : Type} {b T : Nat} {R : Rp α} {x : α} {S : List SP} : Frz (box b T R x :: S) (tAt b 0) (bx R x) := fun h m v d ⟨m1, m2, d12, e, ⟨cs, r, e1⟩, _⟩ hv => by
 subst e1; subst e
 refine ⟨b, 0, cs, hv, ⟨cs.toArray, T, (0, 0), ?_, fun i u hu => by simpa using hu⟩, R.mono (FM _ _) r⟩
 have hd := PH.disj_join'.1 d
 exact FO d _ _ (FM _ _ _ _ (F3 _ _))
theorem aN {C : Cx} {ops : Array Oper} {l : List Oper} {Q : Exit -> Act -> World -> Prop} {E : Env} {L S R : List SP} {t : Nat} {A' : Ty} (sel : Sel L S R) (f : Frz S (E t) A') (hk : JL C ops l Q (upd E t A') R) : JL C ops l Q E L :=
 fun a w ⟨n, ds, h, m, l, sp, st, fr⟩ => by
 obtain ⟨m1, m2, d12, rfl, s1, s2⟩ := sel.stars.1 st
 have hd := PH.disj_join'.1 sp.hm
 refine hk a w ⟨n, ds, h.join m1, m2, HL.trans l ⟨FM _ _, Same.refl _⟩, sp.freeze d12, (stars R).mono (FM _ _) s2, fun u => ?_⟩
 by_cases e : u = t
 · subst e; rw [de]; exact f h m1 _ hd.1 s1 (fr u)
 · rw [bV _ _ e]; exact (E u).mono (FM _ _) (fr u)
theorem cA {C : Cx} {k : Act -> World -> Prop} {E : Env} {L S R : List SP} {t : Nat} {A' : Ty} (sel : Sel L S R) (f : Frz S (E t) A') (hk : K C k (upd E t A') R) : K C k E L :=
 fun a w ⟨n, ds, h, m, l, sp, st, fr⟩ => by
 obtain ⟨m1, m2, d12, rfl, s1, s2⟩ := sel.stars.1 st
 have hd := PH.disj_join'.1 sp.hm
 refine hk a w ⟨n, ds, h.join m1, m2, HL.trans l ⟨FM _ _, Same.refl _⟩, sp.freeze d12, (stars R).mono (FM _ _) s2, fun u => ?_⟩
 by_cases e : u = t
 · subst e; rw [de]; exact f h m1 _ hd.1 s1 (fr u)
 · rw [bV _ _ e]; exact (E u).mono (FM _ _) (fr u)
theorem lH {C : Cx} {k : Act -> World -> Prop} {E : Env} {L S R : List SP} (sel : Sel L S R) (hk : K C k E R) : K C k E L :=
 fun a w ⟨n, ds, h, m, l, sp, st, fr⟩ => by
 obtain ⟨m1, m2, d12, rfl, s1, s2⟩ := sel.stars.1 st
 exact hk a w ⟨n, ds, h.join m1, m2, HL.trans l ⟨FM _ _, Same.refl _⟩, sp.freeze d12, (stars R).mono (FM _ _) s2, fr.mono (FM _ _)⟩
def Flat (A : Ty) : Prop := ∀ h h' v, A.p h v -> A.p h' v
theorem Flat.v (v : Value) : Flat (tV v) := fun _ _ _ e => e
def ArgsF (E : Env) (S : List SP) : List Operand -> List Ty -> Prop
 | [], [] => True
 | x :: xs, A :: As => Frz S (opTy E x) A /\ ArgsF E S xs As
 | _, _ => False
theorem ArgsF.args {E : Env} {S : List SP} {h m : PH} {a : Act} (d : h.disj m) (s : (stars S).p h m) (f : Fr E h a) : ∀ {xs : List Operand} {As : List Ty}, ArgsF E S xs As -> Args (h.join m) As (xs.map a.eval)
 | [], [], _ => trivial
 | x :: _, _ :: _, ⟨h1, h2⟩ => ⟨h1 h m _ d s (f.op x), ArgsF.args d s f h2⟩
theorem cP {X : Type} {C : Cx} {E : Env} {L S R : List SP} {d : Option Nat} {ty : Nat} {pos : String} {af : Array Edge} {g : Option (Nat × Bool)} {f : Nat} {xs : Array Operand} {ts : Array Nat} {as : List Ty} {res : X -> Ty}
  (sel : Sel L S R) (sp : Fun C.P f as res) (hfl : ∀ x, Flat (res x)) (ha : ArgsF E S xs.toList as) (he : ∀ args w, (callFunc f args).run C.P w = .ok (.enter f args) w) :
  Step C ⟨d, .call { callee := .value (.func f), args := xs, argTypes := ts }, ty, pos, af, g⟩ E L res (fun _ => L) := fun a w h m n l se st fr next Q hk => by
 obtain ⟨m1, m2, d12, rfl, s1, s2⟩ := sel.stars.1 st
 have hd := PH.disj_join'.1 se.hm
 have hr := PH.disj_join.1 se.mr
 have hA := ha.args hd.1 s1 fr
 have hc := sp _ (h.join m1) PH.emp (m2.join C.r) w hA ⟨(by first | exact Sep.inv (by assumption) | exact Inv.mono (FM _ _) (Sep.inv (by assumption))), FX _, PH.disj_join'.2 ⟨PH.disj_join.2 ⟨hd.2, d12⟩, PH.disj_join.2 ⟨se.hr, hr.1⟩⟩, F8 _, FW se.hw (fun b o e => se.mw _ _ (FM _ _ _ _ e)), (fun b o e => (by cases e)),
  FW (fun b o e => se.mw _ _ (FO d12 _ _ e)) se.rw⟩ rfl
 refine ⟨fun _ _ => trivial, ?_⟩
 rw [Fw_round, Oper.semAt_eq _ _ _ (by intro c h; cases h)]
 have hrun : (execOp a.eval ⟨d, .call { callee := .value (.func f), args := xs, argTypes := ts }, ty, pos, af, g⟩).run C.P w = .ok (.enter f (xs.toList.map a.eval).toArray) w := by
  simp only [execOp, resolve, show a.eval (.func f) = .func (.func f) #[] #[] from rfl, Deferred.ofValue]
  simp [invoke, he]
  rw [<- Array.toList_map]
 rw [hrun]
 refine ⟨by simp, (callsIn_wide (n := 0 - 1)).2 (hc.mono ?_)⟩
 rintro e w' ⟨x, v, h', m', rfl, l', se', st', hv⟩
 have w1 : h.inw w' := fun b o e => se'.hw _ _ (l'.1 _ _ (FM _ _ _ _ e))
 have w2 : m1.inw w' := fun b o e => se'.hw _ _ (l'.1 _ _ (FO hd.1 _ _ e))
 have w3 : m2.inw w' := fun b o e => se'.rw _ _ (FM _ _ _ _ e)
 exact hk x v w' h (m1.join m2) (HL.same l'.2) ⟨(by first | exact Sep.inv (by assumption) | exact Inv.mono (FM _ _) (Sep.inv (by assumption))), se.hm, se.hr, se.mr, w1, FW w2 w3, fun b o e => se'.rw _ _ (FO hr.2 _ _ e)⟩ st (hfl x _ _ _ hv)
def relAll {α : Type} (R : Rp α) (h : PH) : List α -> List Value -> Prop
 | [], cs => cs = []
 | x :: xs, cs => ∃ c1 c2, cs = c1 ++ c2 /\ R.rel h x c1 /\ relAll R h xs c2
theorem cC {α : Type} {R : Rp α} {h : PH} : ∀ {xs : List α} {cs : List Value}, relAll R h xs cs -> cs.length = xs.length * R.k
 | [], _, r => by cases r; simp
 | x :: xs, _, ⟨c1, c2, e, r1, r2⟩ => by subst e; simp [R.len r1, cC r2, Nat.add_mul]; omega
theorem iv {α : Type} {R : Rp α} {h : PH} : ∀ {xs : List α} {cs : List Value}, relAll R h xs cs -> ∀ c ∈ cs, c.oneCell' = true
 | [], _, r => by cases r; intro c hc; cases hc
 | x :: xs, _, ⟨c1, c2, e, r1, r2⟩ => by
   subst e; intro c hc
   rcases List.mem_append.1 hc with hc | hc
   · exact R.one r1 c hc
   · exact iv r2 c hc
theorem d9 {α : Type} {R : Rp α} {h h' : PH} (l : h.le h') : ∀ {xs : List α} {cs : List Value}, relAll R h xs cs -> relAll R h' xs cs
 | [], _, r => r
 | _ :: _, _, ⟨c1, c2, e, r1, r2⟩ => ⟨c1, c2, e, R.mono l r1, d9 l r2⟩
theorem eN {α : Type} {R : Rp α} {h : PH} : ∀ {xs ys : List α} {cs ds : List Value}, relAll R h xs cs -> relAll R h ys ds -> relAll R h (xs ++ ys) (cs ++ ds)
 | [], _, _, _, r, q => by cases r; exact q
 | _ :: _, _, _, _, ⟨c1, c2, e, r1, r2⟩, q => by subst e; exact ⟨c1, c2 ++ _, by simp, r1, eN r2 q⟩
theorem ec {α : Type} {R : Rp α} {h : PH} : ∀ {xs : List α} {cs : List Value} {i : Nat} {x : α}, relAll R h xs cs -> xs[i]? = some x ->
  ∃ c, R.rel h x c /\ ∀ (j : Nat) v, c[j]? = some v -> cs[i * R.k + j]? = some v
 | [], _, _, _, _, e => by simp at e
 | y :: xs, _, 0, x, ⟨c1, c2, e, r1, r2⟩, ex => by
   simp at ex; subst ex; subst e
   refine ⟨c1, r1, fun j v hv => ?_⟩
   have hlt := (List.getElem?_eq_some_iff.1 hv).1
   simp [List.getElem?_append_left hlt, hv]
 | y :: xs, _, i + 1, x, ⟨c1, c2, e, r1, r2⟩, ex => by
   subst e
   obtain ⟨c, r, hc⟩ := ec r2 (show xs[i]? = some x by simpa using ex)
   refine ⟨c, r, fun j v hv => ?_⟩
   have hl := R.len r1
   have e1 : (i + 1) * R.k + j = R.k + (i * R.k + j) := by rw [Nat.add_mul]; omega
   rw [e1, List.getElem?_append_right (by omega), hl]
   have : R.k + (i * R.k + j) - R.k = i * R.k + j := by omega
   rw [this]; exact hc j v hv
theorem iw {α : Type} {R : Rp α} {h : PH} {y : α} {cy : List Value} (ry : R.rel h y cy) : ∀ {xs : List α} {cs : List Value} {i : Nat}, i < xs.length -> relAll R h xs cs ->
  relAll R h (xs.set i y) (cs.take (i * R.k) ++ cy ++ cs.drop (i * R.k + R.k))
 | [], _, _, hi, _ => by simp at hi
 | x :: xs, _, 0, _, ⟨c1, c2, e, r1, r2⟩ => by
   subst e
   have hl := R.len r1
   refine ⟨cy, c2, ?_, ry, r2⟩
   have : List.drop (0 * R.k + R.k) (c1 ++ c2) = c2 := by rw [Nat.zero_mul, Nat.zero_add, <- hl]; simp
   rw [this]; simp
 | x :: xs, _, i + 1, hi, ⟨c1, c2, e, r1, r2⟩ => by
   subst e
   have hl := R.len r1
   have ih := iw ry (show i < xs.length by simpa using hi) r2
   refine ⟨c1, _, ?_, r1, ih⟩
   have e0 : (i + 1) * R.k = R.k + i * R.k := by rw [Nat.add_mul]; omega
   have e1 : List.take ((i + 1) * R.k) (c1 ++ c2) = c1 ++ c2.take (i * R.k) := by
    rw [e0, List.take_append, hl, List.take_of_length_le (by omega)]; simp
   have e2 : List.drop ((i + 1) * R.k + R.k) (c1 ++ c2) = c2.drop (i * R.k + R.k) := by
    rw [e0, Nat.add_assoc, List.drop_append, hl, List.drop_of_length_le (by omega)]; simp
   rw [e1, e2]; simp [List.append_assoc]
theorem i8 {α : Type} {R : Rp α} {h : PH} : ∀ {xs : List α} {cs : List Value} (n : Nat), relAll R h xs cs -> relAll R h (xs.take n) (cs.take (n * R.k))
 | [], _, _, r => by cases r; simp [relAll]
 | x :: xs, _, 0, _ => by simp [relAll]
 | x :: xs, _, n + 1, ⟨c1, c2, e, r1, r2⟩ => by
   subst e
   have hl := R.len r1
   refine ⟨c1, c2.take (n * R.k), ?_, r1, i8 n r2⟩
   have e0 : (n + 1) * R.k = R.k + n * R.k := by rw [Nat.add_mul]; omega
   rw [e0, List.take_append, hl, List.take_of_length_le (by omega)]; simp
theorem gv {α : Type} {R : Rp α} {h : PH} : ∀ {xs : List α} {vs : List Value}, Args h (xs.map R.ty) vs -> relAll R h xs (vs.flatMap fun v => v.cells.toList)
 | [], [], _ => rfl
 | _ :: _, _ :: _, ⟨h1, h2⟩ => ⟨_, _, rfl, R.cells h1, gv h2⟩
theorem gM {α : Type} {R : Rp α} {h : PH} {z : α} {cz : List Value} (r : R.rel h z cz) : ∀ n, relAll R h (List.replicate n z) (List.replicate n cz).flatten
 | 0 => rfl
 | n + 1 => ⟨cz, _, by simp [List.replicate_succ], r, gM r n⟩
theorem eH {β : Type} (l c : List β) (a k n : Nat) (h : a + k <= n) (hn : n <= l.length) (hc : c.length = k) :
  (l.take a ++ c ++ l.drop (a + k)).take n = (l.take n).take a ++ c ++ (l.take n).drop (a + k) := by
 rw [List.append_assoc, List.append_assoc, List.take_append, List.length_take, Nat.min_eq_left (show a <= l.length by omega), List.take_take, List.take_take, Nat.min_eq_left (show a <= n by omega), Nat.min_eq_right (show a <= n by omega)]
 congr 1
 rw [List.take_append, hc, List.take_of_length_le (l := c) (by omega), List.drop_take, Nat.sub_sub]
structure ElT {α : Type} (P : Program) (e : Nat) (R : Rp α) (bytes : Nat) (z : α) : Prop where
 ty : TyOf P e R
 pos : 0 < R.k
 inf : ∃ i zv, P.info? e = some i /\ i.zero = some zv /\ i.size = R.k /\ i.bytes = bytes /\ ∀ h, (R.ty z).p h zv
def own {α : Type} (e : Nat) (R : Rp α) (v : Value) (xs : List α) : SP where
 p := fun h m => (v = .slice none 0 0 /\ xs = [] /\ m = PH.emp) ∨
  ∃ g cap cur, v = .slice (some ⟨g, 0, none⟩) xs.length cap /\ m = PH.one g (.cells cur e (0, 0)) /\ xs.length <= cap /\ cap <= maxLen /\ cur.size = cap * R.k /\ relAll R h xs (cur.toList.take (xs.length * R.k))
 mono := fun l r => by
  rcases r with ⟨a, b, c⟩ | ⟨g, cap, cur, a, b, c, d, e', f⟩
  · exact .inl ⟨a, b, c⟩
  · exact .inr ⟨g, cap, cur, a, b, c, d, e', d9 l f⟩
theorem gw {α : Type} {R : Rp α} {h : PH} {b off cap : Nat} {c : Array Value} {e : Nat} {fz : Nat × Nat} {xs : List α} {cs : List Value} (hb : h b = some (.cells c e fz)) (r : relAll R h xs cs)
  (hc : ∀ (j : Nat) v, cs[j]? = some v -> c[off + j]? = some v) (hlc : xs.length <= cap) : (tSl R xs).p h (.slice (some ⟨b, off, none⟩) xs.length cap) :=
 ⟨_, ⟨cap, hlc⟩, rfl, fun _ => ⟨b, off, rfl, fun i x hx => by
  obtain ⟨c', rc, hc'⟩ := ec r hx
  exact ⟨c', ⟨c, e, fz, hb, fun j v hv => by rw [Nat.add_assoc]; exact hc _ _ (hc' j v hv)⟩, rc⟩⟩⟩
theorem Frz.own {α : Type} {e : Nat} {R : Rp α} {v : Value} {xs : List α} {S : List SP} : Frz (own e R v xs :: S) (rV.ty v) (tSl R xs) := fun h m u d ⟨m1, m2, d12, em, ho, _⟩ hv => by
 subst em; have hv := hv.1; subst hv
 rcases ho with ⟨rfl, rfl, rfl⟩ | ⟨g, cap, cur, rfl, rfl, hl, _, hs, r⟩
 · exact ⟨none, ⟨0, Nat.le_refl _⟩, rfl, fun h => absurd rfl h⟩
 · have hd := PH.disj_join'.1 d
   refine gw (c := cur) (e := e) (fz := (0, 0)) (FO d _ _ (FM _ _ _ _ (F3 _ _))) (d9 (FM _ _) r) (fun j v hv => ?_) hl
   rw [List.getElem?_take] at hv
   split at hv
   · simpa using hv
   · cases hv
theorem tSl.cells {α : Type} {R : Rp α} {h : PH} {v : Value} {xs : List α} (t : (tSl R xs).p h v) :
  ∃ ao cap cs, v = .slice ao xs.length cap /\ relAll R h xs cs /\ (xs ≠ [] -> ∃ b off, ao = some ⟨b, off, none⟩ /\ Holds h b off cs) := by
 obtain ⟨ao, cap, rfl, H⟩ := t
 by_cases hne : xs = []
 · subst hne; exact ⟨ao, cap.1, [], rfl, rfl, fun h => absurd rfl h⟩
 obtain ⟨b, off, rfl, H'⟩ := H hne
 -- all elements lie in one block
 obtain ⟨c, e, fz, hb⟩ : ∃ c e fz, h b = some (.cells c e fz) := by
  match xs, hne with
  | x :: _, _ =>
    obtain ⟨cs, ⟨c, e, fz, hb, _⟩, _⟩ := H' 0 x rfl
    exact ⟨c, e, fz, hb⟩
 have key : ∀ (ys : List α) (n : Nat), (∀ (i : Nat) x, ys[i]? = some x -> ∃ cs, Holds h b (off + (n + i) * R.k) cs /\ R.rel h x cs) -> ∃ cs, relAll R h ys cs /\ ∀ (j : Nat) v, cs[j]? = some v -> c[off + n * R.k + j]? = some v := by
  intro ys
  induction ys with
  | nil => intro n _; exact ⟨[], rfl, fun j v hv => by simp at hv⟩
  | cons y ys ih =>
    intro n hy
    obtain ⟨c1, ⟨c', e', fz', hb', h1⟩, r1⟩ := hy 0 y rfl
    rw [hb] at hb'; cases hb'
    obtain ⟨c2, r2, h2⟩ := ih (n + 1) (fun i x hx => by have := hy (i + 1) x (by simpa using hx); rwa [show n + (i + 1) = n + 1 + i from by omega] at this)
    refine ⟨c1 ++ c2, ⟨c1, c2, rfl, r1, r2⟩, fun j v hv => ?_⟩
    have hl := R.len r1
    by_cases hj : j < c1.length
    · rw [List.getElem?_append_left hj] at hv
      exact h1 j v hv
    · rw [List.getElem?_append_right (by omega)] at hv
      have := h2 _ v hv
      rw [show off + n * R.k + j = off + (n + 1) * R.k + (j - c1.length) from by rw [Nat.add_mul]; omega]
      exact this
 obtain ⟨cs, r, hc⟩ := key xs 0 (fun i x hx => by simpa using H' i x hx)
 exact ⟨some ⟨b, off, none⟩, cap, cs, rfl, r, fun _ => ⟨b, off, rfl, c, e, fz, hb, fun j v hv => by simpa using hc j v hv⟩⟩
section
variable {C : Cx} {E : Env} {L : List SP} {d : Option Nat} {ty : Nat} {pos : String} {af : Array Edge} {g : Option (Nat × Bool)}
def PartsE {α : Type} (E : Env) (R : Rp α) : List (Nat × Operand) -> Nat -> List α -> Prop
 | [], _, [] => True
 | (i, x) :: ps, n, y :: ys => i = n /\ Sub (opTy E x) (R.ty y) /\ PartsE E R ps (n + 1) ys
 | _, _, _ => False
theorem PartsE.vals {α : Type} {E : Env} {R : Rp α} {h : PH} {a : Act} (f : Fr E h a) : ∀ {ps : List (Nat × Operand)} {n : Nat} {ys : List α}, PartsE E R ps n ys ->
  ps.map (fun x => (x.1, a.eval x.2)) = ((ps.map fun x => a.eval x.2).zipIdx n).map (fun x => (x.2, x.1)) /\ Args h (ys.map R.ty) (ps.map fun x => a.eval x.2) /\ ps.length = ys.length
 | [], _, [], _ => ⟨rfl, trivial, rfl⟩
 | (i, x) :: ps, n, y :: ys, ⟨e, h1, h2⟩ => by
   obtain ⟨ih1, ih2, ih3⟩ := PartsE.vals f h2
   subst e
   exact ⟨by simp [ih1, List.zipIdx_cons], ⟨f.get h1, ih2⟩, by simp [ih3]⟩
theorem lI {α : Type} {T e bytes len : Nat} {R : Rp α} {z : α} {ps : Array (Nat × Operand)} {ys : List α} (hu : C.P.underlying T = some (.slice e)) (hE : ElT C.P e R bytes z) (hp : PartsE E R ps.toList 0 ys) (hl : len = ys.length) (hs : len * R.k <= 16777216)
  {a : Act} {w : World} {h : PH} (f : Fr E h a) : ∃ cs, relAll R h ys cs /\ (Instr.buildSlice T len (ps.map fun (i, x) => (i, a.eval x))).run C.P w = .ok (.slice (some ⟨w.heap.size, 0, none⟩) len len) (w.alloc (.cells cs.toArray e)) := by
 obtain ⟨h1, h2, h3⟩ := hp.vals f
 obtain ⟨i, zv, hi, hz, hk, hby, hzr⟩ := hE.inf
 have hpos := hE.pos
 refine ⟨_, gv h2, ?_⟩
 by_cases h0 : len = 0
 · have : ys = [] := List.length_eq_zero_iff.1 (by omega)
   subst this
   have hps : ps.toList = [] := List.length_eq_zero_iff.1 (by simpa using h3)
   have hps' : ps = #[] := by simpa using hps
   subst hps'
   subst h0
   simp [Instr.buildSlice, run_underlying hu, Go.sizeOf, typeInfo, hi, Instr.fill, newRow]
   exact congrArg (fun x => w.alloc (Obj.cells x e)) (Array.eq_empty_of_size_eq_zero (by simp))
 · have hone : ∀ v ∈ ps.toList.map (fun x => a.eval x.2), v.cells.size = R.k := by
     have : ∀ (ys : List α) (vs : List Value), Args h (ys.map R.ty) vs -> ∀ v ∈ vs, v.cells.size = R.k := by
      intro ys
      induction ys with
      | nil => intro vs hv v hm; match vs, hv with | [], _ => cases hm
      | cons y ys ih =>
        intro vs hv v hm
        match vs, hv with
        | u :: vs, ⟨q1, q2⟩ =>
          rcases List.mem_cons.1 hm with rfl | hm
          · have := R.len (R.cells q1); simpa using this
          · exact ih vs q2 v hm
     exact this ys _ h2
   refine run_buildSlice w T e len _ _ i zv hu hi hz (by rw [hk]; omega) (by rw [hk]; have := Nat.mul_pos (Nat.pos_of_ne_zero h0) hpos; omega) ?_
   rw [hk, Array.toList_map]
   have e1 : List.map (fun x : Nat × Operand => match x with | (i, x) => (i, a.eval x)) ps.toList = ps.toList.map (fun x => (x.1, a.eval x.2)) := rfl
   rw [e1, h1]
   exact Great.fill_whole hpos _ _ hone (by rw [List.length_map, h3, <- hl, Array.size_map, Array.size_range])
theorem aB {α : Type} {T e bytes len : Nat} {R : Rp α} {z : α} {ps : Array (Nat × Operand)} {ys : List α} (hu : C.P.underlying T = some (.slice e)) (hE : ElT C.P e R bytes z) (hp : PartsE E R ps.toList 0 ys) (hl : len = ys.length) (hs : len * R.k <= 16777216) :
  a8 C ⟨d, .buildSlice T len ps, ty, pos, af, g⟩ E L (tSl R ys) :=
 FQ (by intro c h; cases h) fun a w h m l sp st fr => by
  obtain ⟨cs, r, hrun⟩ := lI (w := w) hu hE hp hl hs fr
  refine ⟨(), .slice (some ⟨w.heap.size, 0, none⟩) len len, w.alloc (.cells cs.toArray e), h.join (PH.one w.heap.size (.cells cs.toArray e)), m, ?_, HL.imm _ (FM _ _), sp.allocImm _, (stars L).mono (FM _ _) st, ?_⟩
  · simp only [execOp, Sem.run_bind, hrun, Result.andThen_ok]; rfl
  · subst hl
    exact gw (FO (FV sp.hw _) _ _ (F3 _ _)) (d9 (FM _ _) r) (fun j v hv => by simpa using hv) (Nat.le_refl _)
theorem bO {α : Type} {T e bytes len : Nat} {R : Rp α} {z : α} {ps : Array (Nat × Operand)} {ys : List α} (hu : C.P.underlying T = some (.slice e)) (hE : ElT C.P e R bytes z) (hp : PartsE E R ps.toList 0 ys) (hl : len = ys.length) (hs : len * R.k <= 16777216) :
  Step C ⟨d, .buildSlice T len ps, ty, pos, af, g⟩ E L (fun v : Value => rV.ty v) (fun v => own e R v ys :: L) :=
 FQ (by intro c h; cases h) fun a w h m l sp st fr => by
  obtain ⟨cs, r, hrun⟩ := lI (w := w) hu hE hp hl hs fr
  refine ⟨.slice (some ⟨w.heap.size, 0, none⟩) len len, .slice (some ⟨w.heap.size, 0, none⟩) len len, w.alloc (.cells cs.toArray e), h, (PH.one w.heap.size (.cells cs.toArray e)).join m, ?_, HL.own _, sp.allocOwn _, ?_, ⟨rfl, rfl⟩⟩
  · simp only [execOp, Sem.run_bind, hrun, Result.andThen_ok]; rfl
  · refine ⟨_, m, FU (FV sp.mw _), rfl, .inr ⟨w.heap.size, len, cs.toArray, by rw [hl], rfl, by omega, ?_, ?_, ?_⟩, st⟩
    · have hk := hE.pos
      have : len * 1 <= len * R.k := Nat.mul_le_mul_left _ hk
      unfold maxLen; omega
    · simp [cC r, hl]
    · have : (cs.toArray.toList.take (ys.length * R.k)) = cs := by simp [<- cC r]
      rw [this]; exact r
theorem bC {α : Type} {R : Rp α} {T e e' : Nat} {x : Operand} {v : Value} {xs : List α} {S : List SP} (hu : C.P.underlying T = some (.slice e)) (hx : Sub (opTy E x) (rV.ty v)) (sel : Sel L [own e' R v xs] S) :
  a8 C ⟨d, .call { callee := .builtin .len, args := #[x], argTypes := #[T] }, ty, pos, af, g⟩ E L (tV (.int .i64 xs.length)) :=
 FQ (by intro c h; cases h) fun a w h m l sp st fr => by
  have hv : a.eval x = v := (fr.get hx).1
  obtain ⟨m1, m2, d12, rfl, ho, s2⟩ := sel.one.1 st
  refine ⟨(), .int .i64 xs.length, w, h, _, ?_, HL.refl, sp, st, rfl⟩
  rcases ho with ⟨rfl, rfl, _⟩ | ⟨_, cap, _, rfl, _⟩ <;>
   simp [execOp, resolve, invoke, builtin, Builtin.len_, hv, run_underlying hu, goInt]
def dM (v : Value) (k i : Nat) : Value := match v with
 | .slice (some a) _ _ => .pointer (some ⟨a.block, a.off + i * k, none⟩)
 | _ => undef
theorem aG {α : Type} {R : Rp α} {T e : Nat} {x ix : Operand} {v : Value} {xs : List α} {k : IntKind} {z : Int} {i : Nat} {S : List SP} (hu : C.P.underlying T = some (.slice e)) (hR : TyOf C.P e R)
  (hx : Sub (opTy E x) (rV.ty v)) (sel : Sel L [own e R v xs] S) (hi : Sub (opTy E ix) (tV (.int k z))) (hz : z = i) (hlt : i < xs.length) :
  a8 C ⟨d, .indexAddr T x ix, ty, pos, af, g⟩ E L (tV (dM v R.k i)) :=
 FQ (by intro c h; cases h) fun a w h m l sp st fr => by
  have hv : a.eval x = v := (fr.get hx).1
  have h2 : a.eval ix = .int k z := fr.get hi
  obtain ⟨m1, m2, d12, rfl, ho, s2⟩ := sel.one.1 st
  subst hz
  refine ⟨(), dM v R.k i, w, h, _, ?_, HL.refl, sp, st, rfl⟩
  rcases ho with ⟨rfl, rfl, _⟩ | ⟨b, cap, _, rfl, _⟩
  · simp at hlt
  · simp [execOp, Instr.indexAt, hv, h2, asIntOf, run_underlying hu, hR.size, hlt, ce, dM]
theorem bH {α : Type} {R : Rp α} {T e i : Nat} {x : Operand} {v : Value} {xs : List α} {y : α} {S : List SP} (hR : TyOf C.P T R) (hx : Sub (opTy E x) (tV (dM v R.k i))) (sel : Sel L [own e R v xs] S) (hy : xs[i]? = some y) :
  a8 C ⟨d, .load T x, ty, pos, af, g⟩ E L (R.ty y) :=
 FQ (by intro c h; cases h) fun a w h m l sp st fr => by
  have hv : a.eval x = dM v R.k i := fr.get hx
  obtain ⟨m1, m2, d12, rfl, ho, s2⟩ := sel.one.1 st
  rcases ho with ⟨rfl, rfl, _⟩ | ⟨b, cap, cur, rfl, rfl, hl, _, hs, r⟩
  · simp at hy
  · obtain ⟨c, rc, hc⟩ := ec r hy
    have hb := sp.heap_own
    have := bG (b := b) (o := i * R.k) (w := w) hR.agg hR.size (R.len rc) R.scalar (fun j u hu => by
     rw [c8 (h := h) hb]
     have := hc j u hu
     rw [List.getElem?_take] at this
     split at this
     · simpa using this
     · cases this)
    refine ⟨(), packV R.agg c, w, h, _, ?_, HL.refl, sp, st, R.pack rc⟩
    simp only [dM, Nat.zero_add] at hv
    simp [execOp, Instr.loadAt, Instr.sureAddr, hv, this]
theorem bL {α : Type} {R : Rp α} {T e i : Nat} {x u : Operand} {v : Value} {xs : List α} {y : α} {S : List SP} (hR : TyOf C.P T R) (hx : Sub (opTy E x) (tV (dM v R.k i))) (hv : Sub (opTy E u) (R.ty y)) (sel : Sel L [own e R v xs] S) (hi : i < xs.length) :
  Step C ⟨d, .store T x u, ty, pos, af, g⟩ E L (fun _ : Unit => tAny) (fun _ => own e R v (xs.set i y) :: S) :=
 Ga (by intro c h; cases h) fun a w h m l sp st fr => by
  have hp : a.eval x = dM v R.k i := fr.get hx
  have ry := R.cells (fr.get hv)
  obtain ⟨m1, m2, d12, rfl, ho, s2⟩ := sel.one.1 st
  rcases ho with ⟨rfl, rfl, _⟩ | ⟨b, cap, cur, rfl, rfl, hl, hm, hs, r⟩
  · simp at hi
  · have hb := sp.heap_own
    have hle : i * R.k + R.k <= xs.length * R.k := by rw [<- Nat.succ_mul]; exact Nat.mul_le_mul_right _ hi
    have hle2 : xs.length * R.k <= cap * R.k := Nat.mul_le_mul_right _ hl
    obtain ⟨w', hrun, hoth, hsame, hnew⟩ := cr (P := C.P) (b := b) (o := i * R.k) (v := a.eval u) hR.size (by simpa using R.len ry) hb (by rw [hs]; omega) (R.one ry)
    have rn := iw ry hi r
    refine ⟨(), w', h, (PH.one b _).join m2, ?_, HL.same hsame, F4 d12 sp (fun b' hne _ => hoth b' hne) hnew, ?_⟩
    · simp only [dM, Nat.zero_add] at hp
      simp [execOp, Instr.storeAt, Instr.sureAddr, hp, hrun]
    · refine ⟨_, m2, PH.one_disj_iff.2 (PH.one_disj_iff.1 d12), rfl, .inr ⟨b, cap, _, by simp, rfl, by simpa using hl, hm, ?_, ?_⟩, s2⟩
      · have hry := R.len ry
        simp only [Array.length_toList] at hry
        simp only [List.size_toArray, List.length_append, List.length_take, List.length_drop, Array.length_toList, hs, Array.length_toList, hry]
        omega
      · have hry := R.len ry
        have e1 := eH cur.toList (a.eval u).cells.toList (i * R.k) R.k (xs.length * R.k) hle (by simpa [hs] using hle2) hry
        rw [List.length_set]
        show relAll R h _ (List.take (xs.length * R.k) (List.take (i * R.k) cur.toList ++ (a.eval u).cells.toList ++ List.drop (i * R.k + R.k) cur.toList).toArray.toList)
        rw [List.toList_toArray, e1]
        exact rn
theorem iS (zv : Value) {k : Nat} (hk : 0 < k) (hz : zv.cells.size = k) (n : Nat) : (madeCells zv.cells (n * k)).toList = (List.replicate n zv).flatMap fun v => v.cells.toList := by
 apply List.ext_getElem?
 intro j
 rw [Great.flat_get hk _ (fun v hv => by rw [(List.mem_replicate.1 hv).2]; exact hz) j, List.getElem?_replicate]
 have hlt : j < n * k ↔ j / k < n := (Nat.div_lt_iff_lt_mul hk).symm
 by_cases hj : j < n * k
 · have hm : j % k < zv.cells.size := by rw [hz]; exact Nat.mod_lt _ hk
   simp [madeCells, hj, hlt.1 hj, hz, Array.getElem?_eq_getElem hm, getElem!_pos zv.cells (j % k) hm]
 · have : ¬ j / k < n := fun q => hj (hlt.2 q)
   simp [madeCells, hj, this]
theorem f3 {α : Type} {T e bytes : Nat} {R : Rp α} {z : α} {x y : Operand} {n : Nat} {kl : IntKind} {i : Int} (hu : C.P.underlying T = some (.slice e)) (hE : ElT C.P e R bytes z)
  (hx : Sub (opTy E x) (tV (.int kl i))) (hy : Sub (opTy E y) (tV (.int kl i))) (hi : i = n) (hb : bytes * n <= 281474976710656) (hn : n <= 9223372036854775807) :
  Step C ⟨d, .makeSlice T x y, ty, pos, af, g⟩ E L (fun v : Value => rV.ty v) (fun v => own e R v (List.replicate n z) :: L) :=
 FQ (by intro c h; cases h) fun a w h m l sp st fr => by
  obtain ⟨i', zv, hi', hz, hk, hby, hzr⟩ := hE.inf
  subst hi
  have h1 : a.eval x = .int kl n := fr.get hx
  have h2 : a.eval y = .int kl n := fr.get hy
  have hr := run_make (P := C.P) w T e i' zv hu hi' hz kl kl n n (by omega) (by omega) (by rw [hby]; have : ((bytes * n : Nat) : Int) <= 281474976710656 := by omega
                                                                                           rwa [Int.natCast_mul] at this) (by omega)
  have rz := R.cells (hzr h)
  refine ⟨.slice (some ⟨w.heap.size, 0, none⟩) n n, .slice (some ⟨w.heap.size, 0, none⟩) n n, w.alloc (.cells (madeCells zv.cells (n * i'.size)) e), h, (PH.one w.heap.size (.cells (madeCells zv.cells (n * i'.size)) e)).join m, ?_, HL.own _, sp.allocOwn _, ?_, ⟨rfl, rfl⟩⟩
  · simp only [execOp, h1, h2, Sem.run_bind, hr, Result.andThen_ok, Int.toNat_natCast]; rfl
  · have hl := R.len rz
    have hzs : zv.cells.size = R.k := by simpa using hl
    have hfl := iS zv hE.pos hzs n
    have hra : Args h ((List.replicate n z).map R.ty) (List.replicate n zv) := by
     have : ∀ n : Nat, Args h ((List.replicate n z).map R.ty) (List.replicate n zv) := by
      intro n
      induction n with
      | zero => trivial
      | succ n ih => exact ⟨hzr h, ih⟩
     exact this n
    refine ⟨_, m, FU (FV sp.mw _), rfl, .inr ⟨w.heap.size, n, _, by simp, rfl, by simp, ?_, ?_, ?_⟩, st⟩
    · unfold maxLen; omega
    · rw [size_madeCells, hk]
    · rw [hk, hfl, List.length_replicate]
      have hr := gv hra
      rw [List.take_of_length_le (by rw [cC hr]; simp)]
      exact hr
theorem gX {P : Program} (w : World) (t ty e : Nat) (i : TypeInfo) (ht : P.underlying t = some (.slice e)) (hi : P.info? e = some i) (ao bo : Option Addr) (n cap c : Nat) (hc : n <= cap) :
  (Builtin.append_ #[t, t] ty #[.slice ao n cap, .slice bo 0 c]).run P w = .ok (.slice ao n cap) w := by
 cases ao <;> cases bo <;> simp [Builtin.append_, run_underlying ht, Go.sizeOf, typeInfo, hi, Builtin.lenOf, Builtin.firstCells, hc, storeCells, loadCells, loadCellsFrom]
theorem aH {α : Type} {T e bytes : Nat} {R : Rp α} {z : α} {x y : Operand} {v : Value} {xs ys : List α} {S : List SP} (hu : C.P.underlying T = some (.slice e)) (hE : ElT C.P e R bytes z)
  (hx : Sub (opTy E x) (rV.ty v)) (hy : Sub (opTy E y) (tSl R ys)) (sel : Sel L [own e R v xs] S) (hb : (xs.length + ys.length) * bytes <= 140737488355328) (hn : xs.length + ys.length <= 4611686018427387904) :
  Step C ⟨d, .call { callee := .builtin .append, args := #[x, y], argTypes := #[T, T] }, ty, pos, af, g⟩ E L (fun v' : Value => rV.ty v') (fun v' => own e R v' (xs ++ ys) :: S) :=
 FQ (by intro c h; cases h) fun a w h m l sp st fr => by
  have hv : a.eval x = v := (fr.get hx).1
  obtain ⟨ao, c, cs, hyv, rs, H⟩ := tSl.cells (fr.get hy)
  obtain ⟨m1, m2, d12, rfl, ho, s2⟩ := sel.one.1 st
  obtain ⟨i, zv, hi, hz, hk, hby, hzr⟩ := hE.inf
  have hop : ∀ u w', (Builtin.append_ #[T, T] ty #[v, .slice ao ys.length c]).run C.P w = .ok u w' ->
    (execOp a.eval ⟨d, .call { callee := .builtin .append, args := #[x, y], argTypes := #[T, T] }, ty, pos, af, g⟩).run C.P w = .ok (.value u) w' := by
   intro u w' hr
   simp [execOp, resolve, invoke, builtin, hv, hyv, hr]
  have hrl := cC rs
  have hro := iv rs
  by_cases hys : ys = []
  · subst hys
    refine ⟨v, v, w, h, m1.join m2, hop _ _ ?_, HL.refl, sp, ⟨m1, m2, d12, rfl, by simpa using ho, s2⟩, ⟨rfl, hv ▸ (fr.get hx).2⟩⟩
    rcases ho with ⟨rfl, rfl, _⟩ | ⟨b, cap, cur, rfl, _, hlc, _⟩
    · exact gX w T ty e i hu hi none ao 0 0 c (by omega)
    · exact gX w T ty e i hu hi _ ao _ cap c hlc
  · obtain ⟨b, off, rfl, HH⟩ := H hys
    have hcell : ∀ j u, cs[j]? = some u -> w.cell? ((⟨b, off, none⟩ : Addr).add j) = some u := fun j u hu' => by rw [ce]; exact HH.cell sp.hw hu'
    have hpos : 0 < ys.length := List.length_pos_iff.2 hys
    have fresh : ∀ (cells : Array Value) (m : PH), Sep h m C.r w -> Sep h ((PH.one w.heap.size (.cells cells e)).join m) C.r (w.drew.alloc (.cells cells e)) := fun cells m sp => sp.drew.allocOwn (w := w.drew) _
    -- what a grown row is good for
    have good : ∀ (cap : Nat) (cells : List Value), cells.length = xs.length * R.k -> relAll R h xs cells -> xs.length + ys.length <= cap -> cap <= maxLen ->
      ∀ (m2 : PH), Sep h m2 C.r w -> (stars S).p h m2 -> ∃ m', Sep h m' C.r (w.drew.alloc (.cells (cells.toArray ++ cs.toArray ++ Builtin.zeroCells zv.cells (cap - (xs.length + ys.length))) e)) ∧
       (stars (own e R (.slice (some ⟨w.heap.size, 0, none⟩) (xs.length + ys.length) cap) (xs ++ ys) :: S)).p h m' := by
     intro cap cells hcl hcr hcap hm m2 sp2 s2
     refine ⟨_, fresh _ m2 sp2, _, m2, FU (FV sp2.mw _), rfl, .inr ⟨w.heap.size, cap, _, by simp, rfl, by simpa using hcap, hm, ?_, ?_⟩, s2⟩
     · have hzl := R.len (R.cells (hzr h))
       simp only [Array.size_append, List.size_toArray, hcl, hrl, size_zeroCells]
       have : zv.cells.size = R.k := by simpa using hzl
       rw [this, <- Nat.add_mul, <- Nat.add_mul]; congr 1; omega
     · have e1 : (cells.toArray ++ cs.toArray ++ Builtin.zeroCells zv.cells (cap - (xs.length + ys.length))).toList = (cells ++ cs) ++ (Builtin.zeroCells zv.cells (cap - (xs.length + ys.length))).toList := by simp
       rw [e1, List.take_append_of_le_length (by simp [hcl, hrl, Nat.add_mul]), List.take_of_length_le (by simp [hcl, hrl, Nat.add_mul])]
       exact eN hcr rs
    rcases ho with ⟨rfl, rfl, rfl⟩ | ⟨b', cap, cur, rfl, rfl, hlc, hcm, hcs, hr⟩
    · have hr := run_append_nil (P := C.P) w T ty e i zv hu hi hz ⟨b, off, none⟩ ys.length c cs (by rw [hk]; exact hrl) hcell hpos (by omega) (by rw [hby]; simp at hb; omega)
      have sp2 : Sep h m2 C.r w := by rw [Gc] at sp; exact sp
      obtain ⟨m', s1, s3⟩ := good (grownCap w ys.length 0 e) [] (by simp) rfl (by simpa using grownCap_ge w _ _ _) (grownCap_le_maxLen w _ _ _ (by unfold maxLen; omega)) m2 sp2 s2
      simp only [List.length_nil, Nat.zero_add] at s1 s3
      refine ⟨_, _, _, h, m', hop _ _ hr, HL.same (Gh _ _), ?_, s3, ⟨rfl, rfl⟩⟩
      simpa using s1
    · by_cases hroom : xs.length + ys.length <= cap
      · have hb' := sp.heap_own
        have hfit : xs.length * i.size + cs.length <= cur.size := by rw [hk, hrl, hcs, <- Nat.add_mul]; exact Nat.mul_le_mul_right _ hroom
        have hr' := run_append_room (P := C.P) w T ty e i hu hi b' xs.length cap cur hb' ⟨b, off, none⟩ ys.length c cs (by rw [hk]; exact hrl) hcell hro hroom hfit
        refine ⟨_, _, _, h, (PH.one b' _).join m2, hop _ _ hr', HL.same ⟨rfl, rfl, rfl⟩, F4 d12 sp (fun b0 hne _ => setRow_other w b' b0 _ hne) (setRow_heap w b' cur _ e _ hb'), ?_, ⟨rfl, rfl⟩⟩
        refine ⟨_, m2, PH.one_disj_iff.2 (PH.one_disj_iff.1 d12), rfl, .inr ⟨b', cap, _, by simp, rfl, by simpa using hroom, hcm, ?_, ?_⟩, s2⟩
        · simp only [List.size_toArray, List.length_append, List.length_take, List.length_drop, Array.length_toList]
          omega
        · show relAll R h (xs ++ ys) (List.take ((xs ++ ys).length * R.k) (_ : List Value).toArray.toList)
          rw [List.toList_toArray, hk, List.length_append, Nat.add_mul]
          have hll : (cur.toList.take (xs.length * R.k)).length = xs.length * R.k := cC hr
          rw [List.take_append_of_le_length (by rw [List.length_append, hll, hrl]; exact Nat.le_refl _), List.take_of_length_le (by rw [List.length_append, hll, hrl]; exact Nat.le_refl _)]
          exact eN hr rs
      · have hb' := sp.heap_own
        have holds : ∀ j v, (cur.toList.take (xs.length * R.k))[j]? = some v -> w.cell? ((⟨b', 0, none⟩ : Addr).add j) = some v := fun j v hv => by
         rw [ce, Nat.zero_add, c8 (h := h) hb']
         rw [List.getElem?_take] at hv
         split at hv
         · simpa using hv
         · cases hv
        have hr' := run_append_grow (P := C.P) w T ty e i zv hu hi hz ⟨b', 0, none⟩ xs.length cap (cur.toList.take (xs.length * R.k)) (by rw [hk]; exact cC hr) holds ⟨b, off, none⟩ ys.length c cs (by rw [hk]; exact hrl) hcell
         (by omega) (by omega) (by rw [hby]; exact growslice_fits (by omega) hb)
        have sp2 : Sep h m2 C.r w := ⟨(by first | exact Sep.inv (by assumption) | exact Inv.mono (FM _ _) (Sep.inv (by assumption))), (PH.disj_join'.1 sp.hm).2, sp.hr, (PH.disj_join.1 sp.mr).2, sp.hw, fun b o e => sp.mw _ _ (FO d12 _ _ e), sp.rw⟩
        obtain ⟨m', s1, s3⟩ := good (grownCap w (xs.length + ys.length) cap e) _ (cC hr) hr (grownCap_ge w _ _ _) (grownCap_le_maxLen w _ _ _ (by unfold maxLen; omega)) m2 sp2 s2
        exact ⟨_, _, _, h, m', hop _ _ hr', HL.same (Gh _ _), s1, s3, ⟨rfl, rfl⟩⟩
theorem ew {α : Type} {T e n : Nat} {R : Rp α} {x y : Operand} {v : Value} {xs : List α} {S : List SP} {k : IntKind} {i : Int} (hu : C.P.underlying T = some (.slice e)) (hR : TyOf C.P e R)
  (hx : Sub (opTy E x) (rV.ty v)) (hy : Sub (opTy E y) (tV (.int k i))) (hi : i = n) (sel : Sel L [own e R v xs] S) (hn : n <= xs.length) :
  Step C ⟨d, .slice T x none (some y) none, ty, pos, af, g⟩ E L (fun v' : Value => rV.ty v') (fun v' => own e R v' (xs.take n) :: S) :=
 FQ (by intro c h; cases h) fun a w h m l sp st fr => by
  have hv : a.eval x = v := (fr.get hx).1
  have h2 : a.eval y = .int k i := fr.get hy
  subst hi
  obtain ⟨m1, m2, d12, rfl, ho, s2⟩ := sel.one.1 st
  rcases ho with ⟨rfl, rfl, rfl⟩ | ⟨b, cap, cur, rfl, rfl, hl, hm, hs, r⟩
  · have hn0 : n = 0 := by simpa using hn
    subst hn0
    refine ⟨.slice none 0 0, .slice none 0 0, w, h, _, ?_, HL.refl, sp, ⟨PH.emp, m2, d12, rfl, .inl ⟨rfl, by simp, rfl⟩, s2⟩, ⟨rfl, rfl⟩⟩
    simp [execOp, Instr.sliceAt, run_underlying hu, hv, h2, Instr.slice, Instr.sliceBounds, Instr.sliceBound, asIntOf, hR.size]
  · have hnc : (n : Int) <= cap := by omega
    refine ⟨.slice (some ⟨b, 0, none⟩) n cap, .slice (some ⟨b, 0, none⟩) n cap, w, h, _, ?_, HL.refl, sp, ⟨PH.one b (.cells cur e (0, 0)), m2, d12, rfl, .inr ⟨b, cap, cur, by simp [hn], rfl, by simp; omega, hm, hs, ?_⟩, s2⟩, ⟨rfl, rfl⟩⟩
    · simp [execOp, Instr.sliceAt, run_underlying hu, hv, h2, Instr.slice, Instr.sliceBounds, Instr.sliceBound, asIntOf, hR.size, show n <= cap by omega]
      intro _; rw [ce]
    · have := i8 n r
      rw [List.take_take] at this
      rw [List.length_take, Nat.min_eq_left hn]
      rwa [Nat.min_eq_left (Nat.mul_le_mul_right _ hn)] at this
end
def dN : List (Nat × Operand) -> Nat -> Option Operand
 | [], _ => none
 | (i, x) :: ps, n => match dN ps n with
   | some y => some y
   | none => match Nat.beq i n with
     | true => some x
     | false => none
def BuildE {α : Type} (E : Env) (x : α) (ps : List (Nat × Operand)) : List (SF α) -> Nat -> List (List Value) -> Prop
 | [], _, [] => True
 | f :: fs, n, z :: zs => (match dN ps n with
     | some op => Sub (opTy E op) (f.R.ty (f.get x)) /\ z.length = f.R.k
     | none => ∀ h, f.R.rel h (f.get x) z) /\ BuildE E x ps fs (n + 1) zs
 | _, _, _ => False
theorem kX {P : Program} {T k : Nat} (h : ∀ w, (Go.sizeOf T).run P w = .ok k w) : ∃ i, P.info? T = some i /\ i.size = k := by
 have := h default
 cases hi : P.info? T with
 | none => simp [Go.sizeOf, typeInfo, hi, stuck, ] at this
 | some i => simp [Go.sizeOf, typeInfo, hi] at this; exact ⟨i, rfl, this⟩
def Bz {α : Type} : List (SF α) -> Nat -> List (Nat × Nat)
 | [], _ => []
 | f :: fs, o => (o, f.R.k) :: Bz fs (o + f.R.k)
theorem tp {α : Type} : ∀ {fs : List (SF α)} {o n : Nat} {f : SF α}, fs[n]? = some f -> (Bz fs o)[n]? = some (o + SF.off fs n, f.R.k)
 | [], _, _, _, e => by simp at e
 | f :: fs, o, 0, g, e => by simp at e; subst e; simp [Bz, SF.off]
 | f :: fs, o, n + 1, g, e => by
   have := tp (fs := fs) (o := o + f.R.k) (n := n) (f := g) (by simpa using e)
   simp only [Bz, List.getElem?_cons_succ, this, SF.off]; congr 2; omega
theorem lJ {α : Type} {P : Program} : ∀ {fls : List Field} {o : Nat} {fs : List (SF α)}, FldsOf P fls o fs -> fls.mapM (fun f => (P.info? f.type).map fun i => (f.offset, i.size)) = some (Bz fs o)
 | [], _, [], _ => rfl
 | fl :: fls, o, f :: fs, ⟨h1, h2, h3, h4, h5⟩ => by
   obtain ⟨i, hi, hk⟩ := kX h3.size
   have ih := lJ h5
   simp [List.mapM_cons, h1, hi, ih, hk, h2, Bz]
theorem wF (cs : List Value) (off : Nat) : ∀ (n : Nat) (A : Array Value), off + n + cs.length <= A.size ->
  ((cs.zipIdx n).foldl (fun cs (x : Value × Nat) => cs.setIfInBounds (off + x.2) x.1) A).toList = A.toList.take (off + n) ++ cs ++ A.toList.drop (off + n + cs.length) := by
 induction cs with
 | nil => intro n A h; simp
 | cons c cs ih =>
   intro n A h
   simp only [List.length_cons] at h
   rw [List.zipIdx_cons, List.foldl_cons, ih (n + 1) _ (by simp; omega)]
   have := list_seg_step A.toList (off + n) c cs (by simp; omega)
   rw [List.length_cons, <- this]
   simp [Array.toList_setIfInBounds, Nat.add_assoc]
theorem rR {place : Nat -> Option (Nat × Nat)} : ∀ (parts : List (Nat × Value)) (pieces : List (List Value)),
  (∀ i v, (i, v) ∈ parts -> ∃ p, pieces[i]? = some p /\ place i = some (((pieces.take i).flatten).length, p.length) /\ v.cells.size = p.length) ->
  Instr.fill place pieces.flatten.toArray parts = some ((parts.foldl (fun ps (x : Nat × Value) => ps.set x.1 x.2.cells.toList) pieces).flatten.toArray) := by
 intro parts
 induction parts with
 | nil => intro pieces _; rfl
 | cons x parts ih =>
   obtain ⟨i, v⟩ := x
   intro pieces H
   obtain ⟨p, hp, hpl, hv⟩ := H i v (by simp)
   have hlt := (List.getElem?_eq_some_iff.1 hp).1
   have hsplit : pieces = pieces.take i ++ p :: pieces.drop (i + 1) := by
    have h1 : pieces[i] = p := (List.getElem?_eq_some_iff.1 hp).2
    rw [<- h1, List.getElem_cons_drop, List.take_append_drop]
   have hfl : pieces.flatten = (pieces.take i).flatten ++ p ++ (pieces.drop (i + 1)).flatten := by
    conv => lhs; rw [hsplit]
    simp
   have hset : (pieces.set i v.cells.toList).flatten = (pieces.take i).flatten ++ v.cells.toList ++ (pieces.drop (i + 1)).flatten := by
    rw [List.set_eq_take_append_cons_drop, if_pos hlt]; simp
   simp only [Instr.fill, hpl, List.foldl_cons]
   have hsz : ¬ ((decide (v.cells.size ≠ p.length) || decide ((pieces.take i).flatten.length + v.cells.size > pieces.flatten.toArray.size)) = true) := by
    have : pieces.flatten.length = (pieces.take i).flatten.length + p.length + (pieces.drop (i + 1)).flatten.length := by
     conv => lhs; rw [hfl]
     simp only [List.length_append]
    simp [this, hv]
   rw [if_neg hsz]
   have hfold : v.cells.zipIdx.foldl (fun cs (x : Value × Nat) => cs.setIfInBounds ((pieces.take i).flatten.length + x.2) x.1) pieces.flatten.toArray = (pieces.set i v.cells.toList).flatten.toArray := by
    apply Array.ext'
    rw [<- Array.foldl_toList, Array.toList_zipIdx]
    have hvl : v.cells.toList.length = p.length := by simpa using hv
    rw [wF v.cells.toList _ 0 _ (by simp only [List.size_toArray, hvl]; have : pieces.flatten.length = (pieces.take i).flatten.length + p.length + (pieces.drop (i + 1)).flatten.length := by
                                                                                     conv => lhs; rw [hfl]
                                                                                     simp only [List.length_append]
                                    omega)]
    rw [hset, hvl]
    show List.take _ pieces.flatten ++ _ ++ List.drop _ pieces.flatten = _
    rw [hfl]
    simp only [Nat.add_zero]
    generalize (List.take i pieces).flatten = A
    generalize (List.drop (i + 1) pieces).flatten = B
    have q1 : List.take A.length (A ++ p ++ B) = A := by rw [List.append_assoc]; exact List.take_left
    have q2 : List.drop (A.length + p.length) (A ++ p ++ B) = B := by rw [<- List.length_append]; exact List.drop_left
    rw [q1, q2]
   have hfold' : Array.foldl (fun cs (x : Value × Nat) => match x with | (c, j) => cs.setIfInBounds ((pieces.take i).flatten.length + j) c) pieces.flatten.toArray v.cells.zipIdx = (pieces.set i v.cells.toList).flatten.toArray := hfold
   rw [hfold']
   refine ih _ fun j u hu => ?_
   obtain ⟨q, hq, hql, huq⟩ := H j u (by simp [hu])
   have hvl : v.cells.toList.length = p.length := by simpa using hv
   have hlen : ∀ k, ((pieces.set i v.cells.toList).take k).flatten.length = (pieces.take k).flatten.length := by
    intro k
    rw [List.length_flatten, List.length_flatten, List.map_take, List.map_take, List.map_set, hvl]
    congr 2
    apply List.ext_getElem?
    intro t
    rw [List.getElem?_set]
    split
    · subst_vars
      by_cases ht : t < (pieces.map List.length).length
      · have e2 := (List.getElem?_eq_some_iff.1 hp).2
        simp [hlt, e2]
      · simp at ht; omega
    · rfl
   by_cases e : j = i
   · subst e
     rw [hp] at hq; cases hq
     exact ⟨v.cells.toList, by simp [hlt], by rw [hql, hlen, hvl], by rw [huq, hvl]⟩
   · exact ⟨q, by rw [List.getElem?_set_ne (Ne.symm e)]; exact hq, by rw [hql, hlen], huq⟩
theorem js {E : Env} {h : PH} {a : Act} (f : Fr E h a) : ∀ (ps : List (Nat × Operand)) (pieces : List (List Value)) (n : Nat), n < pieces.length ->
  ((ps.map fun x => (x.1, a.eval x.2)).foldl (fun ps (x : Nat × Value) => ps.set x.1 x.2.cells.toList) pieces)[n]? = (match dN ps n with | some op => some (a.eval op).cells.toList | none => pieces[n]?)
 | [], _, _, _ => rfl
 | (i, x) :: ps, pieces, n, hn => by
   rw [List.map_cons, List.foldl_cons, js f ps _ n (by simpa using hn)]
   simp only [dN]
   cases hl : dN ps n with
   | some y => rfl
   | none =>
     by_cases e : i = n
     · subst e; simp [hn]
     · rw [gW e]; simp [e]
theorem BuildE.rel {α : Type} {E : Env} {h : PH} {a : Act} (fr : Fr E h a) {x : α} {ps : List (Nat × Operand)} : ∀ {fs : List (SF α)} {n : Nat} {zs out : List (List Value)}, BuildE E x ps fs n zs ->
  out.length = zs.length -> (∀ i, i < zs.length -> out[i]? = (match dN ps (n + i) with | some op => some (a.eval op).cells.toList | none => zs[i]?)) -> SF.rel h x fs out.flatten
 | [], _, [], out, _, hl, _ => by
   have : out = [] := List.length_eq_zero_iff.1 hl
   subst this; rfl
 | f :: fs, n, z :: zs, out, ⟨h1, h2⟩, hl, ho => by
   match out, hl with
   | o :: out, hl =>
     refine ⟨o, out.flatten, by simp, ?_, BuildE.rel fr h2 (by simpa using hl) (fun i hi => by have := ho (i + 1) (by simpa using hi); rw [show n + (i + 1) = n + 1 + i from by omega] at this; simpa using this)⟩
     have h0 := ho 0 (by simp)
     simp only [Nat.add_zero, List.getElem?_cons_zero] at h0
     cases hlk : dN ps n with
     | some op =>
       rw [hlk] at h0 h1
       have e : o = (a.eval op).cells.toList := Option.some.inj h0
       rw [e]
       exact f.R.cells (fr.get h1.1)
     | none =>
       rw [hlk] at h0 h1
       have e : o = z := Option.some.inj h0
       rw [e]
       exact h1 h
theorem BuildE.widths {α : Type} {E : Env} {x : α} {ps : List (Nat × Operand)} : ∀ {fs : List (SF α)} {n : Nat} {zs : List (List Value)}, BuildE E x ps fs n zs -> zs.map List.length = fs.map (fun f => f.R.k)
 | [], _, [], _ => rfl
 | f :: fs, n, z :: zs, ⟨h1, h2⟩ => by
   simp only [List.map_cons, BuildE.widths h2]
   congr 1
   cases hlk : dN ps n with
   | some op => rw [hlk] at h1; exact h1.2
   | none => rw [hlk] at h1; exact f.R.len (h1 PH.emp)
theorem wG {α : Type} : ∀ {fs : List (SF α)} {n : Nat}, SF.off fs n = ((fs.map (fun f => f.R.k)).take n).sum
 | [], n => by simp [SF.off]
 | f :: fs, 0 => by simp [SF.off]
 | f :: fs, n + 1 => by simp [SF.off, wG (fs := fs) (n := n)]
section
variable {C : Cx} {E : Env} {L : List SP} {d : Option Nat} {ty : Nat} {pos : String} {af : Array Edge} {g : Option (Nat × Bool)}
def PartsFit {α : Type} (E : Env) (fs : List (SF α)) (x : α) : List (Nat × Operand) -> Prop
 | [] => True
 | (i, op) :: ps => (match fs[i]? with | some f => Sub (opTy E op) (f.R.ty (f.get x)) | none => False) /\ PartsFit E fs x ps
theorem PartsFit.mem {α : Type} {E : Env} {fs : List (SF α)} {x : α} {h : PH} {a : Act} (fr : Fr E h a) : ∀ {ps : List (Nat × Operand)}, PartsFit E fs x ps -> ∀ i op, (i, op) ∈ ps -> ∃ f, fs[i]? = some f /\ (a.eval op).cells.size = f.R.k
 | [], _, _, _, hm => by cases hm
 | (j, o) :: ps, ⟨h1, h2⟩, i, op, hm => by
   rcases List.mem_cons.1 hm with e | hm
   · cases e
     cases hf : fs[j]? with
     | none => rw [hf] at h1; exact h1.elim
     | some f =>
       rw [hf] at h1
       refine ⟨f, rfl, ?_⟩
       have := f.R.len (f.R.cells (fr.get h1))
       simpa using this
   · exact PartsFit.mem fr h2 i op hm
theorem aP {α : Type} {T : Nat} {fs : List (SF α)} {x : α} {ps : Array (Nat × Operand)} {zs : List (List Value)} (S : StructOf C.P T fs) (hz : ∀ w, (zeroValue T).run C.P w = .ok (.agg zs.flatten.toArray) w)
  (hf : PartsFit E fs x ps.toList) (hb : BuildE E x ps.toList fs 0 zs) : a8 C ⟨d, .build T ps, ty, pos, af, g⟩ E L ((aU fs).ty x) :=
 FP (by intro c h; cases h) fun a w h hw fr => by
  obtain ⟨fls, hu, hl⟩ := S.lays
  have hpl := lJ hl
  obtain ⟨it, hit, hks⟩ := kX S.ty.size
  have hzero : it.zero = some (.agg zs.flatten.toArray) := by
   have := hz default
   cases hzz : it.zero with
   | none => simp [zeroValue, typeInfo, hit, hzz, unsupported] at this
   | some v => simp [zeroValue, typeInfo, hit, hzz] at this; rw [this]
  have hwid := hb.widths
  have hlen : zs.length = fs.length := by have := congrArg List.length hwid; simpa using this
  have hparts : (ps.map fun (i, y) => (i, a.eval y)).toList = ps.toList.map fun y => (y.1, a.eval y.2) := by rw [Array.toList_map]
  have hfill := rR (place := fun x => (Bz fs 0).toArray[x]?) (ps.toList.map fun y => (y.1, a.eval y.2)) zs (fun i v hm => by
   obtain ⟨⟨j, op⟩, hm', e⟩ := List.mem_map.1 hm
   cases e
   obtain ⟨f, hfi, hsz⟩ := hf.mem fr j op hm'
   have hlt : j < zs.length := by rw [hlen]; exact (List.getElem?_eq_some_iff.1 hfi).1
   have hzj : zs[j].length = f.R.k := by
    have := congrArg (fun l => l[j]?) hwid
    simpa [hfi, hlt] using this
   refine ⟨zs[j], by simp [hlt], ?_, by rw [hsz, hzj]⟩
   have := tp (o := 0) hfi
   rw [Nat.zero_add] at this
   simp only [List.getElem?_toArray, this, hzj]
   rw [List.length_flatten, List.map_take, hwid, wG])
  have hbuilt : C.P.built T (ps.map fun (i, y) => (i, a.eval y)).toList = some ((ps.toList.map fun y => (y.1, a.eval y.2)).foldl (fun ps (x : Nat × Value) => ps.set x.1 x.2.cells.toList) zs).flatten.toArray := by
   unfold Program.built
   rw [hparts]
   simp only [hit, hu, hzero, hpl]
   exact hfill
  have hrun := run_build w T _ _ hbuilt
  have hrel := hb.rel fr (out := (ps.toList.map fun y => (y.1, a.eval y.2)).foldl (fun ps (x : Nat × Value) => ps.set x.1 x.2.cells.toList) zs)
   (by
    have : ∀ (l : List (Nat × Value)) (z : List (List Value)), (l.foldl (fun ps (x : Nat × Value) => ps.set x.1 x.2.cells.toList) z).length = z.length := by
     intro l
     induction l with
     | nil => intro z; rfl
     | cons y l ih => intro z; rw [List.foldl_cons, ih]; simp
    exact this _ _)
   (fun i hi => by rw [Nat.zero_add]; exact js fr ps.toList zs i hi)
  refine ⟨.agg _, ?_, _, hrel, rfl⟩
  simp only [execOp, Sem.run_bind, hrun, Result.andThen_ok]; rfl
end
theorem Args.mono {h h' : PH} (l : h.le h') : ∀ {As : List Ty} {vs : List Value}, Args h As vs -> Args h' As vs
 | [], [], _ => trivial
 | A :: _, _ :: _, ⟨h1, h2⟩ => ⟨A.mono l h1, Args.mono l h2⟩
theorem Args.append {h : PH} : ∀ {As Bs : List Ty} {vs us : List Value}, Args h As vs -> Args h Bs us -> Args h (As ++ Bs) (vs ++ us)
 | [], _, [], _, _, q => q
 | _ :: _, _, _ :: _, _, ⟨h1, h2⟩, q => ⟨h1, Args.append h2 q⟩
theorem Args.get {h : PH} : ∀ {As : List Ty} {vs : List Value} {n : Nat} {A : Ty}, Args h As vs -> As[n]? = some A -> ∃ v, vs[n]? = some v /\ A.p h v
 | [], [], _, _, _, e => by simp at e
 | A :: _, v :: _, 0, _, ⟨h1, _⟩, e => by simp at e; subst e; exact ⟨v, rfl, h1⟩
 | _ :: _, _ :: _, n + 1, _, ⟨_, h2⟩, e => by
   obtain ⟨v, a, b⟩ := Args.get h2 (show _ = _ by simpa using e)
   exact ⟨v, by simpa using a, b⟩
def eZ (g : Nat) (As : List Ty) : Ty where
 p := fun h v => ∃ cap : List Value, v = .func (.func g) #[] cap.toArray /\ Args h As cap
 mono := fun l ⟨cap, e, a⟩ => ⟨cap, e, a.mono l⟩
theorem F5 {g : Nat} : Sub (tV (.func (.func g) #[] #[])) (eZ g []) := fun _ _ e => ⟨[], e, trivial⟩
def fW (As : List Ty) : Ty where
 p := fun h v => ∃ vs : List Value, v = .tuple vs.toArray /\ Args h As vs
 mono := fun l ⟨vs, e, a⟩ => ⟨vs, e, a.mono l⟩
section
variable {C : Cx} {E : Env} {L : List SP} {d : Option Nat} {ty : Nat} {pos : String} {af : Array Edge} {g : Option (Nat × Bool)}
theorem bl {f : Nat} {xs : Array Operand} {As : List Ty} (ha : ArgsE E xs.toList As) : a8 C ⟨d, .makeFunc (.func f) #[] xs, ty, pos, af, g⟩ E L (eZ f As) :=
 FP (by intro c h; cases h) fun a w h hw fr => ⟨.func (.func f) #[] (xs.map a.eval), by simp [execOp, Instr.makeFunc], xs.toList.map a.eval, by rw [<- Array.toList_map], ha.args fr⟩
theorem aL {x : Operand} {n : Nat} {As : List Ty} {A : Ty} (hx : Sub (opTy E x) (fW As)) (hA : As[n]? = some A) : a8 C ⟨d, .extract x n, ty, pos, af, g⟩ E L A :=
 FP (by intro c h; cases h) fun a w h hw fr => by
  obtain ⟨vs, hv, ha⟩ := fr.get hx
  obtain ⟨v, h1, h2⟩ := ha.get hA
  exact ⟨v, by simp [execOp, Instr.extract, hv, h1], h2⟩
theorem eR {X : Type} {S R : List SP} {x : Operand} {f : Nat} {xs : Array Operand} {ts : Array Nat} {aT As : List Ty} {res : X -> Ty} {L' : X -> List SP}
  (hx : Sub (opTy E x) (eZ f As)) (sel : Sel L S R) (sp : Spec C.P f (aT ++ As) S res L') (ha : ArgsE E xs.toList aT) (he : ∀ args w, (callFunc f args).run C.P w = .ok (.enter f args) w) :
  Step C ⟨d, .call { callee := .value x, args := xs, argTypes := ts }, ty, pos, af, g⟩ E L res (fun x => L' x ++ R) := fun a w h m n l se st fr next Q hk => by
 obtain ⟨m1, m2, d12, rfl, s1, s2⟩ := sel.stars.1 st
 obtain ⟨cap, hv, hcap⟩ := fr.get hx
 have hA := (ha.args fr).append hcap
 have hd := PH.disj_join'.1 se.hm
 have hr := PH.disj_join.1 se.mr
 have hc := sp _ h m1 (m2.join C.r) w hA ⟨(by first | exact Sep.inv (by assumption) | exact Inv.mono (FM _ _) (Sep.inv (by assumption))), hd.1, PH.disj_join'.2 ⟨hd.2, se.hr⟩, PH.disj_join'.2 ⟨d12, hr.1⟩, se.hw, fun b o e => se.mw _ _ (FM _ _ _ _ e),
  FW (fun b o e => se.mw _ _ (FO d12 _ _ e)) se.rw⟩ s1
 refine ⟨fun _ _ => trivial, ?_⟩
 rw [Fw_round, Oper.semAt_eq _ _ _ (by intro c h; cases h)]
 have hrun : (execOp a.eval ⟨d, .call { callee := .value x, args := xs, argTypes := ts }, ty, pos, af, g⟩).run C.P w = .ok (.enter f (xs.toList.map a.eval ++ cap).toArray) w := by
  simp only [execOp, resolve, hv, Deferred.ofValue]
  simp [invoke, he]
 rw [hrun]
 refine ⟨by simp, (callsIn_wide (n := 0 - 1)).2 (hc.mono ?_)⟩
 rintro e w' ⟨x, v, h', m', rfl, l', se', st', hv⟩
 have e1 := PH.disj_join'.1 se'.hr
 have e2 := PH.disj_join'.1 se'.mr
 exact hk x v w' h' (m'.join m2) l' ⟨(by first | exact Sep.inv (by assumption) | exact Inv.mono (FM _ _) (Sep.inv (by assumption))), PH.disj_join'.2 ⟨se'.hm, e1.1⟩, e1.2, PH.disj_join.2 ⟨e2.2, hr.2⟩, se'.hw, FW se'.mw (fun b o e => se'.rw _ _ (FM _ _ _ _ e)), fun b o e => se'.rw _ _ (FO hr.2 _ _ e)⟩
  (cj.2 ⟨m', m2, e2.1, rfl, st', by
   have : (stars R).p h' m2 := (stars R).mono l'.1 s2
   exact this⟩) hv
theorem aj {X : Type} {f : Nat} {xs : Array Operand} {ts : Array Nat} {as : List Ty} {res : X -> Ty}
  (sp : Fun C.P f as res) (ha : ArgsE E xs.toList as) (he : ∀ args w, (callFunc f args).run C.P w = .ok (.enter f args) w) :
  Step C ⟨d, .call { callee := .value (.func f), args := xs, argTypes := ts }, ty, pos, af, g⟩ E L res (fun _ => L) := aR (FN L) sp ha he
theorem bp {X : Type} {x : Operand} {f : Nat} {xs : Array Operand} {ts : Array Nat} {aT As : List Ty} {res : X -> Ty}
  (hx : Sub (opTy E x) (eZ f As)) (sp : Fun C.P f (aT ++ As) res) (ha : ArgsE E xs.toList aT) (he : ∀ args w, (callFunc f args).run C.P w = .ok (.enter f args) w) :
  Step C ⟨d, .call { callee := .value x, args := xs, argTypes := ts }, ty, pos, af, g⟩ E L res (fun _ => L) := eR hx (FN L) sp ha he
end
inductive ResOk (P : Program) (E : Env) (L : List SP) : ResultVar -> Ty -> Prop
 | tmp {t : Nat} {A : Ty} : Sub (E t) A -> ResOk P E L (.tmp t) A
 | cell {α : Type} {a b T U : Nat} {R : Rp α} {y : α} {S : List SP} {A : Ty} : TyOf P T R -> Sub (E a) (tAt b 0) -> Sel L [box b U R y] S -> Sub (R.ty y) A -> ResOk P E L (.cell a T) A
 | imm {α : Type} {a T : Nat} {R : Rp α} {y : α} {A : Ty} : TyOf P T R -> Sub (E a) (bx R y) -> Sub (R.ty y) A -> ResOk P E L (.cell a T) A
def jt (tmps : Array Value) : ResultVar -> Sem Value
 | .tmp t => pure (tmps.getD t undef)
 | .cell a t => do loadVar t (<- asAddr (tmps.getD a undef))
theorem ResOk.run {P : Program} {E : Env} {L : List SP} {rv : ResultVar} {A : Ty} (r : ResOk P E L rv A) {h m : PH} {r0 : PH} {w : World} {a : Act} (sp : Sep h m r0 w) (st : (stars L).p h m) (fr : Fr E h a) :
  ∃ v, (jt a.tmps rv).run P w = .ok v w /\ A.p h v := by
 cases r with
 | tmp s => exact ⟨_, rfl, s _ _ (fr _)⟩
 | cell hR s sel hA =>
   obtain ⟨m1, m2, d12, rfl, ⟨cs, r, rfl⟩, s2⟩ := sel.one.1 st
   have hb := sp.heap_own
   have := bG (P := P) (o := 0) (w := w) hR.agg hR.size (Rp.len _ r) (Rp.scalar _) (fun i v hv' => by rw [c8 (h := h) hb]; simpa using hv')
   have hp := s _ _ (fr _)
   refine ⟨_, ?_, hA _ _ (Rp.pack _ r)⟩
   simp only [jt, show a.tmps.getD _ undef = _ from hp, asAddr]
   simp [this]
 | imm hR s hA =>
   obtain ⟨b, off, cs, hp, H, r⟩ := s _ _ (fr _)
   have := bG (P := P) (b := b) (o := off) (w := w) hR.agg hR.size (Rp.len _ r) (Rp.scalar _) (fun i v hv' => H.cell sp.hw hv')
   refine ⟨_, ?_, hA _ _ (Rp.pack _ r)⟩
   simp only [jt, hp, asAddr]
   simp [this]
theorem kh (fn : Func) (tmps : Array Value) : results fn tmps = (fn.results.mapM (jt tmps) >>= fun vs => pure (if h : vs.size = 1 then vs[0] else .tuple vs)) := rfl
theorem ja {P : Program} {fn : Func} {tmps : Array Value} {R : Ending -> World -> Prop} {ds : List Deferred} {w : World} {v : Value} (hd : ds = []) (hr : (results fn tmps).run P w = .ok v w) (h : R (.returned v) w) :
  LeavesInM Fence.wide 0 P fn tmps R ds .returning w := by subst hd; exact ⟨v, hr, h⟩
section
variable {X : Type} {P : Program} {fn : Func} {N : Nat} {h0 : PH} {w0 : World} {r : PH} {res : X -> Ty} {L' : X -> List SP} {E : Env}
theorem AW (hr : fn.results = #[]) (x : X) (hs : Sub (fW []) (res x)) : K ⟨P, none, N, [], h0, w0, r⟩ (bodyPostM Fence.wide 0 P fn (Ret h0 w0 r res L') .ret) E (L' x) := fun a w ⟨_, ds, h, m, l, sp, st, f⟩ =>
 ja ds (results_none hr _ _ _) ⟨x, _, h, m, rfl, l, sp, st, hs _ _ ⟨[], rfl, trivial⟩⟩
theorem iU (hr : fn.results = #[]) (x : X) (hs : Sub (fW []) (res x)) : K ⟨P, none, N, [], h0, w0, r⟩ (bodyPostM Fence.wide 0 P fn (Ret h0 w0 r res L') .normal) E (L' x) := AW hr x hs
theorem bz {rv : ResultVar} {A : Ty} (hr : fn.results = #[rv]) (x : X) (ok : ResOk P E (L' x) rv A) (hs : Sub A (res x)) : K ⟨P, none, N, [], h0, w0, r⟩ (bodyPostM Fence.wide 0 P fn (Ret h0 w0 r res L') .ret) E (L' x) := fun a w ⟨_, ds, h, m, l, sp, st, f⟩ => by
 obtain ⟨v, hrun, hv⟩ := ok.run sp st f
 refine ja ds ?_ ⟨x, v, h, m, rfl, l, sp, st, hs _ _ hv⟩
 rw [kh, hr]; simp [hrun]
end
theorem AX {X : Type} {P : Program} {fn : Func} {N : Nat} {h0 : PH} {w0 : World} {r : PH} {res : X -> Ty} {L' : X -> List SP} {E : Env} {L : List SP} (x : X)
  (hres : ∀ a w h m, Sep h m r w -> (stars L).p h m -> Fr E h a -> ∃ v h' m', (results fn a.tmps).run P w = .ok v w /\ h.le h' /\ Sep h' m' r w /\ (stars (L' x)).p h' m' /\ (res x).p h' v) :
  K ⟨P, none, N, [], h0, w0, r⟩ (bodyPostM Fence.wide 0 P fn (Ret h0 w0 r res L') .ret) E L := fun a w ⟨_, ds, h, m, l, sp, st, f⟩ => by
 obtain ⟨v, h', m', hrun, l', sp', st', hv⟩ := hres a w h m sp st f
 exact ja ds hrun ⟨x, v, h', m', rfl, HL.trans l ⟨l', Same.refl _⟩, sp', st', hv⟩
theorem aY {X : Type} {P : Program} {fn : Func} {N : Nat} {h0 : PH} {w0 : World} {r : PH} {res : X -> Ty} {L' : X -> List SP} {E : Env} {L S : List SP} {rv : ResultVar} {A : Ty} (hr : fn.results = #[rv]) (x : X) (sel : Sel L S (L' x)) (ok : ResOk P E L rv A) (hs : Frz S A (res x)) :
  K ⟨P, none, N, [], h0, w0, r⟩ (bodyPostM Fence.wide 0 P fn (Ret h0 w0 r res L') .ret) E L := AX x fun a w h m sp st f => by
 obtain ⟨v, hrun, hv⟩ := ok.run sp st f
 obtain ⟨m1, m2, d12, rfl, s1, s2⟩ := sel.stars.1 st
 refine ⟨v, h.join m1, m2, ?_, FM _ _, sp.freeze d12, (stars (L' x)).mono (FM _ _) s2, hs _ _ _ (PH.disj_join'.1 sp.hm).1 s1 hv⟩
 rw [kh, hr]; simp [hrun]
theorem bI {X : Type} {P : Program} {fn : Func} {N : Nat} {h0 : PH} {w0 : World} {r : PH} {res : X -> Ty} {L' : X -> List SP} {E : Env} {L S : List SP} {rv rv' : ResultVar} {A A' B B' : Ty} (hr : fn.results = #[rv, rv']) (x : X) (sel : Sel L S (L' x)) (ok : ResOk P E L rv A) (ok' : ResOk P E L rv' A')
  (hs : Frz S A B) (hs' : Frz S A' B') (hx : Sub (fW [B, B']) (res x)) :
  K ⟨P, none, N, [], h0, w0, r⟩ (bodyPostM Fence.wide 0 P fn (Ret h0 w0 r res L') .ret) E L := AX x fun a w h m sp st f => by
 obtain ⟨v, hrun, hv⟩ := ok.run sp st f
 obtain ⟨v', hrun', hv'⟩ := ok'.run sp st f
 obtain ⟨m1, m2, d12, rfl, s1, s2⟩ := sel.stars.1 st
 have hd := (PH.disj_join'.1 sp.hm).1
 refine ⟨.tuple #[v, v'], h.join m1, m2, ?_, FM _ _, sp.freeze d12, (stars (L' x)).mono (FM _ _) s2, hx _ _ ⟨[v, v'], rfl, hs _ _ _ hd s1 hv, hs' _ _ _ hd s1 hv', trivial⟩⟩
 rw [kh, hr]; simp [hrun, hrun']
def memN (t : Nat) : List Nat -> Bool
 | [] => false
 | u :: us => match Nat.beq t u with | true => true | false => memN t us
theorem cM {t : Nat} : ∀ {us : List Nat}, memN t us = true ↔ t ∈ us
 | [] => by simp [memN]
 | u :: us => by
   by_cases e : t = u
   · subst e; simp [memN]
   · simp [memN, gW e, cM, e]
def cc (ts : List Nat) (E : Env) : Env := fun t => match memN t ts with | true => E t | false => tAny
theorem dx {ts : List Nat} {E : Env} : SubE E (cc ts E) := fun t => by
 unfold cc; cases memN t ts with
 | true => exact Sub.rfl
 | false => exact Sub.any
def kf (E : Env) (d : Option Nat) (A : Ty) : Env := match d with | some d => upd E d A | none => E
def inO (d : Option Nat) (ts : List Nat) : Bool := match d with | some d => memN d ts | none => false
def eqO (d e : Option Nat) : Bool := match d, e with | some d, some e => Nat.beq d e | _, _ => false
def ltO (d : Option Nat) (n : Nat) : Bool := match d with | some d => Nat.blt d n | none => true
theorem bg {ts : List Nat} {E : Env} {d : Option Nat} {A : Ty} (h : inO d ts = false) : cc ts (kf E d A) = cc ts E := by
 funext t
 unfold cc
 cases hm : memN t ts with
 | false => rfl
 | true =>
   cases d with
   | none => rfl
   | some d =>
     simp only [inO] at h
     have : t ≠ d := fun e => by subst e; rw [hm] at h; cases h
     simp only [kf, bV _ _ this]
theorem cD {E : Env} {d e : Option Nat} {A B : Ty} (h : eqO d e = false) : kf (kf E d A) e B = kf (kf E e B) d A := by
 cases d with
 | none => rfl
 | some d => cases e with
   | none => rfl
   | some e =>
     have hne : d ≠ e := fun q => by subst q; simp [eqO] at h
     funext t
     simp only [kf]
     by_cases h1 : t = e
     · subst h1; rw [de, bV _ _ (Ne.symm hne), de]
     · rw [bV _ _ h1]
       by_cases h2 : t = d
       · subst h2; rw [de, de]
       · rw [bV _ _ h2, bV _ _ h2, bV _ _ h1]
def StepG (C : Cx) (ops : Array Oper) (o : Oper) (E : Env) (L : List SP) (A : Ty) : Prop :=
 (o.guard = none /\ a8 C o E L A) ∨
 ∃ j b og t w B, o.guard = some (j, b) /\ ops[j]? = some og /\ og.dst = some t /\ Gd (E t) b w /\ A = tW w B /\ (w = true -> a8 C o E L B)
structure It where
 i : Nat
 ts : List Nat
 free : Bool
def WantX (ops : Array Oper) (o : Oper) (E : Env) : Prop :=
 o.guard = none \/ ∃ j b og t, o.guard = some (j, b) /\ ops[j]? = some og /\ og.dst = some t /\ Gd (E t) b true
theorem WantX.run {ops : Array Oper} {o : Oper} {E : Env} (hx : WantX ops o E) {h : PH} {a : Act} (fr : Fr E h a) : Region.wanted o (yielded ops a.tmps) = true := by
 rcases hx with hg | ⟨j, b, og, t, hg, hj, ht, hc⟩
 · simp [Region.wanted, hg]
 · exact jq hg hj ht ((hc _ _ (fr t)).1 rfl)
def JM (C : Cx) (ops : Array Oper) (k : Env -> List SP -> Prop) : List It -> Env -> List SP -> Prop
 | [], E, L => k E L
 | ⟨i, ts, true⟩ :: its, E, L => ∃ o A, ops[i]? = some o /\ ltO o.dst C.N = true /\ (∀ L, StepG C ops o (cc ts E) L A) /\ JM C ops k its (kf E o.dst A) L
 | ⟨i, ts, false⟩ :: its, E, L => ∃ o, ops[i]? = some o /\ ltO o.dst C.N = true ∧
   ((∃ A, StepG C ops o (cc ts E) L A /\ JM C ops k its (kf E o.dst A) L) ∨
    ∃ (X : Type) (A : X -> Ty) (L' : X -> List SP), WantX ops o (cc ts E) /\ Step C o (cc ts E) L A L' /\ ∀ x, JM C ops k its (kf E o.dst (A x)) (L' x))
section
variable {C : Cx} {ops : Array Oper} {k : Env -> List SP -> Prop} {its : List It} {E : Env} {L : List SP} {i : Nat} {ts : List Nat} {o : Oper}
theorem bP (h : k E L) : JM C ops k [] E L := h
theorem oN {A : Ty} {d : Nat} (ho : ops.toList[i]? = some o) (hg : o.guard = none) (hd : o.dst = some d) (hN : Nat.blt d C.N = true) (hs : ∀ L, a8 C o (cc ts E) L A)
  (hk : JM C ops k its (upd E d A) L) : JM C ops k (⟨i, ts, true⟩ :: its) E L :=
 ⟨o, A, by simpa using ho, by rw [hd]; exact hN, fun L => .inl ⟨hg, hs L⟩, by rw [hd]; exact hk⟩
theorem df {B : Ty} {d j t : Nat} {b w : Bool} {og : Oper} (ho : ops.toList[i]? = some o) (hg : o.guard = some (j, b)) (hj : ops.toList[j]? = some og) (ht : og.dst = some t) (hc : Gd (cc ts E t) b w) (hd : o.dst = some d) (hN : Nat.blt d C.N = true)
  (hs : w = true -> ∀ L, a8 C o (cc ts E) L B) (hk : JM C ops k its (upd E d (tW w B)) L) : JM C ops k (⟨i, ts, true⟩ :: its) E L :=
 ⟨o, tW w B, by simpa using ho, by rw [hd]; exact hN, fun L => .inr ⟨j, b, og, t, w, B, hg, by simpa using hj, ht, hc, rfl, fun hw => hs hw L⟩, by rw [hd]; exact hk⟩
theorem e8 {A : Ty} {d : Nat} (ho : ops.toList[i]? = some o) (hg : o.guard = none) (hd : o.dst = some d) (hN : Nat.blt d C.N = true) (hs : a8 C o (cc ts E) L A)
  (hk : JM C ops k its (upd E d A) L) : JM C ops k (⟨i, ts, false⟩ :: its) E L :=
 ⟨o, by simpa using ho, by rw [hd]; exact hN, .inl ⟨A, .inl ⟨hg, hs⟩, by rw [hd]; exact hk⟩⟩
theorem tq {B : Ty} {d j t : Nat} {b w : Bool} {og : Oper} (ho : ops.toList[i]? = some o) (hg : o.guard = some (j, b)) (hj : ops.toList[j]? = some og) (ht : og.dst = some t) (hc : Gd (cc ts E t) b w) (hd : o.dst = some d) (hN : Nat.blt d C.N = true)
  (hs : w = true -> a8 C o (cc ts E) L B) (hk : JM C ops k its (upd E d (tW w B)) L) : JM C ops k (⟨i, ts, false⟩ :: its) E L :=
 ⟨o, by simpa using ho, by rw [hd]; exact hN, .inl ⟨tW w B, .inr ⟨j, b, og, t, w, B, hg, by simpa using hj, ht, hc, rfl, hs⟩, by rw [hd]; exact hk⟩⟩
theorem cN {X : Type} {A : X -> Ty} {L' : X -> List SP} {d : Nat} (ho : ops.toList[i]? = some o) (hg : o.guard = none) (hd : o.dst = some d) (hN : Nat.blt d C.N = true) (hs : Step C o (cc ts E) L A L')
  (hk : ∀ x, JM C ops k its (upd E d (A x)) (L' x)) : JM C ops k (⟨i, ts, false⟩ :: its) E L :=
 ⟨o, by simpa using ho, by rw [hd]; exact hN, .inr ⟨X, A, L', .inl hg, hs, fun x => by rw [hd]; exact hk x⟩⟩
theorem ju {X : Type} {A : X -> Ty} {L' : X -> List SP} (ho : ops.toList[i]? = some o) (hg : o.guard = none) (hd : o.dst = none) (hs : Step C o (cc ts E) L A L')
  (hk : ∀ x, JM C ops k its E (L' x)) : JM C ops k (⟨i, ts, false⟩ :: its) E L :=
 ⟨o, by simpa using ho, by rw [hd]; rfl, .inr ⟨X, A, L', .inl hg, hs, fun x => by rw [hd]; exact hk x⟩⟩
theorem wH {X : Type} {A : X -> Ty} {L' : X -> List SP} {d j t : Nat} {b : Bool} {og : Oper} (ho : ops.toList[i]? = some o) (hg : o.guard = some (j, b)) (hj : ops.toList[j]? = some og) (ht : og.dst = some t) (hc : Gd (cc ts E t) b true) (hd : o.dst = some d) (hN : Nat.blt d C.N = true)
  (hs : Step C o (cc ts E) L A L') (hk : ∀ x, JM C ops k its (upd E d (A x)) (L' x)) : JM C ops k (⟨i, ts, false⟩ :: its) E L :=
 ⟨o, by simpa using ho, by rw [hd]; exact hN, .inr ⟨X, A, L', .inr ⟨j, b, og, t, hg, by simpa using hj, ht, hc⟩, hs, fun x => by rw [hd]; exact hk x⟩⟩
theorem Gf {G : Ty} {b w u : Bool} (h : w = u) (g : Gd G b w) : Gd G b u := h ▸ g
theorem Sub.wf {u : Bool} {A B : Ty} (h : u = false) : Sub (tW false B) (tW u A) := fun _ _ e => ⟨fun q => (by rw [h] at q; cases q), fun _ => e.2 _root_.rfl⟩
end
def aftN (o : Oper) : List Nat := (o.after.toList.filter fun e => Region.binds .any e).map (·.on)
def bJ (ops : List Oper) (i : Nat) : List Nat := match ops[i]? with | some o => aftN o | none => []
def cT (ops : List Oper) (i : Nat) : Option Nat := match ops[i]? with | some o => o.dst | none => none
structure Pl where
 i : Nat
 ts : List Nat
 free : Bool
 aft : List Nat
 dst : Option Nat
def fx (ops : List Oper) (x : It) : Pl := ⟨x.i, x.ts, x.free, bJ ops x.i, cT ops x.i⟩
def dO (a b : Pl) : Bool := !Nat.beq a.i b.i && (memN a.i b.aft || (!inO a.dst b.ts && !inO b.dst a.ts && !eqO a.dst b.dst))
def pY (m : Pl) (l : List Pl) : Bool := m.free || l.all fun q => memN m.i q.aft || q.aft.any fun r => l.any fun p => Nat.beq r p.i
def dy : List Pl -> Bool
 | [] => true
 | a :: l => l.all (dO a) && pY a l && dy l
def okM (ops : List Oper) (its : List It) : Bool :=
 let pls := its.map (fx ops)
 dy pls && pls.all (fun p => p.aft.all (Nat.blt · p.i)) && (List.range ops.length).all (fun i => its.any fun x => Nat.beq i x.i) && its.all fun x => Nat.blt x.i ops.length
theorem jv : ∀ {l1 : List Pl} {b : Pl} {l2 : List Pl}, dy (l1 ++ b :: l2) = true -> (∀ a ∈ l1, a.free = true) -> dy (l1 ++ l2) = true
 | [], b, l2, h, _ => by simp only [List.nil_append, dy, Bool.and_eq_true] at h; exact h.2
 | a :: l1, b, l2, h, hf => by
   simp only [List.cons_append, dy, Bool.and_eq_true, List.all_eq_true] at h ⊢
   refine ⟨⟨fun x hx => h.1.1 x ?_, ?_⟩, jv h.2 fun x hx => hf x (by simp [hx])⟩
   · rcases List.mem_append.1 hx with hx | hx <;> simp [hx]
   · simp [pY, hf a (by simp)]
theorem iy : ∀ {l1 : List Pl} {b : Pl} {l2 : List Pl}, dy (l1 ++ b :: l2) = true -> ∀ a ∈ l1, dO a b = true
 | [], _, _, _, a, ha => by cases ha
 | a :: l1, b, l2, h, x, hx => by
   simp only [List.cons_append, dy, Bool.and_eq_true, List.all_eq_true] at h
   rcases List.mem_cons.1 hx with rfl | hx
   · exact h.1.1 b (by simp)
   · exact iy h.2 x hx
theorem ki : ∀ {l1 : List Pl} {b : Pl} {l2 : List Pl}, dy (l1 ++ b :: l2) = true -> ∀ (x y : List Pl) (a : Pl), l1 = x ++ a :: y -> pY a (y ++ b :: l2) = true
 | [], _, _, _, x, y, a, e => by simp at e
 | c :: l1, b, l2, h, [], y, a, e => by
   simp only [List.nil_append, List.cons.injEq] at e; obtain ⟨rfl, rfl⟩ := e
   simp only [List.cons_append, dy, Bool.and_eq_true] at h
   exact h.1.2
 | c :: l1, b, l2, h, d :: x, y, a, e => by
   simp only [List.cons_append, List.cons.injEq] at e
   simp only [List.cons_append, dy, Bool.and_eq_true] at h
   exact ki h.2 x y a e.2
theorem StepG.same {C : Cx} {ops : Array Oper} {o : Oper} {E E' : Env} {L : List SP} {A : Ty} (e : E = E') (h : StepG C ops o E L A) : StepG C ops o E' L A := e ▸ h
theorem wI {C : Cx} {ops : Array Oper} {k : Env -> List SP -> Prop} : ∀ {l1 : List It} {b : It} {l2 : List It} {E : Env} {L : List SP}, (∀ a ∈ l1, a.free = true) ->
  (∀ a ∈ l1, dO (fx ops.toList a) (fx ops.toList b) = true) -> (∀ a ∈ l1, a.i ∉ bJ ops.toList b.i) -> JM C ops k (l1 ++ b :: l2) E L -> JM C ops k (b :: (l1 ++ l2)) E L
 | [], _, _, _, _, _, _, _, h => h
 | ⟨ia, ta, fa⟩ :: l1, ⟨ib, tb, fb⟩, l2, E, L, hf, hp, hn, h => by
   have hfa : fa = true := hf ⟨ia, ta, fa⟩ (by simp)
   subst hfa
   obtain ⟨oa, A, ha, hla, hsa, hk⟩ := h
   have ih := wI (fun a m => hf a (by simp [m])) (fun a m => hp a (by simp [m])) (fun a m => hn a (by simp [m])) hk
   have hpair := hp ⟨ia, ta, true⟩ (by simp)
   have hna := hn ⟨ia, ta, true⟩ (by simp)
   have hda : cT ops.toList ia = oa.dst := by simp [cT, ha]
   have hpair' : inO oa.dst tb = false /\ inO (cT ops.toList ib) ta = false /\ eqO oa.dst (cT ops.toList ib) = false := by
    simp only [dO, fx, hda, Bool.and_eq_true, Bool.or_eq_true, Bool.not_eq_true', cM] at hpair
    rcases hpair.2 with q | q
    · exact absurd q hna
    · exact ⟨q.1.1, q.1.2, q.2⟩
   obtain ⟨p1, p2, p3⟩ := hpair'
   cases fb with
   | true =>
     obtain ⟨ob, B, hb, hlb, hsb, hkb⟩ := ih
     have hdb : cT ops.toList ib = ob.dst := by simp [cT, hb]
     rw [hdb] at p2 p3
     refine ⟨ob, B, hb, hlb, fun L => (hsb L).same (bg p1), oa, A, ha, hla, fun L => (hsa L).same (bg p2).symm, ?_⟩
     rw [cD p3] at hkb
     exact hkb
   | false =>
     obtain ⟨ob, hb, hlb, hcase⟩ := ih
     have hdb : cT ops.toList ib = ob.dst := by simp [cT, hb]
     rw [hdb] at p2 p3
     refine ⟨ob, hb, hlb, ?_⟩
     rcases hcase with ⟨B, hsb, hkb⟩ | ⟨X, B, L', hgb, hsb, hkb⟩
     · left
       refine ⟨B, hsb.same (bg p1), oa, A, ha, hla, fun L => (hsa L).same (bg p2).symm, ?_⟩
       rw [cD p3] at hkb
       exact hkb
     · right
       rw [bg p1] at hsb hgb
       refine ⟨X, B, L', hgb, hsb, fun x => ⟨oa, A, ha, hla, fun L => (hsa L).same (bg p2).symm, ?_⟩⟩
       have := hkb x
       rw [cD p3] at this
       exact this
theorem cu {ops : Array Oper} {listed : Array Bool} {i : Nat} : i ∈ Region.ready .any ops listed ↔ i < ops.size /\ listed.getD i true = false /\ ∃ o, ops[i]? = some o /\ ∀ e ∈ aftN o, listed.getD e false = true := by
 unfold Region.ready
 simp only [List.mem_filter, List.mem_range, Bool.and_eq_true, Bool.not_eq_true', aftN]
 refine and_congr_right fun hi => and_congr_right fun _ => ?_
 have ho : ops[i]? = some ops[i] := Array.getElem?_eq_getElem hi
 rw [ho]
 simp only [Option.map_some, Option.getD_some, Option.some.injEq, exists_eq_left', Array.all_eq_true', Bool.or_eq_true, Bool.not_eq_true', List.mem_map, List.mem_filter, Array.mem_toList_iff, forall_exists_index, and_imp]
 constructor
 · intro h n e he hb hn
   subst hn
   rcases h e he with h' | h'
   · rw [hb] at h'; cases h'
   · exact h'
 · intro h e he
   cases hb : Region.binds .any e with
   | false => exact .inl rfl
   | true => exact .inr (h e.on e he hb rfl)
theorem Fr.putO {E : Env} {h : PH} {a : Act} (f : Fr E h a) {d : Option Nat} (hd : ltO d a.tmps.size = true) {A : Ty} {v : Value} (hv : A.p h v) : Fr (kf E d A) h (a.put d v) := by
 cases d with
 | none => exact f
 | some d => exact f.put (by simpa [ltO] using hd) hv
theorem gz (a : Act) (d : Option Nat) (v : Value) : (a.put d v).tmps.size = a.tmps.size := by cases d <;> simp [Act.put]
theorem ee (a : Act) (d : Option Nat) (v : Value) : (a.put d v).defers = a.defers := by cases d <;> rfl
theorem StepG.op {C : Cx} {ops : Array Oper} {o : Oper} {E : Env} {ts : List Nat} {L : List SP} {A : Ty} {i : Nat} (ho : ops[i]? = some o) (hl : ltO o.dst C.N = true) (hs : StepG C ops o (cc ts E) L A)
  {K' : Act -> World -> Prop} {Q : Exit -> Act -> World -> Prop} (hk : K C K' (kf E o.dst A) L) : K C (fun a w => wpOpIn (Fw C.ro) 0 C.P ops Q i K' a w) E L := fun a w ⟨n, ds, h, m, l, sp, st, fr⟩ => by
 have fr' := fr.sub (dx (ts := ts))
 show wpOpIn _ _ _ _ _ _ _ _ _
 unfold wpOpIn
 simp only [ho]
 have fin : ∀ (v : Value) w' h' m', HL h w h' w' -> Sep h' m' C.r w' -> (stars L).p h' m' -> A.p h' v -> K' (a.put o.dst v) w' := fun v w' h' m' l' sp' st' hv =>
  hk _ _ ⟨by rw [gz]; exact n, by rw [ee]; exact ds, h', m', HL.trans l l', sp', st', (fr.mono l'.1).putO (by rw [n]; exact hl) hv⟩
 rcases hs with ⟨hg, hs⟩ | ⟨j, b, og, t, wn, B, hg, hj, ht, hc, rfl, hs⟩
 · have hwt : Region.wanted o (yielded ops a.tmps) = true := by simp [Region.wanted, hg]
   rw [if_pos hwt]
   exact hs a w h m n l sp st fr' _ Q fun _ v w' h' m' l' sp' st' hv => fin v w' h' m' l' sp' st' hv
 · have hv := hc _ _ (fr' t)
   cases wn with
   | true =>
     rw [if_pos (jq hg hj ht (hv.1 rfl))]
     exact hs rfl a w h m n l sp st fr' _ Q fun _ v w' h' m' l' sp' st' hv => fin v w' h' m' l' sp' st' ⟨fun _ => hv, fun e => by simp at e⟩
   | false =>
     rw [if_neg (by rw [i7 hg hj ht (hv.2 rfl)]; simp)]
     exact ⟨fun _ _ => trivial, fin undef w h m HL.refl sp st ⟨fun e => by simp at e, fun _ => rfl⟩⟩
theorem cB {l : Array Bool} {i : Nat} (h : i < l.size) (b : Bool) : (l.setIfInBounds i true).getD i b = true := by simp [Array.getD_eq_getD_getElem?, h]
theorem cX {l : Array Bool} {i j : Nat} (h : i ≠ j) (b : Bool) : (l.setIfInBounds i true).getD j b = l.getD j b := by simp [Array.getD_eq_getD_getElem?, Array.getElem?_setIfInBounds_ne h]
theorem dF {l : Array Bool} {i : Nat} (h : i < l.size) (b c : Bool) : l.getD i b = l.getD i c := by simp [Array.getD_eq_getD_getElem?, h]
theorem zl {C : Cx} {ops : Array Oper} {Q : Exit -> Act -> World -> Prop} : ∀ (fuel : Nat) (its : List It) (listed : Array Bool) (E : Env) (L : List SP), its.length <= fuel -> listed.size = ops.size ->
  (∀ i, i < ops.size -> (listed.getD i true = false ↔ ∃ x ∈ its, x.i = i)) -> dy (its.map (fx ops.toList)) = true -> (∀ x ∈ its, x.i < ops.size /\ ∀ e ∈ bJ ops.toList x.i, e < x.i) ->
  JM C ops (fun E' L' => K C (Q .normal) E' L') its E L -> K C (fun a w => wpAnyIn (Fw C.ro) 0 C.P .any ops Q fuel listed a w) E L := by
 intro fuel
 induction fuel with
 | zero =>
   intro its listed E L hlen hsz hin _ _ hJ
   have : its = [] := List.length_eq_zero_iff.1 (by omega)
   subst this
   intro a w p
   refine ⟨?_, hJ a w p⟩
   rw [List.eq_nil_iff_forall_not_mem]
   intro i hi
   obtain ⟨h1, h2, _⟩ := cu.1 hi
   obtain ⟨x, hx, _⟩ := (hin i h1).1 h2
   cases hx
 | succ fuel ih =>
   intro its listed E L hlen hsz hin hok hlt hJ
   -- if nothing is ready, nothing is left
   have hdone : Region.ready .any ops listed = [] -> its = [] := by
    intro hr
    have hall : ∀ i, i < ops.size -> listed.getD i true = true := by
     intro i
     induction i using Nat.strongRecOn with
     | _ i ihi =>
       intro hi
       cases hl : listed.getD i true with
       | true => rfl
       | false =>
         have ho : ops[i]? = some ops[i] := Array.getElem?_eq_getElem hi
         obtain ⟨x, hx, hxi⟩ := (hin i hi).1 hl
         have h1 := (hlt x hx).2
         rw [hxi] at h1
         have hm : i ∈ Region.ready .any ops listed := cu.2 ⟨hi, hl, _, ho, fun e he => by
          have he' : e < i := h1 e (by simpa [bJ, hi] using he)
          rw [dF (by omega) false true]
          exact ihi e he' (by omega)⟩
         rw [hr] at hm; cases hm
    match its with
    | [] => rfl
    | x :: _ =>
      have h1 := (hlt x (by simp)).1
      have := (hin x.i h1).2 ⟨x, by simp, rfl⟩
      rw [hall x.i h1] at this; cases this
   intro a w p
   refine ⟨fun hr => ?_, fun i hi => ?_⟩
   · have := hdone hr
     subst this
     exact hJ a w p
   · obtain ⟨hlti, hnl, o, ho, haft⟩ := cu.1 hi
     obtain ⟨b, hb, hbi⟩ := (hin i hlti).1 hnl
     obtain ⟨l1, l2, rfl⟩ := List.append_of_mem hb
     have hoi : ops.toList[b.i]? = some o := by rw [hbi]; simpa using ho
     have haft' : bJ ops.toList b.i = aftN o := by simp only [bJ, hoi]
     -- what is left is not listed
     have hleft : ∀ x ∈ l1 ++ b :: l2, x.i ∉ bJ ops.toList b.i := fun x hx hm => by
      rw [haft'] at hm
      have h1 := haft _ hm
      have h2 := (hlt x hx).1
      have h3 := (hin x.i h2).2 ⟨x, hx, rfl⟩
      rw [dF (by omega) true false, h1] at h3; cases h3
     rw [List.map_append, List.map_cons] at hok
     have hpair : ∀ a ∈ l1, dO (fx ops.toList a) (fx ops.toList b) = true := fun a ha => iy hok _ (List.mem_map_of_mem ha)
     have hfree : ∀ a ∈ l1, a.free = true := fun x hx => by
      obtain ⟨y, z, rfl⟩ := List.append_of_mem hx
      have ht := ki hok (y.map (fx ops.toList)) (z.map (fx ops.toList)) (fx ops.toList x) (by simp)
      simp only [pY, Bool.or_eq_true, List.all_eq_true, List.any_eq_true] at ht
      rcases ht with ht | ht
      · exact ht
      · rcases ht (fx ops.toList b) (by simp) with q | ⟨r, hr, p, hp, hq⟩
        · exact absurd (cM.1 q) (hleft x (by simp))
        · have hrp := Nat.eq_of_beq_eq_true hq
          have hp' : ∃ u ∈ z ++ b :: l2, fx ops.toList u = p := by
           rcases List.mem_append.1 hp with hp | hp
           · obtain ⟨u, hu, e⟩ := List.mem_map.1 hp
             exact ⟨u, by simp [hu], e⟩
           · rcases List.mem_cons.1 hp with hp | hp
             · exact ⟨b, by simp, hp.symm⟩
             · obtain ⟨u, hu, e⟩ := List.mem_map.1 hp
               exact ⟨u, by simp [hu], e⟩
          obtain ⟨u, hu, e⟩ := hp'
          have : u.i ∉ bJ ops.toList b.i := hleft u (by
           rcases List.mem_append.1 hu with hu | hu
           · simp [hu]
           · simp only [List.mem_append]; exact .inr hu)
          rw [<- e] at hrp
          have hr' : r ∈ bJ ops.toList b.i := hr
          rw [hrp] at hr'
          exact absurd hr' this
     have hJ' := wI hfree hpair (fun a ha => hleft a (by simp [ha])) hJ
     have hsub : ∀ x ∈ l1 ++ l2, x ∈ l1 ++ b :: l2 := fun x hx => by
      rcases List.mem_append.1 hx with hx | hx <;> simp [hx]
     have hpairs : ∀ x ∈ l1 ++ l2, x.i ≠ b.i := fun x hx => by
      rcases List.mem_append.1 hx with hx | hx
      · have := hpair x hx
        simp only [dO, fx, Bool.and_eq_true, Bool.not_eq_true'] at this
        intro e; rw [e] at this; simp at this
      · have h2 : ∀ {l1 : List Pl} {b : Pl} {l2 : List Pl}, dy (l1 ++ b :: l2) = true -> dy (b :: l2) = true := by
          intro l1
          induction l1 with
          | nil => intro b l2 h; exact h
          | cons c l1 ih => intro b l2 h; simp only [List.cons_append, dy, Bool.and_eq_true] at h; exact ih h.2
        have := h2 hok
        simp only [dy, Bool.and_eq_true, List.all_eq_true] at this
        have := this.1.1 _ (List.mem_map_of_mem hx)
        simp only [dO, fx, Bool.and_eq_true, Bool.not_eq_true'] at this
        intro e; rw [e] at this; simp at this
     have rest : ∀ E' L', JM C ops (fun E' L' => K C (Q .normal) E' L') (l1 ++ l2) E' L' -> K C (fun a w => wpAnyIn (Fw C.ro) 0 C.P .any ops Q fuel (listed.setIfInBounds i true) a w) E' L' := by
      intro E' L' hk
      refine ih (l1 ++ l2) _ E' L' (by simp only [List.length_append, List.length_cons] at hlen ⊢; omega) (by simpa using hsz) (fun j hj => ?_) (by
       rw [List.map_append]
       exact jv hok fun x hx => (List.mem_map.1 hx).elim fun y hy => hy.2 ▸ hfree y hy.1) (fun x hx => hlt x (hsub x hx)) hk
      by_cases hji : i = j
      · subst hji
        rw [cB (by omega)]
        constructor
        · intro h; cases h
        · rintro ⟨x, hx, e⟩
          exact absurd (e.trans hbi.symm) (hpairs x hx)
      · rw [cX hji, hin j hj]
        constructor
        · rintro ⟨x, hx, e⟩
          refine ⟨x, ?_, e⟩
          rcases List.mem_append.1 hx with hx | hx
          · simp [hx]
          · rcases List.mem_cons.1 hx with rfl | hx
            · exact absurd (hbi.symm.trans e) hji
            · simp [hx]
        · rintro ⟨x, hx, e⟩
          exact ⟨x, hsub x hx, e⟩
     obtain ⟨bi, tb, fb⟩ := b
     simp only at hbi hoi
     subst hbi
     have ho' : ops[bi]? = some o := ho
     cases fb with
     | true =>
       obtain ⟨o', A, ho2, hl, hs, hk⟩ := hJ'
       rw [ho'] at ho2; cases ho2
       exact (hs L).op ho' hl (rest _ _ hk) a w p
     | false =>
       obtain ⟨o', ho2, hl, hcase⟩ := hJ'
       rw [ho'] at ho2; cases ho2
       rcases hcase with ⟨A, hs, hk⟩ | ⟨X, A, L', hg, hs, hk⟩
       · exact hs.op ho' hl (rest _ _ hk) a w p
       · obtain ⟨n, ds, h, m, l, sp, st, fr⟩ := p
         have hwt : Region.wanted o (yielded ops a.tmps) = true := hg.run (fr.sub dx)
         unfold wpOpIn
         simp only [ho']
         rw [if_pos hwt]
         exact hs a w h m n l sp st (fr.sub dx) _ Q fun x v w' h' m' l' sp' st' hv =>
          rest _ _ (hk x) _ _ ⟨by rw [gz]; exact n, by rw [ee]; exact ds, h', m', HL.trans l l', sp', st', (fr.mono l'.1).putO (by rw [n]; exact hl) hv⟩
theorem lu {l : List Nat} (h : l.Nodup) {n : Nat} (hl : ∀ x ∈ l, x < n) : l.length <= n := by
 induction n generalizing l with
 | zero => match l with
   | [] => simp
   | x :: _ => have := hl x (by simp); omega
 | succ n ih =>
   by_cases hm : n ∈ l
   · have h1 := ih (h.erase n) (fun x hx => by
       have h2 := (h.mem_erase_iff).1 hx
       have := hl x h2.2
       omega)
     rw [List.length_erase_of_mem hm] at h1
     omega
   · have := ih h (fun x hx => by
       have := hl x hx
       have : x ≠ n := fun e => hm (e ▸ hx)
       omega)
     omega
theorem bQ {C : Cx} {id : Nat} {ops : Array Oper} (its : List It) {Q : Exit -> Act -> World -> Prop} {E : Env} {L : List SP} (hmix : C.P.follows .mixedOrders = true) (hok : okM ops.toList its = true)
  (hJ : JM C ops (fun E' L' => K C (Q .normal) E' L') its E L) : J C (.region id ops true) Q E L := fun a w p => by
 refine wpIn_region_draw (fun t => ?_)
 simp only [Region.schedule, hmix, Bool.true_or, if_true]
 refine wpAnyIn_sound ops.size t _ a _ ?_
 simp only [okM, Bool.and_eq_true, List.all_eq_true, List.any_eq_true] at hok
 obtain ⟨⟨⟨h1, h2⟩, h3⟩, h4⟩ := hok
 have h5 : ∀ x ∈ its, x.i < ops.size := fun x hx => by have := h4 x hx; simpa using this
 have hnd : (its.map (·.i)).Nodup := by
  have : ∀ {l : List It}, dy (l.map (fx ops.toList)) = true -> (l.map (·.i)).Nodup := by
   intro l
   induction l with
   | nil => intro _; simp
   | cons x l ih =>
     intro h
     simp only [List.map_cons, dy, Bool.and_eq_true, List.all_eq_true] at h
     simp only [List.map_cons, List.nodup_cons]
     refine ⟨fun hm => ?_, ih h.2⟩
     obtain ⟨y, hy, e⟩ := List.mem_map.1 hm
     have := h.1.1 _ (List.mem_map_of_mem hy)
     simp only [dO, fx, Bool.and_eq_true, Bool.not_eq_true'] at this
     rw [e] at this; simp at this
  exact this h1
 have hlen : its.length <= ops.size := by
  have := lu hnd (n := ops.size) (fun i hi => by
   obtain ⟨x, hx, rfl⟩ := List.mem_map.1 hi
   exact h5 x hx)
  simpa using this
 refine zl ops.size its _ E L hlen (by simp) (fun i hi => ?_) h1 (fun x hx => ⟨h5 x hx, fun e he => ?_⟩) hJ a _ ?_
 · constructor
   · intro _
     obtain ⟨x, hx, e⟩ := h3 i (by simpa using hi)
     exact ⟨x, hx, (Nat.eq_of_beq_eq_true e).symm⟩
   · intro _; simp [Array.getD_eq_getD_getElem?, hi]
 · have := h2 _ (List.mem_map_of_mem hx) e he
   simpa [fx] using this
 · obtain ⟨hsz, hds, h, m, hl, sp, st, fr⟩ := p
   exact ⟨hsz, hds, h, m, hl.trans (HL.same (Same.drew _)), ⟨(by first | exact Sep.inv (by assumption) | exact Inv.mono (FM _ _) (Sep.inv (by assumption))), sp.hm, sp.hr, sp.mr, sp.hw, sp.mw, sp.rw⟩, st, fr⟩
theorem wr {a b : Bool} (h : (a && b) = true) : b = true := by cases a <;> simp_all
@[simp] theorem beqB_t {a : Bool} : gT a true = a := by cases a <;> rfl
@[simp] theorem beqB_f {a : Bool} : gT a false = !a := by cases a <;> rfl
def nth {α : Type} [Inhabited α] : List α -> Nat -> α
 | [], _ => default
 | a :: _, 0 => a
 | _ :: l, i + 1 => nth l i
section
variable {α : Type} [Inhabited α]
theorem gb : ∀ {l : List α} {i : Nat}, i < l.length -> l[i]? = some (nth l i)
 | [], _, h => by simp at h
 | a :: l, 0, _ => _root_.rfl
 | a :: l, i + 1, h => by simpa [nth] using gb (l := l) (i := i) (by simpa using h)
theorem nth_get {l : List α} {i : Nat} (h : i < l.length) : nth l i = l[i] := by have := gb h; rw [List.getElem?_eq_getElem h] at this; exact (Option.some.inj this).symm
theorem nth_mem {l : List α} {i : Nat} (h : i < l.length) : nth l i ∈ l := nth_get h ▸ List.getElem_mem h
theorem fq : ∀ {l : List α} {i : Nat}, i < l.length -> l.drop i = nth l i :: l.drop (i + 1)
 | [], _, h => by simp at h
 | a :: l, 0, _ => _root_.rfl
 | a :: l, i + 1, h => by simpa [nth] using fq (l := l) (i := i) (by simpa using h)
theorem di {l : List α} {i : Nat} (h : i < l.length) : l.take (i + 1) = l.take i ++ [nth l i] := by rw [nth_get h, List.take_succ_eq_append_getElem h]
@[simp] theorem nth_nil {i : Nat} : nth ([] : List α) i = default := by cases i <;> rfl
@[simp] theorem nth_zero {a : α} {l : List α} : nth (a :: l) 0 = a := rfl
@[simp] theorem nth_succ {a : α} {l : List α} {i : Nat} : nth (a :: l) (i + 1) = nth l i := rfl
theorem nth_set {l : List α} {i j : Nat} {x : α} (h : j < l.length) : nth (l.set i x) j = if i = j then x else nth l j := by rw [nth_get (by simpa using h), List.getElem_set, nth_get h]
end
def LSub (L L' : List SP) : Prop := ∀ h m, (stars L).p h m -> (stars L').p h m
theorem LSub.rfl {L : List SP} : LSub L L := fun _ _ e => e
def SPs (A B : SP) : Prop := ∀ h m, A.p h m -> B.p h m
theorem SPs.rfl {A : SP} : SPs A A := fun _ _ e => e
theorem SPs.of {A B : SP} (e : A = B) : SPs A B := e ▸ SPs.rfl
theorem LSub.cons {L S L' : List SP} {A B : SP} (sel : Sel L [A] S) (hs : SPs A B) (h : LSub S L') : LSub L (B :: L') := fun hh m p => by
 obtain ⟨m1, m2, d, e, a, r⟩ := sel.one.1 p
 exact ⟨m1, m2, d, e, hs _ _ a, h _ _ r⟩
theorem LSub.nil : LSub [] [] := LSub.rfl
theorem f5 {α : Type} {e : Nat} {R : Rp α} {v : Value} {xs ys : List α} (h : xs = ys) : SPs (own e R v xs) (own e R v ys) := h ▸ SPs.rfl
theorem Pre.lsub {C : Cx} {E : Env} {L L' : List SP} {a : Act} {w : World} (s : LSub L L') (p : Pre C E L a w) : Pre C E L' a w :=
 let ⟨n, d, h, m, l, sp, st, f⟩ := p; ⟨n, d, h, m, l, sp, s h m st, f⟩
theorem a7 {C : Cx} {k : Act -> World -> Prop} {E : Env} {L L' : List SP} (s : LSub L L') (hk : K C k E L') : K C k E L := fun a w p => hk a w (p.lsub s)
theorem aK {σ : Type} {C : Cx} {c : Code} {Q : Exit -> Act -> World -> Prop} {E0 : Env} {L0 : List SP} (inv : σ -> Prop) (E : σ -> Env) (L : σ -> List SP) (μ : σ -> Nat) (s0 : σ) (i0 : inv s0)
  (hE : SubE E0 (E s0)) (hL : LSub L0 (L s0)) (round : ∀ s, inv s -> J C c (Exit.then (zk C inv E L μ s) Q) (E s) (L s)) : J C (.loop c) Q E0 L0 := a7 hL (CV inv E L μ s0 i0 hE round)
theorem ay {σ : Type} {C : Cx} {inv : σ -> Prop} {E : σ -> Env} {L : σ -> List SP} {μ : σ -> Nat} {s : σ} {E1 : Env} {L1 : List SP} (s' : σ) (hm : μ s' < μ s) (hi : inv s') (hE : SubE E1 (E s')) (hL : LSub L1 (L s')) :
  K C (zk C inv E L μ s) E1 L1 := a7 hL (By s' hm hi hE)
theorem CW {X : Type} {C : Cx} {x : Code} {k : Act -> World -> Prop} {Q : Exit -> Act -> World -> Prop} {E : Env} {L : List SP} (E' : X -> Env) (L' : X -> List SP)
  (h : J C x (Exit.then (fun a w => ∃ z, Pre C (E' z) (L' z) a w) Q) E L) (hk : ∀ z, K C k (E' z) (L' z)) : J C x (Exit.then k Q) E L := fun a w p => by
 refine Code.wpIn_mono (fun e a w q => ?_) (h a w p)
 cases e with
 | normal => obtain ⟨z, hz⟩ := q; exact hk z a w hz
 | exit _ => exact q
 | goto _ => exact q
 | ret => exact q
 | panic _ => exact q
 | outgrown => exact q
theorem zm {X : Type} {C : Cx} {E E1 : X -> Env} {L1 : X -> List SP} {E0 : Env} {L0 : List SP} (z : X) (hE : SubE E0 (E1 z)) (hL : LSub L0 (L1 z)) : K C (fun a w => ∃ z, Pre C (E1 z) (L1 z) a w) E0 L0 := fun _ _ p => ⟨z, (p.sub hE).lsub hL⟩
theorem Frz.skip {A A' : Ty} {B : SP} {S : List SP} (f : Frz S A A') : Frz (B :: S) A A' := fun h m v d ⟨m1, m2, d12, e, _, hs⟩ ha => by
 subst e
 have hd := PH.disj_join'.1 d
 refine A'.mono ?_ (f h m2 v hd.2 hs ha)
 intro b o e
 simp only [PH.join] at e ⊢
 cases hb : h b with
 | some x => rw [hb] at e; exact e
 | none =>
   rw [hb] at e
   have := FO d12 b o e
   simp only [PH.join] at this
   exact this
theorem Gi {α : Type} {e : Nat} {R : Rp α} {v : Value} {xs ys : List α} {S : List SP} (h : xs = ys) : Frz (Lg.own e R v xs :: S) (rV.ty v) (tSl R ys) := h ▸ Frz.own
theorem FT {v : Value} (h : v.oneCell' = true) : Sub (tV v) (rV.ty v) := fun _ _ e => ⟨e, h⟩
theorem F6 {α : Type} {R : Rp α} {c : Nat} : Sub (tV (.slice none 0 c)) (tSl R ([] : List α)) := fun _ _ e => ⟨none, ⟨c, Nat.zero_le _⟩, e, fun q => absurd _root_.rfl q⟩
theorem FR {α : Type} {e : Nat} {R : Rp α} {L : List SP} : LSub L (own e R (.slice none 0 0) ([] : List α) :: L) := fun _ m p =>
 ⟨PH.emp, m, F8 m, (Gc m).symm, .inl ⟨_root_.rfl, _root_.rfl, _root_.rfl⟩, p⟩
theorem oO {C : Cx} {ops : Array Oper} {l : List Oper} {Q : Exit -> Act -> World -> Prop} {E : Env} {L L' : List SP} (s : LSub L L') (hk : JL C ops l Q E L') : JL C ops l Q E L := fun a w p => hk a w (p.lsub s)
section
variable {C : Cx} {E : Env} {L : List SP} {d : Option Nat} {ty : Nat} {pos : String} {af : Array Edge} {g : Option (Nat × Bool)}
theorem ns {c x : Operand} {b e : Bool} (hc : Sub (opTy E c) (tV (.bool b))) (hx : Sub (opTy E x) (tV (.bool e))) :
  a8 C ⟨d, .pick c x (.const (.bool false)), ty, pos, af, g⟩ E L (tV (.bool (b && e))) :=
 FP (by intro c h; cases h) fun a w h hw f => by
  have h1 : a.eval c = .bool b := f.get hc
  have h2 : a.eval x = .bool e := f.get hx
  refine ⟨.bool (b && e), ?_, rfl⟩
  cases b with
  | true => simp [execOp, h1, asBool, h2]
  | false => simp [execOp, h1, asBool, show a.eval (.const (.bool false)) = .bool false from rfl]
theorem bF {T : Nat} {x : Operand} {s : ByteArray} (hu : C.P.underlying T = some .string) (hx : Sub (opTy E x) (tV (.string s))) :
  a8 C ⟨d, .call { callee := .builtin .len, args := #[x], argTypes := #[T] }, ty, pos, af, g⟩ E L (tV (.int .i64 s.size)) :=
 FP (by intro c h; cases h) fun a w h hw f => by
  have hv : a.eval x = .string s := f.get hx
  exact ⟨.int .i64 s.size, by simp [execOp, resolve, invoke, builtin, Builtin.len_, hv, run_underlying hu, goInt], rfl⟩
theorem iz {a b : ByteArray} : (a.toList == b.toList) = decide (a = b) := by
 rw [ByteArray.toList_eq, ByteArray.toList_eq]
 by_cases h : a = b
 · subst h; simp
 · have h1 : ¬ a.data = b.data := fun e => h (by cases a; cases b; simp at e; simp [e])
   simp [h, h1]
theorem jw {T U : Nat} {op : BinOp} {x y : Operand} {a b : ByteArray} {v : Value} (hx : Sub (opTy E x) (tV (.string a))) (hy : Sub (opTy E y) (tV (.string b)))
  (hr : ∀ P w, (binOp op T (.string a) (.string b)).run P w = .ok v w) : a8 C ⟨d, .binOp op T x y U, ty, pos, af, g⟩ E L (tV v) :=
 FP (by intro c h; cases h) fun ac w h hw f => ⟨v, by
  have h1 : ac.eval x = .string a := f.get hx
  have h2 : ac.eval y = .string b := f.get hy
  have he : ∀ w, (eqGuard op T x y (.string a) (.string b)).run C.P w = .ok () w := by intro w; cases op <;> simp [eqGuard]
  simp [execOp, h1, h2, Sem.run_bind, he, hr], rfl⟩
theorem dP {T U : Nat} {x y : Operand} {a b : ByteArray} (hx : Sub (opTy E x) (tV (.string a))) (hy : Sub (opTy E y) (tV (.string b))) :
  a8 C ⟨d, .binOp .eql T x y U, ty, pos, af, g⟩ E L (tV (.bool (decide (a = b)))) := jw hx hy (fun P w => by rw [binOp_string_eql, iz]; rfl)
theorem kY {T U : Nat} {x y : Operand} {a b : ByteArray} (hx : Sub (opTy E x) (tV (.string a))) (hy : Sub (opTy E y) (tV (.string b))) :
  a8 C ⟨d, .binOp .neq T x y U, ty, pos, af, g⟩ E L (tV (.bool (!decide (a = b)))) := jw hx hy (fun P w => by rw [binOp_string_neq, iz]; rfl)
theorem pZ {T U : Nat} {x y : Operand} {a b : ByteArray} (hx : Sub (opTy E x) (tV (.string a))) (hy : Sub (opTy E y) (tV (.string b))) :
  a8 C ⟨d, .binOp .lss T x y U, ty, pos, af, g⟩ E L (tV (.bool (Op.bytesLess a.toList b.toList))) := jw hx hy (fun P w => by rw [binOp_string_lss]; rfl)
theorem p5 {T U : Nat} {x y : Operand} {a b : ByteArray} (hx : Sub (opTy E x) (tV (.string a))) (hy : Sub (opTy E y) (tV (.string b))) :
  a8 C ⟨d, .binOp .gtr T x y U, ty, pos, af, g⟩ E L (tV (.bool (!(Op.bytesLess a.toList b.toList || a.toList == b.toList)))) := jw hx hy (fun P w => by simp [binOp, Op.stringOp])
theorem oP {T U : Nat} {op : BinOp} {x y : Operand} {a b c : Bool} (hx : Sub (opTy E x) (tV (.bool a))) (hy : Sub (opTy E y) (tV (.bool b)))
  (hr : ∀ w, (binOp op T (.bool a) (.bool b)).run C.P w = .ok (.bool c) w) : a8 C ⟨d, .binOp op T x y U, ty, pos, af, g⟩ E L (tV (.bool c)) :=
 FP (by intro c h; cases h) fun ac w h hw f => ⟨.bool c, by
  have h1 : ac.eval x = .bool a := f.get hx
  have h2 : ac.eval y = .bool b := f.get hy
  have he : ∀ w, (eqGuard op T x y (.bool a) (.bool b)).run C.P w = .ok () w := by intro w; cases op <;> simp [eqGuard]
  simp [execOp, h1, h2, Sem.run_bind, he, hr], rfl⟩
end
theorem p6 {X : Type} {C : Cx} {ops : Array Oper} {o og : Oper} {rest : List Oper} {Q : Exit -> Act -> World -> Prop} {E : Env} {L : List SP} {A : X -> Ty} {L' : X -> List SP} {d j t : Nat} {b w : Bool} (A0 : Ty)
  (hg : o.guard = some (j, b)) (hj : ops[j]? = some og) (ht : og.dst = some t) (hc : Gd (E t) b w) (hd : o.dst = some d) (hN : Nat.blt d C.N = true)
  (hs : w = true -> Step C o E L A L') (hkT : w = true -> ∀ x, JL C ops rest Q (upd E d (tW w (A x))) (L' x)) (hkF : w = false -> JL C ops rest Q (upd E d (tW w A0)) L) : JL C ops (o :: rest) Q E L := fun a wd ⟨n, ds, h, m, l, sp, st, f⟩ => by
 have hlt : d < C.N := by simpa using hN
 have hv := hc _ _ (f t)
 show wpListIn _ _ _ _ _ _ _ _
 unfold wpListIn
 cases w with
 | true =>
   rw [if_pos (jq hg hj ht (hv.1 rfl))]
   refine hs rfl a wd h m n l sp st f _ Q fun x v w' h' m' l' sp' st' hv' => hkT rfl x _ _ ⟨?_, ?_, h', m', HL.trans l l', sp', st', ?_⟩
   · rw [hd]; simpa [Act.put] using n
   · rw [hd]; exact ds
   · rw [hd]; exact (f.mono l'.1).put (by rw [n]; exact hlt) ⟨fun _ => hv', fun e => by simp at e⟩
 | false =>
   rw [if_neg (by rw [i7 hg hj ht (hv.2 rfl)]; simp)]
   refine ⟨fun _ _ => trivial, hkF rfl _ _ ⟨?_, ?_, h, m, l, sp, st, ?_⟩⟩
   · rw [hd]; simpa [Act.put] using n
   · rw [hd]; exact ds
   · rw [hd]; exact f.put (by rw [n]; exact hlt) ⟨fun e => by simp at e, fun _ => rfl⟩
theorem Frz.w {S : List SP} {A A' : Ty} {w : Bool} (hw : w = true) (f : Frz S A A') : Frz S (tW w A) A' := fun h m v d hs ha => f h m v d hs (ha.1 hw)
def SP.ex {ι : Type} (A : ι -> SP) : SP := ⟨fun h m => ∃ i, (A i).p h m, fun l ⟨i, a⟩ => ⟨i, (A i).mono l a⟩⟩
theorem EV {ι : Type} {A : ι -> SP} {C : Cx} {k : Act -> World -> Prop} {E : Env} {L : List SP} (hk : ∀ i, K C k E (A i :: L)) : K C k E (SP.ex A :: L) :=
 fun a w ⟨n, ds, h, m, l, sp, ⟨m1, m2, d, e, ⟨i, ha⟩, hr⟩, f⟩ => hk i a w ⟨n, ds, h, m, l, sp, ⟨m1, m2, d, e, ha, hr⟩, f⟩
theorem wJ {A L : List SP} {C : Cx} {k : Act -> World -> Prop} {E : Env} (hk : K C k E (A ++ L)) : K C k E (stars A :: L) :=
 fun a w ⟨n, ds, h, m, l, sp, st, f⟩ => hk a w ⟨n, ds, h, m, l, sp, cj.2 st, f⟩
theorem LSub.ex {ι : Type} {A : ι -> SP} {L L' : List SP} (i : ι) (h : LSub L (A i :: L')) : LSub L (SP.ex A :: L') := fun hh m p =>
 let ⟨m1, m2, d, e, a, r⟩ := h hh m p; ⟨m1, m2, d, e, ⟨i, a⟩, r⟩
theorem LSub.stars {A L L' : List SP} (h : LSub L (A ++ L')) : LSub L (stars A :: L') := fun hh m p => cj.1 (h hh m p)
theorem LSub.trans {A B D : List SP} (h1 : LSub A B) (h2 : LSub B D) : LSub A D := fun h m p => h2 h m (h1 h m p)
theorem Same.putObj (w : World) (g : Nat) (o : Obj) : Same w (w.putObj g o) := ⟨rfl, rfl, rfl⟩
theorem Sep.put {h m r : PH} {w : World} {g : Nat} {o : Obj} (o' : Obj) (d : (PH.one g o).disj m) (s : Sep h ((PH.one g o).join m) r w) : Sep h ((PH.one g o').join m) r (w.putObj g o') :=
 F4 d s (fun _ hne _ => World.putObj_heap_other hne) (World.putObj_heap_same (Array.getElem?_eq_some_iff.1 s.heap_own).1)
section
variable {α : Type} {C : Cx} {x : Operand} {ps : Array Tmp} {assign body : Code} {Q : Exit -> Act -> World -> Prop} {E : Env} {L S R : List SP} {gf : Nat} {As : List Ty} {T : α -> List Ty} {Ok Fin : List α -> Prop}
end
section
variable {α : Type} {P : Program} {fn : Func} {N : Nat} {h0 : PH} {w0 : World} {r : PH} {E : Env} {L : List SP} {Fin : List α -> Prop} {M Mx : List α -> SP} {A : List SP}
end
section
variable {P : Program} {ro : Option Nat} {N : Nat} {h0 : PH} {w0 : World} {r : PH}
theorem LSub.push {A : SP} {B L : List SP} : LSub (A :: Lg.stars B :: L) (Lg.stars (A :: B) :: L) := fun h m ⟨m1, m2, d, e, ha, m3, m4, d3, e3, hb, hl⟩ => by
 subst e; subst e3
 have dd := PH.disj_join'.1 d
 exact ⟨m1.join m3, m4, PH.disj_join.2 ⟨dd.2, d3⟩, (FZ _ _ _).symm, ⟨m1, m3, dd.1, _root_.rfl, ha, hb⟩, hl⟩
end
section
variable {κ β : Type} [DecidableEq κ]
def mget : List (κ × β) -> κ -> Option β
 | [], _ => none
 | (k, x) :: m, q => if q = k then some x else mget m q
def mput : List (κ × β) -> κ -> β -> List (κ × β)
 | [], q, y => [(q, y)]
 | (k, x) :: m, q, y => if q = k then (q, y) :: m else (k, x) :: mput m q y
theorem p7 (m : List (κ × β)) (q : κ) (y : β) (p : κ) : mget (mput m q y) p = if p = q then some y else mget m p := by
 induction m with
 | nil => simp [mput, mget]
 | cons a m ih =>
   obtain ⟨k, x⟩ := a
   by_cases h : q = k
   · subst h; simp only [mput, if_true, mget]; split <;> rfl
   · simp only [mput, if_neg h, mget, ih]
     by_cases h1 : p = k
     · subst h1; simp [Ne.symm h]
     · simp [h1]
theorem lK (m : List (κ × β)) (q : κ) (y : β) : (mput m q y).map (·.1) = if q ∈ m.map (·.1) then m.map (·.1) else m.map (·.1) ++ [q] := by
 induction m with
 | nil => simp [mput]
 | cons a m ih =>
   obtain ⟨k, x⟩ := a
   by_cases h : q = k
   · subst h; simp [mput]
   · have e : mput ((k, x) :: m) q y = (k, x) :: mput m q y := if_neg h
     rw [e]
     simp only [List.map_cons, ih, List.mem_cons, h, false_or]
     split <;> simp
theorem nt (m : List (κ × β)) (q : κ) (y : β) : (mput m q y).length <= m.length + 1 := by
 induction m with
 | nil => simp [mput]
 | cons a m ih =>
   obtain ⟨k, x⟩ := a
   simp only [mput]
   split
   · simp
   · simpa using ih
theorem uN {m : List (κ × β)} (h : (m.map (·.1)).Nodup) (q : κ) (y : β) : ((mput m q y).map (·.1)).Nodup := by
 rw [lK]
 split
 · exact h
 · rename_i hq
   rw [List.nodup_append]
   exact ⟨h, by simp, fun a ha b hb => by simp at hb; subst hb; exact fun e => hq (e ▸ ha)⟩
theorem tt {m : List (κ × β)} (h : (m.map (·.1)).Nodup) {k : κ} {x : β} : mget m k = some x ↔ (k, x) ∈ m := by
 induction m with
 | nil => simp [mget]
 | cons a m ih =>
   obtain ⟨k', x'⟩ := a
   simp only [List.map_cons, List.nodup_cons] at h
   simp only [mget, List.mem_cons, Prod.mk.injEq]
   by_cases e : k = k'
   · subst e
     simp only [if_true, Option.some.injEq, true_and]
     constructor
     · intro e; exact .inl e.symm
     · rintro (e | e)
       · exact e.symm
       · exact absurd (List.mem_map.2 ⟨_, e, rfl⟩) h.1
   · simp [e, ih h.2]
end
def fnd {κ : Type} [DecidableEq κ] (q : κ) : List κ -> List MapEntry -> Nat -> Option (Nat × Value)
 | k :: ks, e :: es, i => if q = k then some (i, e.val) else fnd q ks es (i + 1)
 | _, _, _ => none
structure KeyT {κ : Type} [DecidableEq κ] (P : Program) (kt : Nat) (kv : κ -> Value) : Prop where
 chk : ∀ b a w, (Instr.checkKey b 10000 kt (kv a)).run P w = .ok () w
 find : ∀ (q : κ) (ks : List κ) (es : List MapEntry) w, es.map (·.key) = ks.map kv -> (Instr.findKey kt (kv q) es).run P w = .ok (fnd q ks es 0) w
 bits : ∀ a, Instr.sameBits 10000 (kv a) (kv a) = true
theorem tu {κ : Type} [DecidableEq κ] {P : Program} {kt : Nat} {kv : κ -> Value} {kd : TypeDesc} (h : P.underlying kt = some kd) (hs : ∀ a b, Instr.sameNow kd (kv a) (kv b) = some (decide (a = b))) (q : κ) (ks : List κ) (es : List MapEntry) (w : World) (hk : es.map (·.key) = ks.map kv) :
  (Instr.findKey kt (kv q) es).run P w = .ok (fnd q ks es 0) w := by
 have key : ∀ (ks : List κ) (es : List MapEntry) (i : Nat), es.map (·.key) = ks.map kv -> Instr.findNow kd (kv q) es i = some (fnd q ks es i) := by
  intro ks
  induction ks with
  | nil =>
    intro es i hk
    have : es = [] := by simpa using hk
    subst this; rfl
  | cons k ks ih =>
    intro es i hk
    match es, hk with
    | e :: es, hk =>
      simp only [List.map_cons, List.cons.injEq] at hk
      have := ih es (i + 1) hk.2
      by_cases hq : q = k
      · simp [Instr.findNow, fnd, hk.1, hs, hq]
      · simp [Instr.findNow, fnd, hk.1, hs, hq, this]
 simp [Instr.findKey, Sem.run_bind, run_underlying h, key ks es 0 hk]
theorem KeyT.int {P : Program} {kt : Nat} (h : P.underlying kt = some (.int .i64)) : KeyT P kt (fun n : Int => .int .i64 n) where
 chk := fun b a w => by
  have : ∀ n, (Instr.checkKey b (n + 1) kt (.int .i64 a)).run P w = .ok () w := fun n => by simp [Instr.checkKey, run_underlying h]
  exact this 9999
 find := tu h fun a b => by simp [Instr.sameNow]; rfl
 bits := fun a => by
  have : ∀ n, Instr.sameBits n (.int .i64 a) (.int .i64 a) = true := fun n => by cases n <;> simp [Instr.sameBits]
  exact this _
theorem KeyT.str {P : Program} {kt : Nat} (h : P.underlying kt = some .string) : KeyT P kt (fun s : ByteArray => .string s) where
 chk := fun b a w => by
  have : ∀ n, (Instr.checkKey b (n + 1) kt (.string a)).run P w = .ok () w := fun n => by simp [Instr.checkKey, run_underlying h]
  exact this 9999
 find := tu h fun a b => by simp [Instr.sameNow]; rw [beq_toListBytes, iz]
 bits := fun a => by
  have e : (a == a) = true := by rw [beq_toListBytes, iz]; simp
  have : ∀ n, Instr.sameBits n (.string a) (.string a) = true := fun n => by cases n <;> simp [Instr.sameBits, e]
  exact this _
section
variable {κ β : Type} [DecidableEq κ] (kv : κ -> Value) (R : Rp β)
def entR (h : PH) : List (κ × β) -> List MapEntry -> Nat -> Prop
 | [], [], _ => True
 | (k, x) :: m, e :: es, n => e.key = kv k /\ (R.ty x).p h e.val /\ e.born = n /\ entR h m es (n + 1)
 | _, _, _ => False
def bD (v : Value) (m : List (κ × β)) : SP where
 p := fun h mm => ∃ r es, v = .map (some r) /\ mm = PH.one r (.map (List.toArray es) es.length) /\ entR kv R h m es 0
 mono := fun {h h' mm} l ⟨r, es, e1, e2, e3⟩ => ⟨r, es, e1, e2, by
  have : ∀ (m : List (κ × β)) (es : List MapEntry) (n : Nat), entR kv R h m es n -> entR kv R h' m es n := by
   intro m
   induction m with
   | nil => intro es n q; cases es with
     | nil => trivial
     | cons => exact q.elim
   | cons a m ih => intro es n q; cases es with
     | nil => exact q.elim
     | cons e es => exact ⟨q.1, (R.ty a.2).mono l q.2.1, q.2.2.1, ih es _ q.2.2.2⟩
  exact this _ _ _ e3⟩
end
section
variable {κ β : Type} [DecidableEq κ] {kv : κ -> Value} {R : Rp β} {h : PH}
theorem entR.length : ∀ {m : List (κ × β)} {es : List MapEntry} {n : Nat}, entR kv R h m es n -> es.length = m.length
 | [], [], _, _ => rfl
 | _ :: _, _ :: _, _, q => by simp [q.2.2.2.length]
theorem entR.keys : ∀ {m : List (κ × β)} {es : List MapEntry} {n : Nat}, entR kv R h m es n -> es.map (·.key) = (m.map (·.1)).map kv
 | [], [], _, _ => rfl
 | (k, x) :: m, e :: es, n, q => by simp [q.1, q.2.2.2.keys]
theorem entR.find (q : κ) : ∀ {m : List (κ × β)} {es : List MapEntry} {n i : Nat}, entR kv R h m es n ->
  (mget m q = none /\ fnd q (m.map (·.1)) es i = none /\ ∀ y u, (R.ty y).p h u -> entR kv R h (mput m q y) (es ++ [(⟨kv q, u, n + es.length⟩ : MapEntry)]) n) ∨
  ∃ x j e, mget m q = some x /\ es[j]? = some e /\ e.key = kv q /\ (R.ty x).p h e.val /\ fnd q (m.map (·.1)) es i = some (i + j, e.val) /\ ∀ y u, (R.ty y).p h u -> entR kv R h (mput m q y) (es.modify j fun e => { e with key := kv q, val := u }) n
 | [], [], n, i, _ => .inl ⟨rfl, rfl, fun y u hu => ⟨rfl, hu, rfl, trivial⟩⟩
 | (k, x) :: m, e :: es, n, i, hq => by
   obtain ⟨h1, h2, h3, h4⟩ := hq
   by_cases hk : q = k
   · subst hk
     right
     refine ⟨x, 0, e, by simp [mget], rfl, h1, h2, ?_, fun y u hu => ?_⟩
     · simp [fnd]
     · simp only [mput, if_true]
       exact ⟨rfl, hu, h3, h4⟩
   · rcases entR.find q (i := i + 1) h4 with ⟨a, b, c⟩ | ⟨x', j, e', a, b, c, d, f, g⟩
     · left
       refine ⟨by simp [mget, hk, a], by simp [fnd, hk, b], fun y u hu => ?_⟩
       simp only [mput, if_neg hk]
       refine ⟨h1, h2, h3, ?_⟩
       have := c y u hu
       rw [show n + 1 + es.length = n + (e :: es).length from by simp; omega] at this
       exact this
     · right
       refine ⟨x', j + 1, e', by simp [mget, hk, a], by simpa using b, c, d, ?_, fun y u hu => ?_⟩
       · simp [fnd, hk, f]; omega
       · simp only [mput, if_neg hk]
         exact ⟨h1, h2, h3, g y u hu⟩
end
theorem iV {P : Program} {w : World} {r : Nat} {es : Array MapEntry} {c : Nat} (o : Obj) (h : w.heap[r]? = some (.map es c)) : (setObj r o).run P w = .ok () (w.putObj r o) := by simp [setObj, Sem.run, h, World.putObj]
theorem cQ {P : Program} {w : World} {r : Nat} {es : Array MapEntry} {c : Nat} (h : w.heap[r]? = some (.map es c)) : (getObj r).run P w = .ok (.map es c) w := by simp [getObj, Sem.run, h]
section
variable {κ β : Type} [DecidableEq κ] {kv : κ -> Value} {R : Rp β}
variable {C : Cx} {E : Env} {L : List SP} {d : Option Nat} {ty : Nat} {pos : String} {af : Array Edge} {g : Option (Nat × Bool)}
theorem kZ {T : Nat} : Step C ⟨d, .makeMap T none, ty, pos, af, g⟩ E L (fun v : Value => tV v) (fun v => bD kv R v ([] : List (κ × β)) :: L) :=
 FQ (by intro c h; cases h) fun a w h m l sp st fr => by
  refine ⟨.map (some w.heap.size), .map (some w.heap.size), w.alloc (.map #[] 0), h, (PH.one w.heap.size (.map #[] 0)).join m, ?_, HL.own _, sp.allocOwn _, ?_, rfl⟩
  · simp [execOp, Instr.makeMap, run_newObj_alloc]
  · exact ⟨_, m, FU (FV sp.mw _), rfl, ⟨w.heap.size, [], rfl, rfl, trivial⟩, st⟩
theorem iA {P : Program} {T kt e : Nat} (K : KeyT P kt kv) (hu : P.underlying T = some (.map kt e)) {z : β} {zv : Value} (hz : ∀ w, (zeroValue e).run P w = .ok zv w) (hzr : ∀ h, (R.ty z).p h zv) {w : World} {h : PH} {v : Value} {m : List (κ × β)} {m1 : PH}
  (ho : (bD kv R v m).p h m1) (hw : m1.inw w) (q : κ) (ok : Bool) :
  ∃ u, (R.ty ((mget m q).getD z)).p h u /\ (Instr.lookup T v (kv q) ok).run P w = .ok (if ok then .tuple #[u, .bool (mget m q).isSome] else u) w := by
 obtain ⟨r, es, rfl, rfl, hr⟩ := ho
 have hchk := K.chk
 have hfk := K.find q _ es w hr.keys
 have hb := hw _ _ (F3 r _)
 rcases hr.find q (i := 0) with ⟨a, b, _⟩ | ⟨x, j, e', a, _, _, dd, f, _⟩
 · refine ⟨zv, by rw [a]; exact hzr h, ?_⟩
   rw [b] at hfk
   simp only [Instr.lookup, run_underlying hu, Sem.run_bind, Result.andThen, cQ hb, hchk, hfk, hz, a]
   cases ok <;> simp [Sem.run_bind, run_underlying hu, hb, hchk, hfk, hz, cQ hb]
 · refine ⟨e'.val, by rw [a]; exact dd, ?_⟩
   rw [f] at hfk
   simp only [Instr.lookup, run_underlying hu, Sem.run_bind, Result.andThen, cQ hb, hchk, hfk, a]
   cases ok <;> simp [Sem.run_bind, run_underlying hu, hb, hchk, hfk, cQ hb]
theorem lL {T kt e : Nat} {x y : Operand} {v : Value} {m : List (κ × β)} {S : List SP} {q : κ} {z : β} {zv : Value} (K : KeyT C.P kt kv) (hu : C.P.underlying T = some (.map kt e)) (hz : ∀ w, (zeroValue e).run C.P w = .ok zv w) (hzr : ∀ h, (R.ty z).p h zv)
  (hx : Sub (opTy E x) (tV v)) (hy : Sub (opTy E y) (tV (kv q))) (sel : Sel L [bD kv R v m] S) : a8 C ⟨d, .lookup T x y false, ty, pos, af, g⟩ E L (R.ty ((mget m q).getD z)) :=
 FQ (by intro c h; cases h) fun a w h mm l sp st fr => by
  have h1 : a.eval x = v := fr.get hx
  have h2 : a.eval y = kv q := fr.get hy
  obtain ⟨m1, m2, d12, rfl, ho, s2⟩ := sel.one.1 st
  obtain ⟨u, hu1, hrun⟩ := iA (P := C.P) K hu hz hzr ho (fun b o e => sp.mw _ _ (FM _ _ _ _ e)) q false
  exact ⟨(), u, w, h, _, by simp [execOp, h1, h2, hrun], HL.refl, sp, st, hu1⟩
theorem nu {T kt e : Nat} {x y : Operand} {v : Value} {m : List (κ × β)} {S : List SP} {q : κ} {z : β} {zv : Value} (K : KeyT C.P kt kv) (hu : C.P.underlying T = some (.map kt e)) (hz : ∀ w, (zeroValue e).run C.P w = .ok zv w) (hzr : ∀ h, (R.ty z).p h zv)
  (hx : Sub (opTy E x) (tV v)) (hy : Sub (opTy E y) (tV (kv q))) (sel : Sel L [bD kv R v m] S) : a8 C ⟨d, .lookup T x y true, ty, pos, af, g⟩ E L (fW [R.ty ((mget m q).getD z), tV (.bool (mget m q).isSome)]) :=
 FQ (by intro c h; cases h) fun a w h mm l sp st fr => by
  have h1 : a.eval x = v := fr.get hx
  have h2 : a.eval y = kv q := fr.get hy
  obtain ⟨m1, m2, d12, rfl, ho, s2⟩ := sel.one.1 st
  obtain ⟨u, hu1, hrun⟩ := iA (P := C.P) K hu hz hzr ho (fun b o e => sp.mw _ _ (FM _ _ _ _ e)) q true
  exact ⟨(), _, w, h, _, by simp [execOp, h1, h2, hrun], HL.refl, sp, st, ⟨[u, .bool _], rfl, hu1, rfl, trivial⟩⟩
theorem dc {T kt e : Nat} {x y u : Operand} {v : Value} {m : List (κ × β)} {S : List SP} {q : κ} {z : β} (K : KeyT C.P kt kv) (hu : C.P.underlying T = some (.map kt e))
  (hx : Sub (opTy E x) (tV v)) (hy : Sub (opTy E y) (tV (kv q))) (hz : Sub (opTy E u) (R.ty z)) (sel : Sel L [bD kv R v m] S) :
  Step C ⟨d, .mapUpdate T x y u, ty, pos, af, g⟩ E L (fun _ : Unit => tAny) (fun _ => bD kv R v (mput m q z) :: S) := by
 refine Ga (by intro c h; cases h) fun a w h mm l sp st fr => by
  have h1 : a.eval x = v := fr.get hx
  have h2 : a.eval y = kv q := fr.get hy
  have h3 := fr.get hz
  obtain ⟨m1, m2, d12, rfl, ⟨r, es, rfl, rfl, hr⟩, s2⟩ := sel.one.1 st
  have hchk := K.chk
  have hfk := K.find q _ es w hr.keys
  have hb := sp.heap_own
  rcases hr.find q (i := 0) with ⟨a1, b1, c1⟩ | ⟨x', j, e', a1, b1, c1, dd, f1, g1⟩
  · refine ⟨(), w.putObj r (.map (es ++ [(⟨kv q, a.eval u, es.length⟩ : MapEntry)]).toArray (es.length + 1)), h, (PH.one r (.map (es ++ [(⟨kv q, a.eval u, es.length⟩ : MapEntry)]).toArray (es.length + 1))).join m2, ?_, HL.same (Same.putObj _ _ _), Sep.put _ d12 sp, ?_⟩
    · rw [b1] at hfk
      simp [execOp, Instr.mapUpdate, h1, h2, Sem.run_bind, run_underlying hu, cQ hb, hchk, hfk, iV _ hb]
    · refine ⟨_, m2, PH.one_disj_iff.2 (PH.one_disj_iff.1 d12), rfl, ⟨r, es ++ [(⟨kv q, a.eval u, es.length⟩ : MapEntry)], rfl, by simp, ?_⟩, s2⟩
      have := c1 z _ h3
      rw [Nat.zero_add] at this
      exact this
  · have hold : es.toArray.modify j (fun e => { e with key := kv q, val := a.eval u }) = (es.modify j fun e => { e with key := kv q, val := a.eval u }).toArray := by simp
    refine ⟨(), w.putObj r (.map (es.modify j fun e => { e with key := kv q, val := a.eval u }).toArray es.length), h, (PH.one r (.map (es.modify j fun e => { e with key := kv q, val := a.eval u }).toArray es.length)).join m2, ?_, HL.same (Same.putObj _ _ _), Sep.put _ d12 sp, ?_⟩
    · have hkey : (Instr.keyThatStays (((es.toArray[j]?).map (·.key)).getD (kv q)) (kv q)).run C.P w = .ok (kv q) w := by
        have : ((es.toArray[j]?).map (·.key)).getD (kv q) = kv q := by simp [b1, c1]
        rw [this]; simp [Instr.keyThatStays, K.bits]
      rw [Nat.zero_add] at f1
      rw [f1] at hfk
      rw [<- hold]
      simp [execOp, Instr.mapUpdate, h1, h2, Sem.run_bind, run_underlying hu, cQ hb, hchk, hfk]
      simp [Instr.keyThatStays, b1, c1, K.bits, iV _ hb]
    · exact ⟨_, m2, PH.one_disj_iff.2 (PH.one_disj_iff.1 d12), rfl, ⟨r, _, rfl, by simp, g1 z _ h3⟩, s2⟩
end
theorem Frz.up {α α' β : Type} {b T e : Nat} {fs : List (SF α)} {fs' : List (SF α')} {R : Rp β} {x : α} {y : α'} {v : Value} {a : List β} {S : List SP} (hup : ∀ h h' cs, PH.le h h' -> (tSl R a).p h' v -> SF.rel h x fs cs -> SF.rel h' y fs' cs) :
  Frz (Lg.box b T (aU fs) x :: Lg.own e R v a :: S) (tAt b 0) (bx (aU fs') y) := fun h m u d ⟨m1, m2, d12, e0, ⟨cs, r, e1⟩, hs⟩ hu => by
 subst e0
 have hd := PH.disj_join'.1 d
 have hvo : v.oneCell' = true := by
  obtain ⟨m3, m4, _, _, ho, _⟩ := hs
  rcases ho with ⟨rfl, _⟩ | ⟨g, cap, cur, rfl, _⟩ <;> rfl
 have hv := Frz.own (S := S) h m2 v hd.2 hs ⟨rfl, hvo⟩
 have hle : (h.join m2).le (h.join (m1.join m2)) := fun b o e => by
  simp only [PH.join] at e ⊢
  cases hb : h b with
  | some x => rw [hb] at e; exact e
  | none =>
    rw [hb] at e
    have := FO d12 b o e
    simp only [PH.join] at this
    exact this
 have r' := hup h (h.join (m1.join m2)) cs (FM _ _) ((tSl R a).mono hle hv) r
 subst e1
 exact ⟨b, 0, cs, hu, ⟨cs.toArray, T, (0, 0), FO d _ _ (FM _ _ _ _ (F3 _ _)), fun i u hu => by simpa using hu⟩, r'⟩
theorem F9 {v : Value} : Sub (Lg.rV.ty v) (tV v) := fun _ _ e => e.1
section
variable {C : Cx} {E : Env} {L : List SP} {d : Option Nat} {ty : Nat} {pos : String} {af : Array Edge} {g : Option (Nat × Bool)}
theorem gY {α β : Type} {T U b : Nat} {R : Rp α} {R' : Rp β} {x v : Operand} {y : α} {z : β} {S : List SP} (hR : TyOf C.P T R') (hk : R'.k = R.k) (hx : Sub (opTy E x) (tAt b 0)) (hv : Sub (opTy E v) (R'.ty z)) (sel : Sel L [box b U R y] S) :
  Step C ⟨d, .store T x v, ty, pos, af, g⟩ E L (fun _ : Unit => tAny) (fun _ => box b U R' z :: S) :=
 Ga (by intro c h; cases h) fun a w h m l sp st fr => by
  obtain ⟨m1, m2, d12, rfl, ⟨cs, r, rfl⟩, s2⟩ := sel.one.1 st
  have hb := sp.heap_own
  have r' := R'.cells (fr.get hv)
  have hp : a.eval x = .pointer (some ⟨b, 0, none⟩) := fr.get hx
  obtain ⟨w', hrun, hoth, hsame, hnew⟩ := cr (P := C.P) (b := b) (o := 0) (v := a.eval v) hR.size (by simpa using R'.len r') hb (by simp [R.len r, hk]) (R'.one r')
  have hd : List.drop R'.k cs = [] := by simp [R.len r, hk]
  refine ⟨(), w', h, (PH.one b (.cells (a.eval v).cells U (0, 0))).join m2, ?_, HL.same hsame, F4 d12 sp (fun b' hne _ => hoth b' hne) (by rw [hnew]; simp [hd]), ?_⟩
  · simp [execOp, Instr.storeAt, Instr.sureAddr, hp, hrun]
  · exact ⟨_, m2, PH.one_disj_iff.2 (PH.one_disj_iff.1 d12), rfl, ⟨_, r', by simp⟩, s2⟩
end
abbrev kvI : Int -> Value := fun n => .int .i64 n
abbrev kvS : ByteArray -> Value := fun s => .string s
abbrev Ent := List (Int × (Value × List Int))
def hdr (m : Ent) : List (Int × Value) := m.map fun p => (p.1, p.2.1)
def rows (m : Ent) : List SP := m.map fun p => own 3 aO p.2.1 p.2.2
def aA (s : ByteArray) : List Int := s.data.toList.map fun b => (b.toNat : Int)
def ef (xs : List Int) : ByteArray := ⟨(xs.map fun n => UInt8.ofNat n.toNat).toArray⟩
theorem cE (s : ByteArray) : (aA s).length = s.size := by unfold aA; rw [List.length_map]; rfl
theorem f7 {h : PH} : ∀ {xs : List Int} {cs : List Value}, relAll rU8 h xs cs ↔ cs = xs.map (.int .u8 ·)
 | [], cs => Iff.rfl
 | x :: xs, cs => by
   constructor
   · rintro ⟨c1, c2, rfl, r1, r2⟩
     have r1 : c1 = [.int .u8 x] := r1
     rw [f7.1 r2, r1]; rfl
   · rintro rfl
     exact ⟨[.int .u8 x], xs.map (.int .u8 ·), rfl, rfl, f7.2 rfl⟩
section
variable {P : Program} (w : World)
end
section
variable {C : Cx} {E : Env} {L : List SP} {d : Option Nat} {ty : Nat} {pos : String} {af : Array Edge} {g : Option (Nat × Bool)}
theorem uO (xs : List Int) (r : ByteArray) : xs.foldl (fun r n => r.push (UInt8.ofNat n.toNat)) r = ⟨r.data ++ (xs.map fun n => UInt8.ofNat n.toNat).toArray⟩ := by
 induction xs generalizing r with
 | nil => simp
 | cons x xs ih => rw [List.foldl_cons, ih]; simp [ByteArray.push]
theorem eI {T U e : Nat} {x : Operand} {v : Value} {xs : List Int} {S : List SP} (hu : C.P.underlying T = some (.slice e)) (he : C.P.underlying e = some (.int .u8)) (hs : C.P.underlying U = some .string)
  (hx : Sub (opTy E x) (rV.ty v)) (sel : Sel L [own e rU8 v xs] S) : a8 C ⟨d, .convert T U x, ty, pos, af, g⟩ E L (tV (.string (ef xs))) :=
 FQ (by intro c h; cases h) fun a w h m l sp st fr => by
  have hv : a.eval x = v := (fr.get hx).1
  have st0 := st
  obtain ⟨m1, m2, d12, rfl, ho, s2⟩ := sel.one.1 st
  rcases ho with ⟨rfl, rfl, rfl⟩ | ⟨b', cap, cur, rfl, rfl, hlc, hcm, hcs, hr⟩
  · refine ⟨(), .string (ef []), w, h, _, ?_, HL.refl, sp, st0, rfl⟩
    simp [execOp, convert, hv, run_underlying hu, run_underlying he, run_underlying hs, Conv.bytesToString]
    rfl
  · have hkr : rU8.k = 1 := rfl
    rw [hkr, Nat.mul_one] at hcs hr
    rw [f7] at hr
    have hb' := sp.heap_own
    have hl := run_loadCells_list (P := C.P) (w := w) ⟨b', 0, none⟩ (xs.map (Value.int .u8 ·)) (fun j u hu' => by
     rw [ce, Nat.zero_add, c8 (h := h) hb']
     rw [<- hr, List.getElem?_take] at hu'
     split at hu'
     · simpa using hu'
     · cases hu')
    rw [List.length_map] at hl
    have hrun := run_bytesToString (P := C.P) w ⟨b', 0, none⟩ xs.length cap xs hl
    rw [uO] at hrun
    refine ⟨(), .string (ef xs), w, h, _, ?_, HL.refl, sp, st0, rfl⟩
    simp only [execOp, convert, hv, Sem.run_bind, run_underlying hu, run_underlying he, run_underlying hs, Result.andThen_ok, hrun]
    simp [ef]
theorem gN {T U : Nat} {x : Operand} {k k' : IntKind} {n m : Int} {td : TypeDesc} (ht : C.P.underlying T = some td) (hu : C.P.underlying U = some (.int k')) (hx : Sub (opTy E x) (tV (.int k n))) (hw : k'.wrap n = m) :
  a8 C ⟨d, .convert T U x, ty, pos, af, g⟩ E L (tV (.int k' m)) :=
 FP (by intro c h; cases h) fun a w h hh f => by
  have hv : a.eval x = .int k n := f.get hx
  refine ⟨.int k' m, ?_, rfl⟩
  simp [execOp, convert, hv, run_underlying ht, run_underlying hu, Conv.intToInt, hw]
end
section
variable {C : Cx} {E : Env} {L : List SP} {d : Option Nat} {ty : Nat} {pos : String} {af : Array Edge} {g : Option (Nat × Bool)}
theorem uP {T U : Nat} {op : BinOp} {x y : Operand} {k yk : IntKind} {a b : Int} {v : Value} (hop : op = .shl \/ op = .shr) (hx : Sub (opTy E x) (tV (.int k a))) (hy : Sub (opTy E y) (tV (.int yk b)))
  (hr : ∀ P w, (Op.shift op k a yk b).run P w = .ok v w) : a8 C ⟨d, .binOp op T x y U, ty, pos, af, g⟩ E L (tV v) :=
 FP (by intro c h; cases h) fun ac w h hw f => ⟨v, by
  have h1 : ac.eval x = .int k a := f.get hx
  have h2 : ac.eval y = .int yk b := f.get hy
  have he : ∀ w, (eqGuard op T x y (.int k a) (.int yk b)).run C.P w = .ok () w := by intro w; rcases hop with rfl | rfl <;> simp [eqGuard]
  have hb : binOp op T (.int k a) (.int yk b) = Op.shift op k a yk b := by rcases hop with rfl | rfl <;> rfl
  simp [execOp, h1, h2, Sem.run_bind, he, hb, hr], rfl⟩
theorem eO {κ β : Type} [DecidableEq κ] {kv : κ -> Value} {R : Rp β} {T : Nat} : Step C ⟨d, .makeMap T none, ty, pos, af, g⟩ E L (fun v : Value => rV.ty v) (fun v => bD kv R v ([] : List (κ × β)) :: L) :=
 FQ (by intro c h; cases h) fun a w h m l sp st fr => by
  refine ⟨.map (some w.heap.size), .map (some w.heap.size), w.alloc (.map #[] 0), h, (PH.one w.heap.size (.map #[] 0)).join m, ?_, HL.own _, sp.allocOwn _, ?_, ⟨rfl, rfl⟩⟩
  · simp [execOp, Instr.makeMap, run_newObj_alloc]
  · exact ⟨_, m, FU (FV sp.mw _), rfl, ⟨w.heap.size, [], rfl, rfl, trivial⟩, st⟩
end
theorem kj {h : PH} : ∀ {xs : List Int} {cs : List Value}, relAll aO h xs cs ↔ cs = xs.map (.int .i64 ·)
 | [], cs => Iff.rfl
 | x :: xs, cs => by
   constructor
   · rintro ⟨c1, c2, rfl, r1, r2⟩
     have r1 : c1 = [.int .i64 x] := r1
     rw [kj.1 r2, r1]; rfl
   · rintro rfl
     exact ⟨[.int .i64 x], xs.map (.int .i64 ·), rfl, rfl, kj.2 rfl⟩
section
variable {C : Cx} {E : Env} {L : List SP} {d : Option Nat} {ty : Nat} {pos : String} {af : Array Edge} {g : Option (Nat × Bool)}
end
def cF (W : World) : PH := fun b => W.heap[b]?
theorem uQ (W : World) : (cF W).inw W := fun _ _ e => e
theorem TyOf.cells {α : Type} {P : Program} {T : Nat} {R : Rp α} (h : TyOf P T R) (W : World) : P.cellsOf T = R.k := by
 have h1 := h.size W
 cases hi : P.info? T with
 | none => simp [Go.sizeOf, typeInfo, hi] at h1
 | some i =>
   rw [run_sizeOf W hi] at h1
   injection h1
section
variable {H : Type} {enc : TypeId × Value -> H} {P : Program} {W : World}
structure Rd {α H : Type} (enc : TypeId × Value -> H) (P : Program) (W : World) (t : Nat) (R : Rp α) : Prop where
 k : P.cellsOf t = R.k
 rd : ∀ fuel cs x, DataW.trod enc P W 0 (fun _ => true) true fuel t cs = some x -> ∃ y, R.rel (cF W) y cs
theorem Rd.int {t : Nat} (hT : TyOf P t aO) (hu : P.underlying t = some (.int .i64)) : Rd enc P W t aO where
 k := hT.cells W
 rd := fun _ _ _ h => by
  obtain ⟨n, rfl, _, _⟩ := DataW.trod_int hu h
  exact ⟨n, rfl⟩
theorem Rd.str {t : Nat} (hT : TyOf P t d5) (hu : P.underlying t = some .string) : Rd enc P W t d5 where
 k := hT.cells W
 rd := fun _ _ _ h => by
  obtain ⟨n, rfl, _, _⟩ := DataW.trod_string hu h
  exact ⟨n, rfl⟩
theorem nP {b off k : Nat} {cs : List Value} (hk : 0 < k) (hl : cs.length = k) (hc : ∀ j, j < k -> W.cell? ⟨b, off + j, none⟩ = cs[j]?) : Holds (cF W) b off cs := by
 have h0 := hc 0 hk
 have h0' : cs[0]? = some (cs[0]'(by omega)) := List.getElem?_eq_getElem (by omega)
 rw [h0'] at h0
 unfold World.cell? at h0
 simp only at h0
 split at h0
 · rename_i c e fr hb
   refine ⟨c, e, fr, hb, fun j v hv => ?_⟩
   have hj : j < k := by have := (List.getElem?_eq_some_iff.1 hv).1; omega
   have h1 := hc j hj
   unfold World.cell? at h1
   simp only [hb] at h1
   simpa [hv] using h1
 · cases h0
theorem Rd.sl {α : Type} {t e : Nat} {R : Rp α} (hT : TyOf P t (rSl R)) (hu : P.underlying t = some (.slice e)) (hR : Rd enc P W e R) (hk : 0 < R.k) : Rd enc P W t (rSl R) where
 k := hT.cells W
 rd := fun fuel cs x h => by
  rcases DataW.trod_slice hu h with ⟨rfl, _⟩ | ⟨a, len, cap, elems, rest, n, _, rfl, _, _, hlc, _, hlen, hel, _, _⟩
  · exact ⟨[], _, rfl, none, ⟨0, Nat.le_refl _⟩, rfl, fun q => absurd rfl q⟩
  have hall : ∀ i : Fin len, ∃ y cs, W.cells? 0 (a.add (i.1 * R.k)) R.k = some cs /\ R.rel (cF W) y cs := fun i => by
   have h1 := hel i.1 i.2
   rw [List.getElem?_eq_getElem (by omega : i.1 < elems.length), Option.bind_eq_some_iff] at h1
   obtain ⟨cs, h2, h3⟩ := h1
   obtain ⟨y, hy⟩ := hR.rd _ _ _ h3
   rw [hR.k] at h2
   exact ⟨y, cs, h2, hy⟩
  let f : Fin len -> α := fun i => Classical.choose (hall i)
  have hf : ∀ i : Fin len, ∃ cs, W.cells? 0 (a.add (i.1 * R.k)) R.k = some cs /\ R.rel (cF W) (f i) cs := fun i => Classical.choose_spec (hall i)
  refine ⟨List.ofFn f, _, rfl, some a, ⟨cap, by rw [List.length_ofFn]; exact hlc⟩, by show Value.slice (some a) len cap = Value.slice (some a) (List.ofFn f).length cap; rw [List.length_ofFn], fun hne => ?_⟩
  have hl0 : 0 < len := by
   rcases Nat.eq_zero_or_pos len with h0 | h0
   · exfalso; apply hne; subst h0; simp
   · exact h0
  have hsp : a.spot = none := by
   obtain ⟨cs, h1, h2⟩ := hf ⟨0, hl0⟩
   obtain ⟨_, h3, h4⟩ := World.cells?_some h1
   have h5 := h4 0 hk
   rw [List.getElem?_eq_getElem (by omega : 0 < cs.length)] at h5
   have h6 : (a.add (0 * R.k)).add 0 = a := by simp [Addr.add]
   rw [h6] at h5
   exact World.cell?_spot h5
  obtain ⟨b, off, sp⟩ := a
  simp only at hsp
  subst hsp
  refine ⟨b, off, rfl, fun i y hy => ?_⟩
  have hi : i < len := by have := (List.getElem?_eq_some_iff.1 hy).1; simpa using this
  have hy' : f ⟨i, hi⟩ = y := by
   rw [List.getElem?_eq_getElem (by simpa using hi)] at hy
   simpa using hy
  obtain ⟨cs, h1, h2⟩ := hf ⟨i, hi⟩
  obtain ⟨_, h3, h4⟩ := World.cells?_some h1
  rw [hy'] at h2
  refine ⟨cs, nP hk h3 fun j hj => ?_, h2⟩
  have := h4 j hj
  simp only [ce] at this
  exact this
theorem Gb {α : Type} {h : PH} {x : α} : ∀ {fs : List (SF α)} {cs : List Value}, cs.length = SF.width fs -> (∀ (i : Nat) (f : SF α), fs[i]? = some f -> f.R.rel h (f.get x) ((cs.drop (SF.off fs i)).take f.R.k)) -> SF.rel h x fs cs
 | [], cs, hl, _ => List.eq_nil_of_length_eq_zero hl
 | f :: fs, cs, hl, hr => by
   refine ⟨cs.take f.R.k, cs.drop f.R.k, (List.take_append_drop _ _).symm, by simpa [SF.off] using hr 0 f rfl, Gb (by simp [hl, SF.width]) fun i g hg => ?_⟩
   have := hr (i + 1) g (by simpa using hg)
   simpa [SF.off, List.drop_drop] using this
theorem dQ {α : Type} {t : Nat} {fs : List (SF α)} (S : StructOf P t fs) {fuel : Nat} {cs : List Value} {x : DataW H × List MemPlace} (h : DataW.trod enc P W 0 (fun _ => true) true fuel t cs = some x) :
  cs.length = SF.width fs /\ ∀ (i : Nat) (f : SF α), fs[i]? = some f -> ∃ n z, DataW.trod enc P W 0 (fun _ => true) true n f.T ((cs.drop (SF.off fs i)).take f.R.k) = some z := by
 obtain ⟨fls, hu, hl⟩ := S.lays
 obtain ⟨xs, n, _, _, hlen, hxs, hf⟩ := DataW.trod_struct hu h
 refine ⟨hlen.trans (S.ty.cells W), fun i f hi => ?_⟩
 obtain ⟨fl, h1, h2, h3, h4, _⟩ := hl.get hi
 have h1' : fls[i]? = some fl := by simpa using h1
 have h5 := hf i fl h1'
 have hlt : i < xs.length := by rw [hxs]; exact (Array.getElem?_eq_some_iff.1 h1').1
 rw [List.getElem?_eq_getElem hlt, h2, h3, h4.cells W, Nat.zero_add] at h5
 exact ⟨n, _, h5⟩
theorem Rd.at {α β : Type} {t : Nat} {fs : List (SF α)} {cs : List Value} {i : Nat} {T : Nat} {R : Rp β} {get : α -> β} (hf : ∀ (i : Nat) (f : SF α), fs[i]? = some f -> ∃ n z, DataW.trod enc P W 0 (fun _ => true) true n f.T ((cs.drop (SF.off fs i)).take f.R.k) = some z)
  (hR : Rd enc P W T R) (hi : fs[i]? = some ⟨β, T, R, get⟩) : ∃ y, R.rel (cF W) y ((cs.drop (SF.off fs i)).take R.k) := by
 obtain ⟨n, z, h⟩ := hf i _ hi
 exact hR.rd _ _ _ h
end
theorem zn {W W' : World} {h' : PH} (hl : (cF W).le h') (hw : h'.inw W') (s : Same W W') : Go.RowKit.Below W.heap.size W W' where
 os := s.os
 tape := s.tape
 output := s.output
 size := by
  rcases Nat.eq_zero_or_pos W.heap.size with h0 | h0
  · omega
  · have h1 : W.heap[W.heap.size - 1]? = some (W.heap[W.heap.size - 1]'(by omega)) := Array.getElem?_eq_getElem (by omega)
    have h2 := hw _ _ (hl _ _ h1)
    have := (Array.getElem?_eq_some_iff.1 h2).1
    omega
 block := fun k hk => by
  have h1 : W.heap[k]? = some (W.heap[k]'hk) := Array.getElem?_eq_getElem hk
  rw [h1]
  exact hw _ _ (hl _ _ h1)
end Lg
