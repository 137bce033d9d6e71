/- A part of the proofs of the laws of cleanselaw26: contracts of functions that the law reaches, and facts about what they compute. -/
import Derived.Test.YtabonjploobnnaaGreatDoorA
import Derived.RangeFuncNested
import Derived.Maps.RangeRun
import Derived.Laws.BytesString
import Derived.Laws.Strings2
import Derived.Laws.Entries
import Derived.ChangeArms
import Derived.ChangeKeysEq
import Derived.WideShapes
import Derived.Carry
import Derived.Laws.StructEq
import Derived.Shelf.Small.Strs
import Derived.Lib.SliceRun
import Derived.Lib.ConvBytes
import Derived.Lib.LazyBuf
set_option linter.unusedVariables false
set_option linter.unusedSimpArgs false
set_option linter.unusedSectionVars false
namespace Lg
open Go
/-! ### Assertions with ghosts -/
def SP.ex {ι : Type} (A : ι → SP) : SP := ⟨fun h m => ∃ i, (A i).p h m, fun l ⟨i, a⟩ => ⟨i, (A i).mono l a⟩⟩
def SP.pure (φ : Prop) : SP := ⟨fun _ m => φ ∧ m = PH.emp, fun _ e => e⟩
theorem K_ex {ι : Type} {A : ι → SP} {C : Cx} {k : Act → World → Prop} {E : Env} {L : List SP} (hk : ∀ i, K C k E (A i :: L)) : K C k E (SP.ex A :: L) :=
  fun a w ⟨n, ds, h, m, l, sp, ⟨m1, m2, d, e, ⟨i, ha⟩, hr⟩, f⟩ => hk i a w ⟨n, ds, h, m, l, sp, ⟨m1, m2, d, e, ha, hr⟩, f⟩
theorem K_pure {φ : Prop} {C : Cx} {k : Act → World → Prop} {E : Env} {L : List SP} (hk : φ → K C k E L) : K C k E (SP.pure φ :: L) :=
  fun a w ⟨n, ds, h, m, l, sp, ⟨m1, m2, d, e, ⟨hp, e1⟩, hr⟩, f⟩ => by
    subst e1; rw [PH.emp_join] at e; subst e
    exact hk hp a w ⟨n, ds, h, _, l, sp, hr, f⟩
theorem K_stars {A L : List SP} {C : Cx} {k : Act → World → Prop} {E : Env} (hk : K C k E (A ++ L)) : K C k E (stars A :: L) :=
  fun a w ⟨n, ds, h, m, l, sp, st, f⟩ => hk a w ⟨n, ds, h, m, l, sp, stars_append.2 st, f⟩
theorem LSub.ex {ι : Type} {A : ι → SP} {L L' : List SP} (i : ι) (h : LSub L (A i :: L')) : LSub L (SP.ex A :: L') := fun hh m p =>
  let ⟨m1, m2, d, e, a, r⟩ := h hh m p; ⟨m1, m2, d, e, ⟨i, a⟩, r⟩
theorem LSub.pure {φ : Prop} {L L' : List SP} (hp : φ) (h : LSub L L') : LSub L (SP.pure φ :: L') := fun hh m p =>
  ⟨PH.emp, m, PH.disj_emp_left m, (PH.emp_join m).symm, ⟨hp, _root_.rfl⟩, h hh m p⟩
theorem LSub.stars {A L L' : List SP} (h : LSub L (A ++ L')) : LSub L (stars A :: L') := fun hh m p => stars_append.1 (h hh m p)
theorem LSub.trans {A B D : List SP} (h1 : LSub A B) (h2 : LSub B D) : LSub A D := fun h m p => h2 h m (h1 h m p)
theorem roundIn_fw {ro ro' : Option Nat} {n n' : Nat} {P : Program} {l : Nat} {f : FuncId} {tmps : Array Value} {assign body : Code} {w : World} {R : Ending → World → Prop}
    (h : RoundIn (Fw ro) n P l f tmps assign body w R) : RoundIn (Fw ro') n' P l f tmps assign body w R :=
  ⟨trivial, fun c cs _ => h.2 c cs (Fw_room ro _)⟩
theorem callsIn_fw {ro ro' : Option Nat} {n n' : Nat} {P : Program} {f : FuncId} {args : Array Value} {w : World} {R : Ending → World → Prop}
    (h : CallsIn (Fw ro) n P f args w R) : CallsIn (Fw ro') n' P f args w R :=
  ⟨trivial, fun cs _ => h.2 cs (Fw_room ro _)⟩
/-! ### A function value that takes what is yielded -/
/-- v takes the elements x (of argument types T x): after those of pre, own memory is M pre; where it stops, Mx. Ok says which beginnings may come. -/
def tYield {α : Type} (P : Program) (T : α → List Ty) (Ok : List α → Prop) (M Mx : List α → SP) : Ty where
  p := fun h v => ∃ l, v = .func (.yield l) #[] #[] ∧ ∀ (h' : PH), h.le h' → ∀ (pre : List α) (x : α) (vs : List Value) (m r : PH) (w : World), Ok (pre ++ [x]) → Args h' (T x) vs → Sep h' m r w → (M pre).p h' m →
    ∃ fn tmps assign body, (Instr.yield l vs.toArray).run P w = .ok (.round l fn tmps assign body) w ∧
      RoundIn (Fw none) 0 P l fn tmps assign body w fun e w' => ∃ b h'' m', e = .returned (.bool b) ∧ HL h' w h'' w' ∧ Sep h'' m' r w' ∧ (if b then M (pre ++ [x]) else Mx (pre ++ [x])).p h'' m'
  mono := fun l ⟨b, e, H⟩ => ⟨b, e, fun h' l' => H h' (PH.le_trans l l')⟩
/-- g is a function of an iterator that has captured values of types As. -/
def ItSpec {α : Type} (P : Program) (g : Nat) (As : List Ty) (A : List SP) (T : α → List Ty) (Ok Fin : List α → Prop) : Prop :=
  ∀ (M Mx : List α → SP), Spec (X := { z : Bool × List α // z.1 = false → Fin z.2 }) P g (tYield P T Ok M Mx :: As) (M [] :: A) (fun _ => tTup []) (fun z => (if z.1.1 then Mx z.1.2 else M z.1.2) :: A)
theorem step_yield {α : Type} {C : Cx} {E : Env} {L S : List SP} {d : Option Nat} {ty : Nat} {pos : String} {af : Array Edge} {g : Option (Nat × Bool)} {x : Operand} {xs : Array Operand} {ts : Array Nat} {T : α → List Ty} {Ok : List α → Prop} {M Mx : List α → SP} {pre : List α} {y : α}
    (hx : Sub (opTy E x) (tYield C.P T Ok M Mx)) (hok : Ok (pre ++ [y])) (ha : ArgsE E xs.toList (T y)) (sel : Sel L [M pre] S) :
    Step C ⟨d, .call { callee := .value x, args := xs, argTypes := ts }, ty, pos, af, g⟩ E L (fun b : Bool => tV (.bool b)) (fun b => (if b then M (pre ++ [y]) else Mx (pre ++ [y])) :: S) := fun a w h m n l se st fr next Q hk => by
  obtain ⟨m1, m2, d12, rfl, s1, s2⟩ := sel.one.1 st
  obtain ⟨lp, hv, H⟩ := fr.get hx
  have hd := PH.disj_join'.1 se.hm
  have hr := PH.disj_join.1 se.mr
  obtain ⟨fn, tmps, assign, body, hy, hround⟩ := H h (PH.le_refl h) pre y _ m1 (m2.join C.r) w hok (ha.args fr)
    ⟨(by first | exact Sep.inv (by assumption) | exact Inv.mono (PH.le_join_left _ _) (Sep.inv (by assumption))), hd.1, PH.disj_join'.2 ⟨hd.2, se.hr⟩, PH.disj_join'.2 ⟨d12, hr.1⟩, se.hw, fun b o e => se.mw _ _ (PH.le_join_left _ _ _ _ e), PH.join_inw (fun b o e => se.mw _ _ (PH.le_join_right d12 _ _ e)) se.rw⟩ s1
  refine ⟨fun _ _ => trivial, ?_⟩
  rw [Fw_round, Oper.semAt_eq _ _ _ (by intro c h; cases h)]
  have hrun : (execOp a.eval ⟨d, .call { callee := .value x, args := xs, argTypes := ts }, ty, pos, af, g⟩).run C.P w = .ok (.round lp fn tmps assign body) w := by
    simp only [execOp, resolve, hv, Deferred.ofValue]
    have e : (xs.toList.map a.eval).toArray = xs.map a.eval := by rw [← Array.toList_map]
    rw [e] at hy
    simp [invoke, hy]
  rw [hrun]
  refine ⟨by simp, roundIn_fw (hround.mono ?_)⟩
  rintro e w' ⟨b, h', m', rfl, l', se', hm'⟩
  have e1 := PH.disj_join'.1 se'.hr
  have e2 := PH.disj_join'.1 se'.mr
  exact hk b (.bool b) w' h' (m'.join m2) l' ⟨(by first | exact Sep.inv (by assumption) | exact Inv.mono (PH.le_join_left _ _) (Sep.inv (by assumption))), PH.disj_join'.2 ⟨se'.hm, e1.1⟩, e1.2, PH.disj_join.2 ⟨e2.2, hr.2⟩, se'.hw, PH.join_inw se'.mw (fun b o e => se'.rw _ _ (PH.le_join_left _ _ _ _ e)), fun b o e => se'.rw _ _ (PH.le_join_right hr.2 _ _ e)⟩
    ⟨m', m2, e2.1, rfl, hm', (stars S).mono l'.1 s2⟩ rfl
/-! ### The range over a function -/
/-- The record of a loop, own. -/
def lpB (l : Nat) (rec : Loop) : SP := ⟨fun _ m => m = PH.one l (.loop rec), fun _ e => e⟩
/-- The block for the calls that the rounds defer. -/
def dfB (D : Nat) : SP := ⟨fun _ m => m = PH.one D (.deferred (some [])), fun _ e => e⟩
def markD (D : Nat) : Deferred := { target := .collected D, args := #[] }
def roundEnv (E : Env) : List Nat → List Ty → Env
  | p :: ps, A :: As => roundEnv (upd E p A) ps As
  | _, _ => E
theorem Fr.round {h : PH} {ds ds' : List Deferred} : ∀ {ps : List Nat} {As : List Ty} {vs : List Value} {E : Env} {tmps : Array Value}, (∀ p ∈ ps, p < tmps.size) → Args h As vs → Fr E h { tmps := tmps, defers := ds } →
    Fr (roundEnv E ps As) h { tmps := (ps.zip vs).foldl (fun t (x : Nat × Value) => t.setIfInBounds x.1 x.2) tmps, defers := ds' }
  | [], [], [], E, tmps, _, _, f => fun t => f t
  | [], _ :: _, _ :: _, E, tmps, _, _, f => fun t => f t
  | p :: ps, [], [], E, tmps, _, _, f => fun t => f t
  | p :: ps, A :: As, v :: vs, E, tmps, hp, ⟨h1, h2⟩, f => by
    refine Fr.round (ps := ps) (As := As) (vs := vs) (E := upd E p A) (tmps := tmps.setIfInBounds p v) (ds := ds) (fun q hq => by simpa using hp q (by simp [hq])) h2 ?_
    exact f.put (d := p) (by simpa using hp p (by simp)) h1
theorem foldl_size (l : List (Nat × Value)) (tmps : Array Value) : (l.foldl (fun t (x : Nat × Value) => t.setIfInBounds x.1 x.2) tmps).size = tmps.size := by
  induction l generalizing tmps with
  | nil => rfl
  | cons x l ih => rw [List.foldl_cons, ih]; simp
/-- What a round owes at its end. -/
def RE {α : Type} (l : Nat) (rec : Loop) (h0 : PH) (w0 : World) (r : PH) (M : List α → SP) (Mx : Code → List α → SP) (ys : List α) (e : Ending) (w' : World) : Prop :=
  ∃ b h'' m', e = .returned (.bool b) ∧ HL h0 w0 h'' w' ∧ Sep h'' m' r w' ∧
    (if b then SP.star (lpB l rec) (M ys) else SP.ex fun c => SP.star (lpB l { rec with state := .done, pending := some c }) (Mx c ys)).p h'' m'
/-- Behind the assignments the round begins. -/
def Begin (P : Program) (l : Nat) (body : Code) (Q : Exit → Act → World → Prop) (a : Act) (w : World) : Prop := ∃ w2, (Instr.beginRound l).run P w = .ok () w2 ∧ body.wpIn (Fw (some l)) 0 P Q a w2
theorem Sep.frameL {h m r : PH} {w : World} {l : Nat} {o : Obj} (s : Sep h m ((PH.one l o).join r) w) (d : (PH.one l o).disj r) : Sep h ((PH.one l o).join m) r w := by
  have h1 := PH.disj_join'.1 s.hr
  have h2 := PH.disj_join'.1 s.mr
  exact ⟨(by first | exact Sep.inv (by assumption) | exact Inv.mono (PH.le_join_left _ _) (Sep.inv (by assumption))), PH.disj_join'.2 ⟨h1.1, s.hm⟩, h1.2, PH.disj_join.2 ⟨d, h2.2⟩, s.hw, PH.join_inw (fun b u e => s.rw _ _ (PH.le_join_left _ _ _ _ e)) s.mw, fun b u e => s.rw _ _ (PH.le_join_right d _ _ e)⟩
theorem Same.putObj (w : World) (g : Nat) (o : Obj) : Same w (w.putObj g o) := ⟨rfl, rfl, rfl⟩
theorem Sep.put {h m r : PH} {w : World} {g : Nat} {o : Obj} (o' : Obj) (d : (PH.one g o).disj m) (s : Sep h ((PH.one g o).join m) r w) : Sep h ((PH.one g o').join m) r (w.putObj g o') :=
  Sep.write d s (fun _ hne _ => World.putObj_heap_other hne) (World.putObj_heap_same (Array.getElem?_eq_some_iff.1 s.heap_own).1)
theorem K_begin {P : Program} {l N : Nat} {rec : Loop} {h0 : PH} {w0 : World} {r : PH} {body : Code} {Q : Exit → Act → World → Prop} {E : Env} {L : List SP} (hs : rec.state = .ready) (hd : (PH.one l (.loop rec)).disj r)
    (hk : J ⟨P, some l, N, [], h0, w0, r⟩ body Q E (lpB l { rec with state := .busy } :: L)) : K ⟨P, some l, N, [], h0, w0, (PH.one l (.loop rec)).join r⟩ (Begin P l body Q) E L := fun a w ⟨n, ds, h, m, le, sp, st, f⟩ => by
  have sp' := sp.frameL hd
  have hl := sp'.heap_own
  have dm : (PH.one l (.loop rec)).disj m := PH.disj_symm (PH.disj_join'.1 sp.mr).1
  refine ⟨_, run_beginRound hl hs, hk a _ ⟨n, ds, h, _, le.trans (HL.same (Same.putObj _ _ _)), Sep.put _ dm sp', ⟨PH.one l _, m, PH.one_disj_iff.2 (PH.one_disj_iff.1 dm), rfl, rfl, st⟩, f⟩⟩
theorem K_roundN {α : Type} {P : Program} {l N : Nat} {rec : Loop} {h0 : PH} {w0 : World} {r : PH} {M : List α → SP} {Mx : Code → List α → SP} {ys : List α} {E : Env} {L : List SP} (hr : rec.state = .ready) (hp : rec.pending = none)
    (hL : LSub L [lpB l { rec with state := .busy }, M ys]) : K ⟨P, some l, N, [], h0, w0, r⟩ (roundPost P l (RE l rec h0 w0 r M Mx ys) .normal) E L := fun a w ⟨n, ds, h, m, le, sp, st, f⟩ => by
  obtain ⟨m1, m2, d, rfl, e1, s2⟩ := hL h m st
  obtain ⟨m3, m4, d4, rfl, s3, e4⟩ := s2
  rw [stars_nil] at e4; subst e4
  rw [PH.join_emp] at sp d
  have e1 : m1 = PH.one l (.loop { rec with state := .busy }) := e1
  subst e1
  refine ⟨_, _, run_endRound none sp.heap_own, true, h, _, rfl, le.trans (HL.same (Same.putObj _ _ _)), Sep.put _ d sp, ?_⟩
  refine ⟨_, m3, PH.one_disj_iff.2 (PH.one_disj_iff.1 d), rfl, ?_, s3⟩
  show PH.one l _ = PH.one l _
  congr 2
  cases rec
  simp only at hr hp
  subst hr; subst hp
  rfl
theorem roundX {α : Type} {P : Program} {l N : Nat} {rec : Loop} {h0 : PH} {w0 : World} {r : PH} {M : List α → SP} {Mx : Code → List α → SP} {ys : List α} {E : Env} {L : List SP} (c : Code)
    (hL : LSub L [lpB l { rec with state := .busy }, Mx c ys]) {a : Act} {w : World} (p : Pre ⟨P, some l, N, [], h0, w0, r⟩ E L a w) : ∃ v w', (Instr.endRound l (some c)).run P w = .ok v w' ∧ RE l rec h0 w0 r M Mx ys (.returned v) w' := by
  obtain ⟨n, ds, h, m, le, sp, st, f⟩ := p
  obtain ⟨m1, m2, d, rfl, e1, s2⟩ := hL h m st
  obtain ⟨m3, m4, d4, rfl, s3, e4⟩ := s2
  rw [stars_nil] at e4; subst e4
  rw [PH.join_emp] at sp d
  have e1 : m1 = PH.one l (.loop { rec with state := .busy }) := e1
  subst e1
  exact ⟨_, _, run_endRound (some c) sp.heap_own, false, h, _, rfl, le.trans (HL.same (Same.putObj _ _ _)), Sep.put _ d sp, c, _, m3, PH.one_disj_iff.2 (PH.one_disj_iff.1 d), rfl, rfl, s3⟩
theorem K_roundR {α : Type} {P : Program} {l N : Nat} {rec : Loop} {h0 : PH} {w0 : World} {r : PH} {M : List α → SP} {Mx : Code → List α → SP} {ys : List α} {E : Env} {L : List SP}
    (hL : LSub L [lpB l { rec with state := .busy }, Mx .ret ys]) : K ⟨P, some l, N, [], h0, w0, r⟩ (roundPost P l (RE l rec h0 w0 r M Mx ys) .ret) E L := fun _ _ p => roundX .ret hL p
section
variable {α : Type} {C : Cx} {x : Operand} {ps : Array Tmp} {assign body : Code} {Q : Exit → Act → World → Prop} {E : Env} {L S R : List SP} {gf : Nat} {As : List Ty} {T : α → List Ty} {Ok Fin : List α → Prop}
/-- What is asked of a round. -/
def Round (C : Cx) (ps : Array Tmp) (assign body : Code) (E : Env) (T : α → List Ty) (Ok : List α → Prop) (M : List α → SP) (Mx : Code → List α → SP) : Prop :=
  ∀ (l : Nat) (rec : Loop) (h0 : PH) (w0 : World) (r : PH) (pre : List α) (y : α), C.h0.le h0 → rec.state = .ready → rec.pending = none → (PH.one l (.loop rec)).disj r → Ok (pre ++ [y]) →
    J ⟨C.P, some l, C.N, [], h0, w0, (PH.one l (.loop rec)).join r⟩ assign (Exit.then (Begin C.P l body (roundPost C.P l (RE l rec h0 w0 r M Mx (pre ++ [y])))) (fun _ _ _ => False)) (roundEnv E ps.toList (T y)) [M pre]
theorem zip_foldl (ps : Array Tmp) (vs : List Value) (tmps : Array Value) : (ps.zip vs.toArray).foldl (fun tmps (x : Tmp × Value) => match x with | (t, a) => tmps.setIfInBounds t a) tmps = (ps.toList.zip vs).foldl (fun t (x : Nat × Value) => t.setIfInBounds x.1 x.2) tmps := by
  rw [← Array.foldl_toList]
  congr 1
  simp
theorem yield_round (hps : ∀ y, (T y).length = ps.size) (hN : ∀ p ∈ ps.toList, p < C.N) {M : List α → SP} {Mx : Code → List α → SP} (hround : Round C ps assign body E T Ok M Mx) {fn D : Nat} {a : Act} {h : PH} (hn : a.tmps.size = C.N) (hle : C.h0.le h) (fr : Fr E h a) (l : Nat) {rec : Loop}
    (e1 : rec = { state := .ready, pending := none, fn := fn, tmps := a.tmps, params := ps, assign := assign, body := body, defers := D }) :
    (tYield C.P T Ok (fun xs => SP.star (lpB l rec) (M xs)) (fun xs => SP.ex fun c => SP.star (lpB l { rec with state := .done, pending := some c }) (Mx c xs))).p h (.func (.yield l) #[] #[]) := by
  refine ⟨l, rfl, fun h' l' pre y vs m r w hok ha sp hm => ?_⟩
  obtain ⟨m1, m2, d, rfl, hm1, hm2⟩ := hm
  have hm1 : m1 = PH.one l (.loop rec) := hm1
  subst hm1
  have hl := sp.heap_own
  have hsz : vs.toArray.size = rec.params.size := by rw [e1]; simpa using (ha.length.trans (hps y))
  have hy := run_yield (P := C.P) hl hsz
  have er : rec.params = ps ∧ rec.tmps = a.tmps ∧ rec.assign = assign ∧ rec.body = body ∧ rec.state = .ready ∧ rec.pending = none := by subst e1; exact ⟨rfl, rfl, rfl, rfl, rfl, rfl⟩
  obtain ⟨r1, r2, r3, r4, r5, r6⟩ := er
  rw [r1, r2, r3, r4] at hy
  refine ⟨_, _, _, _, hy, ?_⟩
  have hr := PH.disj_join.1 sp.mr
  refine RoundIn.mono (R := RE l rec h' w r M Mx (pre ++ [y])) (roundIn_of_wpIn (F := Fw none) (n := 0) trivial ?_) ?_
  · have hJ := hround l rec h' w r pre y (PH.le_trans hle l') r5 r6 hr.1 hok
    refine hJ { tmps := _, defers := [] } w ⟨?_, rfl, h', m2, HL.refl, ⟨(by first | exact Sep.inv (by assumption) | exact Inv.mono (PH.le_join_left _ _) (Sep.inv (by assumption))), (PH.disj_join'.1 sp.hm).2, PH.disj_join'.2 ⟨(PH.disj_join'.1 sp.hm).1, sp.hr⟩, PH.disj_join'.2 ⟨PH.disj_symm d, hr.2⟩, sp.hw, fun b o e => sp.mw _ _ (PH.le_join_right d _ _ e),
        PH.join_inw (fun b o e => sp.mw _ _ (PH.le_join_left _ _ _ _ e)) sp.rw⟩, ⟨m2, PH.emp, PH.disj_emp _, (PH.join_emp _).symm, hm2, rfl⟩, ?_⟩
    · show ((ps.zip vs.toArray).foldl _ a.tmps).size = C.N
      rw [zip_foldl, foldl_size]; exact hn
    · have := Fr.round (ds := a.defers) (ds' := []) (fun p hp => by rw [hn]; exact hN p hp) ha (fr.mono l')
      rw [← zip_foldl] at this
      exact this
  · rintro e w' ⟨b, h'', m', rfl, l'', sp', hm'⟩
    exact ⟨b, h'', m', rfl, l'', sp', hm'⟩
theorem Sep.split {L1 L2 : List SP} {h m r : PH} {w : World} (s : Sep h m r w) (st : (stars (L1 ++ L2)).p h m) : ∃ m1 m2, m1.disj m2 ∧ m2.disj r ∧ Sep h m1 (m2.join r) w ∧ (stars L1).p h m1 ∧ (stars L2).p h m2 := by
  obtain ⟨m1, m2, d, rfl, s1, s2⟩ := stars_append.1 st
  have hd := PH.disj_join'.1 s.hm
  have hr := PH.disj_join.1 s.mr
  exact ⟨m1, m2, d, hr.2, ⟨(by first | exact Sep.inv (by assumption) | exact Inv.mono (PH.le_join_left _ _) (Sep.inv (by assumption))), hd.1, PH.disj_join'.2 ⟨hd.2, s.hr⟩, PH.disj_join'.2 ⟨d, hr.1⟩, s.hw, fun b o e => s.mw _ _ (PH.le_join_left _ _ _ _ e), PH.join_inw (fun b o e => s.mw _ _ (PH.le_join_right d _ _ e)) s.rw⟩, s1, s2⟩
theorem Sep.merge {L1 L2 : List SP} {h m1 m2 r : PH} {w : World} (dr : m2.disj r) (s : Sep h m1 (m2.join r) w) (s1 : (stars L1).p h m1) (s2 : (stars L2).p h m2) : Sep h (m1.join m2) r w ∧ (stars (L1 ++ L2)).p h (m1.join m2) := by
  have e1 := PH.disj_join'.1 s.hr
  have e2 := PH.disj_join'.1 s.mr
  exact ⟨⟨(by first | exact Sep.inv (by assumption) | exact Inv.mono (PH.le_join_left _ _) (Sep.inv (by assumption))), PH.disj_join'.2 ⟨s.hm, e1.1⟩, e1.2, PH.disj_join.2 ⟨e2.2, dr⟩, s.hw, PH.join_inw s.mw (fun b o e => s.rw _ _ (PH.le_join_left _ _ _ _ e)), fun b o e => s.rw _ _ (PH.le_join_right dr _ _ e)⟩, stars_append.2 ⟨m1, m2, e2.1, rfl, s1, s2⟩⟩
/-- A block of one's own is new. -/
theorem Sep.newOwn {L : List SP} {h m r : PH} {w : World} (s : Sep h m r w) (st : (stars L).p h m) (o : Obj) {A : SP} (hA : A.p h (PH.one w.heap.size o)) : Sep h ((PH.one w.heap.size o).join m) r (w.alloc o) ∧ (stars (A :: L)).p h ((PH.one w.heap.size o).join m) :=
  ⟨s.allocOwn o, _, m, PH.disj_symm (PH.one_disj_new s.mw _), rfl, hA, st⟩
theorem endLoop_own {P : Program} {l : Nat} {rc : Loop} {X : SP} {L : List SP} {h m r : PH} {w : World} (hst : rc.state ≠ .busy) (s : Sep h m r w) (st : (stars (SP.star (lpB l rc) X :: L)).p h m) :
    ∃ w' h' m', (Instr.endLoop l).run P w = .ok rc.pending w' ∧ HL h w h' w' ∧ Sep h' m' r w' ∧ (stars (X :: L)).p h' m' := by
  obtain ⟨m1, m2, d, rfl, ⟨m3, m4, d34, rfl, e3, hx⟩, hl⟩ := st
  have e3 : m3 = PH.one l (.loop rc) := e3
  subst e3
  have dd := PH.disj_join.1 d
  rw [PH.join_assoc] at s
  have d3 : (PH.one l (.loop rc)).disj (m4.join m2) := PH.disj_join'.2 ⟨d34, dd.1⟩
  have s3 := Sep.put (.loop { rc with state := .exhausted }) d3 s
  have s4 := Sep.freeze (m1 := PH.one l (.loop { rc with state := .exhausted })) (PH.one_disj_iff.2 (PH.one_disj_iff.1 d3)) s3
  exact ⟨_, _, m4.join m2, run_endLoop s.heap_own hst, ⟨PH.le_join_left _ _, Same.putObj _ _ _⟩, s4, ⟨m4, m2, dd.2, rfl, X.mono (PH.le_join_left _ _) hx, (stars L).mono (PH.le_join_left _ _) hl⟩⟩
/-- The call of an iterator, and what the loop does behind it. -/
theorem range_call {A : List SP} {M : List α → SP} {Mx : Code → List α → SP} {l : Nat} {rec : Loop} (hrd : rec.state = .ready) (hpd : rec.pending = none) (it : ItSpec C.P gf As A T Ok Fin) {cap : List Value} {a' : Act} {h m : PH} {w1 : World}
    (hy : (tYield C.P T Ok (fun xs => SP.star (lpB l rec) (M xs)) (fun xs => SP.ex fun c => SP.star (lpB l { rec with state := .done, pending := some c }) (Mx c xs))).p h (.func (.yield l) #[] #[]))
    (hcap : Args h As cap) (sp : Sep h m C.r w1) (st : (stars ((SP.star (lpB l rec) (M []) :: A) ++ R)).p h m)
    (hdone : ∀ xs h' m' w', Fin xs → HL h w1 h' w' → Sep h' m' C.r w' → (stars (M xs :: (A ++ R))).p h' m' → Q .normal a' w')
    (hstop : ∀ c xs h' m' w', HL h w1 h' w' → Sep h' m' C.r w' → (stars (Mx c xs :: (A ++ R))).p h' m' → c.wpIn (Fw C.ro) 0 C.P Q a' w') :
    CallsIn (Fw C.ro) (0 - 1) C.P gf (#[.func (.yield l) #[] #[]] ++ cap.toArray) w1 (rangePost (Fw C.ro) 0 C.P l Q a') := by
  obtain ⟨m1, m2, d12, dr, sp1, s1, s2⟩ := sp.split st
  have hc := it _ _ (.func (.yield l) #[] #[] :: cap) h m1 _ w1 ⟨hy, hcap⟩ sp1 s1
  have hargs : (Value.func (.yield l) #[] #[] :: cap).toArray = #[.func (.yield l) #[] #[]] ++ cap.toArray := by simp
  rw [hargs] at hc
  refine callsIn_fw (ro := none) (n := 0) ((callsIn_wide (n := 0)).2 (hc.mono ?_))
  rintro e w' ⟨⟨⟨b, xs⟩, hfin⟩, v, h', m', rfl, l', sp', st', _⟩
  obtain ⟨sp2, st2⟩ := Sep.merge dr sp' st' ((stars R).mono l'.1 s2)
  cases b with
  | false =>
    obtain ⟨w4, h4, m4, hend, l4, sp4, st4⟩ := endLoop_own (P := C.P) (X := M xs) (rc := rec) (l := l) (by rw [hrd]; simp) sp2 (show (stars (SP.star (lpB l rec) (M xs) :: (A ++ R))).p h' _ from st2)
    refine ⟨rec.pending, w4, hend, ?_⟩
    rw [hpd]
    exact hdone xs h4 m4 w4 (hfin rfl) (l'.trans l4) sp4 st4
  | true =>
    obtain ⟨mx, mr, dx, ex, ⟨c, hx⟩, hr⟩ := (show (stars ((SP.ex fun c => SP.star (lpB l { rec with state := .done, pending := some c }) (Mx c xs)) :: (A ++ R))).p h' _ from st2)
    obtain ⟨w4, h4, m4, hend, l4, sp4, st4⟩ := endLoop_own (P := C.P) (X := Mx c xs) (rc := { rec with state := .done, pending := some c }) (l := l) (L := A ++ R) (by simp) sp2 ⟨mx, mr, dx, ex, hx, hr⟩
    exact ⟨some c, w4, hend, hstop c xs h4 m4 w4 (l'.trans l4) sp4 st4⟩
theorem LSub.mid {B X : SP} {A R : List SP} : LSub (B :: (A ++ (X :: R))) (B :: X :: (A ++ R)) := fun h m ⟨m1, m2, d, e, hb, hr⟩ => by
  obtain ⟨mA, mr, dA, e1, hA, mX, mR, dX, e2, hX, hR⟩ := stars_append.1 hr
  subst e; subst e1; subst e2
  have q := PH.disj_join'.1 d
  have q2 := PH.disj_join'.1 dA
  have q3 := PH.disj_join'.1 q.2
  refine ⟨m1, mX.join (mA.join mR), PH.disj_join'.2 ⟨q3.1, PH.disj_join'.2 ⟨q.1, q3.2⟩⟩, ?_, hb, mX, mA.join mR, PH.disj_join'.2 ⟨PH.disj_symm q2.1, dX⟩, _root_.rfl, hX, stars_append.2 ⟨mA, mR, q2.2, _root_.rfl, hA, hR⟩⟩
  rw [← PH.join_assoc mA mX mR, PH.join_comm q2.1, PH.join_assoc]
/-- The range over a function, outside of rounds. -/
theorem J_range {A : List SP} (M : List α → SP) (Mx : Code → List α → SP) (hro : C.ro = none) (hps : ∀ y, (T y).length = ps.size) (hN' : ps.toList.all (fun p => Nat.blt p C.N) = true) (it : ItSpec C.P gf As A T Ok Fin) (hx : Sub (opTy E x) (tClo gf As)) (he : ∀ args w, (callFunc gf args).run C.P w = .ok (.enter gf args) w)
    (hL : LSub L (M [] :: (A ++ R))) (hround : Round C ps assign body E T Ok M Mx)
    (hdone : ∀ D xs, Fin xs → K ⟨C.P, C.ro, C.N, markD D :: C.ds, C.h0, C.w0, C.r⟩ (Q .normal) E (M xs :: dfB D :: (A ++ R)))
    (hstop : ∀ D c xs, J ⟨C.P, C.ro, C.N, markD D :: C.ds, C.h0, C.w0, C.r⟩ c Q E (Mx c xs :: dfB D :: (A ++ R))) :
    J C (.rangeFunc x ps assign body) Q E L := fun a w ⟨n, ds, h, m, le, sp, st, fr⟩ => by
  have hN : ∀ p ∈ ps.toList, p < C.N := fun p hp => by have := List.all_eq_true.1 hN' p hp; simpa using this
  refine wpIn_rangeFunc ?_
  intro fn _
  rw [Fw_round, hro]
  have st0 := hL h m st
  obtain ⟨cap, hv, hcap⟩ := fr.get hx
  obtain ⟨s1, t1⟩ := sp.newOwn st0 (.deferred (some [])) (A := dfB w.heap.size) rfl
  obtain ⟨s2, t2⟩ := s1.newOwn t1 (.loop { state := .ready, pending := none, fn := fn, tmps := a.tmps, params := ps, assign := assign, body := body, defers := w.heap.size }) (A := lpB (w.heap.size + 1) { state := .ready, pending := none, fn := fn, tmps := a.tmps, params := ps, assign := assign, body := body, defers := w.heap.size }) (by rw [World.size_alloc]; rfl)
  obtain ⟨w1, hw1⟩ : ∃ w1, (w.alloc (.deferred (some []))).alloc (.loop { state := .ready, pending := none, fn := fn, tmps := a.tmps, params := ps, assign := assign, body := body, defers := w.heap.size }) = w1 := ⟨_, rfl⟩
  have hsm : Same w w1 := hw1 ▸ (Same.alloc _ _).trans (Same.alloc _ _)
  refine ⟨w.heap.size + 1, [markD w.heap.size], w1, { target := .fn (.func gf) cap.toArray, args := #[.func (.yield (w.heap.size + 1)) #[] #[]] }, w1, gf, #[.func (.yield (w.heap.size + 1)) #[] #[]] ++ cap.toArray, w1, hw1 ▸ run_enterLoop_outer _ _ _ _ _, ?_, fun _ _ => trivial, ?_, by simp, ?_⟩
  · simp only [resolve, hv]
    simp [go_sem]
  · simp [invoke, he]
  · rw [hw1] at s2
    have hy := yield_round hps hN hround (a := a) n le.1 fr (w.heap.size + 1) (rec := { state := .ready, pending := none, fn := fn, tmps := a.tmps, params := ps, assign := assign, body := body, defers := w.heap.size }) rfl
    have e0 : Fw none = Fw C.ro := by rw [hro]
    rw [e0]
    -- the blocks, parted
    obtain ⟨mL, m', dL, e1, hLp, mD, m'', dD, e2, hDf, m1, m2, d12, e3, hM, hrest⟩ := t2
    have dLM := PH.disj_join'.1 (e2 ▸ dL)
    have dDM := PH.disj_join'.1 (e3 ▸ dD)
    have dLM2 := PH.disj_join'.1 (e3 ▸ dLM.2)
    obtain ⟨mA, mR, dAR, e4, hA, hR⟩ := stars_append.1 hrest
    have hperm : (stars ((SP.star (lpB (w.heap.size + 1) { state := .ready, pending := none, fn := fn, tmps := a.tmps, params := ps, assign := assign, body := body, defers := w.heap.size }) (M []) :: A) ++ (dfB w.heap.size :: R))).p h ((PH.one (w.alloc (.deferred (some []))).heap.size (.loop { state := .ready, pending := none, fn := fn, tmps := a.tmps, params := ps, assign := assign, body := body, defers := w.heap.size })).join ((PH.one w.heap.size (.deferred (some []))).join m)) := by
      rw [e1, e2, e3]
      refine ⟨mL.join m1, mD.join m2, PH.disj_join.2 ⟨PH.disj_join'.2 ⟨dLM.1, dLM2.2⟩, PH.disj_join'.2 ⟨PH.disj_symm dDM.1, d12⟩⟩, ?_, ⟨mL, m1, dLM2.1, rfl, hLp, hM⟩, ?_⟩
      · rw [PH.join_assoc, ← PH.join_assoc mD m1 m2, PH.join_comm dDM.1, PH.join_assoc m1 mD m2]
      · refine stars_append.2 ⟨mA, mD.join mR, ?_, ?_, hA, mD, mR, ?_, rfl, hDf, hR⟩
        · have := PH.disj_join'.1 (e4 ▸ dDM.2)
          exact PH.disj_join'.2 ⟨PH.disj_symm this.1, dAR⟩
        · have := PH.disj_join'.1 (e4 ▸ dDM.2)
          rw [e4, ← PH.join_assoc, PH.join_comm this.1, PH.join_assoc]
        · exact (PH.disj_join'.1 (e4 ▸ dDM.2)).2
    refine range_call rfl rfl it hy hcap s2 hperm (fun xs h' m' w' hf l' sp' st' => ?_) (fun c xs h' m' w' l' sp' st' => ?_)
    · exact hdone w.heap.size xs hf _ w' ⟨n, by simp [ds], h', m', (le.trans (HL.same hsm)).trans l', sp', LSub.mid _ _ st', fr.mono l'.1⟩
    · exact hstop w.heap.size c xs _ w' ⟨n, by simp [ds], h', m', (le.trans (HL.same hsm)).trans l', sp', LSub.mid _ _ st', fr.mono l'.1⟩
end
/-- At the return the mark is come to: the block is shut. -/
theorem K_unmark {P : Program} {fn : Func} {N D : Nat} {ds : List Deferred} {h0 : PH} {w0 : World} {r : PH} {RR : Ending → World → Prop} {E : Env} {L L' : List SP} (hL : LSub L (dfB D :: L')) (hk : K ⟨P, none, N, ds, h0, w0, r⟩ (bodyPostM Fence.wide 0 P fn RR .ret) E L') :
    K ⟨P, none, N, markD D :: ds, h0, w0, r⟩ (bodyPostM Fence.wide 0 P fn RR .ret) E L := fun a w ⟨n, hds, h, m, le, sp, st, f⟩ => by
  obtain ⟨m1, m2, d, rfl, e1, s2⟩ := hL h m st
  have e1 : m1 = PH.one D (.deferred (some [])) := e1
  subst e1
  show LeavesInM Fence.wide 0 P fn a.tmps RR a.defers .returning w
  rw [hds]
  refine ⟨by simp, .inl ⟨D, _, rfl, run_takeDeferred sp.heap_own, ?_⟩⟩
  have s3 := Sep.put (.deferred none) d sp
  have s4 := Sep.freeze (m1 := PH.one D (.deferred none)) (PH.one_disj_iff.2 (PH.one_disj_iff.1 d)) s3
  have := hk { a with defers := ds } _ ⟨n, rfl, _, m2, le.trans ⟨PH.le_join_left _ _, Same.putObj _ _ _⟩, s4, (stars L').mono (PH.le_join_left _ _) s2, (f.mono (PH.le_join_left _ _))⟩
  exact this
section
variable {α : Type} {P : Program} {fn : Func} {N : Nat} {h0 : PH} {w0 : World} {r : PH} {E : Env} {L : List SP} {Fin : List α → Prop} {M Mx : List α → SP} {A : List SP}
theorem K_itStop (hr : fn.results = #[]) (xs : List α) (hL : LSub L (Mx xs :: A)) : K ⟨P, none, N, [], h0, w0, r⟩ (bodyPostM Fence.wide 0 P fn (Ret (X := { z : Bool × List α // z.1 = false → Fin z.2 }) h0 w0 r (fun _ => tTup []) (fun z => (if z.1.1 then Mx z.1.2 else M z.1.2) :: A)) .ret) E L :=
  K_lsub (L' := Mx xs :: A) hL (K_ret0 (X := { z : Bool × List α // z.1 = false → Fin z.2 }) (L' := fun z => (if z.1.1 then Mx z.1.2 else M z.1.2) :: A) hr ⟨(true, xs), fun h => (by cases h)⟩ Sub.rfl)
theorem K_itDone (hr : fn.results = #[]) (xs : List α) (hf : Fin xs) (hL : LSub L (M xs :: A)) : K ⟨P, none, N, [], h0, w0, r⟩ (bodyPostM Fence.wide 0 P fn (Ret (X := { z : Bool × List α // z.1 = false → Fin z.2 }) h0 w0 r (fun _ => tTup []) (fun z => (if z.1.1 then Mx z.1.2 else M z.1.2) :: A)) .ret) E L :=
  K_lsub (L' := M xs :: A) hL (K_ret0 (X := { z : Bool × List α // z.1 = false → Fin z.2 }) (L' := fun z => (if z.1.1 then Mx z.1.2 else M z.1.2) :: A) hr ⟨(false, xs), fun _ => hf⟩ Sub.rfl)
theorem K_endRet {RR : Ending → World → Prop} {ds : List Deferred} (hk : K ⟨P, none, N, ds, h0, w0, r⟩ (bodyPostM Fence.wide 0 P fn RR .ret) E L) : K ⟨P, none, N, ds, h0, w0, r⟩ (bodyPostM Fence.wide 0 P fn RR .normal) E L := hk
end
/-! ### A loop whose rounds leave marks -/
section
variable {P : Program} {ro : Option Nat} {N : Nat} {h0 : PH} {w0 : World} {r : PH}
def AgainD {σ : Type} (P : Program) (ro : Option Nat) (N : Nat) (h0 : PH) (w0 : World) (r : PH) (inv : σ → Prop) (E : σ → Env) (L : σ → List SP) (μ : σ → Nat) (D : σ → List Deferred) (s : σ) (a : Act) (w : World) : Prop :=
  ∃ s', μ s' < μ s ∧ inv s' ∧ Pre ⟨P, ro, N, D s', h0, w0, r⟩ (E s') (L s') a w
theorem J_loopD {σ : Type} {c : Code} {Q : Exit → Act → World → Prop} {E0 : Env} {L0 : List SP} {ds : List Deferred} (inv : σ → Prop) (E : σ → Env) (L : σ → List SP) (μ : σ → Nat) (D : σ → List Deferred) (s0 : σ) (i0 : inv s0)
    (hE : SubE E0 (E s0)) (hL : LSub L0 (L s0)) (hD : ds = D s0) (round : ∀ s, inv s → J ⟨P, ro, N, D s, h0, w0, r⟩ c (Exit.then (AgainD P ro N h0 w0 r inv E L μ D s) Q) (E s) (L s)) : J ⟨P, ro, N, ds, h0, w0, r⟩ (.loop c) Q E0 L0 := fun a w p => by
  subst hD
  exact wpIn_loop_fam (fun s a w => inv s ∧ Pre ⟨P, ro, N, D s, h0, w0, r⟩ (E s) (L s) a w) μ
    (fun s a w ⟨i, p⟩ => Code.wpIn_mono (fun e a w q => by cases e <;> first | exact q | (obtain ⟨s', m, i', p'⟩ := q; exact ⟨s', m, i', p'⟩)) (round s i a w p)) s0 ⟨i0, (p.sub hE).lsub hL⟩
theorem K_againD {σ : Type} {inv : σ → Prop} {E : σ → Env} {L : σ → List SP} {μ : σ → Nat} {D : σ → List Deferred} {s : σ} {E1 : Env} {L1 : List SP} {ds : List Deferred} (s' : σ) (hm : μ s' < μ s) (hi : inv s') (hE : SubE E1 (E s')) (hL : LSub L1 (L s')) (hD : ds = D s') :
    K ⟨P, ro, N, ds, h0, w0, r⟩ (AgainD P ro N h0 w0 r inv E L μ D s) E1 L1 := fun a w p => by subst hD; exact ⟨s', hm, hi, (p.sub hE).lsub hL⟩
theorem K_unmarks {fn : Func} {Ds : List Nat} {RR : Ending → World → Prop} {E : Env} {L L' : List SP} (hL : LSub L (stars (Ds.map dfB) :: L')) (hk : K ⟨P, none, N, [], h0, w0, r⟩ (bodyPostM Fence.wide 0 P fn RR .ret) E L') :
    K ⟨P, none, N, Ds.map markD, h0, w0, r⟩ (bodyPostM Fence.wide 0 P fn RR .ret) E L := by
  refine K_lsub hL ?_
  clear hL
  induction Ds with
  | nil =>
    intro a w ⟨n, hds, h, m, le, sp, ⟨m1, m2, d, e, e1, hr⟩, f⟩
    have e1 : m1 = PH.emp := e1
    subst e1; rw [PH.emp_join] at e; subst e
    exact hk a w ⟨n, hds, h, _, le, sp, hr, f⟩
  | cons D Ds ih =>
    refine K_unmark (ds := Ds.map markD) (D := D) (L' := stars (Ds.map dfB) :: L') (fun h m ⟨m1, m2, d, e, ⟨m3, m4, d3, e3, h3, h4⟩, hr⟩ => ?_) ih
    subst e; subst e3
    have dd := PH.disj_join.1 d
    exact ⟨m3, m4.join m2, PH.disj_join'.2 ⟨d3, dd.1⟩, PH.join_assoc _ _ _, h3, m4, m2, dd.2, rfl, h4, hr⟩
theorem LSub.push {A : SP} {B L : List SP} : LSub (A :: Lg.stars B :: L) (Lg.stars (A :: B) :: L) := fun h m ⟨m1, m2, d, e, ha, m3, m4, d3, e3, hb, hl⟩ => by
  subst e; subst e3
  have dd := PH.disj_join'.1 d
  exact ⟨m1.join m3, m4, PH.disj_join.2 ⟨dd.2, d3⟩, (PH.join_assoc _ _ _).symm, ⟨m1, m3, dd.1, _root_.rfl, ha, hb⟩, hl⟩
end
open Go
section
variable {κ β : Type} [DecidableEq κ]
def mget : List (κ × β) → κ → Option β
  | [], _ => none
  | (k, x) :: m, q => if q = k then some x else mget m q
def mput : List (κ × β) → κ → β → List (κ × β)
  | [], q, y => [(q, y)]
  | (k, x) :: m, q, y => if q = k then (q, y) :: m else (k, x) :: mput m q y
theorem mget_mput (m : List (κ × β)) (q : κ) (y : β) (p : κ) : mget (mput m q y) p = if p = q then some y else mget m p := by
  induction m with
  | nil => simp [mput, mget]
  | cons a m ih =>
    obtain ⟨k, x⟩ := a
    by_cases h : q = k
    · subst h; simp only [mput, if_true, mget]; split <;> rfl
    · simp only [mput, if_neg h, mget, ih]
      by_cases h1 : p = k
      · subst h1; simp [Ne.symm h]
      · simp [h1]
theorem mput_keys (m : List (κ × β)) (q : κ) (y : β) : (mput m q y).map (·.1) = if q ∈ m.map (·.1) then m.map (·.1) else m.map (·.1) ++ [q] := by
  induction m with
  | nil => simp [mput]
  | cons a m ih =>
    obtain ⟨k, x⟩ := a
    by_cases h : q = k
    · subst h; simp [mput]
    · have e : mput ((k, x) :: m) q y = (k, x) :: mput m q y := if_neg h
      rw [e]
      simp only [List.map_cons, ih, List.mem_cons, h, false_or]
      split <;> simp
theorem mput_length_le (m : List (κ × β)) (q : κ) (y : β) : (mput m q y).length ≤ m.length + 1 := by
  induction m with
  | nil => simp [mput]
  | cons a m ih =>
    obtain ⟨k, x⟩ := a
    simp only [mput]
    split
    · simp
    · simpa using ih
theorem mput_nodup {m : List (κ × β)} (h : (m.map (·.1)).Nodup) (q : κ) (y : β) : ((mput m q y).map (·.1)).Nodup := by
  rw [mput_keys]
  split
  · exact h
  · rename_i hq
    rw [List.nodup_append]
    exact ⟨h, by simp, fun a ha b hb => by simp at hb; subst hb; exact fun e => hq (e ▸ ha)⟩
theorem mget_mem {m : List (κ × β)} (h : (m.map (·.1)).Nodup) {k : κ} {x : β} : mget m k = some x ↔ (k, x) ∈ m := by
  induction m with
  | nil => simp [mget]
  | cons a m ih =>
    obtain ⟨k', x'⟩ := a
    simp only [List.map_cons, List.nodup_cons] at h
    simp only [mget, List.mem_cons, Prod.mk.injEq]
    by_cases e : k = k'
    · subst e
      simp only [if_true, Option.some.injEq, true_and]
      constructor
      · intro e; exact .inl e.symm
      · rintro (e | e)
        · exact e.symm
        · exact absurd (List.mem_map.2 ⟨_, e, rfl⟩) h.1
    · simp [e, ih h.2]
end
/-- The place of a key among keys, and the value there. -/
def fnd {κ : Type} [DecidableEq κ] (q : κ) : List κ → List MapEntry → Nat → Option (Nat × Value)
  | k :: ks, e :: es, i => if q = k then some (i, e.val) else fnd q ks es (i + 1)
  | _, _, _ => none
/-- What a type of keys must bring. -/
structure KeyT {κ : Type} [DecidableEq κ] (P : Program) (kt : Nat) (kv : κ → Value) : Prop where
  chk : ∀ b a w, (Instr.checkKey b 10000 kt (kv a)).run P w = .ok () w
  find : ∀ (q : κ) (ks : List κ) (es : List MapEntry) w, es.map (·.key) = ks.map kv → (Instr.findKey kt (kv q) es).run P w = .ok (fnd q ks es 0) w
  bits : ∀ a, Instr.sameBits 10000 (kv a) (kv a) = true
theorem find_now {κ : Type} [DecidableEq κ] {P : Program} {kt : Nat} {kv : κ → Value} {kd : TypeDesc} (h : P.underlying kt = some kd) (hs : ∀ a b, Instr.sameNow kd (kv a) (kv b) = some (decide (a = b))) (q : κ) (ks : List κ) (es : List MapEntry) (w : World) (hk : es.map (·.key) = ks.map kv) :
    (Instr.findKey kt (kv q) es).run P w = .ok (fnd q ks es 0) w := by
  have key : ∀ (ks : List κ) (es : List MapEntry) (i : Nat), es.map (·.key) = ks.map kv → Instr.findNow kd (kv q) es i = some (fnd q ks es i) := by
    intro ks
    induction ks with
    | nil =>
      intro es i hk
      have : es = [] := by simpa using hk
      subst this; rfl
    | cons k ks ih =>
      intro es i hk
      match es, hk with
      | e :: es, hk =>
        simp only [List.map_cons, List.cons.injEq] at hk
        have := ih es (i + 1) hk.2
        by_cases hq : q = k
        · simp [Instr.findNow, fnd, hk.1, hs, hq]
        · simp [Instr.findNow, fnd, hk.1, hs, hq, this]
  simp [Instr.findKey, Sem.run_bind, run_underlying h, key ks es 0 hk]
theorem find_asking {κ : Type} [DecidableEq κ] {P : Program} {kt : Nat} {kv : κ → Value} {kd : TypeDesc} (h : P.underlying kt = some kd) (hs : ∀ a b, Instr.sameNow kd (kv a) (kv b) = none) (he : ∀ a b w, (Op.equal kt (kv a) (kv b)).run P w = .ok (decide (a = b)) w) (q : κ) (ks : List κ) (es : List MapEntry) (w : World) (hk : es.map (·.key) = ks.map kv) :
    (Instr.findKey kt (kv q) es).run P w = .ok (fnd q ks es 0) w := by
  have key : ∀ (ks : List κ) (es : List MapEntry) (i : Nat), es.map (·.key) = ks.map kv → (Instr.findAsking kt (kv q) es i).run P w = .ok (fnd q ks es i) w := by
    intro ks
    induction ks with
    | nil =>
      intro es i hk
      have : es = [] := by simpa using hk
      subst this; simp [Instr.findAsking, fnd]
    | cons k ks ih =>
      intro es i hk
      match es, hk with
      | e :: es, hk =>
        simp only [List.map_cons, List.cons.injEq] at hk
        have := ih es (i + 1) hk.2
        by_cases hq : q = k
        · subst hq
          simp [Instr.findAsking, fnd, hk.1, he, Sem.run_bind]
        · simp [Instr.findAsking, fnd, hk.1, he, Sem.run_bind, hq, this]
  match ks, es, hk with
  | [], [], _ => simp [Instr.findKey, Sem.run_bind, run_underlying h, Instr.findNow, fnd]
  | k :: ks, e :: es, hk =>
    have h2 := key (k :: ks) (e :: es) 0 hk
    simp only [List.map_cons, List.cons.injEq] at hk
    simp only [Instr.findKey, Sem.run_bind, run_underlying h, Result.andThen_ok, Instr.findNow, hk.1, hs]
    exact h2
theorem KeyT.int {P : Program} {kt : Nat} (h : P.underlying kt = some (.int .i64)) : KeyT P kt (fun n : Int => .int .i64 n) where
  chk := fun b a w => by
    have : ∀ n, (Instr.checkKey b (n + 1) kt (.int .i64 a)).run P w = .ok () w := fun n => by simp [Instr.checkKey, run_underlying h]
    exact this 9999
  find := find_now h fun a b => by simp [Instr.sameNow]; rfl
  bits := fun a => by
    have : ∀ n, Instr.sameBits n (.int .i64 a) (.int .i64 a) = true := fun n => by cases n <;> simp [Instr.sameBits]
    exact this _
theorem KeyT.str {P : Program} {kt : Nat} (h : P.underlying kt = some .string) : KeyT P kt (fun s : ByteArray => .string s) where
  chk := fun b a w => by
    have : ∀ n, (Instr.checkKey b (n + 1) kt (.string a)).run P w = .ok () w := fun n => by simp [Instr.checkKey, run_underlying h]
    exact this 9999
  find := find_now h fun a b => by simp [Instr.sameNow]; rw [beq_toListBytes, toList_inj]
  bits := fun a => by
    have e : (a == a) = true := by rw [beq_toListBytes, toList_inj]; simp
    have : ∀ n, Instr.sameBits n (.string a) (.string a) = true := fun n => by cases n <;> simp [Instr.sameBits, e]
    exact this _
section
variable {κ β : Type} [DecidableEq κ] (kv : κ → Value) (R : Rp β)
def entR (h : PH) : List (κ × β) → List MapEntry → Nat → Prop
  | [], [], _ => True
  | (k, x) :: m, e :: es, n => e.key = kv k ∧ (R.ty x).p h e.val ∧ e.born = n ∧ entR h m es (n + 1)
  | _, _, _ => False
def mapOwn (v : Value) (m : List (κ × β)) : SP where
  p := fun h mm => ∃ r es, v = .map (some r) ∧ mm = PH.one r (.map (List.toArray es) es.length) ∧ entR kv R h m es 0
  mono := fun {h h' mm} l ⟨r, es, e1, e2, e3⟩ => ⟨r, es, e1, e2, by
    have : ∀ (m : List (κ × β)) (es : List MapEntry) (n : Nat), entR kv R h m es n → entR kv R h' m es n := by
      intro m
      induction m with
      | nil => intro es n q; cases es with
        | nil => trivial
        | cons => exact q.elim
      | cons a m ih => intro es n q; cases es with
        | nil => exact q.elim
        | cons e es => exact ⟨q.1, (R.ty a.2).mono l q.2.1, q.2.2.1, ih es _ q.2.2.2⟩
    exact this _ _ _ e3⟩
end
section
variable {κ β : Type} [DecidableEq κ] {kv : κ → Value} {R : Rp β} {h : PH}
theorem entR.length : ∀ {m : List (κ × β)} {es : List MapEntry} {n : Nat}, entR kv R h m es n → es.length = m.length
  | [], [], _, _ => rfl
  | _ :: _, _ :: _, _, q => by simp [q.2.2.2.length]
theorem entR.get : ∀ {m : List (κ × β)} {es : List MapEntry} {n i : Nat} {e : MapEntry}, entR kv R h m es n → es[i]? = some e → ∃ k x, m[i]? = some (k, x) ∧ e.key = kv k ∧ (R.ty x).p h e.val ∧ e.born = n + i
  | [], [], _, _, _, _, q => by simp at q
  | (k, x) :: m, e :: es, n, 0, _, q, hq => by simp at hq; subst hq; exact ⟨k, x, rfl, q.1, q.2.1, q.2.2.1⟩
  | _ :: m, _ :: es, n, i + 1, e, q, hq => by
    obtain ⟨k, x, a, b, c, d⟩ := q.2.2.2.get (show es[i]? = some e by simpa using hq)
    exact ⟨k, x, by simpa using a, b, c, by omega⟩
theorem entR.keys : ∀ {m : List (κ × β)} {es : List MapEntry} {n : Nat}, entR kv R h m es n → es.map (·.key) = (m.map (·.1)).map kv
  | [], [], _, _ => rfl
  | (k, x) :: m, e :: es, n, q => by simp [q.1, q.2.2.2.keys]
theorem entR.find (q : κ) : ∀ {m : List (κ × β)} {es : List MapEntry} {n i : Nat}, entR kv R h m es n →
    (mget m q = none ∧ fnd q (m.map (·.1)) es i = none ∧ ∀ y u, (R.ty y).p h u → entR kv R h (mput m q y) (es ++ [(⟨kv q, u, n + es.length⟩ : MapEntry)]) n) ∨
    ∃ x j e, mget m q = some x ∧ es[j]? = some e ∧ e.key = kv q ∧ (R.ty x).p h e.val ∧ fnd q (m.map (·.1)) es i = some (i + j, e.val) ∧ ∀ y u, (R.ty y).p h u → entR kv R h (mput m q y) (es.modify j fun e => { e with key := kv q, val := u }) n
  | [], [], n, i, _ => .inl ⟨rfl, rfl, fun y u hu => ⟨rfl, hu, rfl, trivial⟩⟩
  | (k, x) :: m, e :: es, n, i, hq => by
    obtain ⟨h1, h2, h3, h4⟩ := hq
    by_cases hk : q = k
    · subst hk
      right
      refine ⟨x, 0, e, by simp [mget], rfl, h1, h2, ?_, fun y u hu => ?_⟩
      · simp [fnd]
      · simp only [mput, if_true]
        exact ⟨rfl, hu, h3, h4⟩
    · rcases entR.find q (i := i + 1) h4 with ⟨a, b, c⟩ | ⟨x', j, e', a, b, c, d, f, g⟩
      · left
        refine ⟨by simp [mget, hk, a], by simp [fnd, hk, b], fun y u hu => ?_⟩
        simp only [mput, if_neg hk]
        refine ⟨h1, h2, h3, ?_⟩
        have := c y u hu
        rw [show n + 1 + es.length = n + (e :: es).length from by simp; omega] at this
        exact this
      · right
        refine ⟨x', j + 1, e', by simp [mget, hk, a], by simpa using b, c, d, ?_, fun y u hu => ?_⟩
        · simp [fnd, hk, f]; omega
        · simp only [mput, if_neg hk]
          exact ⟨h1, h2, h3, g y u hu⟩
end
theorem run_setObj_map {P : Program} {w : World} {r : Nat} {es : Array MapEntry} {c : Nat} (o : Obj) (h : w.heap[r]? = some (.map es c)) : (setObj r o).run P w = .ok () (w.putObj r o) := by simp [setObj, Sem.run, h, World.putObj]
theorem run_getObj_map {P : Program} {w : World} {r : Nat} {es : Array MapEntry} {c : Nat} (h : w.heap[r]? = some (.map es c)) : (getObj r).run P w = .ok (.map es c) w := by simp [getObj, Sem.run, h]
section
variable {κ β : Type} [DecidableEq κ] {kv : κ → Value} {R : Rp β}
variable {C : Cx} {E : Env} {L : List SP} {d : Option Nat} {ty : Nat} {pos : String} {af : Array Edge} {g : Option (Nat × Bool)}
theorem step_makeMap {T : Nat} : Step C ⟨d, .makeMap T none, ty, pos, af, g⟩ E L (fun v : Value => tV v) (fun v => mapOwn kv R v ([] : List (κ × β)) :: L) :=
  Step.of_run (by intro c h; cases h) fun a w h m l sp st fr => by
    refine ⟨.map (some w.heap.size), .map (some w.heap.size), w.alloc (.map #[] 0), h, (PH.one w.heap.size (.map #[] 0)).join m, ?_, HL.own _, sp.allocOwn _, ?_, rfl⟩
    · simp [execOp, Instr.makeMap, run_newObj_alloc]
    · exact ⟨_, m, PH.disj_symm (PH.one_disj_new sp.mw _), rfl, ⟨w.heap.size, [], rfl, rfl, trivial⟩, st⟩
/-- What a look into a map comes to. -/
theorem run_lookup {P : Program} {T kt e : Nat} (K : KeyT P kt kv) (hu : P.underlying T = some (.map kt e)) {z : β} {zv : Value} (hz : ∀ w, (zeroValue e).run P w = .ok zv w) (hzr : ∀ h, (R.ty z).p h zv) {w : World} {h : PH} {v : Value} {m : List (κ × β)} {m1 : PH}
    (ho : (mapOwn kv R v m).p h m1) (hw : m1.inw w) (q : κ) (ok : Bool) :
    ∃ u, (R.ty ((mget m q).getD z)).p h u ∧ (Instr.lookup T v (kv q) ok).run P w = .ok (if ok then .tuple #[u, .bool (mget m q).isSome] else u) w := by
  obtain ⟨r, es, rfl, rfl, hr⟩ := ho
  have hchk := K.chk
  have hfk := K.find q _ es w hr.keys
  have hb := hw _ _ (PH.one_same r _)
  rcases hr.find q (i := 0) with ⟨a, b, _⟩ | ⟨x, j, e', a, _, _, dd, f, _⟩
  · refine ⟨zv, by rw [a]; exact hzr h, ?_⟩
    rw [b] at hfk
    simp only [Instr.lookup, run_underlying hu, Sem.run_bind, Result.andThen, run_getObj_map hb, hchk, hfk, hz, a]
    cases ok <;> simp [Sem.run_bind, run_underlying hu, hb, hchk, hfk, hz, run_getObj_map hb]
  · refine ⟨e'.val, by rw [a]; exact dd, ?_⟩
    rw [f] at hfk
    simp only [Instr.lookup, run_underlying hu, Sem.run_bind, Result.andThen, run_getObj_map hb, hchk, hfk, a]
    cases ok <;> simp [Sem.run_bind, run_underlying hu, hb, hchk, hfk, run_getObj_map hb]
theorem step_lookup {T kt e : Nat} {x y : Operand} {v : Value} {m : List (κ × β)} {S : List SP} {q : κ} {z : β} {zv : Value} (K : KeyT C.P kt kv) (hu : C.P.underlying T = some (.map kt e)) (hz : ∀ w, (zeroValue e).run C.P w = .ok zv w) (hzr : ∀ h, (R.ty z).p h zv)
    (hx : Sub (opTy E x) (tV v)) (hy : Sub (opTy E y) (tV (kv q))) (sel : Sel L [mapOwn kv R v m] S) : Step1 C ⟨d, .lookup T x y false, ty, pos, af, g⟩ E L (R.ty ((mget m q).getD z)) :=
  Step.of_run (by intro c h; cases h) fun a w h mm l sp st fr => by
    have h1 : a.eval x = v := fr.get hx
    have h2 : a.eval y = kv q := fr.get hy
    obtain ⟨m1, m2, d12, rfl, ho, s2⟩ := sel.one.1 st
    obtain ⟨u, hu1, hrun⟩ := run_lookup (P := C.P) K hu hz hzr ho (fun b o e => sp.mw _ _ (PH.le_join_left _ _ _ _ e)) q false
    exact ⟨(), u, w, h, _, by simp [execOp, h1, h2, hrun], HL.refl, sp, st, hu1⟩
theorem step_lookup_ok {T kt e : Nat} {x y : Operand} {v : Value} {m : List (κ × β)} {S : List SP} {q : κ} {z : β} {zv : Value} (K : KeyT C.P kt kv) (hu : C.P.underlying T = some (.map kt e)) (hz : ∀ w, (zeroValue e).run C.P w = .ok zv w) (hzr : ∀ h, (R.ty z).p h zv)
    (hx : Sub (opTy E x) (tV v)) (hy : Sub (opTy E y) (tV (kv q))) (sel : Sel L [mapOwn kv R v m] S) : Step1 C ⟨d, .lookup T x y true, ty, pos, af, g⟩ E L (tTup [R.ty ((mget m q).getD z), tV (.bool (mget m q).isSome)]) :=
  Step.of_run (by intro c h; cases h) fun a w h mm l sp st fr => by
    have h1 : a.eval x = v := fr.get hx
    have h2 : a.eval y = kv q := fr.get hy
    obtain ⟨m1, m2, d12, rfl, ho, s2⟩ := sel.one.1 st
    obtain ⟨u, hu1, hrun⟩ := run_lookup (P := C.P) K hu hz hzr ho (fun b o e => sp.mw _ _ (PH.le_join_left _ _ _ _ e)) q true
    exact ⟨(), _, w, h, _, by simp [execOp, h1, h2, hrun], HL.refl, sp, st, ⟨[u, .bool _], rfl, hu1, rfl, trivial⟩⟩
theorem step_mapUpdate {T kt e : Nat} {x y u : Operand} {v : Value} {m : List (κ × β)} {S : List SP} {q : κ} {z : β} (K : KeyT C.P kt kv) (hu : C.P.underlying T = some (.map kt e))
    (hx : Sub (opTy E x) (tV v)) (hy : Sub (opTy E y) (tV (kv q))) (hz : Sub (opTy E u) (R.ty z)) (sel : Sel L [mapOwn kv R v m] S) :
    Step C ⟨d, .mapUpdate T x y u, ty, pos, af, g⟩ E L (fun _ : Unit => tAny) (fun _ => mapOwn kv R v (mput m q z) :: S) := by
  refine Step.of_skip (by intro c h; cases h) fun a w h mm l sp st fr => by
    have h1 : a.eval x = v := fr.get hx
    have h2 : a.eval y = kv q := fr.get hy
    have h3 := fr.get hz
    obtain ⟨m1, m2, d12, rfl, ⟨r, es, rfl, rfl, hr⟩, s2⟩ := sel.one.1 st
    have hchk := K.chk
    have hfk := K.find q _ es w hr.keys
    have hb := sp.heap_own
    rcases hr.find q (i := 0) with ⟨a1, b1, c1⟩ | ⟨x', j, e', a1, b1, c1, dd, f1, g1⟩
    · refine ⟨(), w.putObj r (.map (es ++ [(⟨kv q, a.eval u, es.length⟩ : MapEntry)]).toArray (es.length + 1)), h, (PH.one r (.map (es ++ [(⟨kv q, a.eval u, es.length⟩ : MapEntry)]).toArray (es.length + 1))).join m2, ?_, HL.same (Same.putObj _ _ _), Sep.put _ d12 sp, ?_⟩
      · rw [b1] at hfk
        simp [execOp, Instr.mapUpdate, h1, h2, Sem.run_bind, run_underlying hu, run_getObj_map hb, hchk, hfk, run_setObj_map _ hb]
      · refine ⟨_, m2, PH.one_disj_iff.2 (PH.one_disj_iff.1 d12), rfl, ⟨r, es ++ [(⟨kv q, a.eval u, es.length⟩ : MapEntry)], rfl, by simp, ?_⟩, s2⟩
        have := c1 z _ h3
        rw [Nat.zero_add] at this
        exact this
    · have hold : es.toArray.modify j (fun e => { e with key := kv q, val := a.eval u }) = (es.modify j fun e => { e with key := kv q, val := a.eval u }).toArray := by simp
      refine ⟨(), w.putObj r (.map (es.modify j fun e => { e with key := kv q, val := a.eval u }).toArray es.length), h, (PH.one r (.map (es.modify j fun e => { e with key := kv q, val := a.eval u }).toArray es.length)).join m2, ?_, HL.same (Same.putObj _ _ _), Sep.put _ d12 sp, ?_⟩
      · have hkey : (Instr.keyThatStays (((es.toArray[j]?).map (·.key)).getD (kv q)) (kv q)).run C.P w = .ok (kv q) w := by
          have : ((es.toArray[j]?).map (·.key)).getD (kv q) = kv q := by simp [b1, c1]
          rw [this]; simp [Instr.keyThatStays, K.bits]
        rw [Nat.zero_add] at f1
        rw [f1] at hfk
        rw [← hold]
        simp [execOp, Instr.mapUpdate, h1, h2, Sem.run_bind, run_underlying hu, run_getObj_map hb, hchk, hfk]
        simp [Instr.keyThatStays, b1, c1, K.bits, run_setObj_map _ hb]
      · exact ⟨_, m2, PH.one_disj_iff.2 (PH.one_disj_iff.1 d12), rfl, ⟨r, _, rfl, by simp, g1 z _ h3⟩, s2⟩
/-! Ranging -/
def itOwn (b : Nat) (v : Value) (n : Nat) (done : List Nat) : SP := ⟨fun _ mm => ∃ r, v = .map (some r) ∧ mm = PH.one b (.mapIter (some r) n done.toArray n), fun _ e => e⟩
def tNx (o : Option Nat) : Ty := ⟨fun _ v => ∃ vs : List Value, v = .tuple (.bool o.isSome :: vs).toArray, fun _ e => e⟩
theorem step_range_map {T kt e : Nat} {x : Operand} {v : Value} {m : List (κ × β)} {S : List SP} (hu : C.P.underlying T = some (.map kt e)) (hx : Sub (opTy E x) (tV v)) (sel : Sel L [mapOwn kv R v m] S) :
    Step C ⟨d, .range T x, ty, pos, af, g⟩ E L (fun b : Nat => tAt b 0) (fun b => itOwn b v m.length [] :: L) :=
  Step.of_run (by intro c h; cases h) fun a w h mm l sp st fr => by
    have h1 : a.eval x = v := fr.get hx
    have st0 := st
    obtain ⟨m1, m2, d12, rfl, ⟨r, es, rfl, rfl, hr⟩, s2⟩ := sel.one.1 st
    have hb := sp.heap_own
    have hl := hr.length
    refine ⟨w.heap.size, .pointer (some ⟨w.heap.size, 0, none⟩), w.alloc (.mapIter (some r) es.length #[] es.length), h, (PH.one w.heap.size (.mapIter (some r) es.length #[] es.length)).join _, ?_, HL.own _, sp.allocOwn _, ?_, rfl⟩
    · simp [execOp, Instr.range, h1, Sem.run_bind, run_underlying hu, run_getObj_map hb, run_newObj_alloc]
    · exact ⟨_, _, PH.disj_symm (PH.one_disj_new sp.mw _), rfl, ⟨r, rfl, by rw [hl]⟩, st0⟩
theorem step_extract_next {x : Operand} {o : Option Nat} (hx : Sub (opTy E x) (tNx o)) : Step1 C ⟨d, .extract x 0, ty, pos, af, g⟩ E L (tV (.bool o.isSome)) :=
  Step.of_same (by intro c h; cases h) fun a w h hw fr => by
    obtain ⟨vs, hv⟩ := fr.get hx
    exact ⟨_, by simp [execOp, Instr.extract, hv], rfl⟩
theorem entR.born {h : PH} : ∀ {m : List (κ × β)} {es : List MapEntry} {n : Nat}, entR kv R h m es n → es.map (·.born) = (List.range' n es.length)
  | [], [], _, _ => rfl
  | _ :: m, _ :: es, n, q => by simp [q.2.2.1, q.2.2.2.born, List.range'_succ]
theorem step_next {b : Nat} {T : Bool} {x : Operand} {v : Value} {m : List (κ × β)} {S : List SP} {done : List Nat} (hT : T = false) (hx : Sub (opTy E x) (tAt b 0)) (hL : LSub L (itOwn b v m.length done :: mapOwn kv R v m :: S)) :
    Step (X := { o : Option Nat // match o with | none => ∀ i, i < m.length → i ∈ done | some i => i < m.length ∧ i ∉ done }) C ⟨d, .next x T, ty, pos, af, g⟩ E L (fun o => tNx o.1) (fun o => itOwn b v m.length (done ++ o.1.toList) :: mapOwn kv R v m :: S) :=
  Step.of_run (by intro c h; cases h) fun a w h mm l sp st fr => by
    subst hT
    have h1 : a.eval x = .pointer (some ⟨b, 0, none⟩) := fr.get hx
    obtain ⟨m1, m0, d1, rfl, ⟨r', e1, rfl⟩, m2, m3, d2, rfl, ⟨r, es, rfl, rfl, hr⟩, s3⟩ := hL h mm st
    injection e1 with e1; injection e1 with e1; subst e1
    have hl := hr.length
    have hit := sp.heap_own
    have hmap : w.heap[r]? = some (.map es.toArray es.length) := sp.mw _ _ (PH.le_join_right d1 _ _ (PH.le_join_left _ _ _ _ (PH.one_same _ _)))
    have hold : ∀ x ∈ es.toArray.toList, x.born < m.length := fun e he => by
      obtain ⟨i, hi⟩ := List.getElem?_of_mem he
      obtain ⟨k, x, _, _, _, hb⟩ := hr.get hi
      have := (List.getElem?_eq_some_iff.1 hi).1
      simp at this
      omega
    rcases run_next_at (P := C.P) w ty b r m.length m.length done.toArray es.toArray es.length hit hmap hold (Nat.le_refl _) with ⟨h0, hrun⟩ | ⟨e, he, w1, hw1, hrun⟩
    · refine ⟨⟨none, fun i hi => ?_⟩, _, w, h, _, by simp [execOp, h1, hrun], HL.refl, sp, ?_, ⟨[], rfl⟩⟩
      · rw [← hl] at hi
        have : es[i] ∈ es.toArray := by simp
        have hnot : ¬ (es[i] ∈ leftOf es.toArray done.toArray) := fun hm => by
          have := Array.eq_empty_of_size_eq_zero h0
          rw [this] at hm; simp at hm
        simp only [leftOf, Array.mem_filter, this, true_and, Bool.not_eq_true', Bool.not_eq_false] at hnot
        obtain ⟨k, x, _, _, _, hb⟩ := hr.get (List.getElem?_eq_getElem hi)
        rw [hb] at hnot
        simpa using hnot
      · simp only [Option.toList_none, List.append_nil]
        exact ⟨_, _, d1, rfl, ⟨r, rfl, rfl⟩, _, m3, d2, rfl, ⟨r, es, rfl, rfl, hr⟩, s3⟩
    · simp only [leftOf, Array.toList_filter, List.mem_filter, Bool.not_eq_true'] at he
      obtain ⟨i, hi⟩ := List.getElem?_of_mem he.1
      have hi : es[i]? = some e := by simpa using hi
      obtain ⟨k, x, hmi, hk, hx', hb⟩ := hr.get hi
      rw [Nat.zero_add] at hb
      have hlt := (List.getElem?_eq_some_iff.1 hi).1
      have hsp1 : Sep h ((PH.one b (.mapIter (some r) m.length done.toArray m.length)).join ((PH.one r (.map es.toArray es.length)).join m3)) C.r w1 := by
        rcases hw1 with rfl | rfl
        · exact sp
        · exact sp.drew
      have hsm : Same w (w1.putObj b (.mapIter (some r) m.length (done.toArray.push e.born) es.length)) := by
        rcases hw1 with rfl | rfl
        · exact Same.putObj _ _ _
        · exact (Same.drew _).trans (Same.putObj _ _ _)
      have hni : i ∉ done := fun hm => by
        have := he.2
        rw [hb] at this
        simp [hm] at this
      refine ⟨⟨some i, by rw [← hl]; exact hlt, hni⟩, _, _, h, _, by simp [execOp, h1, hrun]; rfl, HL.same hsm, Sep.put (.mapIter (some r) m.length (done.toArray.push e.born) es.length) d1 hsp1, ?_, ⟨[e.key, e.val], rfl⟩⟩
      · refine ⟨_, _, PH.one_disj_iff.2 (PH.one_disj_iff.1 d1), rfl, ⟨r, rfl, ?_⟩, _, m3, d2, rfl, ⟨r, es, rfl, rfl, hr⟩, s3⟩
        show PH.one b (Obj.mapIter (some r) m.length (done.toArray.push e.born) es.length) = PH.one b (Obj.mapIter (some r) m.length (done ++ [i]).toArray m.length)
        rw [hb, hl]; simp
theorem step_entry {b i : Nat} {x : Operand} {v : Value} {m : List (κ × β)} {S : List SP} {done : List Nat} {k : κ} {y : β} (hx : Sub (opTy E x) (tAt b 0)) (hL : LSub L (itOwn b v m.length (done ++ [i]) :: mapOwn kv R v m :: S)) (hi : m[i]? = some (k, y)) :
    Step1 C ⟨d, .entry x, ty, pos, af, g⟩ E L (tTup [tV (kv k), R.ty y]) :=
  Step.of_run (by intro c h; cases h) fun a w h mm l sp st fr => by
    have h1 : a.eval x = .pointer (some ⟨b, 0, none⟩) := fr.get hx
    obtain ⟨m1, m0, d1, rfl, ⟨r', e1, rfl⟩, m2, m3, d2, rfl, ⟨r, es, rfl, rfl, hr⟩, s3⟩ := hL h mm st
    injection e1 with e1; injection e1 with e1; subst e1
    have hl := hr.length
    have hit := sp.heap_own
    have hmap : w.heap[r]? = some (.map es.toArray es.length) := sp.mw _ _ (PH.le_join_right d1 _ _ (PH.le_join_left _ _ _ _ (PH.one_same _ _)))
    have hlt : i < es.length := by rw [hl]; exact (List.getElem?_eq_some_iff.1 hi).1
    obtain ⟨k', y', hmi, hk, hy, hb⟩ := hr.get (List.getElem?_eq_getElem hlt)
    rw [hi] at hmi; cases hmi
    rw [Nat.zero_add] at hb
    have hit' : w.heap[b]? = some (.mapIter (some r) m.length (done.toArray.push es[i].born) es.length) := by rw [hit, hb, hl]; simp
    have hrun := run_entry_at (P := C.P) w b r m.length done.toArray es.toArray es.length es[i] hit' hmap (by simp) (by rw [hr.born]; exact List.nodup_range' ..)
    exact ⟨(), _, w, h, _, by simp [execOp, h1, hrun], HL.refl, sp, st, ⟨[es[i].key, es[i].val], rfl, hk, hy, trivial⟩⟩
end
/-! ### A struct that holds a slice of one's own, made immutable -/
theorem Frz.up {α α' β : Type} {b T e : Nat} {fs : List (SF α)} {fs' : List (SF α')} {R : Rp β} {x : α} {y : α'} {v : Value} {a : List β} {S : List SP} (hup : ∀ h h' cs, PH.le h h' → (tSl R a).p h' v → SF.rel h x fs cs → SF.rel h' y fs' cs) :
    Frz (Lg.box b T (rStruct fs) x :: Lg.own e R v a :: S) (tAt b 0) (tPtr (rStruct fs') y) := fun h m u d ⟨m1, m2, d12, e0, ⟨cs, r, e1⟩, hs⟩ hu => by
  subst e0
  have hd := PH.disj_join'.1 d
  have hvo : v.oneCell' = true := by
    obtain ⟨m3, m4, _, _, ho, _⟩ := hs
    rcases ho with ⟨rfl, _⟩ | ⟨g, cap, cur, rfl, _⟩ <;> rfl
  have hv := Frz.own (S := S) h m2 v hd.2 hs ⟨rfl, hvo⟩
  have hle : (h.join m2).le (h.join (m1.join m2)) := fun b o e => by
    simp only [PH.join] at e ⊢
    cases hb : h b with
    | some x => rw [hb] at e; exact e
    | none =>
      rw [hb] at e
      have := PH.le_join_right d12 b o e
      simp only [PH.join] at this
      exact this
  have r' := hup h (h.join (m1.join m2)) cs (PH.le_join_left _ _) ((tSl R a).mono hle hv) r
  subst e1
  exact ⟨b, 0, cs, hu, ⟨cs.toArray, T, (0, 0), PH.le_join_right d _ _ (PH.le_join_left _ _ _ _ (PH.one_same _ _)), fun i u hu => by simpa using hu⟩, r'⟩
theorem Sub.ofRV {v : Value} : Sub (Lg.rV.ty v) (tV v) := fun _ _ e => e.1
open Go
/-- A yield in a cell. -/
abbrev rY {α : Type} (P : Program) (T : α → List Ty) (Ok : List α → Prop) (M Mx : List α → SP) : Rp Unit := rT (fun _ : Unit => tYield P T Ok M Mx) (by rintro h x v ⟨l, rfl, _⟩; rfl)
abbrev rC (g : Nat) (As : List Ty) : Rp Unit := rT (fun _ : Unit => tClo g As) (by rintro h x v ⟨l, rfl, _⟩; rfl)
/-- A pointer to a variable that holds function g, which has captured values of types As and this pointer. -/
def tPut (g : Nat) (As : List Ty) : Ty where
  p := fun h v => ∃ (b : Nat) (cap : List Value), v = .pointer (some ⟨b, 0, none⟩) ∧ Holds h b 0 [.func (.func g) #[] (cap ++ [v]).toArray] ∧ Args h As cap
  mono := fun l ⟨b, cap, e, H, a⟩ => ⟨b, cap, e, H.mono l, a.mono l⟩
theorem Frz.put {b T g : Nat} {As : List Ty} {S : List SP} : Frz (Lg.box b T (rC g (As ++ [tAt b 0])) () :: S) (tAt b 0) (tPut g As) := fun h m v d hs hv => by
  obtain ⟨m1, m2, d12, e, ⟨cs, ⟨u, e1, cap, e2, ha⟩, e3⟩, _⟩ := hs
  have hv : v = .pointer (some ⟨b, 0, none⟩) := hv
  subst e3
  have hlen := ha.length
  have hsp : ∃ c1, cap = c1 ++ [v] ∧ Args h As c1 := by
    have key : ∀ (As : List Ty) (cap : List Value), Args h (As ++ [tAt b 0]) cap → ∃ c1, cap = c1 ++ [v] ∧ Args h As c1 := by
      intro As
      induction As with
      | nil =>
        intro cap ha
        match cap, ha with
        | [u], ⟨a1, _⟩ => exact ⟨[], by rw [hv]; exact congrArg (fun x => [x]) a1, trivial⟩
      | cons A As ih =>
        intro cap ha
        match cap, ha with
        | u :: cap, ⟨a1, a2⟩ =>
          obtain ⟨c1, e, a3⟩ := ih cap a2
          exact ⟨u :: c1, by rw [e]; rfl, a1, a3⟩
    exact key As cap ha
  obtain ⟨c1, ec, hc⟩ := hsp
  refine ⟨b, c1, hv, ⟨#[u], T, (0, 0), ?_, fun i x hx => ?_⟩, hc.mono (PH.le_join_left _ _)⟩
  · have := PH.le_join_right d b (.cells #[u] T (0, 0)) (by rw [e]; subst e1; exact PH.le_join_left _ _ _ _ (PH.one_same _ _))
    exact this
  · rw [← ec, ← e2] at hx
    simpa using hx
section
variable {C : Cx} {E : Env} {L : List SP} {d : Option Nat} {ty : Nat} {pos : String} {af : Array Edge} {g : Option (Nat × Bool)}
theorem step_load_put {T f : Nat} {As : List Ty} {x : Operand} (hR : TyOf C.P T rV) (hx : Sub (opTy E x) (tPut f As)) : Step1 C ⟨d, .load T x, ty, pos, af, g⟩ E L (tClo f (As ++ [tPut f As])) :=
  Step.of_same (by intro c h; cases h) fun a w h hw fr => by
    obtain ⟨b, cap, hv, H, ha⟩ := fr.get hx
    have := run_loadVar_cells (b := b) (o := 0) (w := w) hR.agg hR.size (cs := [.func (.func f) #[] (cap ++ [a.eval x]).toArray]) rfl (fun _ => rfl) (fun i v hv' => H.cell hw hv')
    have hcl : (tPut f As).p h (a.eval x) := fr.get hx
    refine ⟨.func (.func f) #[] (cap ++ [a.eval x]).toArray, ?_, cap ++ [a.eval x], rfl, ha.append ⟨hcl, trivial⟩⟩
    rw [hv] at this ⊢
    simp [execOp, Instr.loadAt, Instr.sureAddr, hv, this, packV, rV]
/-- A store that changes how the variable is seen. -/
theorem step_store_boxR {α β : Type} {T U b : Nat} {R : Rp α} {R' : Rp β} {x v : Operand} {y : α} {z : β} {S : List SP} (hR : TyOf C.P T R') (hk : R'.k = R.k) (hx : Sub (opTy E x) (tAt b 0)) (hv : Sub (opTy E v) (R'.ty z)) (sel : Sel L [box b U R y] S) :
    Step C ⟨d, .store T x v, ty, pos, af, g⟩ E L (fun _ : Unit => tAny) (fun _ => box b U R' z :: S) :=
  Step.of_skip (by intro c h; cases h) fun a w h m l sp st fr => by
    obtain ⟨m1, m2, d12, rfl, ⟨cs, r, rfl⟩, s2⟩ := sel.one.1 st
    have hb := sp.heap_own
    have r' := R'.cells (fr.get hv)
    have hp : a.eval x = .pointer (some ⟨b, 0, none⟩) := fr.get hx
    obtain ⟨w', hrun, hoth, hsame, hnew⟩ := run_storeVar_cells (P := C.P) (b := b) (o := 0) (v := a.eval v) hR.size (by simpa using R'.len r') hb (by simp [R.len r, hk]) (R'.one r')
    have hd : List.drop R'.k cs = [] := by simp [R.len r, hk]
    refine ⟨(), w', h, (PH.one b (.cells (a.eval v).cells U (0, 0))).join m2, ?_, HL.same hsame, Sep.write d12 sp (fun b' hne _ => hoth b' hne) (by rw [hnew]; simp [hd]), ?_⟩
    · simp [execOp, Instr.storeAt, Instr.sureAddr, hp, hrun]
    · exact ⟨_, m2, PH.one_disj_iff.2 (PH.one_disj_iff.1 d12), rfl, ⟨_, r', by simp⟩, s2⟩
end
open Go
abbrev kvI : Int → Value := fun n => .int .i64 n
abbrev kvS : ByteArray → Value := fun s => .string s
abbrev Ent := List (Int × (Value × List Int))
def hdr (m : Ent) : List (Int × Value) := m.map fun p => (p.1, p.2.1)
def rows (m : Ent) : List SP := m.map fun p => own 3 rInt p.2.1 p.2.2
def mdel : Ent → Int → Ent
  | [], _ => []
  | (k, x) :: m, q => if q = k then m else (k, x) :: mdel m q
abbrev nilSl : Value := .slice none 0 0
def entAt (m : Ent) (q : Int) : Value × List Int := (mget m q).getD (nilSl, [])
theorem mget_hdr (m : Ent) (q : Int) : (mget (hdr m) q).getD nilSl = (entAt m q).1 := by
  induction m with
  | nil => rfl
  | cons a m ih =>
    obtain ⟨k, x⟩ := a
    by_cases h : q = k
    · subst h; simp [hdr, mget, entAt]
    · simp only [hdr, entAt, List.map_cons, mget, if_neg h] at ih ⊢; exact ih
theorem mput_hdr (m : Ent) (q : Int) (u : Value) (xs : List Int) : hdr (mput m q (u, xs)) = mput (hdr m) q u := by
  induction m with
  | nil => rfl
  | cons a m ih =>
    obtain ⟨k, x⟩ := a
    by_cases h : q = k
    · subst h; simp [hdr, mput]
    · simp only [hdr, List.map_cons, mput, if_neg h] at ih ⊢; rw [ih]
theorem rows_take {m : Ent} {q : Int} {L : List SP} : LSub (stars (rows m) :: L) (own 3 rInt (entAt m q).1 (entAt m q).2 :: stars (rows (mdel m q)) :: L) := by
  induction m generalizing L with
  | nil => exact LSub.nilown
  | cons a m ih =>
    obtain ⟨k, x⟩ := a
    by_cases h : q = k
    · subst h
      have e1 : entAt ((q, x) :: m) q = x := by simp [entAt, mget]
      have e2 : mdel ((q, x) :: m) q = m := by simp [mdel]
      rw [e1, e2]
      intro hh mm ⟨m1, m2, d, e, hs, hr⟩
      obtain ⟨m3, m4, d3, e3, ho, hrest⟩ := hs
      subst e; subst e3
      have dd := PH.disj_join.1 d
      exact ⟨m3, m4.join m2, PH.disj_join'.2 ⟨d3, dd.1⟩, PH.join_assoc _ _ _, ho, m4, m2, dd.2, rfl, hrest, hr⟩
    · have e1 : entAt ((k, x) :: m) q = entAt m q := by simp [entAt, mget, h]
      have e2 : mdel ((k, x) :: m) q = (k, x) :: mdel m q := by simp [mdel, h]
      rw [e1, e2]
      intro hh mm ⟨m1, m2, d, e, hs, hr⟩
      obtain ⟨m3, m4, d3, e3, ho, hrest⟩ := hs
      subst e; subst e3
      have dd := PH.disj_join.1 d
      obtain ⟨m5, m6, d5, e5, hq, m7, m8, d7, e7, h7, h8⟩ := ih (L := L) hh (m4.join m2) ⟨m4, m2, dd.2, rfl, hrest, hr⟩
      have dx : m3.disj (m4.join m2) := PH.disj_join'.2 ⟨d3, dd.1⟩
      rw [e5] at dx
      have dx1 := PH.disj_join'.1 dx
      have dx2 := PH.disj_join'.1 (e7 ▸ dx1.2)
      have d56 := PH.disj_join'.1 (e7 ▸ d5)
      refine ⟨m5, (m3.join m7).join m8, PH.disj_join'.2 ⟨PH.disj_join'.2 ⟨PH.disj_symm dx1.1, d56.1⟩, d56.2⟩, ?_, hq, m3.join m7, m8, PH.disj_join.2 ⟨dx2.2, d7⟩, rfl, ⟨m3, m7, dx2.1, rfl, ho, h7⟩, h8⟩
      rw [PH.join_assoc m3 m4 m2, e5, e7, PH.join_assoc m3 m7 m8, ← PH.join_assoc m3 m5, PH.join_comm dx1.1, PH.join_assoc]
theorem rows_put {m : Ent} {q : Int} {u : Value} {xs : List Int} {L : List SP} : LSub (own 3 rInt u xs :: stars (rows (mdel m q)) :: L) (stars (rows (mput m q (u, xs))) :: L) := by
  induction m generalizing L with
  | nil =>
    intro hh mm ⟨m1, m2, d, e, ho, m3, m4, d3, e3, hs, hr⟩
    have hs : m3 = PH.emp := hs
    subst hs; subst e3; subst e
    rw [PH.emp_join] at d ⊢
    exact ⟨m1, m4, d, rfl, ⟨m1, PH.emp, PH.disj_emp _, (PH.join_emp _).symm, ho, rfl⟩, hr⟩
  | cons a m ih =>
    obtain ⟨k, x⟩ := a
    by_cases h : q = k
    · subst h
      have e1 : mput ((q, x) :: m) q (u, xs) = (q, (u, xs)) :: m := by simp [mput]
      have e2 : mdel ((q, x) :: m) q = m := by simp [mdel]
      rw [e1, e2]
      intro hh mm ⟨m1, m2, d, e, ho, m3, m4, d3, e3, hs, hr⟩
      subst e; subst e3
      have dd := PH.disj_join'.1 d
      exact ⟨m1.join m3, m4, PH.disj_join.2 ⟨dd.2, d3⟩, (PH.join_assoc _ _ _).symm, ⟨m1, m3, dd.1, rfl, ho, hs⟩, hr⟩
    · have e1 : mput ((k, x) :: m) q (u, xs) = (k, x) :: mput m q (u, xs) := by simp [mput, h]
      have e2 : mdel ((k, x) :: m) q = (k, x) :: mdel m q := by simp [mdel, h]
      rw [e1, e2]
      intro hh mm ⟨m1, m2, d, e, ho, m3, m4, d3, e3, ⟨m5, m6, d5, e5, hx, hs⟩, hr⟩
      subst e; subst e3; subst e5
      have dd := PH.disj_join'.1 d
      have dd1 := PH.disj_join'.1 dd.1
      have d34 := PH.disj_join.1 d3
      have hin := ih (L := L) hh (m1.join (m6.join m4)) ⟨m1, m6.join m4, PH.disj_join'.2 ⟨dd1.2, dd.2⟩, rfl, ho, m6, m4, d34.2, rfl, hs, hr⟩
      obtain ⟨m7, m8, d7, e7, h7, h8⟩ := hin
      have dx : m5.disj (m1.join (m6.join m4)) := PH.disj_join'.2 ⟨PH.disj_symm dd1.1, PH.disj_join'.2 ⟨d5, d34.1⟩⟩
      rw [e7] at dx
      have dx1 := PH.disj_join'.1 dx
      refine ⟨m5.join m7, m8, PH.disj_join.2 ⟨dx1.2, d7⟩, ?_, ⟨m5, m7, dx1.1, rfl, hx, h7⟩, h8⟩
      rw [PH.join_assoc m5 m7 m8, ← e7, PH.join_assoc m5 m6 m4, ← PH.join_assoc m1 m5, PH.join_comm dd1.1 , PH.join_assoc]
theorem step_eqT {C : Cx} {o : Oper} {E : Env} {L : List SP} {A A' : Ty} (e : A = A') (h : Step1 C o E L A) : Step1 C o E L A' := e ▸ h
open Go
def bytesOf (s : ByteArray) : List Int := s.data.toList.map fun b => (b.toNat : Int)
def ofBytes (xs : List Int) : ByteArray := ⟨(xs.map fun n => UInt8.ofNat n.toNat).toArray⟩
theorem bytesOf_len (s : ByteArray) : (bytesOf s).length = s.size := by unfold bytesOf; rw [List.length_map]; rfl
theorem relAll_u8 {h : PH} : ∀ {xs : List Int} {cs : List Value}, relAll rU8 h xs cs ↔ cs = xs.map (.int .u8 ·)
  | [], cs => Iff.rfl
  | x :: xs, cs => by
    constructor
    · rintro ⟨c1, c2, rfl, r1, r2⟩
      have r1 : c1 = [.int .u8 x] := r1
      rw [relAll_u8.1 r2, r1]; rfl
    · rintro rfl
      exact ⟨[.int .u8 x], xs.map (.int .u8 ·), rfl, rfl, relAll_u8.2 rfl⟩
section
variable {P : Program} (w : World)
theorem str_cells (s : ByteArray) : (Array.map (fun b : UInt8 => Value.int IntKind.u8 (b.toNat : Int)) s.data).extract 0 s.size = Array.map (fun b : UInt8 => Value.int IntKind.u8 (b.toNat : Int)) s.data := by
  have hs : s.size = (Array.map (fun b : UInt8 => Value.int IntKind.u8 (b.toNat : Int)) s.data).size := by rw [Array.size_map]; rfl
  rw [hs, Array.extract_size]
theorem run_append_room_str (t u ty e : TypeId) (i : TypeInfo) (ht : P.underlying t = some (.slice e)) (hu : P.underlying u = some .string) (hi : P.info? e = some i) (h1 : i.size = 1)
    (g sLen sCap : Nat) (cur : Array Value) (hg : w.heap[g]? = some (.cells cur e (0, 0))) (s : ByteArray) (hroom : sLen + s.size ≤ sCap) (hfit : sLen + s.size ≤ cur.size) :
    (Builtin.append_ #[t, u] ty #[.slice (some ⟨g, 0, none⟩) sLen sCap, .string s]).run P w =
      .ok (.slice (some ⟨g, 0, none⟩) (sLen + s.size) sCap) (w.setRow g (cur.toList.take sLen ++ (bytesOf s).map (Value.int .u8 ·) ++ cur.toList.drop (sLen + s.size)).toArray) := by
  have hst := run_storeCells_at P g sLen e ((bytesOf s).map (Value.int .u8 ·)) 0 cur w hg (by simp [bytesOf_len]; omega) (by intro u hu; obtain ⟨a, _, rfl⟩ := List.mem_map.1 hu; rfl)
  simp only [Nat.add_zero, List.length_map, bytesOf_len] at hst
  have e1 : (Array.map (fun b : UInt8 => Value.int IntKind.u8 (b.toNat : Int)) s.data).toList = (bytesOf s).map (Value.int .u8 ·) := by simp [bytesOf]
  simp only [Builtin.append_, run_underlying ht, run_underlying hu, Sem.run_bind, Result.andThen]
  simp [Builtin.append_, run_underlying ht, run_underlying hu, Go.sizeOf, typeInfo, hi, h1, Builtin.lenOf, Builtin.firstCells, hroom, Addr.add_lit, str_cells]
  have e2 : List.map (fun b : UInt8 => Value.int IntKind.u8 (b.toNat : Int)) s.data.toList = (bytesOf s).map (Value.int .u8 ·) := by simp [bytesOf]
  rw [e2, hst]
  simp [List.append_assoc]
theorem run_append_grow_str (t u ty e : TypeId) (i : TypeInfo) (z : Value) (ht : P.underlying t = some (.slice e)) (hu : P.underlying u = some .string) (hi : P.info? e = some i) (hz : i.zero = some z) (h1 : i.size = 1)
    (b : Addr) (sLen sCap : Nat) (olds : List Value) (hlo : olds.length = sLen) (holds : ∀ j v, olds[j]? = some v → w.cell? (b.add j) = some v)
    (s : ByteArray) (hg : sCap < sLen + s.size) (h63 : ((sLen + s.size : Nat) : Int) ≤ 9223372036854775807) (hfit : Builtin.nextslicecap (sLen + s.size) sCap * i.bytes ≤ 281474976710656) :
    (Builtin.append_ #[t, u] ty #[.slice (some b) sLen sCap, .string s]).run P w =
      .ok (.slice (some ⟨w.heap.size, 0, none⟩) (sLen + s.size) (grownCap w (sLen + s.size) sCap e))
        (w.drew.alloc (.cells (olds.toArray ++ ((bytesOf s).map (Value.int .u8 ·)).toArray ++ Builtin.zeroCells z.cells (grownCap w (sLen + s.size) sCap e - (sLen + s.size))) e)) := by
  have hn : ¬ (sLen + s.size ≤ sCap) := by omega
  have h63' : ¬ (9223372036854775807 < ((sLen : Int) + (s.size : Int))) := by omega
  have h48' : ¬ (281474976710656 < Builtin.nextslicecap (sLen + s.size) sCap * i.bytes) := by omega
  have hfo := run_firstCells_some (P := P) w.drew i.size sLen b sLen sCap olds (by rw [h1]; omega) (by simpa using holds)
  rw [h1] at hfo
  simp [Builtin.append_, run_underlying ht, run_underlying hu, Go.sizeOf, typeInfo, zeroValue, hi, hz, h1, Builtin.lenOf, hn, h63', h48', Question.forced, hfo, newRow, grownCap]
  simp [Builtin.firstCells, str_cells]
  congr 2
  apply Array.ext'
  simp [bytesOf, List.append_assoc]
end
section
variable {C : Cx} {E : Env} {L : List SP} {d : Option Nat} {ty : Nat} {pos : String} {af : Array Edge} {g : Option (Nat × Bool)}
/-- append(bytes, s...) -/
theorem step_append_str {T U e : Nat} {z : Int} {x y : Operand} {v : Value} {xs : List Int} {s : ByteArray} {S : List SP} (hu : C.P.underlying T = some (.slice e)) (hs : C.P.underlying U = some .string) (hE : ElT C.P e rU8 1 z)
    (hx : Sub (opTy E x) (rV.ty v)) (hy : Sub (opTy E y) (tV (.string s))) (sel : Sel L [own e rU8 v xs] S) (h0 : 0 < s.size) (hb : xs.length + s.size ≤ 1000000000000) :
    Step C ⟨d, .call { callee := .builtin .append, args := #[x, y], argTypes := #[T, U] }, ty, pos, af, g⟩ E L (fun v' : Value => rV.ty v') (fun v' => own e rU8 v' (xs ++ bytesOf s) :: S) :=
  Step.of_run (by intro c h; cases h) fun a w h m l sp st fr => by
    have hv : a.eval x = v := (fr.get hx).1
    have hyv : a.eval y = .string s := fr.get hy
    obtain ⟨m1, m2, d12, rfl, ho, s2⟩ := sel.one.1 st
    obtain ⟨i, zv, hi, hz, hk, hby, hzr⟩ := hE.inf
    have hk1 : i.size = 1 := hk
    have hbl := bytesOf_len s
    have hop : ∀ u w', (Builtin.append_ #[T, U] ty #[v, .string s]).run C.P w = .ok u w' →
        (execOp a.eval ⟨d, .call { callee := .builtin .append, args := #[x, y], argTypes := #[T, U] }, ty, pos, af, g⟩).run C.P w = .ok (.value u) w' := by
      intro u w' hr
      simp [execOp, resolve, invoke, builtin, hv, hyv, hr]
    have hzl : zv.cells.size = 1 := by
      have h1 := rU8.len (rU8.cells (hzr h))
      rw [Array.length_toList] at h1
      exact h1
    have good : ∀ (cap : Nat) (m2 : PH), xs.length + s.size ≤ cap → cap ≤ maxLen → Sep h m2 C.r w → (stars S).p h m2 →
        ∃ m', Sep h m' C.r (w.drew.alloc (.cells ((xs.map (Value.int .u8 ·)).toArray ++ ((bytesOf s).map (Value.int .u8 ·)).toArray ++ Builtin.zeroCells zv.cells (cap - (xs.length + s.size))) e)) ∧
          (stars (own e rU8 (.slice (some ⟨w.heap.size, 0, none⟩) (xs.length + s.size) cap) (xs ++ bytesOf s) :: S)).p h m' := by
      intro cap m2 hcap hm sp2 s2
      refine ⟨_, sp2.drew.allocOwn (w := w.drew) _, _, m2, PH.disj_symm (PH.one_disj_new sp2.mw _), rfl, .inr ⟨w.heap.size, cap, _, by simp [hbl], rfl, by simpa [hbl] using hcap, hm, ?_, ?_⟩, s2⟩
      · simp only [Array.size_append, List.size_toArray, List.length_map, hbl, size_zeroCells, hzl]
        show _ = cap * 1
        omega
      · rw [relAll_u8]
        show List.take ((xs ++ bytesOf s).length * 1) _ = _
        rw [Nat.mul_one, List.length_append]
        have e1 : ((xs.map (Value.int .u8 ·)).toArray ++ ((bytesOf s).map (Value.int .u8 ·)).toArray ++ Builtin.zeroCells zv.cells (cap - (xs.length + s.size))).toList = ((xs ++ bytesOf s).map (Value.int .u8 ·)) ++ (Builtin.zeroCells zv.cells (cap - (xs.length + s.size))).toList := by simp
        rw [e1, List.take_append_of_le_length (by simp), List.take_of_length_le (by simp)]
    rcases ho with ⟨rfl, rfl, rfl⟩ | ⟨b', cap, cur, rfl, rfl, hlc, hcm, hcs, hr⟩
    · have hr := run_append_nil_string (P := C.P) w T U ty e i zv hu hs hi hz s h0 (by simp at hb; omega) (by rw [hby]; simp at hb; omega)
      have sp2 : Sep h m2 C.r w := by rw [PH.emp_join] at sp; exact sp
      obtain ⟨m', s1, s3⟩ := good (grownCap w s.size 0 e) m2 (by simpa using grownCap_ge w _ _ _) (grownCap_le_maxLen w _ _ _ (by unfold maxLen; simp at hb; omega)) sp2 s2
      simp only [List.length_nil, Nat.zero_add, List.map_nil] at s1 s3
      refine ⟨_, _, _, h, m', hop _ _ hr, HL.same (Same.drewAlloc _ _), ?_, s3, ⟨rfl, rfl⟩⟩
      have e3 : s.data.map (fun b => Value.int .u8 (b.toNat : Int)) = ((bytesOf s).map (Value.int .u8 ·)).toArray := by apply Array.ext'; simp [bytesOf]
      rw [e3]
      simpa using s1
    · have hkr : rU8.k = 1 := rfl
      rw [hkr, Nat.mul_one] at hcs hr
      rw [relAll_u8] at hr
      have hb' := sp.heap_own
      by_cases hroom : xs.length + s.size ≤ cap
      · have hr' := run_append_room_str (P := C.P) w T U ty e i hu hs hi hk1 b' xs.length cap cur hb' s hroom (by omega)
        refine ⟨_, _, _, h, (PH.one b' _).join m2, hop _ _ hr', HL.same ⟨rfl, rfl, rfl⟩, Sep.write d12 sp (fun b0 hne _ => setRow_other w b' b0 _ hne) (setRow_heap w b' cur _ e _ hb'), ?_, ⟨rfl, rfl⟩⟩
        refine ⟨_, m2, PH.one_disj_iff.2 (PH.one_disj_iff.1 d12), rfl, .inr ⟨b', cap, _, by simp [hbl], rfl, by simpa [hbl] using hroom, hcm, ?_, ?_⟩, s2⟩
        · simp only [List.size_toArray, List.length_append, List.length_take, List.length_drop, Array.length_toList, List.length_map, hbl]
          show _ = cap * 1
          omega
        · rw [relAll_u8, List.toList_toArray, hr]
          show List.take ((xs ++ bytesOf s).length * 1) _ = _
          rw [Nat.mul_one, List.length_append, List.take_append_of_le_length (by simp), List.take_of_length_le (by simp)]
          simp
      · have holds : ∀ j v, (xs.map (Value.int .u8 ·))[j]? = some v → w.cell? ((⟨b', 0, none⟩ : Addr).add j) = some v := fun j v hv => by
          rw [addr_add, Nat.zero_add, inw_cells (h := h) hb']
          rw [← hr, List.getElem?_take] at hv
          split at hv
          · simpa using hv
          · cases hv
        have hr' := run_append_grow_str (P := C.P) w T U ty e i zv hu hs hi hz hk1 ⟨b', 0, none⟩ xs.length cap (xs.map (Value.int .u8 ·)) (by simp) holds s (by omega) (by omega) (by rw [hby]; exact growslice_fits (by omega) (by omega))
        have sp2 : Sep h m2 C.r w := ⟨(by first | exact Sep.inv (by assumption) | exact Inv.mono (PH.le_join_left _ _) (Sep.inv (by assumption))), (PH.disj_join'.1 sp.hm).2, sp.hr, (PH.disj_join.1 sp.mr).2, sp.hw, fun b o e => sp.mw _ _ (PH.le_join_right d12 _ _ e), sp.rw⟩
        obtain ⟨m', s1, s3⟩ := good (grownCap w (xs.length + s.size) cap e) m2 (grownCap_ge w _ _ _) (grownCap_le_maxLen w _ _ _ (by unfold maxLen; omega)) sp2 s2
        exact ⟨_, _, _, h, m', hop _ _ hr', HL.same (Same.drewAlloc _ _), s1, s3, ⟨rfl, rfl⟩⟩
theorem foldl_push (xs : List Int) (r : ByteArray) : xs.foldl (fun r n => r.push (UInt8.ofNat n.toNat)) r = ⟨r.data ++ (xs.map fun n => UInt8.ofNat n.toNat).toArray⟩ := by
  induction xs generalizing r with
  | nil => simp
  | cons x xs ih => rw [List.foldl_cons, ih]; simp [ByteArray.push]
/-- string(bytes) -/
theorem step_convert_str {T U e : Nat} {x : Operand} {v : Value} {xs : List Int} {S : List SP} (hu : C.P.underlying T = some (.slice e)) (he : C.P.underlying e = some (.int .u8)) (hs : C.P.underlying U = some .string)
    (hx : Sub (opTy E x) (rV.ty v)) (sel : Sel L [own e rU8 v xs] S) : Step1 C ⟨d, .convert T U x, ty, pos, af, g⟩ E L (tV (.string (ofBytes xs))) :=
  Step.of_run (by intro c h; cases h) fun a w h m l sp st fr => by
    have hv : a.eval x = v := (fr.get hx).1
    have st0 := st
    obtain ⟨m1, m2, d12, rfl, ho, s2⟩ := sel.one.1 st
    rcases ho with ⟨rfl, rfl, rfl⟩ | ⟨b', cap, cur, rfl, rfl, hlc, hcm, hcs, hr⟩
    · refine ⟨(), .string (ofBytes []), w, h, _, ?_, HL.refl, sp, st0, rfl⟩
      simp [execOp, convert, hv, run_underlying hu, run_underlying he, run_underlying hs, Conv.bytesToString]
      rfl
    · have hkr : rU8.k = 1 := rfl
      rw [hkr, Nat.mul_one] at hcs hr
      rw [relAll_u8] at hr
      have hb' := sp.heap_own
      have hl := run_loadCells_list (P := C.P) (w := w) ⟨b', 0, none⟩ (xs.map (Value.int .u8 ·)) (fun j u hu' => by
        rw [addr_add, Nat.zero_add, inw_cells (h := h) hb']
        rw [← hr, List.getElem?_take] at hu'
        split at hu'
        · simpa using hu'
        · cases hu')
      rw [List.length_map] at hl
      have hrun := run_bytesToString (P := C.P) w ⟨b', 0, none⟩ xs.length cap xs hl
      rw [foldl_push] at hrun
      refine ⟨(), .string (ofBytes xs), w, h, _, ?_, HL.refl, sp, st0, rfl⟩
      simp only [execOp, convert, hv, Sem.run_bind, run_underlying hu, run_underlying he, run_underlying hs, Result.andThen_ok, hrun]
      simp [ofBytes]
theorem step_convert_int {T U : Nat} {x : Operand} {k k' : IntKind} {n m : Int} {td : TypeDesc} (ht : C.P.underlying T = some td) (hu : C.P.underlying U = some (.int k')) (hx : Sub (opTy E x) (tV (.int k n))) (hw : k'.wrap n = m) :
    Step1 C ⟨d, .convert T U x, ty, pos, af, g⟩ E L (tV (.int k' m)) :=
  Step.of_same (by intro c h; cases h) fun a w h hh f => by
    have hv : a.eval x = .int k n := f.get hx
    refine ⟨.int k' m, ?_, rfl⟩
    simp [execOp, convert, hv, run_underlying ht, run_underlying hu, Conv.intToInt, hw]
/-- s[i:j] of a string. -/
theorem step_slice_str {T i j : Nat} {x y z : Operand} {s : ByteArray} {k k' : IntKind} {a b : Int} (hu : C.P.underlying T = some .string) (hx : Sub (opTy E x) (tV (.string s))) (hy : Sub (opTy E y) (tV (.int k a))) (hz : Sub (opTy E z) (tV (.int k' b)))
    (ha : a = i) (hb : b = j) (hij : i ≤ j) (hj : j ≤ s.size) : Step1 C ⟨d, .slice T x (some y) (some z) none, ty, pos, af, g⟩ E L (tV (.string (s.extract i j))) :=
  Step.of_same (by intro c h; cases h) fun ac w h hh f => by
    have h1 : ac.eval x = .string s := f.get hx
    have h2 : ac.eval y = .int k a := f.get hy
    have h3 : ac.eval z = .int k' b := f.get hz
    subst ha; subst hb
    have hr := run_slice_string (P := C.P) w T s k k' i j hu (by omega) (by omega) (by omega)
    refine ⟨.string (s.extract i j), ?_, rfl⟩
    rw [Int.toNat_natCast, Int.toNat_natCast] at hr
    simp [execOp, Instr.sliceAt, run_underlying hu, h1, h2, h3, hr]
end
open Go
section
variable {C : Cx} {E : Env} {L : List SP} {d : Option Nat} {ty : Nat} {pos : String} {af : Array Edge} {g : Option (Nat × Bool)}
theorem step_shift {T U : Nat} {op : BinOp} {x y : Operand} {k yk : IntKind} {a b : Int} {v : Value} (hop : op = .shl ∨ op = .shr) (hx : Sub (opTy E x) (tV (.int k a))) (hy : Sub (opTy E y) (tV (.int yk b)))
    (hr : ∀ P w, (Op.shift op k a yk b).run P w = .ok v w) : Step1 C ⟨d, .binOp op T x y U, ty, pos, af, g⟩ E L (tV v) :=
  Step.of_same (by intro c h; cases h) fun ac w h hw f => ⟨v, by
    have h1 : ac.eval x = .int k a := f.get hx
    have h2 : ac.eval y = .int yk b := f.get hy
    have he : ∀ w, (eqGuard op T x y (.int k a) (.int yk b)).run C.P w = .ok () w := by intro w; rcases hop with rfl | rfl <;> simp [eqGuard]
    have hb : binOp op T (.int k a) (.int yk b) = Op.shift op k a yk b := by rcases hop with rfl | rfl <;> rfl
    simp [execOp, h1, h2, Sem.run_bind, he, hb, hr], rfl⟩
theorem step_shl {T U n : Nat} {x y : Operand} {yk : IntKind} {a b m : Int} (hx : Sub (opTy E x) (tV (.int .i64 a))) (hy : Sub (opTy E y) (tV (.int yk b))) (hb : b = n) (hn : n ≤ 64) (hm : IntKind.i64.wrap (a * 2 ^ n) = m) :
    Step1 C ⟨d, .binOp .shl T x y U, ty, pos, af, g⟩ E L (tV (.int .i64 m)) := step_shift (.inl rfl) hx hy (fun P w => by
  subst hb
  have h1 : ¬ ((n : Int) < 0) := by omega
  have h2 : min n (IntKind.i64.bits) = n := by simp [IntKind.bits]; omega
  simp [Op.shift, h1, h2, hm])
theorem step_shr {T U n : Nat} {x y : Operand} {yk : IntKind} {a b : Int} (hx : Sub (opTy E x) (tV (.int .i64 a))) (hy : Sub (opTy E y) (tV (.int yk b))) (hb : b = n) (hn : n ≤ 64) :
    Step1 C ⟨d, .binOp .shr T x y U, ty, pos, af, g⟩ E L (tV (.int .i64 (a / 2 ^ n))) := step_shift (.inr rfl) hx hy (fun P w => by
  subst hb
  have e := shift_shr .i64 yk a (n : Int) (by omega) (by show (n : Int) ≤ 64; omega)
  rw [e]; simp)
theorem step_and1 {T U n : Nat} {x y : Operand} {a b : Int} (hx : Sub (opTy E x) (tV (.int .i64 a))) (hy : Sub (opTy E y) (tV (.int .i64 b))) (ha : a = n) (hb : b = 1) (hn : n < 9223372036854775808) :
    Step1 C ⟨d, .binOp .and T x y U, ty, pos, af, g⟩ E L (tV (.int .i64 ((n % 2 : Nat) : Int))) := step_int hx hy (fun P w => by
  subst ha; subst hb
  have e1 : (BitVec.ofInt 64 (n : Int) &&& BitVec.ofInt 64 1).toNat = n % 2 := by
    rw [BitVec.toNat_and, BitVec.ofInt_natCast, BitVec.toNat_ofNat]
    have : (BitVec.ofInt 64 1).toNat = 1 := by decide
    rw [this, Nat.and_one_is_mod, Nat.mod_mod_of_dvd _ (by decide)]
  have e2 : IntKind.i64.wrap ((n % 2 : Nat) : Int) = ((n % 2 : Nat) : Int) := wrap64_in (by unfold in64; omega)
  simp only [binOp, Op.intBits]
  show Sem.run P (pure (Value.int .i64 (IntKind.i64.wrap ((BitVec.ofInt 64 (n : Int) &&& BitVec.ofInt 64 1).toNat : Nat)))) w = _
  rw [e1, e2]; rfl)
theorem step_makeMapV {κ β : Type} [DecidableEq κ] {kv : κ → Value} {R : Rp β} {T : Nat} : Step C ⟨d, .makeMap T none, ty, pos, af, g⟩ E L (fun v : Value => rV.ty v) (fun v => mapOwn kv R v ([] : List (κ × β)) :: L) :=
  Step.of_run (by intro c h; cases h) fun a w h m l sp st fr => by
    refine ⟨.map (some w.heap.size), .map (some w.heap.size), w.alloc (.map #[] 0), h, (PH.one w.heap.size (.map #[] 0)).join m, ?_, HL.own _, sp.allocOwn _, ?_, ⟨rfl, rfl⟩⟩
    · simp [execOp, Instr.makeMap, run_newObj_alloc]
    · exact ⟨_, m, PH.disj_symm (PH.one_disj_new sp.mw _), rfl, ⟨w.heap.size, [], rfl, rfl, trivial⟩, st⟩
end
open Go
theorem relAll_int {h : PH} : ∀ {xs : List Int} {cs : List Value}, relAll rInt h xs cs ↔ cs = xs.map (.int .i64 ·)
  | [], cs => Iff.rfl
  | x :: xs, cs => by
    constructor
    · rintro ⟨c1, c2, rfl, r1, r2⟩
      have r1 : c1 = [.int .i64 x] := r1
      rw [relAll_int.1 r2, r1]; rfl
    · rintro rfl
      exact ⟨[.int .i64 x], xs.map (.int .i64 ·), rfl, rfl, relAll_int.2 rfl⟩
section
variable {C : Cx} {E : Env} {L : List SP} {d : Option Nat} {ty : Nat} {pos : String} {af : Array Edge} {g : Option (Nat × Bool)}
end
open Go
def wholeH (W : World) : PH := fun b => W.heap[b]?
theorem wholeH_inw (W : World) : (wholeH W).inw W := fun _ _ e => e
theorem TyOf.cells {α : Type} {P : Program} {T : Nat} {R : Rp α} (h : TyOf P T R) (W : World) : P.cellsOf T = R.k := by
  have h1 := h.size W
  cases hi : P.info? T with
  | none => simp [Go.sizeOf, typeInfo, hi] at h1
  | some i =>
    rw [run_sizeOf W hi] at h1
    injection h1
section
variable {H : Type} {enc : TypeId × Value → H} {P : Program} {W : World}
/-- Whatever the kit reads at type t is represented by R. -/
structure Rd {α H : Type} (enc : TypeId × Value → H) (P : Program) (W : World) (t : Nat) (R : Rp α) : Prop where
  k : P.cellsOf t = R.k
  rd : ∀ fuel cs x, DataW.trod enc P W 0 (fun _ => true) true fuel t cs = some x → ∃ y, R.rel (wholeH W) y cs
theorem Rd.int {t : Nat} (hT : TyOf P t rInt) (hu : P.underlying t = some (.int .i64)) : Rd enc P W t rInt where
  k := hT.cells W
  rd := fun _ _ _ h => by
    obtain ⟨n, rfl, _, _⟩ := DataW.trod_int hu h
    exact ⟨n, rfl⟩
theorem Rd.bool {t : Nat} (hT : TyOf P t rBool) (hu : P.underlying t = some .bool) : Rd enc P W t rBool where
  k := hT.cells W
  rd := fun _ _ _ h => by
    obtain ⟨n, rfl, _⟩ := DataW.trod_bool hu h
    exact ⟨n, rfl⟩
theorem Rd.str {t : Nat} (hT : TyOf P t rStr) (hu : P.underlying t = some .string) : Rd enc P W t rStr where
  k := hT.cells W
  rd := fun _ _ _ h => by
    obtain ⟨n, rfl, _, _⟩ := DataW.trod_string hu h
    exact ⟨n, rfl⟩
theorem cell_holds {b off k : Nat} {cs : List Value} (hk : 0 < k) (hl : cs.length = k) (hc : ∀ j, j < k → W.cell? ⟨b, off + j, none⟩ = cs[j]?) : Holds (wholeH W) b off cs := by
  have h0 := hc 0 hk
  have h0' : cs[0]? = some (cs[0]'(by omega)) := List.getElem?_eq_getElem (by omega)
  rw [h0'] at h0
  unfold World.cell? at h0
  simp only at h0
  split at h0
  · rename_i c e fr hb
    refine ⟨c, e, fr, hb, fun j v hv => ?_⟩
    have hj : j < k := by have := (List.getElem?_eq_some_iff.1 hv).1; omega
    have h1 := hc j hj
    unfold World.cell? at h1
    simp only [hb] at h1
    simpa [hv] using h1
  · cases h0
theorem Rd.sl {α : Type} {t e : Nat} {R : Rp α} (hT : TyOf P t (rSl R)) (hu : P.underlying t = some (.slice e)) (hR : Rd enc P W e R) (hk : 0 < R.k) : Rd enc P W t (rSl R) where
  k := hT.cells W
  rd := fun fuel cs x h => by
    rcases DataW.trod_slice hu h with ⟨rfl, _⟩ | ⟨a, len, cap, elems, rest, n, _, rfl, _, _, hlc, _, hlen, hel, _, _⟩
    · exact ⟨[], _, rfl, none, ⟨0, Nat.le_refl _⟩, rfl, fun q => absurd rfl q⟩
    have hall : ∀ i : Fin len, ∃ y cs, W.cells? 0 (a.add (i.1 * R.k)) R.k = some cs ∧ R.rel (wholeH W) y cs := fun i => by
      have h1 := hel i.1 i.2
      rw [List.getElem?_eq_getElem (by omega : i.1 < elems.length), Option.bind_eq_some_iff] at h1
      obtain ⟨cs, h2, h3⟩ := h1
      obtain ⟨y, hy⟩ := hR.rd _ _ _ h3
      rw [hR.k] at h2
      exact ⟨y, cs, h2, hy⟩
    let f : Fin len → α := fun i => Classical.choose (hall i)
    have hf : ∀ i : Fin len, ∃ cs, W.cells? 0 (a.add (i.1 * R.k)) R.k = some cs ∧ R.rel (wholeH W) (f i) cs := fun i => Classical.choose_spec (hall i)
    refine ⟨List.ofFn f, _, rfl, some a, ⟨cap, by rw [List.length_ofFn]; exact hlc⟩, by show Value.slice (some a) len cap = Value.slice (some a) (List.ofFn f).length cap; rw [List.length_ofFn], fun hne => ?_⟩
    have hl0 : 0 < len := by
      rcases Nat.eq_zero_or_pos len with h0 | h0
      · exfalso; apply hne; subst h0; simp
      · exact h0
    have hsp : a.spot = none := by
      obtain ⟨cs, h1, h2⟩ := hf ⟨0, hl0⟩
      obtain ⟨_, h3, h4⟩ := World.cells?_some h1
      have h5 := h4 0 hk
      rw [List.getElem?_eq_getElem (by omega : 0 < cs.length)] at h5
      have h6 : (a.add (0 * R.k)).add 0 = a := by simp [Addr.add]
      rw [h6] at h5
      exact World.cell?_spot h5
    obtain ⟨b, off, sp⟩ := a
    simp only at hsp
    subst hsp
    refine ⟨b, off, rfl, fun i y hy => ?_⟩
    have hi : i < len := by have := (List.getElem?_eq_some_iff.1 hy).1; simpa using this
    have hy' : f ⟨i, hi⟩ = y := by
      rw [List.getElem?_eq_getElem (by simpa using hi)] at hy
      simpa using hy
    obtain ⟨cs, h1, h2⟩ := hf ⟨i, hi⟩
    obtain ⟨_, h3, h4⟩ := World.cells?_some h1
    rw [hy'] at h2
    refine ⟨cs, cell_holds hk h3 fun j hj => ?_, h2⟩
    have := h4 j hj
    simp only [addr_add] at this
    exact this
theorem SF.rel_of {α : Type} {h : PH} {x : α} : ∀ {fs : List (SF α)} {cs : List Value}, cs.length = SF.width fs → (∀ (i : Nat) (f : SF α), fs[i]? = some f → f.R.rel h (f.get x) ((cs.drop (SF.off fs i)).take f.R.k)) → SF.rel h x fs cs
  | [], cs, hl, _ => List.eq_nil_of_length_eq_zero hl
  | f :: fs, cs, hl, hr => by
    refine ⟨cs.take f.R.k, cs.drop f.R.k, (List.take_append_drop _ _).symm, by simpa [SF.off] using hr 0 f rfl, SF.rel_of (by simp [hl, SF.width]) fun i g hg => ?_⟩
    have := hr (i + 1) g (by simpa using hg)
    simpa [SF.off, List.drop_drop] using this
theorem readStruct {α : Type} {t : Nat} {fs : List (SF α)} (S : StructOf P t fs) {fuel : Nat} {cs : List Value} {x : DataW H × List MemPlace} (h : DataW.trod enc P W 0 (fun _ => true) true fuel t cs = some x) :
    cs.length = SF.width fs ∧ ∀ (i : Nat) (f : SF α), fs[i]? = some f → ∃ n z, DataW.trod enc P W 0 (fun _ => true) true n f.T ((cs.drop (SF.off fs i)).take f.R.k) = some z := by
  obtain ⟨fls, hu, hl⟩ := S.lays
  obtain ⟨xs, n, _, _, hlen, hxs, hf⟩ := DataW.trod_struct hu h
  refine ⟨hlen.trans (S.ty.cells W), fun i f hi => ?_⟩
  obtain ⟨fl, h1, h2, h3, h4, _⟩ := hl.get hi
  have h1' : fls[i]? = some fl := by simpa using h1
  have h5 := hf i fl h1'
  have hlt : i < xs.length := by rw [hxs]; exact (Array.getElem?_eq_some_iff.1 h1').1
  rw [List.getElem?_eq_getElem hlt, h2, h3, h4.cells W, Nat.zero_add] at h5
  exact ⟨n, _, h5⟩
theorem Rd.at {α β : Type} {t : Nat} {fs : List (SF α)} {cs : List Value} {i : Nat} {T : Nat} {R : Rp β} {get : α → β} (hf : ∀ (i : Nat) (f : SF α), fs[i]? = some f → ∃ n z, DataW.trod enc P W 0 (fun _ => true) true n f.T ((cs.drop (SF.off fs i)).take f.R.k) = some z)
    (hR : Rd enc P W T R) (hi : fs[i]? = some ⟨β, T, R, get⟩) : ∃ y, R.rel (wholeH W) y ((cs.drop (SF.off fs i)).take R.k) := by
  obtain ⟨n, z, h⟩ := hf i _ hi
  exact hR.rd _ _ _ h
end
/-- Below the first heap nothing has turned. -/
theorem below_of {W W' : World} {h' : PH} (hl : (wholeH W).le h') (hw : h'.inw W') (s : Same W W') : Go.RowKit.Below W.heap.size W W' where
  os := s.os
  tape := s.tape
  output := s.output
  size := by
    rcases Nat.eq_zero_or_pos W.heap.size with h0 | h0
    · omega
    · have h1 : W.heap[W.heap.size - 1]? = some (W.heap[W.heap.size - 1]'(by omega)) := Array.getElem?_eq_getElem (by omega)
      have h2 := hw _ _ (hl _ _ h1)
      have := (Array.getElem?_eq_some_iff.1 h2).1
      omega
  block := fun k hk => by
    have h1 : W.heap[k]? = some (W.heap[k]'hk) := Array.getElem?_eq_getElem hk
    rw [h1]
    exact hw _ _ (hl _ _ h1)
open Go
def JN (C : Cx) (ops : Array Oper) (k : Env → Prop) (L : List SP) : List It → Env → Prop
  | [], E => k E
  | ⟨i, ts, _⟩ :: its, E => ∃ o A, ops[i]? = some o ∧ ltO o.dst C.N = true ∧ StepG C ops o (restr ts E) L A ∧ JN C ops k L its (updO E o.dst A)
section
variable {C : Cx} {ops : Array Oper} {k : Env → Prop} {its : List It} {E : Env} {L : List SP} {i : Nat} {ts : List Nat} {f : Bool} {o : Oper}
theorem JN_nil (h : k E) : JN C ops k L [] E := h
theorem JN_step {A : Ty} {d : Nat} (ho : ops.toList[i]? = some o) (hg : o.guard = none) (hd : o.dst = some d) (hN : Nat.blt d C.N = true) (hs : Step1 C o (restr ts E) L A)
    (hk : JN C ops k L its (upd E d A)) : JN C ops k L (⟨i, ts, f⟩ :: its) E :=
  ⟨o, A, by simpa using ho, by rw [hd]; exact hN, .inl ⟨hg, hs⟩, by rw [hd]; exact hk⟩
theorem JN_stepG {B : Ty} {d j t : Nat} {b w : Bool} {og : Oper} (ho : ops.toList[i]? = some o) (hg : o.guard = some (j, b)) (hj : ops.toList[j]? = some og) (ht : og.dst = some t) (hc : Gd (restr ts E t) b w) (hd : o.dst = some d) (hN : Nat.blt d C.N = true)
    (hs : w = true → Step1 C o (restr ts E) L B) (hk : JN C ops k L its (upd E d (tW w B))) : JN C ops k L (⟨i, ts, f⟩ :: its) E :=
  ⟨o, tW w B, by simpa using ho, by rw [hd]; exact hN, .inr ⟨j, b, og, t, w, B, hg, by simpa using hj, ht, hc, rfl, hs⟩, by rw [hd]; exact hk⟩
end
theorem JN_pull {C : Cx} {ops : Array Oper} {k : Env → Prop} {L : List SP} : ∀ {l1 : List It} {b : It} {l2 : List It} {E : Env},
    (∀ a ∈ l1, okPair (plOf ops.toList a) (plOf ops.toList b) = true) → (∀ a ∈ l1, a.i ∉ aftOf ops.toList b.i) → JN C ops k L (l1 ++ b :: l2) E → JN C ops k L (b :: (l1 ++ l2)) E
  | [], _, _, _, _, _, h => h
  | ⟨ia, ta, fa⟩ :: l1, ⟨ib, tb, fb⟩, l2, E, hp, hn, h => by
    obtain ⟨oa, A, ha, hla, hsa, hk⟩ := h
    have ih := JN_pull (fun a m => hp a (by simp [m])) (fun a m => hn a (by simp [m])) hk
    have hpair := hp ⟨ia, ta, fa⟩ (by simp)
    have hna := hn ⟨ia, ta, fa⟩ (by simp)
    have hda : dstOf ops.toList ia = oa.dst := by simp [dstOf, ha]
    have hpair' : inO oa.dst tb = false ∧ inO (dstOf ops.toList ib) ta = false ∧ eqO oa.dst (dstOf ops.toList ib) = false := by
      simp only [okPair, plOf, hda, Bool.and_eq_true, Bool.or_eq_true, Bool.not_eq_true', memN_iff] at hpair
      rcases hpair.2 with q | q
      · exact absurd q hna
      · exact ⟨q.1.1, q.1.2, q.2⟩
    obtain ⟨p1, p2, p3⟩ := hpair'
    obtain ⟨ob, B, hb, hlb, hsb, hkb⟩ := ih
    have hdb : dstOf ops.toList ib = ob.dst := by simp [dstOf, hb]
    rw [hdb] at p2 p3
    refine ⟨ob, B, hb, hlb, hsb.same (restr_updO p1), oa, A, ha, hla, hsa.same (restr_updO p2).symm, ?_⟩
    rw [updO_comm p3] at hkb
    exact hkb
theorem wpAny_JN {C : Cx} {ops : Array Oper} {Q : Exit → Act → World → Prop} {L : List SP} : ∀ (fuel : Nat) (its : List It) (listed : Array Bool) (E : Env), its.length ≤ fuel → listed.size = ops.size →
    (∀ i, i < ops.size → (listed.getD i true = false ↔ ∃ x ∈ its, x.i = i)) → okPls (its.map (plOf ops.toList)) = true → (∀ x ∈ its, x.i < ops.size ∧ ∀ e ∈ aftOf ops.toList x.i, e < x.i) →
    (∀ x ∈ its, x.free = true) → JN C ops (fun E' => K C (Q .normal) E' L) L its E → K C (fun a w => wpAnyIn (Fw C.ro) 0 C.P .any ops Q fuel listed a w) E L := by
  intro fuel
  induction fuel with
  | zero =>
    intro its listed E hlen hsz hin _ _ _ hJ
    have : its = [] := List.length_eq_zero_iff.1 (by omega)
    subst this
    intro a w p
    refine ⟨?_, hJ a w p⟩
    rw [List.eq_nil_iff_forall_not_mem]
    intro i hi
    obtain ⟨h1, h2, _⟩ := mem_ready.1 hi
    obtain ⟨x, hx, _⟩ := (hin i h1).1 h2
    cases hx
  | succ fuel ih =>
    intro its listed E hlen hsz hin hok hlt hfr hJ
    -- if nothing is ready, nothing is left
    have hdone : Region.ready .any ops listed = [] → its = [] := by
      intro hr
      have hall : ∀ i, i < ops.size → listed.getD i true = true := by
        intro i
        induction i using Nat.strongRecOn with
        | _ i ihi =>
          intro hi
          cases hl : listed.getD i true with
          | true => rfl
          | false =>
            have ho : ops[i]? = some ops[i] := Array.getElem?_eq_getElem hi
            obtain ⟨x, hx, hxi⟩ := (hin i hi).1 hl
            have h1 := (hlt x hx).2
            rw [hxi] at h1
            have hm : i ∈ Region.ready .any ops listed := mem_ready.2 ⟨hi, hl, _, ho, fun e he => by
              have he' : e < i := h1 e (by simpa [aftOf, hi] using he)
              rw [getD_any (by omega) false true]
              exact ihi e he' (by omega)⟩
            rw [hr] at hm; cases hm
      match its with
      | [] => rfl
      | x :: _ =>
        have h1 := (hlt x (by simp)).1
        have := (hin x.i h1).2 ⟨x, by simp, rfl⟩
        rw [hall x.i h1] at this; cases this
    intro a w p
    refine ⟨fun hr => ?_, fun i hi => ?_⟩
    · have := hdone hr
      subst this
      exact hJ a w p
    · obtain ⟨hlti, hnl, o, ho, haft⟩ := mem_ready.1 hi
      obtain ⟨b, hb, hbi⟩ := (hin i hlti).1 hnl
      obtain ⟨l1, l2, rfl⟩ := List.append_of_mem hb
      have hoi : ops.toList[b.i]? = some o := by rw [hbi]; simpa using ho
      have haft' : aftOf ops.toList b.i = aftN o := by simp only [aftOf, hoi]
      -- what is left is not listed
      have hleft : ∀ x ∈ l1 ++ b :: l2, x.i ∉ aftOf ops.toList b.i := fun x hx hm => by
        rw [haft'] at hm
        have h1 := haft _ hm
        have h2 := (hlt x hx).1
        have h3 := (hin x.i h2).2 ⟨x, hx, rfl⟩
        rw [getD_any (by omega) true false, h1] at h3; cases h3
      rw [List.map_append, List.map_cons] at hok
      have hpair : ∀ a ∈ l1, okPair (plOf ops.toList a) (plOf ops.toList b) = true := fun a ha => okPls_pair hok _ (List.mem_map_of_mem ha)
      have hfree : ∀ a ∈ l1, a.free = true := fun x hx => hfr x (by simp [hx])
      have hJ' := JN_pull hpair (fun a ha => hleft a (by simp [ha])) hJ
      have hsub : ∀ x ∈ l1 ++ l2, x ∈ l1 ++ b :: l2 := fun x hx => by
        rcases List.mem_append.1 hx with hx | hx <;> simp [hx]
      have hpairs : ∀ x ∈ l1 ++ l2, x.i ≠ b.i := fun x hx => by
        rcases List.mem_append.1 hx with hx | hx
        · have := hpair x hx
          simp only [okPair, plOf, Bool.and_eq_true, Bool.not_eq_true'] at this
          intro e; rw [e] at this; simp at this
        · have h2 : ∀ {l1 : List Pl} {b : Pl} {l2 : List Pl}, okPls (l1 ++ b :: l2) = true → okPls (b :: l2) = true := by
            intro l1
            induction l1 with
            | nil => intro b l2 h; exact h
            | cons c l1 ih => intro b l2 h; simp only [List.cons_append, okPls, Bool.and_eq_true] at h; exact ih h.2
          have := h2 hok
          simp only [okPls, Bool.and_eq_true, List.all_eq_true] at this
          have := this.1.1 _ (List.mem_map_of_mem hx)
          simp only [okPair, plOf, Bool.and_eq_true, Bool.not_eq_true'] at this
          intro e; rw [e] at this; simp at this
      have rest : ∀ E', JN C ops (fun E' => K C (Q .normal) E' L) L (l1 ++ l2) E' → K C (fun a w => wpAnyIn (Fw C.ro) 0 C.P .any ops Q fuel (listed.setIfInBounds i true) a w) E' L := by
        intro E' hk
        refine ih (l1 ++ l2) _ E' (by simp only [List.length_append, List.length_cons] at hlen ⊢; omega) (by simpa using hsz) (fun j hj => ?_) (by
          rw [List.map_append]
          exact okPls_sub hok fun x hx => (List.mem_map.1 hx).elim fun y hy => hy.2 ▸ hfree y hy.1) (fun x hx => hlt x (hsub x hx)) (fun x hx => hfr x (hsub x hx)) hk
        by_cases hji : i = j
        · subst hji
          rw [getD_set_same (by omega)]
          constructor
          · intro h; cases h
          · rintro ⟨x, hx, e⟩
            exact absurd (e.trans hbi.symm) (hpairs x hx)
        · rw [getD_set_ne hji, hin j hj]
          constructor
          · rintro ⟨x, hx, e⟩
            refine ⟨x, ?_, e⟩
            rcases List.mem_append.1 hx with hx | hx
            · simp [hx]
            · rcases List.mem_cons.1 hx with rfl | hx
              · exact absurd (hbi.symm.trans e) hji
              · simp [hx]
          · rintro ⟨x, hx, e⟩
            exact ⟨x, hsub x hx, e⟩
      obtain ⟨bi, tb, fb⟩ := b
      simp only at hbi hoi
      subst hbi
      have ho' : ops[bi]? = some o := ho
      obtain ⟨o', A, ho2, hl, hs, hk⟩ := hJ'
      rw [ho'] at ho2; cases ho2
      exact hs.op ho' hl (rest _ hk) a w p
theorem J_drawN {C : Cx} {id : Nat} {ops : Array Oper} (its : List It) {Q : Exit → Act → World → Prop} {E : Env} {L : List SP} (hmix : C.P.follows .mixedOrders = true) (hok : okM ops.toList its = true) (hfr : its.all (·.free) = true)
    (hJ : JN C ops (fun E' => K C (Q .normal) E' L) L its E) : J C (.region id ops true) Q E L := fun a w p => by
  refine wpIn_region_draw (fun t => ?_)
  simp only [Region.schedule, hmix, Bool.true_or, if_true]
  refine wpAnyIn_sound ops.size t _ a _ ?_
  simp only [okM, Bool.and_eq_true, List.all_eq_true, List.any_eq_true] at hok
  obtain ⟨⟨⟨h1, h2⟩, h3⟩, h4⟩ := hok
  have h5 : ∀ x ∈ its, x.i < ops.size := fun x hx => by have := h4 x hx; simpa using this
  have hnd : (its.map (·.i)).Nodup := by
    have : ∀ {l : List It}, okPls (l.map (plOf ops.toList)) = true → (l.map (·.i)).Nodup := by
      intro l
      induction l with
      | nil => intro _; simp
      | cons x l ih =>
        intro h
        simp only [List.map_cons, okPls, Bool.and_eq_true, List.all_eq_true] at h
        simp only [List.map_cons, List.nodup_cons]
        refine ⟨fun hm => ?_, ih h.2⟩
        obtain ⟨y, hy, e⟩ := List.mem_map.1 hm
        have := h.1.1 _ (List.mem_map_of_mem hy)
        simp only [okPair, plOf, Bool.and_eq_true, Bool.not_eq_true'] at this
        rw [e] at this; simp at this
    exact this h1
  have hlen : its.length ≤ ops.size := by
    have := nodup_le hnd (n := ops.size) (fun i hi => by
      obtain ⟨x, hx, rfl⟩ := List.mem_map.1 hi
      exact h5 x hx)
    simpa using this
  refine wpAny_JN ops.size its _ E hlen (by simp) (fun i hi => ?_) h1 (fun x hx => ⟨h5 x hx, fun e he => ?_⟩) (fun x hx => List.all_eq_true.1 hfr x hx) hJ a _ ?_
  · constructor
    · intro _
      obtain ⟨x, hx, e⟩ := h3 i (by simpa using hi)
      exact ⟨x, hx, (Nat.eq_of_beq_eq_true e).symm⟩
    · intro _; simp [Array.getD_eq_getD_getElem?, hi]
  · have := h2 _ (List.mem_map_of_mem hx) e he
    simpa [plOf] using this
  · obtain ⟨hsz, hds, h, m, hl, sp, st, fr⟩ := p
    exact ⟨hsz, hds, h, m, hl.trans (HL.same (Same.drew _)), ⟨(by first | exact Sep.inv (by assumption) | exact Inv.mono (PH.le_join_left _ _) (Sep.inv (by assumption))), sp.hm, sp.hr, sp.mr, sp.hw, sp.mw, sp.rw⟩, st, fr⟩
open Go
section
variable {C : Cx} {E : Env} {L : List SP} {d : Option Nat} {ty : Nat} {pos : String} {af : Array Edge} {g : Option (Nat × Bool)}
/-- s[:n] of a slice that may not change. -/
theorem step_slice_toI {α : Type} {T e n : Nat} {R : Rp α} {x y : Operand} {xs : List α} {k : IntKind} {i : Int} (hu : C.P.underlying T = some (.slice e)) (hR : TyOf C.P e R)
    (hx : Sub (opTy E x) (tSl R xs)) (hy : Sub (opTy E y) (tV (.int k i))) (hi : i = n) (hn : n ≤ xs.length) :
    Step1 C ⟨d, .slice T x none (some y) none, ty, pos, af, g⟩ E L (tSl R (xs.take n)) :=
  Step.of_run (by intro c h; cases h) fun a w h m l sp st fr => by
    obtain ⟨ao, ⟨cap, hlc⟩, hv, H⟩ := fr.get hx
    have hv : a.eval x = .slice ao xs.length cap := hv
    have h2 : a.eval y = .int k i := fr.get hy
    subst hi
    refine ⟨(), .slice (if cap = 0 then ao else ao.map (·.add 0)) n cap, w, h, _, ?_, HL.refl, sp, st, ⟨_, ⟨cap, by rw [List.length_take, Nat.min_eq_left hn]; omega⟩, by show Value.slice _ n cap = Value.slice _ (xs.take n).length cap; rw [List.length_take, Nat.min_eq_left hn], fun hne => ?_⟩⟩
    · simp [execOp, Instr.sliceAt, run_underlying hu, hv, h2, Instr.slice, Instr.sliceBounds, Instr.sliceBound, asIntOf, hR.size, show n ≤ cap by omega]
    · have h0 : 0 < n := by
        rcases Nat.eq_zero_or_pos n with q | q
        · subst q; exact absurd (by simp) hne
        · exact q
      obtain ⟨b, off, ea, H'⟩ := H (fun e => by rw [e] at hn; simp at hn; omega)
      refine ⟨b, off, by rw [if_neg (by omega), ea]; simp [addr_add], fun j z hz => H' j z ?_⟩
      rw [List.getElem?_take] at hz
      split at hz
      · exact hz
      · cases hz
theorem step_rem {T U : Nat} {x y : Operand} {a b : Int} (hx : Sub (opTy E x) (tV (.int .i64 a))) (hy : Sub (opTy E y) (tV (.int .i64 b))) (ha : 0 ≤ a) (hb : 0 < b) :
    Step1 C ⟨d, .binOp .rem T x y U, ty, pos, af, g⟩ E L (tV (.int .i64 (a % b))) := step_int hx hy (fun P w => by
  have h1 : a.tmod b = a % b := Int.tmod_eq_emod_of_nonneg ha
  have h2 : ¬ b = 0 := by omega
  simp [binOp, Op.intDiv, h1, h2])
end
theorem arg_u8 {H : Type} {enc : TypeId × Value → H} {P : Program} {W : World} {base : Nat} {t : Nat} {v : Value} {d : DataW H} {p : List MemPlace} (hu : P.underlying t = some (.int .u8)) (hok : Value.okWide P W .any base t v) (h : DataW.Trod enc P W 0 (fun _ => true) true t v d p) :
    ∃ n : Int, (tV (.int .u8 n)).p (wholeH W) v ∧ 0 ≤ n ∧ n < 256 := by
  obtain ⟨n, rfl⟩ := Go.WideShapes.okWide_int hu hok
  obtain ⟨fuel, h⟩ := h
  obtain ⟨m, e1, _, hw⟩ := DataW.trod_int hu h
  have e2 : n = m := by
    have := (List.cons.inj e1).1
    injection this
  subst e2
  refine ⟨n, rfl, ?_⟩
  simp only [Lit.wf, Bool.and_eq_true, decide_eq_true_eq] at hw
  have h1 : IntKind.u8.min = 0 := by rfl
  have h2 : IntKind.u8.max = 255 := by rfl
  omega
open Go
abbrev toB (s : List UInt8) : ByteArray := ⟨s.toArray⟩
/-- The world that a call leaves behind, below the first heap as it was. -/
theorem sep_below {h m r : PH} {w w' : World} (s : Sep h m r w) (b : RowKit.Below w.heap.size w w') : HL h w h w' ∧ Sep h m r w' := by
  have go : ∀ {p : PH}, p.inw w → p.inw w' := fun {p} hp b' o e => by
    have := hp b' o e
    rw [b.block _ (Array.getElem?_eq_some_iff.1 this).1]; exact this
  exact ⟨HL.same ⟨b.os, b.tape, b.output⟩, ⟨s.inv, s.hm, s.hr, s.mr, go s.hw, go s.mw, go s.rw⟩⟩
open Go
section
variable {κ β : Type} [DecidableEq κ] {kv : κ → Value} {R : Rp β}
variable {C : Cx} {E : Env} {L : List SP} {d : Option Nat} {ty : Nat} {pos : String} {af : Array Edge} {g : Option (Nat × Bool)}
/-- The first place of a key. -/
def fi (q : κ) : List (κ × β) → Option Nat
  | [] => none
  | (k, _) :: m => if q = k then some 0 else (fi q m).map (· + 1)
theorem entR.fi {h : PH} {q : κ} : ∀ {m : List (κ × β)} {es : List MapEntry} {n i : Nat}, entR kv R h m es n → Lg.fi q m = some i →
    (es.findIdx? fun e => (e.born : Int) == ((n + i : Nat) : Int)) = some i ∧ ∀ y u, (R.ty y).p h u → entR kv R h (mput m q y) (es.modify i fun e => { e with val := u }) n
  | [], [], _, _, _, q => by cases q
  | (k, x) :: m, e :: es, n, i, hq, hi => by
    obtain ⟨h1, h2, h3, h4⟩ := hq
    by_cases hk : q = k
    · subst hk
      have : i = 0 := by simpa [Lg.fi, eq_comm] using hi
      subst this
      refine ⟨by simp [List.findIdx?_cons, h3], fun y u hu => ?_⟩
      simp only [mput, if_true]
      exact ⟨h1, hu, h3, h4⟩
    · simp only [Lg.fi, if_neg hk, Option.map_eq_some_iff] at hi
      obtain ⟨j, hj, rfl⟩ := hi
      obtain ⟨a, b⟩ := entR.fi h4 hj
      refine ⟨?_, fun y u hu => ?_⟩
      · rw [List.findIdx?_cons]
        have : ((e.born : Int) == ((n + (j + 1) : Nat) : Int)) = false := by simp [h3]; omega
        rw [this]
        have e2 : ((n + 1 + j : Nat) : Int) = ((n + (j + 1) : Nat) : Int) := by omega
        rw [e2] at a
        simp only [Bool.false_eq_true, if_false]
        rw [a]; rfl
      · simp only [mput, if_neg hk]
        exact ⟨h1, h2, h3, b y u hu⟩
end
section
variable {C : Cx} {E : Env} {L : List SP} {d : Option Nat} {ty : Nat} {pos : String} {af : Array Edge} {g : Option (Nat × Bool)}
theorem nth_bytes {s : ByteArray} {i : Nat} (h : i < s.size) : s[i]? = some (s.data.toList.getD i 0) := by
  have h2 : i < s.data.size := h
  rw [getElem?_pos s i h]
  simp [List.getD, h2]
  rw [Array.getElem?_eq_getElem h2]; rfl
theorem step_index_str {T i : Nat} {x y : Operand} {s : ByteArray} {k : IntKind} {n : Int} (hu : C.P.underlying T = some .string) (hx : Sub (opTy E x) (tV (.string s))) (hy : Sub (opTy E y) (tV (.int k n))) (hi : n = i) (hl : i < s.size) :
    Step1 C ⟨d, .index T x y, ty, pos, af, g⟩ E L (tV (.int .u8 (nth (bytesOf s) i))) :=
  Step.of_same (by intro c h; cases h) fun a w h hh f => by
    have h1 : a.eval x = .string s := f.get hx
    have h2 : a.eval y = .int k n := f.get hy
    subst hi
    have e : nth (bytesOf s) i = ((s.data.toList.getD i 0).toNat : Int) := by
      have hl' : i < (bytesOf s).length := by rw [bytesOf_len]; exact hl
      rw [nth_get hl']
      have h2 : i < s.data.toList.length := hl
      have h3 : i < s.data.size := hl
      simp only [bytesOf, List.getElem_map]
      rw [List.getD_eq_getElem?_getD, List.getElem?_eq_getElem h2]
      rfl
    refine ⟨.int .u8 (nth (bytesOf s) i), ?_, rfl⟩
    rw [e]
    simp [execOp, Instr.index, h1, h2, run_underlying hu, asIntOf, nth_bytes hl]
theorem step_quo {T U : Nat} {x y : Operand} {a b : Int} (hx : Sub (opTy E x) (tV (.int .i64 a))) (hy : Sub (opTy E y) (tV (.int .i64 b))) (ha : 0 ≤ a) (hb : 0 < b) (hr : in64 (a / b)) :
    Step1 C ⟨d, .binOp .quo T x y U, ty, pos, af, g⟩ E L (tV (.int .i64 (a / b))) := step_int hx hy (fun P w => by
  have h1 : a.tdiv b = a / b := Int.tdiv_eq_ediv_of_nonneg ha
  have h2 : ¬ b = 0 := by omega
  simp [binOp, Op.intDiv, h1, h2, wrap64_in hr])
theorem step_add_str {T U : Nat} {x y : Operand} {a b : ByteArray} (hx : Sub (opTy E x) (tV (.string a))) (hy : Sub (opTy E y) (tV (.string b))) (hs : a.size + b.size ≤ 9223372036854775807) :
    Step1 C ⟨d, .binOp .add T x y U, ty, pos, af, g⟩ E L (tV (.string (a ++ b))) := step_str hx hy (fun P w => by simp [binOp, Op.stringOp]; omega)
/-- s == nil -/
theorem step_eql_slnil {α : Type} {T U e : Nat} {R : Rp α} {x : Operand} {xs : List α} (hu : C.P.underlying T = some (.slice e)) (hx : Sub (opTy E x) (tSl R xs)) :
    Step (X := { b : Bool // b = true → xs = [] }) C ⟨d, .binOp .eql T x (.const (.slice none 0 0)) U, ty, pos, af, g⟩ E L (fun b => tV (.bool b.1)) (fun _ => L) :=
  Step.of_run (by intro c h; cases h) fun a w h m l sp st fr => by
    obtain ⟨ao, cap, hv, H⟩ := fr.get hx
    refine ⟨⟨ao.isNone, fun hb => ?_⟩, .bool ao.isNone, w, h, m, ?_, HL.refl, sp, st, rfl⟩
    · by_cases hne : xs = []
      · exact hne
      · obtain ⟨b, off, rfl, _⟩ := H hne
        cases hb
    · have he : ∀ w, (eqGuard .eql T x (.const (.slice none 0 0)) (a.eval x) (.slice none 0 0)).run C.P w = .ok () w := by intro w; rw [hv]; simp [eqGuard]
      have h2 : a.eval (.const (.slice none 0 0)) = .slice none 0 0 := rfl
      have hr := Lib.run_eql_slice_nil (P := C.P) w T e ao xs.length cap 0 0 hu
      rw [hv] at he
      simp [execOp, hv, h2, Sem.run_bind, he, hr]
theorem Sep.newImm {h m r : PH} {w w' : World} {o : Obj} (s : Sep h m r w) (hold : ∀ j, j < w.heap.size → w'.heap[j]? = w.heap[j]?) (hnew : w'.heap[w.heap.size]? = some o) : Sep (h.join (PH.one w.heap.size o)) m r w' := by
  have s2 := s.allocImm o
  have go : ∀ {p : PH}, p.inw (w.alloc o) → p.inw w' := fun {p} hp b o' e => by
    have h1 := hp b o' e
    have hlt := (Array.getElem?_eq_some_iff.1 h1).1
    rw [show (w.alloc o).heap = w.heap.push o from rfl] at h1 hlt
    by_cases hb : b < w.heap.size
    · rw [hold b hb]; rw [Array.getElem?_push_lt hb] at h1; rw [Array.getElem?_eq_getElem hb]; exact h1
    · have : b = w.heap.size := by simp at hlt; omega
      subst this
      rw [hnew]; simpa using h1
  exact ⟨s2.inv, s2.hm, s2.hr, s2.mr, go s2.hw, go s2.mw, go s2.rw⟩
/-- []byte(s) -/
theorem step_convert_bytes {T U e : Nat} {x : Operand} {s : ByteArray} (hs : C.P.underlying T = some .string) (hd : C.P.underlying U = some (.slice e)) (he : C.P.underlying e = some (.int .u8)) (hx : Sub (opTy E x) (tV (.string s))) :
    Step1 C ⟨d, .convert T U x, ty, pos, af, g⟩ E L (tSl rU8 (bytesOf s)) :=
  Step.of_run (by intro c h; cases h) fun a w h m l sp st fr => by
    have hv : a.eval x = .string s := fr.get hx
    refine ⟨(), .slice (some ⟨w.heap.size, 0, none⟩) s.size (grownCap w s.size 0 e), Lib.bytesWorld w e s, h.join (PH.one w.heap.size (.cells (Lib.bytesCells w e s) e ((Lib.bytesCells w e s).size, (Lib.bytesCells w e s).size + 1))), m, ?_, ⟨PH.le_join_left _ _, ?_⟩, sp.newImm (fun j hj => Lib.bytesWorld_at_old w e s j hj) (Lib.bytesWorld_at_new w e s), (stars L).mono (PH.le_join_left _ _) st, ?_⟩
    · simp [execOp, hv, Lib.run_convert_string_bytes (P := C.P) w T U e s hs hd he]
    · exact ⟨rfl, rfl, rfl⟩
    · have := tSl_of_relAll (R := rU8) (h := h.join (PH.one w.heap.size (.cells (Lib.bytesCells w e s) e ((Lib.bytesCells w e s).size, (Lib.bytesCells w e s).size + 1)))) (b := w.heap.size) (off := 0) (cap := grownCap w s.size 0 e) (c := Lib.bytesCells w e s) (e := e) (fz := ((Lib.bytesCells w e s).size, (Lib.bytesCells w e s).size + 1)) (xs := bytesOf s) (cs := (bytesOf s).map (Value.int .u8 ·)) (PH.le_join_right (PH.one_disj_new sp.hw _) _ _ (PH.one_same _ _)) (relAll_u8.2 rfl) (fun j v hv => by
        simp only [List.getElem?_map, Option.map_eq_some_iff] at hv
        obtain ⟨n, hn, rfl⟩ := hv
        simp only [bytesOf, List.getElem?_map, Option.map_eq_some_iff] at hn
        obtain ⟨b, hb, rfl⟩ := hn
        have hlt : j < s.data.size := by
          have := (List.getElem?_eq_some_iff.1 hb).1
          simpa using this
        rw [Nat.zero_add]
        simp only [Lib.bytesCells]
        rw [Array.getElem?_append_left (by simpa using hlt)]
        have hb2 : s.data[j]? = some b := by simpa using hb
        simp [hb2])
      rw [bytesOf_len] at this
      exact this (grownCap_ge _ _ _ _)
/-- s[n:] of a slice that may not change, of elements of one cell. -/
theorem step_slice_fromI {α : Type} {T e n : Nat} {R : Rp α} {x y : Operand} {xs : List α} {k : IntKind} {i : Int} (hu : C.P.underlying T = some (.slice e)) (hR : TyOf C.P e R) (hk : R.k = 1)
    (hx : Sub (opTy E x) (tSl R xs)) (hy : Sub (opTy E y) (tV (.int k i))) (hi : i = n) (hn : n ≤ xs.length) :
    Step1 C ⟨d, .slice T x (some y) none none, ty, pos, af, g⟩ E L (tSl R (xs.drop n)) :=
  Step.of_run (by intro c h; cases h) fun a w h m l sp st fr => by
    obtain ⟨ao, ⟨cap, hlc⟩, hv, H⟩ := fr.get hx
    have hv : a.eval x = .slice ao xs.length cap := hv
    have h2 : a.eval y = .int k i := fr.get hy
    have hsz : ∀ w, (Go.sizeOf e).run C.P w = .ok 1 w := fun w => by have := hR.size w; rw [hk] at this; exact this
    subst hi
    refine ⟨(), .slice (if cap = n then ao else ao.map (·.add n)) (xs.length - n) (cap - n), w, h, _, ?_, HL.refl, sp, st, ⟨_, ⟨cap - n, by rw [List.length_drop]; omega⟩, by show Value.slice _ (xs.length - n) (cap - n) = Value.slice _ (xs.drop n).length (cap - n); rw [List.length_drop], fun hne => ?_⟩⟩
    · simp [execOp, Instr.sliceAt, run_underlying hu, hv, h2, Instr.slice, Instr.sliceBounds, Instr.sliceBound, asIntOf, hsz, hn]
    · have hlt : n < xs.length := by
        rcases Nat.lt_or_ge n xs.length with q | q
        · exact q
        · exact absurd (List.drop_of_length_le q) hne
      obtain ⟨b, off, ea, H'⟩ := H (fun e => by rw [e] at hlt; simp at hlt)
      refine ⟨b, off + n, by rw [if_neg (by omega), ea]; simp [addr_add], fun j z hz => ?_⟩
      obtain ⟨cs, q1, q2⟩ := H' (n + j) z (by simpa [List.getElem?_drop] using hz)
      rw [hk, Nat.mul_one] at q1 ⊢
      exact ⟨cs, by rw [show off + n + j = off + (n + j) by omega]; exact q1, q2⟩
end
open Go Go.Proofs
/-- An array of n elements. -/
def rArr {β : Type} (n : Nat) (R : Rp β) : Rp (List β) where
  k := n * R.k
  agg := true
  rel := fun h xs cs => xs.length = n ∧ relAll R h xs cs
  ty := fun xs => ⟨fun h v => ∃ cs, (xs.length = n ∧ relAll R h xs cs) ∧ v = packV true cs, fun l ⟨cs, r, e⟩ => ⟨cs, ⟨r.1, relAll_mono l r.2⟩, e⟩⟩
  len := by rintro h xs cs ⟨rfl, r⟩; exact relAll_len r
  one := by rintro h xs cs ⟨_, r⟩; exact relAll_one r
  mono := fun l r => ⟨r.1, relAll_mono l r.2⟩
  scalar := fun e => by cases e
  iff := Iff.rfl
section
variable {C : Cx} {E : Env} {L : List SP} {d : Option Nat} {ty : Nat} {pos : String} {af : Array Edge} {g : Option (Nat × Bool)}
theorem step_nilCheck {x : Operand} {b o : Nat} (hx : Sub (opTy E x) (tAt b o)) : Step1 C ⟨d, .nilCheck x, ty, pos, af, g⟩ E L (tAt b o) :=
  Step.of_same (by intro c h; cases h) fun a w h hw fr => by
    have hv : a.eval x = .pointer (some ⟨b, o, none⟩) := fr.get hx
    exact ⟨_, by simp [execOp, hv], rfl⟩
theorem step_nilCheckP {α : Type} {R : Rp α} {x : Operand} {y : α} (hx : Sub (opTy E x) (tPtr R y)) : Step1 C ⟨d, .nilCheck x, ty, pos, af, g⟩ E L (tPtr R y) :=
  Step.of_same (by intro c h; cases h) fun a w h hw fr => by
    have hp := fr.get hx
    obtain ⟨b, off, cs, hv, H⟩ := hp
    exact ⟨_, by simp [execOp, hv], ⟨b, off, cs, rfl, H⟩⟩
theorem step_arrIdx {T n e b o i : Nat} {x y : Operand} {k : IntKind} {z : Int} (hu : C.P.underlying T = some (.array n e)) (hs : ∀ w, (Go.sizeOf e).run C.P w = .ok 1 w) (hx : Sub (opTy E x) (tAt b o)) (hy : Sub (opTy E y) (tV (.int k z))) (hz : z = i) (hlt : i < n) :
    Step1 C ⟨d, .indexAddr T x y, ty, pos, af, g⟩ E L (tAt b (o + i)) :=
  Step.of_same (by intro c h; cases h) fun a w h hw fr => by
    have hv : a.eval x = .pointer (some ⟨b, o, none⟩) := fr.get hx
    have h2 : a.eval y = .int k z := fr.get hy
    subst hz
    refine ⟨.pointer (some ⟨b, o + i, none⟩), ?_, rfl⟩
    simp [execOp, Instr.indexAt, Instr.sureAddr, hv, h2, asIntOf, run_underlying hu, hs, hlt, addr_add]
theorem step_arrIdxP {β : Type} [Inhabited β] {R : Rp β} {T n e i : Nat} {x y : Operand} {xs : List β} {k : IntKind} {z : Int} (hu : C.P.underlying T = some (.array n e)) (hR : TyOf C.P e R) (hk : R.k = 1) (hx : Sub (opTy E x) (tPtr (rArr n R) xs)) (hy : Sub (opTy E y) (tV (.int k z))) (hz : z = i) (hlt : i < n) :
    Step1 C ⟨d, .indexAddr T x y, ty, pos, af, g⟩ E L (tPtr R (nth xs i)) :=
  Step.of_same (by intro c h; cases h) fun a w h hw fr => by
    obtain ⟨b, off, cs, hv, ⟨c, e', fz, hb, hc⟩, hn, r⟩ := fr.get hx
    have h2 : a.eval y = .int k z := fr.get hy
    subst hz
    have hl : i < xs.length := by omega
    obtain ⟨c', r', hc'⟩ := relAll_get r (List.getElem?_eq_getElem hl)
    have hs := hR.size
    rw [hk] at hs
    refine ⟨.pointer (some ⟨b, off + i, none⟩), ?_, b, off + i, c', rfl, ⟨c, e', fz, hb, fun j v hv' => ?_⟩, by rw [nth_get hl]; exact r'⟩
    · simp [execOp, Instr.indexAt, Instr.sureAddr, hv, h2, asIntOf, run_underlying hu, hs, hlt, addr_add]
    · rw [Nat.add_assoc]
      have := hc' j v hv'
      rw [hk, Nat.mul_one] at this
      exact hc _ _ this
theorem step_load_arr {α β : Type} [Inhabited β] {T U A n b i : Nat} {R : Rp β} {gt : α → List β} {fs : List (SF α)} {x : Operand} {y : α} {S : List SP} (hR : TyOf C.P T R) (hk : R.k = 1) (hx : Sub (opTy E x) (tAt b i)) (hi : i < n)
    (sel : Sel L [box b U (rStruct (⟨List β, A, rArr n R, gt⟩ :: fs)) y] S) : Step1 C ⟨d, .load T x, ty, pos, af, g⟩ E L (R.ty (nth (gt y) i)) :=
  Step.of_run (by intro c h; cases h) fun a w h m l sp st fr => by
    obtain ⟨m1, m2, d12, rfl, ⟨cs, r, rfl⟩, s2⟩ := sel.one.1 st
    have hb := sp.heap_own
    obtain ⟨c1, c2, rfl, ⟨hn, r1⟩, r2⟩ := r
    have hl : i < (gt y).length := by simpa using hn ▸ hi
    obtain ⟨c', r', hc'⟩ := relAll_get r1 (List.getElem?_eq_getElem hl)
    have := run_loadVar_cells (b := b) (o := i) (w := w) hR.agg hR.size (R.len r') R.scalar (fun j v hv' => by
      have h1 := hc' j v hv'
      rw [hk, Nat.mul_one] at h1
      rw [inw_cells (h := h) hb]
      have hlt := (List.getElem?_eq_some_iff.1 h1).1
      simp [List.getElem?_append_left hlt, h1])
    refine ⟨(), packV R.agg c', w, h, _, ?_, HL.refl, sp, st, ?_⟩
    · have hv : a.eval x = .pointer (some ⟨b, i, none⟩) := fr.get hx
      simp [execOp, Instr.loadAt, Instr.sureAddr, hv, this]
    · rw [nth_get hl]; exact R.pack r'
theorem relAll_set1 {β : Type} {R : Rp β} {h : PH} (hk : R.k = 1) {xs : List β} {cs : List Value} {i : Nat} {z : β} {u : Value} (hi : i < xs.length) (rz : R.rel h z [u]) (r : relAll R h xs cs) : relAll R h (xs.set i z) (cs.set i u) := by
  have h1 := relAll_set rz hi r
  rw [hk] at h1
  simp only [Nat.mul_one] at h1
  have hl := relAll_len r
  rw [hk, Nat.mul_one] at hl
  have e : cs.set i u = List.take i cs ++ u :: List.drop (i + 1) cs := by rw [List.set_eq_take_append_cons_drop, if_pos (by omega)]
  rw [e]
  simpa [List.append_assoc] using h1
theorem step_store_arr {α β : Type} {T U A n b i : Nat} {R : Rp β} {gt : α → List β} {fs : List (SF α)} {x v : Operand} {y y' : α} {z : β} {S : List SP} (hR : TyOf C.P T R) (hk : R.k = 1) (hx : Sub (opTy E x) (tAt b i)) (hi : i < n) (hv : Sub (opTy E v) (R.ty z))
    (sel : Sel L [box b U (rStruct (⟨List β, A, rArr n R, gt⟩ :: fs)) y] S) (hy : gt y' = (gt y).set i z) (hg : ∀ f ∈ fs, f.get y' = f.get y) :
    Step C ⟨d, .store T x v, ty, pos, af, g⟩ E L (fun _ : Unit => tAny) (fun _ => box b U (rStruct (⟨List β, A, rArr n R, gt⟩ :: fs)) y' :: S) :=
  Step.of_skip (by intro c h; cases h) fun a w h m l sp st fr => by
    obtain ⟨m1, m2, d12, rfl, ⟨cs, r, rfl⟩, s2⟩ := sel.one.1 st
    have hb := sp.heap_own
    obtain ⟨c1, c2, rfl, ⟨hn, r1⟩, r2⟩ := r
    have hl : i < (gt y).length := by simpa using hn ▸ hi
    have rz := R.cells (fr.get hv)
    have hzl := R.len rz
    rw [hk] at hzl
    obtain ⟨u, hu⟩ : ∃ u, (a.eval v).cells.toList = [u] := by
      match he : (a.eval v).cells.toList with
      | [u] => exact ⟨u, rfl⟩
      | [] => rw [he] at hzl; simp at hzl
      | _ :: _ :: _ => rw [he] at hzl; simp at hzl
    have hl1 := relAll_len r1
    rw [hk, Nat.mul_one] at hl1
    have hp : a.eval x = .pointer (some ⟨b, i, none⟩) := fr.get hx
    have hsz : (a.eval v).cells.size = R.k := by rw [hk, ← Array.length_toList, hu]; rfl
    obtain ⟨w', hrun, hoth, hsame, hnew⟩ := run_storeVar_cells (P := C.P) (b := b) (o := i) (v := a.eval v) hR.size hsz hb (by simp; omega) (R.one rz)
    rw [hu] at rz hnew
    have hcells : List.take i (c1 ++ c2) ++ [u] ++ List.drop (i + R.k) (c1 ++ c2) = c1.set i u ++ c2 := by
      rw [hk, List.set_eq_take_append_cons_drop, if_pos (by omega), List.take_append_of_le_length (by omega), List.drop_append_of_le_length (by omega)]
      simp [List.append_assoc]
    refine ⟨(), w', h, (PH.one b (.cells (c1.set i u ++ c2).toArray U (0, 0))).join m2, ?_, HL.same hsame, Sep.write d12 sp (fun b' hne _ => hoth b' hne) (by rw [hnew, ← hcells]), ?_⟩
    · simp [execOp, Instr.storeAt, Instr.sureAddr, hp, hrun]
    · refine ⟨_, m2, PH.one_disj_iff.2 (PH.one_disj_iff.1 d12), rfl, ⟨c1.set i u ++ c2, ⟨c1.set i u, c2, rfl, ?_, SF.rel_congr hg r2⟩, rfl⟩, s2⟩
      exact ⟨by show (gt y').length = n; rw [hy]; simpa using hn, by show relAll R h (gt y') _; rw [hy]; exact relAll_set1 hk hl rz r1⟩
/-- make([]T, 0, c). -/
theorem step_make0 {α : Type} {T e bytes : Nat} {R : Rp α} {z : α} {x y : Operand} {c : Nat} {kl kc : IntKind} {i j : Int} (hu : C.P.underlying T = some (.slice e)) (hE : ElT C.P e R bytes z)
    (hx : Sub (opTy E x) (tV (.int kl i))) (hy : Sub (opTy E y) (tV (.int kc j))) (hi : i = 0) (hj : j = c) (hb : bytes * c ≤ 281474976710656) (hn : c ≤ 1000000000000) :
    Step C ⟨d, .makeSlice T x y, ty, pos, af, g⟩ E L (fun v : Value => rV.ty v) (fun v => own e R v ([] : List α) :: L) :=
  Step.of_run (by intro c h; cases h) fun a w h m l sp st fr => by
    obtain ⟨i', zv, hi', hz, hk, hby, hzr⟩ := hE.inf
    subst hi; subst hj
    have h1 : a.eval x = .int kl 0 := fr.get hx
    have h2 : a.eval y = .int kc c := fr.get hy
    have hr := run_make (P := C.P) w T e i' zv hu hi' hz kl kc 0 c (by omega) (by omega) (by rw [hby]; have : ((bytes * c : Nat) : Int) ≤ 281474976710656 := by omega
                                                                                             rwa [Int.natCast_mul] at this) (by omega)
    have rz := R.cells (hzr h)
    refine ⟨.slice (some ⟨w.heap.size, 0, none⟩) 0 c, .slice (some ⟨w.heap.size, 0, none⟩) 0 c, w.alloc (.cells (madeCells zv.cells (c * i'.size)) e), h, (PH.one w.heap.size (.cells (madeCells zv.cells (c * i'.size)) e)).join m, ?_, HL.own _, sp.allocOwn _, ?_, ⟨rfl, rfl⟩⟩
    · simp only [execOp, h1, h2, Sem.run_bind, hr, Result.andThen_ok, Int.toNat_natCast]; rfl
    · have hl := R.len rz
      have hzs : zv.cells.size = R.k := by simpa using hl
      refine ⟨_, m, PH.disj_symm (PH.one_disj_new sp.mw _), rfl, .inr ⟨w.heap.size, c, _, by simp, rfl, by simp, ?_, ?_, ?_⟩, st⟩
      · unfold maxLen; omega
      · rw [size_madeCells, hk]
      · simp; rfl
/-- An interface value of dynamic type T. -/
def tIf (T : Nat) (A : Ty) : Ty := ⟨fun h v => ∃ u, v = .iface T u ∧ A.p h u, fun l ⟨u, e, a⟩ => ⟨u, e, A.mono l a⟩⟩
theorem step_mkIface {T : Nat} {x : Operand} {A : Ty} {D : TypeDesc} (hu : C.P.underlying T = some D) (hD : ∀ m, D ≠ .interface m) (hx : Sub (opTy E x) A) : Step1 C ⟨d, .makeInterface T x, ty, pos, af, g⟩ E L (tIf T A) :=
  Step.of_same (by intro c h; cases h) fun a w h hw fr => by
    refine ⟨.iface T (a.eval x), ?_, a.eval x, rfl, fr.get hx⟩
    simp only [execOp, Instr.makeInterface]
    cases D <;> first | (exact absurd rfl (hD _)) | simp [run_underlying hu]
/-- A call of a method behind an interface. -/
theorem step_invoke {X : Type} {S R : List SP} {x : Operand} {T f : Nat} {A : Ty} {name : String} {xs : Array Operand} {ts : Array Nat} {aT : List Ty} {res : X → Ty} {L' : X → List SP}
    (hx : Sub (opTy E x) (tIf T A)) (hm : ∀ h u w, A.p h u → (method (C.P.types.size + Made.depth) T u name).run C.P w = .ok (f, u) w) (sel : Sel L S R) (sp : Spec C.P f (A :: aT) S res L') (ha : ArgsE E xs.toList aT) (he : ∀ args w, (callFunc f args).run C.P w = .ok (.enter f args) w) :
    Step C ⟨d, .call { callee := .invoke x name, args := xs, argTypes := ts }, ty, pos, af, g⟩ E L res (fun x => L' x ++ R) := fun a w h m n l se st fr next Q hk => by
  obtain ⟨m1, m2, d12, rfl, s1, s2⟩ := sel.stars.1 st
  obtain ⟨u, hv, hu⟩ := fr.get hx
  have hA : Args h (A :: aT) (u :: xs.toList.map a.eval) := ⟨hu, ha.args fr⟩
  have hd := PH.disj_join'.1 se.hm
  have hr := PH.disj_join.1 se.mr
  have hc := sp _ h m1 (m2.join C.r) w hA ⟨(by first | exact Sep.inv (by assumption) | exact Inv.mono (PH.le_join_left _ _) (Sep.inv (by assumption))), hd.1, PH.disj_join'.2 ⟨hd.2, se.hr⟩, PH.disj_join'.2 ⟨d12, hr.1⟩, se.hw, fun b o e => se.mw _ _ (PH.le_join_left _ _ _ _ e),
    PH.join_inw (fun b o e => se.mw _ _ (PH.le_join_right d12 _ _ e)) se.rw⟩ s1
  refine ⟨fun _ _ => trivial, ?_⟩
  rw [Fw_round, Oper.semAt_eq _ _ _ (by intro c h; cases h)]
  have hrun : (execOp a.eval ⟨d, .call { callee := .invoke x name, args := xs, argTypes := ts }, ty, pos, af, g⟩).run C.P w = .ok (.enter f (u :: xs.toList.map a.eval).toArray) w := by
    simp only [execOp, resolve]
    have e0 : (#[Value.iface T u] ++ Array.map a.eval xs)[0]? = some (.iface T u) := by simp [Array.getElem?_append]
    have e2 : (Array.map a.eval xs).extract 0 xs.size = Array.map a.eval xs := by
      have : xs.size = (Array.map a.eval xs).size := by simp
      rw [this, Array.extract_size]
    simp only [invoke, callMethod, hv]
    simp [e0, hm h u _ hu, he, e2]
  rw [hrun]
  refine ⟨by simp, (callsIn_wide (n := 0 - 1)).2 (hc.mono ?_)⟩
  rintro e w' ⟨x, v, h', m', rfl, l', se', st', hv⟩
  have e1 := PH.disj_join'.1 se'.hr
  have e2 := PH.disj_join'.1 se'.mr
  exact hk x v w' h' (m'.join m2) l' ⟨(by first | exact Sep.inv (by assumption) | exact Inv.mono (PH.le_join_left _ _) (Sep.inv (by assumption))), PH.disj_join'.2 ⟨se'.hm, e1.1⟩, e1.2, PH.disj_join.2 ⟨e2.2, hr.2⟩, se'.hw, PH.join_inw se'.mw (fun b o e => se'.rw _ _ (PH.le_join_left _ _ _ _ e)), fun b o e => se'.rw _ _ (PH.le_join_right hr.2 _ _ e)⟩
    (stars_append.2 ⟨m', m2, e2.1, rfl, st', by
      have : (stars R).p h' m2 := (stars R).mono l'.1 s2
      exact this⟩) hv
end
/-- Three cells, as they are. -/
def rCells (n : Nat) : Rp (List Value) where
  k := n
  agg := true
  rel := fun _ x cs => cs = x ∧ x.length = n ∧ ∀ c ∈ x, c.oneCell' = true
  ty := fun x => ⟨fun h v => ∃ cs, (cs = x ∧ x.length = n ∧ ∀ c ∈ x, c.oneCell' = true) ∧ v = packV true cs, fun _ e => e⟩
  len := by rintro _ _ _ ⟨rfl, h, _⟩; exact h
  one := by rintro _ _ _ ⟨rfl, _, h⟩; exact h
  mono := fun _ e => e
  scalar := fun e => by cases e
  iff := Iff.rfl
open Go
section
variable {κ α : Type} [DecidableEq κ]
/-- Keys, the rows that are held under them, what these hold. -/
abbrev RowsL (κ α : Type) := List (κ × Value × List α)
variable {e : Nat} {R : Rp α} {L : List SP}
theorem LSub.head {A : SP} {L L' : List SP} (h : LSub L L') : LSub (A :: L) (A :: L') := LSub.cons (Sel.take (Sel.none _)) SPs.rfl h
theorem LSub.swap {A B : SP} {L : List SP} : LSub (A :: B :: L) (B :: A :: L) := LSub.cons (Sel.skip (Sel.take (Sel.none _))) SPs.rfl (LSub.cons (Sel.take (Sel.none _)) SPs.rfl LSub.rfl)
variable {kv : κ → Value}
variable {C : Cx} {E : Env} {d : Option Nat} {ty : Nat} {pos : String} {af : Array Edge} {g : Option (Nat × Bool)}
end
section
variable {κ α : Type} [DecidableEq κ] {kv : κ → Value} {e : Nat} {R : Rp α}
abbrev lists (q : RowsL κ α) : List (κ × List α) := q.map fun t => (t.1, t.2.2)
end
open Go Go.Proofs
section
variable {P : Program} (w : World)
end
section
variable {C : Cx} {E : Env} {L : List SP} {d : Option Nat} {ty : Nat} {pos : String} {af : Array Edge} {g : Option (Nat × Bool)}
/-- Where a queue begins. -/
def qAt (v : Value) : Value := match v with
  | .slice (some a) _ _ => .pointer (some a)
  | _ => undef
end
section
variable {κ β : Type} [DecidableEq κ] {kv : κ → Value} {R : Rp β}
variable {C : Cx} {E : Env} {L : List SP} {d : Option Nat} {ty : Nat} {pos : String} {af : Array Edge} {g : Option (Nat × Bool)}
end
open Go
structure It3 where
  i : Nat
  ts : List Nat
  c : Nat
def JX (C : Cx) (ops : Array Oper) (k : Env → List SP → Prop) : List It3 → Env → List SP → Prop
  | [], E, L => k E L
  | ⟨i, ts, 0⟩ :: its, E, L => ∃ o A, ops[i]? = some o ∧ ltO o.dst C.N = true ∧ (∀ L, StepG C ops o (restr ts E) L A) ∧ JX C ops k its (updO E o.dst A) L
  | ⟨i, ts, 1⟩ :: its, E, L => ∃ o A, ops[i]? = some o ∧ ltO o.dst C.N = true ∧ StepG C ops o (restr ts E) L A ∧ JX C ops k its (updO E o.dst A) L
  | ⟨i, ts, _ + 2⟩ :: its, E, L => ∃ o, ops[i]? = some o ∧ ltO o.dst C.N = true ∧ ∃ (X : Type) (A : X → Ty) (L' : X → List SP), WantX ops o (restr ts E) ∧ Step C o (restr ts E) L A L' ∧ ∀ x, JX C ops k its (updO E o.dst (A x)) (L' x)
section
variable {C : Cx} {ops : Array Oper} {k : Env → List SP → Prop} {its : List It3} {E : Env} {L : List SP} {i : Nat} {ts : List Nat} {o : Oper}
theorem JX_nil (h : k E L) : JX C ops k [] E L := h
theorem JX_step {A : Ty} {d : Nat} (ho : ops.toList[i]? = some o) (hg : o.guard = none) (hd : o.dst = some d) (hN : Nat.blt d C.N = true) (hs : ∀ L, Step1 C o (restr ts E) L A)
    (hk : JX C ops k its (upd E d A) L) : JX C ops k (⟨i, ts, 0⟩ :: its) E L :=
  ⟨o, A, by simpa using ho, by rw [hd]; exact hN, fun L => .inl ⟨hg, hs L⟩, by rw [hd]; exact hk⟩
theorem JX_stepG {B : Ty} {d j t : Nat} {b w : Bool} {og : Oper} (ho : ops.toList[i]? = some o) (hg : o.guard = some (j, b)) (hj : ops.toList[j]? = some og) (ht : og.dst = some t) (hc : Gd (restr ts E t) b w) (hd : o.dst = some d) (hN : Nat.blt d C.N = true)
    (hs : w = true → ∀ L, Step1 C o (restr ts E) L B) (hk : JX C ops k its (upd E d (tW w B)) L) : JX C ops k (⟨i, ts, 0⟩ :: its) E L :=
  ⟨o, tW w B, by simpa using ho, by rw [hd]; exact hN, fun L => .inr ⟨j, b, og, t, w, B, hg, by simpa using hj, ht, hc, rfl, fun hw => hs hw L⟩, by rw [hd]; exact hk⟩
theorem JX_look {A : Ty} {d : Nat} (ho : ops.toList[i]? = some o) (hg : o.guard = none) (hd : o.dst = some d) (hN : Nat.blt d C.N = true) (hs : Step1 C o (restr ts E) L A)
    (hk : JX C ops k its (upd E d A) L) : JX C ops k (⟨i, ts, 1⟩ :: its) E L :=
  ⟨o, A, by simpa using ho, by rw [hd]; exact hN, .inl ⟨hg, hs⟩, by rw [hd]; exact hk⟩
theorem JX_lookG {B : Ty} {d j t : Nat} {b w : Bool} {og : Oper} (ho : ops.toList[i]? = some o) (hg : o.guard = some (j, b)) (hj : ops.toList[j]? = some og) (ht : og.dst = some t) (hc : Gd (restr ts E t) b w) (hd : o.dst = some d) (hN : Nat.blt d C.N = true)
    (hs : w = true → Step1 C o (restr ts E) L B) (hk : JX C ops k its (upd E d (tW w B)) L) : JX C ops k (⟨i, ts, 1⟩ :: its) E L :=
  ⟨o, tW w B, by simpa using ho, by rw [hd]; exact hN, .inr ⟨j, b, og, t, w, B, hg, by simpa using hj, ht, hc, rfl, hs⟩, by rw [hd]; exact hk⟩
theorem JX_stepX {X : Type} {A : X → Ty} {L' : X → List SP} {d : Nat} (ho : ops.toList[i]? = some o) (hg : o.guard = none) (hd : o.dst = some d) (hN : Nat.blt d C.N = true) (hs : Step C o (restr ts E) L A L')
    (hk : ∀ x, JX C ops k its (upd E d (A x)) (L' x)) : JX C ops k (⟨i, ts, 2⟩ :: its) E L :=
  ⟨o, by simpa using ho, by rw [hd]; exact hN, X, A, L', .inl hg, hs, fun x => by rw [hd]; exact hk x⟩
theorem JX_stepU {X : Type} {A : X → Ty} {L' : X → List SP} (ho : ops.toList[i]? = some o) (hg : o.guard = none) (hd : o.dst = none) (hs : Step C o (restr ts E) L A L')
    (hk : ∀ x, JX C ops k its E (L' x)) : JX C ops k (⟨i, ts, 2⟩ :: its) E L :=
  ⟨o, by simpa using ho, by rw [hd]; rfl, X, A, L', .inl hg, hs, fun x => by rw [hd]; exact hk x⟩
end
structure Pl3 where
  i : Nat
  ts : List Nat
  c : Nat
  aft : List Nat
  dst : Option Nat
def plOf3 (ops : List Oper) (x : It3) : Pl3 := ⟨x.i, x.ts, x.c, aftOf ops x.i, dstOf ops x.i⟩
def okPair3 (a b : Pl3) : Bool := !Nat.beq a.i b.i && (memN a.i b.aft || (!inO a.dst b.ts && !inO b.dst a.ts && !eqO a.dst b.dst))
def okTail3 (m : Pl3) (l : List Pl3) : Bool := match m.c with
  | 0 => true
  | 1 => l.all fun q => Nat.ble q.c 1 || (memN m.i q.aft || q.aft.any fun r => l.any fun p => Nat.beq r p.i && memN m.i p.aft)
  | _ => l.all fun q => memN m.i q.aft || q.aft.any fun r => l.any fun p => Nat.beq r p.i
def okPls3 : List Pl3 → Bool
  | [] => true
  | a :: l => l.all (okPair3 a) && okTail3 a l && okPls3 l
def okM3 (ops : List Oper) (its : List It3) : Bool :=
  let pls := its.map (plOf3 ops)
  okPls3 pls && pls.all (fun p => p.aft.all (Nat.blt · p.i)) && (List.range ops.length).all (fun i => its.any fun x => Nat.beq i x.i) && its.all fun x => Nat.blt x.i ops.length
theorem okPls3_sub : ∀ {l1 : List Pl3} {b : Pl3} {l2 : List Pl3}, okPls3 (l1 ++ b :: l2) = true → (∀ a ∈ l1, a.c ≤ 1) → (∀ a ∈ l1, a.i ∉ b.aft) → okPls3 (l1 ++ l2) = true
  | [], b, l2, h, _, _ => by simp only [List.nil_append, okPls3, Bool.and_eq_true] at h; exact h.2
  | a :: l1, b, l2, h, hf, hn => by
    simp only [List.cons_append, okPls3, Bool.and_eq_true, List.all_eq_true] at h ⊢
    have hsub : ∀ x ∈ l1 ++ l2, x ∈ l1 ++ b :: l2 := fun x hx => by rcases List.mem_append.1 hx with hx | hx <;> simp [hx]
    refine ⟨⟨fun x hx => h.1.1 x (hsub x hx), ?_⟩, okPls3_sub h.2 (fun x hx => hf x (by simp [hx])) (fun x hx => hn x (by simp [hx]))⟩
    have h1 := h.1.2
    have hc := hf a (by simp)
    unfold okTail3 at h1 ⊢
    match e : a.c, hc with
    | 0, _ => rfl
    | 1, _ =>
      rw [e] at h1
      simp only [List.all_eq_true, Bool.or_eq_true, List.any_eq_true, Bool.and_eq_true] at h1 ⊢
      intro x hx
      rcases h1 x (hsub x hx) with q | q | ⟨r, hr, p, hp, q1, q2⟩
      · exact .inl q
      · exact .inr (.inl q)
      · refine .inr (.inr ⟨r, hr, p, ?_, q1, q2⟩)
        rcases List.mem_append.1 hp with hp | hp
        · exact List.mem_append_left _ hp
        · rcases List.mem_cons.1 hp with rfl | hp
          · exact absurd (memN_iff.1 q2) (hn a (by simp))
          · exact List.mem_append_right _ hp
theorem okPls3_pair : ∀ {l1 : List Pl3} {b : Pl3} {l2 : List Pl3}, okPls3 (l1 ++ b :: l2) = true → ∀ a ∈ l1, okPair3 a b = true
  | [], _, _, _, a, ha => by cases ha
  | a :: l1, b, l2, h, x, hx => by
    simp only [List.cons_append, okPls3, Bool.and_eq_true, List.all_eq_true] at h
    rcases List.mem_cons.1 hx with rfl | hx
    · exact h.1.1 b (by simp)
    · exact okPls3_pair h.2 x hx
theorem okPls3_tail : ∀ {l1 : List Pl3} {b : Pl3} {l2 : List Pl3}, okPls3 (l1 ++ b :: l2) = true → ∀ (x y : List Pl3) (a : Pl3), l1 = x ++ a :: y → okTail3 a (y ++ b :: l2) = true
  | [], _, _, _, x, y, a, e => by simp at e
  | c :: l1, b, l2, h, [], y, a, e => by
    simp only [List.nil_append, List.cons.injEq] at e; obtain ⟨rfl, rfl⟩ := e
    simp only [List.cons_append, okPls3, Bool.and_eq_true] at h
    exact h.1.2
  | c :: l1, b, l2, h, d :: x, y, a, e => by
    simp only [List.cons_append, List.cons.injEq] at e
    simp only [List.cons_append, okPls3, Bool.and_eq_true] at h
    exact okPls3_tail h.2 x y a e.2
theorem JX_cons {C : Cx} {ops : Array Oper} {k : Env → List SP → Prop} {its its' : List It3} (h : ∀ E L, JX C ops k its E L → JX C ops k its' E L) : ∀ {a : It3} {E : Env} {L : List SP}, JX C ops k (a :: its) E L → JX C ops k (a :: its') E L
  | ⟨i, ts, 0⟩, _, _, ⟨o, A, h1, h2, h3, h4⟩ => ⟨o, A, h1, h2, h3, h _ _ h4⟩
  | ⟨i, ts, 1⟩, _, _, ⟨o, A, h1, h2, h3, h4⟩ => ⟨o, A, h1, h2, h3, h _ _ h4⟩
  | ⟨i, ts, _ + 2⟩, _, _, ⟨o, h1, h2, X, A, L', h3, h4, h5⟩ => ⟨o, h1, h2, X, A, L', h3, h4, fun x => h _ _ (h5 x)⟩
theorem pair_key {ops : Array Oper} {a b : It3} (hp : okPair3 (plOf3 ops.toList a) (plOf3 ops.toList b) = true) (hn : a.i ∉ aftOf ops.toList b.i) {oa ob : Oper} (ha : ops[a.i]? = some oa) (hb : ops[b.i]? = some ob) :
    inO oa.dst b.ts = false ∧ inO ob.dst a.ts = false ∧ eqO oa.dst ob.dst = false := by
  have hda : dstOf ops.toList a.i = oa.dst := by simp [dstOf, ha]
  have hdb : dstOf ops.toList b.i = ob.dst := by simp [dstOf, hb]
  simp only [okPair3, plOf3, hda, hdb, Bool.and_eq_true, Bool.or_eq_true, Bool.not_eq_true', memN_iff] at hp
  rcases hp.2 with q | q
  · exact absurd q hn
  · exact ⟨q.1.1, q.1.2, q.2⟩
section
variable {C : Cx} {ops : Array Oper} {k : Env → List SP → Prop} {ia ib : Nat} {ta tb : List Nat} {its : List It3} {E : Env} {L : List SP}
theorem JX_swap00 (hp : ∀ ca cb, okPair3 (plOf3 ops.toList ⟨ia, ta, ca⟩) (plOf3 ops.toList ⟨ib, tb, cb⟩) = true) (hn : ia ∉ aftOf ops.toList ib) (h : JX C ops k (⟨ia, ta, 0⟩ :: ⟨ib, tb, 0⟩ :: its) E L) : JX C ops k (⟨ib, tb, 0⟩ :: ⟨ia, ta, 0⟩ :: its) E L := by
  obtain ⟨oa, A, ha, hla, hsa, ob, B, hb, hlb, hsb, hk⟩ := h
  obtain ⟨p1, p2, p3⟩ := pair_key (a := ⟨ia, ta, 0⟩) (b := ⟨ib, tb, 0⟩) (hp 0 0) hn ha hb
  refine ⟨ob, B, hb, hlb, fun L => (hsb L).same (restr_updO p1), oa, A, ha, hla, fun L => (hsa L).same (restr_updO p2).symm, ?_⟩
  rw [updO_comm p3] at hk
  exact hk
theorem JX_swap01 (hp : ∀ ca cb, okPair3 (plOf3 ops.toList ⟨ia, ta, ca⟩) (plOf3 ops.toList ⟨ib, tb, cb⟩) = true) (hn : ia ∉ aftOf ops.toList ib) (h : JX C ops k (⟨ia, ta, 0⟩ :: ⟨ib, tb, 1⟩ :: its) E L) : JX C ops k (⟨ib, tb, 1⟩ :: ⟨ia, ta, 0⟩ :: its) E L := by
  obtain ⟨oa, A, ha, hla, hsa, ob, B, hb, hlb, hsb, hk⟩ := h
  obtain ⟨p1, p2, p3⟩ := pair_key (a := ⟨ia, ta, 0⟩) (b := ⟨ib, tb, 1⟩) (hp 0 1) hn ha hb
  refine ⟨ob, B, hb, hlb, hsb.same (restr_updO p1), oa, A, ha, hla, fun L => (hsa L).same (restr_updO p2).symm, ?_⟩
  rw [updO_comm p3] at hk
  exact hk
theorem JX_swap02 {c : Nat} (hp : ∀ ca cb, okPair3 (plOf3 ops.toList ⟨ia, ta, ca⟩) (plOf3 ops.toList ⟨ib, tb, cb⟩) = true) (hn : ia ∉ aftOf ops.toList ib) (h : JX C ops k (⟨ia, ta, 0⟩ :: ⟨ib, tb, c + 2⟩ :: its) E L) : JX C ops k (⟨ib, tb, c + 2⟩ :: ⟨ia, ta, 0⟩ :: its) E L := by
  obtain ⟨oa, A, ha, hla, hsa, ob, hb, hlb, X, B, L', hgb, hsb, hk⟩ := h
  obtain ⟨p1, p2, p3⟩ := pair_key (a := ⟨ia, ta, 0⟩) (b := ⟨ib, tb, c + 2⟩) (hp 0 (c + 2)) hn ha hb
  rw [restr_updO p1] at hsb hgb
  refine ⟨ob, hb, hlb, X, B, L', hgb, hsb, fun x => ⟨oa, A, ha, hla, fun L => (hsa L).same (restr_updO p2).symm, ?_⟩⟩
  have := hk x
  rw [updO_comm p3] at this
  exact this
theorem JX_swap10 (hp : ∀ ca cb, okPair3 (plOf3 ops.toList ⟨ia, ta, ca⟩) (plOf3 ops.toList ⟨ib, tb, cb⟩) = true) (hn : ia ∉ aftOf ops.toList ib) (h : JX C ops k (⟨ia, ta, 1⟩ :: ⟨ib, tb, 0⟩ :: its) E L) : JX C ops k (⟨ib, tb, 0⟩ :: ⟨ia, ta, 1⟩ :: its) E L := by
  obtain ⟨oa, A, ha, hla, hsa, ob, B, hb, hlb, hsb, hk⟩ := h
  obtain ⟨p1, p2, p3⟩ := pair_key (a := ⟨ia, ta, 1⟩) (b := ⟨ib, tb, 0⟩) (hp 1 0) hn ha hb
  refine ⟨ob, B, hb, hlb, fun L => (hsb L).same (restr_updO p1), oa, A, ha, hla, hsa.same (restr_updO p2).symm, ?_⟩
  rw [updO_comm p3] at hk
  exact hk
theorem JX_swap11 (hp : ∀ ca cb, okPair3 (plOf3 ops.toList ⟨ia, ta, ca⟩) (plOf3 ops.toList ⟨ib, tb, cb⟩) = true) (hn : ia ∉ aftOf ops.toList ib) (h : JX C ops k (⟨ia, ta, 1⟩ :: ⟨ib, tb, 1⟩ :: its) E L) : JX C ops k (⟨ib, tb, 1⟩ :: ⟨ia, ta, 1⟩ :: its) E L := by
  obtain ⟨oa, A, ha, hla, hsa, ob, B, hb, hlb, hsb, hk⟩ := h
  obtain ⟨p1, p2, p3⟩ := pair_key (a := ⟨ia, ta, 1⟩) (b := ⟨ib, tb, 1⟩) (hp 1 1) hn ha hb
  refine ⟨ob, B, hb, hlb, hsb.same (restr_updO p1), oa, A, ha, hla, hsa.same (restr_updO p2).symm, ?_⟩
  rw [updO_comm p3] at hk
  exact hk
end
theorem JX_swap {C : Cx} {ops : Array Oper} {k : Env → List SP → Prop} {a b : It3} {its : List It3} {E : Env} {L : List SP} (hf : a.c = 0 ∨ (a.c = 1 ∧ b.c ≤ 1)) (hp : okPair3 (plOf3 ops.toList a) (plOf3 ops.toList b) = true) (hn : a.i ∉ aftOf ops.toList b.i)
    (h : JX C ops k (a :: b :: its) E L) : JX C ops k (b :: a :: its) E L := by
  obtain ⟨ia, ta, ca⟩ := a
  obtain ⟨ib, tb, cb⟩ := b
  have hp' : ∀ ca cb, okPair3 (plOf3 ops.toList ⟨ia, ta, ca⟩) (plOf3 ops.toList ⟨ib, tb, cb⟩) = true := fun _ _ => hp
  rcases hf with h0 | ⟨h1, hb1⟩
  · have h0 : ca = 0 := h0
    subst h0
    rcases cb with _ | _ | c
    · exact JX_swap00 hp' hn h
    · exact JX_swap01 hp' hn h
    · exact JX_swap02 hp' hn h
  · have h1 : ca = 1 := h1
    have hb1 : cb ≤ 1 := hb1
    subst h1
    rcases cb with _ | _ | c
    · exact JX_swap10 hp' hn h
    · exact JX_swap11 hp' hn h
    · omega
theorem JX_pull {C : Cx} {ops : Array Oper} {k : Env → List SP → Prop} {b : It3} {l2 : List It3} : ∀ {l1 : List It3} {E : Env} {L : List SP}, (∀ a ∈ l1, a.c = 0 ∨ (a.c = 1 ∧ b.c ≤ 1)) →
    (∀ a ∈ l1, okPair3 (plOf3 ops.toList a) (plOf3 ops.toList b) = true) → (∀ a ∈ l1, a.i ∉ aftOf ops.toList b.i) → JX C ops k (l1 ++ b :: l2) E L → JX C ops k (b :: (l1 ++ l2)) E L := by
  intro l1
  induction l1 with
  | nil => intro E L _ _ _ h; exact h
  | cons a l1 ih =>
    intro E L hf hp hn h
    refine JX_swap (hf a (by simp)) (hp a (by simp)) (hn a (by simp)) ?_
    exact JX_cons (fun E L hk => ih (fun a m => hf a (by simp [m])) (fun a m => hp a (by simp [m])) (fun a m => hn a (by simp [m])) hk) h
theorem wpAny_JX {C : Cx} {ops : Array Oper} {Q : Exit → Act → World → Prop} : ∀ (fuel : Nat) (its : List It3) (listed : Array Bool) (E : Env) (L : List SP), its.length ≤ fuel → listed.size = ops.size →
    (∀ i, i < ops.size → (listed.getD i true = false ↔ ∃ x ∈ its, x.i = i)) → okPls3 (its.map (plOf3 ops.toList)) = true → (∀ x ∈ its, x.i < ops.size ∧ ∀ e ∈ aftOf ops.toList x.i, e < x.i) →
    JX C ops (fun E' L' => K C (Q .normal) E' L') its E L → K C (fun a w => wpAnyIn (Fw C.ro) 0 C.P .any ops Q fuel listed a w) E L := by
  intro fuel
  induction fuel with
  | zero =>
    intro its listed E L hlen hsz hin _ _ hJ
    have : its = [] := List.length_eq_zero_iff.1 (by omega)
    subst this
    intro a w p
    refine ⟨?_, hJ a w p⟩
    rw [List.eq_nil_iff_forall_not_mem]
    intro i hi
    obtain ⟨h1, h2, _⟩ := mem_ready.1 hi
    obtain ⟨x, hx, _⟩ := (hin i h1).1 h2
    cases hx
  | succ fuel ih =>
    intro its listed E L hlen hsz hin hok hlt hJ
    have hdone : Region.ready .any ops listed = [] → its = [] := by
      intro hr
      have hall : ∀ i, i < ops.size → listed.getD i true = true := by
        intro i
        induction i using Nat.strongRecOn with
        | _ i ihi =>
          intro hi
          cases hl : listed.getD i true with
          | true => rfl
          | false =>
            have ho : ops[i]? = some ops[i] := Array.getElem?_eq_getElem hi
            obtain ⟨x, hx, hxi⟩ := (hin i hi).1 hl
            have h1 := (hlt x hx).2
            rw [hxi] at h1
            have hm : i ∈ Region.ready .any ops listed := mem_ready.2 ⟨hi, hl, _, ho, fun e he => by
              have he' : e < i := h1 e (by simpa [aftOf, hi] using he)
              rw [getD_any (by omega) false true]
              exact ihi e he' (by omega)⟩
            rw [hr] at hm; cases hm
      match its with
      | [] => rfl
      | x :: _ =>
        have h1 := (hlt x (by simp)).1
        have := (hin x.i h1).2 ⟨x, by simp, rfl⟩
        rw [hall x.i h1] at this; cases this
    intro a w p
    refine ⟨fun hr => ?_, fun i hi => ?_⟩
    · have := hdone hr
      subst this
      exact hJ a w p
    · obtain ⟨hlti, hnl, o, ho, haft⟩ := mem_ready.1 hi
      obtain ⟨b, hb, hbi⟩ := (hin i hlti).1 hnl
      obtain ⟨l1, l2, rfl⟩ := List.append_of_mem hb
      have hoi : ops.toList[b.i]? = some o := by rw [hbi]; simpa using ho
      have haft' : aftOf ops.toList b.i = aftN o := by simp only [aftOf, hoi]
      have hleft : ∀ x ∈ l1 ++ b :: l2, x.i ∉ aftOf ops.toList b.i := fun x hx hm => by
        rw [haft'] at hm
        have h1 := haft _ hm
        have h2 := (hlt x hx).1
        have h3 := (hin x.i h2).2 ⟨x, hx, rfl⟩
        rw [getD_any (by omega) true false, h1] at h3; cases h3
      rw [List.map_append, List.map_cons] at hok
      have hpair : ∀ a ∈ l1, okPair3 (plOf3 ops.toList a) (plOf3 ops.toList b) = true := fun a ha => okPls3_pair hok _ (List.mem_map_of_mem ha)
      have hfree : ∀ a ∈ l1, a.c = 0 ∨ (a.c = 1 ∧ b.c ≤ 1) := fun x hx => by
        obtain ⟨y, z, rfl⟩ := List.append_of_mem hx
        have ht := okPls3_tail hok (y.map (plOf3 ops.toList)) (z.map (plOf3 ops.toList)) (plOf3 ops.toList x) (by simp)
        unfold okTail3 at ht
        have hxc : (plOf3 ops.toList x).c = x.c := rfl
        rw [hxc] at ht
        match e : x.c with
        | 0 => exact .inl rfl
        | 1 =>
          right
          rw [e] at ht
          simp only [List.all_eq_true, Bool.or_eq_true, List.any_eq_true, Bool.and_eq_true] at ht
          refine ⟨rfl, ?_⟩
          rcases ht (plOf3 ops.toList b) (by simp) with q | q | ⟨r, hr, p, hp, hq, _⟩
          · exact Nat.le_of_ble_eq_true q
          · exact absurd (memN_iff.1 q) (hleft x (by simp))
          · exfalso
            have hrp := Nat.eq_of_beq_eq_true hq
            have hp' : ∃ u ∈ z ++ b :: l2, plOf3 ops.toList u = p := by
              rcases List.mem_append.1 hp with hp | hp
              · obtain ⟨u, hu, e⟩ := List.mem_map.1 hp
                exact ⟨u, by simp [hu], e⟩
              · rcases List.mem_cons.1 hp with hp | hp
                · exact ⟨b, by simp, hp.symm⟩
                · obtain ⟨u, hu, e⟩ := List.mem_map.1 hp
                  exact ⟨u, by simp [hu], e⟩
            obtain ⟨u, hu, e⟩ := hp'
            have : u.i ∉ aftOf ops.toList b.i := hleft u (by
              rcases List.mem_append.1 hu with hu | hu
              · simp [hu]
              · simp only [List.mem_append]; exact .inr hu)
            rw [← e] at hrp
            have hr' : r ∈ aftOf ops.toList b.i := hr
            rw [hrp] at hr'
            exact absurd hr' this
        | c + 2 =>
          exfalso
          rw [e] at ht
          simp only [Bool.or_eq_true, List.all_eq_true, List.any_eq_true] at ht
          rcases ht (plOf3 ops.toList b) (by simp) with q | ⟨r, hr, p, hp, hq⟩
          · exact absurd (memN_iff.1 q) (hleft x (by simp))
          · have hrp := Nat.eq_of_beq_eq_true hq
            have hp' : ∃ u ∈ z ++ b :: l2, plOf3 ops.toList u = p := by
              rcases List.mem_append.1 hp with hp | hp
              · obtain ⟨u, hu, e⟩ := List.mem_map.1 hp
                exact ⟨u, by simp [hu], e⟩
              · rcases List.mem_cons.1 hp with hp | hp
                · exact ⟨b, by simp, hp.symm⟩
                · obtain ⟨u, hu, e⟩ := List.mem_map.1 hp
                  exact ⟨u, by simp [hu], e⟩
            obtain ⟨u, hu, e⟩ := hp'
            have : u.i ∉ aftOf ops.toList b.i := hleft u (by
              rcases List.mem_append.1 hu with hu | hu
              · simp [hu]
              · simp only [List.mem_append]; exact .inr hu)
            rw [← e] at hrp
            have hr' : r ∈ aftOf ops.toList b.i := hr
            rw [hrp] at hr'
            exact absurd hr' this
      have hJ' := JX_pull hfree hpair (fun a ha => hleft a (by simp [ha])) hJ
      have hsub : ∀ x ∈ l1 ++ l2, x ∈ l1 ++ b :: l2 := fun x hx => by
        rcases List.mem_append.1 hx with hx | hx <;> simp [hx]
      have hpairs : ∀ x ∈ l1 ++ l2, x.i ≠ b.i := fun x hx => by
        rcases List.mem_append.1 hx with hx | hx
        · have := hpair x hx
          simp only [okPair3, plOf3, Bool.and_eq_true, Bool.not_eq_true'] at this
          intro e; rw [e] at this; simp at this
        · have h2 : ∀ {l1 : List Pl3} {b : Pl3} {l2 : List Pl3}, okPls3 (l1 ++ b :: l2) = true → okPls3 (b :: l2) = true := by
            intro l1
            induction l1 with
            | nil => intro b l2 h; exact h
            | cons c l1 ih => intro b l2 h; simp only [List.cons_append, okPls3, Bool.and_eq_true] at h; exact ih h.2
          have := h2 hok
          simp only [okPls3, Bool.and_eq_true, List.all_eq_true] at this
          have := this.1.1 _ (List.mem_map_of_mem hx)
          simp only [okPair3, plOf3, Bool.and_eq_true, Bool.not_eq_true'] at this
          intro e; rw [e] at this; simp at this
      have rest : ∀ E' L', JX C ops (fun E' L' => K C (Q .normal) E' L') (l1 ++ l2) E' L' → K C (fun a w => wpAnyIn (Fw C.ro) 0 C.P .any ops Q fuel (listed.setIfInBounds i true) a w) E' L' := by
        intro E' L' hk
        refine ih (l1 ++ l2) _ E' L' (by simp only [List.length_append, List.length_cons] at hlen ⊢; omega) (by simpa using hsz) (fun j hj => ?_) (by
          rw [List.map_append]
          exact okPls3_sub hok (fun x hx => (List.mem_map.1 hx).elim fun y hy => hy.2 ▸ (by rcases hfree y hy.1 with q | ⟨q, _⟩ <;> (show y.c ≤ 1) <;> omega)) (fun x hx => (List.mem_map.1 hx).elim fun y hy => hy.2 ▸ hleft y (by simp [hy.1]))) (fun x hx => hlt x (hsub x hx)) hk
        by_cases hji : i = j
        · subst hji
          rw [getD_set_same (by omega)]
          constructor
          · intro h; cases h
          · rintro ⟨x, hx, e⟩
            exact absurd (e.trans hbi.symm) (hpairs x hx)
        · rw [getD_set_ne hji, hin j hj]
          constructor
          · rintro ⟨x, hx, e⟩
            refine ⟨x, ?_, e⟩
            rcases List.mem_append.1 hx with hx | hx
            · simp [hx]
            · rcases List.mem_cons.1 hx with rfl | hx
              · exact absurd (hbi.symm.trans e) hji
              · simp [hx]
          · rintro ⟨x, hx, e⟩
            exact ⟨x, hsub x hx, e⟩
      obtain ⟨bi, tb, cb⟩ := b
      simp only at hbi hoi
      subst hbi
      have ho' : ops[bi]? = some o := ho
      match cb, hJ' with
      | 0, hJ' =>
        obtain ⟨o', A, ho2, hl, hs, hk⟩ := hJ'
        rw [ho'] at ho2; cases ho2
        exact (hs L).op ho' hl (rest _ _ hk) a w p
      | 1, hJ' =>
        obtain ⟨o', A, ho2, hl, hs, hk⟩ := hJ'
        rw [ho'] at ho2; cases ho2
        exact hs.op ho' hl (rest _ _ hk) a w p
      | c + 2, hJ' =>
        obtain ⟨o', ho2, hl, X, A, L', hg, hs, hk⟩ := hJ'
        rw [ho'] at ho2; cases ho2
        obtain ⟨n, ds, h, m, l, sp, st, fr⟩ := p
        have hwt : Region.wanted o (yielded ops a.tmps) = true := hg.run (fr.sub restr_sub)
        unfold wpOpIn
        simp only [ho']
        rw [if_pos hwt]
        exact hs a w h m n l sp st (fr.sub restr_sub) _ Q fun x v w' h' m' l' sp' st' hv =>
          rest _ _ (hk x) _ _ ⟨by rw [put_size]; exact n, by rw [put_defers]; exact ds, h', m', HL.trans l l', sp', st', (fr.mono l'.1).putO (by rw [n]; exact hl) hv⟩
theorem J_drawX {C : Cx} {id : Nat} {ops : Array Oper} (its : List It3) {Q : Exit → Act → World → Prop} {E : Env} {L : List SP} (hmix : C.P.follows .mixedOrders = true) (hok : okM3 ops.toList its = true)
    (hJ : JX C ops (fun E' L' => K C (Q .normal) E' L') its E L) : J C (.region id ops true) Q E L := fun a w p => by
  refine wpIn_region_draw (fun t => ?_)
  simp only [Region.schedule, hmix, Bool.true_or, if_true]
  refine wpAnyIn_sound ops.size t _ a _ ?_
  simp only [okM3, Bool.and_eq_true, List.all_eq_true, List.any_eq_true] at hok
  obtain ⟨⟨⟨h1, h2⟩, h3⟩, h4⟩ := hok
  have h5 : ∀ x ∈ its, x.i < ops.size := fun x hx => by have := h4 x hx; simpa using this
  have hnd : (its.map (·.i)).Nodup := by
    have : ∀ {l : List It3}, okPls3 (l.map (plOf3 ops.toList)) = true → (l.map (·.i)).Nodup := by
      intro l
      induction l with
      | nil => intro _; simp
      | cons x l ih =>
        intro h
        simp only [List.map_cons, okPls3, Bool.and_eq_true, List.all_eq_true] at h
        simp only [List.map_cons, List.nodup_cons]
        refine ⟨fun hm => ?_, ih h.2⟩
        obtain ⟨y, hy, e⟩ := List.mem_map.1 hm
        have := h.1.1 _ (List.mem_map_of_mem hy)
        simp only [okPair3, plOf3, Bool.and_eq_true, Bool.not_eq_true'] at this
        rw [e] at this; simp at this
    exact this h1
  have hlen : its.length ≤ ops.size := by
    have := nodup_le hnd (n := ops.size) (fun i hi => by
      obtain ⟨x, hx, rfl⟩ := List.mem_map.1 hi
      exact h5 x hx)
    simpa using this
  refine wpAny_JX ops.size its _ E L hlen (by simp) (fun i hi => ?_) h1 (fun x hx => ⟨h5 x hx, fun e he => ?_⟩) hJ a _ ?_
  · constructor
    · intro _
      obtain ⟨x, hx, e⟩ := h3 i (by simpa using hi)
      exact ⟨x, hx, (Nat.eq_of_beq_eq_true e).symm⟩
    · intro _; simp [Array.getD_eq_getD_getElem?, hi]
  · have := h2 _ (List.mem_map_of_mem hx) e he
    simpa [plOf3] using this
  · obtain ⟨hsz, hds, h, m, hl, sp, st, fr⟩ := p
    exact ⟨hsz, hds, h, m, hl.trans (HL.same (Same.drew _)), ⟨(by first | exact Sep.inv (by assumption) | exact Inv.mono (PH.le_join_left _ _) (Sep.inv (by assumption))), sp.hm, sp.hr, sp.mr, sp.hw, sp.mw, sp.rw⟩, st, fr⟩
open Go
theorem Sr {A : Ty} : Sub A A := Sub.rfl
theorem Sel.h {A : SP} {L : List SP} : Sel (A :: L) [A] L := Sel.take (Sel.none _)
theorem NF : (∀ (p : Prop) [Decidable p], (decide p = true) = p) ∧ (∀ (p : Prop) [Decidable p], (decide p = false) = ¬ p) ∧ (∀ a b : Bool, ((a && b) = true) = (a = true ∧ b = true)) ∧ (∀ a b : Bool, ((a || b) = true) = (a = true ∨ b = true)) ∧ (∀ a b : Bool, ((a && b) = false) = (a = false ∨ b = false)) ∧ (∀ a b : Bool, ((a || b) = false) = (a = false ∧ b = false)) ∧ (∀ b : Bool, ((!b) = true) = (b = false)) ∧ (∀ b : Bool, ((!b) = false) = (b = true)) ∧ (∀ a b : Int, (¬ a < b) = (b ≤ a)) ∧ (∀ a b : Int, (¬ a ≤ b) = (b < a)) ∧ ((!true) = false) ∧ ((!false) = true) :=
  ⟨fun p _ => by simp, fun p _ => by simp, fun a b => by simp, fun a b => by simp, fun a b => propext Bool.and_eq_false_iff, fun a b => by simp, fun b => by simp, fun b => by simp, fun a b => by simp, fun a b => by simp, rfl, rfl⟩
/-- What is owned is found. -/
theorem zS {L S R : List SP} (h : Sel L S R := by repeat first | exact .h | apply Sel.skip) : Sel L S R := h
theorem zO {p : Prop} (h : p := by first | omega | (dsimp only; omega) | (simp_all; omega)) : p := h
theorem zG {p : Prop} (h : p := by omega) : p := h
theorem z6 {x : Int} (h : in64 x := by unfold in64; omega) : in64 x := h
section
variable {C : Cx} {ops : Array Oper} {rest : List Oper} {Q : Exit → Act → World → Prop} {E : Env} {L : List SP} {d ty T : Nat} {pos : String} {af : Array Edge} {x : Operand} {op : Op}
theorem Js {A : Ty} (hN : Nat.blt d C.N = true) (hs : Step1 C ⟨some d, op, ty, pos, af, none⟩ E L A) (hk : JL C ops rest Q (upd E d A) L) : JL C ops (⟨some d, op, ty, pos, af, none⟩ :: rest) Q E L := JL_step rfl rfl hN hs hk
theorem Jm (hN : Nat.blt d C.N = true) (hk : JL C ops rest Q (upd E d (opTy E x)) L) : JL C ops (⟨some d, .move x, ty, pos, af, none⟩ :: rest) Q E L := JL_step rfl rfl hN (step_move Sub.rfl) hk
theorem Ja (hN : Nat.blt d C.N = true) (hk : JL C ops rest Q (upd E d (opTy E x)) L) : JL C ops (⟨some d, .assign x, ty, pos, af, none⟩ :: rest) Q E L := JL_step rfl rfl hN (step_assign Sub.rfl) hk
theorem Jl {α : Type} {R : Rp α} {y : α} (hN : Nat.blt d C.N = true) (hR : TyOf C.P T R) (hx : Sub (opTy E x) (tPtr R y)) (hk : JL C ops rest Q (upd E d (R.ty y)) L) : JL C ops (⟨some d, .load T x, ty, pos, af, none⟩ :: rest) Q E L := JL_step rfl rfl hN (step_load_ptr hR hx) hk
theorem Jr {id : Nat} {y : Code} (h : JL C ops ops.toList (Exit.then (fun a w => y.wpIn (Fw C.ro) 0 C.P Q a w) Q) E L) : J C (.seq (.region id ops false) y) Q E L := J_seq (J_region h)
theorem Jg {A : Ty} {j t : Nat} {b v : Bool} {opg : Op} {tyg : Nat} {posg : String} {afg : Array Edge} {gg : Option (Nat × Bool)} (hj : ops[j]? = some ⟨some t, opg, tyg, posg, afg, gg⟩) (hc : Sub (E t) (tV (.bool v))) (hN : Nat.blt d C.N = true)
    (hs : beqB v b = true → Step1 C ⟨some d, op, ty, pos, af, some (j, b)⟩ E L A) (hk : JL C ops rest Q (upd E d (tW (beqB v b) A)) L) : JL C ops (⟨some d, op, ty, pos, af, some (j, b)⟩ :: rest) Q E L := JL_stepG rfl hj rfl (Gd.plain hc) rfl hN hs hk
theorem Jh {A : Ty} {j t : Nat} {b v w : Bool} {opg : Op} {tyg : Nat} {posg : String} {afg : Array Edge} {gg : Option (Nat × Bool)} (hj : ops[j]? = some ⟨some t, opg, tyg, posg, afg, gg⟩) (hc : Sub (E t) (tW w (tV (.bool v)))) (hN : Nat.blt d C.N = true)
    (hs : (w && beqB v b) = true → Step1 C ⟨some d, op, ty, pos, af, some (j, b)⟩ E L A) (hk : JL C ops rest Q (upd E d (tW (w && beqB v b) A)) L) : JL C ops (⟨some d, op, ty, pos, af, some (j, b)⟩ :: rest) Q E L := JL_stepG rfl hj rfl (Gd.nest hc) rfl hN hs hk
theorem Jx {X : Type} {A : X → Ty} {L' : X → List SP} (hN : Nat.blt d C.N = true) (hs : Step C ⟨some d, op, ty, pos, af, none⟩ E L A L') (hk : ∀ x, JL C ops rest Q (upd E d (A x)) (L' x)) : JL C ops (⟨some d, op, ty, pos, af, none⟩ :: rest) Q E L := JL_stepX rfl rfl hN hs hk
theorem Ju {X : Type} {A : X → Ty} {L' : X → List SP} (hs : Step C ⟨none, op, ty, pos, af, none⟩ E L A L') (hk : ∀ x, JL C ops rest Q E (L' x)) : JL C ops (⟨none, op, ty, pos, af, none⟩ :: rest) Q E L := JL_stepU rfl rfl hs hk
theorem SubE.u {E E' : Env} {t : Nat} (h : SubE E E') : SubE E (Lg.upd E' t (E t)) := SubE.upd Sub.rfl h
theorem zU {E E' : Env} (h : SubE E E' := by (repeat refine SubE.upd Sub.rfl ?_); exact SubE.any) : SubE E E' := h
theorem Jk {A : Ty} {j t : Nat} {b v : Bool} {opg : Op} {tyg : Nat} {posg : String} {afg : Array Edge} {gg : Option (Nat × Bool)} (hj : ops[j]? = some ⟨some t, opg, tyg, posg, afg, gg⟩) (hc : Sub (E t) (tV (.bool v))) (hN : Nat.blt d C.N = true)
    (hs : Step1 C ⟨some d, op, ty, pos, af, some (j, b)⟩ E L A) (hk : JL C ops rest Q (upd E d (tW (beqB v b) A)) L) : JL C ops (⟨some d, op, ty, pos, af, some (j, b)⟩ :: rest) Q E L := Jg hj hc hN (fun _ => hs) hk
theorem Ji {A : Ty} {j t : Nat} {b v w : Bool} {opg : Op} {tyg : Nat} {posg : String} {afg : Array Edge} {gg : Option (Nat × Bool)} (hj : ops[j]? = some ⟨some t, opg, tyg, posg, afg, gg⟩) (hc : Sub (E t) (tW w (tV (.bool v)))) (hN : Nat.blt d C.N = true)
    (hs : Step1 C ⟨some d, op, ty, pos, af, some (j, b)⟩ E L A) (hk : JL C ops rest Q (upd E d (tW (w && beqB v b) A)) L) : JL C ops (⟨some d, op, ty, pos, af, some (j, b)⟩ :: rest) Q E L := Jh hj hc hN (fun _ => hs) hk
end
/-- What is owned is what is asked for, in another order. -/
theorem zL {L M : List SP} (h : LSub L M := by repeat first | exact LSub.nil | refine LSub.cons (by repeat first | exact .h | apply Sel.skip) SPs.rfl ?_) : LSub L M := h
theorem LSub.c {A B : SP} {L R M : List SP} (s : Sel L [A] R) (h : SPs A B) (k : LSub R M) : LSub L (B :: M) := LSub.cons s h k
theorem LSub.r {A : SP} {L R M : List SP} (s : Sel L [A] R) (k : LSub R M) : LSub L (A :: M) := LSub.cons s SPs.rfl k
section
variable {C : Cx} {ops : Array Oper} {k : Env → List SP → Prop} {its : List It} {E : Env} {L : List SP} {i d ty : Nat} {ts : List Nat} {op : Op} {x : Operand} {pos : String} {af : Array Edge}
theorem Mf {A : Ty} (ho : ops.toList[i]? = some ⟨some d, op, ty, pos, af, none⟩) (hN : Nat.blt d C.N = true) (hs : ∀ {L}, Step1 C ⟨some d, op, ty, pos, af, none⟩ (restr ts E) L A) (hk : JM C ops k its (upd E d A) L) : JM C ops k (⟨i, ts, true⟩ :: its) E L := JM_step ho rfl rfl hN (fun _ => hs) hk
theorem Mv (ho : ops.toList[i]? = some ⟨some d, .move x, ty, pos, af, none⟩) (hN : Nat.blt d C.N = true) (hk : JM C ops k its (upd E d (opTy (restr ts E) x)) L) : JM C ops k (⟨i, ts, true⟩ :: its) E L := JM_step ho rfl rfl hN (fun _ => step_move Sub.rfl) hk
theorem Mg {A : Ty} {j t : Nat} {b v : Bool} {opg : Op} {tyg : Nat} {posg : String} {afg : Array Edge} {gg : Option (Nat × Bool)} (ho : ops.toList[i]? = some ⟨some d, op, ty, pos, af, some (j, b)⟩) (hj : ops.toList[j]? = some ⟨some t, opg, tyg, posg, afg, gg⟩) (hc : Sub (restr ts E t) (tV (.bool v))) (hN : Nat.blt d C.N = true)
    (hs : beqB v b = true → ∀ {L}, Step1 C ⟨some d, op, ty, pos, af, some (j, b)⟩ (restr ts E) L A) (hk : JM C ops k its (upd E d (tW (beqB v b) A)) L) : JM C ops k (⟨i, ts, true⟩ :: its) E L := JM_stepG ho rfl hj rfl (Gd.plain hc) rfl hN (fun h _ => hs h) hk
theorem Mk {A : Ty} {j t : Nat} {b v : Bool} {opg : Op} {tyg : Nat} {posg : String} {afg : Array Edge} {gg : Option (Nat × Bool)} (ho : ops.toList[i]? = some ⟨some d, op, ty, pos, af, some (j, b)⟩) (hj : ops.toList[j]? = some ⟨some t, opg, tyg, posg, afg, gg⟩) (hc : Sub (restr ts E t) (tV (.bool v))) (hN : Nat.blt d C.N = true)
    (hs : ∀ {L}, Step1 C ⟨some d, op, ty, pos, af, some (j, b)⟩ (restr ts E) L A) (hk : JM C ops k its (upd E d (tW (beqB v b) A)) L) : JM C ops k (⟨i, ts, true⟩ :: its) E L := Mg ho hj hc hN (fun _ => hs) hk
end
open Go
def All2 {α γ : Type} (P : α → γ → Prop) : List α → List γ → Prop
  | [], [] => True
  | a :: l, b :: k => P a b ∧ All2 P l k
  | _, _ => False
theorem All2.len {α γ : Type} {P : α → γ → Prop} : ∀ {l : List α} {k : List γ}, All2 P l k → k.length = l.length
  | [], [], _ => rfl
  | _ :: _, _ :: _, q => by simp [q.2.len]
theorem All2.imp {α γ : Type} {P Q : α → γ → Prop} : ∀ {l : List α} {k : List γ}, (∀ a b, b ∈ k → P a b → Q a b) → All2 P l k → All2 Q l k
  | [], [], _, _ => trivial
  | _ :: _, _ :: _, f, q => ⟨f _ _ (List.mem_cons_self ..) q.1, All2.imp (fun a b hb => f a b (List.mem_cons_of_mem _ hb)) q.2⟩
theorem All2.get {α γ : Type} {P : α → γ → Prop} : ∀ {l : List α} {k : List γ} {i : Nat} {b : γ}, All2 P l k → k[i]? = some b → ∃ a, l[i]? = some a ∧ P a b
  | [], [], _, _, _, h => by simp at h
  | a :: _, b :: _, 0, _, q, h => by simp at h; subst h; exact ⟨a, rfl, q.1⟩
  | _ :: l, _ :: k, i + 1, b', q, h => by
    obtain ⟨a, ha, hp⟩ := All2.get q.2 (show k[i]? = some b' by simpa using h)
    exact ⟨a, by simpa using ha, hp⟩
theorem All2.get' {α γ : Type} {P : α → γ → Prop} : ∀ {l : List α} {k : List γ} {i : Nat} {a : α}, All2 P l k → l[i]? = some a → ∃ b, k[i]? = some b ∧ P a b
  | [], [], _, _, _, h => by simp at h
  | a :: _, b :: _, 0, _, q, h => by simp at h; subst h; exact ⟨b, rfl, q.1⟩
  | _ :: l, _ :: k, i + 1, a', q, h => by
    obtain ⟨b, hb, hp⟩ := All2.get' q.2 (show l[i]? = some a' by simpa using h)
    exact ⟨b, by simpa using hb, hp⟩
theorem All2.snoc {α γ : Type} {P : α → γ → Prop} {a : α} {b : γ} : ∀ {l : List α} {k : List γ}, All2 P l k → P a b → All2 P (l ++ [a]) (k ++ [b])
  | [], [], _, h => ⟨h, trivial⟩
  | _ :: _, _ :: _, q, h => ⟨q.1, All2.snoc q.2 h⟩
section
variable {κ β : Type} [DecidableEq κ]
def mrem : List (κ × β) → κ → List (κ × β)
  | [], _ => []
  | (k, x) :: m, q => if q = k then m else (k, x) :: mrem m q
theorem mrem_keys (m : List (κ × β)) (q : κ) : (mrem m q).map (·.1) = (m.map (·.1)).erase q := by
  induction m with
  | nil => rfl
  | cons a m ih =>
    obtain ⟨k, x⟩ := a
    by_cases h : q = k
    · subst h; simp [mrem]
    · simp [mrem, h, ih, List.erase_cons, Ne.symm h]
theorem mrem_nodup {m : List (κ × β)} (h : (m.map (·.1)).Nodup) (q : κ) : ((mrem m q).map (·.1)).Nodup := by
  rw [mrem_keys]; exact h.erase q
theorem mget_mrem {m : List (κ × β)} (h : (m.map (·.1)).Nodup) (q p : κ) : mget (mrem m q) p = if p = q then none else mget m p := by
  induction m with
  | nil => simp [mrem, mget]
  | cons a m ih =>
    obtain ⟨k, x⟩ := a
    simp only [List.map_cons, List.nodup_cons] at h
    by_cases hq : q = k
    · subst hq
      simp only [mrem, if_true, mget]
      by_cases hp : p = q
      · subst hp
        simp only [if_true]
        cases e : mget m p with
        | none => rfl
        | some y => exact absurd (List.mem_map.2 ⟨_, (mget_mem h.2).1 e, rfl⟩) h.1
      · simp [hp]
    · simp only [mrem, if_neg hq, mget, ih h.2]
      by_cases hp : p = k
      · subst hp; simp [Ne.symm hq]
      · simp [hp]
theorem mem_mrem {m : List (κ × β)} (h : (m.map (·.1)).Nodup) {q : κ} {p : κ × β} : p ∈ mrem m q ↔ p ∈ m ∧ p.1 ≠ q := by
  rw [← mget_mem (mrem_nodup h q), mget_mrem h, ← mget_mem h]
  by_cases e : p.1 = q <;> simp [e]
theorem mput_mem {m : List (κ × β)} (h : (m.map (·.1)).Nodup) {q : κ} {y : β} {p : κ × β} : p ∈ mput m q y ↔ p = (q, y) ∨ (p ∈ m ∧ p.1 ≠ q) := by
  rw [← mget_mem (mput_nodup h q y), mget_mput, ← mget_mem h]
  by_cases e : p.1 = q
  · simp only [e, if_true, Option.some.injEq, ne_eq, not_true, and_false, or_false]
    constructor
    · rintro rfl; exact Prod.ext e rfl
    · intro e2; rw [e2]
  · simp only [e, if_false, ne_eq, not_false_iff, and_true]
    constructor
    · exact .inr
    · rintro (e2 | h2)
      · rw [e2] at e; simp at e
      · exact h2
end
def isNilM : Value → Bool
  | .map none => true
  | _ => false
section
variable {κ β : Type} [DecidableEq κ] (kv : κ → Value) (R : Rp β)
abbrev KN (m : List (κ × β)) : Prop := (m.map (·.1)).Nodup
def entP (h : PH) (p : κ × β) (e : MapEntry) : Prop := e.key = kv p.1 ∧ (R.ty p.2).p h e.val
theorem entP.mono {h h' : PH} (l : h.le h') {p : κ × β} {e : MapEntry} (q : entP kv R h p e) : entP kv R h' p e := ⟨q.1, (R.ty p.2).mono l q.2⟩
structure Born (es : List MapEntry) (c : Nat) : Prop where
  nd : (es.map (·.born)).Nodup
  lt : ∀ e ∈ es, e.born < c
def mapD (v : Value) (m : List (κ × β)) : SP where
  p := fun h mm => KN m ∧ ((v = .map none ∧ m = [] ∧ mm = PH.emp) ∨ ∃ r es c, v = .map (some r) ∧ mm = PH.one r (.map (List.toArray es) c) ∧ All2 (entP kv R h) m es ∧ Born es c)
  mono := fun l ⟨n, q⟩ => ⟨n, q.imp id fun ⟨r, es, c, a, b, d, e⟩ => ⟨r, es, c, a, b, d.imp fun _ _ _ => entP.mono kv R l, e⟩⟩
/-- A map of one's own that is being ranged over: kd are the keys of the rounds so far, cur what stands in this round's entry. -/
def ranD (b : Nat) (v : Value) (m : List (κ × β)) (kd : List κ) (cur : Option (κ × β)) : SP where
  p := fun h mm => KN m ∧ ((v = .map none ∧ m = [] ∧ cur = none ∧ mm = PH.one b (.mapIter none 0 #[] 0)) ∨
    ∃ r es c seen, v = .map (some r) ∧ r ≠ b ∧ mm = (PH.one b (.mapIter (some r) c (List.toArray seen) c)).join (PH.one r (.map (List.toArray es) c)) ∧
      All2 (fun p e => entP kv R h p e ∧ (e.born ∈ seen ↔ p.1 ∈ kd)) m es ∧ Born es c ∧ ∀ p, cur = some p → ∃ e ∈ es, ∃ sn, seen = sn ++ [e.born] ∧ entP kv R h p e)
  mono := fun l ⟨n, q⟩ => ⟨n, q.imp id fun ⟨r, es, c, seen, a, b, d, e, f, g⟩ => ⟨r, es, c, seen, a, b, d, e.imp fun _ _ _ q => ⟨entP.mono kv R l q.1, q.2⟩, f, fun p hp => let ⟨e, he, sn, hs, hq⟩ := g p hp; ⟨e, he, sn, hs, entP.mono kv R l hq⟩⟩⟩
/-- What can be read of a map. -/
def MapView (A : SP) (v : Value) (m : List (κ × β)) : Prop := ∀ h mm, A.p h mm → (m.map (·.1)).Nodup ∧ ((v = .map none ∧ m = []) ∨ ∃ r es c, v = .map (some r) ∧ mm r = some (.map (List.toArray es) c) ∧ All2 (entP kv R h) m es)
end
section
variable {κ β : Type} [DecidableEq κ] {kv : κ → Value} {R : Rp β}
theorem mapD.view {v : Value} {m : List (κ × β)} : MapView kv R (mapD kv R v m) v m := fun h mm ⟨n, q⟩ => ⟨n, q.imp (fun ⟨a, b, _⟩ => ⟨a, b⟩) fun ⟨r, es, c, a, b, d, _⟩ => ⟨r, es, c, a, by rw [b]; exact PH.one_same _ _, d⟩⟩
theorem ranD.view {b : Nat} {v : Value} {m : List (κ × β)} {kd : List κ} {cur : Option (κ × β)} : MapView kv R (ranD kv R b v m kd cur) v m := fun h mm ⟨n, q⟩ => ⟨n, q.imp (fun ⟨a, b, _⟩ => ⟨a, b⟩) fun ⟨r, es, c, seen, a, hb, e, d, _⟩ => ⟨r, es, c, a, by
  rw [e]
  have : PH.one b (.mapIter (some r) c (List.toArray seen) c) r = none := by simp [PH.one, hb]
  simp [PH.join, this, PH.one_same], d.imp fun _ _ _ q => q.1⟩⟩
theorem ranD.weak {b : Nat} {v : Value} {m : List (κ × β)} {kd : List κ} {cur : Option (κ × β)} : SPs (ranD kv R b v m kd cur) (ranD kv R b v m kd none) := fun h mm ⟨n, q⟩ => ⟨n, q.imp (fun ⟨a, b, _, d⟩ => ⟨a, b, rfl, d⟩) fun ⟨r, es, c, seen, a, b, d, e, f, g⟩ => ⟨r, es, c, seen, a, b, d, e, f, fun p hp => by cases hp⟩⟩
/-- An iterator that is needed no more. -/
def junk : SP := ⟨fun _ _ => True, fun _ e => e⟩
theorem ranD.over {b : Nat} {v : Value} {m : List (κ × β)} {kd : List κ} {cur : Option (κ × β)} {L : List SP} : LSub (ranD kv R b v m kd cur :: L) (mapD kv R v m :: junk :: L) := fun h mm ⟨m1, m2, d, e, ⟨n, q⟩, hl⟩ => by
  subst e
  rcases q with ⟨rfl, rfl, rfl, rfl⟩ | ⟨r, es, c, seen, rfl, hb, rfl, hq, hB, hc⟩
  · exact ⟨PH.emp, _, PH.disj_emp_left _, (PH.emp_join _).symm, ⟨n, .inl ⟨rfl, rfl, rfl⟩⟩, _, m2, d, rfl, trivial, hl⟩
  · have dd := PH.disj_join.1 d
    have d1 : (PH.one b (.mapIter (some r) c (List.toArray seen) c)).disj (PH.one r (.map (List.toArray es) c)) := PH.one_disj_iff.2 (by simp [PH.one, Ne.symm hb])
    refine ⟨PH.one r (.map (List.toArray es) c), (PH.one b (.mapIter (some r) c (List.toArray seen) c)).join m2, PH.disj_join'.2 ⟨PH.disj_symm d1, dd.2⟩, ?_, ⟨n, .inr ⟨r, es, c, rfl, rfl, hq.imp fun _ _ _ q => q.1, hB⟩⟩, _, m2, dd.1, rfl, trivial, hl⟩
    rw [PH.join_comm d1, PH.join_assoc]
theorem mapD.nil {L : List SP} : LSub L (mapD kv R (.map none) ([] : List (κ × β)) :: L) := fun h m p => ⟨PH.emp, m, PH.disj_emp_left _, (PH.emp_join _).symm, ⟨List.nodup_nil, .inl ⟨rfl, rfl, rfl⟩⟩, p⟩
theorem mapD.unnil {L : List SP} : LSub (mapD kv R (.map none) ([] : List (κ × β)) :: L) L := fun h m ⟨m1, m2, d, e, ⟨n, q⟩, hl⟩ => by
  subst e
  rcases q with ⟨_, _, rfl⟩ | ⟨r, es, c, e, _⟩
  · rw [PH.emp_join]; exact hl
  · cases e
theorem fnd2 (q : κ) {Q : κ × β → MapEntry → Prop} (hQ : ∀ p e, Q p e → e.key = kv p.1) : ∀ {m : List (κ × β)} {es : List MapEntry} {i : Nat}, All2 Q m es →
    (mget m q = none ∧ fnd q (m.map (·.1)) es i = none ∧ (∀ y, mput m q y = m ++ [(q, y)]) ∧ mrem m q = m) ∨
    ∃ x j e, mget m q = some x ∧ es[j]? = some e ∧ Q (q, x) e ∧ fnd q (m.map (·.1)) es i = some (i + j, e.val) ∧ (∀ y f, Q (q, y) (f e) → All2 Q (mput m q y) (es.modify j f)) ∧ All2 Q (mrem m q) (es.eraseIdx j)
  | [], [], i, _ => .inl ⟨rfl, rfl, fun _ => rfl, rfl⟩
  | (k, x) :: m, e :: es, i, h => by
    by_cases hk : q = k
    · subst hk
      refine .inr ⟨x, 0, e, by simp [mget], rfl, h.1, by simp [fnd], fun y f hf => ?_, ?_⟩
      · simp only [mput, if_true]; exact ⟨hf, h.2⟩
      · simp only [mrem, if_true]; exact h.2
    · rcases fnd2 q hQ (i := i + 1) h.2 with ⟨a, b, c, d⟩ | ⟨x', j, e', a, b, c, d, f, g⟩
      · exact .inl ⟨by simp [mget, hk, a], by simp [fnd, hk, b], fun y => by simp [mput, hk, c], by simp [mrem, hk, d]⟩
      · refine .inr ⟨x', j + 1, e', by simp [mget, hk, a], by simpa using b, c, by simp [fnd, hk, d]; omega, fun y f' hf => ?_, ?_⟩
        · simp only [mput, if_neg hk]; exact ⟨h.1, f y f' hf⟩
        · simp only [mrem, if_neg hk]; exact ⟨h.1, g⟩
theorem All2.keys {Q : κ × β → MapEntry → Prop} (hQ : ∀ p e, Q p e → e.key = kv p.1) : ∀ {m : List (κ × β)} {es : List MapEntry}, All2 Q m es → es.map (·.key) = (m.map (·.1)).map kv
  | [], [], _ => rfl
  | p :: m, e :: es, h => by simp [hQ _ _ h.1, All2.keys hQ h.2]
theorem Born.modify {es : List MapEntry} {c j : Nat} {f : MapEntry → MapEntry} (hf : ∀ e, (f e).born = e.born) (h : Born es c) : Born (es.modify j f) c := by
  have e : (es.modify j f).map (·.born) = es.map (·.born) := by
    apply List.ext_getElem?
    intro i
    simp only [List.getElem?_map, List.getElem?_modify]
    by_cases hj : j = i <;> cases es[i]? <;> simp [hj, hf]
  refine ⟨by rw [e]; exact h.nd, fun x hx => ?_⟩
  have : x.born ∈ (es.modify j f).map (·.born) := List.mem_map.2 ⟨x, hx, rfl⟩
  rw [e] at this
  obtain ⟨y, hy, e2⟩ := List.mem_map.1 this
  rw [← e2]; exact h.lt y hy
theorem eraseIdx_mapL {α γ : Type} (f : α → γ) : ∀ (l : List α) (j : Nat), (l.eraseIdx j).map f = (l.map f).eraseIdx j
  | [], _ => rfl
  | _ :: _, 0 => rfl
  | a :: l, j + 1 => by simp [eraseIdx_mapL f l j]
theorem Born.erase {es : List MapEntry} {c j : Nat} (h : Born es c) : Born (es.eraseIdx j) c := by
  refine ⟨?_, fun x hx => h.lt x (List.mem_of_mem_eraseIdx hx)⟩
  have : (es.eraseIdx j).map (·.born) = (es.map (·.born)).eraseIdx j := eraseIdx_mapL _ _ _
  rw [this]; exact h.nd.sublist (List.eraseIdx_sublist ..)
theorem Born.push {es : List MapEntry} {c : Nat} {k v : Value} (h : Born es c) : Born (es ++ [⟨k, v, c⟩]) (c + 1) := by
  refine ⟨?_, fun x hx => ?_⟩
  · rw [List.map_append, List.nodup_append]
    refine ⟨h.nd, by simp, fun a ha b hb => ?_⟩
    obtain ⟨y, hy, rfl⟩ := List.mem_map.1 ha
    simp at hb; subst hb
    have := h.lt y hy; omega
  · rcases List.mem_append.1 hx with h1 | h1
    · have := h.lt x h1; omega
    · simp at h1; subst h1; simp
variable {C : Cx} {E : Env} {L : List SP} {d : Option Nat} {ty : Nat} {pos : String} {af : Array Edge} {g : Option (Nat × Bool)}
theorem step_makeMapD {T : Nat} : Step C ⟨d, .makeMap T none, ty, pos, af, g⟩ E L (fun n : Nat => tV (.map (some n))) (fun n => mapD kv R (.map (some n)) ([] : List (κ × β)) :: L) :=
  Step.of_run (by intro c h; cases h) fun a w h m l sp st fr => by
    refine ⟨w.heap.size, .map (some w.heap.size), w.alloc (.map #[] 0), h, (PH.one w.heap.size (.map #[] 0)).join m, ?_, HL.own _, sp.allocOwn _, ?_, rfl⟩
    · simp [execOp, Instr.makeMap, run_newObj_alloc]
    · exact ⟨_, m, PH.disj_symm (PH.one_disj_new sp.mw _), rfl, ⟨List.nodup_nil, .inr ⟨w.heap.size, [], 0, rfl, rfl, trivial, ⟨List.nodup_nil, fun _ h => by cases h⟩⟩⟩, st⟩
theorem run_lookupD {P : Program} {T kt e : Nat} (K : KeyT P kt kv) (hu : P.underlying T = some (.map kt e)) {z : β} {zv : Value} (hz : ∀ w, (zeroValue e).run P w = .ok zv w) (hzr : ∀ h, (R.ty z).p h zv) {w : World} {h : PH} {A : SP} {v : Value} {m : List (κ × β)} {m1 : PH}
    (hv : MapView kv R A v m) (ho : A.p h m1) (hw : m1.inw w) (q : κ) (ok : Bool) :
    ∃ u, (R.ty ((mget m q).getD z)).p h u ∧ (Instr.lookup T v (kv q) ok).run P w = .ok (if ok then .tuple #[u, .bool (mget m q).isSome] else u) w := by
  obtain ⟨hn, hq⟩ := hv h m1 ho
  have hchk := K.chk
  rcases hq with ⟨rfl, rfl⟩ | ⟨r, es, c, rfl, e1, hr⟩
  · refine ⟨zv, hzr h, ?_⟩
    have hfk := K.find q [] [] w rfl
    simp only [fnd] at hfk
    cases ok <;> simp [Instr.lookup, Sem.run_bind, run_underlying hu, hchk, hfk, hz, mget]
  · have hfk := K.find q _ es w (All2.keys (fun _ _ q => q.1) hr)
    have hb := hw _ _ e1
    rcases fnd2 q (fun _ _ q => q.1) (i := 0) hr with ⟨a, b, _⟩ | ⟨x, j, e', a, _, dd, f, _⟩
    · refine ⟨zv, by rw [a]; exact hzr h, ?_⟩
      rw [b] at hfk
      cases ok <;> simp [Instr.lookup, a, Sem.run_bind, run_underlying hu, hb, hchk, hfk, hz, run_getObj_map hb]
    · refine ⟨e'.val, by rw [a]; exact dd.2, ?_⟩
      rw [f] at hfk
      cases ok <;> simp [Instr.lookup, a, Sem.run_bind, run_underlying hu, hb, hchk, hfk, run_getObj_map hb]
theorem step_lookupD {T kt e : Nat} {x y : Operand} {A : SP} {v : Value} {m : List (κ × β)} {S : List SP} {q : κ} {z : β} {zv : Value} (K : KeyT C.P kt kv) (hu : C.P.underlying T = some (.map kt e)) (hz : ∀ w, (zeroValue e).run C.P w = .ok zv w) (hzr : ∀ h, (R.ty z).p h zv)
    (hx : Sub (opTy E x) (tV v)) (hy : Sub (opTy E y) (tV (kv q))) (hv : MapView kv R A v m) (sel : Sel L [A] S) : Step1 C ⟨d, .lookup T x y false, ty, pos, af, g⟩ E L (R.ty ((mget m q).getD z)) :=
  Step.of_run (by intro c h; cases h) fun a w h mm l sp st fr => by
    have h1 : a.eval x = v := fr.get hx
    have h2 : a.eval y = kv q := fr.get hy
    obtain ⟨m1, m2, d12, rfl, ho, s2⟩ := sel.one.1 st
    obtain ⟨u, hu1, hrun⟩ := run_lookupD (P := C.P) K hu hz hzr hv ho (fun b o e => sp.mw _ _ (PH.le_join_left _ _ _ _ e)) q false
    exact ⟨(), u, w, h, _, by simp [execOp, h1, h2, hrun], HL.refl, sp, st, hu1⟩
theorem step_lookupD_ok {T kt e : Nat} {x y : Operand} {A : SP} {v : Value} {m : List (κ × β)} {S : List SP} {q : κ} {z : β} {zv : Value} (K : KeyT C.P kt kv) (hu : C.P.underlying T = some (.map kt e)) (hz : ∀ w, (zeroValue e).run C.P w = .ok zv w) (hzr : ∀ h, (R.ty z).p h zv)
    (hx : Sub (opTy E x) (tV v)) (hy : Sub (opTy E y) (tV (kv q))) (hv : MapView kv R A v m) (sel : Sel L [A] S) : Step1 C ⟨d, .lookup T x y true, ty, pos, af, g⟩ E L (tTup [R.ty ((mget m q).getD z), tV (.bool (mget m q).isSome)]) :=
  Step.of_run (by intro c h; cases h) fun a w h mm l sp st fr => by
    have h1 : a.eval x = v := fr.get hx
    have h2 : a.eval y = kv q := fr.get hy
    obtain ⟨m1, m2, d12, rfl, ho, s2⟩ := sel.one.1 st
    obtain ⟨u, hu1, hrun⟩ := run_lookupD (P := C.P) K hu hz hzr hv ho (fun b o e => sp.mw _ _ (PH.le_join_left _ _ _ _ e)) q true
    exact ⟨(), _, w, h, _, by simp [execOp, h1, h2, hrun], HL.refl, sp, st, ⟨[u, .bool _], rfl, hu1, rfl, trivial⟩⟩
theorem step_lenD {T kt e : Nat} {x : Operand} {A : SP} {v : Value} {m : List (κ × β)} {S : List SP} (hu : C.P.underlying T = some (.map kt e)) (hx : Sub (opTy E x) (tV v)) (hv : MapView kv R A v m) (sel : Sel L [A] S) :
    Step1 C ⟨d, .call { callee := .builtin .len, args := #[x], argTypes := #[T] }, ty, pos, af, g⟩ E L (tV (.int .i64 (m.length : Int))) :=
  Step.of_run (by intro c h; cases h) fun a w h mm l sp st fr => by
    have h1 : a.eval x = v := fr.get hx
    obtain ⟨m1, m2, d12, rfl, ho, s2⟩ := sel.one.1 st
    rcases (hv h m1 ho).2 with ⟨rfl, rfl⟩ | ⟨r, es, c, rfl, e1, hr⟩
    · exact ⟨(), _, w, h, _, by simp [execOp, resolve, invoke, builtin, Builtin.len_, h1, run_underlying hu, goInt], HL.refl, sp, st, rfl⟩
    · have hb : w.heap[r]? = some (.map es.toArray c) := sp.mw _ _ (PH.le_join_left _ _ _ _ e1)
      refine ⟨(), _, w, h, _, ?_, HL.refl, sp, st, rfl⟩
      simp [execOp, resolve, invoke, builtin, Builtin.len_, h1, run_underlying hu, goInt, run_getObj_map hb, hr.len]
theorem run_eql_mapnil {P : Program} (w : World) (t k e : TypeId) (p : Option Nat) (h : P.underlying t = some (.map k e)) :
    (binOp .eql t (.map p) (.map none)).run P w = .ok (.bool p.isNone) w := by
  have key : ∀ n, (Op.equalIn (n + 1) t (.map p) (.map none)).run P w = .ok p.isNone w := by intro n; cases p <;> simp [Op.equalIn, run_underlying h]
  have := key 9999
  simp only [binOp]
  simp [show Op.equal t (.map p) (.map none) = Op.equalIn (9999 + 1) t (.map p) (.map none) from rfl, this]
theorem step_eqnilD {T U kt el : Nat} {x : Operand} {A : SP} {v : Value} {m : List (κ × β)} {S : List SP} (hu : C.P.underlying T = some (.map kt el)) (hx : Sub (opTy E x) (tV v)) (hv : MapView kv R A v m) (sel : Sel L [A] S) :
    Step1 C ⟨d, .binOp .eql T x (.const (.map none)) U, ty, pos, af, g⟩ E L (tV (.bool (isNilM v))) :=
  Step.of_run (by intro c h; cases h) fun a w h mm l sp st fr => by
    have h1 : a.eval x = v := fr.get hx
    have h2 : a.eval (.const (.map none)) = .map none := rfl
    obtain ⟨m1, m2, d12, rfl, ho, s2⟩ := sel.one.1 st
    have hp : ∃ p, v = .map p ∧ p.isNone = isNilM v := by
      rcases (hv h m1 ho).2 with ⟨rfl, rfl⟩ | ⟨r, es, c, rfl, e1, hr⟩
      · exact ⟨none, rfl, rfl⟩
      · exact ⟨some r, rfl, rfl⟩
    obtain ⟨p, rfl, e⟩ := hp
    have he : ∀ w, (eqGuard .eql T x (.const (.map none)) (.map p) (.map none)).run C.P w = .ok () w := by intro w; simp [eqGuard]
    exact ⟨(), _, w, h, _, by simp [execOp, h1, h2, Sem.run_bind, he, run_eql_mapnil w T kt el p hu]; rfl, HL.refl, sp, st, by rw [e]; rfl⟩
theorem step_mapUpdateD {T kt e n : Nat} {x y u : Operand} {m : List (κ × β)} {S : List SP} {q : κ} {z : β} (K : KeyT C.P kt kv) (hu : C.P.underlying T = some (.map kt e))
    (hx : Sub (opTy E x) (tV (.map (some n)))) (hy : Sub (opTy E y) (tV (kv q))) (hz : Sub (opTy E u) (R.ty z)) (sel : Sel L [mapD kv R (.map (some n)) m] S) :
    Step C ⟨d, .mapUpdate T x y u, ty, pos, af, g⟩ E L (fun _ : Unit => tAny) (fun _ => mapD kv R (.map (some n)) (mput m q z) :: S) := by
  refine Step.of_skip (by intro c h; cases h) fun a w h mm l sp st fr => by
    have h1 : a.eval x = .map (some n) := fr.get hx
    have h2 : a.eval y = kv q := fr.get hy
    have h3 := fr.get hz
    obtain ⟨m1, m2, d12, rfl, ⟨hn, ho⟩, s2⟩ := sel.one.1 st
    rcases ho with ⟨e0, _⟩ | ⟨r, es, c, e0, rfl, hr, hB⟩
    · cases e0
    injection e0 with e0; injection e0 with e0; subst e0
    have hchk := K.chk
    have hfk := K.find q _ es w (All2.keys (fun _ _ q => q.1) hr)
    have hb := sp.heap_own
    rcases fnd2 q (fun _ _ q => q.1) (i := 0) hr with ⟨a1, b1, c1, _⟩ | ⟨x', j, e', a1, b1, c1, f1, g1, _⟩
    · refine ⟨(), w.putObj n (.map (es ++ [(⟨kv q, a.eval u, c⟩ : MapEntry)]).toArray (c + 1)), h, (PH.one n (.map (es ++ [(⟨kv q, a.eval u, c⟩ : MapEntry)]).toArray (c + 1))).join m2, ?_, HL.same (Same.putObj _ _ _), Sep.put _ d12 sp, ?_⟩
      · rw [b1] at hfk
        simp [execOp, Instr.mapUpdate, h1, h2, Sem.run_bind, run_underlying hu, run_getObj_map hb, hchk, hfk, run_setObj_map _ hb]
      · refine ⟨_, m2, PH.one_disj_iff.2 (PH.one_disj_iff.1 d12), rfl, ⟨mput_nodup hn q z, .inr ⟨n, es ++ [(⟨kv q, a.eval u, c⟩ : MapEntry)], c + 1, rfl, rfl, ?_, hB.push⟩⟩, s2⟩
        rw [c1 z]; exact hr.snoc ⟨rfl, h3⟩
    · have hold : es.toArray.modify j (fun e => { e with key := kv q, val := a.eval u }) = (es.modify j fun e => { e with key := kv q, val := a.eval u }).toArray := by simp
      refine ⟨(), w.putObj n (.map (es.modify j fun e => { e with key := kv q, val := a.eval u }).toArray c), h, (PH.one n (.map (es.modify j fun e => { e with key := kv q, val := a.eval u }).toArray c)).join m2, ?_, HL.same (Same.putObj _ _ _), Sep.put _ d12 sp, ?_⟩
      · rw [Nat.zero_add] at f1
        rw [f1] at hfk
        rw [← hold]
        have ck : e'.key = kv q := c1.1
        simp [execOp, Instr.mapUpdate, h1, h2, Sem.run_bind, run_underlying hu, run_getObj_map hb, hchk, hfk]
        simp [Instr.keyThatStays, b1, ck, K.bits, run_setObj_map _ hb]
      · exact ⟨_, m2, PH.one_disj_iff.2 (PH.one_disj_iff.1 d12), rfl, ⟨mput_nodup hn q z, .inr ⟨n, _, c, rfl, rfl, g1 z _ ⟨rfl, h3⟩, hB.modify fun _ => rfl⟩⟩, s2⟩
theorem run_deleteD {P : Program} {T kt e r c : Nat} {q : κ} {m : List (κ × β)} {es : List MapEntry} {Q : κ × β → MapEntry → Prop} {w : World} (hQ : ∀ p e, Q p e → e.key = kv p.1) (K : KeyT P kt kv) (hu : P.underlying T = some (.map kt e)) (hb : w.heap[r]? = some (.map es.toArray c)) (hr : All2 Q m es) :
    ∃ es', (Builtin.delete_ #[T, kt] ty #[.map (some r), kv q]).run P w = .ok (.tuple #[]) (w.putObj r (.map (List.toArray es') c)) ∧ All2 Q (mrem m q) es' ∧ (es' = es ∨ ∃ j, es' = es.eraseIdx j) := by
  have hchk := K.chk
  have hfk := K.find q _ es w (All2.keys hQ hr)
  rcases fnd2 q hQ (i := 0) hr with ⟨a1, b1, _, c1⟩ | ⟨x', j, e', a1, b1, c1, f1, _, g1⟩
  · refine ⟨es, ?_, by rw [c1]; exact hr, .inl rfl⟩
    rw [b1] at hfk
    simp [Builtin.delete_, Sem.run_bind, run_underlying hu, run_getObj_map hb, hchk, hfk, run_setObj_map _ hb]
  · refine ⟨es.eraseIdx j, ?_, g1, .inr ⟨j, rfl⟩⟩
    rw [Nat.zero_add] at f1
    rw [f1] at hfk
    simp [Builtin.delete_, Sem.run_bind, run_underlying hu, run_getObj_map hb, hchk, hfk, run_setObj_map _ hb]
theorem step_deleteD {T kt e : Nat} {x y : Operand} {v : Value} {m : List (κ × β)} {S : List SP} {q : κ} (K : KeyT C.P kt kv) (hu : C.P.underlying T = some (.map kt e))
    (hx : Sub (opTy E x) (tV v)) (hy : Sub (opTy E y) (tV (kv q))) (sel : Sel L [mapD kv R v m] S) :
    Step C ⟨d, .call { callee := .builtin .delete, args := #[x, y], argTypes := #[T, kt] }, ty, pos, af, g⟩ E L (fun _ : Unit => tAny) (fun _ => mapD kv R v (mrem m q) :: S) :=
  Step.of_run (by intro c h; cases h) fun a w h mm l sp st fr => by
    have h1 : a.eval x = v := fr.get hx
    have h2 : a.eval y = kv q := fr.get hy
    obtain ⟨m1, m2, d12, rfl, ⟨hn, ho⟩, s2⟩ := sel.one.1 st
    rcases ho with ⟨rfl, rfl, rfl⟩ | ⟨r, es, c, rfl, rfl, hr, hB⟩
    · refine ⟨(), .tuple #[], w, h, _, ?_, HL.refl, sp, ⟨PH.emp, m2, d12, rfl, ⟨hn, .inl ⟨rfl, rfl, rfl⟩⟩, s2⟩, trivial⟩
      simp [execOp, resolve, invoke, builtin, Builtin.delete_, h1, h2, Sem.run_bind, run_underlying hu, K.chk]
    · have hb := sp.heap_own
      obtain ⟨es', hrun, ha, he⟩ := run_deleteD (P := C.P) (ty := ty) (q := q) (fun _ _ q => q.1) K hu hb hr
      refine ⟨(), .tuple #[], _, h, _, by simp [execOp, resolve, invoke, builtin, h1, h2, hrun], HL.same (Same.putObj _ _ _), Sep.put _ d12 sp, ⟨_, m2, PH.one_disj_iff.2 (PH.one_disj_iff.1 d12), rfl, ⟨mrem_nodup hn q, .inr ⟨r, es', c, rfl, rfl, ha, ?_⟩⟩, s2⟩, trivial⟩
      rcases he with rfl | ⟨j, rfl⟩
      · exact hB
      · exact hB.erase
theorem Sep.put2 {h m r : PH} {w : World} {b g : Nat} {o u : Obj} (o' : Obj) (hb : g ≠ b) (d : ((PH.one b u).join (PH.one g o)).disj m) (s : Sep h (((PH.one b u).join (PH.one g o)).join m) r w) : Sep h (((PH.one b u).join (PH.one g o')).join m) r (w.putObj g o') ∧ ((PH.one b u).join (PH.one g o')).disj m := by
  have dd := PH.disj_join.1 d
  have d1 : ∀ o, (PH.one b u).disj (PH.one g o) := fun o => PH.one_disj_iff.2 (by simp [PH.one, Ne.symm hb])
  have e : ∀ o, ((PH.one b u).join (PH.one g o)).join m = (PH.one g o).join ((PH.one b u).join m) := fun o => by rw [PH.join_comm (d1 o), PH.join_assoc]
  rw [e] at s ⊢
  exact ⟨Sep.put o' (PH.disj_join'.2 ⟨PH.disj_symm (d1 o), dd.2⟩) s, PH.disj_join.2 ⟨dd.1, PH.one_disj_iff.2 (PH.one_disj_iff.1 dd.2)⟩⟩
theorem step_deleteRan {T kt e b : Nat} {x y : Operand} {v : Value} {m : List (κ × β)} {kd : List κ} {cur : Option (κ × β)} {S : List SP} {q : κ} (K : KeyT C.P kt kv) (hu : C.P.underlying T = some (.map kt e))
    (hx : Sub (opTy E x) (tV v)) (hy : Sub (opTy E y) (tV (kv q))) (sel : Sel L [ranD kv R b v m kd cur] S) :
    Step C ⟨d, .call { callee := .builtin .delete, args := #[x, y], argTypes := #[T, kt] }, ty, pos, af, g⟩ E L (fun _ : Unit => tAny) (fun _ => ranD kv R b v (mrem m q) kd none :: S) :=
  Step.of_run (by intro c h; cases h) fun a w h mm l sp st fr => by
    have h1 : a.eval x = v := fr.get hx
    have h2 : a.eval y = kv q := fr.get hy
    obtain ⟨m1, m2, d12, rfl, ⟨hn, ho⟩, s2⟩ := sel.one.1 st
    rcases ho with ⟨rfl, rfl, rfl, rfl⟩ | ⟨r, es, c, seen, rfl, hb, rfl, hr, hB, _⟩
    · refine ⟨(), .tuple #[], w, h, _, ?_, HL.refl, sp, ⟨_, m2, d12, rfl, ⟨hn, .inl ⟨rfl, rfl, rfl, rfl⟩⟩, s2⟩, trivial⟩
      simp [execOp, resolve, invoke, builtin, Builtin.delete_, h1, h2, Sem.run_bind, run_underlying hu, K.chk]
    · have hb' : w.heap[r]? = some (.map es.toArray c) := sp.mw _ _ (PH.le_join_left _ _ _ _ (by simp [PH.join, PH.one, hb]))
      obtain ⟨es', hrun, ha, he⟩ := run_deleteD (P := C.P) (ty := ty) (q := q) (fun _ _ q => q.1.1) K hu hb' hr
      have s' := Sep.put2 (.map (List.toArray es') c) hb d12 sp
      refine ⟨(), .tuple #[], _, h, _, by simp [execOp, resolve, invoke, builtin, h1, h2, hrun], HL.same (Same.putObj _ _ _), s'.1, ⟨_, m2, s'.2, rfl, ⟨mrem_nodup hn q, .inr ⟨r, es', c, seen, rfl, hb, rfl, ha, ?_, fun p hp => by cases hp⟩⟩, s2⟩, trivial⟩
      rcases he with rfl | ⟨j, rfl⟩
      · exact hB
      · exact hB.erase
/-! Ranging -/
theorem step_rangeD {T kt e : Nat} {x : Operand} {v : Value} {m : List (κ × β)} {S : List SP} (hu : C.P.underlying T = some (.map kt e)) (hx : Sub (opTy E x) (tV v)) (sel : Sel L [mapD kv R v m] S) :
    Step C ⟨d, .range T x, ty, pos, af, g⟩ E L (fun b : Nat => tAt b 0) (fun b => ranD kv R b v m [] none :: S) :=
  Step.of_run (by intro c h; cases h) fun a w h mm l sp st fr => by
    have h1 : a.eval x = v := fr.get hx
    obtain ⟨m1, m2, d12, rfl, ⟨hn, ho⟩, s2⟩ := sel.one.1 st
    rcases ho with ⟨rfl, rfl, rfl⟩ | ⟨r, es, c, rfl, rfl, hr, hB⟩
    · refine ⟨w.heap.size, .pointer (some ⟨w.heap.size, 0, none⟩), w.alloc (.mapIter none 0 #[] 0), h, (PH.one w.heap.size (.mapIter none 0 #[] 0)).join (PH.emp.join m2), ?_, HL.own _, sp.allocOwn _, ?_, rfl⟩
      · simp [execOp, Instr.range, h1, Sem.run_bind, run_underlying hu, run_newObj_alloc]
      · rw [PH.emp_join]
        have hd := PH.disj_symm (PH.one_disj_new (w := w) (h := m2) (fun b o e => sp.mw _ _ (PH.le_join_right d12 _ _ e)) (.mapIter none 0 #[] 0))
        exact ⟨_, m2, hd, rfl, ⟨hn, .inl ⟨rfl, rfl, rfl, rfl⟩⟩, s2⟩
    · have hb := sp.heap_own
      have hlt : r < w.heap.size := (Array.getElem?_eq_some_iff.1 hb).1
      refine ⟨w.heap.size, .pointer (some ⟨w.heap.size, 0, none⟩), w.alloc (.mapIter (some r) c #[] c), h, (PH.one w.heap.size (.mapIter (some r) c #[] c)).join ((PH.one r (.map es.toArray c)).join m2), ?_, HL.own _, sp.allocOwn _, ?_, rfl⟩
      · simp [execOp, Instr.range, h1, Sem.run_bind, run_underlying hu, run_getObj_map hb, run_newObj_alloc]
      · have hd := PH.disj_join'.1 (PH.disj_symm (PH.one_disj_new sp.mw (.mapIter (some r) c #[] c)))
        refine ⟨_, m2, PH.disj_join.2 ⟨hd.2, d12⟩, (PH.join_assoc _ _ _).symm, ⟨hn, .inr ⟨r, es, c, [], rfl, by omega, rfl, hr.imp fun _ _ _ q => ⟨q, by simp⟩, hB, fun p hp => by cases hp⟩⟩, s2⟩
theorem step_nextD {b : Nat} {T : Bool} {x : Operand} {v : Value} {m : List (κ × β)} {S : List SP} {kd : List κ} {cur : Option (κ × β)} (hT : T = false) (hx : Sub (opTy E x) (tAt b 0)) (sel : Sel L [ranD kv R b v m kd cur] S) :
    Step (X := { o : Option (κ × β) // match o with | none => ∀ p ∈ m, p.1 ∈ kd | some p => p ∈ m ∧ p.1 ∉ kd }) C ⟨d, .next x T, ty, pos, af, g⟩ E L (fun o => tNx (o.1.map fun _ => 0)) (fun o => ranD kv R b v m (kd ++ (o.1.map (·.1)).toList) o.1 :: S) :=
  Step.of_run (by intro c h; cases h) fun a w h mm l sp st fr => by
    subst hT
    have h1 : a.eval x = .pointer (some ⟨b, 0, none⟩) := fr.get hx
    obtain ⟨m1, m2, d12, rfl, ⟨hn, ho⟩, s2⟩ := sel.one.1 st
    rcases ho with ⟨rfl, rfl, rfl, rfl⟩ | ⟨r, es, c, seen, rfl, hb, rfl, hr, hB, _⟩
    · have hit := sp.heap_own
      refine ⟨⟨none, fun p hp => by cases hp⟩, .tuple #[.bool false], w, h, _, ?_, HL.refl, sp, ?_, ⟨[], rfl⟩⟩
      · have hg : (getObj b).run C.P w = .ok (.mapIter none 0 #[] 0) w := by simp [getObj, Sem.run, hit]
        simp [execOp, h1, Instr.next, Sem.run_bind, hg]
      · exact ⟨_, m2, d12, rfl, ⟨hn, .inl ⟨rfl, rfl, rfl, rfl⟩⟩, s2⟩
    · have hit : w.heap[b]? = some (.mapIter (some r) c seen.toArray c) := sp.mw _ _ (PH.le_join_left _ _ _ _ (PH.le_join_left _ _ _ _ (PH.one_same _ _)))
      have hmap : w.heap[r]? = some (.map es.toArray c) := sp.mw _ _ (PH.le_join_left _ _ _ _ (by simp [PH.join, PH.one, hb]))
      have hold : ∀ x ∈ es.toArray.toList, x.born < c := fun e he => hB.lt e (by simpa using he)
      rcases run_next_at (P := C.P) w ty b r c c seen.toArray es.toArray c hit hmap hold (Nat.le_refl _) with ⟨h0, hrun⟩ | ⟨e, he, w1, hw1, hrun⟩
      · refine ⟨⟨none, fun p hp => ?_⟩, _, w, h, _, by simp [execOp, h1, hrun], HL.refl, sp, ?_, ⟨[], rfl⟩⟩
        · obtain ⟨i, hi⟩ := List.getElem?_of_mem hp
          obtain ⟨e, hei, hq, hs⟩ := hr.get' hi
          refine hs.1 ?_
          have hmem : e ∈ es.toArray := by simpa using List.mem_of_getElem? hei
          have hnot : ¬ (e ∈ leftOf es.toArray seen.toArray) := fun hm => by
            have := Array.eq_empty_of_size_eq_zero h0
            rw [this] at hm; simp at hm
          simp only [leftOf, Array.mem_filter, hmem, true_and, Bool.not_eq_true', Bool.not_eq_false] at hnot
          simpa using hnot
        · simp only [Option.map_none, Option.toList_none, List.append_nil]
          exact ⟨_, m2, d12, rfl, ⟨hn, .inr ⟨r, es, c, seen, rfl, hb, rfl, hr, hB, fun p hp => by cases hp⟩⟩, s2⟩
      · simp only [leftOf, Array.toList_filter, List.mem_filter, Bool.not_eq_true'] at he
        obtain ⟨i, hi⟩ := List.getElem?_of_mem he.1
        have hi : es[i]? = some e := by simpa using hi
        obtain ⟨⟨k, x⟩, hmi, hq, hs⟩ := hr.get hi
        have hns : e.born ∉ seen := fun hm => by
          have := he.2
          simp [hm] at this
        have hdd := PH.disj_join.1 d12
        have hsp1 : Sep h (((PH.one b (.mapIter (some r) c seen.toArray c)).join (PH.one r (.map es.toArray c))).join m2) C.r w1 := by
          rcases hw1 with rfl | rfl
          · exact sp
          · exact sp.drew
        rw [PH.join_assoc] at hsp1
        have d1 : ∀ o, (PH.one b o).disj (PH.one r (.map es.toArray c)) := fun o => PH.one_disj_iff.2 (by simp [PH.one, Ne.symm hb])
        have hsm : Same w (w1.putObj b (.mapIter (some r) c (seen.toArray.push e.born) c)) := by
          rcases hw1 with rfl | rfl
          · exact Same.putObj _ _ _
          · exact (Same.drew _).trans (Same.putObj _ _ _)
        have hD := PH.disj_join'.2 ⟨d1 (.mapIter (some r) c seen.toArray c), hdd.1⟩
        have hin : (k, x) ∈ m := List.mem_of_getElem? hmi
        refine ⟨⟨some (k, x), hin, fun hk => hns (hs.2 hk)⟩, _, _, h, _, by simp [execOp, h1, hrun]; rfl, HL.same hsm, Sep.put (.mapIter (some r) c (seen.toArray.push e.born) c) hD hsp1, ?_, ⟨[e.key, e.val], rfl⟩⟩
        refine ⟨(PH.one b (.mapIter (some r) c (seen ++ [e.born]).toArray c)).join (PH.one r (.map es.toArray c)), m2, PH.disj_join.2 ⟨PH.one_disj_iff.2 (PH.one_disj_iff.1 hdd.1), hdd.2⟩, ?_, ⟨hn, .inr ⟨r, es, c, seen ++ [e.born], rfl, hb, rfl, ?_, hB, fun p hp => ?_⟩⟩, s2⟩
        · rw [PH.join_assoc]; simp
        · -- only this entry's birth is new
          simp only [Option.map_some, Option.toList_some]
          have key : ∀ {m' : List (κ × β)} {es' : List MapEntry}, (∀ p ∈ m', p ∈ m) → (∀ e' ∈ es', e' ∈ es) → All2 (fun p e' => (entP kv R h p e' ∧ (e'.born ∈ seen ↔ p.1 ∈ kd))) m' es' → (∀ (i : Nat) p e', m'[i]? = some p → es'[i]? = some e' → (e'.born = e.born ↔ p.1 = k)) → All2 (fun p e' => (entP kv R h p e' ∧ (e'.born ∈ seen ++ [e.born] ↔ p.1 ∈ kd ++ [k]))) m' es' := by
            intro m'
            induction m' with
            | nil => intro es' _ _ q _; cases es' with
              | nil => trivial
              | cons => exact q.elim
            | cons p m' ih => intro es' hm he q hj; cases es' with
              | nil => exact q.elim
              | cons e' es' =>
                refine ⟨⟨q.1.1, ?_⟩, ih (fun p hp => hm p (List.mem_cons_of_mem _ hp)) (fun p hp => he p (List.mem_cons_of_mem _ hp)) q.2 fun i p e'' a b => hj (i + 1) p e'' (by simpa using a) (by simpa using b)⟩
                have := hj 0 p e' rfl rfl
                simp only [List.mem_append, List.mem_singleton, q.1.2, this]
          refine key (fun _ h => h) (fun _ h => h) hr fun j p e' hp he' => ?_
          have hnd := hB.nd
          constructor
          · intro hbn
            have h1 : (es.map (·.born))[j]? = some e.born := by simp [he', hbn]
            have h2 : (es.map (·.born))[i]? = some e.born := by simp [hi]
            have : j = i := (List.getElem?_inj (by have := (List.getElem?_eq_some_iff.1 h1).1; exact this) hnd).1 (h1.trans h2.symm)
            subst this
            rw [hmi] at hp; cases hp; rfl
          · intro hpk
            have h1 : (m.map (·.1))[j]? = some k := by simp [hp, hpk]
            have h2 : (m.map (·.1))[i]? = some k := by simp [hmi]
            have : j = i := (List.getElem?_inj (by have := (List.getElem?_eq_some_iff.1 h1).1; exact this) hn).1 (h1.trans h2.symm)
            subst this
            rw [hi] at he'; cases he'; rfl
        · cases hp
          exact ⟨e, List.mem_of_getElem? hi, seen, rfl, hq⟩
theorem step_entryD {b : Nat} {x : Operand} {v : Value} {m : List (κ × β)} {S : List SP} {kd : List κ} {k : κ} {y : β} (hx : Sub (opTy E x) (tAt b 0)) (sel : Sel L [ranD kv R b v m kd (some (k, y))] S) :
    Step1 C ⟨d, .entry x, ty, pos, af, g⟩ E L (tTup [tV (kv k), R.ty y]) :=
  Step.of_run (by intro c h; cases h) fun a w h mm l sp st fr => by
    have h1 : a.eval x = .pointer (some ⟨b, 0, none⟩) := fr.get hx
    obtain ⟨m1, m2, d12, rfl, ⟨hn, ho⟩, s2⟩ := id (sel.one.1 st)
    rcases ho with ⟨_, _, e0, _⟩ | ⟨r, es, c, seen, rfl, hb, rfl, hr, hB, hc⟩
    · cases e0
    · obtain ⟨e, he, sn, hs, hq⟩ := hc (k, y) rfl
      have hit : w.heap[b]? = some (.mapIter (some r) c seen.toArray c) := sp.mw _ _ (PH.le_join_left _ _ _ _ (PH.le_join_left _ _ _ _ (PH.one_same _ _)))
      have hmap : w.heap[r]? = some (.map es.toArray c) := sp.mw _ _ (PH.le_join_left _ _ _ _ (by simp [PH.join, PH.one, hb]))
      have hit' : w.heap[b]? = some (.mapIter (some r) c (sn.toArray.push e.born) c) := by rw [hit, hs]; simp
      have hrun := run_entry_at (P := C.P) w b r c sn.toArray es.toArray c e hit' hmap (by simpa using he) (by simpa using hB.nd)
      exact ⟨(), _, w, h, _, by simp [execOp, h1, hrun], HL.refl, sp, st, ⟨[e.key, e.val], rfl, hq.1, hq.2, trivial⟩⟩
end
end Lg
