/- A part of the proofs of the laws of cleanselaw33 and cleanselaw36: the program logic. -/
import Derived.Test.YtecikhenhjphfaaGreatDoorA
import Derived.Laws.StructEq
import Derived.Shelf.Small.Strs
import Derived.Lib.SliceRun
import Derived.Lib.ConvBytes
import Derived.Lib.LazyBuf
import Derived.Test.YtecikhenhjphfaaGreatDoorProg
set_option linter.unusedVariables false
set_option linter.unusedSimpArgs false
set_option linter.unusedSectionVars false
set_option maxHeartbeats 16000000
namespace Lg
open Go
def JN (C : Cx) (ops : Array Oper) (k : Env -> Prop) (L : List SP) : List It -> Env -> Prop
 | [], E => k E
 | ⟨i, ts, _⟩ :: its, E => ∃ o A, ops[i]? = some o /\ ltO o.dst C.N = true /\ StepG C ops o (cc ts E) L A /\ JN C ops k L its (kf E o.dst A)
section
variable {C : Cx} {ops : Array Oper} {k : Env -> Prop} {its : List It} {E : Env} {L : List SP} {i : Nat} {ts : List Nat} {f : Bool} {o : Oper}
theorem nQ (h : k E) : JN C ops k L [] E := h
theorem bf {A : Ty} {d : Nat} (ho : ops.toList[i]? = some o) (hg : o.guard = none) (hd : o.dst = some d) (hN : Nat.blt d C.N = true) (hs : a8 C o (cc ts E) L A)
  (hk : JN C ops k L its (upd E d A)) : JN C ops k L (⟨i, ts, f⟩ :: its) E :=
 ⟨o, A, by simpa using ho, by rw [hd]; exact hN, .inl ⟨hg, hs⟩, by rw [hd]; exact hk⟩
theorem bw {B : Ty} {d j t : Nat} {b w : Bool} {og : Oper} (ho : ops.toList[i]? = some o) (hg : o.guard = some (j, b)) (hj : ops.toList[j]? = some og) (ht : og.dst = some t) (hc : Gd (cc ts E t) b w) (hd : o.dst = some d) (hN : Nat.blt d C.N = true)
  (hs : w = true -> a8 C o (cc ts E) L B) (hk : JN C ops k L its (upd E d (tW w B))) : JN C ops k L (⟨i, ts, f⟩ :: its) E :=
 ⟨o, tW w B, by simpa using ho, by rw [hd]; exact hN, .inr ⟨j, b, og, t, w, B, hg, by simpa using hj, ht, hc, rfl, hs⟩, by rw [hd]; exact hk⟩
end
theorem wK {C : Cx} {ops : Array Oper} {k : Env -> Prop} {L : List SP} : ∀ {l1 : List It} {b : It} {l2 : List It} {E : Env},
  (∀ a ∈ l1, dO (fx ops.toList a) (fx ops.toList b) = true) -> (∀ a ∈ l1, a.i ∉ bJ ops.toList b.i) -> JN C ops k L (l1 ++ b :: l2) E -> JN C ops k L (b :: (l1 ++ l2)) E
 | [], _, _, _, _, _, h => h
 | ⟨ia, ta, fa⟩ :: l1, ⟨ib, tb, fb⟩, l2, E, hp, hn, h => by
   obtain ⟨oa, A, ha, hla, hsa, hk⟩ := h
   have ih := wK (fun a m => hp a (by simp [m])) (fun a m => hn a (by simp [m])) hk
   have hpair := hp ⟨ia, ta, fa⟩ (by simp)
   have hna := hn ⟨ia, ta, fa⟩ (by simp)
   have hda : cT ops.toList ia = oa.dst := by simp [cT, ha]
   have hpair' : inO oa.dst tb = false /\ inO (cT ops.toList ib) ta = false /\ eqO oa.dst (cT ops.toList ib) = false := by
    simp only [dO, fx, hda, Bool.and_eq_true, Bool.or_eq_true, Bool.not_eq_true', cM] at hpair
    rcases hpair.2 with q | q
    · exact absurd q hna
    · exact ⟨q.1.1, q.1.2, q.2⟩
   obtain ⟨p1, p2, p3⟩ := hpair'
   obtain ⟨ob, B, hb, hlb, hsb, hkb⟩ := ih
   have hdb : cT ops.toList ib = ob.dst := by simp [cT, hb]
   rw [hdb] at p2 p3
   refine ⟨ob, B, hb, hlb, hsb.same (bg p1), oa, A, ha, hla, hsa.same (bg p2).symm, ?_⟩
   rw [cD p3] at hkb
   exact hkb
theorem zo {C : Cx} {ops : Array Oper} {Q : Exit -> Act -> World -> Prop} {L : List SP} : ∀ (fuel : Nat) (its : List It) (listed : Array Bool) (E : Env), its.length <= fuel -> listed.size = ops.size ->
  (∀ i, i < ops.size -> (listed.getD i true = false ↔ ∃ x ∈ its, x.i = i)) -> dy (its.map (fx ops.toList)) = true -> (∀ x ∈ its, x.i < ops.size /\ ∀ e ∈ bJ ops.toList x.i, e < x.i) ->
  (∀ x ∈ its, x.free = true) -> JN C ops (fun E' => K C (Q .normal) E' L) L its E -> K C (fun a w => wpAnyIn (Fw C.ro) 0 C.P .any ops Q fuel listed a w) E L := by
 intro fuel
 induction fuel with
 | zero =>
   intro its listed E hlen hsz hin _ _ _ hJ
   have : its = [] := List.length_eq_zero_iff.1 (by omega)
   subst this
   intro a w p
   refine ⟨?_, hJ a w p⟩
   rw [List.eq_nil_iff_forall_not_mem]
   intro i hi
   obtain ⟨h1, h2, _⟩ := cu.1 hi
   obtain ⟨x, hx, _⟩ := (hin i h1).1 h2
   cases hx
 | succ fuel ih =>
   intro its listed E hlen hsz hin hok hlt hfr hJ
   -- if nothing is ready, nothing is left
   have hdone : Region.ready .any ops listed = [] -> its = [] := by
    intro hr
    have hall : ∀ i, i < ops.size -> listed.getD i true = true := by
     intro i
     induction i using Nat.strongRecOn with
     | _ i ihi =>
       intro hi
       cases hl : listed.getD i true with
       | true => rfl
       | false =>
         have ho : ops[i]? = some ops[i] := Array.getElem?_eq_getElem hi
         obtain ⟨x, hx, hxi⟩ := (hin i hi).1 hl
         have h1 := (hlt x hx).2
         rw [hxi] at h1
         have hm : i ∈ Region.ready .any ops listed := cu.2 ⟨hi, hl, _, ho, fun e he => by
          have he' : e < i := h1 e (by simpa [bJ, hi] using he)
          rw [dF (by omega) false true]
          exact ihi e he' (by omega)⟩
         rw [hr] at hm; cases hm
    match its with
    | [] => rfl
    | x :: _ =>
      have h1 := (hlt x (by simp)).1
      have := (hin x.i h1).2 ⟨x, by simp, rfl⟩
      rw [hall x.i h1] at this; cases this
   intro a w p
   refine ⟨fun hr => ?_, fun i hi => ?_⟩
   · have := hdone hr
     subst this
     exact hJ a w p
   · obtain ⟨hlti, hnl, o, ho, haft⟩ := cu.1 hi
     obtain ⟨b, hb, hbi⟩ := (hin i hlti).1 hnl
     obtain ⟨l1, l2, rfl⟩ := List.append_of_mem hb
     have hoi : ops.toList[b.i]? = some o := by rw [hbi]; simpa using ho
     have haft' : bJ ops.toList b.i = aftN o := by simp only [bJ, hoi]
     -- what is left is not listed
     have hleft : ∀ x ∈ l1 ++ b :: l2, x.i ∉ bJ ops.toList b.i := fun x hx hm => by
      rw [haft'] at hm
      have h1 := haft _ hm
      have h2 := (hlt x hx).1
      have h3 := (hin x.i h2).2 ⟨x, hx, rfl⟩
      rw [dF (by omega) true false, h1] at h3; cases h3
     rw [List.map_append, List.map_cons] at hok
     have hpair : ∀ a ∈ l1, dO (fx ops.toList a) (fx ops.toList b) = true := fun a ha => iy hok _ (List.mem_map_of_mem ha)
     have hfree : ∀ a ∈ l1, a.free = true := fun x hx => hfr x (by simp [hx])
     have hJ' := wK hpair (fun a ha => hleft a (by simp [ha])) hJ
     have hsub : ∀ x ∈ l1 ++ l2, x ∈ l1 ++ b :: l2 := fun x hx => by
      rcases List.mem_append.1 hx with hx | hx <;> simp [hx]
     have hpairs : ∀ x ∈ l1 ++ l2, x.i ≠ b.i := fun x hx => by
      rcases List.mem_append.1 hx with hx | hx
      · have := hpair x hx
        simp only [dO, fx, Bool.and_eq_true, Bool.not_eq_true'] at this
        intro e; rw [e] at this; simp at this
      · have h2 : ∀ {l1 : List Pl} {b : Pl} {l2 : List Pl}, dy (l1 ++ b :: l2) = true -> dy (b :: l2) = true := by
          intro l1
          induction l1 with
          | nil => intro b l2 h; exact h
          | cons c l1 ih => intro b l2 h; simp only [List.cons_append, dy, Bool.and_eq_true] at h; exact ih h.2
        have := h2 hok
        simp only [dy, Bool.and_eq_true, List.all_eq_true] at this
        have := this.1.1 _ (List.mem_map_of_mem hx)
        simp only [dO, fx, Bool.and_eq_true, Bool.not_eq_true'] at this
        intro e; rw [e] at this; simp at this
     have rest : ∀ E', JN C ops (fun E' => K C (Q .normal) E' L) L (l1 ++ l2) E' -> K C (fun a w => wpAnyIn (Fw C.ro) 0 C.P .any ops Q fuel (listed.setIfInBounds i true) a w) E' L := by
      intro E' hk
      refine ih (l1 ++ l2) _ E' (by simp only [List.length_append, List.length_cons] at hlen ⊢; omega) (by simpa using hsz) (fun j hj => ?_) (by
       rw [List.map_append]
       exact jv hok fun x hx => (List.mem_map.1 hx).elim fun y hy => hy.2 ▸ hfree y hy.1) (fun x hx => hlt x (hsub x hx)) (fun x hx => hfr x (hsub x hx)) hk
      by_cases hji : i = j
      · subst hji
        rw [cB (by omega)]
        constructor
        · intro h; cases h
        · rintro ⟨x, hx, e⟩
          exact absurd (e.trans hbi.symm) (hpairs x hx)
      · rw [cX hji, hin j hj]
        constructor
        · rintro ⟨x, hx, e⟩
          refine ⟨x, ?_, e⟩
          rcases List.mem_append.1 hx with hx | hx
          · simp [hx]
          · rcases List.mem_cons.1 hx with rfl | hx
            · exact absurd (hbi.symm.trans e) hji
            · simp [hx]
        · rintro ⟨x, hx, e⟩
          exact ⟨x, hsub x hx, e⟩
     obtain ⟨bi, tb, fb⟩ := b
     simp only at hbi hoi
     subst hbi
     have ho' : ops[bi]? = some o := ho
     obtain ⟨o', A, ho2, hl, hs, hk⟩ := hJ'
     rw [ho'] at ho2; cases ho2
     exact hs.op ho' hl (rest _ hk) a w p
theorem km {C : Cx} {id : Nat} {ops : Array Oper} (its : List It) {Q : Exit -> Act -> World -> Prop} {E : Env} {L : List SP} (hmix : C.P.follows .mixedOrders = true) (hok : okM ops.toList its = true) (hfr : its.all (·.free) = true)
  (hJ : JN C ops (fun E' => K C (Q .normal) E' L) L its E) : J C (.region id ops true) Q E L := fun a w p => by
 refine wpIn_region_draw (fun t => ?_)
 simp only [Region.schedule, hmix, Bool.true_or, if_true]
 refine wpAnyIn_sound ops.size t _ a _ ?_
 simp only [okM, Bool.and_eq_true, List.all_eq_true, List.any_eq_true] at hok
 obtain ⟨⟨⟨h1, h2⟩, h3⟩, h4⟩ := hok
 have h5 : ∀ x ∈ its, x.i < ops.size := fun x hx => by have := h4 x hx; simpa using this
 have hnd : (its.map (·.i)).Nodup := by
  have : ∀ {l : List It}, dy (l.map (fx ops.toList)) = true -> (l.map (·.i)).Nodup := by
   intro l
   induction l with
   | nil => intro _; simp
   | cons x l ih =>
     intro h
     simp only [List.map_cons, dy, Bool.and_eq_true, List.all_eq_true] at h
     simp only [List.map_cons, List.nodup_cons]
     refine ⟨fun hm => ?_, ih h.2⟩
     obtain ⟨y, hy, e⟩ := List.mem_map.1 hm
     have := h.1.1 _ (List.mem_map_of_mem hy)
     simp only [dO, fx, Bool.and_eq_true, Bool.not_eq_true'] at this
     rw [e] at this; simp at this
  exact this h1
 have hlen : its.length <= ops.size := by
  have := lu hnd (n := ops.size) (fun i hi => by
   obtain ⟨x, hx, rfl⟩ := List.mem_map.1 hi
   exact h5 x hx)
  simpa using this
 refine zo ops.size its _ E hlen (by simp) (fun i hi => ?_) h1 (fun x hx => ⟨h5 x hx, fun e he => ?_⟩) (fun x hx => List.all_eq_true.1 hfr x hx) hJ a _ ?_
 · constructor
   · intro _
     obtain ⟨x, hx, e⟩ := h3 i (by simpa using hi)
     exact ⟨x, hx, (Nat.eq_of_beq_eq_true e).symm⟩
   · intro _; simp [Array.getD_eq_getD_getElem?, hi]
 · have := h2 _ (List.mem_map_of_mem hx) e he
   simpa [fx] using this
 · obtain ⟨hsz, hds, h, m, hl, sp, st, fr⟩ := p
   exact ⟨hsz, hds, h, m, hl.trans (HL.same (Same.drew _)), ⟨(by first | exact Sep.inv (by assumption) | exact Inv.mono (FM _ _) (Sep.inv (by assumption))), sp.hm, sp.hr, sp.mr, sp.hw, sp.mw, sp.rw⟩, st, fr⟩
section
variable {C : Cx} {E : Env} {L : List SP} {d : Option Nat} {ty : Nat} {pos : String} {af : Array Edge} {g : Option (Nat × Bool)}
theorem dz {α : Type} {T e n : Nat} {R : Rp α} {x y : Operand} {xs : List α} {k : IntKind} {i : Int} (hu : C.P.underlying T = some (.slice e)) (hR : TyOf C.P e R)
  (hx : Sub (opTy E x) (tSl R xs)) (hy : Sub (opTy E y) (tV (.int k i))) (hi : i = n) (hn : n <= xs.length) :
  a8 C ⟨d, .slice T x none (some y) none, ty, pos, af, g⟩ E L (tSl R (xs.take n)) :=
 FQ (by intro c h; cases h) fun a w h m l sp st fr => by
  obtain ⟨ao, ⟨cap, hlc⟩, hv, H⟩ := fr.get hx
  have hv : a.eval x = .slice ao xs.length cap := hv
  have h2 : a.eval y = .int k i := fr.get hy
  subst hi
  refine ⟨(), .slice (if cap = 0 then ao else ao.map (·.add 0)) n cap, w, h, _, ?_, HL.refl, sp, st, ⟨_, ⟨cap, by rw [List.length_take, Nat.min_eq_left hn]; omega⟩, by show Value.slice _ n cap = Value.slice _ (xs.take n).length cap; rw [List.length_take, Nat.min_eq_left hn], fun hne => ?_⟩⟩
  · simp [execOp, Instr.sliceAt, run_underlying hu, hv, h2, Instr.slice, Instr.sliceBounds, Instr.sliceBound, asIntOf, hR.size, show n <= cap by omega]
  · have h0 : 0 < n := by
      rcases Nat.eq_zero_or_pos n with q | q
      · subst q; exact absurd (by simp) hne
      · exact q
    obtain ⟨b, off, ea, H'⟩ := H (fun e => by rw [e] at hn; simp at hn; omega)
    refine ⟨b, off, by rw [if_neg (by omega), ea]; simp [ce], fun j z hz => H' j z ?_⟩
    rw [List.getElem?_take] at hz
    split at hz
    · exact hz
    · cases hz
theorem zp {T U : Nat} {x y : Operand} {a b : Int} (hx : Sub (opTy E x) (tV (.int .i64 a))) (hy : Sub (opTy E y) (tV (.int .i64 b))) (ha : 0 <= a) (hb : 0 < b) :
  a8 C ⟨d, .binOp .rem T x y U, ty, pos, af, g⟩ E L (tV (.int .i64 (a % b))) := dE hx hy (fun P w => by
 have h1 : a.tmod b = a % b := Int.tmod_eq_emod_of_nonneg ha
 have h2 : ¬ b = 0 := by omega
 simp [binOp, Op.intDiv, h1, h2])
theorem dW {T U : Nat} {x y : Operand} {a b : Bool} (hu : C.P.underlying T = some .bool) (hx : Sub (opTy E x) (tV (.bool a))) (hy : Sub (opTy E y) (tV (.bool b))) :
  a8 C ⟨d, .binOp .eql T x y U, ty, pos, af, g⟩ E L (tV (.bool (a == b))) := oP hx hy (fun w => by
 have h1 := run_equalIn_bool' (P := C.P) w 9999 T a b hu
 have h2 : (Op.equal T (.bool a) (.bool b)).run C.P w = .ok (a == b) w := h1
 simp [binOp, h2])
end
abbrev toB (s : List UInt8) : ByteArray := ⟨s.toArray⟩
abbrev ofB (b : ByteArray) : List UInt8 := b.data.toList
theorem oQ (b : ByteArray) : toB (ofB b) = b := by cases b; simp
theorem BA (s : List UInt8) : ofB (toB s) = s := by simp
theorem iB {h : PH} : ∀ {xs : List ByteArray} {cs : List Value}, relAll d5 h xs cs ↔ cs = xs.map (.string ·)
 | [], cs => Iff.rfl
 | x :: xs, cs => by
   constructor
   · rintro ⟨c1, c2, rfl, r1, r2⟩
     have r1 : c1 = [.string x] := r1
     rw [iB.1 r2, r1]; rfl
   · rintro rfl
     exact ⟨[.string x], xs.map (.string ·), rfl, rfl, iB.2 rfl⟩
theorem wL {h m r : PH} {w w' : World} (s : Sep h m r w) (b : RowKit.Below w.heap.size w w') : HL h w h w' /\ Sep h m r w' := by
 have go : ∀ {p : PH}, p.inw w -> p.inw w' := fun {p} hp b' o e => by
  have := hp b' o e
  rw [b.block _ (Array.getElem?_eq_some_iff.1 this).1]; exact this
 exact ⟨HL.same ⟨b.os, b.tape, b.output⟩, ⟨s.inv, s.hm, s.hr, s.mr, go s.hw, go s.mw, go s.rw⟩⟩
section
variable {κ β : Type} [DecidableEq κ] {kv : κ -> Value} {R : Rp β}
variable {C : Cx} {E : Env} {L : List SP} {d : Option Nat} {ty : Nat} {pos : String} {af : Array Edge} {g : Option (Nat × Bool)}
theorem cd {T kt e : Nat} {x y u : Operand} {v : Value} {m : List (κ × β)} {S : List SP} {q : κ} {z : β} (K : KeyT C.P kt kv) (hu : C.P.underlying T = some (.map kt e))
  (hx : Sub (opTy E x) (tV v)) (hy : Sub (opTy E y) (tV (kv q))) (hz : Sub (opTy E u) (R.ty z)) (sel : Sel L [bD kv R v m] S) :
  Step C ⟨d, .insert T x y u, ty, pos, af, g⟩ E L (fun _ : Unit => tAny) (fun _ => bD kv R v (mput m q z) :: S) :=
 fun a w h mm hn l sp st fr next Q hk => by
  have h2 := (dc (C := C) (d := d) (ty := ty) (pos := pos) (af := af) (g := g) K hu hx hy hz sel a w h mm hn l sp st fr next Q hk).2
  refine ⟨fun _ _ => trivial, ?_⟩
  rw [Fw_round, Oper.semAt_eq _ _ _ (by intro c h; cases h)] at h2 ⊢
  exact h2
def fi (q : κ) : List (κ × β) -> Option Nat
 | [] => none
 | (k, _) :: m => if q = k then some 0 else (fi q m).map (· + 1)
theorem entR.fi {h : PH} {q : κ} : ∀ {m : List (κ × β)} {es : List MapEntry} {n i : Nat}, entR kv R h m es n -> Lg.fi q m = some i ->
  (es.findIdx? fun e => (e.born : Int) == ((n + i : Nat) : Int)) = some i /\ ∀ y u, (R.ty y).p h u -> entR kv R h (mput m q y) (es.modify i fun e => { e with val := u }) n
 | [], [], _, _, _, q => by cases q
 | (k, x) :: m, e :: es, n, i, hq, hi => by
   obtain ⟨h1, h2, h3, h4⟩ := hq
   by_cases hk : q = k
   · subst hk
     have : i = 0 := by simpa [Lg.fi, eq_comm] using hi
     subst this
     refine ⟨by simp [List.findIdx?_cons, h3], fun y u hu => ?_⟩
     simp only [mput, if_true]
     exact ⟨h1, hu, h3, h4⟩
   · simp only [Lg.fi, if_neg hk, Option.map_eq_some_iff] at hi
     obtain ⟨j, hj, rfl⟩ := hi
     obtain ⟨a, b⟩ := entR.fi h4 hj
     refine ⟨?_, fun y u hu => ?_⟩
     · rw [List.findIdx?_cons]
       have : ((e.born : Int) == ((n + (j + 1) : Nat) : Int)) = false := by simp [h3]; omega
       rw [this]
       have e2 : ((n + 1 + j : Nat) : Int) = ((n + (j + 1) : Nat) : Int) := by omega
       rw [e2] at a
       simp only [Bool.false_eq_true, if_false]
       rw [a]; rfl
     · simp only [mput, if_neg hk]
       exact ⟨h1, h2, h3, b y u hu⟩
end
section
variable {C : Cx} {E : Env} {L : List SP} {d : Option Nat} {ty : Nat} {pos : String} {af : Array Edge} {g : Option (Nat × Bool)}
theorem wM {s : ByteArray} {i : Nat} (h : i < s.size) : s[i]? = some (s.data.toList.getD i 0) := by
 have h2 : i < s.data.size := h
 rw [getElem?_pos s i h]
 simp [List.getD, h2]
 rw [Array.getElem?_eq_getElem h2]; rfl
theorem cR {T i : Nat} {x y : Operand} {s : ByteArray} {k : IntKind} {n : Int} (hu : C.P.underlying T = some .string) (hx : Sub (opTy E x) (tV (.string s))) (hy : Sub (opTy E y) (tV (.int k n))) (hi : n = i) (hl : i < s.size) :
  a8 C ⟨d, .index T x y, ty, pos, af, g⟩ E L (tV (.int .u8 (nth (aA s) i))) :=
 FP (by intro c h; cases h) fun a w h hh f => by
  have h1 : a.eval x = .string s := f.get hx
  have h2 : a.eval y = .int k n := f.get hy
  subst hi
  have e : nth (aA s) i = ((s.data.toList.getD i 0).toNat : Int) := by
   have hl' : i < (aA s).length := by rw [cE]; exact hl
   rw [nth_get hl']
   have h2 : i < s.data.toList.length := hl
   have h3 : i < s.data.size := hl
   simp only [aA, List.getElem_map]
   rw [List.getD_eq_getElem?_getD, List.getElem?_eq_getElem h2]
   rfl
  refine ⟨.int .u8 (nth (aA s) i), ?_, rfl⟩
  rw [e]
  simp [execOp, Instr.index, h1, h2, run_underlying hu, asIntOf, wM hl]
theorem zq {T U : Nat} {x y : Operand} {a b : Int} (hx : Sub (opTy E x) (tV (.int .i64 a))) (hy : Sub (opTy E y) (tV (.int .i64 b))) (ha : 0 <= a) (hb : 0 < b) (hr : iu (a / b)) :
  a8 C ⟨d, .binOp .quo T x y U, ty, pos, af, g⟩ E L (tV (.int .i64 (a / b))) := dE hx hy (fun P w => by
 have h1 : a.tdiv b = a / b := Int.tdiv_eq_ediv_of_nonneg ha
 have h2 : ¬ b = 0 := by omega
 simp [binOp, Op.intDiv, h1, h2, fZ hr])
theorem zr {T U : Nat} {x y : Operand} {k k' : IntKind} {a b : Int} (hx : Sub (opTy E x) (tV (.int k a))) (hy : Sub (opTy E y) (tV (.int k' b))) :
  a8 C ⟨d, .call { callee := .builtin .min, args := #[x, y], argTypes := #[T, U] }, ty, pos, af, g⟩ E L (tV (.int k (if b < a then b else a))) :=
 FP (by intro c h; cases h) fun a' w h hw f => by
  have h1 : a'.eval x = .int k a := f.get hx
  have h2 : a'.eval y = .int k' b := f.get hy
  refine ⟨.int k (if b < a then b else a), ?_, rfl⟩
  simp [execOp, resolve, invoke, builtin, Builtin.min_, Builtin.min2, h1, h2]
  try split <;> simp_all
theorem dl {T U : Nat} {x y : Operand} {a b : ByteArray} (hx : Sub (opTy E x) (tV (.string a))) (hy : Sub (opTy E y) (tV (.string b))) (hs : a.size + b.size <= 9223372036854775807) :
  a8 C ⟨d, .binOp .add T x y U, ty, pos, af, g⟩ E L (tV (.string (a ++ b))) := jw hx hy (fun P w => by simp [binOp, Op.stringOp]; omega)
theorem dA {α : Type} {T U e : Nat} {R : Rp α} {x : Operand} {xs : List α} (hu : C.P.underlying T = some (.slice e)) (hx : Sub (opTy E x) (tSl R xs)) :
  Step (X := { b : Bool // b = true -> xs = [] }) C ⟨d, .binOp .eql T x (.const (.slice none 0 0)) U, ty, pos, af, g⟩ E L (fun b => tV (.bool b.1)) (fun _ => L) :=
 FQ (by intro c h; cases h) fun a w h m l sp st fr => by
  obtain ⟨ao, cap, hv, H⟩ := fr.get hx
  refine ⟨⟨ao.isNone, fun hb => ?_⟩, .bool ao.isNone, w, h, m, ?_, HL.refl, sp, st, rfl⟩
  · by_cases hne : xs = []
    · exact hne
    · obtain ⟨b, off, rfl, _⟩ := H hne
      cases hb
  · have he : ∀ w, (eqGuard .eql T x (.const (.slice none 0 0)) (a.eval x) (.slice none 0 0)).run C.P w = .ok () w := by intro w; rw [hv]; simp [eqGuard]
    have h2 : a.eval (.const (.slice none 0 0)) = .slice none 0 0 := rfl
    have hr := Lib.run_eql_slice_nil (P := C.P) w T e ao xs.length cap 0 0 hu
    rw [hv] at he
    simp [execOp, hv, h2, Sem.run_bind, he, hr]
theorem Sep.newImm {h m r : PH} {w w' : World} {o : Obj} (s : Sep h m r w) (hold : ∀ j, j < w.heap.size -> w'.heap[j]? = w.heap[j]?) (hnew : w'.heap[w.heap.size]? = some o) : Sep (h.join (PH.one w.heap.size o)) m r w' := by
 have s2 := s.allocImm o
 have go : ∀ {p : PH}, p.inw (w.alloc o) -> p.inw w' := fun {p} hp b o' e => by
  have h1 := hp b o' e
  have hlt := (Array.getElem?_eq_some_iff.1 h1).1
  rw [show (w.alloc o).heap = w.heap.push o from rfl] at h1 hlt
  by_cases hb : b < w.heap.size
  · rw [hold b hb]; rw [Array.getElem?_push_lt hb] at h1; rw [Array.getElem?_eq_getElem hb]; exact h1
  · have : b = w.heap.size := by simp at hlt; omega
    subst this
    rw [hnew]; simpa using h1
 exact ⟨s2.inv, s2.hm, s2.hr, s2.mr, go s2.hw, go s2.mw, go s2.rw⟩
theorem jx {T U e : Nat} {x : Operand} {s : ByteArray} (hs : C.P.underlying T = some .string) (hd : C.P.underlying U = some (.slice e)) (he : C.P.underlying e = some (.int .u8)) (hx : Sub (opTy E x) (tV (.string s))) :
  a8 C ⟨d, .convert T U x, ty, pos, af, g⟩ E L (tSl rU8 (aA s)) :=
 FQ (by intro c h; cases h) fun a w h m l sp st fr => by
  have hv : a.eval x = .string s := fr.get hx
  refine ⟨(), .slice (some ⟨w.heap.size, 0, none⟩) s.size (grownCap w s.size 0 e), Lib.bytesWorld w e s, h.join (PH.one w.heap.size (.cells (Lib.bytesCells w e s) e ((Lib.bytesCells w e s).size, (Lib.bytesCells w e s).size + 1))), m, ?_, ⟨FM _ _, ?_⟩, sp.newImm (fun j hj => Lib.bytesWorld_at_old w e s j hj) (Lib.bytesWorld_at_new w e s), (stars L).mono (FM _ _) st, ?_⟩
  · simp [execOp, hv, Lib.run_convert_string_bytes (P := C.P) w T U e s hs hd he]
  · exact ⟨rfl, rfl, rfl⟩
  · have := gw (R := rU8) (h := h.join (PH.one w.heap.size (.cells (Lib.bytesCells w e s) e ((Lib.bytesCells w e s).size, (Lib.bytesCells w e s).size + 1)))) (b := w.heap.size) (off := 0) (cap := grownCap w s.size 0 e) (c := Lib.bytesCells w e s) (e := e) (fz := ((Lib.bytesCells w e s).size, (Lib.bytesCells w e s).size + 1)) (xs := aA s) (cs := (aA s).map (Value.int .u8 ·)) (FO (FV sp.hw _) _ _ (F3 _ _)) (f7.2 rfl) (fun j v hv => by
      simp only [List.getElem?_map, Option.map_eq_some_iff] at hv
      obtain ⟨n, hn, rfl⟩ := hv
      simp only [aA, List.getElem?_map, Option.map_eq_some_iff] at hn
      obtain ⟨b, hb, rfl⟩ := hn
      have hlt : j < s.data.size := by
       have := (List.getElem?_eq_some_iff.1 hb).1
       simpa using this
      rw [Nat.zero_add]
      simp only [Lib.bytesCells]
      rw [Array.getElem?_append_left (by simpa using hlt)]
      have hb2 : s.data[j]? = some b := by simpa using hb
      simp [hb2])
    rw [cE] at this
    exact this (grownCap_ge _ _ _ _)
end
section
variable {κ β : Type} [DecidableEq κ]
def d6 (kv : κ -> Value) (R : Rp β) (m : List (κ × β)) : Ty := ⟨fun h v => ∃ m1 : PH, m1.le h /\ (bD kv R v m).p h m1, fun {h h' v} l ⟨m1, a, b⟩ => ⟨m1, PH.le_trans a l, (bD kv R v m).mono l b⟩⟩
theorem GA {kv : κ -> Value} {R : Rp β} {v : Value} {m : List (κ × β)} {S : List SP} : Frz (bD kv R v m :: S) (tV v) (d6 kv R m) := fun h mm u d ⟨m1, m2, d12, em, ho, _⟩ hu => by
 subst em
 have hu : u = v := hu
 subst hu
 have hd := PH.disj_join'.1 d
 exact ⟨m1, fun b o e => FO d _ _ (FM _ _ _ _ e), (bD kv R u m).mono (FM _ _) ho⟩
variable {kv : κ -> Value} {R : Rp β}
variable {C : Cx} {E : Env} {L : List SP} {d : Option Nat} {ty : Nat} {pos : String} {af : Array Edge} {g : Option (Nat × Bool)}
theorem lM {T kt e : Nat} {x y : Operand} {m : List (κ × β)} {q : κ} {z : β} {zv : Value} (K : KeyT C.P kt kv) (hu : C.P.underlying T = some (.map kt e)) (hz : ∀ w, (zeroValue e).run C.P w = .ok zv w) (hzr : ∀ h, (R.ty z).p h zv)
  (hx : Sub (opTy E x) (d6 kv R m)) (hy : Sub (opTy E y) (tV (kv q))) : a8 C ⟨d, .lookup T x y true, ty, pos, af, g⟩ E L (fW [R.ty ((mget m q).getD z), tV (.bool (mget m q).isSome)]) :=
 FQ (by intro c h; cases h) fun a w h mm l sp st fr => by
  obtain ⟨m1, hle, ho⟩ := fr.get hx
  have h2 : a.eval y = kv q := fr.get hy
  obtain ⟨u, hu1, hrun⟩ := iA (P := C.P) K hu hz hzr ho (fun b o e => sp.hw _ _ (hle _ _ e)) q true
  exact ⟨(), _, w, h, _, by simp [execOp, h2, hrun], HL.refl, sp, st, ⟨[u, .bool _], rfl, hu1, rfl, trivial⟩⟩
end
section
variable {C : Cx} {E : Env} {L : List SP} {d : Option Nat} {ty : Nat} {pos : String} {af : Array Edge} {g : Option (Nat × Bool)}
end
open Go Go.Proofs Go.Proofs.Tryz
def AY {β : Type} (n : Nat) (R : Rp β) : Rp (List β) where
 k := n * R.k
 agg := true
 rel := fun h xs cs => xs.length = n /\ relAll R h xs cs
 ty := fun xs => ⟨fun h v => ∃ cs, (xs.length = n /\ relAll R h xs cs) /\ v = packV true cs, fun l ⟨cs, r, e⟩ => ⟨cs, ⟨r.1, d9 l r.2⟩, e⟩⟩
 len := by rintro h xs cs ⟨rfl, r⟩; exact cC r
 one := by rintro h xs cs ⟨_, r⟩; exact iv r
 mono := fun l r => ⟨r.1, d9 l r.2⟩
 scalar := fun e => by cases e
 iff := Iff.rfl
def uR (A : Ty) (ho : ∀ h v, A.p h v -> v.oneCell' = true) : Rp Unit where
 k := 1
 agg := false
 rel := fun h _ cs => ∃ u, cs = [u] /\ A.p h u
 ty := fun _ => A
 len := by rintro _ _ _ ⟨u, rfl, _⟩; rfl
 one := by rintro _ _ _ ⟨u, rfl, h⟩ c hc; simp at hc; subst hc; exact ho _ _ h
 mono := fun l ⟨u, e, a⟩ => ⟨u, e, A.mono l a⟩
 scalar := fun _ => rfl
 iff := by
  intro h x v
  constructor
  · intro h1; exact ⟨[v], ⟨v, rfl, h1⟩, rfl⟩
  · rintro ⟨cs, ⟨u, rfl, h1⟩, rfl⟩; exact h1
section
variable {C : Cx} {E : Env} {L : List SP} {d : Option Nat} {ty : Nat} {pos : String} {af : Array Edge} {g : Option (Nat × Bool)}
theorem aW {x : Operand} {b o : Nat} (hx : Sub (opTy E x) (tAt b o)) : a8 C ⟨d, .nilCheck x, ty, pos, af, g⟩ E L (tAt b o) :=
 FP (by intro c h; cases h) fun a w h hw fr => by
  have hv : a.eval x = .pointer (some ⟨b, o, none⟩) := fr.get hx
  exact ⟨_, by simp [execOp, hv], rfl⟩
theorem aZ {α : Type} {R : Rp α} {x : Operand} {y : α} (hx : Sub (opTy E x) (bx R y)) : a8 C ⟨d, .nilCheck x, ty, pos, af, g⟩ E L (bx R y) :=
 FP (by intro c h; cases h) fun a w h hw fr => by
  have hp := fr.get hx
  obtain ⟨b, off, cs, hv, H⟩ := hp
  exact ⟨_, by simp [execOp, hv], ⟨b, off, cs, rfl, H⟩⟩
theorem lN {T n e b o i : Nat} {x y : Operand} {k : IntKind} {z : Int} (hu : C.P.underlying T = some (.array n e)) (hs : ∀ w, (Go.sizeOf e).run C.P w = .ok 1 w) (hx : Sub (opTy E x) (tAt b o)) (hy : Sub (opTy E y) (tV (.int k z))) (hz : z = i) (hlt : i < n) :
  a8 C ⟨d, .indexAddr T x y, ty, pos, af, g⟩ E L (tAt b (o + i)) :=
 FP (by intro c h; cases h) fun a w h hw fr => by
  have hv : a.eval x = .pointer (some ⟨b, o, none⟩) := fr.get hx
  have h2 : a.eval y = .int k z := fr.get hy
  subst hz
  refine ⟨.pointer (some ⟨b, o + i, none⟩), ?_, rfl⟩
  simp [execOp, Instr.indexAt, Instr.sureAddr, hv, h2, asIntOf, run_underlying hu, hs, hlt, ce]
theorem dm {β : Type} [Inhabited β] {R : Rp β} {T n e i : Nat} {x y : Operand} {xs : List β} {k : IntKind} {z : Int} (hu : C.P.underlying T = some (.array n e)) (hR : TyOf C.P e R) (hk : R.k = 1) (hx : Sub (opTy E x) (bx (AY n R) xs)) (hy : Sub (opTy E y) (tV (.int k z))) (hz : z = i) (hlt : i < n) :
  a8 C ⟨d, .indexAddr T x y, ty, pos, af, g⟩ E L (bx R (nth xs i)) :=
 FP (by intro c h; cases h) fun a w h hw fr => by
  obtain ⟨b, off, cs, hv, ⟨c, e', fz, hb, hc⟩, hn, r⟩ := fr.get hx
  have h2 : a.eval y = .int k z := fr.get hy
  subst hz
  have hl : i < xs.length := by omega
  obtain ⟨c', r', hc'⟩ := ec r (List.getElem?_eq_getElem hl)
  have hs := hR.size
  rw [hk] at hs
  refine ⟨.pointer (some ⟨b, off + i, none⟩), ?_, b, off + i, c', rfl, ⟨c, e', fz, hb, fun j v hv' => ?_⟩, by rw [nth_get hl]; exact r'⟩
  · simp [execOp, Instr.indexAt, Instr.sureAddr, hv, h2, asIntOf, run_underlying hu, hs, hlt, ce]
  · rw [Nat.add_assoc]
    have := hc' j v hv'
    rw [hk, Nat.mul_one] at this
    exact hc _ _ this
theorem oR {α β : Type} [Inhabited β] {T U A n b i : Nat} {R : Rp β} {gt : α -> List β} {fs : List (SF α)} {x : Operand} {y : α} {S : List SP} (hR : TyOf C.P T R) (hk : R.k = 1) (hx : Sub (opTy E x) (tAt b i)) (hi : i < n)
  (sel : Sel L [box b U (aU (⟨List β, A, AY n R, gt⟩ :: fs)) y] S) : a8 C ⟨d, .load T x, ty, pos, af, g⟩ E L (R.ty (nth (gt y) i)) :=
 FQ (by intro c h; cases h) fun a w h m l sp st fr => by
  obtain ⟨m1, m2, d12, rfl, ⟨cs, r, rfl⟩, s2⟩ := sel.one.1 st
  have hb := sp.heap_own
  obtain ⟨c1, c2, rfl, ⟨hn, r1⟩, r2⟩ := r
  have hl : i < (gt y).length := by simpa using hn ▸ hi
  obtain ⟨c', r', hc'⟩ := ec r1 (List.getElem?_eq_getElem hl)
  have := bG (b := b) (o := i) (w := w) hR.agg hR.size (R.len r') R.scalar (fun j v hv' => by
   have h1 := hc' j v hv'
   rw [hk, Nat.mul_one] at h1
   rw [c8 (h := h) hb]
   have hlt := (List.getElem?_eq_some_iff.1 h1).1
   simp [List.getElem?_append_left hlt, h1])
  refine ⟨(), packV R.agg c', w, h, _, ?_, HL.refl, sp, st, ?_⟩
  · have hv : a.eval x = .pointer (some ⟨b, i, none⟩) := fr.get hx
    simp [execOp, Instr.loadAt, Instr.sureAddr, hv, this]
  · rw [nth_get hl]; exact R.pack r'
theorem rU {β : Type} {R : Rp β} {h : PH} (hk : R.k = 1) {xs : List β} {cs : List Value} {i : Nat} {z : β} {u : Value} (hi : i < xs.length) (rz : R.rel h z [u]) (r : relAll R h xs cs) : relAll R h (xs.set i z) (cs.set i u) := by
 have h1 := iw rz hi r
 rw [hk] at h1
 simp only [Nat.mul_one] at h1
 have hl := cC r
 rw [hk, Nat.mul_one] at hl
 have e : cs.set i u = List.take i cs ++ u :: List.drop (i + 1) cs := by rw [List.set_eq_take_append_cons_drop, if_pos (by omega)]
 rw [e]
 simpa [List.append_assoc] using h1
theorem nv {α β : Type} {T U A n b i : Nat} {R : Rp β} {gt : α -> List β} {fs : List (SF α)} {x v : Operand} {y y' : α} {z : β} {S : List SP} (hR : TyOf C.P T R) (hk : R.k = 1) (hx : Sub (opTy E x) (tAt b i)) (hi : i < n) (hv : Sub (opTy E v) (R.ty z))
  (sel : Sel L [box b U (aU (⟨List β, A, AY n R, gt⟩ :: fs)) y] S) (hy : gt y' = (gt y).set i z) (hg : ∀ f ∈ fs, f.get y' = f.get y) :
  Step C ⟨d, .store T x v, ty, pos, af, g⟩ E L (fun _ : Unit => tAny) (fun _ => box b U (aU (⟨List β, A, AY n R, gt⟩ :: fs)) y' :: S) :=
 Ga (by intro c h; cases h) fun a w h m l sp st fr => by
  obtain ⟨m1, m2, d12, rfl, ⟨cs, r, rfl⟩, s2⟩ := sel.one.1 st
  have hb := sp.heap_own
  obtain ⟨c1, c2, rfl, ⟨hn, r1⟩, r2⟩ := r
  have hl : i < (gt y).length := by simpa using hn ▸ hi
  have rz := R.cells (fr.get hv)
  have hzl := R.len rz
  rw [hk] at hzl
  obtain ⟨u, hu⟩ : ∃ u, (a.eval v).cells.toList = [u] := by
   match he : (a.eval v).cells.toList with
   | [u] => exact ⟨u, rfl⟩
   | [] => rw [he] at hzl; simp at hzl
   | _ :: _ :: _ => rw [he] at hzl; simp at hzl
  have hl1 := cC r1
  rw [hk, Nat.mul_one] at hl1
  have hp : a.eval x = .pointer (some ⟨b, i, none⟩) := fr.get hx
  have hsz : (a.eval v).cells.size = R.k := by rw [hk, <- Array.length_toList, hu]; rfl
  obtain ⟨w', hrun, hoth, hsame, hnew⟩ := cr (P := C.P) (b := b) (o := i) (v := a.eval v) hR.size hsz hb (by simp; omega) (R.one rz)
  rw [hu] at rz hnew
  have hcells : List.take i (c1 ++ c2) ++ [u] ++ List.drop (i + R.k) (c1 ++ c2) = c1.set i u ++ c2 := by
   rw [hk, List.set_eq_take_append_cons_drop, if_pos (by omega), List.take_append_of_le_length (by omega), List.drop_append_of_le_length (by omega)]
   simp [List.append_assoc]
  refine ⟨(), w', h, (PH.one b (.cells (c1.set i u ++ c2).toArray U (0, 0))).join m2, ?_, HL.same hsame, F4 d12 sp (fun b' hne _ => hoth b' hne) (by rw [hnew, <- hcells]), ?_⟩
  · simp [execOp, Instr.storeAt, Instr.sureAddr, hp, hrun]
  · refine ⟨_, m2, PH.one_disj_iff.2 (PH.one_disj_iff.1 d12), rfl, ⟨c1.set i u ++ c2, ⟨c1.set i u, c2, rfl, ?_, Gn hg r2⟩, rfl⟩, s2⟩
    exact ⟨by show (gt y').length = n; rw [hy]; simpa using hn, by show relAll R h (gt y') _; rw [hy]; exact rU hk hl rz r1⟩
theorem uS {α : Type} {T e bytes : Nat} {R : Rp α} {z : α} {x y : Operand} {c : Nat} {kl kc : IntKind} {i j : Int} (hu : C.P.underlying T = some (.slice e)) (hE : ElT C.P e R bytes z)
  (hx : Sub (opTy E x) (tV (.int kl i))) (hy : Sub (opTy E y) (tV (.int kc j))) (hi : i = 0) (hj : j = c) (hb : bytes * c <= 281474976710656) (hn : c <= 1000000000000) :
  Step C ⟨d, .makeSlice T x y, ty, pos, af, g⟩ E L (fun v : Value => rV.ty v) (fun v => own e R v ([] : List α) :: L) :=
 FQ (by intro c h; cases h) fun a w h m l sp st fr => by
  obtain ⟨i', zv, hi', hz, hk, hby, hzr⟩ := hE.inf
  subst hi; subst hj
  have h1 : a.eval x = .int kl 0 := fr.get hx
  have h2 : a.eval y = .int kc c := fr.get hy
  have hr := run_make (P := C.P) w T e i' zv hu hi' hz kl kc 0 c (by omega) (by omega) (by rw [hby]; have : ((bytes * c : Nat) : Int) <= 281474976710656 := by omega
                                                                                           rwa [Int.natCast_mul] at this) (by omega)
  have rz := R.cells (hzr h)
  refine ⟨.slice (some ⟨w.heap.size, 0, none⟩) 0 c, .slice (some ⟨w.heap.size, 0, none⟩) 0 c, w.alloc (.cells (madeCells zv.cells (c * i'.size)) e), h, (PH.one w.heap.size (.cells (madeCells zv.cells (c * i'.size)) e)).join m, ?_, HL.own _, sp.allocOwn _, ?_, ⟨rfl, rfl⟩⟩
  · simp only [execOp, h1, h2, Sem.run_bind, hr, Result.andThen_ok, Int.toNat_natCast]; rfl
  · have hl := R.len rz
    have hzs : zv.cells.size = R.k := by simpa using hl
    refine ⟨_, m, FU (FV sp.mw _), rfl, .inr ⟨w.heap.size, c, _, by simp, rfl, by simp, ?_, ?_, ?_⟩, st⟩
    · unfold maxLen; omega
    · rw [size_madeCells, hk]
    · simp; rfl
def tIf (T : Nat) (A : Ty) : Ty := ⟨fun h v => ∃ u, v = .iface T u /\ A.p h u, fun l ⟨u, e, a⟩ => ⟨u, e, A.mono l a⟩⟩
theorem gZ {T : Nat} {x : Operand} {A : Ty} {D : TypeDesc} (hu : C.P.underlying T = some D) (hD : ∀ m, D ≠ .interface m) (hx : Sub (opTy E x) A) : a8 C ⟨d, .makeInterface T x, ty, pos, af, g⟩ E L (tIf T A) :=
 FP (by intro c h; cases h) fun a w h hw fr => by
  refine ⟨.iface T (a.eval x), ?_, a.eval x, rfl, fr.get hx⟩
  simp only [execOp, Instr.makeInterface]
  cases D <;> first | (exact absurd rfl (hD _)) | simp [run_underlying hu]
theorem rW {X : Type} {S R : List SP} {x : Operand} {T f : Nat} {A : Ty} {name : String} {xs : Array Operand} {ts : Array Nat} {aT : List Ty} {res : X -> Ty} {L' : X -> List SP}
  (hx : Sub (opTy E x) (tIf T A)) (hm : ∀ h u w, A.p h u -> (method (C.P.types.size + Made.depth) T u name).run C.P w = .ok (f, u) w) (sel : Sel L S R) (sp : Spec C.P f (A :: aT) S res L') (ha : ArgsE E xs.toList aT) (he : ∀ args w, (callFunc f args).run C.P w = .ok (.enter f args) w) :
  Step C ⟨d, .call { callee := .invoke x name, args := xs, argTypes := ts }, ty, pos, af, g⟩ E L res (fun x => L' x ++ R) := fun a w h m n l se st fr next Q hk => by
 obtain ⟨m1, m2, d12, rfl, s1, s2⟩ := sel.stars.1 st
 obtain ⟨u, hv, hu⟩ := fr.get hx
 have hA : Args h (A :: aT) (u :: xs.toList.map a.eval) := ⟨hu, ha.args fr⟩
 have hd := PH.disj_join'.1 se.hm
 have hr := PH.disj_join.1 se.mr
 have hc := sp _ h m1 (m2.join C.r) w hA ⟨(by first | exact Sep.inv (by assumption) | exact Inv.mono (FM _ _) (Sep.inv (by assumption))), hd.1, PH.disj_join'.2 ⟨hd.2, se.hr⟩, PH.disj_join'.2 ⟨d12, hr.1⟩, se.hw, fun b o e => se.mw _ _ (FM _ _ _ _ e),
  FW (fun b o e => se.mw _ _ (FO d12 _ _ e)) se.rw⟩ s1
 refine ⟨fun _ _ => trivial, ?_⟩
 rw [Fw_round, Oper.semAt_eq _ _ _ (by intro c h; cases h)]
 have hrun : (execOp a.eval ⟨d, .call { callee := .invoke x name, args := xs, argTypes := ts }, ty, pos, af, g⟩).run C.P w = .ok (.enter f (u :: xs.toList.map a.eval).toArray) w := by
  simp only [execOp, resolve]
  have e0 : (#[Value.iface T u] ++ Array.map a.eval xs)[0]? = some (.iface T u) := by simp [Array.getElem?_append]
  have e2 : (Array.map a.eval xs).extract 0 xs.size = Array.map a.eval xs := by
   have : xs.size = (Array.map a.eval xs).size := by simp
   rw [this, Array.extract_size]
  simp only [invoke, callMethod, hv]
  simp [e0, hm h u _ hu, he, e2]
 rw [hrun]
 refine ⟨by simp, (callsIn_wide (n := 0 - 1)).2 (hc.mono ?_)⟩
 rintro e w' ⟨x, v, h', m', rfl, l', se', st', hv⟩
 have e1 := PH.disj_join'.1 se'.hr
 have e2 := PH.disj_join'.1 se'.mr
 exact hk x v w' h' (m'.join m2) l' ⟨(by first | exact Sep.inv (by assumption) | exact Inv.mono (FM _ _) (Sep.inv (by assumption))), PH.disj_join'.2 ⟨se'.hm, e1.1⟩, e1.2, PH.disj_join.2 ⟨e2.2, hr.2⟩, se'.hw, FW se'.mw (fun b o e => se'.rw _ _ (FM _ _ _ _ e)), fun b o e => se'.rw _ _ (FO hr.2 _ _ e)⟩
  (cj.2 ⟨m', m2, e2.1, rfl, st', by
   have : (stars R).p h' m2 := (stars R).mono l'.1 s2
   exact this⟩) hv
end
def AZ (n : Nat) : Rp (List Value) where
 k := n
 agg := true
 rel := fun _ x cs => cs = x /\ x.length = n /\ ∀ c ∈ x, c.oneCell' = true
 ty := fun x => ⟨fun h v => ∃ cs, (cs = x /\ x.length = n /\ ∀ c ∈ x, c.oneCell' = true) /\ v = packV true cs, fun _ e => e⟩
 len := by rintro _ _ _ ⟨rfl, h, _⟩; exact h
 one := by rintro _ _ _ ⟨rfl, _, h⟩; exact h
 mono := fun _ e => e
 scalar := fun e => by cases e
 iff := Iff.rfl
section
variable {κ β : Type} [DecidableEq κ] (kv : κ -> Value) (R : Rp β)
end
section
variable {κ β : Type} [DecidableEq κ] {kv : κ -> Value} {R : Rp β}
variable {C : Cx} {E : Env} {L : List SP} {d : Option Nat} {ty : Nat} {pos : String} {af : Array Edge} {g : Option (Nat × Bool)}
theorem lO {h : PH} {v : Value} {m : List (κ × β)} (a : (d6 kv R m).p h v) : ∃ r es, v = .map (some r) /\ h r = some (.map (List.toArray es) es.length) /\ entR kv R h m es 0 := by
 obtain ⟨m1, l, r, es, rfl, rfl, hr⟩ := a
 exact ⟨r, es, rfl, l _ _ (F3 _ _), hr⟩
end
def tOM {κ β : Type} [DecidableEq κ] (kv : κ -> Value) (R : Rp β) : Option (List (κ × β)) -> Ty
 | none => tV (.map none)
 | some m => d6 kv R m
theorem BB {κ β : Type} [DecidableEq κ] {kv : κ -> Value} {R : Rp β} {o : Option (List (κ × β))} {h : PH} {v : Value} (a : (tOM kv R o).p h v) : v.oneCell' = true := by
 cases o with
 | none => have a : v = .map none := a; subst a; rfl
 | some m => obtain ⟨r, es, rfl, _⟩ := lO a; rfl
def rOM {κ β : Type} [DecidableEq κ] (kv : κ -> Value) (R : Rp β) : Rp (Option (List (κ × β))) where
 k := 1
 agg := false
 rel := fun h o cs => ∃ u, cs = [u] /\ (tOM kv R o).p h u
 ty := fun o => tOM kv R o
 len := by rintro _ _ _ ⟨u, rfl, _⟩; rfl
 one := by rintro _ _ _ ⟨u, rfl, h⟩ c hc; simp at hc; subst hc; exact BB h
 mono := fun {h h' o cs} l ⟨u, e, a⟩ => ⟨u, e, (tOM kv R o).mono l a⟩
 scalar := fun _ => rfl
 iff := by
  intro h x v
  constructor
  · intro h1; exact ⟨[v], ⟨v, rfl, h1⟩, rfl⟩
  · rintro ⟨cs, ⟨u, rfl, h1⟩, rfl⟩; exact h1
section
variable {κ α : Type} [DecidableEq κ]
abbrev eh (κ α : Type) := List (κ × Value × List α)
def iM (e : Nat) (R : Rp α) (q : eh κ α) : SP := stars (q.map fun t => own e R t.2.1 t.2.2)
def nR (q : eh κ α) (k : κ) : Value × List α := match q with
 | [] => (.slice none 0 0, [])
 | (a, v, xs) :: q => if k = a then (v, xs) else nR q k
def rmv (q : eh κ α) (k : κ) : eh κ α := match q with
 | [] => []
 | (a, v, xs) :: q => if k = a then q else (a, v, xs) :: rmv q k
def rQ (q : eh κ α) (k : κ) (v : Value) (xs : List α) : eh κ α := match q with
 | [] => [(k, v, xs)]
 | (a, v0, x0) :: q => if k = a then (a, v, xs) :: q else (a, v0, x0) :: rQ q k v xs
abbrev vals (q : eh κ α) : List (κ × Value) := q.map fun t => (t.1, t.2.1)
theorem tv (k : κ) : ∀ q : eh κ α, (mget (vals q) k).getD (.slice none 0 0) = (nR q k).1
 | [] => rfl
 | (a, v, xs) :: q => by
   by_cases h : k = a
   · simp [mget, nR, h]
   · simp only [List.map_cons, mget, nR, if_neg h]; exact tv k q
theorem lw (k : κ) (v : Value) (ys : List α) : ∀ q : eh κ α, mput (vals q) k v = vals (rQ q k v ys)
 | [] => rfl
 | (a, v0, x0) :: q => by
   by_cases h : k = a
   · simp [mput, rQ, h]
   · simp only [List.map_cons, mput, rQ, if_neg h]; rw [lw k v ys q]
variable {e : Nat} {R : Rp α} {L : List SP}
theorem LSub.head {A : SP} {L L' : List SP} (h : LSub L L') : LSub (A :: L) (A :: L') := LSub.cons (Sel.take (FN _)) SPs.rfl h
theorem LSub.swap {A B : SP} {L : List SP} : LSub (A :: B :: L) (B :: A :: L) := LSub.cons (Sel.skip (Sel.take (FN _))) SPs.rfl (LSub.cons (Sel.take (FN _)) SPs.rfl LSub.rfl)
theorem GB {A : SP} {B L : List SP} : LSub (Lg.stars (A :: B) :: L) (A :: Lg.stars B :: L) := fun h m ⟨m1, m2, d, e, ⟨m3, m4, d3, e3, ha, hb⟩, hl⟩ => by
 subst e; subst e3
 have dd := PH.disj_join.1 d
 exact ⟨m3, m4.join m2, PH.disj_join'.2 ⟨d3, dd.1⟩, FZ _ _ _, ha, m4, m2, dd.2, _root_.rfl, hb, hl⟩
theorem kn (k : κ) : ∀ {q : eh κ α} {L : List SP}, LSub (iM e R q :: L) (own e R (nR q k).1 (nR q k).2 :: iM e R (rmv q k) :: L)
 | [], L => FR
 | (a, v, xs) :: q, L => by
   by_cases h : k = a
   · simp only [nR, rmv, if_pos h]; exact GB
   · simp only [nR, rmv, if_neg h]
     exact LSub.trans GB (LSub.trans (LSub.head (kn k)) (LSub.trans LSub.swap (LSub.head LSub.push)))
theorem jy (k : κ) (v : Value) (ys : List α) : ∀ {q : eh κ α} {L : List SP}, LSub (own e R v ys :: iM e R (rmv q k) :: L) (iM e R (rQ q k v ys) :: L)
 | [], L => LSub.push
 | (a, v0, x0) :: q, L => by
   by_cases h : k = a
   · simp only [rQ, rmv, if_pos h]; exact LSub.push
   · simp only [rQ, rmv, if_neg h]
     exact LSub.trans (LSub.head GB) (LSub.trans LSub.swap (LSub.trans (LSub.head (jy k v ys)) LSub.push))
theorem tw {L : List SP} : LSub L (iM e R ([] : eh κ α) :: L) := fun h m p => ⟨PH.emp, m, FU (FX _), (Gc _).symm, _root_.rfl, p⟩
variable {kv : κ -> Value}
variable {C : Cx} {E : Env} {d : Option Nat} {ty : Nat} {pos : String} {af : Array Edge} {g : Option (Nat × Bool)}
theorem fy {T kt el : Nat} {x y : Operand} {v : Value} {q : eh κ α} {S : List SP} {k : κ} (K : KeyT C.P kt kv) (hu : C.P.underlying T = some (.map kt el)) (hz : ∀ w, (zeroValue el).run C.P w = .ok (.slice none 0 0) w)
  (hx : Sub (opTy E x) (tV v)) (hy : Sub (opTy E y) (tV (kv k))) (sel : Sel L [bD kv rV v (vals q)] S) : a8 C ⟨d, .lookup T x y false, ty, pos, af, g⟩ E L (rV.ty (nR q k).1) := by
 have := lL (C := C) (d := d) (ty := ty) (pos := pos) (af := af) (g := g) (R := rV) (z := .slice none 0 0) K hu hz (fun _ => ⟨rfl, rfl⟩) hx hy sel
 rw [tv] at this
 exact this
end
section
variable {κ α : Type} [DecidableEq κ] {kv : κ -> Value} {e : Nat} {R : Rp α}
abbrev ko (q : eh κ α) : List (κ × List α) := q.map fun t => (t.1, t.2.2)
theorem BC {h m : PH} {v : Value} {xs : List α} {S : List SP} (s : (Lg.stars (own e R v xs :: S)).p h m) : v.oneCell' = true := by
 obtain ⟨m3, m4, _, _, ho, _⟩ := s
 rcases ho with ⟨rfl, _⟩ | ⟨g, cap, cur, rfl, _⟩ <;> rfl
theorem tx {h : PH} : ∀ {q : eh κ α} {m : PH}, h.disj m -> (iM e R q).p h m -> ∀ t ∈ q, (tSl R t.2.2).p (h.join m) t.2.1
 | [], _, _, _, t, ht => by cases ht
 | (a, v, xs) :: q, m, d, hs, t, ht => by
   rcases List.mem_cons.1 ht with rfl | ht
   · exact Frz.own h m v d hs ⟨rfl, BC hs⟩
   · obtain ⟨m1, m2, d12, rfl, ho, hr⟩ := hs
     have hd := PH.disj_join'.1 d
     have ih := tx (q := q) hd.2 hr t ht
     refine (tSl R t.2.2).mono (fun b o eo => ?_) ih
     simp only [PH.join] at eo ⊢
     cases hb : h b with
     | some x => rw [hb] at eo; exact eo
     | none =>
       rw [hb] at eo
       have := FO d12 b o eo
       simp only [PH.join] at this
       exact this
theorem nS {h h' : PH} : ∀ {q : eh κ α} {es : List MapEntry} {n : Nat}, (∀ t ∈ q, (tSl R t.2.2).p h' t.2.1) -> entR kv rV h (vals q) es n -> entR kv (rSl R) h' (ko q) es n
 | [], [], _, _, _ => trivial
 | [], _ :: _, _, _, r => r.elim
 | _ :: _, [], _, _, r => r.elim
 | (a, v, xs) :: q, e :: es, n, hq, ⟨r1, r2, r3, r4⟩ => by
   refine ⟨r1, ?_, r3, nS (fun t ht => hq t (by simp [ht])) r4⟩
   have h2 : e.val = v := r2.1
   rw [h2]
   exact hq (a, v, xs) (by simp)
theorem Frz.rows {v : Value} {q : eh κ α} {S : List SP} : Frz (bD kv rV v (vals q) :: iM e R q :: S) (tV v) (d6 kv (rSl R) (ko q)) := fun h m u d ⟨m1, m2, d12, em, ho, m3, m4, d34, em2, hr, _⟩ hu => by
 subst em; subst em2
 have hu : u = v := hu
 subst hu
 have hd := PH.disj_join'.1 d
 have hd2 := PH.disj_join'.1 hd.2
 obtain ⟨r, es, rfl, rfl, hE⟩ := ho
 have hfr := tx hd2.1 hr
 have hle : (h.join m3).le (h.join ((PH.one r (.map (List.toArray es) es.length)).join (m3.join m4))) := fun b o eo => by
  simp only [PH.join] at eo ⊢
  cases hb : h b with
  | some x => rw [hb] at eo; exact eo
  | none =>
    rw [hb] at eo
    have h1 : (m3.join m4) b = some o := FM m3 m4 b o eo
    have := FO d12 b o h1
    simp only [PH.join] at this
    exact this
 refine ⟨PH.one r (.map (List.toArray es) es.length), fun b o eo => FO d _ _ (FM _ _ _ _ eo), r, es, rfl, rfl, ?_⟩
 exact nS (fun t ht => (tSl R t.2.2).mono hle (hfr t ht)) hE
end
section
variable {P : Program} (w : World)
theorem jb (t ty e : TypeId) (i : TypeInfo) (ht : P.underlying t = some (.slice e)) (hi : P.info? e = some i)
  (g off sLen sCap : Nat) (cur : Array Value) (hg : w.heap[g]? = some (.cells cur e (0, 0)))
  (a : Addr) (m c : Nat) (news : List Value) (hl : news.length = m * i.size) (hnews : ∀ j u, news[j]? = some u -> w.cell? (a.add j) = some u) (h1 : ∀ u ∈ news, u.oneCell' = true)
  (hroom : sLen + m <= sCap) (hfit : off + sLen * i.size + news.length <= cur.size) :
  (Builtin.append_ #[t, t] ty #[.slice (some ⟨g, off, none⟩) sLen sCap, .slice (some a) m c]).run P w =
   .ok (.slice (some ⟨g, off, none⟩) (sLen + m) sCap) (w.setRow g (cur.toList.take (off + sLen * i.size) ++ news ++ cur.toList.drop (off + sLen * i.size + news.length)).toArray) := by
 have hf := run_firstCells_some (P := P) w i.size m a m c news hl hnews
 have hst := run_storeCells_at P g (off + sLen * i.size) e news 0 cur w hg (by simpa using hfit) h1
 simp only [Nat.add_zero] at hst
 simp [Builtin.append_, run_underlying ht, Go.sizeOf, typeInfo, hi, Builtin.lenOf, hroom, hf, Addr.add_lit, hst]
end
def que (v : Value) (xs : List Int) : SP where
 p := fun _ m => ∃ g off cap cur, v = .slice (some ⟨g, off, none⟩) xs.length cap /\ m = PH.one g (.cells cur 3 (0, 0)) /\ xs.length <= cap /\ cap <= maxLen /\ off + cap <= cur.size /\ (cur.toList.drop off).take xs.length = xs.map (.int .i64 ·)
 mono := fun _ e => e
theorem lP {h : PH} {xs : List Int} {cs : List Value} (r : relAll aO h xs cs) : cs = xs.map (.int .i64 ·) := kj.1 r
theorem BD {v : Value} {xs : List Int} (hne : xs ≠ []) : SPs (own 3 aO v xs) (que v xs) := fun h m o => by
 rcases o with ⟨_, q, _⟩ | ⟨g, cap, cur, rfl, rfl, hl, hm, hs, r⟩
 · exact absurd q hne
 · have hk : aO.k = 1 := rfl
   rw [hk, Nat.mul_one] at hs r
   exact ⟨g, 0, cap, cur, rfl, rfl, hl, hm, by omega, by rw [List.drop_zero]; exact lP r⟩
section
variable {C : Cx} {E : Env} {L : List SP} {d : Option Nat} {ty : Nat} {pos : String} {af : Array Edge} {g : Option (Nat × Bool)}
theorem p8 {T e : Nat} {x : Operand} {v : Value} {xs : List Int} {S : List SP} (hu : C.P.underlying T = some (.slice e)) (hx : Sub (opTy E x) (rV.ty v)) (sel : Sel L [que v xs] S) :
  a8 C ⟨d, .call { callee := .builtin .len, args := #[x], argTypes := #[T] }, ty, pos, af, g⟩ E L (tV (.int .i64 xs.length)) :=
 FQ (by intro c h; cases h) fun a w h m l sp st fr => by
  have hv : a.eval x = v := (fr.get hx).1
  obtain ⟨m1, m2, d12, rfl, ⟨b, off, cap, cur, rfl, rfl, hl, hm, hs, r⟩, s2⟩ := sel.one.1 st
  exact ⟨(), .int .i64 xs.length, w, h, _, by simp [execOp, resolve, invoke, builtin, Builtin.len_, hv, run_underlying hu, goInt], HL.refl, sp, st, rfl⟩
def qAt (v : Value) : Value := match v with
 | .slice (some a) _ _ => .pointer (some a)
 | _ => undef
theorem nw {T e : Nat} {x ix : Operand} {v : Value} {y : Int} {xs : List Int} {k : IntKind} {S : List SP} (hu : C.P.underlying T = some (.slice e)) (hR : TyOf C.P e aO)
  (hx : Sub (opTy E x) (rV.ty v)) (hi : Sub (opTy E ix) (tV (.int k 0))) (sel : Sel L [que v (y :: xs)] S) :
  a8 C ⟨d, .indexAddr T x ix, ty, pos, af, g⟩ E L (tV (qAt v)) :=
 FQ (by intro c h; cases h) fun a w h m l sp st fr => by
  have hv : a.eval x = v := (fr.get hx).1
  have h2 : a.eval ix = .int k 0 := fr.get hi
  obtain ⟨m1, m2, d12, rfl, ⟨b, off, cap, cur, rfl, rfl, hl, hm, hs, r⟩, s2⟩ := sel.one.1 st
  refine ⟨(), qAt _, w, h, _, ?_, HL.refl, sp, st, rfl⟩
  simp [execOp, Instr.indexAt, hv, h2, asIntOf, run_underlying hu, hR.size, ce, qAt]
theorem oS {T : Nat} {x : Operand} {v : Value} {y : Int} {xs : List Int} {S : List SP} (hR : TyOf C.P T aO) (hx : Sub (opTy E x) (tV (qAt v))) (sel : Sel L [que v (y :: xs)] S) :
  a8 C ⟨d, .load T x, ty, pos, af, g⟩ E L (tV (.int .i64 y)) :=
 FQ (by intro c h; cases h) fun a w h m l sp st fr => by
  have hv : a.eval x = qAt v := fr.get hx
  obtain ⟨m1, m2, d12, rfl, ⟨b, off, cap, cur, rfl, rfl, hl, hm, hs, r⟩, s2⟩ := sel.one.1 st
  have hb := sp.heap_own
  have h0 : cur.toList[off]? = some (.int .i64 y) := by
   have := congrArg (fun l => l[0]?) r
   simp only [List.getElem?_take, List.getElem?_drop, List.length_cons, Nat.zero_lt_succ, if_true, Nat.add_zero, List.map_cons, List.getElem?_cons_zero] at this
   exact this
  have := bG (b := b) (o := off) (w := w) (cs := [.int .i64 y]) hR.agg hR.size rfl (fun _ => rfl) (fun j u hu => by
   rw [c8 (h := h) hb]
   match j with
   | 0 => simp only [List.getElem?_cons_zero, Option.some.injEq] at hu; subst hu; simpa using h0
   | j + 1 => simp at hu)
  refine ⟨(), .int .i64 y, w, h, _, ?_, HL.refl, sp, st, rfl⟩
  have this2 : (loadVar T ⟨b, off, none⟩).run C.P w = .ok (.int .i64 y) w := this
  simp [execOp, Instr.loadAt, Instr.sureAddr, hv, qAt, this2]
theorem nx {T e : Nat} {x z : Operand} {v : Value} {y : Int} {xs : List Int} {k : IntKind} {S : List SP} (hu : C.P.underlying T = some (.slice e)) (hR : TyOf C.P e aO)
  (hx : Sub (opTy E x) (rV.ty v)) (hz : Sub (opTy E z) (tV (.int k 1))) (sel : Sel L [que v (y :: xs)] S) :
  Step C ⟨d, .slice T x (some z) none none, ty, pos, af, g⟩ E L (fun v' : Value => rV.ty v') (fun v' => que v' xs :: S) :=
 FQ (by intro c h; cases h) fun a w h m l sp st fr => by
  have hv : a.eval x = v := (fr.get hx).1
  have h2 : a.eval z = .int k 1 := fr.get hz
  obtain ⟨m1, m2, d12, rfl, ⟨b, off, cap, cur, rfl, rfl, hl, hm, hs, r⟩, s2⟩ := sel.one.1 st
  have hsz : ∀ w, (Go.sizeOf e).run C.P w = .ok 1 w := fun w => hR.size w
  simp only [List.length_cons] at hl hv
  refine ⟨.slice (some ⟨b, if cap = 1 then off else off + 1, none⟩) xs.length (cap - 1), .slice (some ⟨b, if cap = 1 then off else off + 1, none⟩) xs.length (cap - 1), w, h, _, ?_, HL.refl, sp, ⟨_, m2, d12, rfl, ⟨b, _, cap - 1, cur, rfl, rfl, by omega, by omega, ?_, ?_⟩, s2⟩, ⟨rfl, rfl⟩⟩
  · have h1 : (1 : Int) <= (xs.length : Int) + 1 := by omega
    simp [execOp, Instr.sliceAt, run_underlying hu, hv, h2, Instr.slice, Instr.sliceBounds, Instr.sliceBound, asIntOf, hsz, h1]
    by_cases hc1 : cap = 1 <;> simp [hc1, ce]
  · split <;> omega
  · split
    · have hx0 : xs = [] := List.eq_nil_of_length_eq_zero (by omega)
      subst hx0; rfl
    · have := congrArg (fun l => l.drop 1) r
      simp only [List.drop_take, List.drop_drop, List.length_cons, List.map_cons, List.drop_succ_cons, List.drop_zero, Nat.add_sub_cancel] at this
      exact this
theorem lQ {T e : Nat} {x y : Operand} {v : Value} {xs ys : List Int} {S : List SP} (hu : C.P.underlying T = some (.slice e)) (he3 : e = 3) (hE : ElT C.P e aO 8 0)
  (hx : Sub (opTy E x) (rV.ty v)) (hy : Sub (opTy E y) (tSl aO ys)) (hys : ys ≠ []) (sel : Sel L [que v xs] S) (hb : (xs.length + ys.length) * 8 <= 140737488355328) :
  Step C ⟨d, .call { callee := .builtin .append, args := #[x, y], argTypes := #[T, T] }, ty, pos, af, g⟩ E L (fun v' : Value => rV.ty v') (fun v' => que v' (xs ++ ys) :: S) :=
 FQ (by intro c h; cases h) fun a w h m l sp st fr => by
  subst he3
  have hv : a.eval x = v := (fr.get hx).1
  obtain ⟨ao, c, cs, hyv, rs, H⟩ := tSl.cells (fr.get hy)
  obtain ⟨m1, m2, d12, rfl, ⟨b', off', cap, cur, rfl, rfl, hl, hm, hs, r⟩, s2⟩ := sel.one.1 st
  obtain ⟨i, zv, hi, hz, hk, hby, hzr⟩ := hE.inf
  have hk1 : i.size = 1 := hk
  have hop : ∀ u w', (Builtin.append_ #[T, T] ty #[.slice (some ⟨b', off', none⟩) xs.length cap, .slice ao ys.length c]).run C.P w = .ok u w' ->
    (execOp a.eval ⟨d, .call { callee := .builtin .append, args := #[x, y], argTypes := #[T, T] }, ty, pos, af, g⟩).run C.P w = .ok (.value u) w' := by
   intro u w' hr
   simp [execOp, resolve, invoke, builtin, hv, hyv, hr]
  have hrl := cC rs
  have hro := iv rs
  have hce := lP rs
  rw [show aO.k = 1 from rfl, Nat.mul_one] at hrl
  obtain ⟨b, off, rfl, HH⟩ := H hys
  have hcell : ∀ j u, cs[j]? = some u -> w.cell? ((⟨b, off, none⟩ : Addr).add j) = some u := fun j u hu' => by rw [ce]; exact HH.cell sp.hw hu'
  have hb' := sp.heap_own
  have hlen : (xs ++ ys).length = xs.length + ys.length := List.length_append
  by_cases hroom : xs.length + ys.length <= cap
  · have hr' := jb (P := C.P) w T ty 3 i hu hi b' off' xs.length cap cur hb' ⟨b, off, none⟩ ys.length c cs (by rw [hk1]; omega) hcell hro hroom (by rw [hk1]; omega)
    rw [hk1, Nat.mul_one] at hr'
    refine ⟨_, _, _, h, (PH.one b' _).join m2, hop _ _ hr', HL.same ⟨rfl, rfl, rfl⟩, F4 d12 sp (fun b0 hne _ => setRow_other w b' b0 _ hne) (setRow_heap w b' cur _ 3 _ hb'), ?_, ⟨rfl, rfl⟩⟩
    refine ⟨_, m2, PH.one_disj_iff.2 (PH.one_disj_iff.1 d12), rfl, ⟨b', off', cap, _, by rw [hlen], rfl, by omega, hm, ?_, ?_⟩, s2⟩
    · simp only [List.size_toArray, List.length_append, List.length_take, List.length_drop, Array.length_toList]
      omega
    · have hcl : cur.toList.length = cur.size := Array.length_toList
      rw [List.toList_toArray, hlen, List.map_append, <- r, <- hce]
      have e1 : cur.toList.take (off' + xs.length) = cur.toList.take off' ++ (cur.toList.drop off').take xs.length := by rw [<- List.take_add]
      rw [e1, List.append_assoc, List.append_assoc, List.drop_append_of_le_length (by rw [List.length_take]; omega), List.drop_of_length_le (by rw [List.length_take]; omega), List.nil_append]
      have hx1 : ((cur.toList.drop off').take xs.length).length = xs.length := by rw [List.length_take, List.length_drop]; omega
      rw [<- List.append_assoc, List.take_append_of_le_length (by rw [List.length_append, hx1]; omega), List.take_of_length_le (by rw [List.length_append, hx1]; omega)]
  · have hcl : cur.toList.length = cur.size := Array.length_toList
    have hx1 : ((cur.toList.drop off').take xs.length).length = xs.length := by rw [List.length_take, List.length_drop]; omega
    have holds : ∀ j u, ((cur.toList.drop off').take xs.length)[j]? = some u -> w.cell? ((⟨b', off', none⟩ : Addr).add j) = some u := fun j u hu' => by
     rw [ce, c8 (h := h) hb']
     rw [List.getElem?_take] at hu'
     split at hu'
     · simpa [List.getElem?_drop] using hu'
     · cases hu'
    have hr' := run_append_grow (P := C.P) w T ty 3 i zv hu hi hz ⟨b', off', none⟩ xs.length cap _ (by rw [hk1, hx1]; omega) holds ⟨b, off, none⟩ ys.length c cs (by rw [hk1]; omega) hcell
     (by omega) (by omega) (by rw [hby]; exact growslice_fits (by omega) hb)
    have sp2 : Sep h m2 C.r w := ⟨(by first | exact Sep.inv (by assumption) | exact Inv.mono (FM _ _) (Sep.inv (by assumption))), (PH.disj_join'.1 sp.hm).2, sp.hr, (PH.disj_join.1 sp.mr).2, sp.hw, fun b o e => sp.mw _ _ (FO d12 _ _ e), sp.rw⟩
    have hge := grownCap_ge w (xs.length + ys.length) cap 3
    refine ⟨_, _, _, h, (PH.one w.heap.size _).join m2, hop _ _ hr', HL.same (Gh _ _), sp2.drew.allocOwn (w := w.drew) _, ?_, ⟨rfl, rfl⟩⟩
    refine ⟨_, m2, FU (FV sp2.mw _), rfl, ⟨w.heap.size, 0, _, _, by rw [hlen], rfl, by omega, grownCap_le_maxLen w _ _ _ (by unfold maxLen; omega), ?_, ?_⟩, s2⟩
    · have hzl : zv.cells.size = 1 := by have := aO.len (aO.cells (hzr h)); rw [Array.length_toList] at this; exact this
      simp only [Array.size_append, List.size_toArray, hx1, hrl, size_zeroCells, hzl]; omega
    · rw [List.drop_zero, hlen, List.map_append, <- r, <- hce]
      simp only [Array.toList_append, List.toList_toArray, List.append_assoc]
      rw [<- List.append_assoc, List.take_append_of_le_length (by rw [List.length_append, hx1]; omega), List.take_of_length_le (by rw [List.length_append, hx1]; omega)]
end
section
variable {κ β : Type} [DecidableEq κ] {kv : κ -> Value} {R : Rp β}
variable {C : Cx} {E : Env} {L : List SP} {d : Option Nat} {ty : Nat} {pos : String} {af : Array Edge} {g : Option (Nat × Bool)}
theorem fA {T kt e : Nat} {x : Operand} {v : Value} {m : List (κ × β)} {S : List SP} (hu : C.P.underlying T = some (.map kt e)) (hx : Sub (opTy E x) (rV.ty v)) (sel : Sel L [bD kv R v m] S) :
  a8 C ⟨d, .call { callee := .builtin .len, args := #[x], argTypes := #[T] }, ty, pos, af, g⟩ E L (tV (.int .i64 m.length)) :=
 FQ (by intro c h; cases h) fun a w h mm l sp st fr => by
  have hv : a.eval x = v := (fr.get hx).1
  obtain ⟨m1, m2, d12, rfl, ⟨r, es, rfl, rfl, hr⟩, s2⟩ := sel.one.1 st
  have hb := sp.heap_own
  have hl := hr.length
  exact ⟨(), .int .i64 m.length, w, h, _, by simp [execOp, resolve, invoke, builtin, Builtin.len_, hv, run_underlying hu, goInt, cQ hb, Sem.run_bind, hl], HL.refl, sp, st, rfl⟩
theorem eD {T kt e : Nat} {x y : Operand} {m : List (κ × β)} {q : κ} {z : β} {zv : Value} (K : KeyT C.P kt kv) (hu : C.P.underlying T = some (.map kt e)) (hz : ∀ w, (zeroValue e).run C.P w = .ok zv w) (hzr : ∀ h, (R.ty z).p h zv)
  (hx : Sub (opTy E x) (d6 kv R m)) (hy : Sub (opTy E y) (tV (kv q))) : a8 C ⟨d, .lookup T x y false, ty, pos, af, g⟩ E L (R.ty ((mget m q).getD z)) :=
 FQ (by intro c h; cases h) fun a w h mm l sp st fr => by
  obtain ⟨m1, hle, ho⟩ := fr.get hx
  have h2 : a.eval y = kv q := fr.get hy
  obtain ⟨u, hu1, hrun⟩ := iA (P := C.P) K hu hz hzr ho (fun b o e => sp.hw _ _ (hle _ _ e)) q false
  exact ⟨(), u, w, h, _, by simp [execOp, h2, hrun], HL.refl, sp, st, hu1⟩
end
structure It3 where
 i : Nat
 ts : List Nat
 c : Nat
def JX (C : Cx) (ops : Array Oper) (k : Env -> List SP -> Prop) : List It3 -> Env -> List SP -> Prop
 | [], E, L => k E L
 | ⟨i, ts, 0⟩ :: its, E, L => ∃ o A, ops[i]? = some o /\ ltO o.dst C.N = true /\ (∀ L, StepG C ops o (cc ts E) L A) /\ JX C ops k its (kf E o.dst A) L
 | ⟨i, ts, 1⟩ :: its, E, L => ∃ o A, ops[i]? = some o /\ ltO o.dst C.N = true /\ StepG C ops o (cc ts E) L A /\ JX C ops k its (kf E o.dst A) L
 | ⟨i, ts, _ + 2⟩ :: its, E, L => ∃ o, ops[i]? = some o /\ ltO o.dst C.N = true /\ ∃ (X : Type) (A : X -> Ty) (L' : X -> List SP), WantX ops o (cc ts E) /\ Step C o (cc ts E) L A L' /\ ∀ x, JX C ops k its (kf E o.dst (A x)) (L' x)
section
variable {C : Cx} {ops : Array Oper} {k : Env -> List SP -> Prop} {its : List It3} {E : Env} {L : List SP} {i : Nat} {ts : List Nat} {o : Oper}
theorem nT (h : k E L) : JX C ops k [] E L := h
theorem kp {A : Ty} {d : Nat} (ho : ops.toList[i]? = some o) (hg : o.guard = none) (hd : o.dst = some d) (hN : Nat.blt d C.N = true) (hs : ∀ L, a8 C o (cc ts E) L A)
  (hk : JX C ops k its (upd E d A) L) : JX C ops k (⟨i, ts, 0⟩ :: its) E L :=
 ⟨o, A, by simpa using ho, by rw [hd]; exact hN, fun L => .inl ⟨hg, hs L⟩, by rw [hd]; exact hk⟩
theorem BE {A : Ty} {d : Nat} (ho : ops.toList[i]? = some o) (hg : o.guard = none) (hd : o.dst = some d) (hN : Nat.blt d C.N = true) (hs : a8 C o (cc ts E) L A)
  (hk : JX C ops k its (upd E d A) L) : JX C ops k (⟨i, ts, 1⟩ :: its) E L :=
 ⟨o, A, by simpa using ho, by rw [hd]; exact hN, .inl ⟨hg, hs⟩, by rw [hd]; exact hk⟩
theorem tz {X : Type} {A : X -> Ty} {L' : X -> List SP} {d : Nat} (ho : ops.toList[i]? = some o) (hg : o.guard = none) (hd : o.dst = some d) (hN : Nat.blt d C.N = true) (hs : Step C o (cc ts E) L A L')
  (hk : ∀ x, JX C ops k its (upd E d (A x)) (L' x)) : JX C ops k (⟨i, ts, 2⟩ :: its) E L :=
 ⟨o, by simpa using ho, by rw [hd]; exact hN, X, A, L', .inl hg, hs, fun x => by rw [hd]; exact hk x⟩
theorem fB {X : Type} {A : X -> Ty} {L' : X -> List SP} (ho : ops.toList[i]? = some o) (hg : o.guard = none) (hd : o.dst = none) (hs : Step C o (cc ts E) L A L')
  (hk : ∀ x, JX C ops k its E (L' x)) : JX C ops k (⟨i, ts, 2⟩ :: its) E L :=
 ⟨o, by simpa using ho, by rw [hd]; rfl, X, A, L', .inl hg, hs, fun x => by rw [hd]; exact hk x⟩
end
structure Pl3 where
 i : Nat
 ts : List Nat
 c : Nat
 aft : List Nat
 dst : Option Nat
def bU (ops : List Oper) (x : It3) : Pl3 := ⟨x.i, x.ts, x.c, bJ ops x.i, cT ops x.i⟩
def cH (a b : Pl3) : Bool := !Nat.beq a.i b.i && (memN a.i b.aft || (!inO a.dst b.ts && !inO b.dst a.ts && !eqO a.dst b.dst))
def oT (m : Pl3) (l : List Pl3) : Bool := match m.c with
 | 0 => true
 | 1 => l.all fun q => Nat.ble q.c 1 || (memN m.i q.aft || q.aft.any fun r => l.any fun p => Nat.beq r p.i && memN m.i p.aft)
 | _ => l.all fun q => memN m.i q.aft || q.aft.any fun r => l.any fun p => Nat.beq r p.i
def cV : List Pl3 -> Bool
 | [] => true
 | a :: l => l.all (cH a) && oT a l && cV l
def EW (ops : List Oper) (its : List It3) : Bool :=
 let pls := its.map (bU ops)
 cV pls && pls.all (fun p => p.aft.all (Nat.blt · p.i)) && (List.range ops.length).all (fun i => its.any fun x => Nat.beq i x.i) && its.all fun x => Nat.blt x.i ops.length
theorem iC : ∀ {l1 : List Pl3} {b : Pl3} {l2 : List Pl3}, cV (l1 ++ b :: l2) = true -> (∀ a ∈ l1, a.c <= 1) -> (∀ a ∈ l1, a.i ∉ b.aft) -> cV (l1 ++ l2) = true
 | [], b, l2, h, _, _ => by simp only [List.nil_append, cV, Bool.and_eq_true] at h; exact h.2
 | a :: l1, b, l2, h, hf, hn => by
   simp only [List.cons_append, cV, Bool.and_eq_true, List.all_eq_true] at h ⊢
   have hsub : ∀ x ∈ l1 ++ l2, x ∈ l1 ++ b :: l2 := fun x hx => by rcases List.mem_append.1 hx with hx | hx <;> simp [hx]
   refine ⟨⟨fun x hx => h.1.1 x (hsub x hx), ?_⟩, iC h.2 (fun x hx => hf x (by simp [hx])) (fun x hx => hn x (by simp [hx]))⟩
   have h1 := h.1.2
   have hc := hf a (by simp)
   unfold oT at h1 ⊢
   match e : a.c, hc with
   | 0, _ => rfl
   | 1, _ =>
     rw [e] at h1
     simp only [List.all_eq_true, Bool.or_eq_true, List.any_eq_true, Bool.and_eq_true] at h1 ⊢
     intro x hx
     rcases h1 x (hsub x hx) with q | q | ⟨r, hr, p, hp, q1, q2⟩
     · exact .inl q
     · exact .inr (.inl q)
     · refine .inr (.inr ⟨r, hr, p, ?_, q1, q2⟩)
       rcases List.mem_append.1 hp with hp | hp
       · exact List.mem_append_left _ hp
       · rcases List.mem_cons.1 hp with rfl | hp
         · exact absurd (cM.1 q2) (hn a (by simp))
         · exact List.mem_append_right _ hp
theorem e9 : ∀ {l1 : List Pl3} {b : Pl3} {l2 : List Pl3}, cV (l1 ++ b :: l2) = true -> ∀ a ∈ l1, cH a b = true
 | [], _, _, _, a, ha => by cases ha
 | a :: l1, b, l2, h, x, hx => by
   simp only [List.cons_append, cV, Bool.and_eq_true, List.all_eq_true] at h
   rcases List.mem_cons.1 hx with rfl | hx
   · exact h.1.1 b (by simp)
   · exact e9 h.2 x hx
theorem lR : ∀ {l1 : List Pl3} {b : Pl3} {l2 : List Pl3}, cV (l1 ++ b :: l2) = true -> ∀ (x y : List Pl3) (a : Pl3), l1 = x ++ a :: y -> oT a (y ++ b :: l2) = true
 | [], _, _, _, x, y, a, e => by simp at e
 | c :: l1, b, l2, h, [], y, a, e => by
   simp only [List.nil_append, List.cons.injEq] at e; obtain ⟨rfl, rfl⟩ := e
   simp only [List.cons_append, cV, Bool.and_eq_true] at h
   exact h.1.2
 | c :: l1, b, l2, h, d :: x, y, a, e => by
   simp only [List.cons_append, List.cons.injEq] at e
   simp only [List.cons_append, cV, Bool.and_eq_true] at h
   exact lR h.2 x y a e.2
theorem BF {C : Cx} {ops : Array Oper} {k : Env -> List SP -> Prop} {its its' : List It3} (h : ∀ E L, JX C ops k its E L -> JX C ops k its' E L) : ∀ {a : It3} {E : Env} {L : List SP}, JX C ops k (a :: its) E L -> JX C ops k (a :: its') E L
 | ⟨i, ts, 0⟩, _, _, ⟨o, A, h1, h2, h3, h4⟩ => ⟨o, A, h1, h2, h3, h _ _ h4⟩
 | ⟨i, ts, 1⟩, _, _, ⟨o, A, h1, h2, h3, h4⟩ => ⟨o, A, h1, h2, h3, h _ _ h4⟩
 | ⟨i, ts, _ + 2⟩, _, _, ⟨o, h1, h2, X, A, L', h3, h4, h5⟩ => ⟨o, h1, h2, X, A, L', h3, h4, fun x => h _ _ (h5 x)⟩
theorem jz {ops : Array Oper} {a b : It3} (hp : cH (bU ops.toList a) (bU ops.toList b) = true) (hn : a.i ∉ bJ ops.toList b.i) {oa ob : Oper} (ha : ops[a.i]? = some oa) (hb : ops[b.i]? = some ob) :
  inO oa.dst b.ts = false /\ inO ob.dst a.ts = false /\ eqO oa.dst ob.dst = false := by
 have hda : cT ops.toList a.i = oa.dst := by simp [cT, ha]
 have hdb : cT ops.toList b.i = ob.dst := by simp [cT, hb]
 simp only [cH, bU, hda, hdb, Bool.and_eq_true, Bool.or_eq_true, Bool.not_eq_true', cM] at hp
 rcases hp.2 with q | q
 · exact absurd q hn
 · exact ⟨q.1.1, q.1.2, q.2⟩
section
variable {C : Cx} {ops : Array Oper} {k : Env -> List SP -> Prop} {ia ib : Nat} {ta tb : List Nat} {its : List It3} {E : Env} {L : List SP}
theorem wN (hp : ∀ ca cb, cH (bU ops.toList ⟨ia, ta, ca⟩) (bU ops.toList ⟨ib, tb, cb⟩) = true) (hn : ia ∉ bJ ops.toList ib) (h : JX C ops k (⟨ia, ta, 0⟩ :: ⟨ib, tb, 0⟩ :: its) E L) : JX C ops k (⟨ib, tb, 0⟩ :: ⟨ia, ta, 0⟩ :: its) E L := by
 obtain ⟨oa, A, ha, hla, hsa, ob, B, hb, hlb, hsb, hk⟩ := h
 obtain ⟨p1, p2, p3⟩ := jz (a := ⟨ia, ta, 0⟩) (b := ⟨ib, tb, 0⟩) (hp 0 0) hn ha hb
 refine ⟨ob, B, hb, hlb, fun L => (hsb L).same (bg p1), oa, A, ha, hla, fun L => (hsa L).same (bg p2).symm, ?_⟩
 rw [cD p3] at hk
 exact hk
theorem wO (hp : ∀ ca cb, cH (bU ops.toList ⟨ia, ta, ca⟩) (bU ops.toList ⟨ib, tb, cb⟩) = true) (hn : ia ∉ bJ ops.toList ib) (h : JX C ops k (⟨ia, ta, 0⟩ :: ⟨ib, tb, 1⟩ :: its) E L) : JX C ops k (⟨ib, tb, 1⟩ :: ⟨ia, ta, 0⟩ :: its) E L := by
 obtain ⟨oa, A, ha, hla, hsa, ob, B, hb, hlb, hsb, hk⟩ := h
 obtain ⟨p1, p2, p3⟩ := jz (a := ⟨ia, ta, 0⟩) (b := ⟨ib, tb, 1⟩) (hp 0 1) hn ha hb
 refine ⟨ob, B, hb, hlb, hsb.same (bg p1), oa, A, ha, hla, fun L => (hsa L).same (bg p2).symm, ?_⟩
 rw [cD p3] at hk
 exact hk
theorem wP {c : Nat} (hp : ∀ ca cb, cH (bU ops.toList ⟨ia, ta, ca⟩) (bU ops.toList ⟨ib, tb, cb⟩) = true) (hn : ia ∉ bJ ops.toList ib) (h : JX C ops k (⟨ia, ta, 0⟩ :: ⟨ib, tb, c + 2⟩ :: its) E L) : JX C ops k (⟨ib, tb, c + 2⟩ :: ⟨ia, ta, 0⟩ :: its) E L := by
 obtain ⟨oa, A, ha, hla, hsa, ob, hb, hlb, X, B, L', hgb, hsb, hk⟩ := h
 obtain ⟨p1, p2, p3⟩ := jz (a := ⟨ia, ta, 0⟩) (b := ⟨ib, tb, c + 2⟩) (hp 0 (c + 2)) hn ha hb
 rw [bg p1] at hsb hgb
 refine ⟨ob, hb, hlb, X, B, L', hgb, hsb, fun x => ⟨oa, A, ha, hla, fun L => (hsa L).same (bg p2).symm, ?_⟩⟩
 have := hk x
 rw [cD p3] at this
 exact this
theorem wQ (hp : ∀ ca cb, cH (bU ops.toList ⟨ia, ta, ca⟩) (bU ops.toList ⟨ib, tb, cb⟩) = true) (hn : ia ∉ bJ ops.toList ib) (h : JX C ops k (⟨ia, ta, 1⟩ :: ⟨ib, tb, 0⟩ :: its) E L) : JX C ops k (⟨ib, tb, 0⟩ :: ⟨ia, ta, 1⟩ :: its) E L := by
 obtain ⟨oa, A, ha, hla, hsa, ob, B, hb, hlb, hsb, hk⟩ := h
 obtain ⟨p1, p2, p3⟩ := jz (a := ⟨ia, ta, 1⟩) (b := ⟨ib, tb, 0⟩) (hp 1 0) hn ha hb
 refine ⟨ob, B, hb, hlb, fun L => (hsb L).same (bg p1), oa, A, ha, hla, hsa.same (bg p2).symm, ?_⟩
 rw [cD p3] at hk
 exact hk
theorem wR (hp : ∀ ca cb, cH (bU ops.toList ⟨ia, ta, ca⟩) (bU ops.toList ⟨ib, tb, cb⟩) = true) (hn : ia ∉ bJ ops.toList ib) (h : JX C ops k (⟨ia, ta, 1⟩ :: ⟨ib, tb, 1⟩ :: its) E L) : JX C ops k (⟨ib, tb, 1⟩ :: ⟨ia, ta, 1⟩ :: its) E L := by
 obtain ⟨oa, A, ha, hla, hsa, ob, B, hb, hlb, hsb, hk⟩ := h
 obtain ⟨p1, p2, p3⟩ := jz (a := ⟨ia, ta, 1⟩) (b := ⟨ib, tb, 1⟩) (hp 1 1) hn ha hb
 refine ⟨ob, B, hb, hlb, hsb.same (bg p1), oa, A, ha, hla, hsa.same (bg p2).symm, ?_⟩
 rw [cD p3] at hk
 exact hk
end
theorem BG {C : Cx} {ops : Array Oper} {k : Env -> List SP -> Prop} {a b : It3} {its : List It3} {E : Env} {L : List SP} (hf : a.c = 0 \/ (a.c = 1 /\ b.c <= 1)) (hp : cH (bU ops.toList a) (bU ops.toList b) = true) (hn : a.i ∉ bJ ops.toList b.i)
  (h : JX C ops k (a :: b :: its) E L) : JX C ops k (b :: a :: its) E L := by
 obtain ⟨ia, ta, ca⟩ := a
 obtain ⟨ib, tb, cb⟩ := b
 have hp' : ∀ ca cb, cH (bU ops.toList ⟨ia, ta, ca⟩) (bU ops.toList ⟨ib, tb, cb⟩) = true := fun _ _ => hp
 rcases hf with h0 | ⟨h1, hb1⟩
 · have h0 : ca = 0 := h0
   subst h0
   rcases cb with _ | _ | c
   · exact wN hp' hn h
   · exact wO hp' hn h
   · exact wP hp' hn h
 · have h1 : ca = 1 := h1
   have hb1 : cb <= 1 := hb1
   subst h1
   rcases cb with _ | _ | c
   · exact wQ hp' hn h
   · exact wR hp' hn h
   · omega
theorem BH {C : Cx} {ops : Array Oper} {k : Env -> List SP -> Prop} {b : It3} {l2 : List It3} : ∀ {l1 : List It3} {E : Env} {L : List SP}, (∀ a ∈ l1, a.c = 0 \/ (a.c = 1 /\ b.c <= 1)) ->
  (∀ a ∈ l1, cH (bU ops.toList a) (bU ops.toList b) = true) -> (∀ a ∈ l1, a.i ∉ bJ ops.toList b.i) -> JX C ops k (l1 ++ b :: l2) E L -> JX C ops k (b :: (l1 ++ l2)) E L := by
 intro l1
 induction l1 with
 | nil => intro E L _ _ _ h; exact h
 | cons a l1 ih =>
   intro E L hf hp hn h
   refine BG (hf a (by simp)) (hp a (by simp)) (hn a (by simp)) ?_
   exact BF (fun E L hk => ih (fun a m => hf a (by simp [m])) (fun a m => hp a (by simp [m])) (fun a m => hn a (by simp [m])) hk) h
theorem oU {C : Cx} {ops : Array Oper} {Q : Exit -> Act -> World -> Prop} : ∀ (fuel : Nat) (its : List It3) (listed : Array Bool) (E : Env) (L : List SP), its.length <= fuel -> listed.size = ops.size ->
  (∀ i, i < ops.size -> (listed.getD i true = false ↔ ∃ x ∈ its, x.i = i)) -> cV (its.map (bU ops.toList)) = true -> (∀ x ∈ its, x.i < ops.size /\ ∀ e ∈ bJ ops.toList x.i, e < x.i) ->
  JX C ops (fun E' L' => K C (Q .normal) E' L') its E L -> K C (fun a w => wpAnyIn (Fw C.ro) 0 C.P .any ops Q fuel listed a w) E L := by
 intro fuel
 induction fuel with
 | zero =>
   intro its listed E L hlen hsz hin _ _ hJ
   have : its = [] := List.length_eq_zero_iff.1 (by omega)
   subst this
   intro a w p
   refine ⟨?_, hJ a w p⟩
   rw [List.eq_nil_iff_forall_not_mem]
   intro i hi
   obtain ⟨h1, h2, _⟩ := cu.1 hi
   obtain ⟨x, hx, _⟩ := (hin i h1).1 h2
   cases hx
 | succ fuel ih =>
   intro its listed E L hlen hsz hin hok hlt hJ
   have hdone : Region.ready .any ops listed = [] -> its = [] := by
    intro hr
    have hall : ∀ i, i < ops.size -> listed.getD i true = true := by
     intro i
     induction i using Nat.strongRecOn with
     | _ i ihi =>
       intro hi
       cases hl : listed.getD i true with
       | true => rfl
       | false =>
         have ho : ops[i]? = some ops[i] := Array.getElem?_eq_getElem hi
         obtain ⟨x, hx, hxi⟩ := (hin i hi).1 hl
         have h1 := (hlt x hx).2
         rw [hxi] at h1
         have hm : i ∈ Region.ready .any ops listed := cu.2 ⟨hi, hl, _, ho, fun e he => by
          have he' : e < i := h1 e (by simpa [bJ, hi] using he)
          rw [dF (by omega) false true]
          exact ihi e he' (by omega)⟩
         rw [hr] at hm; cases hm
    match its with
    | [] => rfl
    | x :: _ =>
      have h1 := (hlt x (by simp)).1
      have := (hin x.i h1).2 ⟨x, by simp, rfl⟩
      rw [hall x.i h1] at this; cases this
   intro a w p
   refine ⟨fun hr => ?_, fun i hi => ?_⟩
   · have := hdone hr
     subst this
     exact hJ a w p
   · obtain ⟨hlti, hnl, o, ho, haft⟩ := cu.1 hi
     obtain ⟨b, hb, hbi⟩ := (hin i hlti).1 hnl
     obtain ⟨l1, l2, rfl⟩ := List.append_of_mem hb
     have hoi : ops.toList[b.i]? = some o := by rw [hbi]; simpa using ho
     have haft' : bJ ops.toList b.i = aftN o := by simp only [bJ, hoi]
     have hleft : ∀ x ∈ l1 ++ b :: l2, x.i ∉ bJ ops.toList b.i := fun x hx hm => by
      rw [haft'] at hm
      have h1 := haft _ hm
      have h2 := (hlt x hx).1
      have h3 := (hin x.i h2).2 ⟨x, hx, rfl⟩
      rw [dF (by omega) true false, h1] at h3; cases h3
     rw [List.map_append, List.map_cons] at hok
     have hpair : ∀ a ∈ l1, cH (bU ops.toList a) (bU ops.toList b) = true := fun a ha => e9 hok _ (List.mem_map_of_mem ha)
     have hfree : ∀ a ∈ l1, a.c = 0 \/ (a.c = 1 /\ b.c <= 1) := fun x hx => by
      obtain ⟨y, z, rfl⟩ := List.append_of_mem hx
      have ht := lR hok (y.map (bU ops.toList)) (z.map (bU ops.toList)) (bU ops.toList x) (by simp)
      unfold oT at ht
      have hxc : (bU ops.toList x).c = x.c := rfl
      rw [hxc] at ht
      match e : x.c with
      | 0 => exact .inl rfl
      | 1 =>
        right
        rw [e] at ht
        simp only [List.all_eq_true, Bool.or_eq_true, List.any_eq_true, Bool.and_eq_true] at ht
        refine ⟨rfl, ?_⟩
        rcases ht (bU ops.toList b) (by simp) with q | q | ⟨r, hr, p, hp, hq, _⟩
        · exact Nat.le_of_ble_eq_true q
        · exact absurd (cM.1 q) (hleft x (by simp))
        · exfalso
          have hrp := Nat.eq_of_beq_eq_true hq
          have hp' : ∃ u ∈ z ++ b :: l2, bU ops.toList u = p := by
           rcases List.mem_append.1 hp with hp | hp
           · obtain ⟨u, hu, e⟩ := List.mem_map.1 hp
             exact ⟨u, by simp [hu], e⟩
           · rcases List.mem_cons.1 hp with hp | hp
             · exact ⟨b, by simp, hp.symm⟩
             · obtain ⟨u, hu, e⟩ := List.mem_map.1 hp
               exact ⟨u, by simp [hu], e⟩
          obtain ⟨u, hu, e⟩ := hp'
          have : u.i ∉ bJ ops.toList b.i := hleft u (by
           rcases List.mem_append.1 hu with hu | hu
           · simp [hu]
           · simp only [List.mem_append]; exact .inr hu)
          rw [<- e] at hrp
          have hr' : r ∈ bJ ops.toList b.i := hr
          rw [hrp] at hr'
          exact absurd hr' this
      | c + 2 =>
        exfalso
        rw [e] at ht
        simp only [Bool.or_eq_true, List.all_eq_true, List.any_eq_true] at ht
        rcases ht (bU ops.toList b) (by simp) with q | ⟨r, hr, p, hp, hq⟩
        · exact absurd (cM.1 q) (hleft x (by simp))
        · have hrp := Nat.eq_of_beq_eq_true hq
          have hp' : ∃ u ∈ z ++ b :: l2, bU ops.toList u = p := by
           rcases List.mem_append.1 hp with hp | hp
           · obtain ⟨u, hu, e⟩ := List.mem_map.1 hp
             exact ⟨u, by simp [hu], e⟩
           · rcases List.mem_cons.1 hp with hp | hp
             · exact ⟨b, by simp, hp.symm⟩
             · obtain ⟨u, hu, e⟩ := List.mem_map.1 hp
               exact ⟨u, by simp [hu], e⟩
          obtain ⟨u, hu, e⟩ := hp'
          have : u.i ∉ bJ ops.toList b.i := hleft u (by
           rcases List.mem_append.1 hu with hu | hu
           · simp [hu]
           · simp only [List.mem_append]; exact .inr hu)
          rw [<- e] at hrp
          have hr' : r ∈ bJ ops.toList b.i := hr
          rw [hrp] at hr'
          exact absurd hr' this
     have hJ' := BH hfree hpair (fun a ha => hleft a (by simp [ha])) hJ
     have hsub : ∀ x ∈ l1 ++ l2, x ∈ l1 ++ b :: l2 := fun x hx => by
      rcases List.mem_append.1 hx with hx | hx <;> simp [hx]
     have hpairs : ∀ x ∈ l1 ++ l2, x.i ≠ b.i := fun x hx => by
      rcases List.mem_append.1 hx with hx | hx
      · have := hpair x hx
        simp only [cH, bU, Bool.and_eq_true, Bool.not_eq_true'] at this
        intro e; rw [e] at this; simp at this
      · have h2 : ∀ {l1 : List Pl3} {b : Pl3} {l2 : List Pl3}, cV (l1 ++ b :: l2) = true -> cV (b :: l2) = true := by
          intro l1
          induction l1 with
          | nil => intro b l2 h; exact h
          | cons c l1 ih => intro b l2 h; simp only [List.cons_append, cV, Bool.and_eq_true] at h; exact ih h.2
        have := h2 hok
        simp only [cV, Bool.and_eq_true, List.all_eq_true] at this
        have := this.1.1 _ (List.mem_map_of_mem hx)
        simp only [cH, bU, Bool.and_eq_true, Bool.not_eq_true'] at this
        intro e; rw [e] at this; simp at this
     have rest : ∀ E' L', JX C ops (fun E' L' => K C (Q .normal) E' L') (l1 ++ l2) E' L' -> K C (fun a w => wpAnyIn (Fw C.ro) 0 C.P .any ops Q fuel (listed.setIfInBounds i true) a w) E' L' := by
      intro E' L' hk
      refine ih (l1 ++ l2) _ E' L' (by simp only [List.length_append, List.length_cons] at hlen ⊢; omega) (by simpa using hsz) (fun j hj => ?_) (by
       rw [List.map_append]
       exact iC hok (fun x hx => (List.mem_map.1 hx).elim fun y hy => hy.2 ▸ (by rcases hfree y hy.1 with q | ⟨q, _⟩ <;> (show y.c <= 1) <;> omega)) (fun x hx => (List.mem_map.1 hx).elim fun y hy => hy.2 ▸ hleft y (by simp [hy.1]))) (fun x hx => hlt x (hsub x hx)) hk
      by_cases hji : i = j
      · subst hji
        rw [cB (by omega)]
        constructor
        · intro h; cases h
        · rintro ⟨x, hx, e⟩
          exact absurd (e.trans hbi.symm) (hpairs x hx)
      · rw [cX hji, hin j hj]
        constructor
        · rintro ⟨x, hx, e⟩
          refine ⟨x, ?_, e⟩
          rcases List.mem_append.1 hx with hx | hx
          · simp [hx]
          · rcases List.mem_cons.1 hx with rfl | hx
            · exact absurd (hbi.symm.trans e) hji
            · simp [hx]
        · rintro ⟨x, hx, e⟩
          exact ⟨x, hsub x hx, e⟩
     obtain ⟨bi, tb, cb⟩ := b
     simp only at hbi hoi
     subst hbi
     have ho' : ops[bi]? = some o := ho
     match cb, hJ' with
     | 0, hJ' =>
       obtain ⟨o', A, ho2, hl, hs, hk⟩ := hJ'
       rw [ho'] at ho2; cases ho2
       exact (hs L).op ho' hl (rest _ _ hk) a w p
     | 1, hJ' =>
       obtain ⟨o', A, ho2, hl, hs, hk⟩ := hJ'
       rw [ho'] at ho2; cases ho2
       exact hs.op ho' hl (rest _ _ hk) a w p
     | c + 2, hJ' =>
       obtain ⟨o', ho2, hl, X, A, L', hg, hs, hk⟩ := hJ'
       rw [ho'] at ho2; cases ho2
       obtain ⟨n, ds, h, m, l, sp, st, fr⟩ := p
       have hwt : Region.wanted o (yielded ops a.tmps) = true := hg.run (fr.sub dx)
       unfold wpOpIn
       simp only [ho']
       rw [if_pos hwt]
       exact hs a w h m n l sp st (fr.sub dx) _ Q fun x v w' h' m' l' sp' st' hv =>
        rest _ _ (hk x) _ _ ⟨by rw [gz]; exact n, by rw [ee]; exact ds, h', m', HL.trans l l', sp', st', (fr.mono l'.1).putO (by rw [n]; exact hl) hv⟩
theorem BI {C : Cx} {id : Nat} {ops : Array Oper} (its : List It3) {Q : Exit -> Act -> World -> Prop} {E : Env} {L : List SP} (hmix : C.P.follows .mixedOrders = true) (hok : EW ops.toList its = true)
  (hJ : JX C ops (fun E' L' => K C (Q .normal) E' L') its E L) : J C (.region id ops true) Q E L := fun a w p => by
 refine wpIn_region_draw (fun t => ?_)
 simp only [Region.schedule, hmix, Bool.true_or, if_true]
 refine wpAnyIn_sound ops.size t _ a _ ?_
 simp only [EW, Bool.and_eq_true, List.all_eq_true, List.any_eq_true] at hok
 obtain ⟨⟨⟨h1, h2⟩, h3⟩, h4⟩ := hok
 have h5 : ∀ x ∈ its, x.i < ops.size := fun x hx => by have := h4 x hx; simpa using this
 have hnd : (its.map (·.i)).Nodup := by
  have : ∀ {l : List It3}, cV (l.map (bU ops.toList)) = true -> (l.map (·.i)).Nodup := by
   intro l
   induction l with
   | nil => intro _; simp
   | cons x l ih =>
     intro h
     simp only [List.map_cons, cV, Bool.and_eq_true, List.all_eq_true] at h
     simp only [List.map_cons, List.nodup_cons]
     refine ⟨fun hm => ?_, ih h.2⟩
     obtain ⟨y, hy, e⟩ := List.mem_map.1 hm
     have := h.1.1 _ (List.mem_map_of_mem hy)
     simp only [cH, bU, Bool.and_eq_true, Bool.not_eq_true'] at this
     rw [e] at this; simp at this
  exact this h1
 have hlen : its.length <= ops.size := by
  have := lu hnd (n := ops.size) (fun i hi => by
   obtain ⟨x, hx, rfl⟩ := List.mem_map.1 hi
   exact h5 x hx)
  simpa using this
 refine oU ops.size its _ E L hlen (by simp) (fun i hi => ?_) h1 (fun x hx => ⟨h5 x hx, fun e he => ?_⟩) hJ a _ ?_
 · constructor
   · intro _
     obtain ⟨x, hx, e⟩ := h3 i (by simpa using hi)
     exact ⟨x, hx, (Nat.eq_of_beq_eq_true e).symm⟩
   · intro _; simp [Array.getD_eq_getD_getElem?, hi]
 · have := h2 _ (List.mem_map_of_mem hx) e he
   simpa [bU] using this
 · obtain ⟨hsz, hds, h, m, hl, sp, st, fr⟩ := p
   exact ⟨hsz, hds, h, m, hl.trans (HL.same (Same.drew _)), ⟨(by first | exact Sep.inv (by assumption) | exact Inv.mono (FM _ _) (Sep.inv (by assumption))), sp.hm, sp.hr, sp.mr, sp.hw, sp.mw, sp.rw⟩, st, fr⟩
section
variable {C : Cx} {ops : Array Oper} {k : Env -> List SP -> Prop} {its : List It3} {E : Env} {L : List SP} {i d ty : Nat} {ts : List Nat} {op : Op} {pos : String} {af : Array Edge}
theorem ZX {A : Ty} (ho : ops.toList[i]? = some ⟨some d, op, ty, pos, af, none⟩) (hs : ∀ {L}, a8 C ⟨some d, op, ty, pos, af, none⟩ (cc ts E) L A) (hk : JX C ops k its (upd E d A) L) (hN : Nat.blt d C.N = true := by rfl) : JX C ops k (⟨i, ts, 0⟩ :: its) E L := kp ho rfl rfl hN (fun _ => hs) hk
end
theorem Sr {A : Ty} : Sub A A := Sub.rfl
theorem Sel.h {A : SP} {L : List SP} : Sel (A :: L) [A] L := Sel.take (FN _)
theorem NF : (∀ (p : Prop) [Decidable p], (decide p = true) = p) /\ (∀ (p : Prop) [Decidable p], (decide p = false) = ¬ p) /\ (∀ a b : Bool, ((a && b) = true) = (a = true /\ b = true)) /\ (∀ a b : Bool, ((a || b) = true) = (a = true \/ b = true)) /\ (∀ a b : Bool, ((a && b) = false) = (a = false \/ b = false)) /\ (∀ a b : Bool, ((a || b) = false) = (a = false /\ b = false)) /\ (∀ b : Bool, ((!b) = true) = (b = false)) /\ (∀ b : Bool, ((!b) = false) = (b = true)) /\ (∀ a b : Int, (¬ a < b) = (b <= a)) /\ (∀ a b : Int, (¬ a <= b) = (b < a)) /\ ((!true) = false) /\ ((!false) = true) :=
 ⟨fun p _ => by simp, fun p _ => by simp, fun a b => by simp, fun a b => by simp, fun a b => propext Bool.and_eq_false_iff, fun a b => by simp, fun b => by simp, fun b => by simp, fun a b => by simp, fun a b => by simp, rfl, rfl⟩
theorem zS {L S R : List SP} (h : Sel L S R := by repeat first | exact .h | apply Sel.skip) : Sel L S R := h
theorem zO {p : Prop} (h : p := by first | omega | (dsimp only; omega) | (simp_all; omega)) : p := h
theorem zG {p : Prop} (h : p := by omega) : p := h
theorem z6 {x : Int} (h : iu x := by unfold iu; omega) : iu x := h
section
variable {C : Cx} {ops : Array Oper} {rest : List Oper} {Q : Exit -> Act -> World -> Prop} {E : Env} {L : List SP} {d ty T : Nat} {pos : String} {af : Array Edge} {x : Operand} {op : Op}
theorem Js {A : Ty} (hN : Nat.blt d C.N = true) (hs : a8 C ⟨some d, op, ty, pos, af, none⟩ E L A) (hk : JL C ops rest Q (upd E d A) L) : JL C ops (⟨some d, op, ty, pos, af, none⟩ :: rest) Q E L := oM rfl rfl hN hs hk
theorem Jm (hN : Nat.blt d C.N = true) (hk : JL C ops rest Q (upd E d (opTy E x)) L) : JL C ops (⟨some d, .move x, ty, pos, af, none⟩ :: rest) Q E L := oM rfl rfl hN (ar Sub.rfl) hk
theorem Ja (hN : Nat.blt d C.N = true) (hk : JL C ops rest Q (upd E d (opTy E x)) L) : JL C ops (⟨some d, .assign x, ty, pos, af, none⟩ :: rest) Q E L := oM rfl rfl hN (bd Sub.rfl) hk
theorem Jl {α : Type} {R : Rp α} {y : α} (hN : Nat.blt d C.N = true) (hR : TyOf C.P T R) (hx : Sub (opTy E x) (bx R y)) (hk : JL C ops rest Q (upd E d (R.ty y)) L) : JL C ops (⟨some d, .load T x, ty, pos, af, none⟩ :: rest) Q E L := oM rfl rfl hN (ad hR hx) hk
theorem Jr {id : Nat} {y : Code} (h : JL C ops ops.toList (Exit.then (fun a w => y.wpIn (Fw C.ro) 0 C.P Q a w) Q) E L) : J C (.seq (.region id ops false) y) Q E L := ap (ah h)
theorem Jg {A : Ty} {j t : Nat} {b v : Bool} {opg : Op} {tyg : Nat} {posg : String} {afg : Array Edge} {gg : Option (Nat × Bool)} (hj : ops[j]? = some ⟨some t, opg, tyg, posg, afg, gg⟩) (hc : Sub (E t) (tV (.bool v))) (hN : Nat.blt d C.N = true)
  (hs : gT v b = true -> a8 C ⟨some d, op, ty, pos, af, some (j, b)⟩ E L A) (hk : JL C ops rest Q (upd E d (tW (gT v b) A)) L) : JL C ops (⟨some d, op, ty, pos, af, some (j, b)⟩ :: rest) Q E L := dD rfl hj rfl (FS hc) rfl hN hs hk
theorem Jh {A : Ty} {j t : Nat} {b v w : Bool} {opg : Op} {tyg : Nat} {posg : String} {afg : Array Edge} {gg : Option (Nat × Bool)} (hj : ops[j]? = some ⟨some t, opg, tyg, posg, afg, gg⟩) (hc : Sub (E t) (tW w (tV (.bool v)))) (hN : Nat.blt d C.N = true)
  (hs : (w && gT v b) = true -> a8 C ⟨some d, op, ty, pos, af, some (j, b)⟩ E L A) (hk : JL C ops rest Q (upd E d (tW (w && gT v b) A)) L) : JL C ops (⟨some d, op, ty, pos, af, some (j, b)⟩ :: rest) Q E L := dD rfl hj rfl (Gl hc) rfl hN hs hk
theorem Jx {X : Type} {A : X -> Ty} {L' : X -> List SP} (hN : Nat.blt d C.N = true) (hs : Step C ⟨some d, op, ty, pos, af, none⟩ E L A L') (hk : ∀ x, JL C ops rest Q (upd E d (A x)) (L' x)) : JL C ops (⟨some d, op, ty, pos, af, none⟩ :: rest) Q E L := dr rfl rfl hN hs hk
theorem Ju {X : Type} {A : X -> Ty} {L' : X -> List SP} (hs : Step C ⟨none, op, ty, pos, af, none⟩ E L A L') (hk : ∀ x, JL C ops rest Q E (L' x)) : JL C ops (⟨none, op, ty, pos, af, none⟩ :: rest) Q E L := eu rfl rfl hs hk
theorem SubE.u {E E' : Env} {t : Nat} (h : SubE E E') : SubE E (Lg.upd E' t (E t)) := SubE.upd Sub.rfl h
theorem zU {E E' : Env} (h : SubE E E' := by (repeat refine SubE.upd Sub.rfl ?_); exact SubE.any) : SubE E E' := h
theorem Jk {A : Ty} {j t : Nat} {b v : Bool} {opg : Op} {tyg : Nat} {posg : String} {afg : Array Edge} {gg : Option (Nat × Bool)} (hj : ops[j]? = some ⟨some t, opg, tyg, posg, afg, gg⟩) (hc : Sub (E t) (tV (.bool v))) (hN : Nat.blt d C.N = true)
  (hs : a8 C ⟨some d, op, ty, pos, af, some (j, b)⟩ E L A) (hk : JL C ops rest Q (upd E d (tW (gT v b) A)) L) : JL C ops (⟨some d, op, ty, pos, af, some (j, b)⟩ :: rest) Q E L := Jg hj hc hN (fun _ => hs) hk
theorem Ji {A : Ty} {j t : Nat} {b v w : Bool} {opg : Op} {tyg : Nat} {posg : String} {afg : Array Edge} {gg : Option (Nat × Bool)} (hj : ops[j]? = some ⟨some t, opg, tyg, posg, afg, gg⟩) (hc : Sub (E t) (tW w (tV (.bool v)))) (hN : Nat.blt d C.N = true)
  (hs : a8 C ⟨some d, op, ty, pos, af, some (j, b)⟩ E L A) (hk : JL C ops rest Q (upd E d (tW (w && gT v b) A)) L) : JL C ops (⟨some d, op, ty, pos, af, some (j, b)⟩ :: rest) Q E L := Jh hj hc hN (fun _ => hs) hk
end
theorem zL {L M : List SP} (h : LSub L M := by repeat first | exact LSub.nil | refine LSub.cons (by repeat first | exact .h | apply Sel.skip) SPs.rfl ?_) : LSub L M := h
theorem LSub.c {A B : SP} {L R M : List SP} (s : Sel L [A] R) (h : SPs A B) (k : LSub R M) : LSub L (B :: M) := LSub.cons s h k
theorem LSub.r {A : SP} {L R M : List SP} (s : Sel L [A] R) (k : LSub R M) : LSub L (A :: M) := LSub.cons s SPs.rfl k
section
variable {C : Cx} {ops : Array Oper} {k : Env -> List SP -> Prop} {its : List It} {E : Env} {L : List SP} {i d ty : Nat} {ts : List Nat} {op : Op} {x : Operand} {pos : String} {af : Array Edge}
theorem Mf {A : Ty} (ho : ops.toList[i]? = some ⟨some d, op, ty, pos, af, none⟩) (hN : Nat.blt d C.N = true) (hs : ∀ {L}, a8 C ⟨some d, op, ty, pos, af, none⟩ (cc ts E) L A) (hk : JM C ops k its (upd E d A) L) : JM C ops k (⟨i, ts, true⟩ :: its) E L := oN ho rfl rfl hN (fun _ => hs) hk
theorem Mv (ho : ops.toList[i]? = some ⟨some d, .move x, ty, pos, af, none⟩) (hN : Nat.blt d C.N = true) (hk : JM C ops k its (upd E d (opTy (cc ts E) x)) L) : JM C ops k (⟨i, ts, true⟩ :: its) E L := oN ho rfl rfl hN (fun _ => ar Sub.rfl) hk
theorem Mg {A : Ty} {j t : Nat} {b v : Bool} {opg : Op} {tyg : Nat} {posg : String} {afg : Array Edge} {gg : Option (Nat × Bool)} (ho : ops.toList[i]? = some ⟨some d, op, ty, pos, af, some (j, b)⟩) (hj : ops.toList[j]? = some ⟨some t, opg, tyg, posg, afg, gg⟩) (hc : Sub (cc ts E t) (tV (.bool v))) (hN : Nat.blt d C.N = true)
  (hs : gT v b = true -> ∀ {L}, a8 C ⟨some d, op, ty, pos, af, some (j, b)⟩ (cc ts E) L A) (hk : JM C ops k its (upd E d (tW (gT v b) A)) L) : JM C ops k (⟨i, ts, true⟩ :: its) E L := df ho rfl hj rfl (FS hc) rfl hN (fun h _ => hs h) hk
theorem Mk {A : Ty} {j t : Nat} {b v : Bool} {opg : Op} {tyg : Nat} {posg : String} {afg : Array Edge} {gg : Option (Nat × Bool)} (ho : ops.toList[i]? = some ⟨some d, op, ty, pos, af, some (j, b)⟩) (hj : ops.toList[j]? = some ⟨some t, opg, tyg, posg, afg, gg⟩) (hc : Sub (cc ts E t) (tV (.bool v))) (hN : Nat.blt d C.N = true)
  (hs : ∀ {L}, a8 C ⟨some d, op, ty, pos, af, some (j, b)⟩ (cc ts E) L A) (hk : JM C ops k its (upd E d (tW (gT v b) A)) L) : JM C ops k (⟨i, ts, true⟩ :: its) E L := Mg ho hj hc hN (fun _ => hs) hk
end
section
variable {C : Cx} {ops : Array Oper} {rest : List Oper} {Q : Exit -> Act -> World -> Prop} {E : Env} {L : List SP} {d ty T : Nat} {pos : String} {af : Array Edge} {x : Operand} {op : Op}
theorem Zs {A : Ty} (hs : a8 C ⟨some d, op, ty, pos, af, none⟩ E L A) (hk : JL C ops rest Q (upd E d A) L) (hN : Nat.blt d C.N = true := by rfl) : JL C ops (⟨some d, op, ty, pos, af, none⟩ :: rest) Q E L := Js hN hs hk
theorem Zm (hk : JL C ops rest Q (upd E d (opTy E x)) L) (hN : Nat.blt d C.N = true := by rfl) : JL C ops (⟨some d, .move x, ty, pos, af, none⟩ :: rest) Q E L := Jm hN hk
theorem Za (hk : JL C ops rest Q (upd E d (opTy E x)) L) (hN : Nat.blt d C.N = true := by rfl) : JL C ops (⟨some d, .assign x, ty, pos, af, none⟩ :: rest) Q E L := Ja hN hk
theorem Zl {α : Type} {R : Rp α} {y : α} (hR : TyOf C.P T R) (hx : Sub (opTy E x) (bx R y)) (hk : JL C ops rest Q (upd E d (R.ty y)) L) (hN : Nat.blt d C.N = true := by rfl) : JL C ops (⟨some d, .load T x, ty, pos, af, none⟩ :: rest) Q E L := Jl hN hR hx hk
theorem Zx {X : Type} {A : X -> Ty} {L' : X -> List SP} (hs : Step C ⟨some d, op, ty, pos, af, none⟩ E L A L') (hk : ∀ x, JL C ops rest Q (upd E d (A x)) (L' x)) (hN : Nat.blt d C.N = true := by rfl) : JL C ops (⟨some d, op, ty, pos, af, none⟩ :: rest) Q E L := Jx hN hs hk
theorem Zg {A : Ty} {j t : Nat} {b v : Bool} {opg : Op} {tyg : Nat} {posg : String} {afg : Array Edge} {gg : Option (Nat × Bool)} (hs : gT v b = true -> a8 C ⟨some d, op, ty, pos, af, some (j, b)⟩ E L A) (hk : JL C ops rest Q (upd E d (tW (gT v b) A)) L) (hj : ops[j]? = some ⟨some t, opg, tyg, posg, afg, gg⟩ := by rfl) (hc : Sub (E t) (tV (.bool v)) := by exact Sub.rfl) (hN : Nat.blt d C.N = true := by rfl) : JL C ops (⟨some d, op, ty, pos, af, some (j, b)⟩ :: rest) Q E L := Jg hj hc hN hs hk
theorem Zk {A : Ty} {j t : Nat} {b v : Bool} {opg : Op} {tyg : Nat} {posg : String} {afg : Array Edge} {gg : Option (Nat × Bool)} (hs : a8 C ⟨some d, op, ty, pos, af, some (j, b)⟩ E L A) (hk : JL C ops rest Q (upd E d (tW (gT v b) A)) L) (hj : ops[j]? = some ⟨some t, opg, tyg, posg, afg, gg⟩ := by rfl) (hc : Sub (E t) (tV (.bool v)) := by exact Sub.rfl) (hN : Nat.blt d C.N = true := by rfl) : JL C ops (⟨some d, op, ty, pos, af, some (j, b)⟩ :: rest) Q E L := Jk hj hc hN hs hk
end
section
variable {C : Cx} {ops : Array Oper} {k : Env -> List SP -> Prop} {its : List It} {E : Env} {L : List SP} {i d ty : Nat} {ts : List Nat} {op : Op} {x : Operand} {pos : String} {af : Array Edge}
theorem Zf {A : Ty} (ho : ops.toList[i]? = some ⟨some d, op, ty, pos, af, none⟩) (hs : ∀ {L}, a8 C ⟨some d, op, ty, pos, af, none⟩ (cc ts E) L A) (hk : JM C ops k its (upd E d A) L) (hN : Nat.blt d C.N = true := by rfl) : JM C ops k (⟨i, ts, true⟩ :: its) E L := Mf ho hN hs hk
theorem Zv (ho : ops.toList[i]? = some ⟨some d, .move x, ty, pos, af, none⟩) (hk : JM C ops k its (upd E d (opTy (cc ts E) x)) L) (hN : Nat.blt d C.N = true := by rfl) : JM C ops k (⟨i, ts, true⟩ :: its) E L := Mv ho hN hk
end
inductive GPl (A T : Type) where
 | mk (Kind Table : Int) (Kids : List (GPl A T)) (Tests : List T) (Cols : List Int) (Col Agg : Int) (Attrs : List A)
namespace GPl
variable {A T : Type}
def Kind : GPl A T -> Int | mk k _ _ _ _ _ _ _ => k
def Table : GPl A T -> Int | mk _ t _ _ _ _ _ _ => t
def Kids : GPl A T -> List (GPl A T) | mk _ _ k _ _ _ _ _ => k
def Tests : GPl A T -> List T | mk _ _ _ t _ _ _ _ => t
def Cols : GPl A T -> List Int | mk _ _ _ _ c _ _ _ => c
def Col : GPl A T -> Int | mk _ _ _ _ _ c _ _ => c
def Agg : GPl A T -> Int | mk _ _ _ _ _ _ a _ => a
def Attrs : GPl A T -> List A | mk _ _ _ _ _ _ _ a => a
def zero : GPl A T := mk 0 0 [] [] [] 0 0 []
instance : Inhabited (GPl A T) := ⟨zero⟩
end GPl
def rBot (α : Type) (k : Nat) : Rp α where
 k := k
 agg := true
 rel := fun _ _ _ => False
 ty := fun _ => ⟨fun _ _ => False, fun _ e => e⟩
 len := fun h => h.elim
 one := fun h => h.elim
 mono := fun _ h => h
 scalar := fun e => by cases e
 iff := ⟨fun h => h.elim, fun ⟨_, h, _⟩ => h⟩
structure PlT where
 int : Nat
 kids : Nat
 tests : Nat
 ints : Nat
 attrs : Nat
section
variable {A T : Type} (c : PlT) (RA : Rp A) (RT : Rp T)
def fsPl (R : Rp (GPl A T)) : List (SF (GPl A T)) := [⟨Int, c.int, aO, GPl.Kind⟩, ⟨Int, c.int, aO, GPl.Table⟩, ⟨List (GPl A T), c.kids, rSl R, GPl.Kids⟩, ⟨List T, c.tests, rSl RT, GPl.Tests⟩, ⟨List Int, c.ints, rSl aO, GPl.Cols⟩, ⟨Int, c.int, aO, GPl.Col⟩, ⟨Int, c.int, aO, GPl.Agg⟩, ⟨List A, c.attrs, rSl RA, GPl.Attrs⟩]
def rPl : Nat -> Rp (GPl A T)
 | 0 => rBot _ 8
 | n + 1 => aU (fsPl c RA RT (rPl n))
theorem rPl_k : ∀ n, (rPl c RA RT n).k = 8
 | 0 => rfl
 | _ + 1 => rfl
theorem rPl_agg : ∀ n, (rPl c RA RT n).agg = true
 | 0 => rfl
 | _ + 1 => rfl
theorem rPl_ty {P : Program} {t : Nat} (ha : ∀ w, (isAgg t).run P w = .ok true w) (hs : ∀ w, (Go.sizeOf t).run P w = .ok 8 w) (n : Nat) : TyOf P t (rPl c RA RT n) :=
 ⟨fun w => by rw [rPl_agg]; exact ha w, fun w => by rw [rPl_k]; exact hs w⟩
theorem tSl_up {α : Type} {R R' : Rp α} (hk : R.k = R'.k) (hr : ∀ {h x cs}, R.rel h x cs -> R'.rel h x cs) {h : PH} {xs : List α} {v : Value} (hv : (tSl R xs).p h v) : (tSl R' xs).p h v := by
 obtain ⟨ao, cap, e, H⟩ := hv
 refine ⟨ao, cap, e, fun hn => ?_⟩
 obtain ⟨b, off, ea, H2⟩ := H hn
 refine ⟨b, off, ea, fun i x hx => ?_⟩
 obtain ⟨cs, H1, r⟩ := H2 i x hx
 exact ⟨cs, by rw [<- hk]; exact H1, hr r⟩
theorem rPl_up : ∀ (n : Nat) {h : PH} {x : GPl A T} {cs : List Value}, (rPl c RA RT n).rel h x cs -> (rPl c RA RT (n + 1)).rel h x cs
 | 0, _, _, _, r => r.elim
 | n + 1, h, x, cs, r => by
   obtain ⟨c0, _, rfl, r0, c1, _, rfl, r1, c2, _, rfl, r2, rest⟩ := (show SF.rel h x (fsPl c RA RT (rPl c RA RT n)) cs from r)
   refine ⟨c0, _, rfl, r0, c1, _, rfl, r1, c2, _, rfl, ?_, rest⟩
   obtain ⟨v, e, hv⟩ := r2
   exact ⟨v, e, tSl_up ((rPl_k c RA RT n).trans (rPl_k c RA RT (n + 1)).symm) (fun q => rPl_up n q) hv⟩
theorem rPl_le {m n : Nat} (hmn : m <= n) {h : PH} {x : GPl A T} {cs : List Value} (r : (rPl c RA RT m).rel h x cs) : (rPl c RA RT n).rel h x cs := by
 induction n with
 | zero => obtain rfl : m = 0 := (by omega); exact r
 | succ n ih =>
   rcases Nat.lt_or_ge m (n + 1) with h1 | h1
   · exact rPl_up c RA RT n (ih (by omega))
   · obtain rfl : m = n + 1 := (by omega); exact r
theorem rPl_pos {n : Nat} {h : PH} {x : GPl A T} {cs : List Value} (r : (rPl c RA RT n).rel h x cs) : ∃ m, n = m + 1 := by
 cases n with
 | zero => exact r.elim
 | succ m => exact ⟨m, rfl⟩
end
open Go
section
variable {H : Type} {enc : TypeId × Value -> H} {P : Program} {W : World}
theorem D7 {α : Type} {t : Nat} {fs : List (SF α)} (S : StructOf P t fs) {fuel : Nat} {cs : List Value} {x : DataW H × List MemPlace} (h : DataW.trod enc P W 0 (fun _ => true) true fuel t cs = some x) :
  ∃ n, fuel = n + 1 /\ cs.length = SF.width fs /\ ∀ (i : Nat) (f : SF α), fs[i]? = some f -> ∃ z, DataW.trod enc P W 0 (fun _ => true) true n f.T ((cs.drop (SF.off fs i)).take f.R.k) = some z := by
 obtain ⟨fls, hu, hl⟩ := S.lays
 obtain ⟨xs, n, hn, _, hlen, hxs, hf⟩ := DataW.trod_struct hu h
 refine ⟨n, hn, hlen.trans (S.ty.cells W), fun i f hi => ?_⟩
 obtain ⟨fl, h1, h2, h3, h4, _⟩ := hl.get hi
 have h1' : fls[i]? = some fl := by simpa using h1
 have h5 := hf i fl h1'
 have hlt : i < xs.length := by rw [hxs]; exact (Array.getElem?_eq_some_iff.1 h1').1
 rw [List.getElem?_eq_getElem hlt, h2, h3, h4.cells W, Nat.zero_add] at h5
 exact ⟨_, h5⟩
end
open Go Go.Proofs Go.Proofs.Tryz
theorem ty3 : TyOf Tryz.prog 3 aO := ⟨fun w => Tryz.isAgg3 w, fun w => Tryz.sizeOf3 w⟩
theorem zr3 : ∀ h, (aO.ty 0).p h (Value.int .i64 0) := fun _ => rfl
theorem el3 : ElT Tryz.prog 3 aO 8 0 := ⟨ty3, by decide, Tryz.t3, (Value.int .i64 0), by kernel_rfl, by kernel_rfl, by kernel_rfl, by kernel_rfl, zr3⟩
theorem ty4 : TyOf Tryz.prog 4 bN := ⟨fun w => Tryz.isAgg4 w, fun w => Tryz.sizeOf4 w⟩
theorem zr4 : ∀ h, (bN.ty false).p h (Value.bool false) := fun _ => rfl
theorem el4 : ElT Tryz.prog 4 bN 1 false := ⟨ty4, by decide, Tryz.t4, (Value.bool false), by kernel_rfl, by kernel_rfl, by kernel_rfl, by kernel_rfl, zr4⟩
theorem ty5 : TyOf Tryz.prog 5 rU8 := ⟨fun w => Tryz.isAgg5 w, fun w => Tryz.sizeOf5 w⟩
theorem zr5 : ∀ h, (rU8.ty 0).p h (Value.int .u8 0) := fun _ => rfl
theorem el5 : ElT Tryz.prog 5 rU8 1 0 := ⟨ty5, by decide, Tryz.t5, (Value.int .u8 0), by kernel_rfl, by kernel_rfl, by kernel_rfl, by kernel_rfl, zr5⟩
theorem ty9 : TyOf Tryz.prog 9 d5 := ⟨fun w => Tryz.isAgg9 w, fun w => Tryz.sizeOf9 w⟩
theorem zr9 : ∀ h, (d5.ty ⟨#[]⟩).p h (Value.string ⟨#[]⟩) := fun _ => rfl
theorem el9 : ElT Tryz.prog 9 d5 16 ⟨#[]⟩ := ⟨ty9, by decide, Tryz.t9, (Value.string ⟨#[]⟩), by kernel_rfl, by kernel_rfl, by kernel_rfl, by kernel_rfl, zr9⟩
structure GValue where
 Kind : Int
 N : Int
 Text : ByteArray
def c9 : GValue := { Kind := 0, N := 0, Text := ⟨#[]⟩ }
instance : Inhabited GValue := ⟨c9⟩
def rX : List (SF GValue) := [⟨Int, 3, aO, GValue.Kind⟩, ⟨Int, 3, aO, GValue.N⟩, ⟨ByteArray, 9, d5, GValue.Text⟩]
abbrev rValue : Rp GValue := aU rX
theorem bZ : TyOf Tryz.prog 62 rValue := ⟨fun w => Tryz.isAgg62 w, fun w => Tryz.sizeOf62 w⟩
theorem fp : StructOf Tryz.prog 62 rX := ⟨⟨_, Tryz.underlying62, ⟨rfl, rfl, ty3, by decide, ⟨rfl, rfl, ty3, by decide, ⟨rfl, rfl, ty9, by decide, trivial⟩⟩⟩⟩, bZ⟩
theorem wz : ∀ h, (rValue.ty c9).p h (.agg #[Value.int .i64 0, Value.int .i64 0, Value.string ⟨#[]⟩]) := fun _ => ⟨_, ⟨[Value.int .i64 0], _, rfl, rfl, ⟨[Value.int .i64 0], _, rfl, rfl, ⟨[Value.string ⟨#[]⟩], _, rfl, rfl, rfl⟩⟩⟩, rfl⟩
theorem pS : ElT Tryz.prog 62 rValue 32 c9 := ⟨bZ, by decide, Tryz.t62, (.agg #[Value.int .i64 0, Value.int .i64 0, Value.string ⟨#[]⟩]), by kernel_rfl, by kernel_rfl, by kernel_rfl, by kernel_rfl, wz⟩
theorem dt : TyOf Tryz.prog 45 (rSl rValue) := ⟨fun w => Tryz.isAgg45 w, fun w => Tryz.sizeOf45 w⟩
theorem Ff : ∀ h, ((rSl rValue).ty []).p h (Value.slice none 0 0) := fun _ => ⟨none, ⟨0, Nat.le_refl _⟩, rfl, fun q => absurd rfl q⟩
theorem lS : ElT Tryz.prog 45 (rSl rValue) 24 [] := ⟨dt, by decide, Tryz.t45, (Value.slice none 0 0), by kernel_rfl, by kernel_rfl, by kernel_rfl, by kernel_rfl, Ff⟩
theorem fX : TyOf Tryz.prog 38 (rSl (rSl rValue)) := ⟨fun w => Tryz.isAgg38 w, fun w => Tryz.sizeOf38 w⟩
theorem lT : TyOf Tryz.prog 38 rV := ⟨fun w => Tryz.isAgg38 w, fun w => Tryz.sizeOf38 w⟩
theorem D8 : ∀ h, ((rSl (rSl rValue)).ty []).p h (Value.slice none 0 0) := fun _ => ⟨none, ⟨0, Nat.le_refl _⟩, rfl, fun q => absurd rfl q⟩
theorem D9 : ElT Tryz.prog 38 (rSl (rSl rValue)) 24 [] := ⟨fX, by decide, Tryz.t38, (Value.slice none 0 0), by kernel_rfl, by kernel_rfl, by kernel_rfl, by kernel_rfl, D8⟩
theorem CX : TyOf Tryz.prog 35 (rSl (rSl (rSl rValue))) := ⟨fun w => Tryz.isAgg35 w, fun w => Tryz.sizeOf35 w⟩
theorem dn : TyOf Tryz.prog 27 (rSl aO) := ⟨fun w => Tryz.isAgg27 w, fun w => Tryz.sizeOf27 w⟩
theorem jA : TyOf Tryz.prog 27 rV := ⟨fun w => Tryz.isAgg27 w, fun w => Tryz.sizeOf27 w⟩
theorem Fg : ∀ h, ((rSl aO).ty []).p h (Value.slice none 0 0) := fun _ => ⟨none, ⟨0, Nat.le_refl _⟩, rfl, fun q => absurd rfl q⟩
theorem EX : ElT Tryz.prog 27 (rSl aO) 24 [] := ⟨dn, by decide, Tryz.t27, (Value.slice none 0 0), by kernel_rfl, by kernel_rfl, by kernel_rfl, by kernel_rfl, Fg⟩
theorem rY : TyOf Tryz.prog 56 (rSl bN) := ⟨fun w => Tryz.isAgg56 w, fun w => Tryz.sizeOf56 w⟩
theorem Fh : ∀ h, ((rSl bN).ty []).p h (Value.slice none 0 0) := fun _ => ⟨none, ⟨0, Nat.le_refl _⟩, rfl, fun q => absurd rfl q⟩
theorem EY : ElT Tryz.prog 56 (rSl bN) 24 [] := ⟨rY, by decide, Tryz.t56, (Value.slice none 0 0), by kernel_rfl, by kernel_rfl, by kernel_rfl, by kernel_rfl, Fh⟩
theorem zt : TyOf Tryz.prog 126 (rSl (rSl bN)) := ⟨fun w => Tryz.isAgg126 w, fun w => Tryz.sizeOf126 w⟩
theorem Ea : ∀ h, ((rSl (rSl bN)).ty []).p h (Value.slice none 0 0) := fun _ => ⟨none, ⟨0, Nat.le_refl _⟩, rfl, fun q => absurd rfl q⟩
structure GAtom where
 Table : Int
 Cols : List Int
 Terms : List Int
 Key : Int
def uT : GAtom := { Table := 0, Cols := [], Terms := [], Key := 0 }
instance : Inhabited GAtom := ⟨uT⟩
def tA : List (SF GAtom) := [⟨Int, 3, aO, GAtom.Table⟩, ⟨List Int, 27, (rSl aO), GAtom.Cols⟩, ⟨List Int, 27, (rSl aO), GAtom.Terms⟩, ⟨Int, 3, aO, GAtom.Key⟩]
abbrev cg : Rp GAtom := aU tA
theorem gO : TyOf Tryz.prog 88 cg := ⟨fun w => Tryz.isAgg88 w, fun w => Tryz.sizeOf88 w⟩
theorem fY : StructOf Tryz.prog 88 tA := ⟨⟨_, Tryz.underlying88, ⟨rfl, rfl, ty3, by decide, ⟨rfl, rfl, dn, by decide, ⟨rfl, rfl, dn, by decide, ⟨rfl, rfl, ty3, by decide, trivial⟩⟩⟩⟩⟩, gO⟩
theorem zu : ∀ h, (cg.ty uT).p h (.agg #[Value.int .i64 0, Value.slice none 0 0, Value.slice none 0 0, Value.int .i64 0]) := fun _ => ⟨_, ⟨[Value.int .i64 0], _, rfl, rfl, ⟨[Value.slice none 0 0], _, rfl, ⟨_, rfl, none, ⟨0, Nat.le_refl _⟩, rfl, fun q => absurd rfl q⟩, ⟨[Value.slice none 0 0], _, rfl, ⟨_, rfl, none, ⟨0, Nat.le_refl _⟩, rfl, fun q => absurd rfl q⟩, ⟨[Value.int .i64 0], _, rfl, rfl, rfl⟩⟩⟩⟩, rfl⟩
theorem CY : ElT Tryz.prog 88 cg 64 uT := ⟨gO, by decide, Tryz.t88, (.agg #[Value.int .i64 0, Value.slice none 0 0, Value.slice none 0 0, Value.int .i64 0]), by kernel_rfl, by kernel_rfl, by kernel_rfl, by kernel_rfl, zu⟩
theorem lx : TyOf Tryz.prog 47 (rSl cg) := ⟨fun w => Tryz.isAgg47 w, fun w => Tryz.sizeOf47 w⟩
structure GConj where
 Vars : Int
 Consts : List GValue
 Atoms : List GAtom
def jB : GConj := { Vars := 0, Consts := [], Atoms := [] }
instance : Inhabited GConj := ⟨jB⟩
def tB : List (SF GConj) := [⟨Int, 3, aO, GConj.Vars⟩, ⟨List GValue, 45, (rSl rValue), GConj.Consts⟩, ⟨List GAtom, 47, (rSl cg), GConj.Atoms⟩]
abbrev bK : Rp GConj := aU tB
theorem g7 : TyOf Tryz.prog 49 bK := ⟨fun w => Tryz.isAgg49 w, fun w => Tryz.sizeOf49 w⟩
theorem ft : StructOf Tryz.prog 49 tB := ⟨⟨_, Tryz.underlying49, ⟨rfl, rfl, ty3, by decide, ⟨rfl, rfl, dt, by decide, ⟨rfl, rfl, lx, by decide, trivial⟩⟩⟩⟩, g7⟩
theorem zw : ∀ h, (bK.ty jB).p h (.agg #[Value.int .i64 0, Value.slice none 0 0, Value.slice none 0 0]) := fun _ => ⟨_, ⟨[Value.int .i64 0], _, rfl, rfl, ⟨[Value.slice none 0 0], _, rfl, ⟨_, rfl, none, ⟨0, Nat.le_refl _⟩, rfl, fun q => absurd rfl q⟩, ⟨[Value.slice none 0 0], _, rfl, ⟨_, rfl, none, ⟨0, Nat.le_refl _⟩, rfl, fun q => absurd rfl q⟩, rfl⟩⟩⟩, rfl⟩
structure GSide where
 Var : Int
 Col : Int
 Value : GValue
def uU : GSide := { Var := 0, Col := 0, Value := c9 }
instance : Inhabited GSide := ⟨uU⟩
def wS : List (SF GSide) := [⟨Int, 3, aO, GSide.Var⟩, ⟨Int, 3, aO, GSide.Col⟩, ⟨GValue, 62, rValue, GSide.Value⟩]
abbrev p9 : Rp GSide := aU wS
theorem A1 : TyOf Tryz.prog 91 p9 := ⟨fun w => Tryz.isAgg91 w, fun w => Tryz.sizeOf91 w⟩
theorem nk : StructOf Tryz.prog 91 wS := ⟨⟨_, Tryz.underlying91, ⟨rfl, rfl, ty3, by decide, ⟨rfl, rfl, ty3, by decide, ⟨rfl, rfl, bZ, by decide, trivial⟩⟩⟩⟩, A1⟩
structure GTest where
 Left : GSide
 Op : Int
 Right : GSide
 Add : Int
def BJ : GTest := { Left := uU, Op := 0, Right := uU, Add := 0 }
instance : Inhabited GTest := ⟨BJ⟩
def wT : List (SF GTest) := [⟨GSide, 91, p9, GTest.Left⟩, ⟨Int, 3, aO, GTest.Op⟩, ⟨GSide, 91, p9, GTest.Right⟩, ⟨Int, 3, aO, GTest.Add⟩]
abbrev dV : Rp GTest := aU wT
theorem zd : TyOf Tryz.prog 93 dV := ⟨fun w => Tryz.isAgg93 w, fun w => Tryz.sizeOf93 w⟩
theorem lU : StructOf Tryz.prog 93 wT := ⟨⟨_, Tryz.underlying93, ⟨rfl, rfl, A1, by decide, ⟨rfl, rfl, ty3, by decide, ⟨rfl, rfl, A1, by decide, ⟨rfl, rfl, ty3, by decide, trivial⟩⟩⟩⟩⟩, zd⟩
theorem EZ : ∀ h, (dV.ty BJ).p h (.agg #[Value.int .i64 0, Value.int .i64 0, Value.int .i64 0, Value.int .i64 0, Value.string ⟨#[]⟩, Value.int .i64 0, Value.int .i64 0, Value.int .i64 0, Value.int .i64 0, Value.int .i64 0, Value.string ⟨#[]⟩, Value.int .i64 0]) := fun _ => ⟨_, ⟨[Value.int .i64 0, Value.int .i64 0, Value.int .i64 0, Value.int .i64 0, Value.string ⟨#[]⟩], _, rfl, ⟨[Value.int .i64 0], _, rfl, rfl, ⟨[Value.int .i64 0], _, rfl, rfl, ⟨[Value.int .i64 0, Value.int .i64 0, Value.string ⟨#[]⟩], _, rfl, ⟨[Value.int .i64 0], _, rfl, rfl, ⟨[Value.int .i64 0], _, rfl, rfl, ⟨[Value.string ⟨#[]⟩], _, rfl, rfl, rfl⟩⟩⟩, rfl⟩⟩⟩, ⟨[Value.int .i64 0], _, rfl, rfl, ⟨[Value.int .i64 0, Value.int .i64 0, Value.int .i64 0, Value.int .i64 0, Value.string ⟨#[]⟩], _, rfl, ⟨[Value.int .i64 0], _, rfl, rfl, ⟨[Value.int .i64 0], _, rfl, rfl, ⟨[Value.int .i64 0, Value.int .i64 0, Value.string ⟨#[]⟩], _, rfl, ⟨[Value.int .i64 0], _, rfl, rfl, ⟨[Value.int .i64 0], _, rfl, rfl, ⟨[Value.string ⟨#[]⟩], _, rfl, rfl, rfl⟩⟩⟩, rfl⟩⟩⟩, ⟨[Value.int .i64 0], _, rfl, rfl, rfl⟩⟩⟩⟩, rfl⟩
theorem E2 : ElT Tryz.prog 93 dV 112 BJ := ⟨zd, by decide, Tryz.t93, (.agg #[Value.int .i64 0, Value.int .i64 0, Value.int .i64 0, Value.int .i64 0, Value.string ⟨#[]⟩, Value.int .i64 0, Value.int .i64 0, Value.int .i64 0, Value.int .i64 0, Value.int .i64 0, Value.string ⟨#[]⟩, Value.int .i64 0]), by kernel_rfl, by kernel_rfl, by kernel_rfl, by kernel_rfl, EZ⟩
theorem ze : TyOf Tryz.prog 26 (rSl dV) := ⟨fun w => Tryz.isAgg26 w, fun w => Tryz.sizeOf26 w⟩
theorem wU : TyOf Tryz.prog 60 (rSl d5) := ⟨fun w => Tryz.isAgg60 w, fun w => Tryz.sizeOf60 w⟩
theorem BK : TyOf Tryz.prog 60 rV := ⟨fun w => Tryz.isAgg60 w, fun w => Tryz.sizeOf60 w⟩
structure GAttr where
 Name : ByteArray
 Kind : Int
 Was : List ByteArray
 Default : GValue
def BL : GAttr := { Name := ⟨#[]⟩, Kind := 0, Was := [], Default := c9 }
instance : Inhabited GAttr := ⟨BL⟩
def wV : List (SF GAttr) := [⟨ByteArray, 9, d5, GAttr.Name⟩, ⟨Int, 3, aO, GAttr.Kind⟩, ⟨List ByteArray, 60, (rSl d5), GAttr.Was⟩, ⟨GValue, 62, rValue, GAttr.Default⟩]
abbrev bu : Rp GAttr := aU wV
theorem eS : TyOf Tryz.prog 64 bu := ⟨fun w => Tryz.isAgg64 w, fun w => Tryz.sizeOf64 w⟩
theorem gV : StructOf Tryz.prog 64 wV := ⟨⟨_, Tryz.underlying64, ⟨rfl, rfl, ty9, by decide, ⟨rfl, rfl, ty3, by decide, ⟨rfl, rfl, wU, by decide, ⟨rfl, rfl, bZ, by decide, trivial⟩⟩⟩⟩⟩, eS⟩
theorem zx : ∀ h, (bu.ty BL).p h (.agg #[Value.string ⟨#[]⟩, Value.int .i64 0, Value.slice none 0 0, Value.int .i64 0, Value.int .i64 0, Value.string ⟨#[]⟩]) := fun _ => ⟨_, ⟨[Value.string ⟨#[]⟩], _, rfl, rfl, ⟨[Value.int .i64 0], _, rfl, rfl, ⟨[Value.slice none 0 0], _, rfl, ⟨_, rfl, none, ⟨0, Nat.le_refl _⟩, rfl, fun q => absurd rfl q⟩, ⟨[Value.int .i64 0, Value.int .i64 0, Value.string ⟨#[]⟩], _, rfl, ⟨[Value.int .i64 0], _, rfl, rfl, ⟨[Value.int .i64 0], _, rfl, rfl, ⟨[Value.string ⟨#[]⟩], _, rfl, rfl, rfl⟩⟩⟩, rfl⟩⟩⟩⟩, rfl⟩
theorem rZ : ElT Tryz.prog 64 bu 80 BL := ⟨eS, by decide, Tryz.t64, (.agg #[Value.string ⟨#[]⟩, Value.int .i64 0, Value.slice none 0 0, Value.int .i64 0, Value.int .i64 0, Value.string ⟨#[]⟩]), by kernel_rfl, by kernel_rfl, by kernel_rfl, by kernel_rfl, zx⟩
theorem eP : TyOf Tryz.prog 28 (rSl bu) := ⟨fun w => Tryz.isAgg28 w, fun w => Tryz.sizeOf28 w⟩
theorem Fi : ∀ h, ((rSl bu).ty []).p h (Value.slice none 0 0) := fun _ => ⟨none, ⟨0, Nat.le_refl _⟩, rfl, fun q => absurd rfl q⟩
structure GTable where
 Name : ByteArray
 Attrs : List GAttr
 Key : List Int
def wW : GTable := { Name := ⟨#[]⟩, Attrs := [], Key := [] }
instance : Inhabited GTable := ⟨wW⟩
def r6 : List (SF GTable) := [⟨ByteArray, 9, d5, GTable.Name⟩, ⟨List GAttr, 28, (rSl bu), GTable.Attrs⟩, ⟨List Int, 27, (rSl aO), GTable.Key⟩]
abbrev cS : Rp GTable := aU r6
theorem nl : TyOf Tryz.prog 77 cS := ⟨fun w => Tryz.isAgg77 w, fun w => Tryz.sizeOf77 w⟩
theorem jC : StructOf Tryz.prog 77 r6 := ⟨⟨_, Tryz.underlying77, ⟨rfl, rfl, ty9, by decide, ⟨rfl, rfl, eP, by decide, ⟨rfl, rfl, dn, by decide, trivial⟩⟩⟩⟩, nl⟩
theorem D0 : ∀ h, (cS.ty wW).p h (.agg #[Value.string ⟨#[]⟩, Value.slice none 0 0, Value.slice none 0 0]) := fun _ => ⟨_, ⟨[Value.string ⟨#[]⟩], _, rfl, rfl, ⟨[Value.slice none 0 0], _, rfl, ⟨_, rfl, none, ⟨0, Nat.le_refl _⟩, rfl, fun q => absurd rfl q⟩, ⟨[Value.slice none 0 0], _, rfl, ⟨_, rfl, none, ⟨0, Nat.le_refl _⟩, rfl, fun q => absurd rfl q⟩, rfl⟩⟩⟩, rfl⟩
theorem Fj : ElT Tryz.prog 77 cS 64 wW := ⟨nl, by decide, Tryz.t77, (.agg #[Value.string ⟨#[]⟩, Value.slice none 0 0, Value.slice none 0 0]), by kernel_rfl, by kernel_rfl, by kernel_rfl, by kernel_rfl, D0⟩
theorem qa : TyOf Tryz.prog 22 (rSl cS) := ⟨fun w => Tryz.isAgg22 w, fun w => Tryz.sizeOf22 w⟩
structure GSchema where
 Tables : List GTable
def oV : GSchema := { Tables := [] }
instance : Inhabited GSchema := ⟨oV⟩
def oW : List (SF GSchema) := [⟨List GTable, 22, (rSl cS), GSchema.Tables⟩]
abbrev bB : Rp GSchema := aU oW
theorem lV : TyOf Tryz.prog 24 bB := ⟨fun w => Tryz.isAgg24 w, fun w => Tryz.sizeOf24 w⟩
theorem qb : StructOf Tryz.prog 24 oW := ⟨⟨_, Tryz.underlying24, ⟨rfl, rfl, qa, by decide, trivial⟩⟩, lV⟩
theorem Fk : ∀ h, (bB.ty oV).p h (.agg #[Value.slice none 0 0]) := fun _ => ⟨_, ⟨[Value.slice none 0 0], _, rfl, ⟨_, rfl, none, ⟨0, Nat.le_refl _⟩, rfl, fun q => absurd rfl q⟩, rfl⟩, rfl⟩
abbrev aQ : Type := GPl GAttr GTest
def cPl : PlT := ⟨3, 25, 26, 27, 28⟩
abbrev aX (n : Nat) : Rp aQ := rPl cPl bu dV n
theorem da {n : Nat} : TyOf Tryz.prog 30 (aX n) := rPl_ty cPl bu dV (fun w => Tryz.isAgg30 w) (fun w => Tryz.sizeOf30 w) n
theorem lW {n : Nat} : TyOf Tryz.prog 25 (rSl (aX n)) := ⟨fun w => Tryz.isAgg25 w, fun w => Tryz.sizeOf25 w⟩
theorem cq {n : Nat} : StructOf Tryz.prog 30 (fsPl cPl bu dV (aX n)) := ⟨⟨_, Tryz.underlying30, ⟨rfl, rfl, ty3, by decide, ⟨rfl, rfl, ty3, by decide, ⟨rfl, rfl, lW, (by show (1 : Nat) ≠ 0; decide), ⟨rfl, rfl, ze, by decide, ⟨rfl, rfl, dn, by decide, ⟨rfl, rfl, ty3, by decide, ⟨rfl, rfl, ty3, by decide, ⟨rfl, rfl, eP, by decide, trivial⟩⟩⟩⟩⟩⟩⟩⟩⟩, da (n := n + 1)⟩
theorem tC {n : Nat} : ∀ h, ((aX (n + 1)).ty GPl.zero).p h (.agg #[Value.int .i64 0, Value.int .i64 0, Value.slice none 0 0, Value.slice none 0 0, Value.slice none 0 0, Value.int .i64 0, Value.int .i64 0, Value.slice none 0 0]) := fun _ => ⟨_, ⟨[Value.int .i64 0], _, rfl, rfl, ⟨[Value.int .i64 0], _, rfl, rfl, ⟨[Value.slice none 0 0], _, rfl, ⟨_, rfl, none, ⟨0, Nat.le_refl _⟩, rfl, fun q => absurd rfl q⟩, ⟨[Value.slice none 0 0], _, rfl, ⟨_, rfl, none, ⟨0, Nat.le_refl _⟩, rfl, fun q => absurd rfl q⟩, ⟨[Value.slice none 0 0], _, rfl, ⟨_, rfl, none, ⟨0, Nat.le_refl _⟩, rfl, fun q => absurd rfl q⟩, ⟨[Value.int .i64 0], _, rfl, rfl, ⟨[Value.int .i64 0], _, rfl, rfl, ⟨[Value.slice none 0 0], _, rfl, ⟨_, rfl, none, ⟨0, Nat.le_refl _⟩, rfl, fun q => absurd rfl q⟩, rfl⟩⟩⟩⟩⟩⟩⟩⟩, rfl⟩
theorem Fl {n : Nat} : ElT Tryz.prog 30 (aX (n + 1)) 128 GPl.zero := ⟨da, (by rw [rPl_k]; decide), Tryz.t30, (.agg #[Value.int .i64 0, Value.int .i64 0, Value.slice none 0 0, Value.slice none 0 0, Value.slice none 0 0, Value.int .i64 0, Value.int .i64 0, Value.slice none 0 0]), by kernel_rfl, by kernel_rfl, by kernel_rfl, by kernel_rfl, tC⟩
structure Gplan where
 Plan : aQ
 schema : GSchema
def A2 (n : Nat) : List (SF Gplan) := [⟨aQ, 30, aX (n + 1), Gplan.Plan⟩, ⟨GSchema, 24, bB, Gplan.schema⟩]
abbrev gA (n : Nat) : Rp Gplan := aU (A2 n)
theorem Eb {n : Nat} : TyOf Tryz.prog 121 (gA n) := ⟨fun w => Tryz.isAgg121 w, fun w => Tryz.sizeOf121 w⟩
theorem cW {n : Nat} : StructOf Tryz.prog 121 (A2 n) := ⟨⟨_, Tryz.underlying121, ⟨rfl, rfl, da, (by show (rPl _ _ _ _).k ≠ 0; rw [rPl_k]; decide), ⟨rfl, rfl, lV, by decide, trivial⟩⟩⟩, Eb⟩
theorem CZ : TyOf Tryz.prog 118 rV := ⟨fun w => Tryz.isAgg118 w, fun w => Tryz.sizeOf118 w⟩
theorem Ec : TyOf Tryz.prog 122 rV := ⟨fun w => Tryz.isAgg122 w, fun w => Tryz.sizeOf122 w⟩
theorem C0 : TyOf Tryz.prog 117 rV := ⟨fun w => Tryz.isAgg117 w, fun w => Tryz.sizeOf117 w⟩
structure Gkind where
 kids : Int
 columns : Value
 rows : Value
 rest : Value
def r7 : Gkind := { kids := 0, columns := Value.nilFunc, rows := Value.nilFunc, rest := Value.nilFunc }
instance : Inhabited Gkind := ⟨r7⟩
def A3 : List (SF Gkind) := [⟨Int, 3, aO, Gkind.kids⟩, ⟨Value, 118, rV, Gkind.columns⟩, ⟨Value, 122, rV, Gkind.rows⟩, ⟨Value, 117, rV, Gkind.rest⟩]
abbrev fQ : Rp Gkind := aU A3
theorem C1 : TyOf Tryz.prog 125 fQ := ⟨fun w => Tryz.isAgg125 w, fun w => Tryz.sizeOf125 w⟩
theorem lk : StructOf Tryz.prog 125 A3 := ⟨⟨_, Tryz.underlying125, ⟨rfl, rfl, ty3, by decide, ⟨rfl, rfl, CZ, by decide, ⟨rfl, rfl, Ec, by decide, ⟨rfl, rfl, C0, by decide, trivial⟩⟩⟩⟩⟩, C1⟩
theorem BM : ∀ h, (fQ.ty r7).p h (.agg #[Value.int .i64 0, Value.nilFunc, Value.nilFunc, Value.nilFunc]) := fun _ => ⟨_, ⟨[Value.int .i64 0], _, rfl, rfl, ⟨[Value.nilFunc], _, rfl, ⟨rfl, rfl⟩, ⟨[Value.nilFunc], _, rfl, ⟨rfl, rfl⟩, ⟨[Value.nilFunc], _, rfl, ⟨rfl, rfl⟩, rfl⟩⟩⟩⟩, rfl⟩
structure Gplace where
 up : Int
 value : GValue
 fixed : Bool
def wX : Gplace := { up := 0, value := c9, fixed := false }
instance : Inhabited Gplace := ⟨wX⟩
def wY : List (SF Gplace) := [⟨Int, 3, aO, Gplace.up⟩, ⟨GValue, 62, rValue, Gplace.value⟩, ⟨Bool, 4, bN, Gplace.fixed⟩]
abbrev bm : Rp Gplace := aU wY
theorem jc : TyOf Tryz.prog 135 bm := ⟨fun w => Tryz.isAgg135 w, fun w => Tryz.sizeOf135 w⟩
theorem gU : StructOf Tryz.prog 135 wY := ⟨⟨_, Tryz.underlying135, ⟨rfl, rfl, ty3, by decide, ⟨rfl, rfl, bZ, by decide, ⟨rfl, rfl, ty4, by decide, trivial⟩⟩⟩⟩, jc⟩
theorem BN : ∀ h, (bm.ty wX).p h (.agg #[Value.int .i64 0, Value.int .i64 0, Value.int .i64 0, Value.string ⟨#[]⟩, Value.bool false]) := fun _ => ⟨_, ⟨[Value.int .i64 0], _, rfl, rfl, ⟨[Value.int .i64 0, Value.int .i64 0, Value.string ⟨#[]⟩], _, rfl, ⟨[Value.int .i64 0], _, rfl, rfl, ⟨[Value.int .i64 0], _, rfl, rfl, ⟨[Value.string ⟨#[]⟩], _, rfl, rfl, rfl⟩⟩⟩, ⟨[Value.bool false], _, rfl, rfl, rfl⟩⟩⟩, rfl⟩
theorem C2 : ElT Tryz.prog 135 bm 48 wX := ⟨jc, by decide, Tryz.t135, (.agg #[Value.int .i64 0, Value.int .i64 0, Value.int .i64 0, Value.string ⟨#[]⟩, Value.bool false]), by kernel_rfl, by kernel_rfl, by kernel_rfl, by kernel_rfl, BN⟩
theorem zy : TyOf Tryz.prog 96 (rSl bm) := ⟨fun w => Tryz.isAgg96 w, fun w => Tryz.sizeOf96 w⟩
structure Gbuilder where
 schema : GSchema
 tables : List Int
 start : List Int
 places : List Gplace
 self : List Int
 bad : Bool
def zz : Gbuilder := { schema := oV, tables := [], start := [], places := [], self := [], bad := false }
instance : Inhabited Gbuilder := ⟨zz⟩
def lX : List (SF Gbuilder) := [⟨GSchema, 24, bB, Gbuilder.schema⟩, ⟨List Int, 27, (rSl aO), Gbuilder.tables⟩, ⟨List Int, 27, (rSl aO), Gbuilder.start⟩, ⟨List Gplace, 96, (rSl bm), Gbuilder.places⟩, ⟨List Int, 27, (rSl aO), Gbuilder.self⟩, ⟨Bool, 4, bN, Gbuilder.bad⟩]
abbrev cU : Rp Gbuilder := aU lX
theorem Fm : TyOf Tryz.prog 98 cU := ⟨fun w => Tryz.isAgg98 w, fun w => Tryz.sizeOf98 w⟩
theorem zf : StructOf Tryz.prog 98 lX := ⟨⟨_, Tryz.underlying98, ⟨rfl, rfl, lV, by decide, ⟨rfl, rfl, dn, by decide, ⟨rfl, rfl, dn, by decide, ⟨rfl, rfl, zy, by decide, ⟨rfl, rfl, dn, by decide, ⟨rfl, rfl, ty4, by decide, trivial⟩⟩⟩⟩⟩⟩⟩, Fm⟩
structure GPlace where
 Atom : Int
 Col : Int
 To : Int
 Const : GValue
 Fixed : Bool
def C3 : GPlace := { Atom := 0, Col := 0, To := 0, Const := c9, Fixed := false }
instance : Inhabited GPlace := ⟨C3⟩
structure GBuilder where
 S : GSchema
 Tables : List Int
 Places : List GPlace
 Self : List Int
 Bad : Bool
def zA : GBuilder := { S := oV, Tables := [], Places := [], Self := [], Bad := false }
instance : Inhabited GBuilder := ⟨zA⟩
structure GStats where
 Rows : List Int
 Distinct : List (List Int)
def C4 : GStats := { Rows := [], Distinct := [] }
instance : Inhabited GStats := ⟨C4⟩
structure GbuilderW where
 schema : GSchema
 tables : Value
 start : Value
 places : Value
 self : Value
 bad : Bool
def kq : List (SF GbuilderW) := [⟨GSchema, 24, bB, GbuilderW.schema⟩, ⟨Value, 27, rV, GbuilderW.tables⟩, ⟨Value, 27, rV, GbuilderW.start⟩, ⟨Value, 96, rV, GbuilderW.places⟩, ⟨Value, 27, rV, GbuilderW.self⟩, ⟨Bool, 4, bN, GbuilderW.bad⟩]
abbrev cm : Rp GbuilderW := aU kq
theorem ei : TyOf Tryz.prog 27 rV := ⟨fun w => Tryz.isAgg27 w, fun w => Tryz.sizeOf27 w⟩
theorem gB : TyOf Tryz.prog 96 rV := ⟨fun w => Tryz.isAgg96 w, fun w => Tryz.sizeOf96 w⟩
theorem Ed : TyOf Tryz.prog 98 cm := ⟨fun w => Tryz.isAgg98 w, fun w => Tryz.sizeOf98 w⟩
theorem fc : StructOf Tryz.prog 98 kq := ⟨⟨_, Tryz.underlying98, ⟨rfl, rfl, lV, by decide, ⟨rfl, rfl, ei, by decide, ⟨rfl, rfl, ei, by decide, ⟨rfl, rfl, gB, by decide, ⟨rfl, rfl, ei, by decide, ⟨rfl, rfl, ty4, by decide, trivial⟩⟩⟩⟩⟩⟩⟩, Ed⟩
def GbuilderW.up (x : GbuilderW) (atables : List Int) (astart : List Int) (aplaces : List Gplace) (aself : List Int) : Gbuilder := { schema := x.schema, tables := atables, start := astart, places := aplaces, self := aself, bad := x.bad }
theorem Ee {h h' : PH} {x : GbuilderW} (atables : List Int) (astart : List Int) (aplaces : List Gplace) (aself : List Int) {cs : List Value} (l : h.le h') (vtables : (tSl aO atables).p h' x.tables) (vstart : (tSl aO astart).p h' x.start) (vplaces : (tSl bm aplaces).p h' x.places) (vself : (tSl aO aself).p h' x.self) (r : SF.rel h x kq cs) : SF.rel h' (x.up atables astart aplaces aself) lX cs := by
 obtain ⟨c0, _, rfl, r0, c1, _, rfl, r1, c2, _, rfl, r2, c3, _, rfl, r3, c4, _, rfl, r4, c5, _, rfl, r5, rz⟩ := r
 exact ⟨c0, _, rfl, (bB).mono l r0, ⟨c1, _, rfl, ⟨_, r1.1, vtables⟩, ⟨c2, _, rfl, ⟨_, r2.1, vstart⟩, ⟨c3, _, rfl, ⟨_, r3.1, vplaces⟩, ⟨c4, _, rfl, ⟨_, r4.1, vself⟩, ⟨c5, _, rfl, (bN).mono l r5, rz⟩⟩⟩⟩⟩⟩
structure GConjW where
 Vars : Int
 Consts : Value
 Atoms : Value
def C5 : GConjW := { Vars := 0, Consts := Value.slice none 0 0, Atoms := Value.slice none 0 0 }
def r8 : List (SF GConjW) := [⟨Int, 3, aO, GConjW.Vars⟩, ⟨Value, 45, rV, GConjW.Consts⟩, ⟨Value, 47, rV, GConjW.Atoms⟩]
abbrev f8 : Rp GConjW := aU r8
theorem lY : TyOf Tryz.prog 45 rV := ⟨fun w => Tryz.isAgg45 w, fun w => Tryz.sizeOf45 w⟩
theorem r9 : TyOf Tryz.prog 47 rV := ⟨fun w => Tryz.isAgg47 w, fun w => Tryz.sizeOf47 w⟩
theorem Ef : TyOf Tryz.prog 49 f8 := ⟨fun w => Tryz.isAgg49 w, fun w => Tryz.sizeOf49 w⟩
theorem sa : StructOf Tryz.prog 49 r8 := ⟨⟨_, Tryz.underlying49, ⟨rfl, rfl, ty3, by decide, ⟨rfl, rfl, lY, by decide, ⟨rfl, rfl, r9, by decide, trivial⟩⟩⟩⟩, Ef⟩
theorem Eg : ∀ h, (f8.ty C5).p h (.agg #[Value.int .i64 0, Value.slice none 0 0, Value.slice none 0 0]) := fun _ => ⟨_, ⟨[Value.int .i64 0], _, rfl, rfl, ⟨[Value.slice none 0 0], _, rfl, ⟨rfl, rfl⟩, ⟨[Value.slice none 0 0], _, rfl, ⟨rfl, rfl⟩, rfl⟩⟩⟩, rfl⟩
def GConjW.up (x : GConjW) (aConsts : List GValue) (aAtoms : List GAtom) : GConj := { Vars := x.Vars, Consts := aConsts, Atoms := aAtoms }
theorem Eh {h h' : PH} {x : GConjW} (aConsts : List GValue) (aAtoms : List GAtom) {cs : List Value} (l : h.le h') (vConsts : (tSl rValue aConsts).p h' x.Consts) (vAtoms : (tSl cg aAtoms).p h' x.Atoms) (r : SF.rel h x r8 cs) : SF.rel h' (x.up aConsts aAtoms) tB cs := by
 obtain ⟨c0, _, rfl, r0, c1, _, rfl, r1, c2, _, rfl, r2, rz⟩ := r
 exact ⟨c0, _, rfl, (aO).mono l r0, ⟨c1, _, rfl, ⟨_, r1.1, vConsts⟩, ⟨c2, _, rfl, ⟨_, r2.1, vAtoms⟩, rz⟩⟩⟩
structure GAtomW where
 Table : Int
 Cols : Value
 Terms : Value
 Key : Int
def A4 : GAtomW := { Table := 0, Cols := Value.slice none 0 0, Terms := Value.slice none 0 0, Key := 0 }
def sd : List (SF GAtomW) := [⟨Int, 3, aO, GAtomW.Table⟩, ⟨Value, 27, rV, GAtomW.Cols⟩, ⟨Value, 27, rV, GAtomW.Terms⟩, ⟨Int, 3, aO, GAtomW.Key⟩]
abbrev jD : Rp GAtomW := aU sd
theorem fR : TyOf Tryz.prog 27 rV := ⟨fun w => Tryz.isAgg27 w, fun w => Tryz.sizeOf27 w⟩
theorem C6 : TyOf Tryz.prog 88 jD := ⟨fun w => Tryz.isAgg88 w, fun w => Tryz.sizeOf88 w⟩
theorem uV : StructOf Tryz.prog 88 sd := ⟨⟨_, Tryz.underlying88, ⟨rfl, rfl, ty3, by decide, ⟨rfl, rfl, fR, by decide, ⟨rfl, rfl, fR, by decide, ⟨rfl, rfl, ty3, by decide, trivial⟩⟩⟩⟩⟩, C6⟩
theorem Ei : ∀ h, (jD.ty A4).p h (.agg #[Value.int .i64 0, Value.slice none 0 0, Value.slice none 0 0, Value.int .i64 0]) := fun _ => ⟨_, ⟨[Value.int .i64 0], _, rfl, rfl, ⟨[Value.slice none 0 0], _, rfl, ⟨rfl, rfl⟩, ⟨[Value.slice none 0 0], _, rfl, ⟨rfl, rfl⟩, ⟨[Value.int .i64 0], _, rfl, rfl, rfl⟩⟩⟩⟩, rfl⟩
def GAtomW.up (x : GAtomW) (aCols : List Int) (aTerms : List Int) : GAtom := { Table := x.Table, Cols := aCols, Terms := aTerms, Key := x.Key }
theorem Ej {h h' : PH} {x : GAtomW} (aCols : List Int) (aTerms : List Int) {cs : List Value} (l : h.le h') (vCols : (tSl aO aCols).p h' x.Cols) (vTerms : (tSl aO aTerms).p h' x.Terms) (r : SF.rel h x sd cs) : SF.rel h' (x.up aCols aTerms) tA cs := by
 obtain ⟨c0, _, rfl, r0, c1, _, rfl, r1, c2, _, rfl, r2, c3, _, rfl, r3, rz⟩ := r
 exact ⟨c0, _, rfl, (aO).mono l r0, ⟨c1, _, rfl, ⟨_, r1.1, vCols⟩, ⟨c2, _, rfl, ⟨_, r2.1, vTerms⟩, ⟨c3, _, rfl, (aO).mono l r3, rz⟩⟩⟩⟩
def bh (v : GValue) : Bool :=
  if v.Kind ≠ 1 /\ v.Text ≠ ⟨#[]⟩ then false
  else if v.Kind = 0 then decide (0 <= v.N) && decide (v.N <= 0)
  else if v.Kind = 1 then (if 200 < (v.Text.size : Int) then false else decide (0 <= v.N) && decide (v.N <= 0))
  else if v.Kind = 2 then decide (-1000000000 <= v.N) && decide (v.N <= 1000000000)
  else if v.Kind = 3 then decide (0 <= v.N) && decide (v.N <= 73048)
  else if v.Kind = 4 then decide (0 <= v.N) && decide (v.N <= 1)
  else false
theorem lZ {v : GValue} (h : bh v = true) : -1000000000 <= v.N /\ v.N <= 1000000000 := by
  unfold bh at h
  repeat' split at h
  all_goals simp at h
  all_goals omega
theorem eU (v : GValue) : Fun1 prog 48 [rValue.ty v] (tV (.bool (bh v))) := by
 refine Spec.enter func48 rfl rfl fun h0 w0 fr0 => ?_
 refine Jr (Zs (aF (R := rValue) Sr) (Za (ab (ap (Jr ?_)))))
 refine Zs (aa fp Sr rfl) (Zl ty3 Sr (Zs (be Sr Sr) (Zm ?_)))
 refine Zk (aa fp Sr rfl) ?_
 refine Zg (fun hw => ad ty9 (Sub.w hw)) (Zg (fun hw => kY (Sub.w hw) Sr) (Zs (aw Sr Sr) (ab ?_)))
 refine am Sr (fun hc1 => ?_) (fun hc1 => ?_)
 ·
  try simp only [NF] at hc1
  refine Jr (Za (ab (aC ?_)))
  refine aI (t := 2) rfl () ?_
  refine Sub.bool ?_
  simp [bh, hc1]
 try simp only [NF] at hc1
 refine av (Jr (Za (Za (ab (ap ?_)))))
 refine Jr (Zs (aa fp Sr rfl) (Zl ty3 Sr (ab (au (Jr ?_)))))
 refine Zs (aJ Sr Sr) (Za (ab ?_))
 refine am Sr (fun hc2 => ?_) (fun hc2 => ?_)
 ·
  try simp only [NF] at hc2
  refine av (Jr (Zm (Zs (aa fp Sr rfl) (Zl ty3 Sr (Zs (bS Sr Sr) ?_)))))
  refine Zm ?_
  refine Zk (aa fp Sr rfl) ?_
  refine Zg (fun hw => ad ty3 (Sub.w hw)) ?_
  refine Zk (ar Sr) ?_
  refine Zg (fun hw => bS (Sub.w hw) (Sub.w hw)) (Zs (aw Sr Sr) (Za (ab (aC ?_))))
  refine aI (t := 2) rfl () ?_
  refine Sub.bool ?_
  have h1 : ¬ (v.Kind ≠ 1 /\ v.Text ≠ ⟨#[]⟩) := by rintro ⟨p, q⟩; rcases hc1 with hc1 | hc1 <;> contradiction
  simp only [bh, if_neg h1]
  simp [*]
 try simp only [NF] at hc2
 refine Jr (Zs (aJ Sr Sr) (Za (ab ?_)))
 refine am Sr (fun hc3 => ?_) (fun hc3 => ?_)
 ·
  try simp only [NF] at hc3
  refine Jr (Zs (aa fp Sr rfl) (Zl ty9 Sr (Zs (bF underlying9 Sr) (Zs (bj Sr Sr) (ab ?_)))))
  refine am Sr (fun hc4 => ?_) (fun hc4 => ?_)
  ·
   try simp only [NF] at hc4
   refine Jr (Za (ab (aC ?_)))
   refine aI (t := 2) rfl () ?_
   refine Sub.bool ?_
   have h1 : ¬ (v.Kind ≠ 1 /\ v.Text ≠ ⟨#[]⟩) := by rintro ⟨p, q⟩; rcases hc1 with hc1 | hc1 <;> contradiction
   simp only [bh, if_neg h1]
   first | (simp [*]; done) | (simp_all; omega)
  try simp only [NF] at hc4
  refine av (Jr (Zm (Zs (aa fp Sr rfl) (Zl ty3 Sr (Zs (bS Sr Sr) ?_)))))
  refine Zm ?_
  refine Zk (aa fp Sr rfl) ?_
  refine Zg (fun hw => ad ty3 (Sub.w hw)) ?_
  refine Zk (ar Sr) ?_
  refine Zg (fun hw => bS (Sub.w hw) (Sub.w hw)) (Zs (aw Sr Sr) (Za (ab (aC ?_))))
  refine aI (t := 2) rfl () ?_
  refine Sub.bool ?_
  have h1 : ¬ (v.Kind ≠ 1 /\ v.Text ≠ ⟨#[]⟩) := by rintro ⟨p, q⟩; rcases hc1 with hc1 | hc1 <;> contradiction
  simp only [bh, if_neg h1]
  first | (simp [*]; done) | (simp_all; omega)
 try simp only [NF] at hc3
 refine Jr (Zs (aJ Sr Sr) (Za (ab ?_)))
 refine am Sr (fun hc5 => ?_) (fun hc5 => ?_)
 ·
  try simp only [NF] at hc5
  refine ah (Za (Za (ab (Jr (Zm ?_)))))
  refine Zs (aa fp Sr rfl) (Zl ty3 Sr (Zs (bS Sr Sr) (Zm ?_)))
  refine Zk (aa fp Sr rfl) ?_
  refine Zg (fun hw => ad ty3 (Sub.w hw)) ?_
  refine Zk (ar Sr) ?_
  refine Zg (fun hw => bS (Sub.w hw) (Sub.w hw)) (Zs (aw Sr Sr) (Za (ab (aC ?_))))
  refine aI (t := 2) rfl () ?_
  refine Sub.bool ?_
  have h1 : ¬ (v.Kind ≠ 1 /\ v.Text ≠ ⟨#[]⟩) := by rintro ⟨p, q⟩; rcases hc1 with hc1 | hc1 <;> contradiction
  simp only [bh, if_neg h1]
  first | (simp [*]; done) | (simp_all; omega)
 try simp only [NF] at hc5
 refine Jr (Zs (aJ Sr Sr) (Za (ab ?_)))
 refine am Sr (fun hc6 => ?_) (fun hc6 => ?_)
 ·
  try simp only [NF] at hc6
  refine ah (Za (ab (Jr (Zm (Zs (aa fp Sr rfl) ?_)))))
  refine Zl ty3 Sr (Zs (bS Sr Sr) (Zm ?_))
  refine Zk (aa fp Sr rfl) ?_
  refine Zg (fun hw => ad ty3 (Sub.w hw)) ?_
  refine Zk (ar Sr) ?_
  refine Zg (fun hw => bS (Sub.w hw) (Sub.w hw)) (Zs (aw Sr Sr) (Za (ab (aC ?_))))
  refine aI (t := 2) rfl () ?_
  refine Sub.bool ?_
  have h1 : ¬ (v.Kind ≠ 1 /\ v.Text ≠ ⟨#[]⟩) := by rintro ⟨p, q⟩; rcases hc1 with hc1 | hc1 <;> contradiction
  simp only [bh, if_neg h1]
  first | (simp [*]; done) | (simp_all; omega)
 try simp only [NF] at hc6
 refine Jr (Zs (aJ Sr Sr) (Za (ab ?_)))
 refine am Sr (fun hc7 => ?_) (fun hc7 => ?_)
 ·
  try simp only [NF] at hc7
  refine ah (Za (ab (Jr (Zm (Zs (aa fp Sr rfl) ?_)))))
  refine Zl ty3 Sr (Zs (bS Sr Sr) (Zm ?_))
  refine Zk (aa fp Sr rfl) ?_
  refine Zg (fun hw => ad ty3 (Sub.w hw)) ?_
  refine Zk (ar Sr) ?_
  refine Zg (fun hw => bS (Sub.w hw) (Sub.w hw)) (Zs (aw Sr Sr) (Za (ab (aC ?_))))
  refine aI (t := 2) rfl () ?_
  refine Sub.bool ?_
  have h1 : ¬ (v.Kind ≠ 1 /\ v.Text ≠ ⟨#[]⟩) := by rintro ⟨p, q⟩; rcases hc1 with hc1 | hc1 <;> contradiction
  simp only [bh, if_neg h1]
  first | (simp [*]; done) | (simp_all; omega)
 try simp only [NF] at hc7
 refine Jr (Za (ab (aC ?_)))
 refine aI (t := 2) rfl () ?_
 refine Sub.bool ?_
 have h1 : ¬ (v.Kind ≠ 1 /\ v.Text ≠ ⟨#[]⟩) := by rintro ⟨p, q⟩; rcases hc1 with hc1 | hc1 <;> contradiction
 simp only [bh, if_neg h1]
 first | (simp [*]; done) | (simp_all; omega)
abbrev kvV (v : GValue) : Value := .agg #[.int .i64 v.Kind, .int .i64 v.N, .string v.Text]
instance : DecidableEq GValue := fun a b => decidable_of_iff (a.Kind = b.Kind /\ a.N = b.N /\ a.Text = b.Text) ⟨fun ⟨h1, h2, h3⟩ => by cases a; cases b; simp_all, fun h => by subst h; exact ⟨rfl, rfl, rfl⟩⟩
theorem Sub.val {x : GValue} : Sub (rValue.ty x) (tV (kvV x)) := fun h v r => by
  obtain ⟨cs, r, rfl⟩ := r
  obtain ⟨c0, _, rfl, r0, c1, _, rfl, r1, c2, _, rfl, r2, rz⟩ := r
  have r0 : c0 = [.int .i64 x.Kind] := r0
  have r1 : c1 = [.int .i64 x.N] := r1
  have r2 : c2 = [.string x.Text] := r2
  subst r0 r1 r2; rw [show _ = [] from rz]; rfl
theorem toL_eq (a b : ByteArray) : (a.toList == b.toList) = decide (a = b) := by
  rw [<- beq_toListBytes]
  obtain ⟨⟨x⟩⟩ := a
  obtain ⟨⟨y⟩⟩ := b
  show ((⟨x⟩ : Array UInt8) == ⟨y⟩) = _
  rw [Bool.eq_iff_iff]; simp
theorem tD (a b : GValue) (w : World) : (Op.equalIn 10000 62 (kvV a) (kvV b)).run prog w = .ok (decide (a = b)) w := by
  have u3 := underlying3
  have u9 := underlying9
  have a3 := isAgg3
  have a9 := isAgg9
  have z3 := sizeOf3
  have z9 := sizeOf9
  have hS : prog.underlying 62 = some (.struct (prog.fieldsOf 62)) := by kernel_rfl
  have hp : prog.stoodInHeld 62 = false := by kernel_rfl
  rw [show (10000 : Nat) = 9999 + 1 from rfl, run_equalIn_agg w 9999 62 _ _ hS hp]
  simp only [Program.fieldsOf, underlying62]
  go_simp
  have e : decide (a = b) = (decide (a.Kind = b.Kind) && (decide (a.N = b.N) && decide (a.Text = b.Text))) := by
    rw [Bool.eq_iff_iff]; simp
    constructor
    · intro h; subst h; exact ⟨rfl, rfl, rfl⟩
    · rintro ⟨h1, h2, h3⟩; cases a; cases b; simp_all
  have e2 : (a.Text.toList = b.Text.toList) ↔ a.Text = b.Text := by
    have := toL_eq a.Text b.Text
    rw [Bool.eq_iff_iff] at this
    simpa using this
  rw [e]
  by_cases h1 : a.Kind = b.Kind <;> by_cases h2 : a.N = b.N <;> by_cases h3 : a.Text = b.Text <;> simp [h1, h2, h3, e2]
theorem tE : prog.eqGuardType prog.depth 62 = false := by kernel_rfl
theorem k5 {ro : Option Nat} {N : Nat} {ds : List Deferred} {h0 : PH} {w0 : World} {r : PH} {E : Env} {L : List SP} {d : Option Nat} {ty : Nat} {pos : String} {af : Array Edge} {g : Option (Nat × Bool)} {x y : Operand} {U : Nat} {a b : GValue} (hx : Sub (opTy E x) (rValue.ty a)) (hy : Sub (opTy E y) (rValue.ty b)) :
    a8 ⟨prog, ro, N, ds, h0, w0, r⟩ ⟨d, .binOp .neq 62 x y U, ty, pos, af, g⟩ E L (tV (.bool (!decide (a = b)))) :=
  FP (by intro c h; cases h) fun ac w h hw f => by
    have h1 : ac.eval x = kvV a := f.get (Sub.trans hx Sub.val)
    have h2 : ac.eval y = kvV b := f.get (Sub.trans hy Sub.val)
    have he := run_eqGuard_agg (P := prog) w .neq 62 x y #[.int .i64 a.Kind, .int .i64 a.N, .string a.Text] #[.int .i64 b.Kind, .int .i64 b.N, .string b.Text] tE
    refine ⟨.bool (!decide (a = b)), ?_, rfl⟩
    simp [execOp, h1, h2, Sem.run_bind, he, run_neq_struct, tD]
theorem k6 {ro : Option Nat} {N : Nat} {ds : List Deferred} {h0 : PH} {w0 : World} {r : PH} {E : Env} {L : List SP} {d : Option Nat} {ty : Nat} {pos : String} {af : Array Edge} {g : Option (Nat × Bool)} {x y : Operand} {U : Nat} {a b : GValue} (hx : Sub (opTy E x) (rValue.ty a)) (hy : Sub (opTy E y) (rValue.ty b)) :
    a8 ⟨prog, ro, N, ds, h0, w0, r⟩ ⟨d, .binOp .eql 62 x y U, ty, pos, af, g⟩ E L (tV (.bool (decide (a = b)))) :=
  FP (by intro c h; cases h) fun ac w h hw f => by
    have h1 : ac.eval x = kvV a := f.get (Sub.trans hx Sub.val)
    have h2 : ac.eval y = kvV b := f.get (Sub.trans hy Sub.val)
    have he := run_eqGuard_agg (P := prog) w .eql 62 x y #[.int .i64 a.Kind, .int .i64 a.N, .string a.Text] #[.int .i64 b.Kind, .int .i64 b.N, .string b.Text] tE
    refine ⟨.bool (decide (a = b)), ?_, rfl⟩
    simp [execOp, h1, h2, Sem.run_bind, he, run_eql_struct, tD]
def findI {α : Type} (p : α -> Bool) : Int -> List α -> Int
  | _, [] => -1
  | i, x :: l => if p x then i else findI p (i + 1) l
theorem dg {α : Type} (p : α -> Bool) : ∀ (l : List α) (i : Int), 0 <= i -> -1 <= findI p i l /\ findI p i l < i + l.length /\ (0 <= findI p i l ↔ l.any p = true)
  | [], i, h => by simp [findI]; omega
  | x :: l, i, h => by
    have ih := dg p l (i + 1) (by omega)
    simp only [findI, List.length_cons, List.any_cons]
    by_cases hx : p x = true
    · simp [hx]; omega
    · simp only [hx, Bool.false_or]
      simp only [Bool.false_eq_true, if_false]
      refine ⟨ih.1, by have := ih.2.1; omega, ih.2.2⟩
theorem l4 {α : Type} [Inhabited α] {p : α -> Bool} {l : List α} (h : ∀ k, k < l.length -> p (nth l k) = true) : l.all p = true := by
  rw [List.all_eq_true]
  intro x hx
  obtain ⟨k, hk, rfl⟩ := List.getElem_of_mem hx
  have := h k hk
  rwa [nth_get hk] at this
theorem ll {α : Type} [Inhabited α] {p : α -> Bool} {l : List α} {k : Nat} (hk : k < l.length) (h : p (nth l k) = false) : l.all p = false := by
  rw [List.all_eq_false]
  exact ⟨_, nth_mem hk, by simp [h]⟩
theorem nU {α : Type} [Inhabited α] {p : α -> Prop} {l : List α} {i : Nat} (hlt : i < l.length) (hv : ∀ k, k < i -> p (nth l k)) (h : p (nth l i)) : i + 1 <= l.length /\ ∀ k, k < i + 1 -> p (nth l k) :=
  ⟨hlt, fun k hk => by
    by_cases e : k = i
    · subst e; exact h
    · exact hv k (by omega)⟩
theorem l5 (l : List Int) (hl : l.length <= 1000000000000) (gi : Nat) (As : List Ty) (p : Int -> Bool) (hp : ∀ x ∈ l, Fun1 prog gi ([tV (.int .i64 x)] ++ As) (tV (.bool (p x)))) (he : ∀ args w, (callFunc gi args).run prog w = .ok (.enter gi args) w) : Fun1 prog 96 [tSl aO l, eZ gi As] (tV (.int .i64 (findI p 0 l))) := by
 refine Spec.enter func96 rfl rfl fun h0 w0 fr0 => ?_
 refine Jr (Za (ab (ap (Jr (Zm ?_)))))
 refine Zs (ag underlying27 Sr) (Zm (ab (au ?_)))
 refine aK (σ := Nat) (fun i => i <= l.length /\ findI p 0 l = findI p i (l.drop i)) (fun i => upd (upd (upd (upd co 0 (tSl aO l)) 1 (eZ gi As)) 7 (tV (.int .i64 l.length))) 8 (tV (.int .i64 i))) (fun i => []) (fun i => l.length - i) 0 ⟨by omega, by simp⟩ (zU) (LSub.rfl) ?_
 rintro i ⟨hi, hv⟩
 refine Jr (Zs (az Sr Sr) (ab (ap ?_)))
 refine am Sr (fun h9 => ?_) (fun h9 => ?_)
 ·
  try simp only [NF] at h9
  have hlt : i < l.length := by omega
  have hd := fq hlt
  refine av (ap (au (Jr (Zm (Za ?_)))))
  refine ab (Jr (Zm (Zm (Zm ?_))))
  refine Zs (ae  underlying27 ty3 Sr Sr rfl (gb (by first | assumption | omega))) ?_
  refine Zl ty3 Sr (Zs (bp (aT := [_]) Sr (hp _ (nth_mem hlt)) ⟨Sr, trivial⟩ he) (ab ?_))
  refine am Sr (fun h16 => ?_) (fun h16 => ?_)
  ·
   try simp only [NF] at h16
   refine Jr (Zm (Za (ab (aC ?_))))
   refine bz (rv := .tmp 4) rfl () (.tmp Sr) (Sub.int ?_)
   rw [hv, hd]; simp only [findI]; rw [if_pos h16]
  try simp only [NF] at h16
  refine av (ah (Zs (ax Sr Sr z6) (Zm (ab ?_))))
  refine ay (σ := Nat) (s := i) (i + 1) zO ?_ (zU) (LSub.rfl)
  refine ⟨by omega, ?_⟩
  rw [hv, hd]; simp only [findI]; rw [if_neg (by simp [h16])]; simp
 try simp only [NF] at h9
 refine aV (Jr (Za (ab (aC ?_))))
 refine bz (rv := .tmp 4) rfl () (.tmp Sr) (Sub.int ?_)
 rw [hv, List.drop_of_length_le zG]; rfl
theorem tF (l : List Int) (hl : l.length <= 1000000000000) (gi : Nat) (As : List Ty) (p : Int -> Bool) (hp : ∀ x ∈ l, Fun1 prog gi ([tV (.int .i64 x)] ++ As) (tV (.bool (p x)))) (he : ∀ args w, (callFunc gi args).run prog w = .ok (.enter gi args) w) : Fun1 prog 43 [tSl aO l, eZ gi As] (tV (.bool (l.any p))) := by
 refine Spec.enter func43 rfl rfl fun h0 w0 fr0 => ?_
 refine Jr (Za (ab (Jr (Zm (Zm ?_)))))
 refine Zs (aj (l5 l hl gi As p hp he) ⟨Sr, Sr, trivial⟩ call96) (Zs (bA Sr Sr) (Za (ab (aC ?_))))
 refine bz (rv := .tmp 4) rfl () (.tmp Sr) (Sub.bool ?_)
 have hq := (dg p l 0 zG).2.2
 by_cases ha : l.any p = true
 ·
  rw [ha]; simp; exact hq.2 ha
 simp only [Bool.not_eq_true] at ha; rw [ha]; simp; have : ¬ 0 <= findI p 0 l := (fun h => by rw [hq.1 h] at ha; cases ha)
 omega
theorem l6 (l : List Int) (hl : l.length <= 1000000000000) (gi : Nat) (As : List Ty) (B : SP) (p : Int -> Bool) (hp : ∀ x ∈ l, Spec (X := Unit) prog gi ([tV (.int .i64 x)] ++ As) [B] (fun _ => tV (.bool (p x))) (fun _ => [B])) (he : ∀ args w, (callFunc gi args).run prog w = .ok (.enter gi args) w) : Spec (X := Unit) prog 96 [tSl aO l, eZ gi As] ([B]) (fun _ => tV (.int .i64 (findI p 0 l))) (fun _ => [B]) := by
 refine Spec.enter func96 rfl rfl fun h0 w0 fr0 => ?_
 refine Jr (Za (ab (ap (Jr (Zm ?_)))))
 refine Zs (ag underlying27 Sr) (Zm (ab (au ?_)))
 refine aK (σ := Nat) (fun i => i <= l.length /\ findI p 0 l = findI p i (l.drop i)) (fun i => upd (upd (upd (upd co 0 (tSl aO l)) 1 (eZ gi As)) 7 (tV (.int .i64 l.length))) 8 (tV (.int .i64 i))) (fun i => [B]) (fun i => l.length - i) 0 ⟨by omega, by simp⟩ (zU) (LSub.rfl) ?_
 rintro i ⟨hi, hv⟩
 refine Jr (Zs (az Sr Sr) (ab (ap ?_)))
 refine am Sr (fun h9 => ?_) (fun h9 => ?_)
 ·
  try simp only [NF] at h9
  have hlt : i < l.length := by omega
  have hd := fq hlt
  refine av (ap (au (Jr (Zm (Za ?_)))))
  refine ab (Jr (Zm (Zm (Zm ?_))))
  refine Zs (ae  underlying27 ty3 Sr Sr rfl (gb (by first | assumption | omega))) ?_
  refine Zl ty3 Sr ?_
  refine Zx (eR (aT := [_]) Sr (Sel.all _) (hp _ (nth_mem hlt)) ⟨Sr, trivial⟩ he) fun v16 => ?_
  refine ab ?_
  refine am Sr (fun h16 => ?_) (fun h16 => ?_)
  ·
   try simp only [NF] at h16
   refine Jr (Zm (Za (ab (aC ?_))))
   refine bz (rv := .tmp 4) rfl () (.tmp Sr) (Sub.int ?_)
   rw [hv, hd]; simp only [findI]; rw [if_pos h16]
  try simp only [NF] at h16
  refine av (ah (Zs (ax Sr Sr z6) (Zm (ab ?_))))
  refine ay (σ := Nat) (s := i) (i + 1) zO ?_ (zU) (LSub.rfl)
  refine ⟨by omega, ?_⟩
  rw [hv, hd]; simp only [findI]; rw [if_neg (by simp [h16])]; simp
 try simp only [NF] at h9
 refine aV (Jr (Za (ab (aC ?_))))
 refine bz (rv := .tmp 4) rfl () (.tmp Sr) (Sub.int ?_)
 rw [hv, List.drop_of_length_le zG]; rfl
theorem fC (l : List Int) (hl : l.length <= 1000000000000) (gi : Nat) (As : List Ty) (B : SP) (p : Int -> Bool) (hp : ∀ x ∈ l, Spec (X := Unit) prog gi ([tV (.int .i64 x)] ++ As) [B] (fun _ => tV (.bool (p x))) (fun _ => [B])) (he : ∀ args w, (callFunc gi args).run prog w = .ok (.enter gi args) w) : Spec (X := Unit) prog 43 [tSl aO l, eZ gi As] ([B]) (fun _ => tV (.bool (l.any p))) (fun _ => [B]) := by
 refine Spec.enter func43 rfl rfl fun h0 w0 fr0 => ?_
 refine Jr (Za (ab (Jr (Zm (Zm ?_)))))
 refine Zx (aR (Sel.all _) (l6 l hl gi As B p hp he) ⟨Sr, Sr, trivial⟩ call96) fun v7 => ?_
 refine Zs (bA Sr Sr) (Za (ab (aC ?_)))
 refine bz (rv := .tmp 4) rfl () (.tmp Sr) (Sub.bool ?_)
 have hq := (dg p l 0 zG).2.2
 by_cases ha : l.any p = true
 ·
  rw [ha]; simp; exact hq.2 ha
 simp only [Bool.not_eq_true] at ha; rw [ha]; simp; have : ¬ 0 <= findI p 0 l := (fun h => by rw [hq.1 h] at ha; cases ha)
 omega
theorem l7 (l : List GAtom) (hl : l.length <= 1000000000000) (gi : Nat) (As : List Ty) (p : GAtom -> Bool) (hp : ∀ x ∈ l, Fun1 prog gi ([cg.ty x] ++ As) (tV (.bool (p x)))) (he : ∀ args w, (callFunc gi args).run prog w = .ok (.enter gi args) w) : Fun1 prog 104 [tSl cg l, eZ gi As] (tV (.int .i64 (findI p 0 l))) := by
 refine Spec.enter func104 rfl rfl fun h0 w0 fr0 => ?_
 refine Jr (Za (ab (ap (Jr (Zm ?_)))))
 refine Zs (ag underlying47 Sr) (Zm (ab (au ?_)))
 refine aK (σ := Nat) (fun i => i <= l.length /\ findI p 0 l = findI p i (l.drop i)) (fun i => upd (upd (upd (upd co 0 (tSl cg l)) 1 (eZ gi As)) 7 (tV (.int .i64 l.length))) 8 (tV (.int .i64 i))) (fun i => []) (fun i => l.length - i) 0 ⟨by omega, by simp⟩ (zU) (LSub.rfl) ?_
 rintro i ⟨hi, hv⟩
 refine Jr (Zs (az Sr Sr) (ab (ap ?_)))
 refine am Sr (fun h9 => ?_) (fun h9 => ?_)
 ·
  try simp only [NF] at h9
  have hlt : i < l.length := by omega
  have hd := fq hlt
  refine av (ap (au (Jr (Zm (Za ?_)))))
  refine ab (Jr (Zm (Zm (Zm ?_))))
  refine Zs (ae  underlying47 gO Sr Sr rfl (gb (by first | assumption | omega))) ?_
  refine Zl gO Sr (Zs (bp (aT := [_]) Sr (hp _ (nth_mem hlt)) ⟨Sr, trivial⟩ he) (ab ?_))
  refine am Sr (fun h16 => ?_) (fun h16 => ?_)
  ·
   try simp only [NF] at h16
   refine Jr (Zm (Za (ab (aC ?_))))
   refine bz (rv := .tmp 4) rfl () (.tmp Sr) (Sub.int ?_)
   rw [hv, hd]; simp only [findI]; rw [if_pos h16]
  try simp only [NF] at h16
  refine av (ah (Zs (ax Sr Sr z6) (Zm (ab ?_))))
  refine ay (σ := Nat) (s := i) (i + 1) zO ?_ (zU) (LSub.rfl)
  refine ⟨by omega, ?_⟩
  rw [hv, hd]; simp only [findI]; rw [if_neg (by simp [h16])]; simp
 try simp only [NF] at h9
 refine aV (Jr (Za (ab (aC ?_))))
 refine bz (rv := .tmp 4) rfl () (.tmp Sr) (Sub.int ?_)
 rw [hv, List.drop_of_length_le zG]; rfl
theorem jE (l : List GAtom) (hl : l.length <= 1000000000000) (gi : Nat) (As : List Ty) (p : GAtom -> Bool) (hp : ∀ x ∈ l, Fun1 prog gi ([cg.ty x] ++ As) (tV (.bool (p x)))) (he : ∀ args w, (callFunc gi args).run prog w = .ok (.enter gi args) w) : Fun1 prog 50 [tSl cg l, eZ gi As] (tV (.bool (l.any p))) := by
 refine Spec.enter func50 rfl rfl fun h0 w0 fr0 => ?_
 refine Jr (Za (ab (Jr (Zm (Zm ?_)))))
 refine Zs (aj (l7 l hl gi As p hp he) ⟨Sr, Sr, trivial⟩ call104) (Zs (bA Sr Sr) (Za (ab (aC ?_))))
 refine bz (rv := .tmp 4) rfl () (.tmp Sr) (Sub.bool ?_)
 have hq := (dg p l 0 zG).2.2
 by_cases ha : l.any p = true
 ·
  rw [ha]; simp; exact hq.2 ha
 simp only [Bool.not_eq_true] at ha; rw [ha]; simp; have : ¬ 0 <= findI p 0 l := (fun h => by rw [hq.1 h] at ha; cases ha)
 omega
theorem l8 (l : List ByteArray) (hl : l.length <= 1000000000000) (gi : Nat) (As : List Ty) (p : ByteArray -> Bool) (hp : ∀ x ∈ l, Fun1 prog gi ([tV (.string x)] ++ As) (tV (.bool (p x)))) (he : ∀ args w, (callFunc gi args).run prog w = .ok (.enter gi args) w) : Fun1 prog 173 [tSl d5 l, eZ gi As] (tV (.int .i64 (findI p 0 l))) := by
 refine Spec.enter func173 rfl rfl fun h0 w0 fr0 => ?_
 refine Jr (Za (ab (ap (Jr (Zm ?_)))))
 refine Zs (ag underlying60 Sr) (Zm (ab (au ?_)))
 refine aK (σ := Nat) (fun i => i <= l.length /\ findI p 0 l = findI p i (l.drop i)) (fun i => upd (upd (upd (upd co 0 (tSl d5 l)) 1 (eZ gi As)) 7 (tV (.int .i64 l.length))) 8 (tV (.int .i64 i))) (fun i => []) (fun i => l.length - i) 0 ⟨by omega, by simp⟩ (zU) (LSub.rfl) ?_
 rintro i ⟨hi, hv⟩
 refine Jr (Zs (az Sr Sr) (ab (ap ?_)))
 refine am Sr (fun h9 => ?_) (fun h9 => ?_)
 ·
  try simp only [NF] at h9
  have hlt : i < l.length := by omega
  have hd := fq hlt
  refine av (ap (au (Jr (Zm (Za ?_)))))
  refine ab (Jr (Zm (Zm (Zm ?_))))
  refine Zs (ae  underlying60 ty9 Sr Sr rfl (gb (by first | assumption | omega))) ?_
  refine Zl ty9 Sr (Zs (bp (aT := [_]) Sr (hp _ (nth_mem hlt)) ⟨Sr, trivial⟩ he) (ab ?_))
  refine am Sr (fun h16 => ?_) (fun h16 => ?_)
  ·
   try simp only [NF] at h16
   refine Jr (Zm (Za (ab (aC ?_))))
   refine bz (rv := .tmp 4) rfl () (.tmp Sr) (Sub.int ?_)
   rw [hv, hd]; simp only [findI]; rw [if_pos h16]
  try simp only [NF] at h16
  refine av (ah (Zs (ax Sr Sr z6) (Zm (ab ?_))))
  refine ay (σ := Nat) (s := i) (i + 1) zO ?_ (zU) (LSub.rfl)
  refine ⟨by omega, ?_⟩
  rw [hv, hd]; simp only [findI]; rw [if_neg (by simp [h16])]; simp
 try simp only [NF] at h9
 refine aV (Jr (Za (ab (aC ?_))))
 refine bz (rv := .tmp 4) rfl () (.tmp Sr) (Sub.int ?_)
 rw [hv, List.drop_of_length_le zG]; rfl
theorem jF (l : List ByteArray) (hl : l.length <= 1000000000000) (gi : Nat) (As : List Ty) (p : ByteArray -> Bool) (hp : ∀ x ∈ l, Fun1 prog gi ([tV (.string x)] ++ As) (tV (.bool (p x)))) (he : ∀ args w, (callFunc gi args).run prog w = .ok (.enter gi args) w) : Fun1 prog 136 [tSl d5 l, eZ gi As] (tV (.bool (l.any p))) := by
 refine Spec.enter func136 rfl rfl fun h0 w0 fr0 => ?_
 refine Jr (Za (ab (Jr (Zm (Zm ?_)))))
 refine Zs (aj (l8 l hl gi As p hp he) ⟨Sr, Sr, trivial⟩ call173) (Zs (bA Sr Sr) (Za (ab (aC ?_))))
 refine bz (rv := .tmp 4) rfl () (.tmp Sr) (Sub.bool ?_)
 have hq := (dg p l 0 zG).2.2
 by_cases ha : l.any p = true
 ·
  rw [ha]; simp; exact hq.2 ha
 simp only [Bool.not_eq_true] at ha; rw [ha]; simp; have : ¬ 0 <= findI p 0 l := (fun h => by rw [hq.1 h] at ha; cases ha)
 omega
theorem l9 (l : List GTest) (hl : l.length <= 1000000000000) (gi : Nat) (As : List Ty) (p : GTest -> Bool) (hp : ∀ x ∈ l, Fun1 prog gi ([dV.ty x] ++ As) (tV (.bool (p x)))) (he : ∀ args w, (callFunc gi args).run prog w = .ok (.enter gi args) w) : Fun1 prog 160 [tSl dV l, eZ gi As] (tV (.int .i64 (findI p 0 l))) := by
 refine Spec.enter func160 rfl rfl fun h0 w0 fr0 => ?_
 refine Jr (Za (ab (ap (Jr (Zm ?_)))))
 refine Zs (ag underlying26 Sr) (Zm (ab (au ?_)))
 refine aK (σ := Nat) (fun i => i <= l.length /\ findI p 0 l = findI p i (l.drop i)) (fun i => upd (upd (upd (upd co 0 (tSl dV l)) 1 (eZ gi As)) 7 (tV (.int .i64 l.length))) 8 (tV (.int .i64 i))) (fun i => []) (fun i => l.length - i) 0 ⟨by omega, by simp⟩ (zU) (LSub.rfl) ?_
 rintro i ⟨hi, hv⟩
 refine Jr (Zs (az Sr Sr) (ab (ap ?_)))
 refine am Sr (fun h9 => ?_) (fun h9 => ?_)
 ·
  try simp only [NF] at h9
  have hlt : i < l.length := by omega
  have hd := fq hlt
  refine av (ap (au (Jr (Zm (Za ?_)))))
  refine ab (Jr (Zm (Zm (Zm ?_))))
  refine Zs (ae  underlying26 zd Sr Sr rfl (gb (by first | assumption | omega))) ?_
  refine Zl zd Sr (Zs (bp (aT := [_]) Sr (hp _ (nth_mem hlt)) ⟨Sr, trivial⟩ he) (ab ?_))
  refine am Sr (fun h16 => ?_) (fun h16 => ?_)
  ·
   try simp only [NF] at h16
   refine Jr (Zm (Za (ab (aC ?_))))
   refine bz (rv := .tmp 4) rfl () (.tmp Sr) (Sub.int ?_)
   rw [hv, hd]; simp only [findI]; rw [if_pos h16]
  try simp only [NF] at h16
  refine av (ah (Zs (ax Sr Sr z6) (Zm (ab ?_))))
  refine ay (σ := Nat) (s := i) (i + 1) zO ?_ (zU) (LSub.rfl)
  refine ⟨by omega, ?_⟩
  rw [hv, hd]; simp only [findI]; rw [if_neg (by simp [h16])]; simp
 try simp only [NF] at h9
 refine aV (Jr (Za (ab (aC ?_))))
 refine bz (rv := .tmp 4) rfl () (.tmp Sr) (Sub.int ?_)
 rw [hv, List.drop_of_length_le zG]; rfl
theorem fD (l : List GTest) (hl : l.length <= 1000000000000) (gi : Nat) (As : List Ty) (p : GTest -> Bool) (hp : ∀ x ∈ l, Fun1 prog gi ([dV.ty x] ++ As) (tV (.bool (p x)))) (he : ∀ args w, (callFunc gi args).run prog w = .ok (.enter gi args) w) : Fun1 prog 115 [tSl dV l, eZ gi As] (tV (.bool (l.any p))) := by
 refine Spec.enter func115 rfl rfl fun h0 w0 fr0 => ?_
 refine Jr (Za (ab (Jr (Zm (Zm ?_)))))
 refine Zs (aj (l9 l hl gi As p hp he) ⟨Sr, Sr, trivial⟩ call160) (Zs (bA Sr Sr) (Za (ab (aC ?_))))
 refine bz (rv := .tmp 4) rfl () (.tmp Sr) (Sub.bool ?_)
 have hq := (dg p l 0 zG).2.2
 by_cases ha : l.any p = true
 ·
  rw [ha]; simp; exact hq.2 ha
 simp only [Bool.not_eq_true] at ha; rw [ha]; simp; have : ¬ 0 <= findI p 0 l := (fun h => by rw [hq.1 h] at ha; cases ha)
 omega
theorem dh (l : List GAttr) (hl : l.length <= 1000000000000) (gi : Nat) (As : List Ty) (p : GAttr -> Bool) (hp : ∀ x ∈ l, Fun1 prog gi ([bu.ty x] ++ As) (tV (.bool (p x)))) (he : ∀ args w, (callFunc gi args).run prog w = .ok (.enter gi args) w) : Fun1 prog 93 [tSl bu l, eZ gi As] (tV (.int .i64 (findI p 0 l))) := by
 refine Spec.enter func93 rfl rfl fun h0 w0 fr0 => ?_
 refine Jr (Za (ab (ap (Jr (Zm ?_)))))
 refine Zs (ag underlying28 Sr) (Zm (ab (au ?_)))
 refine aK (σ := Nat) (fun i => i <= l.length /\ findI p 0 l = findI p i (l.drop i)) (fun i => upd (upd (upd (upd co 0 (tSl bu l)) 1 (eZ gi As)) 7 (tV (.int .i64 l.length))) 8 (tV (.int .i64 i))) (fun i => []) (fun i => l.length - i) 0 ⟨by omega, by simp⟩ (zU) (LSub.rfl) ?_
 rintro i ⟨hi, hv⟩
 refine Jr (Zs (az Sr Sr) (ab (ap ?_)))
 refine am Sr (fun h9 => ?_) (fun h9 => ?_)
 ·
  try simp only [NF] at h9
  have hlt : i < l.length := by omega
  have hd := fq hlt
  refine av (ap (au (Jr (Zm (Za ?_)))))
  refine ab (Jr (Zm (Zm (Zm ?_))))
  refine Zs (ae  underlying28 eS Sr Sr rfl (gb (by first | assumption | omega))) ?_
  refine Zl eS Sr (Zs (bp (aT := [_]) Sr (hp _ (nth_mem hlt)) ⟨Sr, trivial⟩ he) (ab ?_))
  refine am Sr (fun h16 => ?_) (fun h16 => ?_)
  ·
   try simp only [NF] at h16
   refine Jr (Zm (Za (ab (aC ?_))))
   refine bz (rv := .tmp 4) rfl () (.tmp Sr) (Sub.int ?_)
   rw [hv, hd]; simp only [findI]; rw [if_pos h16]
  try simp only [NF] at h16
  refine av (ah (Zs (ax Sr Sr z6) (Zm (ab ?_))))
  refine ay (σ := Nat) (s := i) (i + 1) zO ?_ (zU) (LSub.rfl)
  refine ⟨by omega, ?_⟩
  rw [hv, hd]; simp only [findI]; rw [if_neg (by simp [h16])]; simp
 try simp only [NF] at h9
 refine aV (Jr (Za (ab (aC ?_))))
 refine bz (rv := .tmp 4) rfl () (.tmp Sr) (Sub.int ?_)
 rw [hv, List.drop_of_length_le zG]; rfl
theorem kr (l : List GTable) (hl : l.length <= 1000000000000) (gi : Nat) (As : List Ty) (p : GTable -> Bool) (hp : ∀ x ∈ l, Fun1 prog gi ([cS.ty x] ++ As) (tV (.bool (p x)))) (he : ∀ args w, (callFunc gi args).run prog w = .ok (.enter gi args) w) : Fun1 prog 140 [tSl cS l, eZ gi As] (tV (.int .i64 (findI p 0 l))) := by
 refine Spec.enter func140 rfl rfl fun h0 w0 fr0 => ?_
 refine Jr (Za (ab (ap (Jr (Zm ?_)))))
 refine Zs (ag underlying22 Sr) (Zm (ab (au ?_)))
 refine aK (σ := Nat) (fun i => i <= l.length /\ findI p 0 l = findI p i (l.drop i)) (fun i => upd (upd (upd (upd co 0 (tSl cS l)) 1 (eZ gi As)) 7 (tV (.int .i64 l.length))) 8 (tV (.int .i64 i))) (fun i => []) (fun i => l.length - i) 0 ⟨by omega, by simp⟩ (zU) (LSub.rfl) ?_
 rintro i ⟨hi, hv⟩
 refine Jr (Zs (az Sr Sr) (ab (ap ?_)))
 refine am Sr (fun h9 => ?_) (fun h9 => ?_)
 ·
  try simp only [NF] at h9
  have hlt : i < l.length := by omega
  have hd := fq hlt
  refine av (ap (au (Jr (Zm (Za ?_)))))
  refine ab (Jr (Zm (Zm (Zm ?_))))
  refine Zs (ae  underlying22 nl Sr Sr rfl (gb (by first | assumption | omega))) ?_
  refine Zl nl Sr (Zs (bp (aT := [_]) Sr (hp _ (nth_mem hlt)) ⟨Sr, trivial⟩ he) (ab ?_))
  refine am Sr (fun h16 => ?_) (fun h16 => ?_)
  ·
   try simp only [NF] at h16
   refine Jr (Zm (Za (ab (aC ?_))))
   refine bz (rv := .tmp 4) rfl () (.tmp Sr) (Sub.int ?_)
   rw [hv, hd]; simp only [findI]; rw [if_pos h16]
  try simp only [NF] at h16
  refine av (ah (Zs (ax Sr Sr z6) (Zm (ab ?_))))
  refine ay (σ := Nat) (s := i) (i + 1) zO ?_ (zU) (LSub.rfl)
  refine ⟨by omega, ?_⟩
  rw [hv, hd]; simp only [findI]; rw [if_neg (by simp [h16])]; simp
 try simp only [NF] at h9
 refine aV (Jr (Za (ab (aC ?_))))
 refine bz (rv := .tmp 4) rfl () (.tmp Sr) (Sub.int ?_)
 rw [hv, List.drop_of_length_le zG]; rfl
theorem sf (l : List Int) (v : Int) (hl : l.length <= 1000000000000) : Fun1 prog 105 [tSl aO l, tV (.int .i64 v)] (tV (.int .i64 (findI (fun x => decide (v = x)) 0 l))) := by
 refine Spec.enter func105 rfl rfl fun h0 w0 fr0 => ?_
 refine Jr (Za (ab (ap (Jr (Zm ?_)))))
 refine Zs (ag underlying27 Sr) (Zm (ab (au ?_)))
 refine aK (σ := Nat) (fun i => i <= l.length /\ findI (fun x => decide (v = x)) 0 l = findI (fun x => decide (v = x)) i (l.drop i)) (fun i => upd (upd (upd (upd co 0 (tSl aO l)) 1 (tV (.int .i64 v))) 7 (tV (.int .i64 l.length))) 8 (tV (.int .i64 i))) (fun i => []) (fun i => l.length - i) 0 ⟨by omega, by simp⟩ (zU) (LSub.rfl) ?_
 rintro i ⟨hi, hv⟩
 refine Jr (Zs (az Sr Sr) (ab (ap ?_)))
 refine am Sr (fun h9 => ?_) (fun h9 => ?_)
 ·
  try simp only [NF] at h9
  have hlt : i < l.length := by omega
  have hd := fq hlt
  refine av (ap (au (Jr (Zm (Za ?_)))))
  refine ab (Jr (Zm (Zm (Zm ?_))))
  refine Zs (ae  underlying27 ty3 Sr Sr rfl (gb (by first | assumption | omega))) ?_
  refine Zl ty3 Sr (Zs (aJ Sr Sr) (ab ?_))
  refine am Sr (fun h16 => ?_) (fun h16 => ?_)
  ·
   try simp only [NF] at h16
   have he : v = nth l i := by first | exact h16 | simpa using h16
   refine Jr (Zm (Za (ab (aC ?_))))
   refine aY (rv := .tmp 4) rfl () (Sel.all _) (.tmp Sr) (Frz.sub (Sub.int ?_))
   rw [hv, hd]; simp [findI, he]
  try simp only [NF] at h16
  have hne : ¬ v = nth l i := by first | exact h16 | simpa using h16
  refine av (ah (Zs (ax Sr Sr z6) (Zm (ab ?_))))
  refine ay (σ := Nat) (s := i) (i + 1) zO ?_ (zU) (LSub.rfl)
  refine ⟨by omega, ?_⟩
  rw [hv, hd]; simp [findI, hne]
 try simp only [NF] at h9
 refine aV (Jr (Za (ab (aC ?_))))
 refine aY (rv := .tmp 4) rfl () (Sel.all _) (.tmp Sr) (Frz.sub (Sub.int ?_))
 rw [hv, List.drop_of_length_le zG]; rfl
theorem ey (l : List Int) (v : Int) (hl : l.length <= 1000000000000) : Fun1 prog 52 [tSl aO l, tV (.int .i64 v)] (tV (.bool (l.any fun x => decide (v = x)))) := by
 refine Spec.enter func52 rfl rfl fun h0 w0 fr0 => ?_
 refine Jr (Za (ab (Jr (Zm (Zm ?_)))))
 refine Zs (aj (sf _ _ hl) ⟨Sr, Sr, trivial⟩ call105) (Zs (bA Sr Sr) (Za (ab (aC ?_))))
 refine aY (rv := .tmp 4) rfl () (Sel.all _) (.tmp Sr) (Frz.sub (Sub.bool ?_))
 rw [Bool.eq_iff_iff, decide_eq_true_eq]; exact (dg _ l 0 zG).2.2
theorem ma (l : List GValue) (v : GValue) (hl : l.length <= 1000000000000) : Fun1 prog 99 [tSl rValue l, rValue.ty v] (tV (.int .i64 (findI (fun x => decide (v = x)) 0 l))) := by
 refine Spec.enter func99 rfl rfl fun h0 w0 fr0 => ?_
 refine Jr (Zs (aF (R := rValue) Sr) (Za (ab (ap (Jr ?_)))))
 refine Zm (Zs (ag underlying45 Sr) (Zm (ab (au ?_))))
 refine aK (σ := Nat) (fun i => i <= l.length /\ findI (fun x => decide (v = x)) 0 l = findI (fun x => decide (v = x)) i (l.drop i)) (fun i => upd (upd (upd (upd co 0 (tSl rValue l)) 3 (bx rValue v)) 7 (tV (.int .i64 l.length))) 8 (tV (.int .i64 i))) (fun i => []) (fun i => l.length - i) 0 ⟨by omega, by simp⟩ (zU) (LSub.rfl) ?_
 rintro i ⟨hi, hv⟩
 refine Jr (Zs (az Sr Sr) (ab (ap ?_)))
 refine am Sr (fun h9 => ?_) (fun h9 => ?_)
 ·
  try simp only [NF] at h9
  have hlt : i < l.length := by omega
  have hd := fq hlt
  refine av (ap (au (Jr (Zm (Za ?_)))))
  refine ab (ap ?_)
  refine bQ [⟨0, [3], true⟩, ⟨1, [0], true⟩, ⟨2, [5], true⟩, ⟨3, [12, 13], true⟩, ⟨4, [14], true⟩, ⟨5, [11, 15], true⟩] rfl (by kernel_rfl) ?_
  refine Zf rfl (ad bZ Sr) (Zv rfl (Zv rfl ?_))
  refine Zf rfl (ae  underlying45 bZ Sr Sr rfl (gb (by first | assumption | omega))) ?_
  refine Zf rfl (ad bZ Sr) (Zf rfl (k6 Sr Sr) (bP ?_))
  refine am Sr (fun h16 => ?_) (fun h16 => ?_)
  ·
   try simp only [NF] at h16
   have he : v = nth l i := by first | exact h16 | simpa using h16
   refine Jr (Zm (Za (ab (aC ?_))))
   refine aY (rv := .tmp 4) rfl () (Sel.all _) (.tmp Sr) (Frz.sub (Sub.int ?_))
   rw [hv, hd]; simp [findI, he]
  try simp only [NF] at h16
  have hne : ¬ v = nth l i := by first | exact h16 | simpa using h16
  refine av (ah (Zs (ax Sr Sr z6) (Zm (ab ?_))))
  refine ay (σ := Nat) (s := i) (i + 1) zO ?_ (zU) (LSub.rfl)
  refine ⟨by omega, ?_⟩
  rw [hv, hd]; simp [findI, hne]
 try simp only [NF] at h9
 refine aV (Jr (Za (ab (aC ?_))))
 refine aY (rv := .tmp 4) rfl () (Sel.all _) (.tmp Sr) (Frz.sub (Sub.int ?_))
 rw [hv, List.drop_of_length_le zG]; rfl
theorem ny (l : List GValue) (v : GValue) (hl : l.length <= 1000000000000) : Fun1 prog 49 [tSl rValue l, rValue.ty v] (tV (.bool (l.any fun x => decide (v = x)))) := by
 refine Spec.enter func49 rfl rfl fun h0 w0 fr0 => ?_
 refine Jr (Zs (aF (R := rValue) Sr) (Za (ab (Jr (Zm ?_)))))
 refine Zl bZ Sr (Zs (aj (ma _ _ hl) ⟨Sr, Sr, trivial⟩ call99) (Zs (bA Sr Sr) (Za (ab (aC ?_)))))
 refine aY (rv := .tmp 4) rfl () (Sel.all _) (.tmp Sr) (Frz.sub (Sub.bool ?_))
 rw [Bool.eq_iff_iff, decide_eq_true_eq]; exact (dg _ l 0 zG).2.2
theorem sg (l : List ByteArray) (v : ByteArray) (hl : l.length <= 1000000000000) : Fun1 prog 184 [tSl d5 l, tV (.string v)] (tV (.int .i64 (findI (fun x => decide (v = x)) 0 l))) := by
 refine Spec.enter func184 rfl rfl fun h0 w0 fr0 => ?_
 refine Jr (Za (ab (ap (Jr (Zm ?_)))))
 refine Zs (ag underlying60 Sr) (Zm (ab (au ?_)))
 refine aK (σ := Nat) (fun i => i <= l.length /\ findI (fun x => decide (v = x)) 0 l = findI (fun x => decide (v = x)) i (l.drop i)) (fun i => upd (upd (upd (upd co 0 (tSl d5 l)) 1 (tV (.string v))) 7 (tV (.int .i64 l.length))) 8 (tV (.int .i64 i))) (fun i => []) (fun i => l.length - i) 0 ⟨by omega, by simp⟩ (zU) (LSub.rfl) ?_
 rintro i ⟨hi, hv⟩
 refine Jr (Zs (az Sr Sr) (ab (ap ?_)))
 refine am Sr (fun h9 => ?_) (fun h9 => ?_)
 ·
  try simp only [NF] at h9
  have hlt : i < l.length := by omega
  have hd := fq hlt
  refine av (ap (au (Jr (Zm (Za ?_)))))
  refine ab (Jr (Zm (Zm (Zm ?_))))
  refine Zs (ae  underlying60 ty9 Sr Sr rfl (gb (by first | assumption | omega))) ?_
  refine Zl ty9 Sr (Zs (dP Sr Sr) (ab ?_))
  refine am Sr (fun h16 => ?_) (fun h16 => ?_)
  ·
   try simp only [NF] at h16
   have he : v = nth l i := by first | exact h16 | simpa using h16
   refine Jr (Zm (Za (ab (aC ?_))))
   refine aY (rv := .tmp 4) rfl () (Sel.all _) (.tmp Sr) (Frz.sub (Sub.int ?_))
   rw [hv, hd]; simp [findI, he]
  try simp only [NF] at h16
  have hne : ¬ v = nth l i := by first | exact h16 | simpa using h16
  refine av (ah (Zs (ax Sr Sr z6) (Zm (ab ?_))))
  refine ay (σ := Nat) (s := i) (i + 1) zO ?_ (zU) (LSub.rfl)
  refine ⟨by omega, ?_⟩
  rw [hv, hd]; simp [findI, hne]
 try simp only [NF] at h9
 refine aV (Jr (Za (ab (aC ?_))))
 refine aY (rv := .tmp 4) rfl () (Sel.all _) (.tmp Sr) (Frz.sub (Sub.int ?_))
 rw [hv, List.drop_of_length_le zG]; rfl
theorem nz (l : List ByteArray) (v : ByteArray) (hl : l.length <= 1000000000000) : Fun1 prog 159 [tSl d5 l, tV (.string v)] (tV (.bool (l.any fun x => decide (v = x)))) := by
 refine Spec.enter func159 rfl rfl fun h0 w0 fr0 => ?_
 refine Jr (Za (ab (Jr (Zm (Zm ?_)))))
 refine Zs (aj (sg _ _ hl) ⟨Sr, Sr, trivial⟩ call184) (Zs (bA Sr Sr) (Za (ab (aC ?_))))
 refine aY (rv := .tmp 4) rfl () (Sel.all _) (.tmp Sr) (Frz.sub (Sub.bool ?_))
 rw [Bool.eq_iff_iff, decide_eq_true_eq]; exact (dg _ l 0 zG).2.2
section
variable {C : Cx} {E : Env} {L : List SP} {d : Option Nat} {ty : Nat} {pos : String} {af : Array Edge} {g : Option (Nat × Bool)}
theorem zB {T : Nat} {x : Operand} {a : Int} (hx : Sub (opTy E x) (tV (.int .i64 a))) (hr : iu (-a)) : a8 C ⟨d, .unOp .neg T x, ty, pos, af, g⟩ E L (tV (.int .i64 (-a))) :=
  FP (by intro c h; cases h) fun ac w h hw f => ⟨.int .i64 (-a), by
    have h1 : ac.eval x = .int .i64 a := f.get hx
    have e : (0 : Int) - a = -a := by omega
    have hr2 : iu (0 - a) := by rw [e]; exact hr
    simp [execOp, h1, Op.unary, Sem.run_bind, Op.intArith, fZ hr, e], rfl⟩
end
theorem fE {n : Nat} {f : Nat -> Bool} (h : ∀ k, k < n -> f k = true) : (List.range n).all f = true := by
  rw [List.all_eq_true]; intro x hx; exact h x (List.mem_range.1 hx)
theorem f9 {n i : Nat} {f : Nat -> Bool} (hi : i < n) (h : f i = false) : (List.range n).all f = false := by
  rw [List.all_eq_false]; exact ⟨i, List.mem_range.2 hi, by simp [h]⟩
theorem ez {n : Nat} {f : Nat -> Bool} : (List.range n).all f = true ↔ ∀ k, k < n -> f k = true := by
  rw [List.all_eq_true]; exact ⟨fun h k hk => h k (List.mem_range.2 hk), fun h x hx => h x (List.mem_range.1 hx)⟩
def okC (q : GConj) (i : Nat) : Bool := bh (nth q.Consts i) && !decide ((nth q.Consts i).Kind = 0) && !(q.Consts.take i).any fun x => decide (nth q.Consts i = x)
def okK (q : GConj) (a : GAtom) (k : Nat) : Bool := decide (0 <= nth a.Cols k) && !((a.Cols.take k).any fun x => decide (nth a.Cols k = x)) && decide (nth a.Terms k < q.Vars) && decide (-(q.Consts.length : Int) <= nth a.Terms k)
def okA (q : GConj) (i : Nat) : Bool := decide (0 <= (nth q.Atoms i).Table) && !((q.Atoms.take i).any fun x => decide (x.Table = (nth q.Atoms i).Table)) &&
  decide (1 <= (nth q.Atoms i).Cols.length /\ (nth q.Atoms i).Cols.length <= 12 /\ (nth q.Atoms i).Terms.length = (nth q.Atoms i).Cols.length /\ 1 <= (nth q.Atoms i).Key /\ (nth q.Atoms i).Key <= (nth q.Atoms i).Cols.length) &&
  (List.range (nth q.Atoms i).Cols.length).all (okK q (nth q.Atoms i))
def bE (q : GConj) : Bool := decide (0 <= q.Vars /\ q.Vars <= 240 /\ q.Consts.length <= 240 /\ q.Atoms.length <= 20) && (List.range q.Consts.length).all (okC q) && (List.range q.Atoms.length).all (okA q)
theorem qc (x y : GAtom) : Fun1 prog 51 [cg.ty x, bx cg y] (tV (.bool (decide (x.Table = y.Table)))) := by
 refine Spec.enter func51 rfl rfl fun h0 w0 fr0 => ?_
 refine Jr (Zs (aF (R := cg) Sr) (Za (ab (Jr (Zs (aa fY Sr rfl) ?_)))))
 refine Zl ty3 Sr (Zs (aa fY Sr rfl) (Zl ty3 Sr (Zs (aJ Sr Sr) (Za (ab ?_)))))
 refine aC ?_
 exact aI (t := 3) rfl () Sr
theorem dG (q : GConj) : Fun1 prog 18 [bK.ty q] (tV (.bool (bE q))) := by
 refine Spec.enter func18 rfl rfl fun h0 w0 fr0 => ?_
 refine Jr (Zs (aF (R := bK) Sr) (Za (ab (ap (Jr ?_)))))
 refine Zs (aa ft Sr rfl) (Zl ty3 Sr (Zs (az Sr Sr) (Zm ?_)))
 refine Zk (aa ft Sr rfl) ?_
 refine Zg (fun hw => ad ty3 (Sub.w hw)) (Zg (fun hw => bj (Sub.w hw) Sr) (Zs (aD Sr Sr) (Zm ?_)))
 refine Zk (aa ft Sr rfl) ?_
 refine Zg (fun hw => ad dt (Sub.w hw)) (Zg (fun hw => ag underlying45 (Sub.w hw)) (Zg (fun hw => bj (Sub.w hw) Sr) (Zs (aD Sr Sr) (Zm ?_))))
 refine Zk (aa ft Sr rfl) ?_
 refine Zg (fun hw => ad lx (Sub.w hw)) (Zg (fun hw => ag underlying47 (Sub.w hw)) (Zg (fun hw => bj (Sub.w hw) Sr) (Zs (aD Sr Sr) (ab ?_))))
 refine am Sr (fun h28 => ?_) (fun h28 => ?_)
 ·
  try simp only [NF] at h28
  refine Jr (Za (ab (aC ?_)))
  refine aI (t := 2) rfl () ?_
  refine Sub.bool ?_
  have : ¬ (0 <= q.Vars /\ q.Vars <= 240 /\ q.Consts.length <= 240 /\ q.Atoms.length <= 20) := by omega
  simp [bE, this]
 try simp only [NF] at h28
 have hb : 0 <= q.Vars /\ q.Vars <= 240 /\ q.Consts.length <= 240 /\ q.Atoms.length <= 20 := by omega
 refine av (ap (Jr (Zs (aa ft Sr rfl) (Zl dt Sr (Zs (ag underlying45 Sr) ?_)))))
 refine Zm (ab (au ?_))
 refine aK (σ := Nat) (fun i => i <= q.Consts.length /\ ∀ k, k < i -> okC q k = true) (fun i => upd (upd (upd (upd co 1 (bx bK q)) 30 (tSl rValue q.Consts)) 31 (tV (.int .i64 q.Consts.length))) 32 (tV (.int .i64 i))) (fun i => []) (fun i => q.Consts.length - i) 0 ⟨by omega, fun k hk => by omega⟩ (zU) (LSub.rfl) ?_
 rintro i ⟨hi, hv⟩
 refine Jr (Zs (az Sr Sr) (ab (ap ?_)))
 refine am Sr (fun h33 => ?_) (fun h33 => ?_)
 ·
  try simp only [NF] at h33
  have hlt : i < q.Consts.length := by omega
  refine av (ap (au (Jr (Zm ?_))))
  refine Zs (ae  underlying45 bZ Sr Sr rfl (gb (by exact hlt))) ?_
  refine Zl bZ Sr ?_
  refine Zx (aE (fun w => zeroValue62 w) wz) fun v4 => ?_
  refine Za ?_
  refine Ju (ai bZ Sr Sr zS) fun _ => ?_
  refine aN (t := 4) (Sel.take (FN _)) Frz.box ?_
  refine ab (ap ?_)
  refine bQ [⟨0, [4], true⟩, ⟨1, [37], true⟩, ⟨2, [38], true⟩, ⟨3, [39], true⟩, ⟨4, [4, 40], true⟩, ⟨5, [40, 41], true⟩, ⟨6, [40, 42], true⟩, ⟨7, [40, 43], true⟩, ⟨8, [44], true⟩, ⟨9, [1, 45], true⟩, ⟨10, [45, 46], true⟩, ⟨11, [3, 45], true⟩, ⟨12, [45, 47, 48], true⟩, ⟨13, [4, 45], true⟩, ⟨14, [45, 49, 50], true⟩, ⟨15, [45, 51], true⟩] rfl (by kernel_rfl) ?_
  refine Zf rfl (ad bZ Sr) (Zf rfl (aj (eU _) ⟨Sr, trivial⟩ call48) (Zf rfl (bc Sr) (Zv rfl ?_)))
  refine Mk rfl rfl Sr rfl (aa fp Sr rfl) ?_
  refine Mg rfl rfl Sr rfl (fun hw => ad ty3 (Sub.w hw)) (Mg rfl rfl Sr rfl (fun hw => aJ (Sub.w hw) Sr) (Zf rfl (aD Sr Sr) (Zv rfl ?_)))
  refine Mk rfl rfl Sr rfl (aa ft Sr rfl) ?_
  refine Mg rfl rfl Sr rfl (fun hw => ad dt (Sub.w hw)) ?_
  refine Mk rfl rfl Sr rfl (ar Sr) ?_
  refine Mg rfl rfl Sr rfl (fun hw => dz (n := i) underlying45 bZ (Sub.w hw) (Sub.w hw) (by have hwq := hw; (try simp only [beqB_t, beqB_f, NF] at hwq); omega) (by have hwq := hw; (try simp only [beqB_t, beqB_f, NF] at hwq); first | assumption | omega)) ?_
  refine Mk rfl rfl Sr rfl (ad bZ Sr) ?_
  refine Mg rfl rfl Sr rfl (fun hw => aj (ny _ _ (by rw [List.length_take]; omega)) ⟨(Sub.w hw), (Sub.w hw), trivial⟩ call49) ?_
  refine Zf rfl (aD Sr Sr) (bP ?_)
  refine am Sr (fun h52 => ?_) (fun h52 => ?_)
  ·
   try simp only [NF] at h52
   refine Jr (Za (ab (aC ?_)))
   refine aI (t := 2) rfl () ?_
   refine Sub.bool ?_
   have : okC q i = false := by rcases h52 with (h | h) | h <;> simp only [okC, h] <;> simp
   simp only [bE, f9 hlt this]; simp
  try simp only [NF] at h52
  refine av (ah (Zs (ax Sr Sr z6) (Zm (ab ?_))))
  refine ay (σ := Nat) (s := i) (i + 1) zO ?_ (zU) (LSub.rfl)
  refine ⟨by omega, fun k hk => ?_⟩
  by_cases e : k = i
  ·
   subst e; simp_all [okC]
  exact hv k zG
 try simp only [NF] at h33
 have hcs : (List.range q.Consts.length).all (okC q) = true := fE (fun k hk => hv k zG)
 refine aV (ap (Jr (Zs (aa ft Sr rfl) (Zl lx Sr (Zs (ag underlying47 Sr) ?_)))))
 refine Zm (ab (au ?_))
 refine aK (σ := Nat) (fun i => i <= q.Atoms.length /\ ∀ k, k < i -> okA q k = true) (fun i => upd (upd (upd (upd co 1 (bx bK q)) 55 (tSl cg q.Atoms)) 56 (tV (.int .i64 q.Atoms.length))) 57 (tV (.int .i64 i))) (fun i => []) (fun i => q.Atoms.length - i) 0 ⟨by omega, fun k hk => by omega⟩ (zU) (LSub.rfl) ?_
 rintro i ⟨hi, hv⟩
 refine Jr (Zs (az Sr Sr) (ab (ap ?_)))
 refine am Sr (fun h58 => ?_) (fun h58 => ?_)
 ·
  try simp only [NF] at h58
  have hlt : i < q.Atoms.length := by omega
  refine av (ap (au (Jr (Zm ?_))))
  refine Zs (ae  underlying47 gO Sr Sr rfl (gb (by exact hlt))) ?_
  refine Zl gO Sr ?_
  refine Zx (aE (fun w => zeroValue88 w) zu) fun v6 => ?_
  refine Za ?_
  refine Ju (ai gO Sr Sr zS) fun _ => ?_
  refine aN (t := 6) (Sel.take (FN _)) Frz.box ?_
  refine ab (ap (Jr (Zs (aa fY Sr rfl) (Zl ty3 Sr (Zs (az Sr Sr) ?_)))))
  refine Zm ?_
  refine Zk (aa ft Sr rfl) ?_
  refine Zg (fun hw => ad lx (Sub.w hw)) ?_
  refine Zk (ar Sr) ?_
  refine Zg (fun hw => dz (n := i) underlying47 gO (Sub.w hw) (Sub.w hw) (by have hwq := hw; (try simp only [beqB_t, beqB_f, NF] at hwq); omega) (by have hwq := hw; (try simp only [beqB_t, beqB_f, NF] at hwq); first | assumption | omega)) ?_
  refine Zk (bl (As := [_]) ⟨Sr, trivial⟩) ?_
  refine Zg (fun hw => aj (jE (q.Atoms.take i) (by rw [List.length_take]; omega) 51 [bx cg (nth q.Atoms i)] (fun x => decide (x.Table = (nth q.Atoms i).Table)) (fun x _ => qc x _) call51) ⟨(Sub.w hw), (Sub.w hw), trivial⟩ call50) ?_
  refine Zs (aD Sr Sr) (ab ?_)
  refine am Sr (fun h72 => ?_) (fun h72 => ?_)
  ·
   try simp only [NF] at h72
   refine Jr (Za (ab (aC ?_)))
   refine aI (t := 2) rfl () ?_
   refine Sub.bool ?_
   have : okA q i = false := by
    rcases h72 with h | h
    ·
     have : ¬ 0 <= (nth q.Atoms i).Table := by omega
     simp only [okA, this]; simp
    simp only [okA, h]; simp
   simp only [bE, f9 hlt this]; simp
  try simp only [NF] at h72
  refine av (ap (Jr (Zs (aa fY Sr rfl) (Zl dn Sr (Zs (ag underlying27 Sr) ?_)))))
  refine Zs (aJ Sr Sr) (Zm ?_)
  refine Zk (aa fY Sr rfl) ?_
  refine Zg (fun hw => ad dn (Sub.w hw)) (Zg (fun hw => ag underlying27 (Sub.w hw)) (Zg (fun hw => bj (Sub.w hw) Sr) (Zs (aD Sr Sr) (Zm ?_))))
  refine Zk (aa fY Sr rfl) ?_
  refine Zg (fun hw => ad dn (Sub.w hw)) (Zg (fun hw => ag underlying27 (Sub.w hw)) ?_)
  refine Zk (aa fY Sr rfl) ?_
  refine Zg (fun hw => ad dn (Sub.w hw)) (Zg (fun hw => ag underlying27 (Sub.w hw)) (Zg (fun hw => be (Sub.w hw) (Sub.w hw)) (Zs (aD Sr Sr) (Zm ?_))))
  refine Zk (aa fY Sr rfl) ?_
  refine Zg (fun hw => ad ty3 (Sub.w hw)) (Zg (fun hw => az (Sub.w hw) Sr) (Zs (aD Sr Sr) (Zm ?_)))
  refine Zk (aa fY Sr rfl) ?_
  refine Zg (fun hw => ad ty3 (Sub.w hw)) ?_
  refine Zk (aa fY Sr rfl) ?_
  refine Zg (fun hw => ad dn (Sub.w hw)) (Zg (fun hw => ag underlying27 (Sub.w hw)) (Zg (fun hw => bj (Sub.w hw) (Sub.w hw)) (Zs (aD Sr Sr) (ab ?_))))
  refine am Sr (fun h104 => ?_) (fun h104 => ?_)
  ·
   try simp only [NF] at h104
   refine Jr (Za (ab (aC ?_)))
   refine aI (t := 2) rfl () ?_
   refine Sub.bool ?_
   have : ¬ (1 <= (nth q.Atoms i).Cols.length /\ (nth q.Atoms i).Cols.length <= 12 /\ (nth q.Atoms i).Terms.length = (nth q.Atoms i).Cols.length /\ 1 <= (nth q.Atoms i).Key /\ (nth q.Atoms i).Key <= (nth q.Atoms i).Cols.length) := by omega
   have : okA q i = false := by simp only [okA, this]; simp
   simp only [bE, f9 hlt this]; simp
  try simp only [NF] at h104
  have hA : 1 <= (nth q.Atoms i).Cols.length /\ (nth q.Atoms i).Cols.length <= 12 /\ (nth q.Atoms i).Terms.length = (nth q.Atoms i).Cols.length /\ 1 <= (nth q.Atoms i).Key /\ (nth q.Atoms i).Key <= (nth q.Atoms i).Cols.length := by omega
  refine av (Jr (Zs (aa fY Sr rfl) (Zl dn Sr (Zs (ag underlying27 Sr) (Zm ?_)))))
  refine ab (au ?_)
  refine aK (σ := Nat) (fun k => k <= (nth q.Atoms i).Cols.length /\ ∀ j, j < k -> okK q (nth q.Atoms i) j = true) (fun k => upd (upd (upd (upd (upd (upd (upd (upd (upd (upd (upd co 1 (bx bK q)) 5 (tV (.int .i64 i))) 6 (bx cg (nth q.Atoms i))) 55 (tSl cg q.Atoms)) 56 (tV (.int .i64 q.Atoms.length))) 57 (tV (.int .i64 i))) 59 (tV (.int .i64 i))) 61 (cg.ty (nth q.Atoms i))) 106 (tSl aO (nth q.Atoms i).Cols)) 107 (tV (.int .i64 (nth q.Atoms i).Cols.length))) 108 (tV (.int .i64 k))) (fun k => []) (fun k => (nth q.Atoms i).Cols.length - k) 0 ⟨by omega, fun k hk => by omega⟩ (zU) (LSub.rfl) ?_
  rintro k ⟨hk, hw⟩
  refine Jr (Zs (az Sr Sr) (ab (ap ?_)))
  refine am Sr (fun h109 => ?_) (fun h109 => ?_)
  ·
   try simp only [NF] at h109
   have hkt : k < (nth q.Atoms i).Cols.length := by omega
   refine av (ap (au (Jr (Zm ?_))))
   refine Zs (ae  underlying27 ty3 Sr Sr rfl (gb (by exact hkt))) ?_
   refine Zl ty3 Sr (Za (Za (ab (ap ?_))))
   refine bQ [⟨0, [8], true⟩, ⟨1, [113], true⟩, ⟨2, [114], true⟩, ⟨3, [6, 115], true⟩, ⟨4, [115, 116], true⟩, ⟨5, [7, 115], true⟩, ⟨6, [115, 117, 118], true⟩, ⟨7, [8, 115], true⟩, ⟨8, [115, 119, 120], true⟩, ⟨9, [115, 121], true⟩, ⟨10, [122], true⟩, ⟨11, [6, 123], true⟩, ⟨12, [123, 124], true⟩, ⟨13, [7, 123], true⟩, ⟨14, [123, 125, 126], true⟩, ⟨15, [123, 127], true⟩, ⟨16, [1, 123], true⟩, ⟨17, [123, 129], true⟩, ⟨18, [123, 128, 130], true⟩, ⟨19, [123, 131], true⟩, ⟨20, [132], true⟩, ⟨21, [6, 133], true⟩, ⟨22, [133, 134], true⟩, ⟨23, [7, 133], true⟩, ⟨24, [133, 135, 136], true⟩, ⟨25, [133, 137], true⟩, ⟨26, [1, 133], true⟩, ⟨27, [133, 139], true⟩, ⟨28, [133, 140], true⟩, ⟨29, [133, 141], true⟩, ⟨30, [133, 138, 142], true⟩, ⟨31, [133, 143], true⟩] rfl (by kernel_rfl) ?_
   refine Zv rfl (Zf rfl (az Sr Sr) (Zv rfl ?_))
   refine Mk rfl rfl Sr rfl (aa fY Sr rfl) ?_
   refine Mg rfl rfl Sr rfl (fun hw => ad dn (Sub.w hw)) ?_
   refine Mk rfl rfl Sr rfl (ar Sr) ?_
   refine Mg rfl rfl Sr rfl (fun hw => dz (n := k) underlying27 ty3 (Sub.w hw) (Sub.w hw) (by have hwq := hw; (try simp only [beqB_t, beqB_f, NF] at hwq); omega) (by have hwq := hw; (try simp only [beqB_t, beqB_f, NF] at hwq); first | assumption | omega)) ?_
   refine Mk rfl rfl Sr rfl (ar Sr) ?_
   refine Mg rfl rfl Sr rfl (fun hw => aj (ey _ _ (by rw [List.length_take]; omega)) ⟨(Sub.w hw), (Sub.w hw), trivial⟩ call52) ?_
   refine Zf rfl (aD Sr Sr) (Zv rfl ?_)
   refine Mk rfl rfl Sr rfl (aa fY Sr rfl) ?_
   refine Mg rfl rfl Sr rfl (fun hw => ad dn (Sub.w hw)) ?_
   refine Mk rfl rfl Sr rfl (ar Sr) ?_
   refine Mg rfl rfl Sr rfl (fun hw => ae (i := k) underlying27 ty3 (Sub.w hw) (Sub.w hw) (by rfl) (gb (by have hwq := hw; (try simp only [beqB_t, beqB_f, NF] at hwq); show k < (nth q.Atoms i).Terms.length; omega))) ?_
   refine Mg rfl rfl Sr rfl (fun hw => ad ty3 (Sub.w hw)) ?_
   refine Mk rfl rfl Sr rfl (aa ft Sr rfl) ?_
   refine Mg rfl rfl Sr rfl (fun hw => ad ty3 (Sub.w hw)) (Mg rfl rfl Sr rfl (fun hw => bA (Sub.w hw) (Sub.w hw)) (Zf rfl (aD Sr Sr) (Zv rfl ?_)))
   refine Mk rfl rfl Sr rfl (aa fY Sr rfl) ?_
   refine Mg rfl rfl Sr rfl (fun hw => ad dn (Sub.w hw)) ?_
   refine Mk rfl rfl Sr rfl (ar Sr) ?_
   refine Mg rfl rfl Sr rfl (fun hw => ae (i := k) underlying27 ty3 (Sub.w hw) (Sub.w hw) (by rfl) (gb (by have hwq := hw; (try simp only [beqB_t, beqB_f, NF] at hwq); show k < (nth q.Atoms i).Terms.length; omega))) ?_
   refine Mg rfl rfl Sr rfl (fun hw => ad ty3 (Sub.w hw)) ?_
   refine Mk rfl rfl Sr rfl (aa ft Sr rfl) ?_
   refine Mg rfl rfl Sr rfl (fun hw => ad dt (Sub.w hw)) (Mg rfl rfl Sr rfl (fun hw => ag underlying45 (Sub.w hw)) ?_)
   refine Mg rfl rfl Sr rfl (fun hw => zB (Sub.w hw) (by have hwq := hw; (try simp only [beqB_t, beqB_f, NF] at hwq); show iu (-(q.Consts.length : Int)); unfold iu; omega)) ?_
   refine Mg rfl rfl Sr rfl (fun hw => az (Sub.w hw) (Sub.w hw)) (Zf rfl (aD Sr Sr) (bP ?_))
   refine am Sr (fun h144 => ?_) (fun h144 => ?_)
   ·
    try simp only [NF] at h144
    refine Jr (Za (ab (aC ?_)))
    refine aI (t := 2) rfl () ?_
    refine Sub.bool ?_
    have : okK q (nth q.Atoms i) k = false := by
     rcases h144 with ((h | h) | h) | h
     ·
      have : ¬ 0 <= nth (nth q.Atoms i).Cols k := by omega
      simp only [okK, this]; simp
     ·
      simp only [okK, h]; simp
     ·
      have : ¬ nth (nth q.Atoms i).Terms k < q.Vars := by omega
      simp only [okK, this]; simp
     have : ¬ -(q.Consts.length : Int) <= nth (nth q.Atoms i).Terms k := by omega
     simp only [okK, this]; simp
    have : okA q i = false := by simp only [okA, f9 hkt this]; simp
    simp only [bE, f9 hlt this]; simp
   try simp only [NF] at h144
   refine av (ah (Zs (ax Sr Sr z6) (Zm (ab ?_))))
   refine ay (σ := Nat) (s := k) (k + 1) zO ?_ (zU) (LSub.rfl)
   refine ⟨by omega, fun j hj => ?_⟩
   by_cases e : j = k
   ·
    subst e; simp_all [okK]
   exact hw j zG
  try simp only [NF] at h109
  have hks : (List.range (nth q.Atoms i).Cols.length).all (okK q (nth q.Atoms i)) = true := fE (fun j hj => hw j zG)
  refine aV (ah (Zs (ax Sr Sr z6) (Zm (ab ?_))))
  refine ay (σ := Nat) (s := i) (i + 1) zO ?_ (zU) (LSub.rfl)
  refine ⟨by omega, fun k hk => ?_⟩
  by_cases e : k = i
  ·
   subst e; simp only [okA, hA, hks]; simp_all
  exact hv k zG
 try simp only [NF] at h58
 have has : (List.range q.Atoms.length).all (okA q) = true := fE (fun k hk => hv k zG)
 refine aV (Jr (Za (ab (aC ?_))))
 refine aI (t := 2) rfl () ?_
 refine Sub.bool ?_
 simp only [bE, hcs, has, hb]; simp
theorem mc {α : Type} [Inhabited α] {l m : List α} (h : l.length = m.length) (hn : ∀ i, i < l.length -> nth l i = nth m i) : l = m := by
  refine List.ext_getElem h fun i h1 h2 => ?_
  have := hn i h1
  rwa [nth_get h1, nth_get h2] at this
def A5 (c : Int) : Bool := (decide (97 <= c) && decide (c <= 122)) || (decide (65 <= c) && decide (c <= 90))
def A6 (c : Int) : Bool := (decide (48 <= c) && decide (c <= 57)) || decide (c = 95)
def nmC (s : ByteArray) (i : Nat) : Bool := A5 (nth (aA s) i) || (decide (0 < i) && A6 (nth (aA s) i))
def md (s : ByteArray) : Bool := (List.range s.size).all (nmC s) && (!decide (s = ⟨#[]⟩) && decide ((s.size : Int) <= 24))
def zC (kind : Int) (v : GValue) : Bool := bh v && (decide (v.Kind = 0) || decide (v.Kind = kind))
def wZ (s : GSchema) (n : ByteArray) : Int := findI (fun t => decide (t.Name = n)) 0 s.Tables
def ku (t : GTable) (n : ByteArray) : Int :=
  if 0 <= findI (fun a => decide (a.Name = n)) 0 t.Attrs then findI (fun a => decide (a.Name = n)) 0 t.Attrs
  else findI (fun a => a.Was.any fun x => decide (n = x)) 0 t.Attrs
def namesL (l : List GAttr) : List ByteArray := l.flatMap fun a => a.Name :: a.Was
theorem uW (l : List GAttr) (a : GAttr) : namesL (l ++ [a]) = (namesL l ++ [a.Name]) ++ a.Was := by simp [namesL]
theorem qd {l : List GAttr} {M : Nat} (h : ∀ a ∈ l, a.Was.length <= M) : (namesL l).length <= l.length * (M + 1) := by
  induction l with
  | nil => simp [namesL]
  | cons a l ih =>
    have h1 := h a List.mem_cons_self
    have h2 := ih fun x hx => h x (List.mem_cons_of_mem _ hx)
    have e : namesL (a :: l) = (a.Name :: a.Was) ++ namesL l := by simp [namesL]
    rw [e, List.length_append, List.length_cons, List.length_cons, Nat.add_mul]
    omega
structure TabSz (t : GTable) : Prop where
  nm : t.Name.size <= 9223372036854775807
  at' : t.Attrs.length <= 1000000000
  key : t.Key.length <= 1000000000000
  was : ∀ a ∈ t.Attrs, a.Was.length <= 1000000
  nms : ∀ s ∈ namesL t.Attrs, s.size <= 9223372036854775807
structure SchSz (s : GSchema) : Prop where
  tabs : s.Tables.length <= 1000000000000
  tab : ∀ t ∈ s.Tables, TabSz t
theorem qe (s : ByteArray) (hs : s.size <= 9223372036854775807) : Fun1 prog 135 [tV (.string s)] (tV (.bool (md s))) := by
 refine Spec.enter func135 rfl rfl fun h0 w0 fr0 => ?_
 refine Jr (Za (ab (ap (Jr (Zm ?_)))))
 refine Zs (bF underlying9 Sr) (Zm (ab (au ?_)))
 refine aK (σ := Nat) (fun i => i <= s.size /\ ∀ k, k < i -> nmC s k = true) (fun i => upd (upd (upd co 0 (tV (.string s))) 6 (tV (.int .i64 s.size))) 7 (tV (.int .i64 i))) (fun i => []) (fun i => s.size - i) 0 ⟨by omega, fun k hk => by omega⟩ (zU) (LSub.rfl) ?_
 rintro i ⟨hi, hv⟩
 refine Jr (Zs (az Sr Sr) (ab (ap ?_)))
 refine am Sr (fun h8 => ?_) (fun h8 => ?_)
 ·
  try simp only [NF] at h8
  have hlt : i < s.size := by omega
  refine av (ap (au (Jr (Zm (Za ?_)))))
  refine ab (Jr (Zm (Zm ?_)))
  refine Zs (cR (i := i) underlying9 Sr Sr (by rfl) (by exact hlt)) ?_
  refine Za (ab (au (ap (Jr (Zm ?_)))))
  refine Zs (bA Sr Sr) (Zm ?_)
  refine Zk (ar Sr) ?_
  refine Zg (fun hw => bS (Sub.w hw) Sr) (Zs (aw Sr Sr) (Za (ab ?_)))
  refine am Sr (fun hc2 => ?_) (fun hc2 => ?_)
  ·
   try simp only [NF] at hc2
   refine av ?_
   refine am Sr (fun hc3 => ?_) (fun hc3 => ?_)
   ·
    try simp only [NF] at hc3
    refine av (ah (Zs (ax Sr Sr z6) (Zm (ab ?_))))
    refine ay (σ := Nat) (s := i) (i + 1) zO ?_ (zU) (LSub.rfl)
    refine ⟨by omega, fun k hk => ?_⟩
    by_cases e : k = i
    ·
     subst e; first | exact hnm | (simp_all [nmC, A5, A6]; done) | (simp_all [nmC, A5, A6]; omega)
    exact hv k zG
   try simp only [NF] at hc3
   first | contradiction | omega | (simp_all; done)
  try simp only [NF] at hc2
  refine ah (Zm (Zs (bA Sr Sr) (Zm ?_)))
  refine Zk (ar Sr) ?_
  refine Zg (fun hw => bS (Sub.w hw) Sr) (Zs (aw Sr Sr) (Za (ab ?_)))
  refine am Sr (fun hc4 => ?_) (fun hc4 => ?_)
  ·
   try simp only [NF] at hc4
   refine av (ah (Zs (ax Sr Sr z6) (Zm (ab ?_))))
   refine ay (σ := Nat) (s := i) (i + 1) zO ?_ (zU) (LSub.rfl)
   refine ⟨by omega, fun k hk => ?_⟩
   by_cases e : k = i
   ·
    subst e; first | exact hnm | (simp_all [nmC, A5, A6]; done) | (simp_all [nmC, A5, A6]; omega)
   exact hv k zG
  try simp only [NF] at hc4
  refine Jr (Zm (Zs (bj Sr Sr) (Zm ?_)))
  refine Zk (ar Sr) ?_
  refine Zg (fun hw => bA (Sub.w hw) Sr) (Zg (fun hw => ar (Sub.w hw)) ?_)
  refine Ji rfl Sr rfl (ar Sr) ?_
  refine Jh rfl Sr rfl (fun hw => bS (Sub.w hw) Sr) (Zg (fun hw => aw (Sub.w hw) (Gw hw)) (Zg (fun hw => ar (Sub.w hw)) ?_))
  refine Ji rfl Sr rfl (ar Sr) ?_
  refine Jh rfl Sr rfl (fun hw => aJ (Sub.w hw) Sr) (Zg (fun hw => aD (Sub.w hw) (Gw hw)) (Zs (aw Sr Sr) (Za (ab ?_))))
  refine am Sr (fun hc5 => ?_) (fun hc5 => ?_)
  ·
   try simp only [NF] at hc5
   refine av (ah (Zs (ax Sr Sr z6) (Zm (ab ?_))))
   refine ay (σ := Nat) (s := i) (i + 1) zO ?_ (zU) (LSub.rfl)
   refine ⟨by omega, fun k hk => ?_⟩
   by_cases e : k = i
   ·
    subst e; first | exact hnm | (simp_all [nmC, A5, A6]; done) | (simp_all [nmC, A5, A6]; omega)
   exact hv k zG
  try simp only [NF] at hc5
  refine Jr (Za (ab (aC ?_)))
  refine aI (t := 2) rfl () ?_
  refine Sub.bool ?_
  have : nmC s i = false := by simp_all [nmC, A5, A6]; omega
  simp only [md, f9 hlt this]; simp
 try simp only [NF] at h8
 have hall : (List.range s.size).all (nmC s) = true := fE (fun k hk => hv k zG)
 refine aV (Jr (Zm (Zs (kY Sr Sr) (Zm ?_))))
 refine Zk (ar Sr) ?_
 refine Zg (fun hw => bF underlying9 (Sub.w hw)) (Zg (fun hw => bS (Sub.w hw) Sr) (Zs (aw Sr Sr) (Za (ab (aC ?_)))))
 refine aI (t := 2) rfl () ?_
 refine Sub.bool ?_
 simp only [md, hall]; simp
theorem tG (kind : Int) (v : GValue) : Fun1 prog 61 [tV (.int .i64 kind), rValue.ty v] (tV (.bool (zC kind v))) := by
 refine Spec.enter func61 rfl rfl fun h0 w0 fr0 => ?_
 refine Jr (Zs (aF (R := rValue) Sr) (Za (ab (Jr (Zl bZ Sr ?_)))))
 refine Zs (aj (eU _) ⟨Sr, trivial⟩ call48) (Zm ?_)
 refine Zk (aa fp Sr rfl) ?_
 refine Zg (fun hw => ad ty3 (Sub.w hw)) (Zg (fun hw => aJ (Sub.w hw) Sr) (Zg (fun hw => ar (Sub.w hw)) ?_))
 refine Ji rfl Sr rfl (aa fp Sr rfl) ?_
 refine Jh rfl Sr rfl (fun hw => ad ty3 (Sub.w hw)) ?_
 refine Ji rfl Sr rfl (ar Sr) ?_
 refine Jh rfl Sr rfl (fun hw => aJ (Sub.w hw) (Sub.w hw)) (Zg (fun hw => aD (Sub.w hw) (Gw hw)) (Zs (aw Sr Sr) (Za (ab (aC ?_)))))
 exact aI (t := 4) rfl () Sr
theorem uX (t : GTable) (n : ByteArray) : Fun1 prog 141 [cS.ty t, bx d5 n] (tV (.bool (decide (t.Name = n)))) := by
 refine Spec.enter func141 rfl rfl fun h0 w0 fr0 => ?_
 refine Jr (Zs (aF (R := cS) Sr) (Za (ab (Jr (Zs (aa jC Sr rfl) ?_)))))
 refine Zl ty9 Sr (Zl ty9 Sr (Zs (dP Sr Sr) (Za (ab (aC ?_)))))
 exact aI (t := 3) rfl () Sr
theorem w4 (s : GSchema) (n : ByteArray) (hl : s.Tables.length <= 1000000000000) : Fun1 prog 101 [bB.ty s, tV (.string n)] (tV (.int .i64 (wZ s n))) := by
 refine Spec.enter func101 rfl rfl fun h0 w0 fr0 => ?_
 refine Jr (Zs (aF (R := bB) Sr) (Zs (aF (R := d5) Sr) (Za (ab (Jr ?_)))))
 refine Zs (aa qb Sr rfl) (Zl qa Sr (Zs (bl (As := [_]) ⟨Sr, trivial⟩) (Zs (aj (kr s.Tables hl 141 [bx d5 n] (fun t => decide (t.Name = n)) (fun x _ => uX x n) call141) ⟨Sr, Sr, trivial⟩ call140) (Za (ab ?_)))))
 refine aC ?_
 exact aI (t := 4) rfl () Sr
theorem uY (t : GAttr) (n : ByteArray) : Fun1 prog 157 [bu.ty t, bx d5 n] (tV (.bool (decide (t.Name = n)))) := by
 refine Spec.enter func157 rfl rfl fun h0 w0 fr0 => ?_
 refine Jr (Zs (aF (R := bu) Sr) (Za (ab (Jr (Zs (aa gV Sr rfl) ?_)))))
 refine Zl ty9 Sr (Zl ty9 Sr (Zs (dP Sr Sr) (Za (ab (aC ?_)))))
 exact aI (t := 3) rfl () Sr
theorem uZ (t : GAttr) (n : ByteArray) (hl : t.Was.length <= 1000000000000) : Fun1 prog 158 [bu.ty t, bx d5 n] (tV (.bool (t.Was.any fun x => decide (n = x)))) := by
 refine Spec.enter func158 rfl rfl fun h0 w0 fr0 => ?_
 refine Jr (Zs (aF (R := bu) Sr) (Za (ab (Jr (Zs (aa gV Sr rfl) ?_)))))
 refine Zl wU Sr (Zl ty9 Sr (Zs (aj (nz _ _ hl) ⟨Sr, Sr, trivial⟩ call159) (Za (ab (aC ?_)))))
 exact aI (t := 3) rfl () Sr
theorem sh (t : GTable) (n : ByteArray) (hl : t.Attrs.length <= 1000000000000) (hw : ∀ a ∈ t.Attrs, a.Was.length <= 1000000000000) : Fun1 prog 114 [cS.ty t, tV (.string n)] (tV (.int .i64 (ku t n))) := by
 refine Spec.enter func114 rfl rfl fun h0 w0 fr0 => ?_
 refine Jr (Zs (aF (R := cS) Sr) (Zs (aF (R := d5) Sr) (Za (ab (ap ?_)))))
 refine Jr (Zs (aa jC Sr rfl) (Zl eP Sr (Zs (bl (As := [_]) ⟨Sr, trivial⟩) (Zs (aj (dh t.Attrs hl 157 [bx d5 n] (fun a => decide (a.Name = n)) (fun x _ => uY x n) call157) ⟨Sr, Sr, trivial⟩ call93) (Za ?_)))))
 refine ab (Jr (Zm (Zs (bA Sr Sr) (ab ?_))))
 refine am Sr (fun h11 => ?_) (fun h11 => ?_)
 ·
  try simp only [NF] at h11
  refine Jr (Zm (Za (ab (aC ?_))))
  refine aI (t := 4) rfl () (Sub.int ?_)
  rw [ku, if_pos h11]
 try simp only [NF] at h11
 refine av (Jr (Zs (aa jC Sr rfl) (Zl eP Sr (Zs (bl (As := [_]) ⟨Sr, trivial⟩) (Zs (aj (dh t.Attrs hl 158 [bx d5 n] (fun a => a.Was.any fun x => decide (n = x)) (fun x hx => uZ x n (hw x hx)) call158) ⟨Sr, Sr, trivial⟩ call93) ?_)))))
 refine Za (ab (aC ?_))
 refine aI (t := 4) rfl () (Sub.int ?_)
 rw [ku, if_neg zG]
theorem u0 (t : GAttr) (n : ByteArray) : Fun1 prog 142 [bu.ty t, bx d5 n] (tV (.bool (decide (t.Name = n)))) := by
 refine Spec.enter func142 rfl rfl fun h0 w0 fr0 => ?_
 refine Jr (Zs (aF (R := bu) Sr) (Za (ab (Jr (Zs (aa gV Sr rfl) ?_)))))
 refine Zl ty9 Sr (Zl ty9 Sr (Zs (dP Sr Sr) (Za (ab (aC ?_)))))
 exact aI (t := 3) rfl () Sr
def aM (l : List GAttr) (n : ByteArray) : Int := findI (fun a => decide (a.Name = n)) 0 l
theorem g8 (l : List GAttr) (n : ByteArray) (hl : l.length <= 1000000000000) : Fun1 prog 102 [tSl bu l, tV (.string n)] (tV (.int .i64 (aM l n))) := by
 refine Spec.enter func102 rfl rfl fun h0 w0 fr0 => ?_
 refine Jr (Zs (aF (R := d5) Sr) (Za (ab (Jr (Zm ?_)))))
 refine Zs (bl (As := [_]) ⟨Sr, trivial⟩) (Zs (aj (dh l hl 142 [bx d5 n] (fun a => decide (a.Name = n)) (fun x _ => u0 x n) call142) ⟨Sr, Sr, trivial⟩ call93) (Za (ab (aC ?_))))
 exact aI (t := 4) rfl () Sr
theorem u4 (s : ByteArray) (hs : s.size <= 9223372036854775807) : Fun1 prog 137 [tV (.string s)] (tV (.bool (!md s))) := by
 refine Spec.enter func137 rfl rfl fun h0 w0 fr0 => ?_
 refine Jr (Za (ab (Jr (Zm (Zs (aj (qe _ hs) ⟨Sr, trivial⟩ call135) ?_)))))
 refine Zs (bc Sr) (Za (ab (aC ?_)))
 exact aI (t := 2) rfl () Sr
def qf (v : Value) (k i o : Nat) : Value := match v with
 | .slice (some a) _ _ => .pointer (some ⟨a.block, a.off + i * k + o, none⟩)
 | _ => undef
theorem w5 {β : Type} (l c cz : List β) (a K o k : Nat) (hc : c.length = K) (ho : o + k <= K) (hl : a + K <= l.length) (hg : ∀ j, j < K -> l[a + j]? = c[j]?) :
  l.take a ++ (c.take o ++ cz ++ c.drop (o + k)) ++ l.drop (a + K) = l.take (a + o) ++ cz ++ l.drop (a + o + k) := by
 have e : l = l.take a ++ (c ++ l.drop (a + K)) := by
  have e1 : (l.drop a).take K = c := by
   apply List.ext_getElem?
   intro j
   rw [List.getElem?_take]
   by_cases hj : j < K
   · rw [if_pos hj, List.getElem?_drop, hg j hj]
   · rw [if_neg hj, List.getElem?_eq_none (by omega)]
  have e2 : l.drop a = c ++ l.drop (a + K) := by
   rw [<- e1, <- List.drop_drop, List.take_append_drop]
  rw [<- e2, List.take_append_drop]
 have hA : (l.take a).length = a := by simp; omega
 have h1 : l.take (a + o) = l.take a ++ c.take o := by
  conv => lhs; rw [e]
  rw [List.take_append, hA, List.take_of_length_le (by omega)]
  congr 1
  rw [List.take_append, hc, show a + o - a = o by omega, show o - K = 0 by omega]; simp
 have h2 : l.drop (a + o + k) = c.drop (o + k) ++ l.drop (a + K) := by
  conv => lhs; rw [e]
  rw [List.drop_append, hA, List.drop_of_length_le (by omega), List.nil_append]
  rw [List.drop_append, hc, show a + o + k - a = o + k by omega, show o + k - K = 0 by omega]; simp
 rw [h1, h2]; simp [List.append_assoc]
section
variable {C : Cx} {E : Env} {L : List SP} {d : Option Nat} {ty : Nat} {pos : String} {af : Array Edge} {g : Option (Nat × Bool)}
theorem bv {α : Type} {T e n i : Nat} {fs : List (SF α)} {x : Operand} {v : Value} {xs : List α} {f : SF α} {S : List SP} (So : StructOf C.P T fs) (hx : Sub (opTy E x) (tV (dM v (SF.width fs) i))) (hf : fs[n]? = some f)
  (sel : Sel L [own e (aU fs) v xs] S) (hi : i < xs.length) : a8 C ⟨d, .fieldAddr T x n, ty, pos, af, g⟩ E L (tV (qf v (SF.width fs) i (SF.off fs n))) :=
 FQ (by intro c h; cases h) fun a w h m l sp st fr => by
  have hp : a.eval x = dM v (SF.width fs) i := fr.get hx
  obtain ⟨m1, m2, d12, rfl, ho, s2⟩ := sel.one.1 st
  rcases ho with ⟨rfl, rfl, _⟩ | ⟨b, cap, cur, rfl, rfl, hl, hm, hs, r⟩
  · simp at hi
  · refine ⟨(), _, w, h, _, ?_, HL.refl, sp, st, rfl⟩
    simp only [dM, Nat.zero_add] at hp
    have := So.fieldAt hf b (i * SF.width fs) w
    simp [execOp, hp, this, qf]
theorem bW {α β : Type} {T e i n : Nat} {fs : List (SF α)} {R : Rp β} {z : β} {x u : Operand} {v : Value} {xs : List α} {y y' : α} {S : List SP} (hR : TyOf C.P T R) (hx : Sub (opTy E x) (tV (qf v (SF.width fs) i (SF.off fs n)))) (hv : Sub (opTy E u) (R.ty z))
  (sel : Sel L [own e (aU fs) v xs] S) (hy : xs[i]? = some y) (hu : SF.upd y y' R z fs n) :
  Step C ⟨d, .store T x u, ty, pos, af, g⟩ E L (fun _ : Unit => tAny) (fun _ => own e (aU fs) v (xs.set i y') :: S) :=
 Ga (by intro c h; cases h) fun a w h m l sp st fr => by
  have hp : a.eval x = qf v (SF.width fs) i (SF.off fs n) := fr.get hx
  have rz := R.cells (fr.get hv)
  have hi : i < xs.length := (List.getElem?_eq_some_iff.1 hy).1
  obtain ⟨m1, m2, d12, rfl, ho, s2⟩ := sel.one.1 st
  rcases ho with ⟨rfl, rfl, _⟩ | ⟨b, cap, cur, rfl, rfl, hl, hm, hs, r⟩
  · simp at hi
  · have hb := sp.heap_own
    have hK : (aU fs).k = SF.width fs := rfl
    rw [hK] at r hs
    obtain ⟨c, rc, hc⟩ := ec r hy
    rw [hK] at hc
    have rc : SF.rel h y fs c := rc
    have hcl := Gu rc
    obtain ⟨rn, hle0⟩ := Gv rz hu rc
    rw [hcl] at hle0
    have hle : i * SF.width fs + SF.width fs <= xs.length * SF.width fs := by rw [<- Nat.succ_mul]; exact Nat.mul_le_mul_right _ hi
    have hle2 : xs.length * SF.width fs <= cap * SF.width fs := Nat.mul_le_mul_right _ hl
    have hrz := R.len rz
    obtain ⟨w', hrun, hoth, hsame, hnew⟩ := cr (P := C.P) (b := b) (o := i * SF.width fs + SF.off fs n) (v := a.eval u) hR.size (by simpa using hrz) hb (by rw [hs]; omega) (R.one rz)
    have rn2 := iw (R := aU fs) rn hi r
    rw [hK] at rn2
    refine ⟨(), w', h, (PH.one b _).join m2, ?_, HL.same hsame, F4 d12 sp (fun b' hne _ => hoth b' hne) hnew, ?_⟩
    · simp only [qf, Nat.zero_add] at hp
      simp [execOp, Instr.storeAt, Instr.sureAddr, hp, hrun]
    · refine ⟨_, m2, PH.one_disj_iff.2 (PH.one_disj_iff.1 d12), rfl, .inr ⟨b, cap, _, by simp, rfl, by simpa using hl, hm, ?_, ?_⟩, s2⟩
      · simp only [Array.length_toList] at hrz
        simp only [List.size_toArray, List.length_append, List.length_take, List.length_drop, Array.length_toList, hs, hrz, hK]
        omega
      · have e0 := w5 cur.toList c (a.eval u).cells.toList (i * SF.width fs) (SF.width fs) (SF.off fs n) R.k hcl hle0 (by simp [hs]; omega) (fun j hj => by
          have h1 := hc j (c[j]'(by omega)) (List.getElem?_eq_getElem (by omega))
          rw [List.getElem?_take] at h1
          split at h1
          · rw [h1, List.getElem?_eq_getElem (by omega)]
          · cases h1)
        have e1 := eH cur.toList (c.take (SF.off fs n) ++ (a.eval u).cells.toList ++ c.drop (SF.off fs n + R.k)) (i * SF.width fs) (SF.width fs) (xs.length * SF.width fs) hle (by simpa [hs] using hle2) (by simp only [List.length_append, List.length_take, List.length_drop, hrz, hcl]; omega)
        rw [List.length_set]
        show relAll (aU fs) h _ (List.take (xs.length * SF.width fs) (List.take (i * SF.width fs + SF.off fs n) cur.toList ++ (a.eval u).cells.toList ++ List.drop (i * SF.width fs + SF.off fs n + R.k) cur.toList).toArray.toList)
        rw [List.toList_toArray, <- e0, e1]
        exact rn2
end
section
variable {C : Cx} {E : Env} {L : List SP} {d : Option Nat} {ty : Nat} {pos : String} {af : Array Edge} {g : Option (Nat × Bool)}
theorem ek {α : Type} {T e i n : Nat} {fs : List (SF α)} {f : SF α} {x : Operand} {v : Value} {xs : List α} {y : α} {S : List SP} (hR : TyOf C.P T f.R) (hx : Sub (opTy E x) (tV (qf v (SF.width fs) i (SF.off fs n)))) (hf : fs[n]? = some f)
  (sel : Sel L [own e (aU fs) v xs] S) (hy : xs[i]? = some y) : a8 C ⟨d, .load T x, ty, pos, af, g⟩ E L (f.R.ty (f.get y)) :=
 FQ (by intro c h; cases h) fun a w h m l sp st fr => by
  have hp : a.eval x = qf v (SF.width fs) i (SF.off fs n) := fr.get hx
  obtain ⟨m1, m2, d12, rfl, ho, s2⟩ := sel.one.1 st
  rcases ho with ⟨rfl, rfl, _⟩ | ⟨b, cap, cur, rfl, rfl, hl, hm, hs, r⟩
  · simp at hy
  · have hb := sp.heap_own
    have hK : (aU fs).k = SF.width fs := rfl
    obtain ⟨c0, rc0, hc0⟩ := ec r hy
    rw [hK] at hc0
    have rc0 : SF.rel h y fs c0 := rc0
    obtain ⟨c, rc, hc⟩ := Gj rc0 hf
    have := bG (b := b) (o := i * SF.width fs + SF.off fs n) (w := w) hR.agg hR.size (f.R.len rc) f.R.scalar (fun j u hu => by
     rw [c8 (h := h) hb]
     have h1 := hc0 _ _ (hc j u hu)
     rw [List.getElem?_take] at h1
     split at h1
     · rw [show i * SF.width fs + SF.off fs n + j = i * SF.width fs + (SF.off fs n + j) by omega]; simpa using h1
     · cases h1)
    refine ⟨(), packV f.R.agg c, w, h, _, ?_, HL.refl, sp, st, f.R.pack rc⟩
    simp only [qf, Nat.zero_add] at hp
    simp [execOp, Instr.loadAt, Instr.sureAddr, hp, this]
end
def Ek {α : Type} (A : α -> Ty) (ho : ∀ x h v, (A x).p h v -> v.oneCell' = true) : Rp α where
 k := 1
 agg := false
 rel := fun h x cs => ∃ u, cs = [u] /\ (A x).p h u
 ty := fun x => A x
 len := by rintro _ _ _ ⟨u, rfl, _⟩; rfl
 one := by rintro _ x _ ⟨u, rfl, h⟩ c hc; simp at hc; subst hc; exact ho x _ _ h
 mono := fun {h h' x cs} l ⟨u, e, a⟩ => ⟨u, e, (A x).mono l a⟩
 scalar := fun _ => rfl
 iff := by
  intro h x v
  constructor
  · intro h1; exact ⟨[v], ⟨v, rfl, h1⟩, rfl⟩
  · rintro ⟨cs, ⟨u, rfl, h1⟩, rfl⟩; exact h1
theorem oX {P : Program} {t : TypeId} {ps rs : Array TypeId} {va : Bool} (hu : P.underlying t = some (.func ps rs va)) (w : World) :
  (Go.binOp .eql t .nilFunc .nilFunc).run P w = .ok (.bool true) w := by
 have k : ∀ d, (Op.equalIn (d + 1) t .nilFunc .nilFunc).run P w = .ok true w := fun d => by simp [Op.equalIn, run_underlying hu]
 have h : (Op.equal t .nilFunc .nilFunc).run P w = .ok true w := k 9999
 simp only [Go.binOp]; simp [h]
theorem oY {P : Program} {t : TypeId} {ps rs : Array TypeId} {va : Bool} (hu : P.underlying t = some (.func ps rs va)) (f : Fn) (a c : Array Value) (w : World) :
  (Go.binOp .eql t (.func f a c) .nilFunc).run P w = .ok (.bool false) w := by
 have k : ∀ d, (Op.equalIn (d + 1) t (.func f a c) .nilFunc).run P w = .ok false w := fun d => by simp [Op.equalIn, run_underlying hu]
 have h : (Op.equal t (.func f a c) .nilFunc).run P w = .ok false w := k 9999
 simp only [Go.binOp]; simp [h]
section
variable {C : Cx} {E : Env} {L : List SP} {d : Option Nat} {ty : Nat} {pos : String} {af : Array Edge} {g : Option (Nat × Bool)}
theorem oZ {T U : Nat} {ps rs : Array TypeId} {va : Bool} {x : Operand} {A : Ty} {b : Bool} (hu : C.P.underlying T = some (.func ps rs va)) (hx : Sub (opTy E x) A)
  (hA : ∀ h v, A.p h v -> (v = .nilFunc /\ b = true) \/ ((∃ f a c, v = .func f a c) /\ b = false)) :
  a8 C ⟨d, .binOp .eql T x (.const .nilFunc) U, ty, pos, af, g⟩ E L (tV (.bool b)) :=
 FP (by intro c h; cases h) fun a w h hw fr => by
  have h1 := hA _ _ (fr.get hx)
  have h2 : a.eval (.const .nilFunc) = .nilFunc := rfl
  rcases h1 with ⟨e, rfl⟩ | ⟨⟨f, c, q, e⟩, rfl⟩
  · refine ⟨.bool true, ?_, rfl⟩
    have he : (eqGuard .eql T x (.const .nilFunc) .nilFunc .nilFunc).run C.P w = .ok () w := by simp [eqGuard]
    simp [execOp, h2, e, Sem.run_bind, he, oX hu]
  · refine ⟨.bool false, ?_, rfl⟩
    have he : (eqGuard .eql T x (.const .nilFunc) (.func f c q) .nilFunc).run C.P w = .ok () w := by simp [eqGuard]
    simp [execOp, h2, e, Sem.run_bind, he, oY hu]
theorem ct {α : Type} {e i : Nat} {R : Rp α} {x : Operand} {v : Value} {xs : List α} {S : List SP} (hx : Sub (opTy E x) (tV (dM v R.k i))) (sel : Sel L [own e R v xs] S) (hi : i < xs.length) :
  a8 C ⟨d, .nilCheck x, ty, pos, af, g⟩ E L (tV (dM v R.k i)) :=
 FQ (by intro c h; cases h) fun a w h m l sp st fr => by
  have hp : a.eval x = dM v R.k i := fr.get hx
  obtain ⟨m1, m2, d12, rfl, ho, s2⟩ := sel.one.1 st
  rcases ho with ⟨rfl, rfl, _⟩ | ⟨b, cap, cur, rfl, rfl, hl, hm, hs, r⟩
  · simp at hi
  · refine ⟨(), _, w, h, _, ?_, HL.refl, sp, st, rfl⟩
    simp only [dM] at hp
    simp [execOp, hp, dM]
end
theorem fF {C : Cx} {k : Act -> World -> Prop} {E : Env} {L : List SP} {φ : Prop} (t : Nat) (hf : ∀ h v, (E t).p h v -> φ) (hk : φ -> K C k E L) : K C k E L := fun a w p => by
 obtain ⟨h1, h2, h, m, l, sp, st, f⟩ := id p
 exact hk (hf _ _ (f t)) a w p
theorem o0 {α : Type} {e : Nat} {R : Rp α} {v : Value} {xs : List α} {C : Cx} {k : Act -> World -> Prop} {E : Env} {L S : List SP} (sel : Sel L [own e R v xs] S) (hk : (∃ p cap, v = .slice p xs.length cap) -> K C k E L) : K C k E L := fun a w p => by
 obtain ⟨h1, h2, h, m, l, sp, st, f⟩ := id p
 obtain ⟨m1, m2, d12, rfl, ho, s2⟩ := sel.one.1 st
 refine hk ?_ a w p
 rcases ho with ⟨rfl, rfl, rfl⟩ | ⟨g, cap, cur, rfl, rfl, hl, hm, hs, hr⟩
 · exact ⟨none, 0, rfl⟩
 · exact ⟨_, cap, rfl⟩
section
variable {C : Cx} {E : Env} {L : List SP} {d : Option Nat} {ty : Nat} {pos : String} {af : Array Edge} {g : Option (Nat × Bool)}
theorem me {T e n cap : Nat} {p : Option Addr} {x : Operand} (hu : C.P.underlying T = some (.slice e)) (hx : Sub (opTy E x) (rV.ty (.slice p n cap))) :
  a8 C ⟨d, .call { callee := .builtin .len, args := #[x], argTypes := #[T] }, ty, pos, af, g⟩ E L (tV (.int .i64 n)) :=
 FP (by intro c h; cases h) fun a w h hw f => by
  have hv : a.eval x = .slice p n cap := (f.get hx).1
  exact ⟨.int .i64 n, by simp [execOp, resolve, invoke, builtin, Builtin.len_, hv, run_underlying hu, goInt], rfl⟩
end
end Lg
