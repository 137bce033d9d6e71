/- A part of the proof of the law PlannerMatchesReference: contracts of functions that the law reaches, and facts about what they compute. -/
import Derived.Test.YtgaclpkapapjdaaGreatDoorG
import Derived.Test.YtgaclpkapapjdaaGreatDoorCards
import Derived.Test.YtgaclpkapapjdaaGreatDoorTie
import Derived.Lib.LaidTab
import Derived.Stop.LaidErr
import Derived.ProofKit
import Derived.OpenShut
import Derived.Deep.DeepHandedRow
import Derived.Lay
set_option linter.unusedVariables false
set_option linter.unusedSimpArgs false
set_option linter.unusedSectionVars false
set_option maxHeartbeats 16000000
namespace Lg
open Go Go.Proofs Go.Proofs.Tryz
def kf : List LV -> List LV -> List LV
 | [], b => b
 | x :: a, [] => x :: a
 | x :: a, y :: b => if cmpR x y < 0 then x :: kf a (y :: b) else if cmpR y x < 0 then y :: kf (x :: a) b else x :: kf a b
termination_by a b => a.length + b.length
abbrev kL (l : List LV) : Prop := l.Pairwise fun a b => cmpR a b < 0
theorem wY (a : List LV) : kf a [] = a := by cases a <;> simp [kf]
theorem qO : ∀ (n : Nat) (a b : List LV), a.length + b.length <= n -> (∀ x, x ∈ kf a b ↔ x ∈ a \/ x ∈ b) /\ (kf a b).length <= a.length + b.length /\ (kL a -> kL b -> kL (kf a b))
 | _, [], b, _ => by rw [kf]; exact ⟨fun x => by simp, by simp, fun _ h => h⟩
 | _, x :: a, [], _ => by rw [kf]; exact ⟨fun y => by simp, by simp, fun h _ => h⟩
 | 0, x :: a, y :: b, h => by simp at h
 | n + 1, x :: a, y :: b, h => by
   simp only [List.length_cons] at h
   rw [kf]
   have trl : ∀ {u v : LV} {l : List LV}, cmpR u v < 0 -> kL (v :: l) -> ∀ z ∈ v :: l, cmpR u z < 0 := fun {u v l} huv hs z hz => by
    rcases List.mem_cons.1 hz with rfl | hz
    · exact huv
    · exact sP.tr huv ((List.pairwise_cons.1 hs).1 z hz)
   by_cases h1 : cmpR x y < 0
   · rw [if_pos h1]
     obtain ⟨i1, i2, i3⟩ := qO n a (y :: b) (by simp; omega)
     refine ⟨fun z => by rw [List.mem_cons, i1]; simp only [List.mem_cons]; exact or_assoc.symm, by simp only [List.length_cons] at i2 ⊢; omega, fun ha hb => ?_⟩
     refine List.pairwise_cons.2 ⟨fun z hz => ?_, i3 (List.pairwise_cons.1 ha).2 hb⟩
     rcases (i1 z).1 hz with hz | hz
     · exact (List.pairwise_cons.1 ha).1 z hz
     · exact trl h1 hb z hz
   · rw [if_neg h1]
     by_cases h2 : cmpR y x < 0
     · rw [if_pos h2]
       obtain ⟨i1, i2, i3⟩ := qO n (x :: a) b (by simp; omega)
       refine ⟨fun z => by rw [List.mem_cons, i1]; simp only [List.mem_cons]; exact ⟨fun q => q.elim (fun h => .inr (.inl h)) (fun h => h.elim .inl (fun h => .inr (.inr h))), fun q => q.elim (fun h => .inr (.inl h)) (fun h => h.elim .inl (fun h => .inr (.inr h)))⟩, by simp only [List.length_cons] at i2 ⊢; omega, fun ha hb => ?_⟩
       refine List.pairwise_cons.2 ⟨fun z hz => ?_, i3 ha (List.pairwise_cons.1 hb).2⟩
       rcases (i1 z).1 hz with hz | hz
       · exact trl h2 ha z hz
       · exact (List.pairwise_cons.1 hb).1 z hz
     · rw [if_neg h2]
       have e : x = y := by
        have h3 := sP.anti (a := y) (b := x)
        exact sP.eq.1 (by omega)
       subst e
       obtain ⟨i1, i2, i3⟩ := qO n a b (by omega)
       refine ⟨fun z => by rw [List.mem_cons, i1]; simp only [List.mem_cons]; exact ⟨fun q => q.elim (fun h => .inl (.inl h)) (fun h => h.elim (fun h => .inl (.inr h)) (fun h => .inr (.inr h))), fun q => q.elim (fun h => h.elim .inl (fun h => .inr (.inl h))) (fun h => h.elim .inl (fun h => .inr (.inr h)))⟩, by simp only [List.length_cons]; omega, fun ha hb => ?_⟩
       refine List.pairwise_cons.2 ⟨fun z hz => ?_, i3 (List.pairwise_cons.1 ha).2 (List.pairwise_cons.1 hb).2⟩
       rcases (i1 z).1 hz with hz | hz
       · exact (List.pairwise_cons.1 ha).1 z hz
       · exact (List.pairwise_cons.1 hb).1 z hz
theorem Co {a b : List LV} {i k : Nat} (hi : i < a.length) (hk : k <= b.length) (h : k = b.length \/ cmpR (nth a i) (nth b k) < 0) : kf (a.drop i) (b.drop k) = nth a i :: kf (a.drop (i + 1)) (b.drop k) := by
 rw [List.drop_eq_getElem_cons hi, <- nth_get hi]
 by_cases hb : k < b.length
 · have h := h.resolve_left (by omega)
   rw [List.drop_eq_getElem_cons hb, <- nth_get hb, kf, if_pos h]
 · rw [show b.drop k = [] from List.drop_eq_nil_of_le (by omega), wY, wY]
theorem Cp {a b : List LV} {i k : Nat} (hi : i <= a.length) (hk : k < b.length) (hn : ¬ (i < a.length /\ cmpR (nth a i) (nth b k) < 0)) (h : i = a.length \/ cmpR (nth b k) (nth a i) < 0) : kf (a.drop i) (b.drop k) = nth b k :: kf (a.drop i) (b.drop (k + 1)) := by
 by_cases ha : i < a.length
 · have h := h.resolve_left (by omega)
   rw [List.drop_eq_getElem_cons hk, <- nth_get hk, List.drop_eq_getElem_cons ha, <- nth_get ha, kf, if_neg (fun q => hn ⟨ha, q⟩), if_pos h]
 · rw [show a.drop i = [] from List.drop_eq_nil_of_le (by omega), List.drop_eq_getElem_cons hk, <- nth_get hk, kf, kf]
theorem Cq {a b : List LV} {i k : Nat} (hi : i < a.length) (hk : k < b.length) (hn : ¬ cmpR (nth a i) (nth b k) < 0) (h : ¬ cmpR (nth b k) (nth a i) < 0) : kf (a.drop i) (b.drop k) = nth a i :: kf (a.drop (i + 1)) (b.drop (k + 1)) := by
 rw [List.drop_eq_getElem_cons hk, <- nth_get hk, List.drop_eq_getElem_cons hi, <- nth_get hi, kf, if_neg hn, if_neg h]
def eG : Nat -> List LV -> List LV
 | 0, l => l
 | n + 1, l => if l.length < 2 then l else kf (eG n (l.take (l.length / 2))) (eG n (l.drop (l.length / 2)))
theorem f9 : ∀ (n : Nat) (l : List LV), l.length <= n -> (∀ x, x ∈ eG n l ↔ x ∈ l) /\ (eG n l).length <= l.length /\ kL (eG n l)
 | 0, l, h => by
   obtain rfl : l = [] := List.length_eq_zero_iff.1 (by omega)
   exact ⟨fun x => Iff.rfl, Nat.le_refl _, List.Pairwise.nil⟩
 | n + 1, l, h => by
   rw [eG]
   by_cases h2 : l.length < 2
   · rw [if_pos h2]
     refine ⟨fun x => Iff.rfl, Nat.le_refl _, ?_⟩
     match l, h2 with
     | [], _ => exact List.Pairwise.nil
     | [a], _ => exact List.pairwise_singleton _ _
     | _ :: _ :: _, h2 => simp only [List.length_cons] at h2; omega
   · rw [if_neg h2]
     obtain ⟨a1, a2, a3⟩ := f9 n (l.take (l.length / 2)) (by rw [List.length_take]; omega)
     obtain ⟨b1, b2, b3⟩ := f9 n (l.drop (l.length / 2)) (by rw [List.length_drop]; omega)
     obtain ⟨m1, m2, m3⟩ := qO _ (eG n (l.take (l.length / 2))) (eG n (l.drop (l.length / 2))) (Nat.le_refl _)
     rw [List.length_take] at a2
     rw [List.length_drop] at b2
     refine ⟨fun x => ?_, by omega, m3 a3 b3⟩
     rw [m1, a1, b1, <- List.mem_append, List.take_append_drop]
theorem lj {l : List LV} (h : kL l) : l.Nodup := List.nodup_iff_pairwise_ne.2 (h.imp fun {a b} q e => by
 subst e
 have := sP.eq.2 (rfl : a = a)
 omega)
theorem wZ {n : Nat} {l : List LV} (h : l.length <= n) : (eG n l).length = (setR l).length :=
 sW (ue l) (lj (f9 n l h).2.2) fun x => by rw [(f9 n l h).1, oT]
def go (rows : List LV) (c : Nat) : List LV := (rows.filter fun r => decide ((nth r c).Kind ≠ 0)).map fun r => [nth r c]
theorem o8 (rows : List LV) (c : Nat) : (go rows c).length <= rows.length := by unfold go; rw [List.length_map]; exact List.length_filter_le _ _
theorem yu {rows : List LV} {c : Nat} {r : LV} (h : r ∈ go rows c) : r.length = 1 := by
 unfold go at h
 obtain ⟨q, _, rfl⟩ := List.mem_map.1 h; rfl
theorem yv {n : Nat} {rows : List LV} {c : Nat} (h : (go rows c).length <= n) : ((eG n (go rows c)).length : Int) = zd (setR rows) c := by
 obtain ⟨k1, k2⟩ := uf (setR rows) c
 rw [Bu]
 generalize (j7 (setR rows) c).map (·.1) = ks at k1 k2
 have := sW (A := ks.map fun v => [v]) (B := eG n (go rows c)) (List.pairwise_map.2 (k1.imp fun {a b} q e => q (by simpa using e))) (lj (f9 n _ h).2.2) fun x => by
  rw [(f9 n _ h).1]
  unfold go
  simp only [List.mem_map, List.mem_filter, decide_eq_true_eq]
  constructor
  · rintro ⟨r, ⟨hr, hk⟩, rfl⟩
    exact ⟨_, (k2 _).2 ⟨hk, r, oT.2 hr, rfl⟩, rfl⟩
  · rintro ⟨v, hv, rfl⟩
    obtain ⟨hk, r, hr, rfl⟩ := (k2 v).1 hv
    exact ⟨r, ⟨oT.1 hr, hk⟩, rfl⟩
 rw [this, List.length_map]
def BF (n : Nat) : Prop := ∀ l : List LV, l.length <= n -> l.length <= 1000000 -> (∀ r ∈ l, r.length <= 1000000) -> Fun1 prog 91 [tSl (rSl rValue) l] (tSl (rSl rValue) (eG n l))
theorem yw {a b out z : List LV} {i k : Nat} (h : out ++ kf (a.drop i) (b.drop k) = z) : out.length <= z.length := by
  have := congrArg List.length h
  rw [List.length_append] at this; omega
theorem o9 {out t z : List LV} {x : LV} {m : List LV} (h : out ++ m = z) (e : m = x :: t) : (out ++ [x]) ++ t = z := by rw [<- h, e]; simp
theorem mP (n : Nat) (l : List LV) (ih : 2 <= l.length -> BF n) (hln : l.length <= n + 1) (hl : l.length <= 1000000) (hrl : ∀ r ∈ l, r.length <= 1000000) : Fun1 prog 91 [tSl (rSl rValue) l] (tSl (rSl rValue) (eG (n + 1) l)) := by
 refine Spec.enter func91 rfl rfl fun h0 w0 fr0 => ?_
 refine Jr (Za (ae (ar (Jr (Zm ?_)))))
 refine Zs (ah underlying73 Sr) (Zs (aA Sr Sr) (ae ?_))
 refine au Sr (fun h10 => ?_) (fun h10 => ?_)
 ·
  try simp only [NF] at h10
  have h2 : l.length < 2 := by omega
  refine Jr (Zs (dJ (R := rSl rValue) underlying73 pp) (Zm ?_))
  refine Zx (dv underlying73 pp Sr Sr zG zG) fun v13 => ?_
  refine Za (ae (aF ?_))
  refine aZ (rv := .tmp 2) rfl () (Sel.all _) (.tmp Sr) (Frz.own0' (by rw [eG, if_pos h2]))
 try simp only [NF] at h10
 have h2 : ¬ l.length < 2 := by omega
 refine ay (Jr (Zm (Zm (Zs (ah underlying73 Sr) ?_))))
 refine Zs (lA Sr Sr (by first | assumption | omega) zG z6) ?_
 refine Zs (eR (n := (l.length / 2)) underlying73 fh Sr Sr zG zG) ?_
 refine Zs (ai (ih zG (l.take (l.length / 2)) (by rw [List.length_take]; omega) (by rw [List.length_take]; omega) (fun r hr => hrl r (List.mem_of_mem_take hr))) ⟨Sr, trivial⟩ call91) ?_
 refine Za (ae (Jr (Zm (Zm (Zs (ah underlying73 Sr) ?_)))))
 refine Zs (lA Sr Sr (by first | assumption | omega) zG z6) ?_
 refine Zs (lm (n := (l.length / 2)) underlying73 fh rfl Sr Sr zG zG) ?_
 refine Zs (ai (ih zG (l.drop (l.length / 2)) (by rw [List.length_drop]; omega) (by rw [List.length_drop]; omega) (fun r hr => hrl r (List.mem_of_mem_drop hr))) ⟨Sr, trivial⟩ call91) ?_
 refine Za (ae ?_)
 obtain ⟨ra1, ra2, _⟩ := f9 n (l.take (l.length / 2)) (by rw [List.length_take]; omega)
 obtain ⟨rb1, rb2, _⟩ := f9 n (l.drop (l.length / 2)) (by rw [List.length_drop]; omega)
 rw [List.length_take] at ra2
 rw [List.length_drop] at rb2
 have hal : ∀ r ∈ (eG n (l.take (l.length / 2))), r.length <= 1000000000000 := fun r hr => Nat.le_trans (hrl r (List.mem_of_mem_take ((ra1 r).1 hr))) zG
 have hbl : ∀ r ∈ (eG n (l.drop (l.length / 2))), r.length <= 1000000000000 := fun r hr => Nat.le_trans (hrl r (List.mem_of_mem_drop ((rb1 r).1 hr))) zG
 have hrw : eG (n + 1) l = kf (eG n (l.take (l.length / 2))) (eG n (l.drop (l.length / 2))) := by rw [eG, if_neg h2]
 have hml := (qO _ (eG n (l.take (l.length / 2))) (eG n (l.drop (l.length / 2))) (Nat.le_refl _)).2.1
 generalize (eG n (l.take (l.length / 2))) = a at ra1 ra2 hal hrw hml ⊢
 generalize (eG n (l.drop (l.length / 2))) = b at rb1 rb2 hbl hrw hml ⊢
 refine Jr (Za (ae (Jr (Za (ae ?_)))))
 refine Jr (Za (ae (ar (av ?_))))
 refine aO (σ := Nat × Nat × Value × List LV) (fun ⟨i, k, vo, out⟩ => i <= a.length /\ k <= b.length /\ out ++ kf (a.drop i) (b.drop k) = kf a b) (fun ⟨i, k, vo, out⟩ => upd (upd (upd (upd (upd (upd cg 2 (tV (.slice none 0 0))) 3 (tSl (rSl rValue) a)) 4 (tSl (rSl rValue) b)) 5 (rV.ty vo)) 6 (tV (.int .i64 i))) 7 (tV (.int .i64 k))) (fun ⟨i, k, vo, out⟩ => [own 22 (rSl rValue) vo out]) (fun ⟨i, k, vo, out⟩ => (a.length - i) + (b.length - k)) (0, 0, .slice none 0 0, []) ⟨Nat.zero_le _, Nat.zero_le _, rfl⟩ (.u (.u (SubE.upd (DG rfl) (zU)))) (DB) ?_
 rintro ⟨i, k, vo, out⟩ ⟨hi, hk, hm⟩
 refine ar (Jr (Zm (Zm (Zs (ah underlying73 Sr) (Zs (aA Sr Sr) ?_)))))
 refine Zm ?_
 refine Zk (al Sr) ?_
 refine Zk (al Sr) ?_
 refine Zg (fun hw => ah underlying73 (Sub.w hw)) (Zg (fun hw => aA (Sub.w hw) (Sub.w hw)) (Zs (az Sr Sr) (ae ?_)))
 refine au Sr (fun h35 => ?_) (fun h35 => ?_)
 ·
  try simp only [NF] at h35
  have hol := yw hm
  refine ay (av (ar ?_))
  refine bl [⟨0, [7], true⟩, ⟨1, [4], true⟩, ⟨2, [37], true⟩, ⟨3, [36, 38], true⟩, ⟨4, [39], true⟩, ⟨5, [6, 40], true⟩, ⟨6, [3, 40], true⟩, ⟨7, [40, 42], true⟩, ⟨8, [40, 41, 43], true⟩, ⟨9, [40, 44], true⟩, ⟨10, [3, 45], true⟩, ⟨11, [6, 45], true⟩, ⟨12, [45, 46, 47], true⟩, ⟨13, [45, 48], true⟩, ⟨14, [4, 45], true⟩, ⟨15, [7, 45], true⟩, ⟨16, [45, 50, 51], true⟩, ⟨17, [45, 52], true⟩, ⟨18, [45, 49, 53], true⟩, ⟨19, [40, 45, 54], true⟩, ⟨20, [40, 55], true⟩] rfl (by kernel_rfl) ?_
  refine Zv rfl (Zv rfl (Zf rfl (ah underlying73 Sr) (Zf rfl (aC Sr Sr) (Zv rfl ?_))))
  refine Mk rfl rfl Sr rfl (al Sr) ?_
  refine Mk rfl rfl Sr rfl (al Sr) ?_
  refine Mg rfl rfl Sr rfl (fun hw => ah underlying73 (Sub.w hw)) (Mg rfl rfl Sr rfl (fun hw => aA (Sub.w hw) (Sub.w hw)) (Mg rfl rfl Sr rfl (fun hw => al (Sub.w hw)) ?_))
  refine cA rfl rfl rfl rfl (DK Sr) rfl rfl (fun hw _ => al Sr) ?_
  refine cA rfl rfl rfl rfl (DK Sr) rfl rfl (fun hw _ => al Sr) ?_
  refine cA rfl rfl rfl rfl (DK Sr) rfl rfl (fun hw _ => ad (i := i) underlying73 fh (Sub.w hw) (Sub.w hw) (by rfl) (gb (by have hwq := hw; (try simp only [beqB_t, beqB_f, NF] at hwq); (try simp at hwq); omega))) ?_
  refine cA rfl rfl rfl rfl (DK Sr) rfl rfl (fun hw _ => ab fh (Sub.w hw)) ?_
  refine cA rfl rfl rfl rfl (DK Sr) rfl rfl (fun hw _ => al Sr) ?_
  refine cA rfl rfl rfl rfl (DK Sr) rfl rfl (fun hw _ => al Sr) ?_
  refine cA rfl rfl rfl rfl (DK Sr) rfl rfl (fun hw _ => ad (i := k) underlying73 fh (Sub.w hw) (Sub.w hw) (by rfl) (gb (by have hwq := hw; (try simp only [beqB_t, beqB_f, NF] at hwq); (try simp at hwq); omega))) ?_
  refine cA rfl rfl rfl rfl (DK Sr) rfl rfl (fun hw _ => ab fh (Sub.w hw)) ?_
  refine cA rfl rfl rfl rfl (DK Sr) rfl rfl (fun hw _ => ai (nQ (nth a i) (nth b k) (by have hwq := hw; simp at hwq; exact hal _ (aH zG)) (by have hwq := hw; simp at hwq; exact hbl _ (aH zG))) ⟨(Sub.w hw), (Sub.w hw), trivial⟩ call144) ?_
  refine Mg rfl rfl Sr rfl (fun hw => aw (Sub.w hw) (D9 hw)) (Zf rfl (az Sr Sr) (bj ?_))
  refine au Sr (fun h56 => ?_) (fun h56 => ?_)
  ·
   try simp only [NF] at h56
   have hia : i < a.length := by rcases h56 with h | h <;> omega
   have hsa := Co hia hk (by rcases h56 with h | h; exact .inl zG; exact .inr h.2)
   refine Jr (Zm (Zm (Zm ?_)))
   refine Zs (ad (i := i) underlying73 fh Sr Sr (by rfl) (gb (by exact hia))) ?_
   refine Zl fh Sr ?_
   refine Zs (ax (ys := [_]) underlying73 pp ⟨rfl, Sr, trivial⟩ rfl (by decide)) ?_
   refine Zx (aL underlying73 pp Sr Sr zS zE9 zE9) fun v63 => ?_
   refine Za (ae (aq (Zm (Zs (aB Sr Sr z6) (Za ?_)))))
   refine ae ?_
   refine aE (σ := Nat × Nat × Value × List LV) (s := (i, k, vo, out)) (i + 1, k, v63, out ++ [nth a i]) ((by show a.length - (i + 1) + (b.length - k) < a.length - i + (b.length - k); omega)) ⟨by omega, hk, o9 hm hsa⟩ (zU) (zL)
  try simp only [NF] at h56
  have hkb : k < b.length := by rcases h56 with ⟨h, _⟩; omega
  have hna : ¬ (i < a.length /\ cmpR (nth a i) (nth b k) < 0) := fun q => by have := h56.2; simp at this; omega
  refine ar ?_
  refine bl [⟨0, [6], true⟩, ⟨1, [3], true⟩, ⟨2, [67], true⟩, ⟨3, [66, 68], true⟩, ⟨4, [69], true⟩, ⟨5, [4, 70], true⟩, ⟨6, [7, 70], true⟩, ⟨7, [70, 71, 72], true⟩, ⟨8, [70, 73], true⟩, ⟨9, [3, 70], true⟩, ⟨10, [6, 70], true⟩, ⟨11, [70, 75, 76], true⟩, ⟨12, [70, 77], true⟩, ⟨13, [70, 74, 78], true⟩, ⟨14, [70, 79], true⟩] rfl (by kernel_rfl) ?_
  refine Zv rfl (Zv rfl (Zf rfl (ah underlying73 Sr) (Zf rfl (aC Sr Sr) (Zv rfl ?_))))
  refine Mk rfl rfl Sr rfl (al Sr) ?_
  refine Mk rfl rfl Sr rfl (al Sr) ?_
  refine Mg rfl rfl Sr rfl (fun hw => ad (i := k) underlying73 fh (Sub.w hw) (Sub.w hw) (by rfl) (gb (by have hwq := hw; (try simp only [beqB_t, beqB_f, NF] at hwq); (try simp at hwq); omega))) ?_
  refine Mg rfl rfl Sr rfl (fun hw => ab fh (Sub.w hw)) ?_
  refine Mk rfl rfl Sr rfl (al Sr) ?_
  refine Mk rfl rfl Sr rfl (al Sr) ?_
  refine Mg rfl rfl Sr rfl (fun hw => ad (i := i) underlying73 fh (Sub.w hw) (Sub.w hw) (by rfl) (gb (by have hwq := hw; (try simp only [beqB_t, beqB_f, NF] at hwq); (try simp at hwq); omega))) ?_
  refine Mg rfl rfl Sr rfl (fun hw => ab fh (Sub.w hw)) ?_
  refine Mg rfl rfl Sr rfl (fun hw => ai (nQ (nth b k) (nth a i) (by exact hbl _ (aH (by have hwq := hw; simp at hwq; omega))) (by exact hal _ (aH (by have hwq := hw; simp at hwq; omega)))) ⟨(Sub.w hw), (Sub.w hw), trivial⟩ call144) ?_
  refine Zf rfl (az Sr Sr) (bj ?_)
  refine au Sr (fun h80 => ?_) (fun h80 => ?_)
  ·
   try simp only [NF] at h80
   have hsb := Cp hi hkb hna (by rcases h80 with h | h; exact .inl zG; exact .inr h)
   refine Jr (Zm (Zm (Zm ?_)))
   refine Zs (ad (i := k) underlying73 fh Sr Sr (by rfl) (gb (by exact hkb))) ?_
   refine Zl fh Sr ?_
   refine Zs (ax (ys := [_]) underlying73 pp ⟨rfl, Sr, trivial⟩ rfl (by decide)) ?_
   refine Zx (aL underlying73 pp Sr Sr zS zE9 zE9) fun v87 => ?_
   refine Za (ae (aq (Zm (Zs (aB Sr Sr z6) (Za ?_)))))
   refine ae ?_
   refine aE (σ := Nat × Nat × Value × List LV) (s := (i, k, vo, out)) (i, k + 1, v87, out ++ [nth b k]) ((by show a.length - i + (b.length - (k + 1)) < a.length - i + (b.length - k); omega)) ⟨hi, by omega, o9 hm hsb⟩ (zU) (zL)
  try simp only [NF] at h80
  have hia : i < a.length := by rcases h80 with ⟨h, _⟩; omega
  have hsc := Cq hia hkb (fun q => hna ⟨hia, q⟩) (by have := h80.2; omega)
  refine Jr (Zm (Zm (Zm ?_)))
  refine Zs (ad (i := i) underlying73 fh Sr Sr (by rfl) (gb (by exact hia))) ?_
  refine Zl fh Sr ?_
  refine Zs (ax (ys := [_]) underlying73 pp ⟨rfl, Sr, trivial⟩ rfl (by decide)) ?_
  refine Zx (aL underlying73 pp Sr Sr zS zE9 zE9) fun v96 => ?_
  refine Za (ae (Jr (Zm (Zs (aB Sr Sr z6) (Za ?_)))))
  refine ae (aq (Zm (Zs (aB Sr Sr z6) (Za (ae ?_)))))
  refine aE (σ := Nat × Nat × Value × List LV) (s := (i, k, vo, out)) (i + 1, k + 1, v96, out ++ [nth a i]) ((by show a.length - (i + 1) + (b.length - (k + 1)) < a.length - i + (b.length - k); omega)) ⟨by omega, by omega, o9 hm hsc⟩ (zU) (zL)
 try simp only [NF] at h35
 obtain rfl : i = a.length := by omega
 obtain rfl : k = b.length := by omega
 refine aY (Jr (Zm (Za (ae (aF ?_)))))
 refine aZ (rv := .tmp 2) rfl () (Sel.all _) (.tmp Sr) (DO (by rw [hrw, <- hm, List.drop_length, List.drop_length, kf, List.append_nil]))
theorem kM : ∀ n, BF n
  | 0 => fun l h1 h2 h3 => by
    obtain rfl : l = [] := List.length_eq_zero_iff.1 (by omega)
    have := mP 0 [] (fun h => absurd h (by simp)) (by simp) h2 h3
    exact this
  | n + 1 => fun l h1 h2 h3 => mP n l (fun _ => kM n) h1 h2 h3
theorem um (t : GTable) : ee t t.Attrs = t.Attrs := by
 refine eW (by simp [ee]) fun i hi => ?_
 have hi' : i < t.Attrs.length := by simpa [ee] using hi
 rw [nth_get hi]
 simp only [ee, List.getElem_map, List.getElem_range]
 unfold xd
 split <;> rfl
theorem yx : ∀ (l : List GAttr), cq l l = true
 | l => by
   unfold cq eqL
   simp [alikeA]
theorem zj : ∀ (l : List GAttr), (nmL l).Sublist (namesL l)
 | [] => List.Sublist.slnil
 | a :: l => by
   show (a.Name :: nmL l).Sublist ((a.Name :: a.Was) ++ namesL l)
   exact (List.cons_sublist_cons.2 ((zj l).trans (List.sublist_append_right a.Was _)))
theorem w5 {l : List GAttr} (h : (nmL l).Nodup) {i : Nat} (hi : i < l.length) : columnL l (nth l i).Name = i := by
 have h0 : 0 <= columnL l (nth l i).Name := vP.2 (by rw [<- fZ hi]; exact aH (by rw [dz]; exact hi))
 have h1 : nth (nmL l) (columnL l (nth l i).Name).toNat = nth (nmL l) i := by rw [fZ hi]; exact mj h0
 have h2 := (iY l (nth l i).Name).2
 generalize columnL l (nth l i).Name = c at h0 h1 h2 ⊢
 rw [nth_get (by rw [dz]; omega), nth_get (by rw [dz]; exact hi)] at h1
 have := (List.getElem_inj h).1 h1
 omega
theorem w6 {s : GSchema} (h : lX s = true) {t : Nat} (ht : t < s.Tables.length) : validM s 12 (planT s t) = true := by
 unfold lX at h
 simp only [Bool.and_eq_true, List.all_eq_true, List.mem_range, decide_eq_true_eq] at h
 have hr := (h.2 t ht).1
 unfold rightM at hr
 simp only [Bool.and_eq_true, decide_eq_true_eq] at hr
 have hn : (nmL (nth s.Tables t).Attrs).Nodup := hr.1.2.sublist (zj _)
 have hc : colsM s (planT s t) = (ee (nth s.Tables t) (nth s.Tables t).Attrs, true) := by
  unfold colsM
  rw [if_pos (show (planT s t).Kind = 1 from rfl), if_pos (show 0 <= (planT s t).Table /\ (planT s t).Table < (s.Tables.length : Int) from ⟨Int.natCast_nonneg t, by show (t : Int) < _; omega⟩)]
  rfl
 rw [validM]
 simp only [Bool.and_eq_true]
 refine ⟨⟨⟨⟨⟨rfl, rfl⟩, rfl⟩, rfl⟩, ?_⟩, ?_, ?_⟩
 · rw [List.all_eq_true]
   intro i hi
   unfold ez
   rw [decide_eq_true_eq]
   exact w5 hn (List.mem_range.1 hi)
 · rw [hc]
 · rw [hc, um]
   exact yx _
theorem pa {s : GSchema} {ts : List (List LV)} : mI s ts = true ↔ ∀ i, i < ts.length -> ((nth ts i).any fun row => !fitsM (nth s.Tables i) row) = false := by
 unfold mI
 rw [List.all_eq_true]
 simp only [List.mem_range, Bool.not_eq_true']
theorem lF {s : GSchema} {ts : List (List LV)} : f0 s ts = (lX s && decide (ts.length = s.Tables.length) && mI s ts) := by
 rw [Bool.eq_iff_iff, ug]
 simp only [Bool.and_eq_true, decide_eq_true_eq]
 constructor
 · rintro ⟨h1, h2⟩
   by_cases h0 : s.Tables.length = 0
   · refine ⟨⟨?_, h1⟩, pa.2 fun i hi => by omega⟩
     unfold lX
     rw [h0]; rfl
   · obtain ⟨h3, h4⟩ := h2 0 (by omega)
     unfold iE at h3
     rw [Bool.and_eq_true] at h3
     exact ⟨⟨h3.1, h1⟩, h4⟩
 · rintro ⟨⟨h1, h2⟩, h3⟩
   exact ⟨h2, fun t ht => ⟨by unfold iE; rw [h1, w6 h1 ht]; rfl, h3⟩⟩
theorem Frz.statsI {vr vd : Value} {rs : List Int} {ds : List (List Int)} {S : List SP} : Frz (Lg.own 3 bg vr rs :: Lg.own 36 (rSl bg) vd ds :: S) (cF.ty ⟨vr, vd⟩) (bA.ty ⟨rs, ds⟩) := fun h m u d st ⟨cs, r, e⟩ => by
  have h1 := (D6 (S := Lg.own 36 (rSl bg) vd ds :: S)) h m vr d st rfl
  have h2 := (D6 (S := Lg.own 3 bg vr rs :: S)) h m vd d (LSub.swap h m st) rfl
  exact ⟨cs, Bl rs ds (Dy h m) h1 h2 r, e⟩
theorem Sub.statsZ : Sub (cF.ty zStatsW) (bA.ty zStats) := fun h v ⟨cs, r, e⟩ => ⟨cs, Bl (x := zStatsW) [] [] (PH.le_refl h) ⟨none, ⟨0, Nat.le_refl _⟩, _root_.rfl, fun q => absurd _root_.rfl q⟩ ⟨none, ⟨0, Nat.le_refl _⟩, _root_.rfl, fun q => absurd _root_.rfl q⟩ r, e⟩
theorem un (rows : List LV) (c : Nat) : gF rows (c + 1) = gF rows c ++ [zd rows c] := by simp [gF, List.range_succ]
theorem BG {rows : List LV} {c k : Nat} (h : k < rows.length) (hn : (nth (nth rows k) c).Kind ≠ 0) : go (rows.take (k + 1)) c = go (rows.take k) c ++ [[nth (nth rows k) c]] := by
  unfold go; rw [dM h, List.filter_append, List.map_append]; simp [hn]
theorem BH {rows : List LV} {c k : Nat} (h : k < rows.length) (hn : (nth (nth rows k) c).Kind = 0) : go (rows.take (k + 1)) c = go (rows.take k) c := by
  unfold go; rw [dM h, List.filter_append, List.map_append]; simp [hn]
theorem yy {t : GTable} {row : LV} (h : fitsM t row = true) : row.length = t.Attrs.length := by
  unfold fitsM at h; simp only [Bool.and_eq_true, decide_eq_true_eq] at h; exact h.1
theorem lx (s : GSchema) (hz : SchSz s) (hsz : ∀ t ∈ s.Tables, t.Attrs.length <= 1000) (hts : s.Tables.length <= 1000000) (ts : List (List LV)) (hl : ∀ t ∈ ts, t.length <= 4000) (hr : ∀ t ∈ ts, ∀ r ∈ t, r.length <= 1000000) : Fun1 prog 37 [aV.ty s, tSl (rSl (rSl rValue)) ts] (fA [bA.ty (gn s ts), tV (.int .i64 (jn s ts))]) := by
 refine Spec.enter func37 rfl rfl fun h0 w0 fr0 => ?_
 refine Jr (Zs (aJ (R := aV) Sr) ?_)
 refine Zx (aD (fun w => zeroValue60 w) Al) fun b4 => ?_
 refine Za (ae (ar (Jr (Zl fR Sr (Zs (ai (kR s hz) ⟨Sr, trivial⟩ call89) ?_)))))
 refine Zs (bf Sr) (Zm ?_)
 refine Zk (al Sr) ?_
 refine Zg (fun hw => ah underlying61 (Sub.w hw)) ?_
 refine Zk (aa g6 Sr rfl) ?_
 refine Zg (fun hw => ab g5 (Sub.w hw)) (Zg (fun hw => ah underlying39 (Sub.w hw)) (Zg (fun hw => bb (Sub.w hw) (Sub.w hw)) (Zs (az Sr Sr) (ae ?_))))
 refine au Sr (fun h23 => ?_) (fun h23 => ?_)
 ·
  try simp only [NF] at h23
  have hf : f0 s ts = false := h23.elim (fun h => (by rw [lF, h]; rfl)) (fun h => (by rw [lF, decide_eq_false (fun q => h zG), Bool.and_false, Bool.false_and]))
  refine Jr ?_
  refine Zs (aU (x := (zStatsW : GStatsW)) (zs := [[Value.slice none 0 0], [Value.slice none 0 0]]) nf (fun w => zeroValue60 w) trivial ⟨fun _ => ⟨rfl, rfl⟩, fun _ => ⟨rfl, rfl⟩, trivial⟩) ?_
  refine Ju (aj (R := cF) qA Sr Sr zS) fun _ => ?_
  refine Za (ae (aF ?_))
  refine bJ (rv := .cell 4 60) (rv' := .tmp 5) rfl () (Sel.all _) (.cell (R := cF) qA Sr zS Sr) (.tmp Sr) (Frz.sub (Sub.trans Sub.statsZ (DE (by rw [gn, if_neg (by simp [hf])])))) (Frz.sub (Sub.int (by rw [jn, if_neg (by simp [hf])]))) Sr
 try simp only [NF] at h23
 have hvs : lX s = true /\ ts.length = s.Tables.length := ⟨h23.1, by have := h23.2; omega⟩
 obtain ⟨hv, hle⟩ := hvs
 refine ay (Jr ?_)
 refine Zx (aD (fun w => zeroValue60 w) Al) fun b6 => ?_
 refine ae (ar (Jr (Za (ae (av ?_)))))
 refine aO (σ := Nat × Value × Value) (fun ⟨t, vr, vd⟩ => t <= ts.length /\ ∀ i, i < t -> ((nth ts i).any fun row => !fitsM (nth s.Tables i) row) = false) (fun ⟨t, vr, vd⟩ => upd (upd (upd (upd (upd cg 1 (tSl (rSl (rSl rValue)) ts)) 2 (bx aV s)) 4 (tAt b4 0)) 6 (tAt b6 0)) 7 (tV (.int .i64 t))) (fun ⟨t, vr, vd⟩ => [box b6 60 cF ⟨vr, vd⟩, own 3 bg vr (co ts t), own 36 (rSl bg) vd (cM s ts t), box b4 60 cF zStatsW]) (fun ⟨t, vr, vd⟩ => ts.length - t) (0, .slice none 0 0, .slice none 0 0) ⟨Nat.zero_le _, fun i h => absurd h (Nat.not_lt_zero i)⟩ (zU) (LSub.trans (DB (e := 36) (R := rSl bg)) (LSub.trans (DB (e := 3) (R := bg)) (.r zS (.c zS (SPs.of (by rfl)) (.c zS (SPs.of (by rfl)) (zL)))))) ?_
 rintro ⟨t, vr, vd⟩ ⟨hi, hall⟩
 refine ar (Jr (Zm (Zm (Zs (ah underlying61 Sr) (Zs (aA Sr Sr) ?_)))))
 refine ae ?_
 refine au Sr (fun h28 => ?_) (fun h28 => ?_)
 ·
  try simp only [NF] at h28
  have hlt : t < ts.length := by omega
  have htl := hl _ (aH hlt)
  have hrt := hr _ (aH hlt)
  have hna := hsz _ (aH (l := s.Tables) (i := t) zG)
  refine ay (ar (av (ar (Jr (Za ?_)))))
  refine ae (av ?_)
  refine aO (σ := Nat) (fun k => k <= (nth ts t).length /\ ∀ j, j < k -> fitsM (nth s.Tables t) (nth (nth ts t) j) = true) (fun k => upd (upd (upd (upd (upd (upd cg 1 (tSl (rSl (rSl rValue)) ts)) 2 (bx aV s)) 4 (tAt b4 0)) 6 (tAt b6 0)) 7 (tV (.int .i64 t))) 8 (tV (.int .i64 k))) (fun k => [box b6 60 cF ⟨vr, vd⟩, own 3 bg vr (co ts t), own 36 (rSl bg) vd (cM s ts t), box b4 60 cF zStatsW]) (fun k => (nth ts t).length - k) 0 ⟨Nat.zero_le _, fun j h => absurd h (Nat.not_lt_zero j)⟩ (zU) (zL) ?_
  rintro k ⟨hk0, hfit⟩
  refine ar (Jr (Zm (Zm (Zm ?_))))
  refine Zs (ad (i := t) underlying61 kp Sr Sr (by rfl) (gb (by exact hlt))) ?_
  refine Zl kp Sr (Zs (ah underlying73 Sr) (Zs (aA Sr Sr) (ae ?_)))
  refine au Sr (fun h37 => ?_) (fun h37 => ?_)
  ·
   try simp only [NF] at h37
   have hk : k < (nth ts t).length := by omega
   refine ay (ar (av (ar ?_)))
   refine cl [⟨0, [2], 0⟩, ⟨1, [40], 0⟩, ⟨2, [7], 0⟩, ⟨3, [41, 42], 0⟩, ⟨4, [43], 0⟩, ⟨5, [1], 0⟩, ⟨6, [7], 0⟩, ⟨7, [45, 46], 0⟩, ⟨8, [47], 0⟩, ⟨9, [8], 0⟩, ⟨10, [48, 49], 0⟩, ⟨11, [50], 0⟩, ⟨12, [44, 51], 0⟩, ⟨13, [52], 0⟩] rfl (by kernel_rfl) ?_
   refine ZX rfl (aa g6 Sr rfl) ?_
   refine ZX rfl (ab g5 Sr) ?_
   refine ZX rfl (al Sr) ?_
   refine ZX rfl (ad (i := t) underlying39 g8 Sr Sr (by rfl) (gb (by show t < s.Tables.length; omega))) ?_
   refine ZX rfl (ab g8 Sr) ?_
   refine ZX rfl (al Sr) ?_
   refine ZX rfl (al Sr) ?_
   refine ZX rfl (ad (i := t) underlying61 kp Sr Sr (by rfl) (gb (by exact hlt))) ?_
   refine ZX rfl (ab kp Sr) ?_
   refine ZX rfl (al Sr) ?_
   refine ZX rfl (ad (i := k) underlying73 fh Sr Sr (by rfl) (gb (by exact hk))) ?_
   refine ZX rfl (ab fh Sr) ?_
   refine ZX rfl (ai (qN (nth s.Tables t) (nth (nth ts t) k) (by have := hr _ (aH hlt) _ (aH hk); omega)) ⟨Sr, Sr, trivial⟩ call90) ?_
   refine ZX rfl (bf Sr) ?_
   refine cC ?_
   refine au Sr (fun h53 => ?_) (fun h53 => ?_)
   ·
    try simp only [NF] at h53
    have h53 : fitsM (nth s.Tables t) (nth (nth ts t) k) = false := by simpa using h53
    have hf : f0 s ts = false := by rw [lF, show mI s ts = false from Bool.eq_false_iff.2 fun q => (by have q2 := pa.1 q t hlt; rw [List.any_eq_false] at q2; exact q2 _ (aH hk) (by simp [h53])), Bool.and_false]
    refine Jr ?_
    refine Zs (aU (x := (zStatsW : GStatsW)) (zs := [[Value.slice none 0 0], [Value.slice none 0 0]]) nf (fun w => zeroValue60 w) trivial ⟨fun _ => ⟨rfl, rfl⟩, fun _ => ⟨rfl, rfl⟩, trivial⟩) ?_
    refine Ju (aj (R := cF) qA Sr Sr zS) fun _ => ?_
    refine Za (ae (aF ?_))
    refine bJ (rv := .cell 4 60) (rv' := .tmp 5) rfl () (Sel.all _) (.cell (R := cF) qA Sr zS Sr) (.tmp Sr) (Frz.sub (Sub.trans Sub.statsZ (DE (by rw [gn, if_neg (by simp [hf])])))) (Frz.sub (Sub.int (by rw [jn, if_neg (by simp [hf])]))) Sr
   try simp only [NF] at h53
   have h53 : fitsM (nth s.Tables t) (nth (nth ts t) k) = true := by simpa using h53
   refine ay (aq (Zm (Zs (aB Sr Sr z6) (Za (ae ?_)))))
   refine aE (σ := Nat) (s := k) (k + 1) zO ⟨by omega, fun j hj => by by_cases e : j = k; subst e; exact h53; exact hfit j zG⟩ (zU) (zL)
  try simp only [NF] at h37
  obtain rfl : k = (nth ts t).length := by omega
  have hft : ∀ j, j < (nth ts t).length -> (nth (nth ts t) j).length = (nth s.Tables t).Attrs.length := fun j hj => yy (hfit j hj)
  refine aY (ar ?_)
  refine cl [⟨0, [6], 0⟩, ⟨2, [1], 0⟩, ⟨3, [7], 0⟩, ⟨4, [57, 58], 0⟩, ⟨5, [59], 0⟩, ⟨6, [60], 0⟩, ⟨7, [61], 0⟩, ⟨8, [62], 0⟩, ⟨1, [55], 1⟩, ⟨9, [56, 63], 2⟩, ⟨10, [6], 0⟩, ⟨11, [64, 65], 2⟩] rfl (by kernel_rfl) ?_
  refine ZX rfl (aP nf Sr rfl) ?_
  refine ZX rfl (al Sr) ?_
  refine ZX rfl (al Sr) ?_
  refine ZX rfl (ad (i := t) underlying61 kp Sr Sr (by rfl) (gb (by exact hlt))) ?_
  refine ZX rfl (ab kp Sr) ?_
  refine ZX rfl (ai (kM (nth ts t).length (nth ts t) (Nat.le_refl _) zG (hrt)) ⟨Sr, trivial⟩ call91) ?_
  refine ZX rfl (ah underlying73 Sr) ?_
  refine ZX rfl (ax (ys := [((eG (nth ts t).length (nth ts t)).length : Int)]) underlying36 el3 ⟨rfl, Sr, trivial⟩ rfl (by decide)) ?_
  refine bW rfl rfl rfl rfl (aQ mJ Sr rfl zS) ?_
  refine dq rfl rfl rfl rfl (aL underlying36 el3 Sr Sr zS (by simp [co]; omega) (by simp [co]; omega)) fun v64 => ?_
  refine ZX rfl (aP nf Sr rfl) ?_
  refine bI rfl rfl rfl (aI (R := rV) (y' := ⟨v64, vd⟩) mJ Sr Sr zS (by exact ⟨fun _ _ q => q, rfl, by intro g hg; simp only [List.mem_cons, List.not_mem_nil, or_false] at hg; subst hg; rfl⟩)) fun _ => ?_
  refine cC (Jr (Za (ae (ar (Jr ?_)))))
  refine Za (ae (av ?_))
  refine aO (σ := Nat × Value) (fun ⟨c, vD⟩ => c <= (nth s.Tables t).Attrs.length) (fun ⟨c, vD⟩ => upd (upd (upd (upd (upd (upd (upd cg 1 (tSl (rSl (rSl rValue)) ts)) 2 (bx aV s)) 4 (tAt b4 0)) 6 (tAt b6 0)) 7 (tV (.int .i64 t))) 9 (rV.ty vD)) 10 (tV (.int .i64 c))) (fun ⟨c, vD⟩ => [own 3 bg vD (gF (setR (nth ts t)) c), box b6 60 cF ⟨v64, vd⟩, own 3 bg v64 (co ts t ++ [((eG (nth ts t).length (nth ts t)).length : Int)]), own 36 (rSl bg) vd (cM s ts t), box b4 60 cF zStatsW]) (fun ⟨c, vD⟩ => (nth s.Tables t).Attrs.length - c) (0, .slice none 0 0) (by exact Nat.zero_le _) (.u (SubE.upd (DG rfl) (zU))) (LSub.trans (DB (e := 3) (R := bg)) (.c zS (SPs.of (by rfl)) (zL))) ?_
  rintro ⟨c, vD⟩ hc0
  try dsimp only at hc0
  refine ar (Jr (Zm (Zs (aa g6 Sr rfl) (Zl g5 Sr (Zm ?_)))))
  refine Zs (ad (i := t) underlying39 g8 Sr Sr (by rfl) (gb (by show t < s.Tables.length; omega))) ?_
  refine Zs (aa eu Sr rfl) (Zl bQ Sr (Zs (ah underlying44 Sr) (Zs (aA Sr Sr) (ae ?_))))
  refine au Sr (fun h74 => ?_) (fun h74 => ?_)
  ·
   try simp only [NF] at h74
   have hc : c < (nth s.Tables t).Attrs.length := by omega
   refine ay (ar (av (Jr (Za (ae ?_)))))
   refine ar (Jr (Za (ae (av ?_))))
   refine aO (σ := Nat × Value) (fun ⟨k, vV⟩ => k <= (nth ts t).length) (fun ⟨k, vV⟩ => upd (upd (upd (upd (upd (upd (upd (upd (upd cg 1 (tSl (rSl (rSl rValue)) ts)) 2 (bx aV s)) 4 (tAt b4 0)) 6 (tAt b6 0)) 7 (tV (.int .i64 t))) 9 (rV.ty vD)) 10 (tV (.int .i64 c))) 11 (rV.ty vV)) 12 (tV (.int .i64 k))) (fun ⟨k, vV⟩ => [own 22 (rSl rValue) vV (go ((nth ts t).take k) c), own 3 bg vD (gF (setR (nth ts t)) c), box b6 60 cF ⟨v64, vd⟩, own 3 bg v64 (co ts t ++ [((eG (nth ts t).length (nth ts t)).length : Int)]), own 36 (rSl bg) vd (cM s ts t), box b4 60 cF zStatsW]) (fun ⟨k, vV⟩ => (nth ts t).length - k) (0, .slice none 0 0) (by exact Nat.zero_le _) (.u (SubE.upd (DG rfl) (zU))) (LSub.trans (DB (e := 22) (R := rSl rValue)) (.c zS (SPs.of (by rfl)) (zL))) ?_
   rintro ⟨k, vV⟩ hk0
   try dsimp only at hk0
   refine ar (Jr (Zm (Zm (Zm ?_))))
   refine Zs (ad (i := t) underlying61 kp Sr Sr (by rfl) (gb (by exact hlt))) ?_
   refine Zl kp Sr (Zs (ah underlying73 Sr) (Zs (aA Sr Sr) (ae ?_)))
   refine au Sr (fun h83 => ?_) (fun h83 => ?_)
   ·
    try simp only [NF] at h83
    have hk : k < (nth ts t).length := by omega
    have hrl := hft k hk
    refine ay (ar (av (Jr (Zm (Zm ?_)))))
    refine Zs (ad (i := t) underlying61 kp Sr Sr (by rfl) (gb (by exact hlt))) ?_
    refine Zl kp Sr (Zm ?_)
    refine Zs (ad (i := k) underlying73 fh Sr Sr (by rfl) (gb (by exact hk))) ?_
    refine Zl fh Sr (Zm ?_)
    refine Zs (ad (i := c) underlying22 jp Sr Sr (by rfl) (gb (by show c < (nth (nth ts t) k).length; omega))) ?_
    refine Zs (aa eT Sr rfl) (Zl ty3 Sr (Zs (bb Sr Sr) (ae ?_)))
    refine au Sr (fun h97 => ?_) (fun h97 => ?_)
    ·
     try simp only [NF] at h97
     have h97 : (nth (nth (nth ts t) k) c).Kind ≠ 0 := h97
     refine aq (Zm (Zm (Zm ?_)))
     refine Zs (ad (i := t) underlying61 kp Sr Sr (by rfl) (gb (by exact hlt))) ?_
     refine Zl kp Sr (Zm ?_)
     refine Zs (ad (i := k) underlying73 fh Sr Sr (by rfl) (gb (by exact hk))) ?_
     refine Zl fh Sr (Zm ?_)
     refine Zs (ad (i := c) underlying22 jp Sr Sr (by rfl) (gb (by show c < (nth (nth ts t) k).length; omega))) ?_
     refine Zl jp Sr ?_
     refine Zs (ax (ys := [nth (nth (nth ts t) k) c]) underlying22 zw ⟨rfl, Sr, trivial⟩ rfl (by decide)) ?_
     refine Zs (ax (ys := [[nth (nth (nth ts t) k) c]]) underlying73 pp ⟨rfl, Sr, trivial⟩ rfl (by decide)) ?_
     refine Zx (aL underlying73 pp Sr Sr zS (by have := o8 ((nth ts t).take k) c; rw [List.length_take] at this; simp only [List.length_append, List.length_cons, List.length_nil]; omega) (by have := o8 ((nth ts t).take k) c; rw [List.length_take] at this; simp only [List.length_append, List.length_cons, List.length_nil]; omega)) fun v111 => ?_
     refine Za (ae (aq (Zm (Zs (aB Sr Sr z6) (Za ?_)))))
     refine ae ?_
     refine aE (σ := Nat × Value) (s := (k, vV)) (k + 1, v111) zO (by show k + 1 <= _; omega) (zU) (.c zS (SPs.of (by rw [BG hk h97])) (zL))
    try simp only [NF] at h97
    have h97 : (nth (nth (nth ts t) k) c).Kind = 0 := by simpa using h97
    refine ay (aq (Zm (Zs (aB Sr Sr z6) (Za (ae ?_)))))
    refine aE (σ := Nat × Value) (s := (k, vV)) (k + 1, vV) zO (by show k + 1 <= _; omega) (zU) (.c zS (SPs.of (by rw [BH hk h97])) (zL))
   try simp only [NF] at h83
   obtain rfl : k = (nth ts t).length := by omega
   refine aY ?_
   refine bF (t := 11) (A' := tSl (rSl rValue) (go (nth ts t) c)) (Sel.take (Dz _)) (DO (by rw [List.take_length])) ?_
   have hvl := o8 (nth ts t) c
   have hdr := yv (n := (go (nth ts t) c).length) (rows := (nth ts t)) (c := c) (Nat.le_refl _)
   refine aq (Zm (Zm ?_))
   refine Zs (ai (kM (go (nth ts t) c).length (go (nth ts t) c) (Nat.le_refl _) zG (fun r q => by rw [yu q]; omega)) ⟨Sr, trivial⟩ call91) ?_
   refine Zs (ah underlying73 Sr) ?_
   refine Zs (ax (ys := [((eG (go (nth ts t) c).length (go (nth ts t) c)).length : Int)]) underlying36 el3 ⟨rfl, Sr, trivial⟩ rfl (by decide)) ?_
   refine Zx (aL underlying36 el3 Sr Sr zS (by simp [gF]; omega) (by simp [gF]; omega)) fun v117 => ?_
   refine Za (ae (aq (Zm (Zs (aB Sr Sr z6) (Za ?_)))))
   refine ae ?_
   refine aE (σ := Nat × Value) (s := (c, vD)) (c + 1, v117) zO (by show c + 1 <= _; omega) (zU) (.c zS (SPs.of (by rw [un, hdr])) (zL))
  try simp only [NF] at h74
  obtain rfl : c = (nth s.Tables t).Attrs.length := by omega
  refine aY ?_
  refine bF (t := 9) (A' := tSl bg (gF (setR (nth ts t)) (nth s.Tables t).Attrs.length)) (Sel.take (Dz _)) Frz.own ?_
  refine aq (Zs (aP nf Sr rfl) ?_)
  refine Zs (aQ mK Sr rfl zS) ?_
  refine Zm ?_
  refine Zs (ax (ys := [gF (setR (nth ts t)) (nth s.Tables t).Attrs.length]) underlying58 BN ⟨rfl, Sr, trivial⟩ rfl (by decide)) ?_
  refine Zx (aL (R := rSl bg) underlying58 BN Sr Sr zS (by simp [cM]; omega) (by simp [cM]; omega)) fun v122 => ?_
  refine Zs (aP nf Sr rfl) ?_
  refine Ju (aI (R := rV) (y' := ⟨v64, v122⟩) mK Sr Sr zS (by exact ⟨rfl, ⟨fun _ _ q => q, rfl, by intro g hg; cases hg⟩⟩)) fun _ => ?_
  refine ae (aq (Zm (Zs (aB Sr Sr z6) (Za (ae ?_)))))
  refine aE (σ := Nat × Value × Value) (s := (t, vr, vd)) (t + 1, v64, v122) zO ⟨by omega, fun i hi => by
   by_cases e : i = t
   ·
    subst e
    rw [List.any_eq_false]
    intro r hr
    obtain ⟨j, hj, rfl⟩ := List.getElem_of_mem hr
    rw [<- nth_get hj, hfit j hj]; simp
   ·
    exact hall i zG⟩ (zU) (.r zS (.c zS (SPs.of (A := own 3 bg v64 (co ts t ++ [((eG (nth ts t).length (nth ts t)).length : Int)])) (by rw [j9, wZ (Nat.le_refl _)])) (.c zS (SPs.of (A := own 36 (rSl bg) v122 (cM s ts t ++ [gF (setR (nth ts t)) (nth s.Tables t).Attrs.length])) (by rw [ld])) (zL))))
 try simp only [NF] at h28
 obtain rfl : t = ts.length := by omega
 have hok : f0 s ts = true := by rw [lF, hv, decide_eq_true hle, pa.2 hall]; rfl
 refine aY (Jr ?_)
 refine Zs (aN (R := cF) qA Sr zS) ?_
 refine Ju (aj (R := cF) qA Sr Sr zS) fun _ => ?_
 refine Za (ae (aF ?_))
 refine bZ (L' := [own 3 bg vr (co ts ts.length), own 36 (rSl bg) vd (cM s ts ts.length), box b4 60 cF ⟨vr, vd⟩, box b6 60 cF ⟨vr, vd⟩]) (zL) ?_
 refine bJ (rv := .cell 4 60) (rv' := .tmp 5) rfl () (Sel.all _) (.cell (R := cF) qA Sr zS Sr) (.tmp Sr) (by rw [show gn s ts = ⟨co ts ts.length, cM s ts ts.length⟩ by rw [gn, if_pos hok, hle]]; exact Frz.statsI) (Frz.sub (Sub.int (by rw [jn, if_pos hok]))) Sr
theorem qP : ∀ {n m : Nat} {a b : aG}, Dep n a -> Dep n b -> Dep m a -> Dep m b -> gk n a b = gk m a b
 | 0, _, _, _, h, _, _, _ => h.elim
 | n + 1, 0, _, _, _, _, h, _ => h.elim
 | n + 1, m + 1, a, b, h1, h2, h3, h4 => by
   have : decide (a.Kids.length = b.Kids.length) = true -> ((List.range a.Kids.length).all fun i => gk n (nth a.Kids i) (nth b.Kids i)) = (List.range a.Kids.length).all fun i => gk m (nth a.Kids i) (nth b.Kids i) := fun hl => by
    rw [decide_eq_true_eq] at hl
    rw [Bool.eq_iff_iff, List.all_eq_true, List.all_eq_true]
    have e : ∀ i ∈ List.range a.Kids.length, gk n (nth a.Kids i) (nth b.Kids i) = gk m (nth a.Kids i) (nth b.Kids i) := fun i hi => by
     have hi := List.mem_range.1 hi
     exact qP (h1 _ (aH hi)) (h2 _ (aH (by omega))) (h3 _ (aH hi)) (h4 _ (aH (by omega)))
    exact ⟨fun h i hi => by rw [<- e i hi]; exact h i hi, fun h i hi => by rw [e i hi]; exact h i hi⟩
   unfold gk
   cases hl : decide (a.Kids.length = b.Kids.length) with
   | false => simp
   | true => rw [this hl]
def BI (a b : aG) : Bool := gk (max (depP a) (depP b)) a b
theorem w7 (a : aG) : BI a a = true := p7 (fv (Nat.le_max_left _ _) (dG a))
theorem w8 : ∀ {n : Nat} {p : aG}, PSz p -> PlS n p
 | 0, _, _ => trivial
 | n + 1, p, h => by
   have h1 := h 1
   exact ⟨h1.1, by have := h1.2.1; omega, by have := h1.2.2.1; omega, by have := h1.2.2.2.1; omega, fun q hq => w8 (fj h hq).1⟩
theorem s5 {n m : Nat} (h : n <= m) {p : aG} : Sub ((aR n).ty p) ((aR m).ty p) := fun hh v hv => by
 obtain ⟨cs, r, e⟩ := (aR n).iff.1 hv
 refine (aR m).iff.2 ⟨cs, rPl_le cPl aS be h r, ?_⟩
 rw [e, show (aR n).agg = (aR m).agg from (rPl_agg cPl aS be n).trans (rPl_agg cPl aS be m).symm]
theorem uo (a b : aG) (ha : PSz a) (hb : PSz b) : Fun1 Tryz.prog 43 [bO.ty a, bO.ty b] (tV (.bool (BI a b))) :=
 Fun1.ex (ι := Nat) (fun n => [(aR n).ty a, (aR n).ty b]) (fun n => tV (.bool (gk n a b))) fun vs h hh => by
  obtain ⟨v1, v2, rfl, a1, a2⟩ := vU hh
  obtain ⟨n1, a1⟩ := jQ a1
  obtain ⟨n2, a2⟩ := jQ a2
  have d1 : Dep n1 a := pN a1
  have d2 : Dep n2 b := pN a2
  refine ⟨max n1 n2, ⟨s5 (Nat.le_max_left _ _) _ _ a1, s5 (Nat.le_max_right _ _) _ _ a2, trivial⟩, mg _ a b (w8 ha) (w8 hb), Sub.bool ?_⟩
  exact qP (fv (Nat.le_max_left _ _) d1) (fv (Nat.le_max_right _ _) d2) (fv (Nat.le_max_left _ _) (dG a)) (fv (Nat.le_max_right _ _) (dG b))
section
variable {x : Gplanner} {n : Nat}
end
theorem w9 {s : GSchema} {p : aG} {st : GStats} {b : Nat} (hq : QOk s p b) (hb : b <= 1000) : PSz (ud s p st) := by
 cases h : bq s p st with
 | true => exact (imp_ok h hq hb).2.1.z
 | false =>
   rw [show ud s p st = GPl.zero from (wt h).1]
   exact fun m => by
    cases m with
    | zero => exact trivial
    | succ m => exact ⟨by show (0 : Nat) <= _; omega, by show (0 : Nat) <= _; omega, by show (0 : Nat) <= _; omega, by show (0 : Nat) <= _; omega, fun q hq => by cases hq⟩
variable {H : Type} {enc : TypeId × Value -> H} {W : World}
theorem rd3 : Rd enc Tryz.prog W 3 bg := Rd.int ty3 Tryz.underlying3
theorem rd9 : Rd enc Tryz.prog W 9 eH := Rd.str ty9 Tryz.underlying9
theorem BJ : Rd enc Tryz.prog W 36 (rSl bg) := Rd.sl bY Tryz.underlying36 rd3 (by decide)
theorem BT : Rd enc Tryz.prog W 87 rValue where
 k := jp.cells W
 rd := fun fuel cs x h => by
  obtain ⟨hl, hf⟩ := dW eT h
  obtain ⟨y0, h0⟩ := Rd.at (t := 87) (i := 0) hf rd3 rfl
  obtain ⟨y1, h1⟩ := Rd.at (t := 87) (i := 1) hf rd3 rfl
  obtain ⟨y2, h2⟩ := Rd.at (t := 87) (i := 2) hf rd9 rfl
  refine ⟨⟨y0, y1, y2⟩, DY hl fun i f hi => ?_⟩
  match i, hi with
  | 0, hi => cases hi; exact h0
  | 1, hi => cases hi; exact h1
  | 2, hi => cases hi; exact h2
  | n + 3, hi => simp [qX] at hi
theorem Df : Rd enc Tryz.prog W 22 (rSl rValue) := Rd.sl fh Tryz.underlying22 BT (by decide)
theorem Dg : Rd enc Tryz.prog W 38 uE where
 k := Cv.cells W
 rd := fun fuel cs x h => by
  obtain ⟨hl, hf⟩ := dW CX h
  obtain ⟨y0, h0⟩ := Rd.at (t := 38) (i := 0) hf rd3 rfl
  obtain ⟨y1, h1⟩ := Rd.at (t := 38) (i := 1) hf BJ rfl
  obtain ⟨y2, h2⟩ := Rd.at (t := 38) (i := 2) hf BJ rfl
  obtain ⟨y3, h3⟩ := Rd.at (t := 38) (i := 3) hf rd3 rfl
  refine ⟨⟨y0, y1, y2, y3⟩, DY hl fun i f hi => ?_⟩
  match i, hi with
  | 0, hi => cases hi; exact h0
  | 1, hi => cases hi; exact h1
  | 2, hi => cases hi; exact h2
  | 3, hi => cases hi; exact h3
  | n + 4, hi => simp [uD] at hi
theorem Dh : Rd enc Tryz.prog W 23 (rSl uE) := Rd.sl Cw Tryz.underlying23 Dg (by decide)
theorem run_true {P : Program} {f : Nat} {As : List Ty} {vs : List Value} {W : World} (sp : Fun1 P f As (tV (.bool true))) (hi : Inv (cH W)) (ha : Args (cH W) As vs) :
  Calls P f vs.toArray W fun e W' => e = .returned (.bool true) /\ Go.RowKit.Below W.heap.size W W' := by
 have hc := sp vs (cH W) PH.emp PH.emp W ha ⟨hi, DM _, DM _, DM _, td W, (fun b o e => by cases e), fun b o e => by cases e⟩ rfl
 refine hc.mono ?_
 rintro e W' ⟨x, v, h', m', rfl, l, s, _, hv⟩
 have hv : v = .bool true := hv
 subst hv
 exact ⟨rfl, xp l.1 s.hw l.2⟩
section
variable {H : Type} {enc : TypeId × Value -> H} {P : Program} {W : World} {base : Nat}
theorem CM {α : Type} {t e : Nat} {R : Rp α} {v : Value} {d : DataW H} {p : List MemPlace} (hu : P.underlying t = some (.slice e)) (hR : Rd enc P W t (rSl R)) (hok : Value.okWide P W .any base t v) (h : DataW.Trod enc P W 0 (fun _ => true) true t v d p) :
  ∃ xs, (tSl R xs).p (cH W) v := by
 obtain ⟨a, len, cap, rfl⟩ := Go.WideShapes.okWide_slice hu hok
 obtain ⟨fuel, h⟩ := h
 obtain ⟨xs, u, e1, e2⟩ := hR.rd _ _ _ h
 have : Value.slice a len cap = u := by
  have := (List.cons.inj e1).1
  exact this
 exact ⟨xs, this ▸ e2⟩
theorem zk {α : Type} {t e : Nat} {R : Rp α} (hu : P.underlying t = some (.slice e)) {fuel : Nat} {cs : List Value} {x : DataW H × List MemPlace} (h : DataW.trod enc P W 0 (fun _ => true) true fuel t cs = some x) {xs : List α} (r : (rSl R).rel (cH W) xs cs) :
  xs.length <= 9223372036854775807 /\ (x.1 = .nil /\ xs = [] \/ ∃ el rest, x.1 = .slice el rest /\ el.length = xs.length) := by
 obtain ⟨u, e1, ao, cap, e2, _⟩ := r
 subst e1; subst e2
 rcases DataW.trod_slice hu h with ⟨h1, h2⟩ | ⟨a, len, cap', elems, rest, n, _, h1, h2, _, hlc, hm, hlen, _⟩
 · have h3 := (Value.slice.inj (List.cons.inj h1).1).2.1
   have h4 : xs = [] := List.eq_nil_of_length_eq_zero h3
   subst h4
   exact ⟨by simp, .inl ⟨by rw [h2], rfl⟩⟩
 · have h3 := (Value.slice.inj (List.cons.inj h1).1).2.1
   refine ⟨?_, .inr ⟨elems.map (·.1), rest.map (·.1), by rw [h2], by rw [List.length_map]; omega⟩⟩
   have : maxLen = 9223372036854775807 := by decide
   omega
theorem Cr {α : Type} {t e : Nat} {R : Rp α} {v : Value} {d : DataW H} {p : List MemPlace} (hu : P.underlying t = some (.slice e)) (hR : Rd enc P W t (rSl R)) (hok : Value.okWide P W .any base t v) (h : DataW.Trod enc P W 0 (fun _ => true) true t v d p) :
  ∃ xs, (tSl R xs).p (cH W) v /\ (d = .nil /\ xs = [] \/ ∃ el rest, d = .slice el rest /\ el.length = xs.length) := by
 obtain ⟨a, len, cap, rfl⟩ := Go.WideShapes.okWide_slice hu hok
 obtain ⟨fuel, h⟩ := h
 obtain ⟨xs, hr⟩ := hR.rd _ _ _ h
 have hl := (zk hu h hr).2
 obtain ⟨u, e1, e2⟩ := hr
 have : Value.slice a len cap = u := (List.cons.inj e1).1
 exact ⟨xs, this ▸ e2, hl⟩
theorem CN {α : Type} {t : Nat} {R : Rp α} {v : Value} {d : DataW H} {p : List MemPlace} (hR : Rd enc P W t R) (hg : R.agg = true) (hk : R.k ≠ 1) (h : DataW.Trod enc P W 0 (fun _ => true) true t v d p) :
  ∃ x, (R.ty x).p (cH W) v := by
 obtain ⟨fuel, h⟩ := h
 obtain ⟨x, r⟩ := hR.rd _ _ _ h
 refine ⟨x, R.iff.2 ⟨_, r, ?_⟩⟩
 have hl := R.len r
 unfold packV
 rw [hg]
 cases v with
 | agg cs => simp [Value.cells]
 | _ => simp [Value.cells] at hl; exact absurd hl.symm hk
theorem Cs {t : Nat} {v : Value} {d : DataW H} {p : List MemPlace} (hu : P.underlying t = some .string) (hok : Value.okWide P W .any base t v) (h : DataW.Trod enc P W 0 (fun _ => true) true t v d p) :
  ∃ x : ByteArray, (tV (.string x)).p (cH W) v := by
 obtain ⟨x, rfl⟩ := Go.WideShapes.okWide_string hu hok
 exact ⟨x, rfl⟩
end
theorem CO {H : Type} {enc : TypeId × Value -> H} {W : World} {v : Value} {d : DataW H} {p : List MemPlace} (h : DataW.Trod enc Tryz.prog W 0 (fun _ => true) true 25 v d p) :
  ∃ q : GConj, (te.ty q).p (cH W) v /\ q.Atoms.length <= 9223372036854775807 := by
 obtain ⟨fuel, h⟩ := h
 obtain ⟨hl, hf⟩ := dW CZ h
 obtain ⟨y0, h0⟩ := Rd.at (t := 25) (i := 0) hf rd3 rfl
 obtain ⟨y1, h1⟩ := Rd.at (t := 25) (i := 1) hf Df rfl
 obtain ⟨n, z, hz⟩ := hf 2 _ rfl
 obtain ⟨y2, h2⟩ := Dh.rd _ _ _ hz
 have hb := (zk Tryz.underlying23 hz h2).1
 have hr : te.rel (cH W) (⟨y0, y1, y2⟩ : GConj) (Value.cells v).toList := DY hl fun i f hi => by
  match i, hi with
  | 0, hi => cases hi; exact h0
  | 1, hi => cases hi; exact h1
  | 2, hi => cases hi; exact h2
  | n + 3, hi => simp [uF] at hi
 refine ⟨⟨y0, y1, y2⟩, te.iff.2 ⟨_, hr, ?_⟩, hb⟩
 have hl2 := te.len hr
 unfold packV
 rw [show te.agg = true from rfl]
 cases v with
 | agg cs => simp [Value.cells]
 | _ => simp [Value.cells] at hl2; exact absurd hl2.symm (by decide)
theorem inv_of {W : World} (h : Lib.TabIs Tryz.prog W "internal/strconv.uint64pow10" .u64 Lib.pow10Tab) : Inv (cH W) := by
 have hg : Tryz.prog.globalNamed "internal/strconv.uint64pow10" = some tabG := by kernel_rfl
 unfold Lib.TabIs World.var? at h
 rw [hg] at h
 simp only [Option.bind_some] at h
 unfold Inv cH
 cases hb : W.heap[tabG]? with
 | none => rw [hb] at h; cases h
 | some o =>
   rw [hb] at h
   cases o with
   | cells cs e fz => exact ⟨e, fz, by injection h with h; rw [h]; rfl⟩
   | _ => cases h
end Lg
namespace Go.Proofs.YtgaclpkapapjdaaGreatDoor
open Go.ChangeShapes Go.WideShapes Go.ChangeAt Go.RowKit
theorem own : ownKnob Tryz.prog.godebug = none := by kernel_rfl
theorem laidOut : laidOutB Tryz.prog = true := by kernel_rfl
theorem size25 : (25 : Nat) < Tryz.prog.types.size := of_decide_eq_true (by kernel_rfl)
theorem rec25 : Tryz.prog.readableRec 25 = true := by kernel_rfl
theorem want25 : Tryz.prog.wantsStandIn 25 = false := by kernel_rfl
abbrev laidL : List (String × DataW Unit) := [("math/bits.deBruijn32tab", Rows.laid_math_bits_deBruijn32tab), ("math/bits.deBruijn64tab", Rows.laid_math_bits_deBruijn64tab), ("internal/strconv.uint64pow10", Rows.laid_internal_strconv_uint64pow10)]
noncomputable def laidWorld (os : Os) : World := World.laidAll Tryz.prog os laidL
theorem tab_of {W : World} (h : laidMet Tryz.prog laidL W) : Lib.TabIs Tryz.prog W "internal/strconv.uint64pow10" .u64 Lib.pow10Tab :=
 Lib.tabIs_of_head (g := Lg.tabG) (t := 388) (e := 232) (n := 20) (rest := []) (by kernel_rfl) (by kernel_rfl) Tryz.underlying388 Tryz.underlying232 (by kernel_rfl) (by kernel_rfl) h.tail.tail
theorem noLooks : true = Tryz.pinned.checked.prog.looks [] := by kernel_rfl
end Go.Proofs.YtgaclpkapapjdaaGreatDoor
namespace Lg
open Go Go.Proofs Go.Proofs.Tryz
theorem Ct {H : Type} {enc : TypeId × Value -> H} {P : Program} {W : World} {base : Nat} {t : Nat} {v : Value} {d : DataW H} {p : List MemPlace} (hu : P.underlying t = some (.int .i64)) (hok : Value.okWide P W .any base t v) (h : DataW.Trod enc P W 0 (fun _ => true) true t v d p) :
  ∃ n : Int, (tV (.int .i64 n)).p (cH W) v := by
 obtain ⟨n, rfl⟩ := Go.WideShapes.okWide_int hu hok
 exact ⟨n, rfl⟩
end Lg
namespace Go.Proofs.YtgaclpkapapjdaaGreatDoor
open Go.ChangeShapes Go.WideShapes Go.ChangeAt Go.RowKit
end Go.Proofs.YtgaclpkapapjdaaGreatDoor
namespace Lg
open Go Go.Proofs Go.Proofs.Tryz
section
variable {H : Type} {enc : TypeId × Value -> H} {P : Program} {W : World}
structure RdQ {α H : Type} (enc : TypeId × Value -> H) (P : Program) (W : World) (t : Nat) (R : Rp α) (Q : α -> Prop) : Prop where
 k : P.cellsOf t = R.k
 rd : ∀ fuel cs x, DataW.trod enc P W 0 (fun _ => true) true fuel t cs = some x -> ∃ y, R.rel (cH W) y cs /\ Q y
theorem RdQ.str {t : Nat} (hT : TyOf P t eH) (hu : P.underlying t = some .string) : RdQ enc P W t eH (fun s => s.size <= 9223372036854775807) where
 k := hT.cells W
 rd := fun _ _ _ h => by
  obtain ⟨n, rfl, _, hm⟩ := DataW.trod_string hu h
  have : maxLen = 9223372036854775807 := by decide
  exact ⟨n, rfl, by omega⟩
theorem zl {α : Type} {t e N : Nat} {R : Rp α} {Q : α -> Prop} (hu : P.underlying t = some (.slice e)) (hk : 0 < R.k) (hc : P.cellsOf e = R.k)
  (hR : ∀ n, N = n + 1 -> ∀ cs x, DataW.trod enc P W 0 (fun _ => true) true n e cs = some x -> ∃ y, R.rel (cH W) y cs /\ Q y) {cs : List Value} {x : DataW H × List MemPlace} (h : DataW.trod enc P W 0 (fun _ => true) true N t cs = some x) :
  ∃ y, (rSl R).rel (cH W) y cs /\ y.length <= 9223372036854775807 /\ ∀ a ∈ y, Q a := by
 rcases DataW.trod_slice hu h with ⟨rfl, _⟩ | ⟨a, len, cap, elems, rest, n, hN, rfl, _, _, hlc, hmx, hlen, hel, _, _⟩
 · exact ⟨[], ⟨_, rfl, none, ⟨0, Nat.le_refl _⟩, rfl, fun q => absurd rfl q⟩, Nat.zero_le _, fun a ha => by cases ha⟩
 have hall : ∀ i : Fin len, ∃ y, (∃ cs, W.cells? 0 (a.add (i.1 * R.k)) R.k = some cs /\ R.rel (cH W) y cs) /\ Q y := fun i => by
  have h1 := hel i.1 i.2
  rw [List.getElem?_eq_getElem (by omega : i.1 < elems.length), Option.bind_eq_some_iff] at h1
  obtain ⟨cs, h2, h3⟩ := h1
  obtain ⟨y, hy, hq⟩ := hR n hN _ _ h3
  rw [hc] at h2
  exact ⟨y, ⟨cs, h2, hy⟩, hq⟩
 let f : Fin len -> α := fun i => Classical.choose (hall i)
 have hf : ∀ i : Fin len, ∃ cs, W.cells? 0 (a.add (i.1 * R.k)) R.k = some cs /\ R.rel (cH W) (f i) cs := fun i => (Classical.choose_spec (hall i)).1
 have hfq : ∀ i : Fin len, Q (f i) := fun i => (Classical.choose_spec (hall i)).2
 have hml : maxLen = 9223372036854775807 := by decide
 refine ⟨List.ofFn f, ⟨_, rfl, some a, ⟨cap, by rw [List.length_ofFn]; exact hlc⟩, by show Value.slice (some a) len cap = Value.slice (some a) (List.ofFn f).length cap; rw [List.length_ofFn], fun hne => ?_⟩, by rw [List.length_ofFn]; omega, fun y hy => ?_⟩
 · have hl0 : 0 < len := by
     rcases Nat.eq_zero_or_pos len with h0 | h0
     · exfalso; apply hne; subst h0; simp
     · exact h0
   have hsp : a.spot = none := by
    obtain ⟨cs, h1, h2⟩ := hf ⟨0, hl0⟩
    obtain ⟨_, h3, h4⟩ := World.cells?_some h1
    have h5 := h4 0 hk
    rw [List.getElem?_eq_getElem (by omega : 0 < cs.length)] at h5
    have h6 : (a.add (0 * R.k)).add 0 = a := by simp [Addr.add]
    rw [h6] at h5
    exact World.cell?_spot h5
   obtain ⟨b, off, sp⟩ := a
   simp only at hsp
   subst hsp
   refine ⟨b, off, rfl, fun i y hy => ?_⟩
   have hi : i < len := by have := (List.getElem?_eq_some_iff.1 hy).1; simpa using this
   have hy' : f ⟨i, hi⟩ = y := by
    rw [List.getElem?_eq_getElem (by simpa using hi)] at hy
    simpa using hy
   obtain ⟨cs, h1, h2⟩ := hf ⟨i, hi⟩
   obtain ⟨_, h3, h4⟩ := World.cells?_some h1
   rw [hy'] at h2
   refine ⟨cs, np hk h3 fun j hj => ?_, h2⟩
   have := h4 j hj
   simp only [cK] at this
   exact this
 · obtain ⟨i, rfl⟩ := (List.mem_ofFn).1 hy
   exact hfq i
theorem RdQ.sl {α : Type} {t e : Nat} {R : Rp α} {Q : α -> Prop} (hT : TyOf P t (rSl R)) (hu : P.underlying t = some (.slice e)) (hR : RdQ enc P W e R Q) (hk : 0 < R.k) : RdQ enc P W t (rSl R) (fun xs => xs.length <= 9223372036854775807 /\ ∀ a ∈ xs, Q a) where
 k := hT.cells W
 rd := fun fuel cs x h => zl hu hk hR.k (fun n _ cs x hx => hR.rd n cs x hx) h
theorem RdQ.at {α β : Type} {t : Nat} {fs : List (SF α)} {cs : List Value} {i : Nat} {T : Nat} {R : Rp β} {Q : β -> Prop} {get : α -> β} (hf : ∀ (i : Nat) (f : SF α), fs[i]? = some f -> ∃ n z, DataW.trod enc P W 0 (fun _ => true) true n f.T ((cs.drop (SF.off fs i)).take f.R.k) = some z)
  (hR : RdQ enc P W T R Q) (hi : fs[i]? = some ⟨β, T, R, get⟩) : ∃ y, R.rel (cH W) y ((cs.drop (SF.off fs i)).take R.k) /\ Q y := by
 obtain ⟨n, z, hz⟩ := hf i _ hi
 exact hR.rd _ _ _ hz
end
section
variable {H : Type} {enc : TypeId × Value -> H} {W : World}
def BU (s : ByteArray) : Prop := s.size <= 9223372036854775807
def xc (a : GAttr) : Prop := BU a.Name /\ ∀ x ∈ a.Was, BU x
theorem rq9 : RdQ enc Tryz.prog W 9 eH BU := RdQ.str ty9 Tryz.underlying9
theorem Di : RdQ enc Tryz.prog W 85 (rSl eH) (fun xs => xs.length <= 9223372036854775807 /\ ∀ a ∈ xs, BU a) := RdQ.sl yD Tryz.underlying85 rq9 (by decide)
theorem Dj : RdQ enc Tryz.prog W 89 aS xc where
 k := ct.cells W
 rd := fun fuel cs x h => by
  obtain ⟨hl, hf⟩ := dW dH h
  obtain ⟨y0, h0, q0⟩ := RdQ.at (t := 89) (i := 0) hf rq9 rfl
  obtain ⟨y1, h1⟩ := Rd.at (t := 89) (i := 1) hf rd3 rfl
  obtain ⟨y2, h2, q2⟩ := RdQ.at (t := 89) (i := 2) hf Di rfl
  obtain ⟨y3, h3⟩ := Rd.at (t := 89) (i := 3) hf BT rfl
  refine ⟨⟨y0, y1, y2, y3⟩, DY hl fun i f hi => ?_, q0, q2.2⟩
  match i, hi with
  | 0, hi => cases hi; exact h0
  | 1, hi => cases hi; exact h1
  | 2, hi => cases hi; exact h2
  | 3, hi => cases hi; exact h3
  | n + 4, hi => simp [uJ] at hi
theorem CP : RdQ enc Tryz.prog W 44 (rSl aS) (fun xs => xs.length <= 9223372036854775807 /\ ∀ a ∈ xs, xc a) := RdQ.sl bQ Tryz.underlying44 Dj (by decide)
theorem Dk : Rd enc Tryz.prog W 44 (rSl aS) := ⟨bQ.cells W, fun f cs x h => let ⟨y, hy, _⟩ := (CP (enc := enc) (W := W)).rd f cs x h; ⟨y, hy⟩⟩
theorem Dl : RdQ enc Tryz.prog W 76 cc (fun t => ∀ a ∈ t.Attrs, xc a) where
 k := g8.cells W
 rd := fun fuel cs x h => by
  obtain ⟨hl, hf⟩ := dW eu h
  obtain ⟨y0, h0⟩ := Rd.at (t := 76) (i := 0) hf rd9 rfl
  obtain ⟨y1, h1, q1⟩ := RdQ.at (t := 76) (i := 1) hf CP rfl
  obtain ⟨y2, h2⟩ := Rd.at (t := 76) (i := 2) hf BJ rfl
  refine ⟨⟨y0, y1, y2⟩, DY hl fun i f hi => ?_, q1.2⟩
  match i, hi with
  | 0, hi => cases hi; exact h0
  | 1, hi => cases hi; exact h1
  | 2, hi => cases hi; exact h2
  | n + 3, hi => simp [qZ] at hi
theorem Dm : RdQ enc Tryz.prog W 39 (rSl cc) (fun xs => xs.length <= 9223372036854775807 /\ ∀ t ∈ xs, ∀ a ∈ t.Attrs, xc a) := RdQ.sl g5 Tryz.underlying39 Dl (by decide)
theorem Dn : RdQ enc Tryz.prog W 41 aV (fun s => ∀ t ∈ s.Tables, ∀ a ∈ t.Attrs, xc a) where
 k := fR.cells W
 rd := fun fuel cs x h => by
  obtain ⟨hl, hf⟩ := dW g6 h
  obtain ⟨y0, h0, q0⟩ := RdQ.at (t := 41) (i := 0) hf Dm rfl
  refine ⟨⟨y0⟩, DY hl fun i f hi => ?_, q0.2⟩
  match i, hi with
  | 0, hi => cases hi; exact h0
  | n + 1, hi => simp [nZ] at hi
theorem CQ : Rd enc Tryz.prog W 91 kq where
 k := sr.cells W
 rd := fun fuel cs x h => by
  obtain ⟨hl, hf⟩ := dW fQ h
  obtain ⟨y0, h0⟩ := Rd.at (t := 91) (i := 0) hf rd3 rfl
  obtain ⟨y1, h1⟩ := Rd.at (t := 91) (i := 1) hf rd3 rfl
  obtain ⟨y2, h2⟩ := Rd.at (t := 91) (i := 2) hf BT rfl
  refine ⟨⟨y0, y1, y2⟩, DY hl fun i f hi => ?_⟩
  match i, hi with
  | 0, hi => cases hi; exact h0
  | 1, hi => cases hi; exact h1
  | 2, hi => cases hi; exact h2
  | n + 3, hi => simp [uH] at hi
theorem Do : Rd enc Tryz.prog W 93 be where
 k := fd.cells W
 rd := fun fuel cs x h => by
  obtain ⟨hl, hf⟩ := dW gd h
  obtain ⟨y0, h0⟩ := Rd.at (t := 93) (i := 0) hf CQ rfl
  obtain ⟨y1, h1⟩ := Rd.at (t := 93) (i := 1) hf rd3 rfl
  obtain ⟨y2, h2⟩ := Rd.at (t := 93) (i := 2) hf CQ rfl
  obtain ⟨y3, h3⟩ := Rd.at (t := 93) (i := 3) hf rd3 rfl
  refine ⟨⟨y0, y1, y2, y3⟩, DY hl fun i f hi => ?_⟩
  match i, hi with
  | 0, hi => cases hi; exact h0
  | 1, hi => cases hi; exact h1
  | 2, hi => cases hi; exact h2
  | 3, hi => cases hi; exact h3
  | n + 4, hi => simp [uI] at hi
theorem Dp : Rd enc Tryz.prog W 43 (rSl be) := Rd.sl iN Tryz.underlying43 Do (by decide)
theorem zm : ∀ {m n : Nat} {p : aG}, Dep m p -> jJ m p -> m <= n -> jJ n p
 | 0, _, _, hd, _, _ => hd.elim
 | m + 1, 0, _, _, _, h => absurd h (by omega)
 | m + 1, n + 1, p, hd, ⟨h1, h2⟩, h => ⟨h1, fun q hq => zm (hd q hq) (h2 q hq) (by omega)⟩
theorem BK : ∀ (N : Nat) {cs : List Value} {x : DataW H × List MemPlace}, DataW.trod enc Tryz.prog W 0 (fun _ => true) true N 46 cs = some x -> ∃ y, (aR N).rel (cH W) y cs /\ jJ N y := by
 intro N
 induction N using Nat.strongRecOn with
 | ind N ih =>
   intro cs x h
   obtain ⟨n, rfl, hl, hf⟩ := BX (br (n := 0)) h
   obtain ⟨z0, e0⟩ := hf 0 _ rfl
   obtain ⟨z1, e1⟩ := hf 1 _ rfl
   obtain ⟨z2, e2⟩ := hf 2 _ rfl
   obtain ⟨z3, e3⟩ := hf 3 _ rfl
   obtain ⟨z4, e4⟩ := hf 4 _ rfl
   obtain ⟨z5, e5⟩ := hf 5 _ rfl
   obtain ⟨z6, e6⟩ := hf 6 _ rfl
   obtain ⟨z7, e7⟩ := hf 7 _ rfl
   obtain ⟨y0, h0⟩ := rd3.rd _ _ _ e0
   obtain ⟨y1, h1⟩ := rd3.rd _ _ _ e1
   obtain ⟨y2, h2, q2⟩ := zl (R := aR n) (Q := jJ n) Tryz.underlying42 (by rw [show (aR n).k = 8 from rPl_k _ _ _ n]; omega) (by rw [show (aR n).k = 8 from rPl_k _ _ _ n]; exact (dl (n := 0)).cells W) (fun m hm cs x hx => by
    obtain ⟨y, hy, hq⟩ := ih m (by omega) hx
    exact ⟨y, rPl_le cPl aS be (by omega) hy, zm (pM hy) hq (by omega)⟩) e2
   obtain ⟨y3, h3⟩ := Dp.rd _ _ _ e3
   obtain ⟨y4, h4⟩ := BJ.rd _ _ _ e4
   obtain ⟨y5, h5⟩ := rd3.rd _ _ _ e5
   obtain ⟨y6, h6⟩ := rd3.rd _ _ _ e6
   obtain ⟨y7, h7⟩ := Dk.rd _ _ _ e7
   refine ⟨GPl.mk y0 y1 y2 y3 y4 y5 y6 y7, DY (fs := fsPl cPl aS be (aR n)) hl fun i f hi => ?_, q2⟩
   match i, hi with
   | 0, hi => cases hi; exact h0
   | 1, hi => cases hi; exact h1
   | 2, hi => cases hi; exact h2
   | 3, hi => cases hi; exact h3
   | 4, hi => cases hi; exact h4
   | 5, hi => cases hi; exact h5
   | 6, hi => cases hi; exact h6
   | 7, hi => cases hi; exact h7
   | n + 8, hi => simp [fsPl] at hi
end
theorem zn {α H : Type} {enc : TypeId × Value -> H} {W : World} {t : Nat} {R : Rp α} {v : Value} {x : α} (r : R.rel (cH W) x (Value.cells v).toList) (hg : R.agg = true) (hk : R.k ≠ 1) : (R.ty x).p (cH W) v := by
 refine R.iff.2 ⟨_, r, ?_⟩
 have hl := R.len r
 unfold packV
 rw [hg]
 cases v with
 | agg cs => simp [Value.cells]
 | _ => simp [Value.cells] at hl; exact absurd hl.symm hk
set_option maxRecDepth 100000 in
theorem arg_sc {H : Type} {enc : TypeId × Value -> H} {W : World} {base : Nat} {v : Value} {d : DataW H} {p : List MemPlace} (hok : Value.okWide Tryz.prog W .any base 41 v) (h : DataW.Trod enc Tryz.prog W 0 (fun _ => true) true 41 v d p) :
  ∃ s : GSchema, (aV.ty s).p (cH W) v /\ ∀ t ∈ s.Tables, ∀ x ∈ namesL t.Attrs, x.size <= 9223372036854775807 := by
 simp only [Value.okWide, Tryz.underlying41] at hok
 obtain ⟨cs, rfl, _⟩ := hok
 obtain ⟨fuel, h⟩ := h
 obtain ⟨s, r, hq⟩ := Dn.rd _ _ _ h
 refine ⟨s, ?_, fun t ht x hx => ?_⟩
 · refine aV.iff.2 ⟨_, r, ?_⟩
   unfold packV
   rw [show aV.agg = true from rfl]
   simp [Value.cells]
 · unfold namesL at hx
   obtain ⟨a, ha, hx⟩ := List.mem_flatMap.1 hx
   have := hq t ht a ha
   rcases List.mem_cons.1 hx with rfl | hx
   · exact this.1
   · exact this.2 x hx
theorem BL {H : Type} {enc : TypeId × Value -> H} {W : World} {v : Value} {d : DataW H} {p : List MemPlace} (h : DataW.Trod enc Tryz.prog W 0 (fun _ => true) true 46 v d p) :
  ∃ (n : Nat) (q : aG), ((aR n).ty q).p (cH W) v /\ jJ n q /\ Dep n q := by
 obtain ⟨fuel, h⟩ := h
 obtain ⟨q, r, hq⟩ := BK fuel h
 exact ⟨fuel, q, zn (enc := enc) (t := 46) r (rPl_agg _ _ _ _) (by rw [show (aR fuel).k = 8 from rPl_k _ _ _ fuel]; omega), hq, pM r⟩
end Lg
namespace Go.Proofs.YtgaclpkapapjdaaGreatDoor
open Go.ChangeShapes Go.WideShapes Go.ChangeAt Go.RowKit
theorem size41 : (41 : Nat) < Tryz.prog.types.size := of_decide_eq_true (by kernel_rfl)
theorem rec41 : Tryz.prog.readableRec 41 = true := by kernel_rfl
theorem want41 : Tryz.prog.wantsStandIn 41 = false := by kernel_rfl
theorem size46 : (46 : Nat) < Tryz.prog.types.size := of_decide_eq_true (by kernel_rfl)
theorem rec46 : Tryz.prog.readableRec 46 = true := by kernel_rfl
theorem want46 : Tryz.prog.wantsStandIn 46 = false := by kernel_rfl
end Go.Proofs.YtgaclpkapapjdaaGreatDoor
namespace Lg
open Go Go.Proofs Go.Proofs.Tryz
section
variable {H : Type} {enc : TypeId × Value -> H} {W : World}
theorem rq3 : RdQ enc Tryz.prog W 3 bg (fun _ => True) := ⟨ty3.cells W, fun f cs x h => let ⟨y, hy⟩ := (rd3 (enc := enc) (W := W)).rd f cs x h; ⟨y, hy, trivial⟩⟩
theorem Dq : RdQ enc Tryz.prog W 36 (rSl bg) (fun xs => xs.length <= 9223372036854775807 /\ ∀ a ∈ xs, True) := RdQ.sl bY Tryz.underlying36 rq3 (by decide)
theorem Dr : RdQ enc Tryz.prog W 58 (rSl (rSl bg)) (fun xs => xs.length <= 9223372036854775807 /\ ∀ a ∈ xs, a.length <= 9223372036854775807 /\ ∀ b ∈ a, True) := RdQ.sl nq Tryz.underlying58 Dq (by decide)
theorem Dt : RdQ enc Tryz.prog W 60 bA (fun s => s.Distinct.length <= 9223372036854775807) where
 k := gh.cells W
 rd := fun fuel cs x h => by
  obtain ⟨hl, hf⟩ := dW iO h
  obtain ⟨y0, h0⟩ := Rd.at (t := 60) (i := 0) hf BJ rfl
  obtain ⟨y1, h1, q1⟩ := RdQ.at (t := 60) (i := 1) hf Dr rfl
  refine ⟨⟨y0, y1⟩, DY hl fun i f hi => ?_, q1.1⟩
  match i, hi with
  | 0, hi => cases hi; exact h0
  | 1, hi => cases hi; exact h1
  | n + 2, hi => simp [n3] at hi
theorem Du : RdQ enc Tryz.prog W 87 rValue (fun _ => True) := ⟨jp.cells W, fun f cs x h => let ⟨y, hy⟩ := (BT (enc := enc) (W := W)).rd f cs x h; ⟨y, hy, trivial⟩⟩
theorem Dv : RdQ enc Tryz.prog W 22 (rSl rValue) (fun xs => xs.length <= 9223372036854775807 /\ ∀ a ∈ xs, True) := RdQ.sl fh Tryz.underlying22 Du (by decide)
theorem Dw : RdQ enc Tryz.prog W 73 (rSl (rSl rValue)) (fun xs => xs.length <= 9223372036854775807 /\ ∀ a ∈ xs, a.length <= 9223372036854775807 /\ ∀ b ∈ a, True) := RdQ.sl kp Tryz.underlying73 Dv (by decide)
end
theorem arg_sx {H : Type} {enc : TypeId × Value -> H} {W : World} {base : Nat} {v : Value} {d : DataW H} {p : List MemPlace} (h : DataW.Trod enc Tryz.prog W 0 (fun _ => true) true 60 v d p) :
  ∃ s : GStats, (bA.ty s).p (cH W) v /\ s.Distinct.length <= 9223372036854775807 := by
 obtain ⟨fuel, h⟩ := h
 obtain ⟨s, r, hq⟩ := Dt.rd _ _ _ h
 exact ⟨s, zn (enc := enc) (t := 60) r rfl (by decide), hq⟩
theorem arg_pe {H : Type} {enc : TypeId × Value -> H} {W : World} {v : Value} {d : DataW H} {p : List MemPlace} (h : DataW.Trod enc Tryz.prog W 0 (fun _ => true) true 46 v d p) :
  ∃ q : aG, (bO.ty q).p (cH W) v /\ qE q := by
 obtain ⟨n, q, hv, hl, hd⟩ := BL h
 exact ⟨q, Sub.pn _ _ hv, wK hd hl⟩
end Lg
namespace Go.Proofs.YtgaclpkapapjdaaGreatDoor
open Go.ChangeShapes Go.WideShapes Go.ChangeAt Go.RowKit
theorem size60 : (60 : Nat) < Tryz.prog.types.size := of_decide_eq_true (by kernel_rfl)
theorem rec60 : Tryz.prog.readableRec 60 = true := by kernel_rfl
theorem want60 : Tryz.prog.wantsStandIn 60 = false := by kernel_rfl
end Go.Proofs.YtgaclpkapapjdaaGreatDoor
namespace Lg
open Go Go.Proofs Go.Proofs.Tryz
section
variable {H : Type} {enc : TypeId × Value -> H} {W : World}
theorem Dx : RdQ enc Tryz.prog W 61 (rSl (rSl (rSl rValue))) (fun xs => xs.length <= 9223372036854775807 /\ ∀ a ∈ xs, a.length <= 9223372036854775807 /\ ∀ b ∈ a, b.length <= 9223372036854775807 /\ ∀ c ∈ b, True) := RdQ.sl BY Tryz.underlying61 Dw (by decide)
end
set_option maxRecDepth 100000 in
theorem arg_tb {H : Type} {enc : TypeId × Value -> H} {W : World} {base : Nat} {v : Value} {d : DataW H} {p : List MemPlace} (hok : Value.okWide Tryz.prog W .any base 61 v) (h : DataW.Trod enc Tryz.prog W 0 (fun _ => true) true 61 v d p) :
  ∃ xs : List (List (List GValue)), (tSl (rSl (rSl rValue)) xs).p (cH W) v /\ ∀ t ∈ xs, t.length <= 9223372036854775807 := by
 obtain ⟨a, len, cap, rfl⟩ := Go.WideShapes.okWide_slice Tryz.underlying61 hok
 obtain ⟨fuel, h⟩ := h
 obtain ⟨xs, ⟨u, e1, e2⟩, hq⟩ := Dx.rd _ _ _ h
 have : Value.slice a len cap = u := (List.cons.inj e1).1
 exact ⟨xs, this ▸ e2, fun t ht => (hq.2 t ht).1⟩
end Lg
namespace Go.Proofs.YtgaclpkapapjdaaGreatDoor
open Go.ChangeShapes Go.WideShapes Go.ChangeAt Go.RowKit
theorem size61 : (61 : Nat) < Tryz.prog.types.size := of_decide_eq_true (by kernel_rfl)
theorem rec61 : Tryz.prog.readableRec 61 = true := by kernel_rfl
theorem want61 : Tryz.prog.wantsStandIn 61 = false := by kernel_rfl
end Go.Proofs.YtgaclpkapapjdaaGreatDoor
