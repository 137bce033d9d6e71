/- A part of the proof of the law PlannerMatchesReference: contracts of functions that the law reaches, and facts about what they compute. -/
import Derived.Test.YtgaclpkapapjdaaGreatDoorB
set_option linter.unusedVariables false
set_option linter.unusedSimpArgs false
set_option linter.unusedSectionVars false
set_option maxHeartbeats 16000000
namespace Lg
open Go Go.Proofs Go.Proofs.Tryz
theorem nx {α : Type} [Inhabited α] {p : α -> Bool} : ∀ {l : List α} {i : Nat} {s : Int}, i < l.length -> (∀ k, k < i -> p (nth l k) = false) -> p (nth l i) = true -> findI p s l = s + i
  | [], i, s, h, _, _ => absurd h (Nat.not_lt_zero _)
  | x :: l, 0, s, _, _, hp => by
    have : p x = true := hp
    simp [findI, this]
  | x :: l, i + 1, s, h, hn, hp => by
    have h0 : p x = false := hn 0 (by omega)
    have := nx (p := p) (l := l) (i := i) (s := s + 1) (by simpa using h) (fun k hk => hn (k + 1) (by omega)) hp
    simp [findI, h0, this]; omega
theorem iD {α : Type} [Inhabited α] {p : α -> Bool} {l : List α} {i : Nat} (h : i < l.length) (hn : ∀ k, k < i -> p (nth l k) = false) (hp : p (nth l i) = true) : findI p 0 l = i := by
  rw [nx h hn hp]; omega
theorem lB {α : Type} [Inhabited α] {p : α -> Bool} {l : List α} (hn : ∀ k, k < l.length -> p (nth l k) = false) : findI p 0 l = -1 := by
  have h := fu p l 0 (by omega)
  have : ¬ l.any p = true := by
    intro q
    obtain ⟨x, hx, hp⟩ := List.any_eq_true.1 q
    obtain ⟨k, hk, rfl⟩ := List.getElem_of_mem hx
    have := hn k hk
    rw [nth_get hk] at this; rw [this] at hp; cases hp
  have := mt h.2.2.1 this
  omega
theorem uT {l : List ByteArray} (h : ∀ k j, j < k -> k < l.length -> nth l j ≠ nth l k) : l.Nodup := by
  refine List.pairwise_iff_getElem.2 fun i j hi hj hij => ?_
  have := h j i hij hj
  rwa [nth_get hi, nth_get hj] at this
theorem uU {l : List ByteArray} {j k : Nat} (hjk : j < k) (hk : k < l.length) (e : nth l j = nth l k) : ¬ l.Nodup := by
  intro h
  have := List.pairwise_iff_getElem.1 h j k (by omega) hk hjk
  rw [nth_get (by omega), nth_get hk] at e
  exact this e
theorem xD (s : ByteArray) : decide (1 <= (s.size : Int)) = !decide (s = ⟨#[]⟩) := by
  by_cases h : s = ⟨#[]⟩
  · subst h; rfl
  · have : s.size ≠ 0 := by
      intro q
      apply h
      obtain ⟨⟨l⟩⟩ := s
      simp only [ByteArray.size, Array.size] at q
      have : l = [] := List.eq_nil_of_length_eq_zero q
      rw [this]
    rw [show decide (1 <= (s.size : Int)) = true by rw [decide_eq_true_eq]; omega]; simp [h]
theorem tC (k : Int) : Fun1 prog 214 [tV (.int .i64 k)] (tV (.bool (decide (1 <= k) && decide (k <= 4)))) := by
 refine Spec.enter func214 rfl rfl fun h0 w0 fr0 => ?_
 refine Jr (Za (ae (Jr (Zm (Zs (bE Sr Sr) ?_)))))
 refine Zm ?_
 refine Zk (al Sr) ?_
 refine Zg (fun hw => bM (Sub.w hw) Sr) (Zs (aw Sr Sr) (Za (ae (aF ?_))))
 exact aK (t := 2) rfl () Sr
theorem pC (kind : Int) (v : GValue) : Fun1 prog 143 [tV (.int .i64 kind), rValue.ty v] (tV (.bool (tg kind v))) := by
 refine Spec.enter func143 rfl rfl fun h0 w0 fr0 => ?_
 refine Jr (Zs (aJ (R := rValue) Sr) (Za (ae (Jr (Zl jp Sr ?_)))))
 refine Zs (ai (iZ _) ⟨Sr, trivial⟩ call75) (Zm ?_)
 refine Zk (aa eT Sr rfl) ?_
 refine Zg (fun hw => ab ty3 (Sub.w hw)) (Zg (fun hw => aC (Sub.w hw) Sr) (Zg (fun hw => al (Sub.w hw)) ?_))
 refine Ji rfl Sr rfl (aa eT Sr rfl) ?_
 refine Jh rfl Sr rfl (fun hw => ab ty3 (Sub.w hw)) ?_
 refine Ji rfl Sr rfl (al Sr) ?_
 refine Jh rfl Sr rfl (fun hw => aC (Sub.w hw) (Sub.w hw)) (Zg (fun hw => az (Sub.w hw) (D9 hw)) (Zs (aw Sr Sr) (Za (ae (aF ?_)))))
 exact aK (t := 4) rfl () Sr
theorem ny (s : ByteArray) (hs : s.size <= 9223372036854775807) : Fun1 prog 212 [tV (.string s)] (tV (.bool (gM s))) := by
 refine Spec.enter func212 rfl rfl fun h0 w0 fr0 => ?_
 refine Jr (Za (ae (ar (Jr (Za ?_)))))
 refine ae (av ?_)
 refine aO (σ := Nat) (fun i => i <= s.size /\ ∀ k, k < i -> nmC s k = true) (fun i => upd (upd cg 0 (tV (.string s))) 3 (tV (.int .i64 i))) (fun i => []) (fun i => s.size - i) 0 ⟨by omega, fun k hk => by omega⟩ (zU) (LSub.rfl) ?_
 rintro i ⟨hi, hv⟩
 refine ar (Jr (Zm (Zm (Zs (df underlying9 Sr) (Zs (aA Sr Sr) ?_)))))
 refine ae ?_
 refine au Sr (fun h9 => ?_) (fun h9 => ?_)
 ·
  try simp only [NF] at h9
  have hlt : i < s.size := by omega
  refine ay (ar (av (Jr (Zm (Zm ?_)))))
  refine Zs (cO (i := i) underlying9 Sr Sr (by rfl) (by exact hlt)) ?_
  refine Zs (bE Sr Sr) (Zm ?_)
  refine Zk (al Sr) ?_
  refine Zk (al Sr) ?_
  refine Zg (fun hw => cO (i := i) underlying9 (Sub.w hw) (Sub.w hw) (by rfl) (by have hwq := hw; (try simp only [beqB_t, beqB_f, NF] at hwq); exact hlt)) ?_
  refine Zg (fun hw => bM (Sub.w hw) Sr) (Zs (aw Sr Sr) (Zm ?_))
  refine Zk (al Sr) ?_
  refine Zk (al Sr) ?_
  refine Zg (fun hw => cO (i := i) underlying9 (Sub.w hw) (Sub.w hw) (by rfl) (by have hwq := hw; (try simp only [beqB_t, beqB_f, NF] at hwq); exact hlt)) ?_
  refine Zg (fun hw => bE (Sub.w hw) Sr) (Zg (fun hw => al (Sub.w hw)) ?_)
  refine Ji rfl Sr rfl (al Sr) ?_
  refine Ji rfl Sr rfl (al Sr) ?_
  refine Jh rfl Sr rfl (fun hw => cO (i := i) underlying9 (Sub.w hw) (Sub.w hw) (by rfl) (by have hwq := hw; (try simp only [beqB_t, beqB_f, NF] at hwq); exact hlt)) ?_
  refine Jh rfl Sr rfl (fun hw => bM (Sub.w hw) Sr) (Zg (fun hw => aw (Sub.w hw) (D9 hw)) (Zs (az Sr Sr) (Za (ae (Jr ?_)))))
  refine Zm (Zm ?_)
  refine Zs (cO (i := i) underlying9 Sr Sr (by rfl) (by exact hlt)) ?_
  refine Zs (bE Sr Sr) (Zm ?_)
  refine Zk (al Sr) ?_
  refine Zk (al Sr) ?_
  refine Zg (fun hw => cO (i := i) underlying9 (Sub.w hw) (Sub.w hw) (by rfl) (by have hwq := hw; (try simp only [beqB_t, beqB_f, NF] at hwq); exact hlt)) ?_
  refine Zg (fun hw => bM (Sub.w hw) Sr) (Zs (aw Sr Sr) (Zm ?_))
  refine Zk (al Sr) ?_
  refine Zk (al Sr) ?_
  refine Zg (fun hw => cO (i := i) underlying9 (Sub.w hw) (Sub.w hw) (by rfl) (by have hwq := hw; (try simp only [beqB_t, beqB_f, NF] at hwq); exact hlt)) ?_
  refine Zg (fun hw => aC (Sub.w hw) Sr) (Zs (az Sr Sr) (Za (ae (Jr (Zm ?_)))))
  refine Zs (bf Sr) (Zm ?_)
  refine Zk (al Sr) ?_
  refine Zg (fun hw => aC (Sub.w hw) Sr) (Zg (fun hw => al (Sub.w hw)) ?_)
  refine Ji rfl Sr rfl (al Sr) ?_
  refine Jh rfl Sr rfl (fun hw => bf (Sub.w hw)) (Zg (fun hw => az (Sub.w hw) (D9 hw)) (Zs (aw Sr Sr) (ae ?_)))
  refine au Sr (fun h59 => ?_) (fun h59 => ?_)
  ·
   try simp only [NF] at h59
   refine Jr (Za (ae (aF ?_)))
   refine aK (t := 2) rfl () ?_
   refine Sub.bool ?_
   have : nmC s i = false := by simp_all [nmC, uL, uM]; omega
   simp only [gM, eV hlt this]; simp
  try simp only [NF] at h59
  refine ay (aq (Zm (Zs (aB Sr Sr z6) (Za (ae ?_)))))
  refine aE (σ := Nat) (s := i) (i + 1) zO ?_ (zU) (LSub.rfl)
  refine ⟨by omega, fun k hk => ?_⟩
  by_cases e : k = i
  ·
   subst e; first | exact hnm | (simp_all [nmC, uL, uM]; done) | (simp_all [nmC, uL, uM]; omega)
  exact hv k zG
 try simp only [NF] at h9
 have hall : (List.range s.size).all (nmC s) = true := eU (fun k hk => hv k zG)
 refine aY (Jr (Zm (Zs (df underlying9 Sr) (Zs (bE Sr Sr) (Zm ?_)))))
 refine Zk (al Sr) ?_
 refine Zg (fun hw => df underlying9 (Sub.w hw)) (Zg (fun hw => bM (Sub.w hw) Sr) (Zs (aw Sr Sr) (Za (ae (aF ?_)))))
 refine aK (t := 2) rfl () ?_
 refine Sub.bool ?_
 simp only [gM, hall, xD, Bool.true_and]
theorem rm (t : GTable) (hz : TabSz t) (hA : t.Attrs.length <= 1000) : Fun1 prog 213 [cc.ty t] (tSl eH (namesL t.Attrs)) := by
 refine Spec.enter func213 rfl rfl fun h0 w0 fr0 => ?_
 have hz2 := hz.at'
 have hnl := g9 hz.was
 have hnl2 : (namesL t.Attrs).length <= 1000 * 1000001 := Nat.le_trans hnl (Nat.mul_le_mul_right _ hA)
 refine Jr (Zs (aJ (R := cc) Sr) (Za (ae (Jr (Za ?_)))))
 refine ae (ar (Jr (Za (ae (av ?_)))))
 refine aO (σ := Nat × Value) (fun ⟨i, v⟩ => i <= t.Attrs.length) (fun ⟨i, v⟩ => upd (upd (upd (upd cg 1 (bx cc t)) 2 (tV (.slice none 0 0))) 3 (rV.ty v)) 4 (tV (.int .i64 i))) (fun ⟨i, v⟩ => [own 9 eH v (namesL (t.Attrs.take i))]) (fun ⟨i, v⟩ => t.Attrs.length - i) (0, .slice none 0 0) (by exact Nat.zero_le _) (.u (SubE.upd (DG rfl) (zU))) (DB) ?_
 rintro ⟨i, v⟩ hi
 try dsimp only at hi
 refine ar (Jr (Zm (Zs (aa eu Sr rfl) (Zl bQ Sr (Zs (ah underlying44 Sr) ?_)))))
 refine Zs (aA Sr Sr) (ae ?_)
 refine au Sr (fun h9 => ?_) (fun h9 => ?_)
 ·
  try simp only [NF] at h9
  have hlt : i < t.Attrs.length := by omega
  have hnt := nw hlt
  have hnl3 := g9 (l := t.Attrs.take i) (M := 1000000) (fun a ha => hz.was a (List.mem_of_mem_take ha))
  have hnl4 : (namesL (t.Attrs.take i)).length <= 1000 * 1000001 := Nat.le_trans hnl3 (Nat.mul_le_mul_right _ (by rw [List.length_take]; omega))
  have hwl := hz.was _ (aH hlt)
  refine ay (ar (av (Jr (Zm (Zs (aa eu Sr rfl) ?_)))))
  refine Zl bQ Sr (Zm ?_)
  refine Zs (ad (i := i) underlying44 ct Sr Sr (by rfl) (gb (by exact hlt))) ?_
  refine Zs (aa dH Sr rfl) (Zl ty9 Sr ?_)
  refine Zs (ax (ys := [_]) underlying85 el9 ⟨rfl, Sr, trivial⟩ rfl (by decide)) ?_
  refine Zx (aL underlying85 el9 Sr Sr zS (by simp; omega) (by simp; omega)) fun v20 => ?_
  refine Za (ae (aq (Zm (Zs (aa eu Sr rfl) (Zl bQ Sr ?_)))))
  refine Zm ?_
  refine Zs (ad (i := i) underlying44 ct Sr Sr (by rfl) (gb (by exact hlt))) ?_
  refine Zs (aa dH Sr rfl) (Zl yD Sr ?_)
  refine Zx (aL underlying85 el9 Sr Sr zS (by simp; omega) (by simp; omega)) fun v28 => ?_
  refine Za (ae (aq (Zm (Zs (aB Sr Sr z6) (Za ?_)))))
  refine ae ?_
  refine aE (σ := Nat × Value) (s := (i, v)) (i + 1, v28) zO (by show i + 1 <= _; omega) (zU) (.c zS (SPs.of (A := own 9 eH v28 ((namesL (t.Attrs.take i) ++ [(nth t.Attrs i).Name]) ++ (nth t.Attrs i).Was)) (by rw [hnt])) (LSub.nil))
 try simp only [NF] at h9
 obtain rfl : i = t.Attrs.length := by omega
 refine bZ (L' := [own 9 eH v (namesL t.Attrs)]) (.c zS (SPs.of (A := own 9 eH v (namesL (t.Attrs.take t.Attrs.length))) (by rw [List.take_length])) (LSub.nil)) ?_
 refine aY (Jr (Zm (Za (ae (aF ?_)))))
 refine aZ (rv := .tmp 2) rfl () (Sel.take (Dz _)) (.tmp Sr) Frz.own
theorem tD (s : GSchema) (n : ByteArray) (hl : s.Tables.length <= 1000000000000) : Fun1 prog 142 [aV.ty s, tV (.string n)] (tV (.int .i64 (n5 s n))) := by
 refine Spec.enter func142 rfl rfl fun h0 w0 fr0 => ?_
 refine Jr (Zs (aJ (R := aV) Sr) (Za (ae (ar (Jr ?_)))))
 refine Za (ae (av ?_))
 refine aO (σ := Nat) (fun i => i <= s.Tables.length /\ ∀ k, k < i -> decide ((nth s.Tables k).Name = n) = false) (fun i => upd (upd (upd cg 1 (tV (.string n))) 2 (bx aV s)) 5 (tV (.int .i64 i))) (fun i => []) (fun i => s.Tables.length - i) 0 ⟨by omega, fun k hk => by omega⟩ (zU) (LSub.rfl) ?_
 rintro i ⟨hi, hv⟩
 refine ar (Jr (Zm (Zs (aa g6 Sr rfl) (Zl g5 Sr (Zs (ah underlying39 Sr) ?_)))))
 refine Zs (aA Sr Sr) (ae ?_)
 refine au Sr (fun h10 => ?_) (fun h10 => ?_)
 ·
  try simp only [NF] at h10
  have hlt : i < s.Tables.length := by omega
  refine ay (ar (av (Jr (Zs (aa g6 Sr rfl) (Zl g5 Sr ?_)))))
  refine Zm ?_
  refine Zs (ad (i := i) underlying39 g8 Sr Sr (by rfl) (gb (by exact hlt))) ?_
  refine Zs (aa eu Sr rfl) (Zl ty9 Sr (Zm (Zs (bU Sr Sr) (ae ?_))))
  refine au Sr (fun h20 => ?_) (fun h20 => ?_)
  ·
   try simp only [NF] at h20
   refine Jr (Zm (Za (ae (aF ?_))))
   refine aK (t := 4) rfl () (Sub.int ?_)
   exact (iD hlt hv (by simp_all)).symm
  try simp only [NF] at h20
  refine ay (aq (Zm (Zs (aB Sr Sr z6) (Za (ae ?_)))))
  refine aE (σ := Nat) (s := i) (i + 1) zO ?_ (zU) (LSub.rfl)
  refine ⟨by omega, fun k hk => ?_⟩
  by_cases e : k = i
  ·
   subst e; simp_all
  exact hv k zG
 try simp only [NF] at h10
 obtain rfl : i = s.Tables.length := by omega
 refine aY (Jr (Za (ae (aF ?_))))
 refine aK (t := 4) rfl () (Sub.int ?_)
 exact (lB hv).symm
theorem rp (t : GTable) (hz : TabSz t) : Fun1 prog 141 [cc.ty t] (tV (.bool (rightM t))) := by
 refine Spec.enter func141 rfl rfl fun h0 w0 fr0 => ?_
 have hz1 := hz.nm
 have hz2 := hz.at'
 have hz3 := hz.key
 have hnl := g9 hz.was
 refine Jr (Zs (aJ (R := cc) Sr) (Za (ae (ar (Jr ?_)))))
 refine Zs (aa eu Sr rfl) (Zl ty9 Sr (Zs (ai (ny _ hz1) ⟨Sr, trivial⟩ call212) (Zs (bf Sr) (Zm ?_))))
 refine Zk (aa eu Sr rfl) ?_
 refine Zg (fun hw => ab bQ (Sub.w hw)) (Zg (fun hw => ah underlying44 (Sub.w hw)) (Zg (fun hw => aA (Sub.w hw) Sr) (Zs (az Sr Sr) (Zm ?_))))
 refine Zk (aa eu Sr rfl) ?_
 refine Zg (fun hw => ab bQ (Sub.w hw)) (Zg (fun hw => ah underlying44 (Sub.w hw)) (Zg (fun hw => bD (Sub.w hw) Sr) (Zs (az Sr Sr) (Zm ?_))))
 refine Zk (aa eu Sr rfl) ?_
 refine Zg (fun hw => ab bY (Sub.w hw)) (Zg (fun hw => ah underlying36 (Sub.w hw)) (Zg (fun hw => aA (Sub.w hw) Sr) (Zs (az Sr Sr) (ae ?_))))
 refine au Sr (fun h29 => ?_) (fun h29 => ?_)
 ·
  try simp only [NF] at h29
  refine Jr (Za (ae (aF ?_)))
  refine aK (t := 2) rfl () ?_
  refine Sub.bool ?_
  have hs : gM t.Name = false \/ szT t = false := by
   rcases h29 with ((h | h) | h) | h
   ·
    exact .inl h
   all_goals exact .inr (by unfold szT; rw [decide_eq_false_iff_not]; omega)
  rcases hs with h | h <;> simp [rightM, h]
 try simp only [NF] at h29
 have hsz : szT t = true := by unfold szT; rw [decide_eq_true_eq]; omega
 have hnmT : gM t.Name = true := by simp_all
 have hA : t.Attrs.length <= 1000 := by omega
 have hnl2 : (namesL t.Attrs).length <= 1000 * 1000001 := Nat.le_trans hnl (Nat.mul_le_mul_right _ hA)
 refine ay (Jr (Zl g8 Sr (Zs (ai (rm _ hz zG) ⟨Sr, trivial⟩ call213) (Za (ae ?_)))))
 refine ar (Jr (Za (ae (av ?_))))
 refine aO (σ := Nat) (fun i => i <= (namesL t.Attrs).length /\ (∀ k, k < i -> gM (nth (namesL t.Attrs) k) = true) /\ ∀ k j, j < k -> k < i -> nth (namesL t.Attrs) j ≠ nth (namesL t.Attrs) k) (fun i => upd (upd (upd cg 1 (bx cc t)) 3 (tSl eH (namesL t.Attrs))) 4 (tV (.int .i64 i))) (fun i => []) (fun i => (namesL t.Attrs).length - i) 0 ⟨by omega, fun k hk => by omega, fun k j _ hk => by omega⟩ (zU) (LSub.rfl) ?_
 rintro i ⟨hi, hv, hd⟩
 refine ar (Jr (Zm (Zm (Zs (ah underlying85 Sr) (Zs (aA Sr Sr) ?_)))))
 refine ae ?_
 refine au Sr (fun h35 => ?_) (fun h35 => ?_)
 ·
  try simp only [NF] at h35
  have hlt : i < (namesL t.Attrs).length := by omega
  refine ay (ar (av (ar (Jr (Zm ?_)))))
  refine Zm ?_
  refine Zs (ad (i := i) underlying85 ty9 Sr Sr (by rfl) (gb (by exact hlt))) ?_
  refine Zl ty9 Sr (Zs (ai (ny _ (hz.nms _ (aH hlt))) ⟨Sr, trivial⟩ call212) (Zs (bf Sr) (ae ?_)))
  refine au Sr (fun h43 => ?_) (fun h43 => ?_)
  ·
   try simp only [NF] at h43
   refine Jr (Za (ae (aF ?_)))
   refine aK (t := 2) rfl () ?_
   refine Sub.bool ?_
   have : (namesL t.Attrs).all gM = false := gZ hlt h43
   simp [rightM, this]
  try simp only [NF] at h43
  refine ay (Jr (Za (ae (av ?_))))
  refine aO (σ := Nat) (fun k => k <= i /\ ∀ j, j < k -> nth (namesL t.Attrs) j ≠ nth (namesL t.Attrs) i) (fun k => upd (upd (upd (upd cg 1 (bx cc t)) 3 (tSl eH (namesL t.Attrs))) 4 (tV (.int .i64 i))) 5 (tV (.int .i64 k))) (fun k => []) (fun k => i - k) 0 ⟨by omega, fun j hj => by omega⟩ (zU) (LSub.rfl) ?_
  rintro k ⟨hk, hw⟩
  refine ar (Jr (Zm (Zm (Zs (aA Sr Sr) (ae ?_)))))
  refine au Sr (fun h46 => ?_) (fun h46 => ?_)
  ·
   try simp only [NF] at h46
   have hkt : k < i := by omega
   refine ay (ar (av (ar ?_)))
   refine bl [⟨0, [3], true⟩, ⟨1, [5], true⟩, ⟨2, [49, 50], true⟩, ⟨3, [51], true⟩, ⟨4, [3], true⟩, ⟨5, [4], true⟩, ⟨6, [53, 54], true⟩, ⟨7, [55], true⟩, ⟨8, [52, 56], true⟩] rfl (by kernel_rfl) ?_
   refine Zv rfl (Zv rfl ?_)
   refine Zf rfl (ad (i := k) underlying85 ty9 Sr Sr (by rfl) (gb (by show k < (namesL t.Attrs).length; omega))) ?_
   refine Zf rfl (ab ty9 Sr) (Zv rfl (Zv rfl ?_))
   refine Zf rfl (ad (i := i) underlying85 ty9 Sr Sr (by rfl) (gb (by exact hlt))) ?_
   refine Zf rfl (ab ty9 Sr) (Zf rfl (bU Sr Sr) (bj ?_))
   refine au Sr (fun h57 => ?_) (fun h57 => ?_)
   ·
    try simp only [NF] at h57
    refine Jr (Za (ae (aF ?_)))
    refine aK (t := 2) rfl () ?_
    refine Sub.bool ?_
    have : ¬ (namesL t.Attrs).Nodup := uU hkt hlt h57
    simp [rightM, this]
   try simp only [NF] at h57
   refine ay (aq (Zm (Zs (aB Sr Sr z6) (Za (ae ?_)))))
   refine aE (σ := Nat) (s := k) (k + 1) zO ?_ (zU) (LSub.rfl)
   refine ⟨by omega, fun j hj => ?_⟩
   by_cases e : j = k
   ·
    subst e; simp_all
   exact hw j zG
  try simp only [NF] at h46
  obtain rfl : i = k := by omega
  refine aY (aq (Zm (Zs (aB Sr Sr z6) (Za (ae ?_)))))
  refine aE (σ := Nat) (s := i) (i + 1) zO ?_ (zU) (LSub.rfl)
  refine ⟨by omega, fun k hk => ?_, fun k j hjk hk => ?_⟩
  ·
   by_cases e : k = i
   ·
    subst e; simp_all
   exact hv k zG
  by_cases e : k = i
  ·
   subst e; exact hw j hjk
  exact hd k j hjk zG
 try simp only [NF] at h35
 have hnms : (namesL t.Attrs).all gM = true := iP (fun k hk => hv k zG)
 have hnd : (namesL t.Attrs).Nodup := uT (fun k j hjk hk => hd k j hjk zG)
 refine aY (ar (Jr (Za (ae (av ?_)))))
 refine aO (σ := Nat) (fun i => i <= t.Attrs.length /\ ∀ k, k < i -> gz (nth t.Attrs k) = true) (fun i => upd (upd cg 1 (bx cc t)) 6 (tV (.int .i64 i))) (fun i => []) (fun i => t.Attrs.length - i) 0 ⟨by omega, fun k hk => by omega⟩ (zU) (LSub.rfl) ?_
 rintro i ⟨hi2, hv2⟩
 refine ar (Jr (Zm (Zs (aa eu Sr rfl) (Zl bQ Sr (Zs (ah underlying44 Sr) ?_)))))
 refine Zs (aA Sr Sr) (ae ?_)
 refine au Sr (fun h62 => ?_) (fun h62 => ?_)
 ·
  try simp only [NF] at h62
  have hlt : i < t.Attrs.length := by omega
  refine ay (ar (av (ar ?_)))
  refine bl [⟨0, [1], true⟩, ⟨1, [65], true⟩, ⟨2, [6], true⟩, ⟨3, [66, 67], true⟩, ⟨4, [68], true⟩, ⟨5, [69], true⟩, ⟨6, [70], true⟩, ⟨7, [71], true⟩, ⟨8, [72], true⟩, ⟨9, [1, 73], true⟩, ⟨10, [73, 74], true⟩, ⟨11, [6, 73], true⟩, ⟨12, [73, 75, 76], true⟩, ⟨13, [73, 77], true⟩, ⟨14, [73, 78], true⟩, ⟨15, [1, 73], true⟩, ⟨16, [73, 80], true⟩, ⟨17, [6, 73], true⟩, ⟨18, [73, 81, 82], true⟩, ⟨19, [73, 83], true⟩, ⟨20, [73, 84], true⟩, ⟨21, [73, 79, 85], true⟩, ⟨22, [73, 86], true⟩, ⟨23, [73, 87], true⟩] rfl (by kernel_rfl) ?_
  refine Zf rfl (aa eu Sr rfl) (Zf rfl (ab bQ Sr) (Zv rfl ?_))
  refine Zf rfl (ad (i := i) underlying44 ct Sr Sr (by rfl) (gb (by exact hlt))) ?_
  refine Zf rfl (aa dH Sr rfl) (Zf rfl (ab ty3 Sr) (Zf rfl (ai (tC _) ⟨Sr, trivial⟩ call214) (Zf rfl (bf Sr) (Zv rfl ?_))))
  refine Mk rfl rfl Sr rfl (aa eu Sr rfl) ?_
  refine Mg rfl rfl Sr rfl (fun hw => ab bQ (Sub.w hw)) ?_
  refine Mk rfl rfl Sr rfl (al Sr) ?_
  refine Mg rfl rfl Sr rfl (fun hw => ad (i := i) underlying44 ct (Sub.w hw) (Sub.w hw) (by rfl) (gb (by have hwq := hw; (try simp only [beqB_t, beqB_f, NF] at hwq); exact hlt))) ?_
  refine Mg rfl rfl Sr rfl (fun hw => aa dH (Sub.w hw) rfl) (Mg rfl rfl Sr rfl (fun hw => ab ty3 (Sub.w hw)) ?_)
  refine Mk rfl rfl Sr rfl (aa eu Sr rfl) ?_
  refine Mg rfl rfl Sr rfl (fun hw => ab bQ (Sub.w hw)) ?_
  refine Mk rfl rfl Sr rfl (al Sr) ?_
  refine Mg rfl rfl Sr rfl (fun hw => ad (i := i) underlying44 ct (Sub.w hw) (Sub.w hw) (by rfl) (gb (by have hwq := hw; (try simp only [beqB_t, beqB_f, NF] at hwq); exact hlt))) ?_
  refine Mg rfl rfl Sr rfl (fun hw => aa dH (Sub.w hw) rfl) (Mg rfl rfl Sr rfl (fun hw => ab jp (Sub.w hw)) (Mg rfl rfl Sr rfl (fun hw => ai (pC _ _) ⟨(Sub.w hw), (Sub.w hw), trivial⟩ call143) (Mg rfl rfl Sr rfl (fun hw => bf (Sub.w hw)) (Zf rfl (az Sr Sr) (bj ?_)))))
  refine au Sr (fun h88 => ?_) (fun h88 => ?_)
  ·
   try simp only [NF] at h88
   refine Jr (Za (ae (aF ?_)))
   refine aK (t := 2) rfl () ?_
   refine Sub.bool ?_
   have : gz (nth t.Attrs i) = false := by
    unfold gz
    rcases h88 with (h | h) | h
    ·
     simp [show ¬ 1 <= (nth t.Attrs i).Kind by omega]
    ·
     simp [show ¬ (nth t.Attrs i).Kind <= 4 by omega]
    simp [h]
   simp [rightM, gZ hlt this]
  try simp only [NF] at h88
  refine ay (aq (Zm (Zs (aB Sr Sr z6) (Za (ae ?_)))))
  refine aE (σ := Nat) (s := i) (i + 1) zO ?_ (zU) (LSub.rfl)
  refine ⟨by omega, fun k hk => ?_⟩
  by_cases e : k = i
  ·
   subst e; first | (simp_all [gz]; done) | (simp_all [gz]; omega)
  exact hv2 k zG
 try simp only [NF] at h62
 have hats : t.Attrs.all gz = true := iP (fun k hk => hv2 k zG)
 refine aY (ar (Jr (Za (ae (av ?_)))))
 refine aO (σ := Nat) (fun i => i <= t.Key.length /\ ∀ k, k < i -> jE t k = true) (fun i => upd (upd cg 1 (bx cc t)) 7 (tV (.int .i64 i))) (fun i => []) (fun i => t.Key.length - i) 0 ⟨by omega, fun k hk => by omega⟩ (zU) (LSub.rfl) ?_
 rintro i ⟨hi3, hv3⟩
 refine ar (Jr (Zm (Zs (aa eu Sr rfl) (Zl bY Sr (Zs (ah underlying36 Sr) ?_)))))
 refine Zs (aA Sr Sr) (ae ?_)
 refine au Sr (fun h93 => ?_) (fun h93 => ?_)
 ·
  try simp only [NF] at h93
  have hkt : i < t.Key.length := by omega
  refine ay (ar (av (ar ?_)))
  refine bl [⟨0, [1], true⟩, ⟨1, [96], true⟩, ⟨2, [7], true⟩, ⟨3, [97, 98], true⟩, ⟨4, [99], true⟩, ⟨5, [100], true⟩, ⟨6, [101], true⟩, ⟨7, [1, 102], true⟩, ⟨8, [102, 103], true⟩, ⟨9, [7, 102], true⟩, ⟨10, [102, 104, 105], true⟩, ⟨11, [102, 106], true⟩, ⟨12, [1, 102], true⟩, ⟨13, [102, 108], true⟩, ⟨14, [102, 109], true⟩, ⟨15, [102, 107, 110], true⟩, ⟨16, [102, 111], true⟩, ⟨17, [112], true⟩, ⟨18, [7, 113], true⟩, ⟨19, [113, 114], true⟩, ⟨20, [113, 115], true⟩, ⟨21, [1, 116], true⟩, ⟨22, [116, 117], true⟩, ⟨23, [7, 116], true⟩, ⟨24, [116, 118, 119], true⟩, ⟨25, [116, 120], true⟩, ⟨26, [1, 116], true⟩, ⟨27, [116, 122], true⟩, ⟨28, [7, 116], true⟩, ⟨29, [116, 124], true⟩, ⟨30, [116, 123, 125], true⟩, ⟨31, [116, 126], true⟩, ⟨32, [116, 121, 127], true⟩, ⟨33, [113, 116, 128], true⟩, ⟨34, [113, 129], true⟩] rfl (by kernel_rfl) ?_
  refine Zf rfl (aa eu Sr rfl) (Zf rfl (ab bY Sr) (Zv rfl ?_))
  refine Zf rfl (ad (i := i) underlying36 ty3 Sr Sr (by rfl) (gb (by exact hkt))) ?_
  refine Zf rfl (ab ty3 Sr) (Zf rfl (aA Sr Sr) (Zv rfl ?_))
  refine Mk rfl rfl Sr rfl (aa eu Sr rfl) ?_
  refine Mg rfl rfl Sr rfl (fun hw => ab bY (Sub.w hw)) ?_
  refine Mk rfl rfl Sr rfl (al Sr) ?_
  refine Mg rfl rfl Sr rfl (fun hw => ad (i := i) underlying36 ty3 (Sub.w hw) (Sub.w hw) (by rfl) (gb (by have hwq := hw; (try simp only [beqB_t, beqB_f, NF] at hwq); exact hkt))) ?_
  refine Mg rfl rfl Sr rfl (fun hw => ab ty3 (Sub.w hw)) ?_
  refine Mk rfl rfl Sr rfl (aa eu Sr rfl) ?_
  refine Mg rfl rfl Sr rfl (fun hw => ab bQ (Sub.w hw)) (Mg rfl rfl Sr rfl (fun hw => ah underlying44 (Sub.w hw)) (Mg rfl rfl Sr rfl (fun hw => bE (Sub.w hw) (Sub.w hw)) (Zf rfl (az Sr Sr) (Zv rfl ?_))))
  refine Mk rfl rfl Sr rfl (al Sr) ?_
  refine Mg rfl rfl Sr rfl (fun hw => bD (Sub.w hw) Sr) (Mg rfl rfl Sr rfl (fun hw => al (Sub.w hw)) ?_)
  refine cA rfl rfl rfl rfl (DK Sr) rfl rfl (fun hw _ => aa eu Sr rfl) ?_
  refine cA rfl rfl rfl rfl (DK Sr) rfl rfl (fun hw _ => ab bY (Sub.w hw)) ?_
  refine cA rfl rfl rfl rfl (DK Sr) rfl rfl (fun hw _ => al Sr) ?_
  refine cA rfl rfl rfl rfl (DK Sr) rfl rfl (fun hw _ => ad (i := i) underlying36 ty3 (Sub.w hw) (Sub.w hw) (by rfl) (gb (by have hwq := hw; (try simp only [beqB_t, beqB_f, NF] at hwq); exact hkt))) ?_
  refine cA rfl rfl rfl rfl (DK Sr) rfl rfl (fun hw _ => ab ty3 (Sub.w hw)) ?_
  refine cA rfl rfl rfl rfl (DK Sr) rfl rfl (fun hw _ => aa eu Sr rfl) ?_
  refine cA rfl rfl rfl rfl (DK Sr) rfl rfl (fun hw _ => ab bY (Sub.w hw)) ?_
  refine cA rfl rfl rfl rfl (DK Sr) rfl rfl (fun hw _ => al Sr) ?_
  refine cA rfl rfl rfl rfl (DK Sr) rfl rfl (fun hw _ => dN (Sub.w hw) Sr (by have hwq := hw; (try simp only [beqB_t, beqB_f, NF] at hwq); unfold fe; omega)) ?_
  refine cA rfl rfl rfl rfl (DK Sr) rfl rfl (fun hw _ => ad (i := (i - 1)) underlying36 ty3 (Sub.w hw) (Sub.w hw) (by have hwq := hw; (try simp only [beqB_t, beqB_f, NF] at hwq); omega) (gb (by have hwq := hw; (try simp only [beqB_t, beqB_f, NF] at hwq); show i - 1 < t.Key.length; omega))) ?_
  refine cA rfl rfl rfl rfl (DK Sr) rfl rfl (fun hw _ => ab ty3 (Sub.w hw)) ?_
  refine cA rfl rfl rfl rfl (DK Sr) rfl rfl (fun hw _ => bM (Sub.w hw) (Sub.w hw)) ?_
  refine Mg rfl rfl Sr rfl (fun hw => aw (Sub.w hw) (D9 hw)) (Zf rfl (az Sr Sr) (bj ?_))
  refine au Sr (fun h130 => ?_) (fun h130 => ?_)
  ·
   try simp only [NF] at h130
   refine Jr (Za (ae (aF ?_)))
   refine aK (t := 2) rfl () ?_
   refine Sub.bool ?_
   have : jE t i = false := by
    unfold jE
    rcases h130 with (h | h) | ⟨h1, h2⟩
    ·
     simp [show ¬ 0 <= nth t.Key i by omega]
    ·
     simp [show ¬ nth t.Key i < t.Attrs.length by omega]
    simp [show ¬ nth t.Key (i - 1) < nth t.Key i by omega, show ¬ i = 0 by omega]
   simp [rightM, eV hkt this]
  try simp only [NF] at h130
  refine ay (aq (Zm (Zs (aB Sr Sr z6) (Za (ae ?_)))))
  refine aE (σ := Nat) (s := i) (i + 1) zO ?_ (zU) (LSub.rfl)
  refine ⟨by omega, fun k hk => ?_⟩
  by_cases e : k = i
  ·
   subst e; first | (simp_all [jE]; done) | (simp_all [jE]; omega)
  exact hv3 k zG
 try simp only [NF] at h93
 have hks : (List.range t.Key.length).all (jE t) = true := eU (fun k hk => hv3 k zG)
 refine aY (Jr (Za (ae (aF ?_))))
 refine aK (t := 2) rfl () ?_
 refine Sub.bool ?_
 simp [rightM, hnmT, hsz, hats, hnms, hnd, hks]
theorem kR (s : GSchema) (hz : SchSz s) : Fun1 prog 89 [aV.ty s] (tV (.bool (lX s))) := by
 refine Spec.enter func89 rfl rfl fun h0 w0 fr0 => ?_
 have hz1 := hz.tabs
 refine Jr (Zs (aJ (R := aV) Sr) (Za (ae (ar (Jr ?_)))))
 refine Zs (aa g6 Sr rfl) (Zl g5 Sr (Zs (ah underlying39 Sr) (Zs (bD Sr Sr) (ae ?_))))
 refine au Sr (fun h7 => ?_) (fun h7 => ?_)
 ·
  try simp only [NF] at h7
  refine Jr (Za (ae (aF ?_)))
  refine aK (t := 2) rfl () ?_
  refine Sub.bool ?_
  have : ¬ s.Tables.length <= 20 := by omega
  simp [lX, this]
 try simp only [NF] at h7
 refine ay (ar (Jr (Za (ae (av ?_)))))
 refine aO (σ := Nat) (fun i => i <= s.Tables.length /\ ∀ k, k < i -> (rightM (nth s.Tables k) && decide (n5 s (nth s.Tables k).Name = k)) = true) (fun i => upd (upd cg 1 (bx aV s)) 3 (tV (.int .i64 i))) (fun i => []) (fun i => s.Tables.length - i) 0 ⟨by omega, fun k hk => by omega⟩ (zU) (LSub.rfl) ?_
 rintro i ⟨hi, hv⟩
 refine ar (Jr (Zm (Zs (aa g6 Sr rfl) (Zl g5 Sr (Zs (ah underlying39 Sr) ?_)))))
 refine Zs (aA Sr Sr) (ae ?_)
 refine au Sr (fun h12 => ?_) (fun h12 => ?_)
 ·
  try simp only [NF] at h12
  have hlt : i < s.Tables.length := by omega
  refine ay (ar (av (ar ?_)))
  refine bl [⟨0, [1], true⟩, ⟨1, [15], true⟩, ⟨2, [3], true⟩, ⟨3, [16, 17], true⟩, ⟨4, [18], true⟩, ⟨5, [19], true⟩, ⟨6, [20], true⟩, ⟨7, [21], true⟩, ⟨8, [1, 22], true⟩, ⟨9, [1, 22], true⟩, ⟨10, [22, 24], true⟩, ⟨11, [3, 22], true⟩, ⟨12, [22, 25, 26], true⟩, ⟨13, [22, 27], true⟩, ⟨14, [22, 28], true⟩, ⟨15, [22, 23, 29], true⟩, ⟨16, [3, 22], true⟩, ⟨17, [22, 30, 31], true⟩, ⟨18, [22, 32], true⟩] rfl (by kernel_rfl) ?_
  refine Zf rfl (aa g6 Sr rfl) (Zf rfl (ab g5 Sr) (Zv rfl ?_))
  refine Zf rfl (ad (i := i) underlying39 g8 Sr Sr (by rfl) (gb (by exact hlt))) ?_
  refine Zf rfl (ab g8 Sr) (Zf rfl (ai (rp _ (hz.tab _ (aH hlt))) ⟨Sr, trivial⟩ call141) (Zf rfl (bf Sr) (Zv rfl ?_)))
  refine Mk rfl rfl Sr rfl (ab fR Sr) ?_
  refine Mk rfl rfl Sr rfl (aa g6 Sr rfl) ?_
  refine Mg rfl rfl Sr rfl (fun hw => ab g5 (Sub.w hw)) ?_
  refine Mk rfl rfl Sr rfl (al Sr) ?_
  refine Mg rfl rfl Sr rfl (fun hw => ad (i := i) underlying39 g8 (Sub.w hw) (Sub.w hw) (by rfl) (gb (by have hwq := hw; (try simp only [beqB_t, beqB_f, NF] at hwq); exact hlt))) ?_
  refine Mg rfl rfl Sr rfl (fun hw => aa eu (Sub.w hw) rfl) (Mg rfl rfl Sr rfl (fun hw => ab ty9 (Sub.w hw)) (Mg rfl rfl Sr rfl (fun hw => ai (tD _ _ hz1) ⟨(Sub.w hw), (Sub.w hw), trivial⟩ call142) ?_))
  refine Mk rfl rfl Sr rfl (al Sr) ?_
  refine Mg rfl rfl Sr rfl (fun hw => bb (Sub.w hw) (Sub.w hw)) (Zf rfl (az Sr Sr) (bj ?_))
  refine au Sr (fun h33 => ?_) (fun h33 => ?_)
  ·
   try simp only [NF] at h33
   refine Jr (Za (ae (aF ?_)))
   refine aK (t := 2) rfl () ?_
   refine Sub.bool ?_
   have : (rightM (nth s.Tables i) && decide (n5 s (nth s.Tables i).Name = i)) = false := by rcases h33 with h | h <;> simp [h]
   simp only [lX, eV (f := fun i => rightM (nth s.Tables i) && decide (n5 s (nth s.Tables i).Name = i)) hlt this]; simp
  try simp only [NF] at h33
  refine ay (aq (Zm (Zs (aB Sr Sr z6) (Za (ae ?_)))))
  refine aE (σ := Nat) (s := i) (i + 1) zO ?_ (zU) (LSub.rfl)
  refine ⟨by omega, fun k hk => ?_⟩
  by_cases e : k = i
  ·
   subst e; simp_all
  exact hv k zG
 try simp only [NF] at h12
 have hall := eU (n := s.Tables.length) (fun k hk => hv k zG)
 refine aY (Jr (Za (ae (aF ?_))))
 refine aK (t := 2) rfl () ?_
 refine Sub.bool ?_
 have : s.Tables.length <= 20 := by omega
 simp only [lX, hall, this]; simp
def gA : List (Int × Gkind) := [(1, ⟨0, .func (.func 170) #[] #[], .func (.func 171) #[] #[], .func (.func 172) #[] #[]⟩), (2, ⟨1, .func (.func 173) #[] #[], .func (.func 174) #[] #[], .func (.func 175) #[] #[]⟩), (3, ⟨1, .func (.func 176) #[] #[], .func (.func 177) #[] #[], .func (.func 168) #[] #[]⟩), (4, ⟨2, .func (.func 178) #[] #[], .func (.func 179) #[] #[], .func (.func 169) #[] #[]⟩), (5, ⟨2, .func (.func 180) #[] #[], .func (.func 181) #[] #[], .func (.func 169) #[] #[]⟩), (6, ⟨2, .func (.func 180) #[] #[], .func (.func 182) #[] #[], .func (.func 169) #[] #[]⟩), (7, ⟨1, .func (.func 183) #[] #[], .func (.func 184) #[] #[], .func (.func 185) #[] #[]⟩), (8, ⟨1, .func (.func 186) #[] #[], .func (.func 187) #[] #[], .func (.func 188) #[] #[]⟩)]
abbrev uV (k : Int) : Gkind := (pj gA k).getD tf
def cT (k : Int) : Bool := decide (1 <= k /\ k <= 8)
def kidsN (k : Int) : Int := if k = 1 then 0 else if k = 4 \/ k = 5 \/ k = 6 then 2 else 1
theorem cZ {k : Int} (h : cT k = true) : k = 1 \/ k = 2 \/ k = 3 \/ k = 4 \/ k = 5 \/ k = 6 \/ k = 7 \/ k = 8 := by unfold cT at h; rw [decide_eq_true_eq] at h; omega
theorem nz (k : Int) : (pj gA k).isSome = cT k := by
  by_cases h : cT k = true
  · rcases cZ h with rfl | rfl | rfl | rfl | rfl | rfl | rfl | rfl <;> rfl
  · have h2 : ¬ (1 <= k /\ k <= 8) := by intro q; exact h (by unfold cT; rw [decide_eq_true_eq]; exact q)
    rw [Bool.eq_false_iff.2 h]
    simp [gA, pj, show ¬ k = 1 by omega, show ¬ k = 2 by omega, show ¬ k = 3 by omega, show ¬ k = 4 by omega, show ¬ k = 5 by omega, show ¬ k = 6 by omega, show ¬ k = 7 by omega, show ¬ k = 8 by omega]
theorem nA {k : Int} (h : cT k = true) : (uV k).kids = kidsN k := by
  rcases cZ h with rfl | rfl | rfl | rfl | rfl | rfl | rfl | rfl <;> rfl
def restM (p : aG) : aG :=
  if p.Kind = 1 then GPl.mk p.Kind 0 p.Kids p.Tests p.Cols p.Col p.Agg p.Attrs
  else if p.Kind = 2 then GPl.mk p.Kind p.Table p.Kids [] p.Cols p.Col p.Agg p.Attrs
  else if p.Kind = 3 then GPl.mk p.Kind p.Table p.Kids p.Tests [] p.Col p.Agg p.Attrs
  else if p.Kind = 7 then GPl.mk p.Kind p.Table p.Kids p.Tests p.Cols 0 p.Agg p.Attrs
  else if p.Kind = 8 then GPl.mk p.Kind p.Table p.Kids p.Tests [] 0 0 p.Attrs
  else p
def bareM (p : aG) : Bool := !((((!decide ((restM p).Table = 0) || decide (0 < ((restM p).Tests.length : Int))) || decide (0 < ((restM p).Cols.length : Int))) || !decide ((restM p).Col = 0)) || !decide ((restM p).Agg = 0))
def ez (l : List GAttr) (i : Nat) : Bool := decide (columnL l (nth l i).Name = i)
def validM (s : GSchema) : Nat -> aG -> Bool
  | 0, _ => false
  | l + 1, p => cT p.Kind && decide ((p.Kids.length : Int) = kidsN p.Kind) && p.Kids.all (validM s l) && bareM p && (List.range p.Attrs.length).all (ez p.Attrs) && ((colsM s p).2 && cq (colsM s p).1 p.Attrs)
def od : Nat -> aG -> Prop
  | 0, _ => True
  | n + 1, p => p.Kids.length <= 9223372036854775807 /\ p.Tests.length <= 1000 /\ p.Cols.length <= 1000 /\ p.Attrs.length <= 1000 /\ ∀ q ∈ p.Kids, od n q /\ q.Attrs.length <= 1000
theorem oe (n : Nat) (p : aG) : Fun1 prog 168 [(aR (n + 1)).ty p] ((aR (n + 1)).ty (GPl.mk p.Kind p.Table p.Kids p.Tests [] p.Col p.Agg p.Attrs)) := by
 refine Spec.enter func168 rfl rfl fun h0 w0 fr0 => ?_
 refine Jr ?_
 refine Zx (cw (R := aR (n + 1)) Sr) fun b1 => ?_
 refine Zx (aD (fun w => zeroValue46 w) (ss (n := n))) fun b2 => ?_
 refine ae (Jr (Zs (aP (br (n := n)) Sr rfl) ?_))
 refine Ju (aI (R := (rSl bg)) (y' := GPl.mk p.Kind p.Table p.Kids p.Tests [] p.Col p.Agg p.Attrs) bY Sr DT zS (by exact ⟨rfl, ⟨rfl, ⟨rfl, ⟨rfl, ⟨fun _ _ q => q, rfl, by intro g hg; simp only [List.mem_cons, List.not_mem_nil, or_false] at hg; rcases hg with rfl | rfl | rfl <;> rfl⟩⟩⟩⟩⟩)) fun _ => ?_
 refine ae (Jr ?_)
 refine Zs (aN (R := aR (n + 1)) dl Sr zS) ?_
 refine Ju (aj (R := aR (n + 1)) dl Sr Sr zS) fun _ => ?_
 refine ae (aF ?_)
 refine aZ (rv := .cell 2 46) rfl () (Sel.all _) (.cell (R := aR (n + 1)) dl Sr zS Sr) (Frz.sub Sr)
theorem gN (n : Nat) (p : aG) : Fun1 prog 169 [(aR (n + 1)).ty p] ((aR (n + 1)).ty (p)) := by
 refine Spec.enter func169 rfl rfl fun h0 w0 fr0 => ?_
 refine Jr ?_
 refine Zx (cw (R := aR (n + 1)) Sr) fun b1 => ?_
 refine Zx (aD (fun w => zeroValue46 w) (ss (n := n))) fun b2 => ?_
 refine ae (Jr ?_)
 refine Zs (aN (R := aR (n + 1)) dl Sr zS) ?_
 refine Ju (aj (R := aR (n + 1)) dl Sr Sr zS) fun _ => ?_
 refine ae (aF ?_)
 refine aZ (rv := .cell 2 46) rfl () (Sel.all _) (.cell (R := aR (n + 1)) dl Sr zS Sr) (Frz.sub Sr)
theorem mV (n : Nat) (p : aG) : Fun1 prog 172 [(aR (n + 1)).ty p] ((aR (n + 1)).ty (GPl.mk p.Kind 0 p.Kids p.Tests p.Cols p.Col p.Agg p.Attrs)) := by
 refine Spec.enter func172 rfl rfl fun h0 w0 fr0 => ?_
 refine Jr ?_
 refine Zx (cw (R := aR (n + 1)) Sr) fun b1 => ?_
 refine Zx (aD (fun w => zeroValue46 w) (ss (n := n))) fun b2 => ?_
 refine ae (Jr (Zs (aP (br (n := n)) Sr rfl) ?_))
 refine Ju (aI (R := bg) (y' := GPl.mk p.Kind 0 p.Kids p.Tests p.Cols p.Col p.Agg p.Attrs) ty3 Sr Sr zS (by exact ⟨rfl, ⟨fun _ _ q => q, rfl, by intro g hg; simp only [List.mem_cons, List.not_mem_nil, or_false] at hg; rcases hg with rfl | rfl | rfl | rfl | rfl | rfl <;> rfl⟩⟩)) fun _ => ?_
 refine ae (Jr ?_)
 refine Zs (aN (R := aR (n + 1)) dl Sr zS) ?_
 refine Ju (aj (R := aR (n + 1)) dl Sr Sr zS) fun _ => ?_
 refine ae (aF ?_)
 refine aZ (rv := .cell 2 46) rfl () (Sel.all _) (.cell (R := aR (n + 1)) dl Sr zS Sr) (Frz.sub Sr)
theorem mW (n : Nat) (p : aG) : Fun1 prog 175 [(aR (n + 1)).ty p] ((aR (n + 1)).ty (GPl.mk p.Kind p.Table p.Kids [] p.Cols p.Col p.Agg p.Attrs)) := by
 refine Spec.enter func175 rfl rfl fun h0 w0 fr0 => ?_
 refine Jr ?_
 refine Zx (cw (R := aR (n + 1)) Sr) fun b1 => ?_
 refine Zx (aD (fun w => zeroValue46 w) (ss (n := n))) fun b2 => ?_
 refine ae (Jr (Zs (aP (br (n := n)) Sr rfl) ?_))
 refine Ju (aI (R := (rSl be)) (y' := GPl.mk p.Kind p.Table p.Kids [] p.Cols p.Col p.Agg p.Attrs) iN Sr DT zS (by exact ⟨rfl, ⟨rfl, ⟨rfl, ⟨fun _ _ q => q, rfl, by intro g hg; simp only [List.mem_cons, List.not_mem_nil, or_false] at hg; rcases hg with rfl | rfl | rfl | rfl <;> rfl⟩⟩⟩⟩)) fun _ => ?_
 refine ae (Jr ?_)
 refine Zs (aN (R := aR (n + 1)) dl Sr zS) ?_
 refine Ju (aj (R := aR (n + 1)) dl Sr Sr zS) fun _ => ?_
 refine ae (aF ?_)
 refine aZ (rv := .cell 2 46) rfl () (Sel.all _) (.cell (R := aR (n + 1)) dl Sr zS Sr) (Frz.sub Sr)
theorem pD (n : Nat) (p : aG) : Fun1 prog 185 [(aR (n + 1)).ty p] ((aR (n + 1)).ty (GPl.mk p.Kind p.Table p.Kids p.Tests p.Cols 0 p.Agg p.Attrs)) := by
 refine Spec.enter func185 rfl rfl fun h0 w0 fr0 => ?_
 refine Jr ?_
 refine Zx (cw (R := aR (n + 1)) Sr) fun b1 => ?_
 refine Zx (aD (fun w => zeroValue46 w) (ss (n := n))) fun b2 => ?_
 refine ae (Jr (Zs (aP (br (n := n)) Sr rfl) ?_))
 refine Ju (aI (R := bg) (y' := GPl.mk p.Kind p.Table p.Kids p.Tests p.Cols 0 p.Agg p.Attrs) ty3 Sr Sr zS (by exact ⟨rfl, ⟨rfl, ⟨rfl, ⟨rfl, ⟨rfl, ⟨fun _ _ q => q, rfl, by intro g hg; simp only [List.mem_cons, List.not_mem_nil, or_false] at hg; rcases hg with rfl | rfl <;> rfl⟩⟩⟩⟩⟩⟩)) fun _ => ?_
 refine ae (Jr ?_)
 refine Zs (aN (R := aR (n + 1)) dl Sr zS) ?_
 refine Ju (aj (R := aR (n + 1)) dl Sr Sr zS) fun _ => ?_
 refine ae (aF ?_)
 refine aZ (rv := .cell 2 46) rfl () (Sel.all _) (.cell (R := aR (n + 1)) dl Sr zS Sr) (Frz.sub Sr)
theorem pE (n : Nat) (p : aG) : Fun1 prog 188 [(aR (n + 1)).ty p] ((aR (n + 1)).ty (GPl.mk p.Kind p.Table p.Kids p.Tests [] 0 0 p.Attrs)) := by
 refine Spec.enter func188 rfl rfl fun h0 w0 fr0 => ?_
 refine Jr ?_
 refine Zx (cw (R := aR (n + 1)) Sr) fun b1 => ?_
 refine Zx (aD (fun w => zeroValue46 w) (ss (n := n))) fun b2 => ?_
 refine ae (Jr (Zs (aP (br (n := n)) Sr rfl) ?_))
 refine Ju (aI (R := (rSl bg)) (y' := GPl.mk p.Kind p.Table p.Kids p.Tests [] p.Col p.Agg p.Attrs) bY Sr DT zS (by exact ⟨rfl, ⟨rfl, ⟨rfl, ⟨rfl, ⟨fun _ _ q => q, rfl, by intro g hg; simp only [List.mem_cons, List.not_mem_nil, or_false] at hg; rcases hg with rfl | rfl | rfl <;> rfl⟩⟩⟩⟩⟩)) fun _ => ?_
 refine Zs (aP (br (n := n)) Sr rfl) ?_
 refine Ju (aI (R := bg) (y' := GPl.mk p.Kind p.Table p.Kids p.Tests [] 0 p.Agg p.Attrs) ty3 Sr Sr zS (by exact ⟨rfl, ⟨rfl, ⟨rfl, ⟨rfl, ⟨rfl, ⟨fun _ _ q => q, rfl, by intro g hg; simp only [List.mem_cons, List.not_mem_nil, or_false] at hg; rcases hg with rfl | rfl <;> rfl⟩⟩⟩⟩⟩⟩)) fun _ => ?_
 refine Zs (aP (br (n := n)) Sr rfl) ?_
 refine Ju (aI (R := bg) (y' := GPl.mk p.Kind p.Table p.Kids p.Tests [] 0 0 p.Attrs) ty3 Sr Sr zS (by exact ⟨rfl, ⟨rfl, ⟨rfl, ⟨rfl, ⟨rfl, ⟨rfl, ⟨fun _ _ q => q, rfl, by intro g hg; simp only [List.mem_cons, List.not_mem_nil, or_false] at hg; subst hg; rfl⟩⟩⟩⟩⟩⟩⟩)) fun _ => ?_
 refine ae (Jr ?_)
 refine Zs (aN (R := aR (n + 1)) dl Sr zS) ?_
 refine Ju (aj (R := aR (n + 1)) dl Sr Sr zS) fun _ => ?_
 refine ae (aF ?_)
 refine aZ (rv := .cell 2 46) rfl () (Sel.all _) (.cell (R := aR (n + 1)) dl Sr zS Sr) (Frz.sub Sr)
theorem nB  : Fun1 prog 106 [] (mT kvI ge gA) := by
 refine Spec.enter func106 rfl rfl fun h0 w0 fr0 => ?_
 refine Jr (Za (ae (Jr (Za (ae ?_)))))
 refine Jr (Za (ae (Jr ?_)))
 refine Zx (kO (kv := kvI) (R := ge)) fun v3 => ?_
 refine Zs (aU (x := (⟨0, .func (.func 170) #[] #[], .func (.func 171) #[] #[], .func (.func 172) #[] #[]⟩ : Gkind)) (zs := [[Value.int .i64 0], [Value.nilFunc], [Value.nilFunc], [Value.nilFunc]]) lo (fun w => zeroValue213 w) ⟨Sr, (by first | exact Sr | exact DG rfl), (by first | exact Sr | exact DG rfl), (by first | exact Sr | exact DG rfl), trivial⟩ ⟨⟨Sr, rfl⟩, ⟨(by first | exact Sr | exact DG rfl), rfl⟩, ⟨(by first | exact Sr | exact DG rfl), rfl⟩, ⟨(by first | exact Sr | exact DG rfl), rfl⟩, trivial⟩) ?_
 refine Ju (dT (kv := kvI) (R := ge) (KeyT.int underlying3) underlying164 Sr Sr Sr zS) fun _ => ?_
 refine Zs (aU (x := (⟨1, .func (.func 173) #[] #[], .func (.func 174) #[] #[], .func (.func 175) #[] #[]⟩ : Gkind)) (zs := [[Value.int .i64 0], [Value.nilFunc], [Value.nilFunc], [Value.nilFunc]]) lo (fun w => zeroValue213 w) ⟨Sr, (by first | exact Sr | exact DG rfl), (by first | exact Sr | exact DG rfl), (by first | exact Sr | exact DG rfl), trivial⟩ ⟨⟨Sr, rfl⟩, ⟨(by first | exact Sr | exact DG rfl), rfl⟩, ⟨(by first | exact Sr | exact DG rfl), rfl⟩, ⟨(by first | exact Sr | exact DG rfl), rfl⟩, trivial⟩) ?_
 refine Ju (dT (kv := kvI) (R := ge) (KeyT.int underlying3) underlying164 Sr Sr Sr zS) fun _ => ?_
 refine Zm ?_
 refine Zs (aU (x := (⟨1, .func (.func 176) #[] #[], .func (.func 177) #[] #[], .func (.func 168) #[] #[]⟩ : Gkind)) (zs := [[Value.int .i64 0], [Value.nilFunc], [Value.nilFunc], [Value.nilFunc]]) lo (fun w => zeroValue213 w) ⟨Sr, (by first | exact Sr | exact DG rfl), (by first | exact Sr | exact DG rfl), (by first | exact Sr | exact DG rfl), trivial⟩ ⟨⟨Sr, rfl⟩, ⟨(by first | exact Sr | exact DG rfl), rfl⟩, ⟨(by first | exact Sr | exact DG rfl), rfl⟩, ⟨(by first | exact Sr | exact DG rfl), rfl⟩, trivial⟩) ?_
 refine Ju (dT (kv := kvI) (R := ge) (KeyT.int underlying3) underlying164 Sr Sr Sr zS) fun _ => ?_
 refine Zm ?_
 refine Zs (aU (x := (⟨2, .func (.func 178) #[] #[], .func (.func 179) #[] #[], .func (.func 169) #[] #[]⟩ : Gkind)) (zs := [[Value.int .i64 0], [Value.nilFunc], [Value.nilFunc], [Value.nilFunc]]) lo (fun w => zeroValue213 w) ⟨Sr, (by first | exact Sr | exact DG rfl), (by first | exact Sr | exact DG rfl), (by first | exact Sr | exact DG rfl), trivial⟩ ⟨⟨Sr, rfl⟩, ⟨(by first | exact Sr | exact DG rfl), rfl⟩, ⟨(by first | exact Sr | exact DG rfl), rfl⟩, ⟨(by first | exact Sr | exact DG rfl), rfl⟩, trivial⟩) ?_
 refine Ju (dT (kv := kvI) (R := ge) (KeyT.int underlying3) underlying164 Sr Sr Sr zS) fun _ => ?_
 refine Zm ?_
 refine Zs (aU (x := (⟨2, .func (.func 180) #[] #[], .func (.func 181) #[] #[], .func (.func 169) #[] #[]⟩ : Gkind)) (zs := [[Value.int .i64 0], [Value.nilFunc], [Value.nilFunc], [Value.nilFunc]]) lo (fun w => zeroValue213 w) ⟨Sr, (by first | exact Sr | exact DG rfl), (by first | exact Sr | exact DG rfl), (by first | exact Sr | exact DG rfl), trivial⟩ ⟨⟨Sr, rfl⟩, ⟨(by first | exact Sr | exact DG rfl), rfl⟩, ⟨(by first | exact Sr | exact DG rfl), rfl⟩, ⟨(by first | exact Sr | exact DG rfl), rfl⟩, trivial⟩) ?_
 refine Ju (dT (kv := kvI) (R := ge) (KeyT.int underlying3) underlying164 Sr Sr Sr zS) fun _ => ?_
 refine Zm ?_
 refine Zs (aU (x := (⟨2, .func (.func 180) #[] #[], .func (.func 182) #[] #[], .func (.func 169) #[] #[]⟩ : Gkind)) (zs := [[Value.int .i64 0], [Value.nilFunc], [Value.nilFunc], [Value.nilFunc]]) lo (fun w => zeroValue213 w) ⟨Sr, (by first | exact Sr | exact DG rfl), (by first | exact Sr | exact DG rfl), (by first | exact Sr | exact DG rfl), trivial⟩ ⟨⟨Sr, rfl⟩, ⟨(by first | exact Sr | exact DG rfl), rfl⟩, ⟨(by first | exact Sr | exact DG rfl), rfl⟩, ⟨(by first | exact Sr | exact DG rfl), rfl⟩, trivial⟩) ?_
 refine Ju (dT (kv := kvI) (R := ge) (KeyT.int underlying3) underlying164 Sr Sr Sr zS) fun _ => ?_
 refine Zs (aU (x := (⟨1, .func (.func 183) #[] #[], .func (.func 184) #[] #[], .func (.func 185) #[] #[]⟩ : Gkind)) (zs := [[Value.int .i64 0], [Value.nilFunc], [Value.nilFunc], [Value.nilFunc]]) lo (fun w => zeroValue213 w) ⟨Sr, (by first | exact Sr | exact DG rfl), (by first | exact Sr | exact DG rfl), (by first | exact Sr | exact DG rfl), trivial⟩ ⟨⟨Sr, rfl⟩, ⟨(by first | exact Sr | exact DG rfl), rfl⟩, ⟨(by first | exact Sr | exact DG rfl), rfl⟩, ⟨(by first | exact Sr | exact DG rfl), rfl⟩, trivial⟩) ?_
 refine Ju (dT (kv := kvI) (R := ge) (KeyT.int underlying3) underlying164 Sr Sr Sr zS) fun _ => ?_
 refine Zs (aU (x := (⟨1, .func (.func 186) #[] #[], .func (.func 187) #[] #[], .func (.func 188) #[] #[]⟩ : Gkind)) (zs := [[Value.int .i64 0], [Value.nilFunc], [Value.nilFunc], [Value.nilFunc]]) lo (fun w => zeroValue213 w) ⟨Sr, (by first | exact Sr | exact DG rfl), (by first | exact Sr | exact DG rfl), (by first | exact Sr | exact DG rfl), trivial⟩ ⟨⟨Sr, rfl⟩, ⟨(by first | exact Sr | exact DG rfl), rfl⟩, ⟨(by first | exact Sr | exact DG rfl), rfl⟩, ⟨(by first | exact Sr | exact DG rfl), rfl⟩, trivial⟩) ?_
 refine Ju (dT (kv := kvI) (R := ge) (KeyT.int underlying3) underlying164 Sr Sr Sr zS) fun _ => ?_
 refine Zm (Za (ae (aF ?_)))
 refine aZ (rv := .tmp 0) rfl () (Sel.all _) (.tmp Sr) (Frz.mapI (m := gA))
section
variable {ro : Option Nat} {N : Nat} {ds : List Deferred} {h0 : PH} {w0 : World} {r : PH} {E : Env} {L : List SP} {d : Option Nat} {ty : Nat} {pos : String} {af : Array Edge} {g : Option (Nat × Bool)} {x y : Operand} {ts : Array Nat}
theorem cJ {f : Nat} {A : Ty} {R : Ty} (v : Value) (hv : v = .func (.func f) #[] #[]) (hf : Fun1 prog f [A] R) (he : ∀ args w, (callFunc f args).run prog w = .ok (.enter f args) w) (hx : Sub (opTy E x) (rV.ty v)) (hy : Sub (opTy E y) A) :
    Step (X := Unit) ⟨prog, ro, N, ds, h0, w0, r⟩ ⟨d, .call { callee := .value x, args := #[y], argTypes := ts }, ty, pos, af, g⟩ E L (fun _ => R) (fun _ => L) :=
  bH (f := f) (aT := [A]) (As := []) (fun h u e => by
    obtain ⟨e1, _⟩ := hx h u e
    rw [hv] at e1
    exact ⟨[], e1, trivial⟩) hf ⟨hy, trivial⟩ he
theorem uW {n : Nat} {p : aG} (hk : cT p.Kind = true) (hx : Sub (opTy E x) (rV.ty (uV p.Kind).rest)) (hy : Sub (opTy E y) ((aR (n + 1)).ty p)) :
    Step (X := Unit) ⟨prog, ro, N, ds, h0, w0, r⟩ ⟨d, .call { callee := .value x, args := #[y], argTypes := ts }, ty, pos, af, g⟩ E L (fun _ => (aR (n + 1)).ty (restM p)) (fun _ => L) := by
  rcases cZ hk with h | h | h | h | h | h | h | h <;> rw [h] at hx
  · rw [show restM p = GPl.mk p.Kind 0 p.Kids p.Tests p.Cols p.Col p.Agg p.Attrs by simp [restM, h]]; exact cJ _ rfl (mV n p) call172 hx hy
  · rw [show restM p = GPl.mk p.Kind p.Table p.Kids [] p.Cols p.Col p.Agg p.Attrs by simp [restM, h]]; exact cJ _ rfl (mW n p) call175 hx hy
  · rw [show restM p = GPl.mk p.Kind p.Table p.Kids p.Tests [] p.Col p.Agg p.Attrs by simp [restM, h]]; exact cJ _ rfl (oe n p) call168 hx hy
  · rw [show restM p = p by simp [restM, h]]; exact cJ _ rfl (gN n p) call169 hx hy
  · rw [show restM p = p by simp [restM, h]]; exact cJ _ rfl (gN n p) call169 hx hy
  · rw [show restM p = p by simp [restM, h]]; exact cJ _ rfl (gN n p) call169 hx hy
  · rw [show restM p = GPl.mk p.Kind p.Table p.Kids p.Tests p.Cols 0 p.Agg p.Attrs by simp [restM, h]]; exact cJ _ rfl (pD n p) call185 hx hy
  · rw [show restM p = GPl.mk p.Kind p.Table p.Kids p.Tests [] 0 0 p.Attrs by simp [restM, h]]; exact cJ _ rfl (pE n p) call188 hx hy
theorem uX {n : Nat} {p : Gplan} (hk : cT p.Plan.Kind = true) (hn : (p.Plan.Kids.length : Int) = kidsN p.Plan.Kind) (hz : SchSz p.schema) (hp : od (n + 1) p.Plan) (hx : Sub (opTy E x) (rV.ty (uV p.Plan.Kind).columns)) (hy : Sub (opTy E y) ((gL n).ty p)) :
    Step (X := Unit) ⟨prog, ro, N, ds, h0, w0, r⟩ ⟨d, .call { callee := .value x, args := #[y], argTypes := ts }, ty, pos, af, g⟩ E L (fun _ => fA [tSl aS (colsM p.schema p.Plan).1, tV (.bool (colsM p.schema p.Plan).2)]) (fun _ => L) := by
  obtain ⟨z1, z2, z3, z4, z5⟩ := hp
  have hA : ∀ i, i < p.Plan.Kids.length -> (nth p.Plan.Kids i).Attrs.length <= 100000000 := fun i hi => Nat.le_trans (z5 _ (aH hi)).2 (by omega)
  rcases cZ hk with h | h | h | h | h | h | h | h <;> rw [h] at hx hn
  · have e : colsM p.schema p.Plan = (if 0 <= p.Plan.Table /\ p.Plan.Table < p.schema.Tables.length then ee (nth p.schema.Tables p.Plan.Table.toNat) p.Plan.Attrs else [], decide (0 <= p.Plan.Table /\ p.Plan.Table < p.schema.Tables.length)) := by
      unfold colsM; rw [if_pos h]; split
      · rename_i q; simp [q]
      · rename_i q; simp [q]
    rw [e]; exact cJ _ rfl (px n p hz (by omega)) call170 hx hy
  · have e : colsM p.schema p.Plan = ((nth p.Plan.Kids 0).Attrs, decide (0 < (p.Plan.Tests.length : Int)) && !(p.Plan.Tests.any fun t => !ew t (nth p.Plan.Kids 0).Attrs.length)) := by simp [colsM, h]
    rw [e]; exact cJ _ rfl (tx n p (by simp [kidsN] at hn; omega) (by omega)) call173 hx hy
  · have e : colsM p.schema p.Plan = (ej (nth p.Plan.Kids 0).Attrs p.Plan.Cols, dU (nth p.Plan.Kids 0).Attrs.length p.Plan.Cols) := by simp [colsM, h]
    rw [e]; exact cJ _ rfl (rh n p (by simp [kidsN] at hn; omega) (by omega)) call176 hx hy
  · have hn2 : p.Plan.Kids.length = 2 := by simp [kidsN] at hn; omega
    have e : colsM p.schema p.Plan = (if fG (nth p.Plan.Kids 0).Attrs (nth p.Plan.Kids 1).Attrs = true then bL (nth p.Plan.Kids 0).Attrs (nth p.Plan.Kids 1).Attrs else [], fG (nth p.Plan.Kids 0).Attrs (nth p.Plan.Kids 1).Attrs) := by
      have e1 : colsM p.schema p.Plan = if fG (nth p.Plan.Kids 0).Attrs (nth p.Plan.Kids 1).Attrs = true then (bL (nth p.Plan.Kids 0).Attrs (nth p.Plan.Kids 1).Attrs, true) else ([], false) := by simp [colsM, h]
      rw [e1]; split
      · rename_i q; rw [q]
      · rename_i q; rw [Bool.eq_false_iff.2 q]
    rw [e]; exact cJ _ rfl (ri n p (by omega) (hA 0 (by omega)) (hA 1 (by omega))) call178 hx hy
  · have hn2 : p.Plan.Kids.length = 2 := by simp [kidsN] at hn; omega
    have e : colsM p.schema p.Plan = ((nth p.Plan.Kids 0).Attrs, cq (nth p.Plan.Kids 0).Attrs (nth p.Plan.Kids 1).Attrs) := by simp [colsM, h]
    rw [e]; exact cJ _ rfl (lV n p (by omega) (hA 0 (by omega))) call180 hx hy
  · have hn2 : p.Plan.Kids.length = 2 := by simp [kidsN] at hn; omega
    have e : colsM p.schema p.Plan = ((nth p.Plan.Kids 0).Attrs, cq (nth p.Plan.Kids 0).Attrs (nth p.Plan.Kids 1).Attrs) := by simp [colsM, h]
    rw [e]; exact cJ _ rfl (lV n p (by omega) (hA 0 (by omega))) call180 hx hy
  · have hn1 : p.Plan.Kids.length = 1 := by simp [kidsN] at hn; omega
    have e : colsM p.schema p.Plan = (if gw p.Plan = true then tv p.Plan else [], gw p.Plan) := by
      have e1 : colsM p.schema p.Plan = if gw p.Plan = true then (tv p.Plan, true) else ([], false) := by simp [colsM, h]
      rw [e1]; split
      · rename_i q; rw [q]
      · rename_i q; rw [Bool.eq_false_iff.2 q]
    rw [e]; exact cJ _ rfl (tz n p (by omega) (hA 0 (by omega))) call183 hx hy
  · have hn1 : p.Plan.Kids.length = 1 := by simp [kidsN] at hn; omega
    have e : colsM p.schema p.Plan = (if fS p.Plan = true then jB p.Plan else [], fS p.Plan && jq p.Plan) := by
      have e1 : colsM p.schema p.Plan = if fS p.Plan = true then (jB p.Plan, jq p.Plan) else ([], false) := by simp [colsM, h]
      rw [e1]; split
      · rename_i q; rw [q, Bool.true_and]
      · rename_i q; rw [Bool.eq_false_iff.2 q, Bool.false_and]
    rw [e]; exact cJ _ rfl (tA n p (by omega) (hA 0 (by omega)) (by omega)) call186 hx hy
end
theorem xE {s : GSchema} {n : Nat} {p : aG} (hz : SchSz s) (hp : od (n + 1) p) (hk : cT p.Kind = true) (hn : (p.Kids.length : Int) = kidsN p.Kind) : (colsM s p).1.length <= 1000000000000 := by
  obtain ⟨z1, z2, z3, z4, z5⟩ := hp
  have hA : ∀ i, i < p.Kids.length -> (nth p.Kids i).Attrs.length <= 100000000 := fun i hi => Nat.le_trans (z5 _ (aH hi)).2 (by omega)
  rcases cZ hk with h | h | h | h | h | h | h | h <;> rw [h] at hn <;> simp only [kidsN] at hn <;> simp at hn
  · have e : colsM s p = if 0 <= p.Table /\ p.Table < s.Tables.length then (ee (nth s.Tables p.Table.toNat) p.Attrs, true) else ([], false) := by simp [colsM, h]
    rw [e]; split
    · rename_i q
      have := (hz.tab _ (aH (l := s.Tables) (i := p.Table.toNat) (by omega))).at'
      simp only [ee, List.length_map, List.length_range]; omega
    · simp
  · have e : (colsM s p).1 = (nth p.Kids 0).Attrs := by simp [colsM, h]
    rw [e]; have := hA 0 (by omega); omega
  · have e : (colsM s p).1 = ej (nth p.Kids 0).Attrs p.Cols := by simp [colsM, h]
    rw [e]; have := pw (nth p.Kids 0).Attrs p.Cols; omega
  · have e : colsM s p = if fG (nth p.Kids 0).Attrs (nth p.Kids 1).Attrs = true then (bL (nth p.Kids 0).Attrs (nth p.Kids 1).Attrs, true) else ([], false) := by simp [colsM, h]
    rw [e]; split
    · have := hG (nth p.Kids 0).Attrs (nth p.Kids 1).Attrs
      have := hA 0 (by omega); have := hA 1 (by omega); simp only []; omega
    · simp
  · have e : (colsM s p).1 = (nth p.Kids 0).Attrs := by simp [colsM, h]
    rw [e]; have := hA 0 (by omega); omega
  · have e : (colsM s p).1 = (nth p.Kids 0).Attrs := by simp [colsM, h]
    rw [e]; have := hA 0 (by omega); omega
  · have e : colsM s p = if gw p = true then (tv p, true) else ([], false) := by simp [colsM, h]
    rw [e]; split
    · simp only [tv, List.length_set]; have := hA 0 (by omega); omega
    · simp
  · have e : colsM s p = if fS p = true then (jB p, jq p) else ([], false) := by simp [colsM, h]
    rw [e]; split
    · simp only [jB, bv, List.length_append, List.length_map, List.length_singleton]; omega
    · simp
def yH (s : GSchema) (n : Nat) : Prop := ∀ (lv : Nat) (p : aG), lv <= 1000 -> od n p -> Fun1 prog 105 [aV.ty s, mT kvI ge gA, (aR n).ty p, tV (.int .i64 lv)] (tV (.bool (validM s lv p)))
theorem rq (s : GSchema) (hz : SchSz s) (n lv : Nat) (p : aG) (hlv : lv <= 1000) (hp : od (n + 1) p) (ih : yH s n) : Fun1 prog 105 [aV.ty s, mT kvI ge gA, (aR (n + 1)).ty p, tV (.int .i64 lv)] (tV (.bool (validM s lv p))) := by
 refine Spec.enter func105 rfl rfl fun h0 w0 fr0 => ?_
 obtain ⟨z1, z2, z3, z4, z5⟩ := id hp
 refine Jr (Zs (aJ (R := aV) Sr) (Zs (aJ (R := (aR (n + 1))) Sr) (Za (ae (Jr ?_)))))
 refine Zm (Zs (aa br Sr rfl) (Zl ty3 Sr (Zs (lO (kv := kvI) (R := ge) (z := tf) (KeyT.int underlying3) underlying164 (fun w => zeroValue213 w) zA Sr Sr) (Zm (Zs (aM Sr rfl) ?_)))))
 refine Zs (aM Sr rfl) ?_
 refine Zx (aD (fun w => zeroValue213 w) zA) fun v9 => ?_
 refine Ju (aj AU Sr Sr zS) fun _ => ?_
 refine bc (t := 9) (Sel.take (Dz _)) Frz.box ?_
 refine Za (ae (ar (Jr (Zm (Zs (bf Sr) ?_)))))
 refine Zm ?_
 refine Zk (al Sr) ?_
 refine Zg (fun hw => aC (Sub.w hw) Sr) (Zs (az Sr Sr) (Zm ?_))
 refine Zk (aa br Sr rfl) ?_
 refine Zg (fun hw => ab gp (Sub.w hw)) (Zg (fun hw => ah underlying42 (Sub.w hw)) ?_)
 refine Zk (aa lo Sr rfl) ?_
 refine Zg (fun hw => ab ty3 (Sub.w hw)) (Zg (fun hw => bb (Sub.w hw) (Sub.w hw)) (Zs (az Sr Sr) (ae ?_)))
 refine au Sr (fun h37 => ?_) (fun h37 => ?_)
 ·
  try simp only [NF] at h37
  refine Jr (Za (ae (aF ?_)))
  refine aK (t := 8) rfl () ?_
  refine Sub.bool ?_
  cases lv with
  | zero => rfl
  | succ l =>
   have : (cT p.Kind && decide ((p.Kids.length : Int) = kidsN p.Kind)) = false := by
    rw [nz] at h37
    by_cases hkd : cT p.Kind = true
    ·
     rw [hkd, Bool.true_and, decide_eq_false_iff_not, <- nA hkd]
     rcases h37 with (h | h) | h
     ·
      rw [hkd] at h; cases h
     ·
      omega
     exact h
    rw [Bool.eq_false_iff.2 hkd, Bool.false_and]
   simp only [validM, this, Bool.false_and]
 try simp only [NF] at h37
 rw [nz] at h37
 have hkd : cT p.Kind = true := by simp_all
 have hkn : (p.Kids.length : Int) = kidsN p.Kind := by rw [<- nA hkd]; simp_all
 obtain ⟨l, rfl⟩ : ∃ l, lv = l + 1 := ⟨lv - 1, by omega⟩
 refine ay (ar (Jr (Zs (aa br Sr rfl) (Zl gp Sr (Zs (ah underlying42 Sr) ?_)))))
 refine Zm (ae (av ?_))
 refine aO (σ := Nat) (fun i => i <= p.Kids.length /\ ∀ k, k < i -> validM s l (nth p.Kids k) = true) (fun i => upd (upd (upd (upd (upd (upd (upd (upd (upd cg 1 (mT kvI ge gA)) 3 (tV (.int .i64 ((l + 1 : Nat) : Int)))) 4 (bx aV s)) 6 (bx (aR (n + 1)) p)) 9 (bx ge (uV p.Kind))) 10 (tV (.bool (pj gA p.Kind).isSome))) 39 (tSl (aR n) p.Kids)) 40 (tV (.int .i64 p.Kids.length))) 41 (tV (.int .i64 i))) (fun i => []) (fun i => p.Kids.length - i) 0 ⟨by omega, fun k hk => by omega⟩ (zU) (LSub.rfl) ?_
 rintro i ⟨hi, hv⟩
 refine Jr (Zs (aA Sr Sr) (ae (ar ?_)))
 refine au Sr (fun h42 => ?_) (fun h42 => ?_)
 ·
  try simp only [NF] at h42
  have hlt : i < p.Kids.length := by omega
  refine eX 39 (fun _ _ r => n9 zG r) fun ⟨m, hm⟩ => ?_
  subst hm
  refine ay (ar (av (Jr ?_)))
  refine Zs (ad  underlying42 dl Sr Sr rfl (gb (by exact hlt))) ?_
  refine Zl dl Sr ?_
  refine Zx (aD (fun w => zeroValue46 w) (ss (n := m))) fun v12 => ?_
  refine Ju (aj dl Sr Sr zS) fun _ => ?_
  refine bc (t := 12) (Sel.take (Dz _)) Frz.box ?_
  refine ae (Jr (Zl fR Sr (Zm (Zl dl Sr (Zm ?_)))))
  refine Zs (dN Sr Sr z6) (Zs (ai (ih l _ zG (z5 _ (aH hlt)).1) ⟨Sr, Sr, Sr, Sub.int zG, trivial⟩ call105) (Zs (bf Sr) (ae ?_)))
  refine au Sr (fun h51 => ?_) (fun h51 => ?_)
  ·
   try simp only [NF] at h51
   refine Jr (Za (ae (aF ?_)))
   refine aK (t := 8) rfl () ?_
   refine Sub.bool ?_
   have : p.Kids.all (validM s l) = false := gZ hlt (by simpa using h51)
   simp only [validM, this]; simp
  try simp only [NF] at h51
  refine ay (aq (Zs (aB Sr Sr z6) (Zm (ae ?_))))
  refine aE (σ := Nat) (s := i) (i + 1) zO ?_ (zU) (LSub.rfl)
  exact kr (p := fun q => validM s l q = true) hlt hv (by simpa using h51)
 try simp only [NF] at h42
 have hkids : p.Kids.all (validM s l) = true := iP (fun k hk => hv k zG)
 refine aY (ar (Jr (Zs (aa lo Sr rfl) (Zl CA Sr (Zl dl Sr ?_)))))
 refine Zs (uW hkd Sr Sr) ?_
 refine Zx (aD (fun w => zeroValue46 w) (ss (n := n))) fun v13 => ?_
 refine Ju (aj dl Sr Sr zS) fun _ => ?_
 refine bc (t := 13) (Sel.take (Dz _)) Frz.box ?_
 refine ae (Jr (Zs (aa br Sr rfl) (Zl ty3 Sr (Zs (bb Sr Sr) (Zm ?_)))))
 refine Zk (aa br Sr rfl) ?_
 refine Zg (fun hw => ab iN (Sub.w hw)) (Zg (fun hw => ah underlying43 (Sub.w hw)) (Zg (fun hw => bD (Sub.w hw) Sr) (Zs (az Sr Sr) (Zm ?_))))
 refine Zk (aa br Sr rfl) ?_
 refine Zg (fun hw => ab bY (Sub.w hw)) (Zg (fun hw => ah underlying36 (Sub.w hw)) (Zg (fun hw => bD (Sub.w hw) Sr) (Zs (az Sr Sr) (Zm ?_))))
 refine Zk (aa br Sr rfl) ?_
 refine Zg (fun hw => ab ty3 (Sub.w hw)) (Zg (fun hw => bb (Sub.w hw) Sr) (Zs (az Sr Sr) (Zm ?_)))
 refine Zk (aa br Sr rfl) ?_
 refine Zg (fun hw => ab ty3 (Sub.w hw)) (Zg (fun hw => bb (Sub.w hw) Sr) (Zs (az Sr Sr) (ae ?_)))
 refine au Sr (fun h81 => ?_) (fun h81 => ?_)
 ·
  try simp only [NF] at h81
  refine Jr (Za (ae (aF ?_)))
  refine aK (t := 8) rfl () ?_
  refine Sub.bool ?_
  have : bareM p = false := by
   unfold bareM
   simp only [NF]
   exact h81
  simp only [validM, this]; simp
 try simp only [NF] at h81
 have hb : bareM p = true := by
  unfold bareM
  simp only [NF]
  exact h81
 refine ay (ar (Jr (Zs (aa br Sr rfl) (Zl bQ Sr (Zs (ah underlying44 Sr) ?_)))))
 refine Zm (ae (av ?_))
 refine aO (σ := Nat) (fun i => i <= p.Attrs.length /\ ∀ k, k < i -> ez p.Attrs k = true) (fun i => upd (upd (upd (upd (upd (upd (upd cg 4 (bx aV s)) 6 (bx (aR (n + 1)) p)) 9 (bx ge (uV p.Kind))) 10 (tV (.bool (pj gA p.Kind).isSome))) 83 (tSl aS p.Attrs)) 84 (tV (.int .i64 p.Attrs.length))) 85 (tV (.int .i64 i))) (fun i => []) (fun i => p.Attrs.length - i) 0 ⟨by omega, fun k hk => by omega⟩ (zU) (LSub.rfl) ?_
 rintro i ⟨hi2, hv2⟩
 refine Jr (Zs (aA Sr Sr) (ae (ar ?_)))
 refine au Sr (fun h86 => ?_) (fun h86 => ?_)
 ·
  try simp only [NF] at h86
  have hlt : i < p.Attrs.length := by omega
  refine ay (ar (av (Jr (Zm ?_))))
  refine Zs (ad  underlying44 ct Sr Sr rfl (gb (by exact hlt))) ?_
  refine Zl ct Sr ?_
  refine Zx (aD (fun w => zeroValue89 w) qY) fun v15 => ?_
  refine Za ?_
  refine Ju (aj ct Sr Sr zS) fun _ => ?_
  refine bc (t := 15) (Sel.take (Dz _)) Frz.box ?_
  refine ae (Jr (Zs (aa br Sr rfl) (Zl bQ Sr (Zs (aa dH Sr rfl) (Zl ty9 Sr ?_)))))
  refine Zs (ai (kQ _ _ (by show p.Attrs.length <= _; omega)) ⟨Sr, Sr, trivial⟩ call166) ?_
  refine Zm (Zs (bb Sr Sr) (ae ?_))
  refine au Sr (fun h96 => ?_) (fun h96 => ?_)
  ·
   try simp only [NF] at h96
   refine Jr (Za (ae (aF ?_)))
   refine aK (t := 8) rfl () ?_
   refine Sub.bool ?_
   have : ez p.Attrs i = false := by simpa [ez] using h96
   simp only [validM, eV hlt this]; simp
  try simp only [NF] at h96
  refine ay (aq (Zs (aB Sr Sr z6) (Zm (ae ?_))))
  refine aE (σ := Nat) (s := i) (i + 1) zO ?_ (zU) (LSub.rfl)
  refine ⟨by omega, fun k hk => ?_⟩
  by_cases e : k = i
  ·
   subst e; simpa [ez] using h96
  exact hv2 k zG
 try simp only [NF] at h86
 have hns : (List.range p.Attrs.length).all (ez p.Attrs) = true := eU (fun k hk => hv2 k zG)
 refine aY (Jr (Zs (aa lo Sr rfl) (Zl AT Sr (Zl dl Sr (Zl fR Sr ?_)))))
 refine Zs (aU (x := (⟨p, s⟩ : Gplan)) (zs := [[Value.int .i64 0, Value.int .i64 0, Value.slice none 0 0, Value.slice none 0 0, Value.slice none 0 0, Value.int .i64 0, Value.int .i64 0, Value.slice none 0 0], [Value.slice none 0 0]]) dw (fun w => zeroValue217 w) ⟨Sr, Sr, trivial⟩ ⟨⟨Sr, rfl⟩, ⟨Sr, rfl⟩, trivial⟩) (Zs (uX hkd hkn hz hp Sr Sr) (Zm (Zs (aM Sr rfl) (Zs (aM Sr rfl) (Za ?_)))))
 refine Za (ae (Jr (Zm (Zm ?_))))
 refine Zk (al Sr) ?_
 refine Zk (aa br Sr rfl) ?_
 refine Zg (fun hw => ab bQ (Sub.w hw)) (Zg (fun hw => ai (nt _ _ (xE hz hp hkd hkn)) ⟨(Sub.w hw), (Sub.w hw), trivial⟩ call167) (Zs (aw Sr Sr) (Za (ae (aF ?_)))))
 refine aK (t := 8) rfl () ?_
 refine Sub.bool ?_
 have hkn2 : decide ((p.Kids.length : Int) = kidsN p.Kind) = true := by rw [decide_eq_true_eq]; exact hkn
 simp only [validM, hkd, hkn2, hkids, hb, hns, Bool.true_and]
theorem nC (s : GSchema) (hz : SchSz s) : ∀ n, yH s n
 | 0 => fun lv p hlv hp => by
  refine Spec.enter func105 rfl rfl fun h0 w0 fr0 => ?_
  exact eX 2 (fun _ _ r => (show False from r)) fun q => q.elim
 | n + 1 => fun lv p hlv hp => rq s hz n lv p hlv hp (nC s hz n)
def iE (s : GSchema) (p : aG) : Bool := lX s && validM s 12 p
theorem gO (s : GSchema) (hz : SchSz s) (n : Nat) (p : aG) (hp : od n p) : Fun1 prog 60 [aV.ty s, (aR n).ty p] (tV (.bool (iE s p))) := by
 refine Spec.enter func60 rfl rfl fun h0 w0 fr0 => ?_
 refine Jr (Zs (aJ (R := aV) Sr) (Zs (aJ (R := (aR n)) Sr) (Za (ae (ar ?_)))))
 refine bl [⟨0, [2], true⟩, ⟨1, [5], true⟩, ⟨2, [6], true⟩, ⟨3, [2, 7], true⟩, ⟨4, [7], true⟩, ⟨5, [3, 7], true⟩, ⟨6, [7, 8, 9, 10], true⟩, ⟨7, [7, 11], true⟩, ⟨8, [12], true⟩] rfl (by kernel_rfl) ?_
 refine Zf rfl (ab fR Sr) (Zf rfl (ai (oc _ hz) ⟨Sr, trivial⟩ call104) (Zv rfl ?_))
 refine Mk rfl rfl Sr rfl (ab fR Sr) ?_
 refine Mk rfl rfl Sr rfl (ai (nB) trivial call106) ?_
 refine Mk rfl rfl Sr rfl (ab dl Sr) ?_
 refine Mg rfl rfl Sr rfl (fun hw => ai (nC s hz n 12 p zG hp) ⟨Sub.w hw, Sub.w hw, Sub.w hw, Sr, trivial⟩ call105) (Zf rfl (aw Sr Sr) (Zf rfl (aW Sr) (bj (aF ?_))))
 exact aK (t := 4) rfl () Sr
section
variable {C : Cx} {E : Env} {L : List SP} {d : Option Nat} {ty : Nat} {pos : String} {af : Array Edge} {g : Option (Nat × Bool)}
theorem pF {T U : Nat} {x y : Operand} {a b : Int} (hx : Sub (opTy E x) (tV (.int .i64 a))) (hy : Sub (opTy E y) (tV (.int .i64 b))) :
    bs C ⟨d, .binOp .add T x y U, ty, pos, af, g⟩ E L (tV (.int .i64 (IntKind.i64.wrap (a + b)))) := eo hx hy (fun P w => by simp [binOp, Op.intArith])
end
def lY (t : GTable) (l : List GAttr) : Bool := decide (l.length = t.Attrs.length) && (List.range l.length).all fun i => decide ((nth l i).Kind = (nth t.Attrs i).Kind) && decide (d6 t (nth l i).Name = i)
def jF (k : Int) : Int := if cT k = true then kidsN k else -1
def bareR (p : aG) : Bool := (decide (p.Kind = 1) || decide (p.Table = 0)) && (decide (p.Kind = 2) || decide ((p.Tests.length : Int) = 0)) && ((decide (p.Kind = 3) || decide (p.Kind = 8)) || decide ((p.Cols.length : Int) = 0)) && ((decide (p.Kind = 7) || decide (p.Kind = 8)) || decide (p.Col = 0)) && (decide (p.Kind = 8) || decide (p.Agg = 0))
theorem sx {x : GSide} {n : Int} (h : iQ x n = true) : x.Var = -1 \/ x.Var = 0 := by
  unfold iQ at h
  split at h
  · exact .inl (by assumption)
  · simp only [Bool.and_eq_true, decide_eq_true_eq] at h; exact .inr h.1.1.1
theorem xF (t : GTest) (n : Int) : (decide (1 <= t.Op) && decide (t.Op <= 4) && decide (-2 < IntKind.i64.wrap (t.Left.Var + t.Right.Var)) && iQ t.Left n && iQ t.Right n) = ew t n := by
  unfold ew
  by_cases hl : iQ t.Left n = true
  · by_cases hr : iQ t.Right n = true
    · have h1 := sx hl
      have h2 := sx hr
      rw [hl, hr, gr (by unfold fe; omega)]
      have : decide (-2 < t.Left.Var + t.Right.Var) = (decide (t.Left.Var = 0) || decide (t.Right.Var = 0)) := by
        rw [Bool.eq_iff_iff]; simp only [decide_eq_true_eq, Bool.or_eq_true]; omega
      rw [this]; simp only [Bool.and_true]
    · rw [Bool.eq_false_iff.2 hr]; simp
  · rw [Bool.eq_false_iff.2 hl]; simp
theorem fC (l : List GAttr) (n : ByteArray) (hl : l.length <= 1000000000000) : Fun1 prog 123 [tSl aS l, tV (.string n)] (tV (.int .i64 (columnL l n))) := by
 refine Spec.enter func123 rfl rfl fun h0 w0 fr0 => ?_
 refine Jr (Za (ae (ar (Jr (Za ?_)))))
 refine ae (av ?_)
 refine aO (σ := Nat) (fun i => i <= l.length /\ ∀ k, k < i -> decide ((nth l k).Name = n) = false) (fun i => upd (upd (upd cg 0 (tSl aS l)) 1 (tV (.string n))) 5 (tV (.int .i64 i))) (fun i => []) (fun i => l.length - i) 0 ⟨by omega, fun k hk => by omega⟩ (zU) (LSub.rfl) ?_
 rintro i ⟨hi, hv⟩
 refine ar (Jr (Zm (Zm (Zs (ah underlying44 Sr) (Zs (aA Sr Sr) ?_)))))
 refine ae ?_
 refine au Sr (fun h9 => ?_) (fun h9 => ?_)
 ·
  try simp only [NF] at h9
  have hlt : i < l.length := by omega
  refine ay (ar (av (Jr (Zm (Zm ?_)))))
  refine Zs (ad (i := i) underlying44 ct Sr Sr (by rfl) (gb (by exact hlt))) ?_
  refine Zs (aa dH Sr rfl) (Zl ty9 Sr (Zm (Zs (bU Sr Sr) (ae ?_))))
  refine au Sr (fun h18 => ?_) (fun h18 => ?_)
  ·
   try simp only [NF] at h18
   refine Jr (Zm (Za (ae (aF ?_))))
   refine aK (t := 4) rfl () (Sub.int ?_)
   exact (iD hlt hv (by simp_all)).symm
  try simp only [NF] at h18
  refine ay (aq (Zm (Zs (aB Sr Sr z6) (Za (ae ?_)))))
  refine aE (σ := Nat) (s := i) (i + 1) zO ?_ (zU) (LSub.rfl)
  refine ⟨by omega, fun k hk => ?_⟩
  by_cases e : k = i
  ·
   subst e; simp_all
  exact hv k zG
 try simp only [NF] at h9
 obtain rfl : i = l.length := by omega
 refine aY (Jr (Za (ae (aF ?_))))
 refine aK (t := 4) rfl () (Sub.int ?_)
 exact (lB hv).symm
theorem tE (t : GTable) (n : ByteArray) (hl : t.Attrs.length <= 1000000000000) (hw : ∀ a ∈ t.Attrs, a.Was.length <= 1000000000000) : Fun1 prog 309 [cc.ty t, tV (.string n)] (tV (.int .i64 (d6 t n))) := by
 refine Spec.enter func309 rfl rfl fun h0 w0 fr0 => ?_
 refine Jr (Zs (aJ (R := cc) Sr) (Za (ae (ar (Jr ?_)))))
 refine Za (ae (av ?_))
 refine aO (σ := Nat) (fun i => i <= t.Attrs.length /\ ∀ k, k < i -> decide ((nth t.Attrs k).Name = n) = false) (fun i => upd (upd (upd cg 1 (tV (.string n))) 2 (bx cc t)) 5 (tV (.int .i64 i))) (fun i => []) (fun i => t.Attrs.length - i) 0 ⟨by omega, fun k hk => by omega⟩ (zU) (LSub.rfl) ?_
 rintro i ⟨hi, hv⟩
 refine ar (Jr (Zm (Zs (aa eu Sr rfl) (Zl bQ Sr (Zs (ah underlying44 Sr) ?_)))))
 refine Zs (aA Sr Sr) (ae ?_)
 refine au Sr (fun h12 => ?_) (fun h12 => ?_)
 ·
  try simp only [NF] at h12
  have hlt : i < t.Attrs.length := by omega
  refine ay (ar (av (Jr (Zs (aa eu Sr rfl) (Zl bQ Sr ?_)))))
  refine Zm ?_
  refine Zs (ad (i := i) underlying44 ct Sr Sr (by rfl) (gb (by exact hlt))) ?_
  refine Zs (aa dH Sr rfl) (Zl ty9 Sr (Zm (Zs (bU Sr Sr) (ae ?_))))
  refine au Sr (fun h22 => ?_) (fun h22 => ?_)
  ·
   try simp only [NF] at h22
   refine Jr (Zm (Za (ae (aF ?_))))
   refine aK (t := 4) rfl () (Sub.int ?_)
   rw [d6, if_pos (by rw [iD hlt hv (by simp_all)]; omega), iD hlt hv (by simp_all)]
  try simp only [NF] at h22
  refine ay (aq (Zm (Zs (aB Sr Sr z6) (Za (ae ?_)))))
  refine aE (σ := Nat) (s := i) (i + 1) zO ?_ (zU) (LSub.rfl)
  refine ⟨by omega, fun k hk => ?_⟩
  by_cases e : k = i
  ·
   subst e; simp_all
  exact hv k zG
 try simp only [NF] at h12
 have hno : ¬ 0 <= findI (fun a => decide (a.Name = n)) 0 t.Attrs := by rw [lB (fun k hk => hv k zG)]; omega
 refine aY (ar (Jr (Za (ae (av ?_)))))
 refine aO (σ := Nat) (fun i => i <= t.Attrs.length /\ ∀ k, k < i -> ((nth t.Attrs k).Was.any fun x => decide (n = x)) = false) (fun i => upd (upd (upd cg 1 (tV (.string n))) 2 (bx cc t)) 6 (tV (.int .i64 i))) (fun i => []) (fun i => t.Attrs.length - i) 0 ⟨by omega, fun k hk => by omega⟩ (zU) (LSub.rfl) ?_
 rintro i ⟨hi2, hv2⟩
 refine ar (Jr (Zm (Zs (aa eu Sr rfl) (Zl bQ Sr (Zs (ah underlying44 Sr) ?_)))))
 refine Zs (aA Sr Sr) (ae ?_)
 refine au Sr (fun h28 => ?_) (fun h28 => ?_)
 ·
  try simp only [NF] at h28
  have hlt : i < t.Attrs.length := by omega
  have hwl := hw _ (aH hlt)
  refine ay (ar (av (Jr (Za (ae ?_)))))
  refine av ?_
  refine aO (σ := Nat) (fun k => k <= (nth t.Attrs i).Was.length /\ ∀ j, j < k -> decide (n = nth (nth t.Attrs i).Was j) = false) (fun k => upd (upd (upd (upd cg 1 (tV (.string n))) 2 (bx cc t)) 6 (tV (.int .i64 i))) 7 (tV (.int .i64 k))) (fun k => []) (fun k => (nth t.Attrs i).Was.length - k) 0 ⟨by omega, fun k hk => by omega⟩ (zU) (LSub.rfl) ?_
  rintro k ⟨hi3, hv3⟩
  refine ar (Jr (Zm (Zs (aa eu Sr rfl) (Zl bQ Sr (Zm ?_)))))
  refine Zs (ad (i := i) underlying44 ct Sr Sr (by rfl) (gb (by exact hlt))) ?_
  refine Zs (aa dH Sr rfl) (Zl yD Sr (Zs (ah underlying85 Sr) (Zs (aA Sr Sr) (ae ?_))))
  refine au Sr (fun h39 => ?_) (fun h39 => ?_)
  ·
   try simp only [NF] at h39
   have hkt : k < (nth t.Attrs i).Was.length := by omega
   refine ay (ar (av (Jr (Zs (aa eu Sr rfl) (Zl bQ Sr ?_)))))
   refine Zm ?_
   refine Zs (ad (i := i) underlying44 ct Sr Sr (by rfl) (gb (by exact hlt))) ?_
   refine Zs (aa dH Sr rfl) (Zl yD Sr (Zm ?_))
   refine Zs (ad (i := k) underlying85 ty9 Sr Sr (by rfl) (gb (by exact hkt))) ?_
   refine Zl ty9 Sr (Zm (Zs (bU Sr Sr) (ae ?_)))
   refine au Sr (fun h52 => ?_) (fun h52 => ?_)
   ·
    try simp only [NF] at h52
    refine Jr (Zm (Za (ae (aF ?_))))
    refine aK (t := 4) rfl () (Sub.int ?_)
    rw [d6, if_neg hno, iD hlt hv2 (AX hkt (by rw [decide_eq_true_eq]; exact h52.symm))]
   try simp only [NF] at h52
   refine ay (aq (Zm (Zs (aB Sr Sr z6) (Za (ae ?_)))))
   refine aE (σ := Nat) (s := k) (k + 1) zO ?_ (zU) (LSub.rfl)
   refine ⟨by omega, fun j hj => ?_⟩
   by_cases e : j = k
   ·
    subst e; rw [decide_eq_false_iff_not]; intro q; exact h52 q.symm
   exact hv3 j zG
  try simp only [NF] at h39
  obtain rfl : k = (nth t.Attrs i).Was.length := by omega
  refine aY (aq (Zm (Zs (aB Sr Sr z6) (Za (ae ?_)))))
  refine aE (σ := Nat) (s := i) (i + 1) zO ?_ (zU) (LSub.rfl)
  refine ⟨by omega, fun k hk => ?_⟩
  by_cases e : k = i
  ·
   subst e; exact B3 hv3
  exact hv2 k zG
 try simp only [NF] at h28
 obtain rfl : i = t.Attrs.length := by omega
 refine aY (Jr (Za (ae (aF ?_))))
 refine aK (t := 4) rfl () (Sub.int ?_)
 rw [d6, if_neg hno, lB hv2]
theorem pG (l : List Int) (n : Nat) (hl : l.length <= 1000000000000) : Fun1 prog 268 [tSl bg l, tV (.int .i64 n)] (tV (.bool (dU n l))) := by
 refine Spec.enter func268 rfl rfl fun h0 w0 fr0 => ?_
 refine Jr (Za (ae (ar (Jr (Za ?_)))))
 refine ae (av ?_)
 refine aO (σ := Nat) (fun i => i <= l.length /\ ∀ k, k < i -> (decide (0 <= nth l k) && decide (nth l k < n)) = true) (fun i => upd (upd (upd cg 0 (tSl bg l)) 1 (tV (.int .i64 n))) 5 (tV (.int .i64 i))) (fun i => []) (fun i => l.length - i) 0 ⟨by omega, fun k hk => by omega⟩ (zU) (LSub.rfl) ?_
 rintro i ⟨hi, hv⟩
 refine ar (Jr (Zm (Zm (Zs (ah underlying36 Sr) (Zs (aA Sr Sr) ?_)))))
 refine ae ?_
 refine au Sr (fun h9 => ?_) (fun h9 => ?_)
 ·
  try simp only [NF] at h9
  have hlt : i < l.length := by omega
  refine ay (ar (av (Jr (Zm (Zm ?_)))))
  refine Zs (ad (i := i) underlying36 ty3 Sr Sr (by rfl) (gb (by exact hlt))) ?_
  refine Zl ty3 Sr (Zs (aA Sr Sr) (Zm ?_))
  refine Zk (al Sr) ?_
  refine Zk (al Sr) ?_
  refine Zg (fun hw => ad (i := i) underlying36 ty3 (Sub.w hw) (Sub.w hw) (by rfl) (gb (by have hwq := hw; (try simp only [beqB_t, beqB_f, NF] at hwq); exact hlt))) ?_
  refine Zg (fun hw => ab ty3 (Sub.w hw)) ?_
  refine Zk (al Sr) ?_
  refine Zg (fun hw => bE (Sub.w hw) (Sub.w hw)) (Zs (az Sr Sr) (ae ?_))
  refine au Sr (fun h24 => ?_) (fun h24 => ?_)
  ·
   try simp only [NF] at h24
   refine Jr (Za (ae (aF ?_)))
   refine aK (t := 4) rfl () ?_
   refine Sub.bool ?_
   exact (gZ hlt (by rcases h24 with h | h <;> simp <;> omega)).symm
  try simp only [NF] at h24
  refine ay (aq (Zm (Zs (aB Sr Sr z6) (Za (ae ?_)))))
  refine aE (σ := Nat) (s := i) (i + 1) zO ?_ (zU) (LSub.rfl)
  refine ⟨by omega, fun k hk => ?_⟩
  by_cases e : k = i
  ·
   subst e; simp; omega
  exact hv k zG
 try simp only [NF] at h9
 have hall : dU n l = true := iP (fun k hk => hv k zG)
 refine aY (Jr (Za (ae (aF ?_))))
 refine aK (t := 4) rfl () ?_
 refine Sub.bool ?_
 exact hall.symm
theorem cU (a b : List GAttr) (hl : a.length <= 1000000000000) : Fun1 prog 267 [tSl aS a, tSl aS b] (tV (.bool (cq a b))) := by
 refine Spec.enter func267 rfl rfl fun h0 w0 fr0 => ?_
 refine Jr (Za (ae (ar (Jr (Zm ?_)))))
 refine Zs (ah underlying44 Sr) (Zm (Zs (ah underlying44 Sr) (Zs (bb Sr Sr) (ae ?_))))
 refine au Sr (fun h10 => ?_) (fun h10 => ?_)
 ·
  try simp only [NF] at h10
  refine Jr (Za (ae (aF ?_)))
  refine aK (t := 4) rfl () ?_
  refine Sub.bool ?_
  have : ¬ a.length = b.length := by omega
  simp [cq, eqL, this]
 try simp only [NF] at h10
 have heq : a.length = b.length := by omega
 refine ay (ar (Jr (Za (ae (av ?_)))))
 refine aO (σ := Nat) (fun i => i <= a.length /\ ∀ k, k < i -> alikeA (nth a k) (nth b k) = true) (fun i => upd (upd (upd cg 0 (tSl aS a)) 1 (tSl aS b)) 5 (tV (.int .i64 i))) (fun i => []) (fun i => a.length - i) 0 ⟨by omega, fun k hk => by omega⟩ (zU) (LSub.rfl) ?_
 rintro i ⟨hi, hv⟩
 refine ar (Jr (Zm (Zm (Zs (ah underlying44 Sr) (Zs (aA Sr Sr) ?_)))))
 refine ae ?_
 refine au Sr (fun h14 => ?_) (fun h14 => ?_)
 ·
  try simp only [NF] at h14
  have hlt : i < a.length := by omega
  refine ay (ar (av (ar ?_)))
  refine bl [⟨0, [0], true⟩, ⟨1, [5], true⟩, ⟨2, [17, 18], true⟩, ⟨3, [19], true⟩, ⟨4, [20], true⟩, ⟨5, [1], true⟩, ⟨6, [5], true⟩, ⟨7, [22, 23], true⟩, ⟨8, [24], true⟩, ⟨9, [25], true⟩, ⟨10, [21, 26], true⟩, ⟨11, [27], true⟩, ⟨12, [0, 28], true⟩, ⟨13, [5, 28], true⟩, ⟨14, [28, 29, 30], true⟩, ⟨15, [28, 31], true⟩, ⟨16, [28, 32], true⟩, ⟨17, [1, 28], true⟩, ⟨18, [5, 28], true⟩, ⟨19, [28, 34, 35], true⟩, ⟨20, [28, 36], true⟩, ⟨21, [28, 37], true⟩, ⟨22, [28, 33, 38], true⟩, ⟨23, [28, 39], true⟩] rfl (by kernel_rfl) ?_
  refine Zv rfl (Zv rfl ?_)
  refine Zf rfl (ad (i := i) underlying44 ct Sr Sr (by rfl) (gb (by exact hlt))) ?_
  refine Zf rfl (aa dH Sr rfl) (Zf rfl (ab ty9 Sr) (Zv rfl (Zv rfl ?_)))
  refine Zf rfl (ad (i := i) underlying44 ct Sr Sr (by rfl) (gb (by show i < b.length; omega))) ?_
  refine Zf rfl (aa dH Sr rfl) (Zf rfl (ab ty9 Sr) (Zf rfl (fV Sr Sr) (Zv rfl ?_)))
  refine Mk rfl rfl Sr rfl (al Sr) ?_
  refine Mk rfl rfl Sr rfl (al Sr) ?_
  refine Mg rfl rfl Sr rfl (fun hw => ad (i := i) underlying44 ct (Sub.w hw) (Sub.w hw) (by rfl) (gb (by have hwq := hw; (try simp only [beqB_t, beqB_f, NF] at hwq); exact hlt))) ?_
  refine Mg rfl rfl Sr rfl (fun hw => aa dH (Sub.w hw) rfl) (Mg rfl rfl Sr rfl (fun hw => ab ty3 (Sub.w hw)) ?_)
  refine Mk rfl rfl Sr rfl (al Sr) ?_
  refine Mk rfl rfl Sr rfl (al Sr) ?_
  refine Mg rfl rfl Sr rfl (fun hw => ad (i := i) underlying44 ct (Sub.w hw) (Sub.w hw) (by rfl) (gb (by have hwq := hw; (try simp only [beqB_t, beqB_f, NF] at hwq); show i < b.length; omega))) ?_
  refine Mg rfl rfl Sr rfl (fun hw => aa dH (Sub.w hw) rfl) (Mg rfl rfl Sr rfl (fun hw => ab ty3 (Sub.w hw)) (Mg rfl rfl Sr rfl (fun hw => bb (Sub.w hw) (Sub.w hw)) (Zf rfl (az Sr Sr) (bj ?_))))
  refine au Sr (fun h40 => ?_) (fun h40 => ?_)
  ·
   try simp only [NF] at h40
   refine Jr (Za (ae (aF ?_)))
   refine aK (t := 4) rfl () ?_
   refine Sub.bool ?_
   have : alikeA (nth a i) (nth b i) = false := by rcases h40 with h | h <;> simp [alikeA, h]
   simp only [cq, eqL, eV (f := fun i => alikeA (nth a i) (nth b i)) hlt this]; simp
  try simp only [NF] at h40
  refine ay (aq (Zm (Zs (aB Sr Sr z6) (Za (ae ?_)))))
  refine aE (σ := Nat) (s := i) (i + 1) zO ?_ (zU) (LSub.rfl)
  refine ⟨by omega, fun k hk => ?_⟩
  by_cases e : k = i
  ·
   subst e; simp_all [alikeA]
  exact hv k zG
 try simp only [NF] at h14
 have hall := eU (n := a.length) (fun k hk => hv k zG)
 refine aY (Jr (Za (ae (aF ?_))))
 refine aK (t := 4) rfl () ?_
 refine Sub.bool ?_
 rw [cq, eqL, hall]; simp [heq]
theorem iF (l : List GAttr) (cols : List Int) (hc : cols.length <= 1000000000) (hok : dU l.length cols = true) : Fun1 prog 269 [tSl aS l, tSl bg cols] (tSl aS (bv l cols)) := by
 refine Spec.enter func269 rfl rfl fun h0 w0 fr0 => ?_
 refine Jr (Za (ae (Jr (Za (ae ?_)))))
 refine ar (Jr (Za (ae (av ?_))))
 refine aO (σ := Nat × Value) (fun ⟨i, v⟩ => i <= cols.length) (fun ⟨i, v⟩ => upd (upd (upd (upd (upd cg 0 (tSl aS l)) 1 (tSl bg cols)) 4 (tV (.slice none 0 0))) 5 (rV.ty v)) 6 (tV (.int .i64 i))) (fun ⟨i, v⟩ => [own 89 aS v (bv l (cols.take i))]) (fun ⟨i, v⟩ => cols.length - i) (0, .slice none 0 0) (by exact Nat.zero_le _) (.u (SubE.upd (DG rfl) (zU))) (DB) ?_
 rintro ⟨i, v⟩ hi
 try dsimp only at hi
 refine ar (Jr (Zm (Zm (Zs (ah underlying36 Sr) (Zs (aA Sr Sr) ?_)))))
 refine ae ?_
 refine au Sr (fun h10 => ?_) (fun h10 => ?_)
 ·
  try simp only [NF] at h10
  have hlt : i < cols.length := by omega
  have hpl : (bv l (cols.take i)).length <= 1000000000 := by simp [bv]; omega
  have hib : 0 <= nth cols i /\ nth cols i < l.length := by
   have := List.all_eq_true.1 hok _ (aH hlt)
   simpa using this
  refine ay (ar (av (aq (Zm (Zm ?_)))))
  refine Zm (Zm ?_)
  refine Zs (ad (i := i) underlying36 ty3 Sr Sr (by rfl) (gb (by exact hlt))) ?_
  refine Zl ty3 Sr (Zs (ad (i := (nth cols i).toNat) underlying44 ct Sr Sr zG (gb zG)) (Zl ct Sr ?_))
  refine Zs (ax (ys := [_]) underlying44 gv ⟨rfl, Sr, trivial⟩ rfl (by decide)) ?_
  refine Zx (aL underlying44 gv Sr Sr zS (by simp; omega) (by simp; omega)) fun v22 => ?_
  refine Za (ae (aq (Zm (Zs (aB Sr Sr z6) (Za ?_)))))
  refine ae ?_
  refine aE (σ := Nat × Value) (s := (i, v)) (i + 1, v22) zO (by show i + 1 <= _; omega) (zU) (.c zS (SPs.of (A := own 89 aS v22 (bv l (cols.take i) ++ [nth l (nth cols i).toNat])) (by rw [dM hlt]; simp [bv])) (LSub.nil))
 try simp only [NF] at h10
 obtain rfl : i = cols.length := by omega
 refine bZ (L' := [own 89 aS v (bv l cols)]) (.c zS (SPs.of (A := own 89 aS v (bv l (cols.take cols.length))) (by rw [List.take_length])) (LSub.nil)) ?_
 refine aY (Jr (Zm (Za (ae (aF ?_)))))
 refine aZ (rv := .tmp 4) rfl () (Sel.take (Dz _)) (.tmp Sr) Frz.own
theorem nD (x : GSide) (n : Int) : Fun1 prog 310 [kq.ty x, tV (.int .i64 n)] (tV (.bool (iQ x n))) := by
 refine Spec.enter func310 rfl rfl fun h0 w0 fr0 => ?_
 refine Jr (Zs (aJ (R := kq) Sr) (Za (ae (ar (Jr ?_)))))
 refine Zs (aa fQ Sr rfl) (Zl ty3 Sr (Zs (aC Sr Sr) (ae ?_)))
 refine au Sr (fun h7 => ?_) (fun h7 => ?_)
 ·
  try simp only [NF] at h7
  refine Jr (Zs (aa fQ Sr rfl) (Zl ty3 Sr (Zs (aC Sr Sr) (Zm ?_))))
  refine Zk (aa fQ Sr rfl) ?_
  refine Zg (fun hw => ab jp (Sub.w hw)) (Zg (fun hw => ai (iZ _) ⟨(Sub.w hw), trivial⟩ call75) (Zs (aw Sr Sr) (Za (ae (aF ?_)))))
  refine aK (t := 4) rfl () ?_
  refine Sub.bool ?_
  simp [iQ, h7]
 try simp only [NF] at h7
 refine ay (Jr (Zs (aa fQ Sr rfl) (Zl ty3 Sr (Zs (aC Sr Sr) (Zm ?_)))))
 refine Zk (aa fQ Sr rfl) ?_
 refine Zg (fun hw => ab ty3 (Sub.w hw)) (Zg (fun hw => bE (Sub.w hw) Sr) (Zs (aw Sr Sr) (Zm ?_)))
 refine Zk (aa fQ Sr rfl) ?_
 refine Zg (fun hw => ab ty3 (Sub.w hw)) ?_
 refine Zk (al Sr) ?_
 refine Zg (fun hw => aA (Sub.w hw) (Sub.w hw)) (Zs (aw Sr Sr) (Zm ?_))
 refine Zk (aa fQ Sr rfl) ?_
 refine Zg (fun hw => ab jp (Sub.w hw)) ?_
 refine Zk (aU (x := (⟨0, 0, ⟨#[]⟩⟩ : GValue)) (zs := [[Value.int .i64 0], [Value.int .i64 0], [Value.string ⟨#[]⟩]]) eT (fun w => zeroValue87 w) trivial ⟨fun _ => rfl, fun _ => rfl, fun _ => rfl, trivial⟩) ?_
 refine Zg (fun hw => kP (Sub.w hw) (Sub.w hw)) (Zs (aw Sr Sr) (Za (ae (aF ?_))))
 refine aK (t := 4) rfl () ?_
 refine Sub.bool ?_
 simp [iQ, h7]
theorem pH (t : GTest) (n : Int) : Fun1 prog 266 [be.ty t, tV (.int .i64 n)] (tV (.bool (ew t n))) := by
 refine Spec.enter func266 rfl rfl fun h0 w0 fr0 => ?_
 refine Jr (Zs (aJ (R := be) Sr) (Za (ae (Jr (Zs (aa gd Sr rfl) ?_)))))
 refine Zl ty3 Sr (Zs (bE Sr Sr) (Zm ?_))
 refine Zk (aa gd Sr rfl) ?_
 refine Zg (fun hw => ab ty3 (Sub.w hw)) (Zg (fun hw => bM (Sub.w hw) Sr) (Zs (aw Sr Sr) (Zm ?_)))
 refine Zk (aa gd Sr rfl) ?_
 refine Zg (fun hw => aa fQ (Sub.w hw) rfl) (Zg (fun hw => ab ty3 (Sub.w hw)) ?_)
 refine Zk (aa gd Sr rfl) ?_
 refine Zg (fun hw => aa fQ (Sub.w hw) rfl) (Zg (fun hw => ab ty3 (Sub.w hw)) (Zg (fun hw => pF (Sub.w hw) (Sub.w hw)) (Zg (fun hw => bD (Sub.w hw) Sr) (Zs (aw Sr Sr) (Zm ?_)))))
 refine Zk (aa gd Sr rfl) ?_
 refine Zg (fun hw => ab sr (Sub.w hw)) ?_
 refine Zk (al Sr) ?_
 refine Zg (fun hw => ai (nD _ _) ⟨(Sub.w hw), (Sub.w hw), trivial⟩ call310) (Zs (aw Sr Sr) (Zm ?_))
 refine Zk (aa gd Sr rfl) ?_
 refine Zg (fun hw => ab sr (Sub.w hw)) ?_
 refine Zk (al Sr) ?_
 refine Zg (fun hw => ai (nD _ _) ⟨(Sub.w hw), (Sub.w hw), trivial⟩ call310) (Zs (aw Sr Sr) (Za (ae (aF ?_))))
 refine aK (t := 4) rfl () ?_
 refine Sub.bool ?_
 exact xF t n
theorem rr (t : GTable) (hz : TabSz t) (l : List GAttr) (hl : l.length <= 1000000000000) : Fun1 prog 265 [cc.ty t, tSl aS l] (tV (.bool (lY t l))) := by
 refine Spec.enter func265 rfl rfl fun h0 w0 fr0 => ?_
 have hz2 := hz.at'
 have hwas : ∀ a ∈ t.Attrs, a.Was.length <= 1000000000000 := fun a ha => Nat.le_trans (hz.was a ha) zG
 refine Jr (Zs (aJ (R := cc) Sr) (Za (ae (ar (Jr ?_)))))
 refine Zm (Zs (ah underlying44 Sr) (Zs (aa eu Sr rfl) (Zl bQ Sr (Zs (ah underlying44 Sr) (Zs (bb Sr Sr) ?_)))))
 refine ae ?_
 refine au Sr (fun h11 => ?_) (fun h11 => ?_)
 ·
  try simp only [NF] at h11
  refine Jr (Za (ae (aF ?_)))
  refine aK (t := 4) rfl () ?_
  refine Sub.bool ?_
  have : ¬ l.length = t.Attrs.length := by omega
  simp [lY, this]
 try simp only [NF] at h11
 have heq : l.length = t.Attrs.length := by omega
 refine ay (ar (Jr (Za (ae (av ?_)))))
 refine aO (σ := Nat) (fun i => i <= l.length /\ ∀ k, k < i -> (decide ((nth l k).Kind = (nth t.Attrs k).Kind) && decide (d6 t (nth l k).Name = k)) = true) (fun i => upd (upd (upd cg 1 (tSl aS l)) 2 (bx cc t)) 5 (tV (.int .i64 i))) (fun i => []) (fun i => l.length - i) 0 ⟨by omega, fun k hk => by omega⟩ (zU) (LSub.rfl) ?_
 rintro i ⟨hi, hv⟩
 refine ar (Jr (Zm (Zm (Zs (ah underlying44 Sr) (Zs (aA Sr Sr) ?_)))))
 refine ae ?_
 refine au Sr (fun h15 => ?_) (fun h15 => ?_)
 ·
  try simp only [NF] at h15
  have hlt : i < l.length := by omega
  refine ay (ar (av (ar ?_)))
  refine bl [⟨0, [1], true⟩, ⟨1, [5], true⟩, ⟨2, [18, 19], true⟩, ⟨3, [20], true⟩, ⟨4, [21], true⟩, ⟨5, [2], true⟩, ⟨6, [23], true⟩, ⟨7, [5], true⟩, ⟨8, [24, 25], true⟩, ⟨9, [26], true⟩, ⟨10, [27], true⟩, ⟨11, [22, 28], true⟩, ⟨12, [29], true⟩, ⟨13, [2, 30], true⟩, ⟨14, [1, 30], true⟩, ⟨15, [5, 30], true⟩, ⟨16, [30, 32, 33], true⟩, ⟨17, [30, 34], true⟩, ⟨18, [30, 35], true⟩, ⟨19, [30, 31, 36], true⟩, ⟨20, [5, 30], true⟩, ⟨21, [30, 37, 38], true⟩, ⟨22, [30, 39], true⟩] rfl (by kernel_rfl) ?_
  refine Zv rfl (Zv rfl ?_)
  refine Zf rfl (ad (i := i) underlying44 ct Sr Sr (by rfl) (gb (by exact hlt))) ?_
  refine Zf rfl (aa dH Sr rfl) (Zf rfl (ab ty3 Sr) (Zf rfl (aa eu Sr rfl) (Zf rfl (ab bQ Sr) (Zv rfl ?_))))
  refine Zf rfl (ad (i := i) underlying44 ct Sr Sr (by rfl) (gb (by show i < t.Attrs.length; omega))) ?_
  refine Zf rfl (aa dH Sr rfl) (Zf rfl (ab ty3 Sr) (Zf rfl (bb Sr Sr) (Zv rfl ?_)))
  refine Mk rfl rfl Sr rfl (ab g8 Sr) ?_
  refine Mk rfl rfl Sr rfl (al Sr) ?_
  refine Mk rfl rfl Sr rfl (al Sr) ?_
  refine Mg rfl rfl Sr rfl (fun hw => ad (i := i) underlying44 ct (Sub.w hw) (Sub.w hw) (by rfl) (gb (by have hwq := hw; (try simp only [beqB_t, beqB_f, NF] at hwq); exact hlt))) ?_
  refine Mg rfl rfl Sr rfl (fun hw => aa dH (Sub.w hw) rfl) (Mg rfl rfl Sr rfl (fun hw => ab ty9 (Sub.w hw)) (Mg rfl rfl Sr rfl (fun hw => ai (tE _ _ zG hwas) ⟨(Sub.w hw), (Sub.w hw), trivial⟩ call309) ?_))
  refine Mk rfl rfl Sr rfl (al Sr) ?_
  refine Mg rfl rfl Sr rfl (fun hw => bb (Sub.w hw) (Sub.w hw)) (Zf rfl (az Sr Sr) (bj ?_))
  refine au Sr (fun h40 => ?_) (fun h40 => ?_)
  ·
   try simp only [NF] at h40
   refine Jr (Za (ae (aF ?_)))
   refine aK (t := 4) rfl () ?_
   refine Sub.bool ?_
   have : (decide ((nth l i).Kind = (nth t.Attrs i).Kind) && decide (d6 t (nth l i).Name = i)) = false := by rcases h40 with h | h <;> simp [h]
   simp only [lY, eV (f := fun i => decide ((nth l i).Kind = (nth t.Attrs i).Kind) && decide (d6 t (nth l i).Name = i)) hlt this]; simp
  try simp only [NF] at h40
  refine ay (aq (Zm (Zs (aB Sr Sr z6) (Za (ae ?_)))))
  refine aE (σ := Nat) (s := i) (i + 1) zO ?_ (zU) (LSub.rfl)
  refine ⟨by omega, fun k hk => ?_⟩
  by_cases e : k = i
  ·
   subst e; simp_all
  exact hv k zG
 try simp only [NF] at h15
 have hall := eU (n := l.length) (fun k hk => hv k zG)
 refine aY (Jr (Za (ae (aF ?_))))
 refine aK (t := 4) rfl () ?_
 refine Sub.bool ?_
 rw [lY, hall]; simp [heq]
theorem tF (k : Int) : Fun1 prog 190 [tV (.int .i64 k)] (tV (.int .i64 (jF k))) := by
 refine Spec.enter func190 rfl rfl fun h0 w0 fr0 => ?_
 refine Jr (Za (ae (ar (Jr (Zm ?_)))))
 refine ae (av (Jr (Zs (aC Sr Sr) (Za (ae ?_)))))
 refine au Sr (fun hc1 => ?_) (fun hc1 => ?_)
 ·
  try simp only [NF] at hc1
  refine Jr (Za (ae (aF ?_)))
  refine aK (t := 2) rfl () (Sub.int ?_)
  unfold jF cT kidsN
  repeat' split
  all_goals first | rfl | (simp_all; done) | (simp_all; omega)
 try simp only [NF] at hc1
 refine ar (Jr (Zs (aC Sr Sr) (Za (ae ?_))))
 refine au Sr (fun hc2 => ?_) (fun hc2 => ?_)
 ·
  try simp only [NF] at hc2
  refine ay ?_
  refine au Sr (fun hc3 => ?_) (fun hc3 => ?_)
  ·
   try simp only [NF] at hc3
   refine Jr (Za (ae (aF ?_)))
   refine aK (t := 2) rfl () (Sub.int ?_)
   unfold jF cT kidsN
   repeat' split
   all_goals first | rfl | (simp_all; done) | (simp_all; omega)
  try simp only [NF] at hc3
  first | contradiction | omega | (simp_all; done)
 try simp only [NF] at hc2
 refine Jr (Zs (aC Sr Sr) (Za (ae ?_)))
 refine au Sr (fun hc4 => ?_) (fun hc4 => ?_)
 ·
  try simp only [NF] at hc4
  refine ay ?_
  refine au Sr (fun hc5 => ?_) (fun hc5 => ?_)
  ·
   try simp only [NF] at hc5
   refine Jr (Za (ae (aF ?_)))
   refine aK (t := 2) rfl () (Sub.int ?_)
   unfold jF cT kidsN
   repeat' split
   all_goals first | rfl | (simp_all; done) | (simp_all; omega)
  try simp only [NF] at hc5
  first | contradiction | omega | (simp_all; done)
 try simp only [NF] at hc4
 refine Jr (Zs (aC Sr Sr) (Za (ae ?_)))
 refine au Sr (fun hc6 => ?_) (fun hc6 => ?_)
 ·
  try simp only [NF] at hc6
  refine ay ?_
  refine au Sr (fun hc7 => ?_) (fun hc7 => ?_)
  ·
   try simp only [NF] at hc7
   refine Jr (Za (ae (aF ?_)))
   refine aK (t := 2) rfl () (Sub.int ?_)
   unfold jF cT kidsN
   repeat' split
   all_goals first | rfl | (simp_all; done) | (simp_all; omega)
  try simp only [NF] at hc7
  first | contradiction | omega | (simp_all; done)
 try simp only [NF] at hc6
 refine aq (Zs (aC Sr Sr) (Za (ae ?_)))
 refine au Sr (fun hc8 => ?_) (fun hc8 => ?_)
 ·
  try simp only [NF] at hc8
  refine Jr (Za (ae (aF ?_)))
  refine aK (t := 2) rfl () (Sub.int ?_)
  unfold jF cT kidsN
  repeat' split
  all_goals first | rfl | (simp_all; done) | (simp_all; omega)
 try simp only [NF] at hc8
 refine ar (Jr (Zs (aC Sr Sr) (Za (ae ?_))))
 refine au Sr (fun hc9 => ?_) (fun hc9 => ?_)
 ·
  try simp only [NF] at hc9
  refine ay ?_
  refine au Sr (fun hc10 => ?_) (fun hc10 => ?_)
  ·
   try simp only [NF] at hc10
   refine Jr (Za (ae (aF ?_)))
   refine aK (t := 2) rfl () (Sub.int ?_)
   unfold jF cT kidsN
   repeat' split
   all_goals first | rfl | (simp_all; done) | (simp_all; omega)
  try simp only [NF] at hc10
  first | contradiction | omega | (simp_all; done)
 try simp only [NF] at hc9
 refine Jr (Zs (aC Sr Sr) (Za (ae ?_)))
 refine au Sr (fun hc11 => ?_) (fun hc11 => ?_)
 ·
  try simp only [NF] at hc11
  refine ay ?_
  refine au Sr (fun hc12 => ?_) (fun hc12 => ?_)
  ·
   try simp only [NF] at hc12
   refine Jr (Za (ae (aF ?_)))
   refine aK (t := 2) rfl () (Sub.int ?_)
   unfold jF cT kidsN
   repeat' split
   all_goals first | rfl | (simp_all; done) | (simp_all; omega)
  try simp only [NF] at hc12
  first | contradiction | omega | (simp_all; done)
 try simp only [NF] at hc11
 refine aq (Zs (aC Sr Sr) (Za (ae ?_)))
 refine au Sr (fun hc13 => ?_) (fun hc13 => ?_)
 ·
  try simp only [NF] at hc13
  refine Jr (Za (ae (aF ?_)))
  refine aK (t := 2) rfl () (Sub.int ?_)
  unfold jF cT kidsN
  repeat' split
  all_goals first | rfl | (simp_all; done) | (simp_all; omega)
 try simp only [NF] at hc13
 refine ay (Jr (Za (ae (aF ?_))))
 refine aK (t := 2) rfl () (Sub.int ?_)
 unfold jF cT kidsN
 repeat' split
 all_goals first | rfl | (simp_all; done) | (simp_all; omega)
theorem tG (n : Nat) (p : aG) : Fun1 prog 191 [(aR (n + 1)).ty p] (tV (.bool (bareR p))) := by
 refine Spec.enter func191 rfl rfl fun h0 w0 fr0 => ?_
 refine Jr (Zs (aJ (R := (aR (n + 1))) Sr) (Za (ae (Jr (Zs (aa br Sr rfl) ?_)))))
 refine Zl ty3 Sr (Zs (aC Sr Sr) (Zm ?_))
 refine Zk (aa br Sr rfl) ?_
 refine Zg (fun hw => ab ty3 (Sub.w hw)) (Zg (fun hw => aC (Sub.w hw) Sr) (Zs (az Sr Sr) (Za (ae (Jr ?_)))))
 refine Zs (aa br Sr rfl) (Zl ty3 Sr (Zs (aC Sr Sr) (Zm ?_)))
 refine Zk (aa br Sr rfl) ?_
 refine Zg (fun hw => ab iN (Sub.w hw)) (Zg (fun hw => ah underlying43 (Sub.w hw)) (Zg (fun hw => aC (Sub.w hw) Sr) (Zs (az Sr Sr) (Za (ae ?_)))))
 refine Jr (Zs (aa br Sr rfl) (Zl ty3 Sr (Zs (aC Sr Sr) (Zm ?_))))
 refine Zk (aa br Sr rfl) ?_
 refine Zg (fun hw => ab ty3 (Sub.w hw)) (Zg (fun hw => aC (Sub.w hw) Sr) (Zs (az Sr Sr) (Zm ?_)))
 refine Zk (aa br Sr rfl) ?_
 refine Zg (fun hw => ab bY (Sub.w hw)) (Zg (fun hw => ah underlying36 (Sub.w hw)) (Zg (fun hw => aC (Sub.w hw) Sr) (Zs (az Sr Sr) (Za (ae ?_)))))
 refine Jr (Zs (aa br Sr rfl) (Zl ty3 Sr (Zs (aC Sr Sr) (Zm ?_))))
 refine Zk (aa br Sr rfl) ?_
 refine Zg (fun hw => ab ty3 (Sub.w hw)) (Zg (fun hw => aC (Sub.w hw) Sr) (Zs (az Sr Sr) (Zm ?_)))
 refine Zk (aa br Sr rfl) ?_
 refine Zg (fun hw => ab ty3 (Sub.w hw)) (Zg (fun hw => aC (Sub.w hw) Sr) (Zs (az Sr Sr) (Za (ae (Jr ?_)))))
 refine Zs (aa br Sr rfl) (Zl ty3 Sr (Zs (aC Sr Sr) (Zm ?_)))
 refine Zk (aa br Sr rfl) ?_
 refine Zg (fun hw => ab ty3 (Sub.w hw)) (Zg (fun hw => aC (Sub.w hw) Sr) (Zs (az Sr Sr) (Za (ae (Jr ?_)))))
 refine Zm (Zm ?_)
 refine Zk (al Sr) ?_
 refine Zs (aw Sr Sr) (Zm ?_)
 refine Zk (al Sr) ?_
 refine Zs (aw Sr Sr) (Zm ?_)
 refine Zk (al Sr) ?_
 refine Zs (aw Sr Sr) (Zm ?_)
 refine Zk (al Sr) ?_
 refine Zs (aw Sr Sr) (Za (ae (aF ?_)))
 exact aK (t := 2) rfl () Sr
def xG (p : aG) : Bool := fS p && jq p && (decide ((nth p.Attrs p.Cols.length).Kind = n8 p) && cq (p.Attrs.take p.Cols.length) (bv (nth p.Kids 0).Attrs p.Cols))
def gj (s : GSchema) (p : aG) : Bool :=
  if p.Kind = 1 then decide (0 <= p.Table) && decide (p.Table < s.Tables.length) && lY (nth s.Tables p.Table.toNat) p.Attrs
  else if p.Kind = 2 then (p.Tests.all fun t => ew t (nth p.Kids 0).Attrs.length) && (decide (0 < (p.Tests.length : Int)) && cq p.Attrs (nth p.Kids 0).Attrs)
  else if p.Kind = 3 then dU (nth p.Kids 0).Attrs.length p.Cols && cq p.Attrs (bv (nth p.Kids 0).Attrs p.Cols)
  else if p.Kind = 4 then fG (nth p.Kids 0).Attrs (nth p.Kids 1).Attrs && cq p.Attrs (bL (nth p.Kids 0).Attrs (nth p.Kids 1).Attrs)
  else if p.Kind = 5 \/ p.Kind = 6 then cq (nth p.Kids 0).Attrs (nth p.Kids 1).Attrs && cq p.Attrs (nth p.Kids 0).Attrs
  else if p.Kind = 7 then gw p && cq p.Attrs (tv p)
  else xG p
theorem hY {a b : List GAttr} : cq a b = true ↔ a.length = b.length /\ ∀ i, i < a.length -> (nth a i).Name = (nth b i).Name /\ (nth a i).Kind = (nth b i).Kind := by
  unfold cq eqL alikeA
  simp only [Bool.and_eq_true, decide_eq_true_eq, List.all_eq_true, List.mem_range]
theorem fD (a b : List GAttr) : cq a b = cq b a := by
  rw [Bool.eq_iff_iff, hY, hY]
  constructor
  · rintro ⟨h, f⟩; exact ⟨h.symm, fun i hi => ⟨(f i (by omega)).1.symm, (f i (by omega)).2.symm⟩⟩
  · rintro ⟨h, f⟩; exact ⟨h.symm, fun i hi => ⟨(f i (by omega)).1.symm, (f i (by omega)).2.symm⟩⟩
theorem pI : ∀ l : List GAttr, (l.map fun a => a.Name).Sublist (namesL l)
  | [] => List.Sublist.refl _
  | a :: l => by
    have e : namesL (a :: l) = a.Name :: (a.Was ++ namesL l) := by simp [namesL]
    rw [e]
    exact List.Sublist.cons_cons _ ((pI l).trans (List.sublist_append_right _ _))
theorem xH {t : GTable} (h : (namesL t.Attrs).Nodup) {i : Nat} (hi : i < t.Attrs.length) : d6 t (nth t.Attrs i).Name = i := by
  have hn : (t.Attrs.map fun a => a.Name).Nodup := h.sublist (pI _)
  have e : findI (fun a => decide (a.Name = (nth t.Attrs i).Name)) 0 t.Attrs = i := iD hi (fun k hk => by
    rw [decide_eq_false_iff_not]; intro q
    have := List.pairwise_iff_getElem.1 hn k i (by rw [List.length_map]; omega) (by rw [List.length_map]; exact hi) hk
    rw [List.getElem_map, List.getElem_map, <- nth_get, <- nth_get] at this
    exact this q) (by simp)
  unfold d6
  rw [e, if_pos (by omega)]
theorem xI {t : GTable} (h : (namesL t.Attrs).Nodup) (l : List GAttr) : lY t l = cq (ee t l) l := by
  have tl : (ee t l).length = t.Attrs.length := by simp [ee]
  have tn : ∀ i, i < t.Attrs.length -> nth (ee t l) i = xd t l i := fun i hi => by rw [nth_get (by rw [tl]; exact hi)]; simp [ee]
  rw [Bool.eq_iff_iff, hY, tl]
  unfold lY
  simp only [Bool.and_eq_true, decide_eq_true_eq, List.all_eq_true, List.mem_range]
  constructor
  · rintro ⟨hl, f⟩
    refine ⟨hl.symm, fun i hi => ?_⟩
    have hfi := f i (by omega)
    rw [tn i hi, xd, if_pos ⟨by omega, hfi.2⟩]
    exact ⟨rfl, hfi.1.symm⟩
  · rintro ⟨hl, f⟩
    refine ⟨hl.symm, fun i hi => ?_⟩
    have hfi := f i (by omega)
    rw [tn i (by omega), xd] at hfi
    split at hfi
    · rename_i q; exact ⟨hfi.2.symm, q.2⟩
    · exact ⟨hfi.2.symm, by rw [<- hfi.1]; exact xH h (by omega)⟩
theorem AY (p : aG) (h : fS p = true) : (decide ((nth p.Attrs p.Cols.length).Kind = n8 p) && cq (p.Attrs.take p.Cols.length) (bv (nth p.Kids 0).Attrs p.Cols)) = cq (jB p) p.Attrs := by
  have hl : p.Attrs.length = p.Cols.length + 1 := by unfold fS at h; simp only [Bool.and_eq_true, decide_eq_true_eq] at h; exact h.2.1
  have pl : (bv (nth p.Kids 0).Attrs p.Cols).length = p.Cols.length := by simp [bv]
  have gl : (jB p).length = p.Cols.length + 1 := by simp [jB, pl]
  have tk : (p.Attrs.take p.Cols.length).length = p.Cols.length := by rw [List.length_take]; omega
  have tn : ∀ i, i < p.Cols.length -> nth (p.Attrs.take p.Cols.length) i = nth p.Attrs i := fun i hi => by rw [nth_get (by omega), nth_get (by omega), List.getElem_take]
  have g1 : ∀ i, i < p.Cols.length -> nth (jB p) i = nth (bv (nth p.Kids 0).Attrs p.Cols) i := fun i hi => by unfold jB; exact cR (by omega)
  have g2 : nth (jB p) p.Cols.length = ⟨(nth p.Attrs p.Cols.length).Name, n8 p, [], ⟨0, 0, ⟨#[]⟩⟩⟩ := by
    rw [nth_get (by omega)]; unfold jB; rw [List.getElem_append_right (by omega)]; simp [pl]
  rw [Bool.eq_iff_iff, Bool.and_eq_true, decide_eq_true_eq, hY, hY, tk, gl]
  constructor
  · rintro ⟨hk, _, f⟩
    refine ⟨by omega, fun i hi => ?_⟩
    by_cases e : i = p.Cols.length
    · subst e; rw [g2]; exact ⟨rfl, hk.symm⟩
    · have := f i (by omega)
      rw [tn i (by omega)] at this
      rw [g1 i (by omega)]; exact ⟨this.1.symm, this.2.symm⟩
  · rintro ⟨_, f⟩
    refine ⟨?_, by omega, fun i hi => ?_⟩
    · have := (f p.Cols.length (by omega)).2
      rw [g2] at this; exact this.symm
    · have := f i (by omega)
      rw [g1 i (by omega)] at this
      rw [tn i (by omega)]; exact ⟨this.1.symm, this.2.symm⟩
theorem xJ (l : List GTest) (n : Int) : (l.all fun t => ew t n) = !(l.any fun t => !ew t n) := by
  rw [List.any_eq_not_all_not]; simp
theorem zE {s : GSchema} {p : aG} (hs : lX s = true) (hk : cT p.Kind = true) : gj s p = ((colsM s p).2 && cq (colsM s p).1 p.Attrs) := by
  rcases cZ hk with h | h | h | h | h | h | h | h
  · simp only [gj, colsM, h, if_true]
    by_cases ht : 0 <= p.Table /\ p.Table < s.Tables.length
    · have hr : rightM (nth s.Tables p.Table.toNat) = true := by
        unfold lX at hs
        simp only [Bool.and_eq_true, decide_eq_true_eq, List.all_eq_true, List.mem_range] at hs
        exact (hs.2 p.Table.toNat (by omega)).1
      have hnd : (namesL (nth s.Tables p.Table.toNat).Attrs).Nodup := by
        unfold rightM at hr
        simp only [Bool.and_eq_true, decide_eq_true_eq] at hr
        exact hr.1.2
      rw [if_pos ht, xI hnd]; simp [ht.1, ht.2]
    · rw [if_neg ht]
      have : (decide (0 <= p.Table) && decide (p.Table < (s.Tables.length : Int))) = false := by
        rw [<- Bool.decide_and, decide_eq_false_iff_not]; exact ht
      rw [this]; simp
  · simp only [gj, colsM, h, show ¬ (2 : Int) = 1 by omega, if_true, if_false]
    rw [xJ, fD p.Attrs]
    cases decide (0 < (p.Tests.length : Int)) <;> cases (!p.Tests.any fun t => !ew t (nth p.Kids 0).Attrs.length) <;> simp
  · simp only [gj, colsM, h, show ¬ (3 : Int) = 1 by omega, show ¬ (3 : Int) = 2 by omega, if_true, if_false]
    by_cases hp : dU (nth p.Kids 0).Attrs.length p.Cols = true
    · rw [ej, if_pos hp, fD]
    · rw [Bool.eq_false_iff.2 hp]; simp
  · simp only [gj, colsM, h, show ¬ (4 : Int) = 1 by omega, show ¬ (4 : Int) = 2 by omega, show ¬ (4 : Int) = 3 by omega, if_true, if_false]
    by_cases hp : fG (nth p.Kids 0).Attrs (nth p.Kids 1).Attrs = true
    · rw [if_pos hp, hp, fD]
    · rw [if_neg hp, Bool.eq_false_iff.2 hp]; simp
  · simp only [gj, colsM, h, show ¬ (5 : Int) = 1 by omega, show ¬ (5 : Int) = 2 by omega, show ¬ (5 : Int) = 3 by omega, show ¬ (5 : Int) = 4 by omega, true_or, if_true, if_false]
    rw [fD p.Attrs]
  · simp only [gj, colsM, h, show ¬ (6 : Int) = 1 by omega, show ¬ (6 : Int) = 2 by omega, show ¬ (6 : Int) = 3 by omega, show ¬ (6 : Int) = 4 by omega, or_true, if_true, if_false]
    rw [fD p.Attrs]
  · simp only [gj, colsM, h, show ¬ (7 : Int) = 1 by omega, show ¬ (7 : Int) = 2 by omega, show ¬ (7 : Int) = 3 by omega, show ¬ (7 : Int) = 4 by omega, show ¬ ((7 : Int) = 5 \/ (7 : Int) = 6) by omega, if_true, if_false]
    by_cases hp : gw p = true
    · rw [if_pos hp, hp, fD]
    · rw [if_neg hp, Bool.eq_false_iff.2 hp]; simp
  · simp only [gj, colsM, h, show ¬ (8 : Int) = 1 by omega, show ¬ (8 : Int) = 2 by omega, show ¬ (8 : Int) = 3 by omega, show ¬ (8 : Int) = 4 by omega, show ¬ ((8 : Int) = 5 \/ (8 : Int) = 6) by omega, show ¬ (8 : Int) = 7 by omega, if_false]
    unfold xG
    by_cases hp : fS p = true
    · rw [if_pos hp, hp, AY p hp, Bool.true_and]
    · rw [if_neg hp, Bool.eq_false_iff.2 hp]; simp
theorem uY {p : aG} (hk : cT p.Kind = true) : bareR p = bareM p := by
  have hz : ∀ n : Nat, decide (0 < (n : Int)) = !decide ((n : Int) = 0) := fun n => by
    by_cases h : (n : Int) = 0
    · simp [h]
    · rw [decide_eq_false h, decide_eq_true (show 0 < (n : Int) by omega)]; rfl
  have a1 : ∀ k t ks ts cs c ag l, (GPl.mk (A := GAttr) (T := GTest) k t ks ts cs c ag l).Table = t := fun _ _ _ _ _ _ _ _ => rfl
  have a2 : ∀ k t ks ts cs c ag l, (GPl.mk (A := GAttr) (T := GTest) k t ks ts cs c ag l).Tests = ts := fun _ _ _ _ _ _ _ _ => rfl
  have a3 : ∀ k t ks ts cs c ag l, (GPl.mk (A := GAttr) (T := GTest) k t ks ts cs c ag l).Cols = cs := fun _ _ _ _ _ _ _ _ => rfl
  have a4 : ∀ k t ks ts cs c ag l, (GPl.mk (A := GAttr) (T := GTest) k t ks ts cs c ag l).Col = c := fun _ _ _ _ _ _ _ _ => rfl
  have a5 : ∀ k t ks ts cs c ag l, (GPl.mk (A := GAttr) (T := GTest) k t ks ts cs c ag l).Agg = ag := fun _ _ _ _ _ _ _ _ => rfl
  rcases cZ hk with h | h | h | h | h | h | h | h <;> rw [Bool.eq_iff_iff] <;> simp only [bareR, bareM, restM, h, hz] <;> simp [a1, a2, a3, a4, a5, and_assoc]
theorem pJ {n : Nat} {p : aG} {h : PH} {v : Value} (hv : ((aR (n + 1)).ty p).p h v) : ∃ m, 0 < p.Kids.length -> n = m + 1 := by
  by_cases hp : 0 < p.Kids.length
  · obtain ⟨cs, r, _⟩ := hv
    obtain ⟨d0, _, rfl, _, d1, _, rfl, _, d2, _, rfl, r2, _⟩ := (show SF.rel h p (fsPl cPl aS be (aR n)) cs from r)
    obtain ⟨u, _, hu⟩ := r2
    obtain ⟨m, hm⟩ := n9 hp hu
    exact ⟨m, fun _ => hm⟩
  · exact ⟨0, fun q => absurd q hp⟩
theorem rt (n : Nat) (p : aG) (hp : od (n + 1 + 1) p) (hk0 : 0 < p.Kids.length) : Fun1 prog 270 [(aR (n + 1 + 1)).ty p] (tV (.bool (xG p))) := by
 refine Spec.enter func270 rfl rfl fun h0 w0 fr0 => ?_
 obtain ⟨z1, z2, z3, z4, z5⟩ := id hp
 have hA0 := (z5 _ (aH hk0)).2
 refine Jr (Zs (aJ (R := (aR (n + 1 + 1))) Sr) (Za (ae (Jr (Zs (aa br Sr rfl) ?_)))))
 refine Zl gp Sr ?_
 refine Zs (ad (i := 0) underlying42 dl Sr Sr (by rfl) (gb (by exact hk0))) ?_
 refine Zs (aa br Sr rfl) (Zl bQ Sr (Za (ae (ar (Jr ?_)))))
 refine Zs (aa br Sr rfl) (Zl bY Sr (Zm (Zs (ah underlying44 Sr) ?_)))
 refine Zs (ai (pG _ _ (by show p.Cols.length <= _; omega)) ⟨Sr, Sr, trivial⟩ call268) ?_
 refine Zs (bf Sr) (Zm ?_)
 refine Zk (aa br Sr rfl) ?_
 refine Zg (fun hw => ab bQ (Sub.w hw)) (Zg (fun hw => ah underlying44 (Sub.w hw)) ?_)
 refine Zk (aa br Sr rfl) ?_
 refine Zg (fun hw => ab bY (Sub.w hw)) (Zg (fun hw => ah underlying36 (Sub.w hw)) ?_)
 refine Zg (fun hw => aB (Sub.w hw) Sr (by show fe ((p.Cols.length : Int) + 1); unfold fe; omega)) ?_
 refine Zg (fun hw => bb (Sub.w hw) (Sub.w hw)) (Zs (az Sr Sr) (Zm ?_))
 refine Zk (aa br Sr rfl) ?_
 refine Zg (fun hw => ab ty3 (Sub.w hw)) (Zg (fun hw => aA (Sub.w hw) Sr) (Zs (az Sr Sr) (Zm ?_)))
 refine Zk (aa br Sr rfl) ?_
 refine Zg (fun hw => ab ty3 (Sub.w hw)) (Zg (fun hw => bD (Sub.w hw) Sr) (Zs (az Sr Sr) (ae ?_)))
 refine au Sr (fun h36 => ?_) (fun h36 => ?_)
 ·
  try simp only [NF] at h36
  refine Jr (Za (ae (aF ?_)))
  refine aK (t := 2) rfl () ?_
  refine Sub.bool ?_
  have hno : fS p = false := by
   unfold fS
   by_cases hpk : dU (nth p.Kids 0).Attrs.length p.Cols = true
   ·
    rw [hpk, Bool.true_and, decide_eq_false_iff_not]
    rcases h36 with ((h | h) | h) | h
    ·
     exact absurd hpk (by rw [show dU (nth p.Kids 0).Attrs.length p.Cols = false from h]; simp)
    all_goals omega
   rw [Bool.eq_false_iff.2 hpk, Bool.false_and]
  simp [xG, hno]
 try simp only [NF] at h36
 have hpk : dU (nth p.Kids 0).Attrs.length p.Cols = true := by simp_all
 have hok : fS p = true := by unfold fS; rw [hpk, Bool.true_and, decide_eq_true_eq]; omega
 have hal : p.Attrs.length = p.Cols.length + 1 := by omega
 refine ay (Jr (Za (ae (ar (Jr ?_)))))
 refine Zs (aa br Sr rfl) (Zl ty3 Sr (Zs (aC Sr Sr) (ae ?_)))
 refine au Sr (fun h39 => ?_) (fun h39 => ?_)
 ·
  try simp only [NF] at h39
  refine Jr (Zs (aa br Sr rfl) (Zl ty3 Sr (Zs (bb Sr Sr) (ae ?_))))
  refine au Sr (fun h42 => ?_) (fun h42 => ?_)
  ·
   try simp only [NF] at h42
   refine Jr (Za (ae (aF ?_)))
   refine aK (t := 2) rfl () ?_
   refine Sub.bool ?_
   simp [xG, jq, h39, h42]
  try simp only [NF] at h42
  refine ay (Jr (Zs (aa br Sr rfl) (Zl bQ Sr (Zs (aa br Sr rfl) (Zl bY Sr ?_)))))
  refine Zs (ah underlying36 Sr) ?_
  refine Zs (ad (i := p.Cols.length) underlying44 ct Sr Sr (by rfl) (gb (by show p.Cols.length < p.Attrs.length; omega))) ?_
  refine Zl ct Sr ?_
  refine Zx (aD (fun w => zeroValue89 w) qY) fun b5 => ?_
  refine Ju (aj ct Sr Sr zS) fun _ => ?_
  refine bc (t := 5) (Sel.take (Dz _)) Frz.box ?_
  refine ae (ar ?_)
  refine bl [⟨0, [5], true⟩, ⟨1, [83], true⟩, ⟨2, [4], true⟩, ⟨3, [84, 85], true⟩, ⟨4, [86], true⟩, ⟨5, [1, 87], true⟩, ⟨6, [87, 88], true⟩, ⟨7, [1, 87], true⟩, ⟨8, [87, 90], true⟩, ⟨9, [87, 91], true⟩, ⟨10, [87, 89, 92], true⟩, ⟨11, [3, 87], true⟩, ⟨12, [1, 87], true⟩, ⟨13, [87, 95], true⟩, ⟨14, [87, 94, 96], true⟩, ⟨15, [87, 93, 97], true⟩, ⟨16, [87, 98], true⟩, ⟨17, [99], true⟩] rfl (by kernel_rfl) ?_
  refine Zf rfl (aa dH Sr rfl) (Zf rfl (ab ty3 Sr) (Zv rfl (Zf rfl (aC Sr Sr) (Zv rfl ?_))))
  refine Mk rfl rfl Sr rfl (aa br Sr rfl) ?_
  refine Mg rfl rfl Sr rfl (fun hw => ab bQ (Sub.w hw)) ?_
  refine Mk rfl rfl Sr rfl (aa br Sr rfl) ?_
  refine Mg rfl rfl Sr rfl (fun hw => ab bY (Sub.w hw)) (Mg rfl rfl Sr rfl (fun hw => ah underlying36 (Sub.w hw)) ?_)
  refine Mg rfl rfl Sr rfl (fun hw => eR (n := p.Cols.length) underlying44 ct (Sub.w hw) (Sub.w hw) (by rfl) (by have hwq := hw; (try simp only [beqB_t, beqB_f, NF] at hwq); show p.Cols.length <= p.Attrs.length; omega)) ?_
  refine Mk rfl rfl Sr rfl (al Sr) ?_
  refine Mk rfl rfl Sr rfl (aa br Sr rfl) ?_
  refine Mg rfl rfl Sr rfl (fun hw => ab bY (Sub.w hw)) ?_
  refine Mg rfl rfl Sr rfl (fun hw => ai (iF _ _ (by show p.Cols.length <= _; omega) hpk) ⟨(Sub.w hw), (Sub.w hw), trivial⟩ call269) ?_
  refine Mg rfl rfl Sr rfl (fun hw => ai (cU _ _ (by show (List.take _ _).length <= _; rw [List.length_take]; show min _ p.Attrs.length <= _; omega)) ⟨(Sub.w hw), (Sub.w hw), trivial⟩ call267) ?_
  refine Zf rfl (aw Sr Sr) (Zf rfl (aW Sr) (bj (aF ?_)))
  refine aK (t := 2) rfl () ?_
  refine Sub.bool ?_
  simp [xG, jq, n8, h39, h42, hok]
 try simp only [NF] at h39
 refine Jr (Zs (aa br Sr rfl) (Zl ty3 Sr (Zs (aA Sr Sr) (Zm ?_))))
 refine Zk (aa br Sr rfl) ?_
 refine Zg (fun hw => ab ty3 (Sub.w hw)) ?_
 refine Zk (al Sr) ?_
 refine Zg (fun hw => ah underlying44 (Sub.w hw)) (Zg (fun hw => bE (Sub.w hw) (Sub.w hw)) (Zs (az Sr Sr) (Zm ?_)))
 refine Zk (aa br Sr rfl) ?_
 refine Zg (fun hw => ab ty3 (Sub.w hw)) (Zg (fun hw => aC (Sub.w hw) Sr) (Zg (fun hw => al (Sub.w hw)) ?_))
 refine Ji rfl Sr rfl (al Sr) ?_
 refine Ji rfl Sr rfl (aa br Sr rfl) ?_
 refine Jh rfl Sr rfl (fun hw => ab ty3 (Sub.w hw)) ?_
 refine Jh rfl Sr rfl (fun hw => ad (i := p.Col.toNat) underlying44 ct (Sub.w hw) (Sub.w hw) (by have hwq := hw; (try simp only [beqB_t, beqB_f, NF] at hwq); show p.Col = _; omega) (gb (by have hwq := hw; (try simp only [beqB_t, beqB_f, NF] at hwq); show p.Col.toNat < (nth p.Kids 0).Attrs.length; omega))) ?_
 refine Jh rfl Sr rfl (fun hw => aa dH (Sub.w hw) rfl) (Jh rfl Sr rfl (fun hw => ab ty3 (Sub.w hw)) (Jh rfl Sr rfl (fun hw => bb (Sub.w hw) Sr) (Zg (fun hw => aw (Sub.w hw) (D9 hw)) (Zs (az Sr Sr) (ae ?_)))))
 refine au Sr (fun h66 => ?_) (fun h66 => ?_)
 ·
  try simp only [NF] at h66
  have hnb : jq p = false := by
   unfold jq n7
   rw [if_neg h39]
   by_cases hin : 0 <= p.Col /\ p.Col < (nth p.Kids 0).Attrs.length
   ·
    have h2 : p.Agg = 2 /\ ¬ (nth (nth p.Kids 0).Attrs p.Col.toNat).Kind = 2 := by
     rcases h66 with (h | h) | h
     ·
      omega
     ·
      omega
     exact h
    simp [hin, h2.1, h2.2]
   simp [hin]
  refine Jr (Za (ae (aF ?_)))
  refine aK (t := 2) rfl () ?_
  refine Sub.bool ?_
  simp [xG, hnb]
 try simp only [NF] at h66
 have hin : 0 <= p.Col /\ p.Col < (nth p.Kids 0).Attrs.length := by omega
 have hgi : n7 p = true := by unfold n7; rw [decide_eq_true_eq]; exact hin
 refine Jr (Zs (aa br Sr rfl) (Zl ty3 Sr (Zs (bb Sr Sr) (ae ?_))))
 refine au Sr (fun h69 => ?_) (fun h69 => ?_)
 ·
  try simp only [NF] at h69
  refine aq (Zm (Zs (aa br Sr rfl) (Zl ty3 Sr ?_)))
  refine Zs (ad (i := p.Col.toNat) underlying44 ct Sr Sr (by show p.Col = _; omega) (gb (by show p.Col.toNat < (nth p.Kids 0).Attrs.length; omega))) ?_
  refine Zs (aa dH Sr rfl) (Zl ty3 Sr (Za (ae (Jr (Zs (aa br Sr rfl) ?_)))))
  refine Zl bQ Sr (Zs (aa br Sr rfl) (Zl bY Sr (Zs (ah underlying36 Sr) ?_)))
  refine Zs (ad (i := p.Cols.length) underlying44 ct Sr Sr (by rfl) (gb (by show p.Cols.length < p.Attrs.length; omega))) ?_
  refine Zl ct Sr ?_
  refine Zx (aD (fun w => zeroValue89 w) qY) fun b5 => ?_
  refine Ju (aj ct Sr Sr zS) fun _ => ?_
  refine bc (t := 5) (Sel.take (Dz _)) Frz.box ?_
  refine ae (ar ?_)
  refine bl [⟨0, [5], true⟩, ⟨1, [83], true⟩, ⟨2, [4], true⟩, ⟨3, [84, 85], true⟩, ⟨4, [86], true⟩, ⟨5, [1, 87], true⟩, ⟨6, [87, 88], true⟩, ⟨7, [1, 87], true⟩, ⟨8, [87, 90], true⟩, ⟨9, [87, 91], true⟩, ⟨10, [87, 89, 92], true⟩, ⟨11, [3, 87], true⟩, ⟨12, [1, 87], true⟩, ⟨13, [87, 95], true⟩, ⟨14, [87, 94, 96], true⟩, ⟨15, [87, 93, 97], true⟩, ⟨16, [87, 98], true⟩, ⟨17, [99], true⟩] rfl (by kernel_rfl) ?_
  refine Zf rfl (aa dH Sr rfl) (Zf rfl (ab ty3 Sr) (Zv rfl (Zf rfl (aC Sr Sr) (Zv rfl ?_))))
  refine Mk rfl rfl Sr rfl (aa br Sr rfl) ?_
  refine Mg rfl rfl Sr rfl (fun hw => ab bQ (Sub.w hw)) ?_
  refine Mk rfl rfl Sr rfl (aa br Sr rfl) ?_
  refine Mg rfl rfl Sr rfl (fun hw => ab bY (Sub.w hw)) (Mg rfl rfl Sr rfl (fun hw => ah underlying36 (Sub.w hw)) ?_)
  refine Mg rfl rfl Sr rfl (fun hw => eR (n := p.Cols.length) underlying44 ct (Sub.w hw) (Sub.w hw) (by rfl) (by have hwq := hw; (try simp only [beqB_t, beqB_f, NF] at hwq); show p.Cols.length <= p.Attrs.length; omega)) ?_
  refine Mk rfl rfl Sr rfl (al Sr) ?_
  refine Mk rfl rfl Sr rfl (aa br Sr rfl) ?_
  refine Mg rfl rfl Sr rfl (fun hw => ab bY (Sub.w hw)) ?_
  refine Mg rfl rfl Sr rfl (fun hw => ai (iF _ _ (by show p.Cols.length <= _; omega) hpk) ⟨(Sub.w hw), (Sub.w hw), trivial⟩ call269) ?_
  refine Mg rfl rfl Sr rfl (fun hw => ai (cU _ _ (by show (List.take _ _).length <= _; rw [List.length_take]; show min _ p.Attrs.length <= _; omega)) ⟨(Sub.w hw), (Sub.w hw), trivial⟩ call267) ?_
  refine Zf rfl (aw Sr Sr) (Zf rfl (aW Sr) (bj (aF ?_)))
  refine aK (t := 2) rfl () ?_
  refine Sub.bool ?_
  simp [xG, jq, n8, h39, h69, hgi, hok]
 try simp only [NF] at h69
 refine ay (Jr (Zs (aa br Sr rfl) (Zl bQ Sr (Zs (aa br Sr rfl) (Zl bY Sr ?_)))))
 refine Zs (ah underlying36 Sr) ?_
 refine Zs (ad (i := p.Cols.length) underlying44 ct Sr Sr (by rfl) (gb (by show p.Cols.length < p.Attrs.length; omega))) ?_
 refine Zl ct Sr ?_
 refine Zx (aD (fun w => zeroValue89 w) qY) fun b5 => ?_
 refine Ju (aj ct Sr Sr zS) fun _ => ?_
 refine bc (t := 5) (Sel.take (Dz _)) Frz.box ?_
 refine ae (ar ?_)
 refine bl [⟨0, [5], true⟩, ⟨1, [83], true⟩, ⟨2, [4], true⟩, ⟨3, [84, 85], true⟩, ⟨4, [86], true⟩, ⟨5, [1, 87], true⟩, ⟨6, [87, 88], true⟩, ⟨7, [1, 87], true⟩, ⟨8, [87, 90], true⟩, ⟨9, [87, 91], true⟩, ⟨10, [87, 89, 92], true⟩, ⟨11, [3, 87], true⟩, ⟨12, [1, 87], true⟩, ⟨13, [87, 95], true⟩, ⟨14, [87, 94, 96], true⟩, ⟨15, [87, 93, 97], true⟩, ⟨16, [87, 98], true⟩, ⟨17, [99], true⟩] rfl (by kernel_rfl) ?_
 refine Zf rfl (aa dH Sr rfl) (Zf rfl (ab ty3 Sr) (Zv rfl (Zf rfl (aC Sr Sr) (Zv rfl ?_))))
 refine Mk rfl rfl Sr rfl (aa br Sr rfl) ?_
 refine Mg rfl rfl Sr rfl (fun hw => ab bQ (Sub.w hw)) ?_
 refine Mk rfl rfl Sr rfl (aa br Sr rfl) ?_
 refine Mg rfl rfl Sr rfl (fun hw => ab bY (Sub.w hw)) (Mg rfl rfl Sr rfl (fun hw => ah underlying36 (Sub.w hw)) ?_)
 refine Mg rfl rfl Sr rfl (fun hw => eR (n := p.Cols.length) underlying44 ct (Sub.w hw) (Sub.w hw) (by rfl) (by have hwq := hw; (try simp only [beqB_t, beqB_f, NF] at hwq); show p.Cols.length <= p.Attrs.length; omega)) ?_
 refine Mk rfl rfl Sr rfl (al Sr) ?_
 refine Mk rfl rfl Sr rfl (aa br Sr rfl) ?_
 refine Mg rfl rfl Sr rfl (fun hw => ab bY (Sub.w hw)) ?_
 refine Mg rfl rfl Sr rfl (fun hw => ai (iF _ _ (by show p.Cols.length <= _; omega) hpk) ⟨(Sub.w hw), (Sub.w hw), trivial⟩ call269) ?_
 refine Mg rfl rfl Sr rfl (fun hw => ai (cU _ _ (by show (List.take _ _).length <= _; rw [List.length_take]; show min _ p.Attrs.length <= _; omega)) ⟨(Sub.w hw), (Sub.w hw), trivial⟩ call267) ?_
 refine Zf rfl (aw Sr Sr) (Zf rfl (aW Sr) (bj (aF ?_)))
 refine aK (t := 2) rfl () ?_
 refine Sub.bool ?_
 have h69 : p.Agg = 2 := by simpa using h69
 have hk2 : (nth (nth p.Kids 0).Attrs p.Col.toNat).Kind = 2 := by
  have := h66.2
  simpa [h69] using this
 simp [xG, jq, n8, h39, h69, hgi, hok, hk2]
theorem oh (s : GSchema) (hz : SchSz s) (n : Nat) (p : aG) (hp : od (n + 1) p) (hkd : cT p.Kind = true) (hkn : (p.Kids.length : Int) = kidsN p.Kind) : Fun1 prog 192 [aV.ty s, (aR (n + 1)).ty p] (tV (.bool (gj s p))) := by
 refine Spec.enter func192 rfl rfl fun h0 w0 fr0 => ?_
 obtain ⟨z1, z2, z3, z4, z5⟩ := id hp
 refine eX 1 (fun _ _ r => pJ r) fun ⟨m, hm⟩ => ?_
 refine Jr (Zs (aJ (R := aV) Sr) (Zs (aJ (R := (aR (n + 1))) Sr) (Za (ae (ar ?_)))))
 refine Jr (Zs (aa br Sr rfl) (Zl ty3 Sr (ae (av (Jr ?_)))))
 refine Zs (aC Sr Sr) (Za (ae ?_))
 refine au Sr (fun h15 => ?_) (fun h15 => ?_)
 ·
  try simp only [NF] at h15
  refine ar ?_
  refine bl [⟨0, [3], true⟩, ⟨1, [17], true⟩, ⟨2, [18], true⟩, ⟨3, [19], true⟩, ⟨4, [3, 20], true⟩, ⟨5, [20, 21], true⟩, ⟨6, [2, 20], true⟩, ⟨7, [20, 23], true⟩, ⟨8, [20, 24], true⟩, ⟨9, [20, 22, 25], true⟩, ⟨10, [20, 26], true⟩, ⟨11, [27], true⟩, ⟨12, [2, 28], true⟩, ⟨13, [28, 29], true⟩, ⟨14, [3, 28], true⟩, ⟨15, [28, 31], true⟩, ⟨16, [28, 30, 32], true⟩, ⟨17, [28, 33], true⟩, ⟨18, [3, 28], true⟩, ⟨19, [28, 35], true⟩, ⟨20, [28, 34, 36], true⟩, ⟨21, [28, 37], true⟩, ⟨22, [38], true⟩] rfl (by kernel_rfl) ?_
  refine Zf rfl (aa br Sr rfl) (Zf rfl (ab ty3 Sr) (Zf rfl (bE Sr Sr) (Zv rfl ?_)))
  refine Mk rfl rfl Sr rfl (aa br Sr rfl) ?_
  refine Mg rfl rfl Sr rfl (fun hw => ab ty3 (Sub.w hw)) ?_
  refine Mk rfl rfl Sr rfl (aa g6 Sr rfl) ?_
  refine Mg rfl rfl Sr rfl (fun hw => ab g5 (Sub.w hw)) (Mg rfl rfl Sr rfl (fun hw => ah underlying39 (Sub.w hw)) (Mg rfl rfl Sr rfl (fun hw => aA (Sub.w hw) (Sub.w hw)) (Zf rfl (aw Sr Sr) (Zv rfl ?_))))
  refine Mk rfl rfl Sr rfl (aa g6 Sr rfl) ?_
  refine Mg rfl rfl Sr rfl (fun hw => ab g5 (Sub.w hw)) ?_
  refine Mk rfl rfl Sr rfl (aa br Sr rfl) ?_
  refine Mg rfl rfl Sr rfl (fun hw => ab ty3 (Sub.w hw)) ?_
  refine Mg rfl rfl Sr rfl (fun hw => ad (i := p.Table.toNat) underlying39 g8 (Sub.w hw) (Sub.w hw) (by have hwq := hw; (try simp only [beqB_t, beqB_f, NF] at hwq); show p.Table = _; omega) (gb (by have hwq := hw; (try simp only [beqB_t, beqB_f, NF] at hwq); show p.Table.toNat < s.Tables.length; omega))) ?_
  refine Mg rfl rfl Sr rfl (fun hw => ab g8 (Sub.w hw)) ?_
  refine Mk rfl rfl Sr rfl (aa br Sr rfl) ?_
  refine Mg rfl rfl Sr rfl (fun hw => ab bQ (Sub.w hw)) ?_
  refine Mg rfl rfl Sr rfl (fun hw => ai (rr _ (by have hwq := hw; (try simp only [beqB_t, beqB_f, NF] at hwq); exact hz.tab _ (aH (by show p.Table.toNat < s.Tables.length; omega))) _ (by show p.Attrs.length <= _; omega)) ⟨(Sub.w hw), (Sub.w hw), trivial⟩ call265) ?_
  refine Zf rfl (aw Sr Sr) (Zf rfl (aW Sr) (bj (aF ?_)))
  refine aK (t := 4) rfl () ?_
  refine Sub.bool ?_
  rw [gj, if_pos h15]
 try simp only [NF] at h15
 refine Jr (Zs (aC Sr Sr) (Za (ae ?_)))
 refine au Sr (fun h39 => ?_) (fun h39 => ?_)
 ·
  try simp only [NF] at h39
  have hk0 : 0 < p.Kids.length := by rw [h39] at hkn; simp [kidsN] at hkn; omega
  have hA0 := (z5 _ (aH hk0)).2
  refine ar (Jr (Za (ae (av ?_))))
  refine aO (σ := Nat) (fun i => i <= p.Tests.length /\ ∀ k, k < i -> ew (nth p.Tests k) (nth p.Kids 0).Attrs.length = true) (fun i => upd (upd (upd cg 3 (bx (aR (n + 1)) p)) 5 (tV (.int .i64 i))) 14 (tV (.int .i64 p.Kind))) (fun i => []) (fun i => p.Tests.length - i) 0 ⟨by omega, fun k hk => by omega⟩ (zU) (LSub.rfl) ?_
  rintro i ⟨hi, hv⟩
  refine ar (Jr (Zm (Zs (aa br Sr rfl) (Zl iN Sr (Zs (ah underlying43 Sr) ?_)))))
  refine Zs (aA Sr Sr) (ae ?_)
  refine au Sr (fun h45 => ?_) (fun h45 => ?_)
  ·
   try simp only [NF] at h45
   have hlt : i < p.Tests.length := by omega
   obtain rfl := hm hk0
   refine ay (ar (av (ar ?_)))
   refine bl [⟨0, [3], true⟩, ⟨1, [48], true⟩, ⟨2, [5], true⟩, ⟨3, [49, 50], true⟩, ⟨4, [51], true⟩, ⟨5, [3], true⟩, ⟨6, [53], true⟩, ⟨7, [54], true⟩, ⟨8, [55], true⟩, ⟨9, [56], true⟩, ⟨10, [57], true⟩, ⟨11, [52, 58], true⟩, ⟨12, [59], true⟩] rfl (by kernel_rfl) ?_
   refine Zf rfl (aa br Sr rfl) (Zf rfl (ab iN Sr) (Zv rfl ?_))
   refine Zf rfl (ad (i := i) underlying43 fd Sr Sr (by rfl) (gb (by exact hlt))) ?_
   refine Zf rfl (ab fd Sr) (Zf rfl (aa br Sr rfl) (Zf rfl (ab gp Sr) ?_))
   refine Zf rfl (ad (i := 0) underlying42 dl Sr Sr (by rfl) (gb (by exact hk0))) ?_
   refine Zf rfl (aa br Sr rfl) (Zf rfl (ab bQ Sr) (Zf rfl (ah underlying44 Sr) (Zf rfl (ai (pH _ _) ⟨Sr, Sr, trivial⟩ call266) (Zf rfl (bf Sr) (bj ?_)))))
   refine au Sr (fun h60 => ?_) (fun h60 => ?_)
   ·
    try simp only [NF] at h60
    refine Jr (Za (ae (aF ?_)))
    refine aK (t := 4) rfl () ?_
    refine Sub.bool ?_
    rw [gj, if_neg h15, if_pos h39, gZ hlt (by simpa using h60)]; simp
   try simp only [NF] at h60
   refine ay (aq (Zm (Zs (aB Sr Sr z6) (Za (ae ?_)))))
   refine aE (σ := Nat) (s := i) (i + 1) zO ?_ (zU) (LSub.rfl)
   refine ⟨by omega, fun k hk => ?_⟩
   by_cases e : k = i
   ·
    subst e; simpa using h60
   exact hv k zG
  try simp only [NF] at h45
  have hall : (p.Tests.all fun t => ew t (nth p.Kids 0).Attrs.length) = true := iP (fun k hk => hv k zG)
  obtain rfl := hm hk0
  refine aY (ar ?_)
  refine bl [⟨0, [3], true⟩, ⟨1, [61], true⟩, ⟨2, [62], true⟩, ⟨3, [63], true⟩, ⟨4, [64], true⟩, ⟨5, [3, 65], true⟩, ⟨6, [65, 66], true⟩, ⟨7, [3, 65], true⟩, ⟨8, [65, 68], true⟩, ⟨9, [65, 69], true⟩, ⟨10, [65, 70], true⟩, ⟨11, [65, 71], true⟩, ⟨12, [65, 67, 72], true⟩, ⟨13, [65, 73], true⟩, ⟨14, [74], true⟩] rfl (by kernel_rfl) ?_
  refine Zf rfl (aa br Sr rfl) (Zf rfl (ab iN Sr) (Zf rfl (ah underlying43 Sr) (Zf rfl (bD Sr Sr) (Zv rfl ?_))))
  refine Mk rfl rfl Sr rfl (aa br Sr rfl) ?_
  refine Mg rfl rfl Sr rfl (fun hw => ab bQ (Sub.w hw)) ?_
  refine Mk rfl rfl Sr rfl (aa br Sr rfl) ?_
  refine Mg rfl rfl Sr rfl (fun hw => ab gp (Sub.w hw)) ?_
  refine Mg rfl rfl Sr rfl (fun hw => ad (i := 0) underlying42 dl (Sub.w hw) Sr (by rfl) (gb (by have hwq := hw; (try simp only [beqB_t, beqB_f, NF] at hwq); exact hk0))) ?_
  refine Mg rfl rfl Sr rfl (fun hw => aa br (Sub.w hw) rfl) (Mg rfl rfl Sr rfl (fun hw => ab bQ (Sub.w hw)) ?_)
  refine Mg rfl rfl Sr rfl (fun hw => ai (cU _ _ (by show p.Attrs.length <= _; omega)) ⟨(Sub.w hw), (Sub.w hw), trivial⟩ call267) ?_
  refine Zf rfl (aw Sr Sr) (Zf rfl (aW Sr) (bj (aF ?_)))
  refine aK (t := 4) rfl () ?_
  refine Sub.bool ?_
  rw [gj, if_neg h15, if_pos h39, hall, Bool.true_and]
 try simp only [NF] at h39
 refine Jr (Zs (aC Sr Sr) (Za (ae ?_)))
 refine au Sr (fun h75 => ?_) (fun h75 => ?_)
 ·
  try simp only [NF] at h75
  have hk0 : 0 < p.Kids.length := by rw [h75] at hkn; simp [kidsN] at hkn; omega
  have hA0 := (z5 _ (aH hk0)).2
  obtain rfl := hm hk0
  refine ar ?_
  refine bl [⟨0, [3], true⟩, ⟨1, [77], true⟩, ⟨2, [3], true⟩, ⟨3, [79], true⟩, ⟨4, [80], true⟩, ⟨5, [81], true⟩, ⟨6, [82], true⟩, ⟨7, [83], true⟩, ⟨8, [78, 84], true⟩, ⟨9, [85], true⟩, ⟨10, [3, 86], true⟩, ⟨11, [86, 87], true⟩, ⟨12, [3, 86], true⟩, ⟨13, [86, 89], true⟩, ⟨14, [86, 90], true⟩, ⟨15, [86, 91], true⟩, ⟨16, [86, 92], true⟩, ⟨17, [3, 86], true⟩, ⟨18, [86, 94], true⟩, ⟨19, [86, 93, 95], true⟩, ⟨20, [86, 88, 96], true⟩, ⟨21, [86, 97], true⟩, ⟨22, [98], true⟩] rfl (by kernel_rfl) ?_
  refine Zf rfl (aa br Sr rfl) (Zf rfl (ab bY Sr) (Zf rfl (aa br Sr rfl) (Zf rfl (ab gp Sr) ?_)))
  refine Zf rfl (ad (i := 0) underlying42 dl Sr Sr (by rfl) (gb (by exact hk0))) ?_
  refine Zf rfl (aa br Sr rfl) (Zf rfl (ab bQ Sr) (Zf rfl (ah underlying44 Sr) ?_))
  refine Zf rfl (ai (pG _ _ (by show p.Cols.length <= _; omega)) ⟨Sr, Sr, trivial⟩ call268) ?_
  refine Zv rfl ?_
  refine Mk rfl rfl Sr rfl (aa br Sr rfl) ?_
  refine Mg rfl rfl Sr rfl (fun hw => ab bQ (Sub.w hw)) ?_
  refine Mk rfl rfl Sr rfl (aa br Sr rfl) ?_
  refine Mg rfl rfl Sr rfl (fun hw => ab gp (Sub.w hw)) ?_
  refine Mg rfl rfl Sr rfl (fun hw => ad (i := 0) underlying42 dl (Sub.w hw) Sr (by rfl) (gb (by have hwq := hw; (try simp only [beqB_t, beqB_f, NF] at hwq); exact hk0))) ?_
  refine Mg rfl rfl Sr rfl (fun hw => aa br (Sub.w hw) rfl) (Mg rfl rfl Sr rfl (fun hw => ab bQ (Sub.w hw)) ?_)
  refine Mk rfl rfl Sr rfl (aa br Sr rfl) ?_
  refine Mg rfl rfl Sr rfl (fun hw => ab bY (Sub.w hw)) ?_
  refine Mg rfl rfl Sr rfl (fun hw => ai (iF _ _ (by show p.Cols.length <= _; omega) (by have hwq := hw; (try simp only [beqB_t, beqB_f] at hwq); first | exact hwq | simpa using hwq)) ⟨(Sub.w hw), (Sub.w hw), trivial⟩ call269) ?_
  refine Mg rfl rfl Sr rfl (fun hw => ai (cU _ _ (by show p.Attrs.length <= _; omega)) ⟨(Sub.w hw), (Sub.w hw), trivial⟩ call267) ?_
  refine Zf rfl (aw Sr Sr) (Zf rfl (aW Sr) (bj (aF ?_)))
  refine aK (t := 4) rfl () ?_
  refine Sub.bool ?_
  rw [gj, if_neg h15, if_neg h39, if_pos h75]
 try simp only [NF] at h75
 refine Jr (Zs (aC Sr Sr) (Za (ae ?_)))
 refine au Sr (fun h99 => ?_) (fun h99 => ?_)
 ·
  try simp only [NF] at h99
  have hk0 : 0 < p.Kids.length := by rw [h99] at hkn; simp [kidsN] at hkn; omega
  have hk1 : 1 < p.Kids.length := by rw [h99] at hkn; simp [kidsN] at hkn; omega
  have hA0 := (z5 _ (aH hk0)).2
  have hA1 := (z5 _ (aH hk1)).2
  obtain rfl := hm hk0
  refine ar ?_
  refine bl [⟨0, [3], true⟩, ⟨1, [101], true⟩, ⟨2, [102], true⟩, ⟨3, [103], true⟩, ⟨4, [104], true⟩, ⟨5, [3], true⟩, ⟨6, [106], true⟩, ⟨7, [107], true⟩, ⟨8, [108], true⟩, ⟨9, [109], true⟩, ⟨10, [105], true⟩, ⟨11, [110], true⟩] rfl (by kernel_rfl) ?_
  refine Zf rfl (aa br Sr rfl) (Zf rfl (ab gp Sr) ?_)
  refine Zf rfl (ad (i := 0) underlying42 dl Sr Sr (by rfl) (gb (by exact hk0))) ?_
  refine Zf rfl (aa br Sr rfl) (Zf rfl (ab bQ Sr) (Zf rfl (aa br Sr rfl) (Zf rfl (ab gp Sr) ?_)))
  refine Zf rfl (ad (i := 1) underlying42 dl Sr Sr (by rfl) (gb (by exact hk1))) ?_
  refine Zf rfl (aa br Sr rfl) (Zf rfl (ab bQ Sr) (Zf rfl (aW Sr) (Zf rfl (aW Sr) (bj (Jr ?_)))))
  refine Zx (cx (ys := []) underlying44 gv trivial rfl (by decide)) fun u111 => ?_
  refine Zm ?_
  refine Zx (aL underlying44 gv Sr Sr zS (by simp; omega) (by simp; omega)) fun v113 => ?_
  refine Za (ae ?_)
  refine bZ (L' := [own 89 aS v113 (bL (nth p.Kids 0).Attrs ((nth p.Kids 1).Attrs.take 0))]) (.c zS (SPs.of (A := own 89 aS v113 ([] ++ (nth p.Kids 0).Attrs)) (by simp [bL])) (LSub.nil)) ?_
  refine ar (Jr (Za (ae (av ?_))))
  refine aO (σ := Nat × Value) (fun ⟨i, v⟩ => i <= (nth p.Kids 1).Attrs.length /\ ∀ k, k < i -> (decide (columnL (nth p.Kids 0).Attrs (nth (nth p.Kids 1).Attrs k).Name < 0) || decide ((nth (nth p.Kids 0).Attrs (columnL (nth p.Kids 0).Attrs (nth (nth p.Kids 1).Attrs k).Name).toNat).Kind = (nth (nth p.Kids 1).Attrs k).Kind)) = true) (fun ⟨i, v⟩ => upd (upd (upd (upd (upd (upd cg 3 (bx (aR (m + 1 + 1)) p)) 6 (tSl aS (nth p.Kids 0).Attrs)) 7 (tSl aS (nth p.Kids 1).Attrs)) 8 (rV.ty v)) 9 (tV (.int .i64 i))) 14 (tV (.int .i64 p.Kind))) (fun ⟨i, v⟩ => [own 89 aS v (bL (nth p.Kids 0).Attrs ((nth p.Kids 1).Attrs.take i))]) (fun ⟨i, v⟩ => (nth p.Kids 1).Attrs.length - i) (0, v113) ⟨by omega, fun k hk => by omega⟩ (zU) (LSub.rfl) ?_
  rintro ⟨i, v⟩ ⟨hi, hv⟩
  refine ar (Jr (Zm (Zm (Zs (ah underlying44 Sr) (Zs (aA Sr Sr) ?_)))))
  refine ae ?_
  refine au Sr (fun h117 => ?_) (fun h117 => ?_)
  ·
   try simp only [NF] at h117
   have hlt : i < (nth p.Kids 1).Attrs.length := by omega
   have hcl := iY (nth p.Kids 0).Attrs (nth (nth p.Kids 1).Attrs i).Name
   have hjl := hG (nth p.Kids 0).Attrs ((nth p.Kids 1).Attrs.take i)
   rw [List.length_take] at hjl
   have hsn := lT (a := (nth p.Kids 0).Attrs) (l := (nth p.Kids 1).Attrs.take i) (x := nth (nth p.Kids 1).Attrs i)
   rw [<- dM hlt] at hsn
   refine ay (ar (av (Jr (Zm (Zm ?_)))))
   refine Zm ?_
   refine Zs (ad (i := i) underlying44 ct Sr Sr (by rfl) (gb (by exact hlt))) ?_
   refine Zs (aa dH Sr rfl) (Zl ty9 Sr ?_)
   refine Zs (ai (fC _ _ (by show (nth p.Kids 0).Attrs.length <= _; omega)) ⟨Sr, Sr, trivial⟩ call123) ?_
   refine Za (ae (ar (ar ?_)))
   refine bl [⟨0, [10], true⟩, ⟨1, [127], true⟩, ⟨2, [128], true⟩, ⟨3, [6, 129], true⟩, ⟨4, [10, 129], true⟩, ⟨5, [129, 130, 131], true⟩, ⟨6, [129, 132], true⟩, ⟨7, [129, 133], true⟩, ⟨8, [7, 129], true⟩, ⟨9, [9, 129], true⟩, ⟨10, [129, 135, 136], true⟩, ⟨11, [129, 137], true⟩, ⟨12, [129, 138], true⟩, ⟨13, [129, 134, 139], true⟩, ⟨14, [129, 140], true⟩] rfl (by kernel_rfl) ?_
   refine Zv rfl (Zf rfl (bE Sr Sr) (Zv rfl ?_))
   refine Mk rfl rfl Sr rfl (al Sr) ?_
   refine Mk rfl rfl Sr rfl (al Sr) ?_
   refine Mg rfl rfl Sr rfl (fun hw => ad (i := (columnL (nth p.Kids 0).Attrs (nth (nth p.Kids 1).Attrs i).Name).toNat) underlying44 ct (Sub.w hw) (Sub.w hw) (by have hwq := hw; (try simp only [beqB_t, beqB_f, NF] at hwq); show (columnL (nth p.Kids 0).Attrs (nth (nth p.Kids 1).Attrs i).Name) = _; omega) (gb (by have hwq := hw; (try simp only [beqB_t, beqB_f, NF] at hwq); show _ < (nth p.Kids 0).Attrs.length; omega))) ?_
   refine Mg rfl rfl Sr rfl (fun hw => aa dH (Sub.w hw) rfl) (Mg rfl rfl Sr rfl (fun hw => ab ty3 (Sub.w hw)) ?_)
   refine Mk rfl rfl Sr rfl (al Sr) ?_
   refine Mk rfl rfl Sr rfl (al Sr) ?_
   refine Mg rfl rfl Sr rfl (fun hw => ad (i := i) underlying44 ct (Sub.w hw) (Sub.w hw) (by rfl) (gb (by have hwq := hw; (try simp only [beqB_t, beqB_f, NF] at hwq); exact hlt))) ?_
   refine Mg rfl rfl Sr rfl (fun hw => aa dH (Sub.w hw) rfl) (Mg rfl rfl Sr rfl (fun hw => ab ty3 (Sub.w hw)) (Mg rfl rfl Sr rfl (fun hw => bb (Sub.w hw) (Sub.w hw)) (Zf rfl (aw Sr Sr) (bj ?_))))
   refine au Sr (fun h141 => ?_) (fun h141 => ?_)
   ·
    try simp only [NF] at h141
    refine Jr (Za (ae (aF ?_)))
    refine aZ (rv := .tmp 4) rfl () (Sel.all _) (.tmp Sr) (Frz.sub (Sub.bool ?_))
    have hno : fG (nth p.Kids 0).Attrs (nth p.Kids 1).Attrs = false := gZ hlt (by simp [h141.2]; omega)
    rw [gj, if_neg h15, if_neg h39, if_neg h75, if_pos h99, hno]; simp
   try simp only [NF] at h141
   refine ay (Jr (Zm (Zs (aA Sr Sr) (ae ?_))))
   refine au Sr (fun h143 => ?_) (fun h143 => ?_)
   ·
    try simp only [NF] at h143
    refine aq (Zm (Zm (Zm ?_)))
    refine Zs (ad (i := i) underlying44 ct Sr Sr (by rfl) (gb (by exact hlt))) ?_
    refine Zl ct Sr ?_
    refine Zs (ax (ys := [_]) underlying44 gv ⟨rfl, Sr, trivial⟩ rfl (by decide)) ?_
    refine Zx (aL underlying44 gv Sr Sr zS (by simp; omega) (by simp; omega)) fun v150 => ?_
    refine Za (ae (aq (Zm (Zs (aB Sr Sr z6) (Za ?_)))))
    refine ae ?_
    refine aE (σ := Nat × Value) (s := (i, v)) (i + 1, v150) zO ?_ (zU) (.c zS (SPs.of (A := own 89 aS v150 (bL (nth p.Kids 0).Attrs ((nth p.Kids 1).Attrs.take i) ++ [nth (nth p.Kids 1).Attrs i])) (by rw [hsn, if_pos h143])) (LSub.nil))
    refine ⟨by omega, fun k hk => ?_⟩
    by_cases e : k = i
    ·
     subst e; simp [h143]
    exact hv k zG
   try simp only [NF] at h143
   refine ay (aq (Zm (Zs (aB Sr Sr z6) (Za (ae ?_)))))
   refine aE (σ := Nat × Value) (s := (i, v)) (i + 1, v) zO ?_ (zU) (.c zS (SPs.of (A := own 89 aS v (bL (nth p.Kids 0).Attrs ((nth p.Kids 1).Attrs.take i))) (by rw [hsn, if_neg zG])) (LSub.nil))
   refine ⟨by omega, fun k hk => ?_⟩
   by_cases e : k = i
   ·
    rw [e]; rcases h141 with h | h
    ·
     exact absurd h143 zG
    simp [h]
   exact hv k zG
  try simp only [NF] at h117
  obtain rfl : i = (nth p.Kids 1).Attrs.length := by omega
  have hok : fG (nth p.Kids 0).Attrs (nth p.Kids 1).Attrs = true := iP hv
  refine bZ (L' := [own 89 aS v (bL (nth p.Kids 0).Attrs (nth p.Kids 1).Attrs)]) (.c zS (SPs.of (A := own 89 aS v (bL (nth p.Kids 0).Attrs ((nth p.Kids 1).Attrs.take (nth p.Kids 1).Attrs.length))) (by rw [List.take_length])) (LSub.nil)) ?_
  refine aY (Jr (Zs (aa br Sr rfl) (Zl bQ Sr (Zm ?_))))
  refine Zs (ga zS (cU _ _ (by show p.Attrs.length <= _; omega)) (fun _ => Eo _) ⟨(Frz.sub Sr), (Frz.own), trivial⟩ call267) ?_
  refine Za (ae (aF ?_))
  refine aZ (rv := .tmp 4) rfl () (Sel.all _) (.tmp Sr) (Frz.sub (Sub.bool ?_))
  rw [gj, if_neg h15, if_neg h39, if_neg h75, if_pos h99, hok, Bool.true_and]
 try simp only [NF] at h99
 refine ar (Jr (Zs (aC Sr Sr) (Za (ae ?_))))
 refine au Sr (fun h155 => ?_) (fun h155 => ?_)
 ·
  try simp only [NF] at h155
  refine ay ?_
  refine au Sr (fun h155 => ?_) (fun h155 => ?_)
  ·
   try simp only [NF] at h155
   refine ar ?_
   have hk56 : p.Kind = 5 \/ p.Kind = 6 := by omega
   have hk0 : 0 < p.Kids.length := by rcases hk56 with h | h <;> (rw [h] at hkn; simp [kidsN] at hkn; omega)
   have hk1 : 1 < p.Kids.length := by rcases hk56 with h | h <;> (rw [h] at hkn; simp [kidsN] at hkn; omega)
   obtain rfl := hm hk0
   have hA0 := (z5 _ (aH hk0)).2
   have hA1 := (z5 _ (aH hk1)).2
   refine bl [⟨0, [3], true⟩, ⟨1, [158], true⟩, ⟨2, [159], true⟩, ⟨3, [160], true⟩, ⟨4, [161], true⟩, ⟨5, [3], true⟩, ⟨6, [163], true⟩, ⟨7, [164], true⟩, ⟨8, [165], true⟩, ⟨9, [166], true⟩, ⟨10, [162, 167], true⟩, ⟨11, [168], true⟩, ⟨12, [3, 169], true⟩, ⟨13, [169, 170], true⟩, ⟨14, [3, 169], true⟩, ⟨15, [169, 172], true⟩, ⟨16, [169, 173], true⟩, ⟨17, [169, 174], true⟩, ⟨18, [169, 175], true⟩, ⟨19, [169, 171, 176], true⟩, ⟨20, [169, 177], true⟩, ⟨21, [178], true⟩] rfl (by kernel_rfl) ?_
   refine Zf rfl (aa br Sr rfl) (Zf rfl (ab gp Sr) ?_)
   refine Zf rfl (ad (i := 0) underlying42 dl Sr Sr (by rfl) (gb (by exact hk0))) ?_
   refine Zf rfl (aa br Sr rfl) (Zf rfl (ab bQ Sr) (Zf rfl (aa br Sr rfl) (Zf rfl (ab gp Sr) ?_)))
   refine Zf rfl (ad (i := 1) underlying42 dl Sr Sr (by rfl) (gb (by exact hk1))) ?_
   refine Zf rfl (aa br Sr rfl) (Zf rfl (ab bQ Sr) ?_)
   refine Zf rfl (ai (cU _ _ (by show (nth p.Kids 0).Attrs.length <= _; omega)) ⟨Sr, Sr, trivial⟩ call267) ?_
   refine Zv rfl ?_
   refine Mk rfl rfl Sr rfl (aa br Sr rfl) ?_
   refine Mg rfl rfl Sr rfl (fun hw => ab bQ (Sub.w hw)) ?_
   refine Mk rfl rfl Sr rfl (aa br Sr rfl) ?_
   refine Mg rfl rfl Sr rfl (fun hw => ab gp (Sub.w hw)) ?_
   refine Mg rfl rfl Sr rfl (fun hw => ad (i := 0) underlying42 dl (Sub.w hw) Sr (by rfl) (gb (by have hwq := hw; (try simp only [beqB_t, beqB_f, NF] at hwq); exact hk0))) ?_
   refine Mg rfl rfl Sr rfl (fun hw => aa br (Sub.w hw) rfl) (Mg rfl rfl Sr rfl (fun hw => ab bQ (Sub.w hw)) ?_)
   refine Mg rfl rfl Sr rfl (fun hw => ai (cU _ _ (by show p.Attrs.length <= _; omega)) ⟨(Sub.w hw), (Sub.w hw), trivial⟩ call267) ?_
   refine Zf rfl (aw Sr Sr) (Zf rfl (aW Sr) (bj (aF ?_)))
   refine aK (t := 4) rfl () ?_
   refine Sub.bool ?_
   rw [gj, if_neg h15, if_neg h39, if_neg h75, if_neg h99, if_pos hk56]
  try simp only [NF] at h155
  first | contradiction | omega | (simp_all; done)
 try simp only [NF] at h155
 refine aq (Zs (aC Sr Sr) (Za (ae ?_)))
 refine au Sr (fun h155 => ?_) (fun h155 => ?_)
 ·
  try simp only [NF] at h155
  refine ar ?_
  have hk56 : p.Kind = 5 \/ p.Kind = 6 := by omega
  have hk0 : 0 < p.Kids.length := by rcases hk56 with h | h <;> (rw [h] at hkn; simp [kidsN] at hkn; omega)
  have hk1 : 1 < p.Kids.length := by rcases hk56 with h | h <;> (rw [h] at hkn; simp [kidsN] at hkn; omega)
  obtain rfl := hm hk0
  have hA0 := (z5 _ (aH hk0)).2
  have hA1 := (z5 _ (aH hk1)).2
  refine bl [⟨0, [3], true⟩, ⟨1, [158], true⟩, ⟨2, [159], true⟩, ⟨3, [160], true⟩, ⟨4, [161], true⟩, ⟨5, [3], true⟩, ⟨6, [163], true⟩, ⟨7, [164], true⟩, ⟨8, [165], true⟩, ⟨9, [166], true⟩, ⟨10, [162, 167], true⟩, ⟨11, [168], true⟩, ⟨12, [3, 169], true⟩, ⟨13, [169, 170], true⟩, ⟨14, [3, 169], true⟩, ⟨15, [169, 172], true⟩, ⟨16, [169, 173], true⟩, ⟨17, [169, 174], true⟩, ⟨18, [169, 175], true⟩, ⟨19, [169, 171, 176], true⟩, ⟨20, [169, 177], true⟩, ⟨21, [178], true⟩] rfl (by kernel_rfl) ?_
  refine Zf rfl (aa br Sr rfl) (Zf rfl (ab gp Sr) ?_)
  refine Zf rfl (ad (i := 0) underlying42 dl Sr Sr (by rfl) (gb (by exact hk0))) ?_
  refine Zf rfl (aa br Sr rfl) (Zf rfl (ab bQ Sr) (Zf rfl (aa br Sr rfl) (Zf rfl (ab gp Sr) ?_)))
  refine Zf rfl (ad (i := 1) underlying42 dl Sr Sr (by rfl) (gb (by exact hk1))) ?_
  refine Zf rfl (aa br Sr rfl) (Zf rfl (ab bQ Sr) ?_)
  refine Zf rfl (ai (cU _ _ (by show (nth p.Kids 0).Attrs.length <= _; omega)) ⟨Sr, Sr, trivial⟩ call267) ?_
  refine Zv rfl ?_
  refine Mk rfl rfl Sr rfl (aa br Sr rfl) ?_
  refine Mg rfl rfl Sr rfl (fun hw => ab bQ (Sub.w hw)) ?_
  refine Mk rfl rfl Sr rfl (aa br Sr rfl) ?_
  refine Mg rfl rfl Sr rfl (fun hw => ab gp (Sub.w hw)) ?_
  refine Mg rfl rfl Sr rfl (fun hw => ad (i := 0) underlying42 dl (Sub.w hw) Sr (by rfl) (gb (by have hwq := hw; (try simp only [beqB_t, beqB_f, NF] at hwq); exact hk0))) ?_
  refine Mg rfl rfl Sr rfl (fun hw => aa br (Sub.w hw) rfl) (Mg rfl rfl Sr rfl (fun hw => ab bQ (Sub.w hw)) ?_)
  refine Mg rfl rfl Sr rfl (fun hw => ai (cU _ _ (by show p.Attrs.length <= _; omega)) ⟨(Sub.w hw), (Sub.w hw), trivial⟩ call267) ?_
  refine Zf rfl (aw Sr Sr) (Zf rfl (aW Sr) (bj (aF ?_)))
  refine aK (t := 4) rfl () ?_
  refine Sub.bool ?_
  rw [gj, if_neg h15, if_neg h39, if_neg h75, if_neg h99, if_pos hk56]
 try simp only [NF] at h155
 refine Jr (Zs (aC Sr Sr) (Za (ae ?_)))
 refine au Sr (fun h179 => ?_) (fun h179 => ?_)
 ·
  try simp only [NF] at h179
  have hk0 : 0 < p.Kids.length := by rw [h179] at hkn; simp [kidsN] at hkn; omega
  have hA0 := (z5 _ (aH hk0)).2
  obtain rfl := hm hk0
  refine Jr (Zs (aa br Sr rfl) (Zl gp Sr ?_))
  refine Zs (ad (i := 0) underlying42 dl Sr Sr (by rfl) (gb (by exact hk0))) ?_
  refine Zs (aa br Sr rfl) (Zl bQ Sr (Zs (ah underlying44 Sr) (Za (ae (ar ?_)))))
  refine Jr (Zs (aa br Sr rfl) (Zl ty3 Sr (Zs (aA Sr Sr) (Zm ?_))))
  refine Zk (aa br Sr rfl) ?_
  refine Zg (fun hw => ab ty3 (Sub.w hw)) ?_
  refine Zk (al Sr) ?_
  refine Zg (fun hw => bE (Sub.w hw) (Sub.w hw)) (Zs (az Sr Sr) (Zm ?_))
  refine Zk (aa br Sr rfl) ?_
  refine Zg (fun hw => ab bQ (Sub.w hw)) (Zg (fun hw => ah underlying44 (Sub.w hw)) ?_)
  refine Zk (al Sr) ?_
  refine Zg (fun hw => bb (Sub.w hw) (Sub.w hw)) (Zs (az Sr Sr) (ae ?_))
  refine au Sr (fun h202 => ?_) (fun h202 => ?_)
  ·
   try simp only [NF] at h202
   refine Jr (Za (ae (aF ?_)))
   refine aK (t := 4) rfl () ?_
   refine Sub.bool ?_
   have hno : gw p = false := by unfold gw; rw [decide_eq_false_iff_not]; omega
   rw [gj, if_neg h15, if_neg h39, if_neg h75, if_neg h99, if_neg zG, if_pos h179, hno]; simp
  try simp only [NF] at h202
  have hok : gw p = true := by unfold gw; rw [decide_eq_true_eq]; omega
  have hr : 0 <= p.Col /\ p.Col < (nth p.Kids 0).Attrs.length /\ p.Attrs.length = (nth p.Kids 0).Attrs.length := by omega
  refine ay (Jr ?_)
  refine Zx (cx (ys := []) underlying44 gv trivial rfl (by decide)) fun u203 => ?_
  refine Zs (aa br Sr rfl) (Zl gp Sr ?_)
  refine Zs (ad (i := 0) underlying42 dl Sr Sr (by rfl) (gb (by exact hk0))) ?_
  refine Zs (aa br Sr rfl) (Zl bQ Sr ?_)
  refine Zx (aL underlying44 gv Sr Sr zS (by simp; omega) (by simp; omega)) fun v209 => ?_
  refine Za (ae ?_)
  refine bZ (L' := [own 89 aS v209 (nth p.Kids 0).Attrs]) (.c zS (SPs.of (A := own 89 aS v209 ([] ++ (nth p.Kids 0).Attrs)) (by simp)) (LSub.nil)) ?_
  refine ar ?_
  refine bl [⟨0, [12], true⟩, ⟨1, [3], true⟩, ⟨2, [211], true⟩, ⟨3, [3], true⟩, ⟨4, [213], true⟩, ⟨5, [3], true⟩, ⟨6, [215], true⟩, ⟨7, [214, 216], true⟩, ⟨8, [217], true⟩, ⟨9, [218], true⟩, ⟨10, [210, 212], false⟩, ⟨11, [220], false⟩, ⟨12, [219, 221], false⟩] rfl (by kernel_rfl) ?_
  refine Zv rfl (Zf rfl (aa br Sr rfl) (Zf rfl (ab ty3 Sr) (Zf rfl (aa br Sr rfl) (Zf rfl (ab bQ Sr) (Zf rfl (aa br Sr rfl) ?_)))))
  refine Zf rfl (ab ty3 Sr) ?_
  refine Zf rfl (ad (i := p.Col.toNat) underlying44 ct Sr Sr (by show p.Col = _; omega) (gb (by show p.Col.toNat < p.Attrs.length; omega))) ?_
  refine Zf rfl (aa dH Sr rfl) (Zf rfl (ab ty9 Sr) ?_)
  refine ff rfl rfl rfl rfl (bd (i := p.Col.toNat) underlying44 ct Sr zS Sr (by show p.Col = _; omega) (by show p.Col.toNat < (nth p.Kids 0).Attrs.length; omega)) ?_
  refine ff rfl rfl rfl rfl (bV (i := p.Col.toNat) dH Sr rfl zS (by show _ < (nth p.Kids 0).Attrs.length; omega)) ?_
  refine cV rfl rfl rfl (dg (i := p.Col.toNat) (y := nth (nth p.Kids 0).Attrs p.Col.toNat) (y' := { nth (nth p.Kids 0).Attrs p.Col.toNat with Name := (nth p.Attrs p.Col.toNat).Name }) ty9 Sr Sr zS (gb (by show _ < (nth p.Kids 0).Attrs.length; omega)) ⟨fun _ _ q => q, rfl, by intro g hg; simp only [List.mem_cons, List.not_mem_nil, or_false] at hg; rcases hg with rfl | rfl | rfl <;> rfl⟩) fun _ => ?_
  refine bj (Jr (Zs (aa br Sr rfl) (Zl bQ Sr (Zm ?_))))
  refine Zs (ga zS (cU _ _ (by show p.Attrs.length <= _; omega)) (fun _ => Eo _) ⟨(Frz.sub Sr), (Frz.own), trivial⟩ call267) ?_
  refine Za (ae (aF ?_))
  refine aZ (rv := .tmp 4) rfl () (Sel.all _) (.tmp Sr) (Frz.sub (Sub.bool ?_))
  rw [gj, if_neg h15, if_neg h39, if_neg h75, if_neg h99, if_neg zG, if_pos h179, hok, Bool.true_and]; rfl
 try simp only [NF] at h179
 have h8 : p.Kind = 8 := by have := cZ hkd; omega
 have hk0 : 0 < p.Kids.length := by rw [h8] at hkn; simp [kidsN] at hkn; omega
 obtain rfl := hm hk0
 refine ay (Jr (Zl dl Sr (Zs (ai (rt _ _ hp hk0) ⟨Sr, trivial⟩ call270) (Za (ae ?_)))))
 refine aF ?_
 refine aK (t := 4) rfl () ?_
 refine Sub.bool ?_
 rw [gj, if_neg h15, if_neg h39, if_neg h75, if_neg h99, if_neg zG, if_neg h179]
def yI (s : GSchema) (n : Nat) : Prop := ∀ (lv : Nat) (p : aG), lv <= 1000 -> od n p -> Fun1 prog 120 [aV.ty s, (aR n).ty p, tV (.int .i64 lv)] (tV (.bool (validM s lv p)))
theorem pK (s : GSchema) (hz : SchSz s) (hs : lX s = true) (n lv : Nat) (p : aG) (hlv : lv <= 1000) (hp : od (n + 1) p) (ih : yI s n) : Fun1 prog 120 [aV.ty s, (aR (n + 1)).ty p, tV (.int .i64 lv)] (tV (.bool (validM s lv p))) := by
 refine Spec.enter func120 rfl rfl fun h0 w0 fr0 => ?_
 obtain ⟨z1, z2, z3, z4, z5⟩ := id hp
 refine Jr (Zs (aJ (R := aV) Sr) (Zs (aJ (R := (aR (n + 1))) Sr) (Za (ae (ar ?_)))))
 refine ar ?_
 refine bl [⟨0, [2], true⟩, ⟨1, [9], true⟩, ⟨2, [10], true⟩, ⟨3, [4, 11], true⟩, ⟨4, [11, 12], true⟩, ⟨5, [11, 13], true⟩, ⟨6, [4, 11], true⟩, ⟨7, [11, 15], true⟩, ⟨8, [11, 16], true⟩, ⟨9, [11, 14, 17], true⟩, ⟨10, [11, 18], true⟩, ⟨11, [19], true⟩, ⟨12, [4, 20], true⟩, ⟨13, [20, 21], true⟩, ⟨14, [20, 22], true⟩, ⟨15, [20, 23], true⟩] rfl (by kernel_rfl) ?_
 refine Zv rfl (Zf rfl (aC Sr Sr) (Zv rfl ?_))
 refine Mk rfl rfl Sr rfl (aa br Sr rfl) ?_
 refine Mg rfl rfl Sr rfl (fun hw => ab gp (Sub.w hw)) (Mg rfl rfl Sr rfl (fun hw => ah underlying42 (Sub.w hw)) ?_)
 refine Mk rfl rfl Sr rfl (aa br Sr rfl) ?_
 refine Mg rfl rfl Sr rfl (fun hw => ab ty3 (Sub.w hw)) (Mg rfl rfl Sr rfl (fun hw => ai (tF _) ⟨(Sub.w hw), trivial⟩ call190) (Mg rfl rfl Sr rfl (fun hw => bb (Sub.w hw) (Sub.w hw)) (Zf rfl (az Sr Sr) (Zv rfl ?_))))
 refine Mk rfl rfl Sr rfl (ab dl Sr) ?_
 refine Mg rfl rfl Sr rfl (fun hw => ai (tG _ _) ⟨(Sub.w hw), trivial⟩ call191) (Mg rfl rfl Sr rfl (fun hw => bf (Sub.w hw)) (Zf rfl (az Sr Sr) (bj ?_)))
 refine au Sr (fun h24 => ?_) (fun h24 => ?_)
 ·
  try simp only [NF] at h24
  refine Jr (Za (ae (aF ?_)))
  refine aK (t := 6) rfl () ?_
  refine Sub.bool ?_
  cases lv with
  | zero => rfl
  | succ l =>
   have hb : (cT p.Kind && decide ((p.Kids.length : Int) = kidsN p.Kind) && bareM p) = false := by
    by_cases hkd : cT p.Kind = true
    ·
     rw [hkd, Bool.true_and, <- uY hkd]
     rcases h24 with (h | h) | h
     ·
      exact absurd h zG
     ·
      rw [jF, if_pos hkd] at h; simp [h]
     simp [h]
    rw [Bool.eq_false_iff.2 hkd, Bool.false_and, Bool.false_and]
   simp only [validM]
   cases h1 : (cT p.Kind && decide ((p.Kids.length : Int) = kidsN p.Kind)) with
   | false => simp
   | true => rw [h1, Bool.true_and] at hb; simp [hb]
 try simp only [NF] at h24
 have hlv0 : ¬ (lv : Int) = 0 := h24.1.1
 have hki : (p.Kids.length : Int) = jF p.Kind := h24.1.2
 have hkd : cT p.Kind = true := by
  unfold jF at hki
  split at hki
  ·
   assumption
  omega
 have hkn : (p.Kids.length : Int) = kidsN p.Kind := by rw [hki, jF, if_pos hkd]
 have hb : bareM p = true := by rw [<- uY hkd]; exact h24.2
 obtain ⟨l, rfl⟩ : ∃ l, lv = l + 1 := ⟨lv - 1, by omega⟩
 refine ay (ar (Jr (Za (ae (av ?_)))))
 refine aO (σ := Nat) (fun i => i <= p.Kids.length /\ ∀ k, k < i -> validM s l (nth p.Kids k) = true) (fun i => upd (upd (upd (upd cg 2 (tV (.int .i64 ((l + 1 : Nat) : Int)))) 3 (bx aV s)) 4 (bx (aR (n + 1)) p)) 7 (tV (.int .i64 i))) (fun i => []) (fun i => p.Kids.length - i) 0 ⟨by omega, fun k hk => by omega⟩ (zU) (LSub.rfl) ?_
 rintro i ⟨hi, hv⟩
 refine ar (Jr (Zm (Zs (aa br Sr rfl) (Zl gp Sr (Zs (ah underlying42 Sr) ?_)))))
 refine Zs (aA Sr Sr) (ae ?_)
 refine au Sr (fun h29 => ?_) (fun h29 => ?_)
 ·
  try simp only [NF] at h29
  have hlt : i < p.Kids.length := by omega
  refine ay (ar (av (ar ?_)))
  refine bl [⟨0, [3], true⟩, ⟨1, [4], true⟩, ⟨2, [33], true⟩, ⟨3, [7], true⟩, ⟨4, [34, 35], true⟩, ⟨5, [36], true⟩, ⟨6, [2], true⟩, ⟨7, [38], true⟩, ⟨8, [32, 37, 39], true⟩, ⟨9, [40], true⟩] rfl (by kernel_rfl) ?_
  refine Zf rfl (ab fR Sr) (Zf rfl (aa br Sr rfl) (Zf rfl (ab gp Sr) (Zv rfl ?_)))
  refine Zf rfl (ad (i := i) underlying42 dl Sr Sr (by rfl) (gb (by exact hlt))) ?_
  refine Zf rfl (ab dl Sr) (Zv rfl (Zf rfl (dN Sr Sr z6) (Zf rfl (ai (ih l _ zG (z5 _ (aH hlt)).1) ⟨Sr, Sr, Sub.int zG, trivial⟩ call120) (Zf rfl (bf Sr) (bj ?_)))))
  refine au Sr (fun h41 => ?_) (fun h41 => ?_)
  ·
   try simp only [NF] at h41
   refine Jr (Za (ae (aF ?_)))
   refine aK (t := 6) rfl () ?_
   refine Sub.bool ?_
   have : p.Kids.all (validM s l) = false := gZ hlt (by simpa using h41)
   simp only [validM, this]; simp
  try simp only [NF] at h41
  refine ay (aq (Zm (Zs (aB Sr Sr z6) (Za (ae ?_)))))
  refine aE (σ := Nat) (s := i) (i + 1) zO ?_ (zU) (LSub.rfl)
  exact kr (p := fun q => validM s l q = true) hlt hv (by simpa using h41)
 try simp only [NF] at h29
 have hkids : p.Kids.all (validM s l) = true := iP (fun k hk => hv k zG)
 refine aY (ar (Jr (Za (ae (av ?_)))))
 refine aO (σ := Nat) (fun i => i <= p.Attrs.length /\ ∀ k, k < i -> ez p.Attrs k = true) (fun i => upd (upd (upd cg 3 (bx aV s)) 4 (bx (aR (n + 1)) p)) 8 (tV (.int .i64 i))) (fun i => []) (fun i => p.Attrs.length - i) 0 ⟨by omega, fun k hk => by omega⟩ (zU) (LSub.rfl) ?_
 rintro i ⟨hi2, hv2⟩
 refine ar (Jr (Zm (Zs (aa br Sr rfl) (Zl bQ Sr (Zs (ah underlying44 Sr) ?_)))))
 refine Zs (aA Sr Sr) (ae ?_)
 refine au Sr (fun h46 => ?_) (fun h46 => ?_)
 ·
  try simp only [NF] at h46
  have hlt : i < p.Attrs.length := by omega
  refine ay (ar (av (ar ?_)))
  refine bl [⟨0, [4], true⟩, ⟨1, [49], true⟩, ⟨2, [4], true⟩, ⟨3, [51], true⟩, ⟨4, [8], true⟩, ⟨5, [52, 53], true⟩, ⟨6, [54], true⟩, ⟨7, [55], true⟩, ⟨8, [50, 56], true⟩, ⟨9, [8], true⟩, ⟨10, [57, 58], true⟩] rfl (by kernel_rfl) ?_
  refine Zf rfl (aa br Sr rfl) (Zf rfl (ab bQ Sr) (Zf rfl (aa br Sr rfl) (Zf rfl (ab bQ Sr) (Zv rfl ?_))))
  refine Zf rfl (ad (i := i) underlying44 ct Sr Sr (by rfl) (gb (by exact hlt))) ?_
  refine Zf rfl (aa dH Sr rfl) (Zf rfl (ab ty9 Sr) ?_)
  refine Zf rfl (ai (fC _ _ (by show p.Attrs.length <= _; omega)) ⟨Sr, Sr, trivial⟩ call123) ?_
  refine Zv rfl (Zf rfl (bb Sr Sr) (bj ?_))
  refine au Sr (fun h59 => ?_) (fun h59 => ?_)
  ·
   try simp only [NF] at h59
   refine Jr (Za (ae (aF ?_)))
   refine aK (t := 6) rfl () ?_
   refine Sub.bool ?_
   have : ez p.Attrs i = false := by simpa [ez] using h59
   simp only [validM, eV hlt this]; simp
  try simp only [NF] at h59
  refine ay (aq (Zm (Zs (aB Sr Sr z6) (Za (ae ?_)))))
  refine aE (σ := Nat) (s := i) (i + 1) zO ?_ (zU) (LSub.rfl)
  refine ⟨by omega, fun k hk => ?_⟩
  by_cases e : k = i
  ·
   subst e; simpa [ez] using h59
  exact hv2 k zG
 try simp only [NF] at h46
 have hns : (List.range p.Attrs.length).all (ez p.Attrs) = true := eU (fun k hk => hv2 k zG)
 refine aY (Jr (Zl fR Sr (Zl dl Sr (Zs (ai (oh _ hz _ _ hp hkd hkn) ⟨Sr, Sr, trivial⟩ call192) (Za ?_)))))
 refine ae (aF ?_)
 refine aK (t := 6) rfl () ?_
 refine Sub.bool ?_
 have hkn2 : decide ((p.Kids.length : Int) = kidsN p.Kind) = true := by rw [decide_eq_true_eq]; exact hkn
 simp only [validM, hkd, hkn2, hkids, hb, hns, Bool.true_and]; exact zE hs hkd
theorem lZ (s : GSchema) (hz : SchSz s) (hs : lX s = true) : ∀ n, yI s n
 | 0 => fun lv p hlv hp => by
  refine Spec.enter func120 rfl rfl fun h0 w0 fr0 => ?_
  exact eX 1 (fun _ _ r => (show False from r)) fun q => q.elim
 | n + 1 => fun lv p hlv hp => pK s hz hs n lv p hlv hp (lZ s hz hs n)
theorem pL (s : GSchema) (hz : SchSz s) (n : Nat) (p : aG) (hp : od n p) : Fun1 prog 66 [aV.ty s, (aR n).ty p] (tV (.bool (iE s p))) := by
 refine Spec.enter func66 rfl rfl fun h0 w0 fr0 => ?_
 refine Jr (Zs (aJ (R := aV) Sr) (Zs (aJ (R := (aR n)) Sr) (Za (ae (Jr ?_)))))
 refine Zl fR Sr (Zs (ai (kR _ hz) ⟨Sr, trivial⟩ call89) (Zm ?_))
 refine Zk (ab fR Sr) ?_
 refine Zk (ab dl Sr) ?_
 refine Zg (fun hw => ai (lZ s hz (by have hwq := hw; (try simp only [beqB_t, beqB_f] at hwq); first | exact hwq | simpa using hwq) n 12 p zG hp) ⟨Sub.w hw, Sub.w hw, Sr, trivial⟩ call120) ?_
 refine Zs (aw Sr Sr) (Za (ae (aF ?_)))
 exact aK (t := 4) rfl () Sr
structure Bst where
 P : List Gplace
 F : List Int
 T : List Int
 S : List Int
 bad : Bool
def st0 : Bst := ⟨[], [], [], [], false⟩
def Dep : Nat -> aG -> Prop
 | 0, _ => False
 | n + 1, p => ∀ q ∈ p.Kids, Dep n q
theorem pM : ∀ {n : Nat} {h : PH} {p : aG} {cs : List Value}, (aR n).rel h p cs -> Dep n p
 | 0, _, _, _, r => r.elim
 | n + 1, h, p, cs, r => by
   obtain ⟨c0, _, rfl, _, c1, _, rfl, _, c2, _, rfl, r2, _⟩ := (show SF.rel h p (fsPl cPl aS be (aR n)) cs from r)
   obtain ⟨u, _, hu⟩ := r2
   intro q hq
   obtain ⟨ao, cap, e, H⟩ := hu
   obtain ⟨b, off, ea, H2⟩ := H (by intro z; rw [show p.Kids = [] from z] at hq; cases hq)
   obtain ⟨i, hi, rfl⟩ := List.getElem_of_mem hq
   obtain ⟨cs, _, r3⟩ := H2 i _ (List.getElem?_eq_getElem hi)
   exact pM r3
theorem pN {n : Nat} {h : PH} {p : aG} {v : Value} (hv : ((aR n).ty p).p h v) : Dep n p := by
 obtain ⟨cs, r, _⟩ := (aR n).iff.1 hv
 exact pM r
theorem jG {α : Type} [Inhabited α] {a b : List α} {i : Nat} (h : a.length <= i) (h2 : i < a.length + b.length) : nth (a ++ b) i = nth b (i - a.length) := by
 rw [nth_get (by rw [List.length_append]; omega), nth_get (by omega)]; exact List.getElem_append_right h
theorem l0 {a b : List GAttr} (h : cq a b = true) : a.length = b.length := by
 unfold cq eqL at h; simp only [Bool.and_eq_true, decide_eq_true_eq] at h; exact h.1
theorem dE {s : GSchema} {l : Nat} {p : aG} (h : validM s l p = true) : ∃ l', l = l' + 1 /\ cT p.Kind = true /\ (p.Kids.length : Int) = kidsN p.Kind /\ (∀ q ∈ p.Kids, validM s l' q = true) /\ (colsM s p).2 = true /\ (colsM s p).1.length = p.Attrs.length := by
 cases l with
 | zero => simp [validM] at h
 | succ l =>
   simp only [validM, Bool.and_eq_true, decide_eq_true_eq, List.all_eq_true] at h
   exact ⟨l, rfl, h.1.1.1.1.1, h.1.1.1.1.2, h.1.1.1.2, h.2.1, l0 h.2.2⟩
section
variable {s : GSchema} {l : Nat} {p : aG}
theorem vk1 (h : validM s l p = true) (hk : p.Kind = 1) : (0 <= p.Table /\ p.Table < s.Tables.length) /\ p.Attrs.length = (nth s.Tables p.Table.toNat).Attrs.length := by
 obtain ⟨l', _, _, _, _, h1, h2⟩ := dE h
 have e : colsM s p = if 0 <= p.Table /\ p.Table < s.Tables.length then (ee (nth s.Tables p.Table.toNat) p.Attrs, true) else ([], false) := by simp [colsM, hk]
 rw [e] at h1 h2
 split at h1
 · rename_i q
   rw [if_pos q] at h2
   exact ⟨q, by rw [<- h2]; simp [ee]⟩
 · cases h1
theorem vk2 (h : validM s l p = true) (hk : p.Kind = 2) : p.Kids.length = 1 /\ (∀ t ∈ p.Tests, ew t (nth p.Kids 0).Attrs.length = true) /\ p.Attrs.length = (nth p.Kids 0).Attrs.length := by
 obtain ⟨l', _, _, hn, _, h1, h2⟩ := dE h
 have e : colsM s p = ((nth p.Kids 0).Attrs, decide (0 < (p.Tests.length : Int)) && !(p.Tests.any fun t => !ew t (nth p.Kids 0).Attrs.length)) := by simp [colsM, hk]
 rw [e] at h1 h2
 rw [hk] at hn
 simp [kidsN] at hn
 simp only [Bool.and_eq_true, Bool.not_eq_true', List.any_eq_false] at h1
 exact ⟨by omega, fun t ht => by simpa using h1.2 t ht, h2.symm⟩
theorem vk3 (h : validM s l p = true) (hk : p.Kind = 3) : p.Kids.length = 1 /\ (∀ c ∈ p.Cols, 0 <= c /\ c < (nth p.Kids 0).Attrs.length) /\ p.Attrs.length = p.Cols.length := by
 obtain ⟨l', _, _, hn, _, h1, h2⟩ := dE h
 have e : colsM s p = (ej (nth p.Kids 0).Attrs p.Cols, dU (nth p.Kids 0).Attrs.length p.Cols) := by simp [colsM, hk]
 rw [e] at h1 h2
 rw [hk] at hn
 simp [kidsN] at hn
 have h3 := h1
 simp only [dU, List.all_eq_true, Bool.and_eq_true, decide_eq_true_eq] at h1
 refine ⟨by omega, h1, ?_⟩
 rw [<- h2]
 show (ej _ _).length = _
 rw [ej, if_pos h3]; simp [bv]
theorem vk4 (h : validM s l p = true) (hk : p.Kind = 4) : p.Kids.length = 2 /\ p.Attrs.length = (bL (nth p.Kids 0).Attrs (nth p.Kids 1).Attrs).length := by
 obtain ⟨l', _, _, hn, _, h1, h2⟩ := dE h
 have e : colsM s p = if fG (nth p.Kids 0).Attrs (nth p.Kids 1).Attrs = true then (bL (nth p.Kids 0).Attrs (nth p.Kids 1).Attrs, true) else ([], false) := by simp [colsM, hk]
 rw [e] at h1 h2
 rw [hk] at hn
 simp [kidsN] at hn
 split at h1
 · rename_i q
   rw [if_pos q] at h2
   exact ⟨by omega, h2.symm⟩
 · cases h1
theorem vk7 (h : validM s l p = true) (hk : p.Kind = 7) : p.Kids.length = 1 /\ p.Attrs.length = (nth p.Kids 0).Attrs.length := by
 obtain ⟨l', _, _, hn, _, h1, h2⟩ := dE h
 have e : colsM s p = if gw p = true then (tv p, true) else ([], false) := by simp [colsM, hk]
 rw [e] at h1 h2
 rw [hk] at hn
 simp [kidsN] at hn
 split at h1
 · rename_i q
   rw [if_pos q] at h2
   exact ⟨by omega, by rw [<- h2]; simp [tv]⟩
 · cases h1
end
theorem uZ {s : GSchema} (h : lX s = true) {i : Nat} (hi : i < s.Tables.length) : (nth s.Tables i).Attrs.length <= 12 := by
 unfold lX at h
 simp only [Bool.and_eq_true, decide_eq_true_eq] at h
 have h1 := n4.1 h.2 i hi
 simp only [Bool.and_eq_true] at h1
 have h2 := h1.1
 unfold rightM szT at h2
 simp only [Bool.and_eq_true, decide_eq_true_eq] at h2
 exact h2.1.1.1.1.2.2.1
open Go
structure It3 where
 i : Nat
 ts : List Nat
 c : Nat
def JX (C : Cx) (ops : Array Oper) (k : Env -> List SP -> Prop) : List It3 -> Env -> List SP -> Prop
 | [], E, L => k E L
 | ⟨i, ts, 0⟩ :: its, E, L => ∃ o A, ops[i]? = some o /\ ltO o.dst C.N = true /\ (∀ L, StepG C ops o (cQ ts E) L A) /\ JX C ops k its (ll E o.dst A) L
 | ⟨i, ts, 1⟩ :: its, E, L => ∃ o A, ops[i]? = some o /\ ltO o.dst C.N = true /\ StepG C ops o (cQ ts E) L A /\ JX C ops k its (ll E o.dst A) L
 | ⟨i, ts, _ + 2⟩ :: its, E, L => ∃ o, ops[i]? = some o /\ ltO o.dst C.N = true /\ ∃ (X : Type) (A : X -> Ty) (L' : X -> List SP), WantX ops o (cQ ts E) /\ Step C o (cQ ts E) L A L' /\ ∀ x, JX C ops k its (ll E o.dst (A x)) (L' x)
section
variable {C : Cx} {ops : Array Oper} {k : Env -> List SP -> Prop} {its : List It3} {E : Env} {L : List SP} {i : Nat} {ts : List Nat} {o : Oper}
theorem cC (h : k E L) : JX C ops k [] E L := h
theorem am {A : Ty} {d : Nat} (ho : ops.toList[i]? = some o) (hg : o.guard = none) (hd : o.dst = some d) (hN : Nat.blt d C.N = true) (hs : ∀ L, bs C o (cQ ts E) L A)
  (hk : JX C ops k its (upd E d A) L) : JX C ops k (⟨i, ts, 0⟩ :: its) E L :=
 ⟨o, A, by simpa using ho, by rw [hd]; exact hN, fun L => .inl ⟨hg, hs L⟩, by rw [hd]; exact hk⟩
theorem bS {B : Ty} {d j t : Nat} {b w : Bool} {og : Oper} (ho : ops.toList[i]? = some o) (hg : o.guard = some (j, b)) (hj : ops.toList[j]? = some og) (ht : og.dst = some t) (hc : Gd (cQ ts E t) b w) (hd : o.dst = some d) (hN : Nat.blt d C.N = true)
  (hs : w = true -> ∀ L, bs C o (cQ ts E) L B) (hk : JX C ops k its (upd E d (tW w B)) L) : JX C ops k (⟨i, ts, 0⟩ :: its) E L :=
 ⟨o, tW w B, by simpa using ho, by rw [hd]; exact hN, fun L => .inr ⟨j, b, og, t, w, B, hg, by simpa using hj, ht, hc, rfl, fun hw => hs hw L⟩, by rw [hd]; exact hk⟩
theorem bW {A : Ty} {d : Nat} (ho : ops.toList[i]? = some o) (hg : o.guard = none) (hd : o.dst = some d) (hN : Nat.blt d C.N = true) (hs : bs C o (cQ ts E) L A)
  (hk : JX C ops k its (upd E d A) L) : JX C ops k (⟨i, ts, 1⟩ :: its) E L :=
 ⟨o, A, by simpa using ho, by rw [hd]; exact hN, .inl ⟨hg, hs⟩, by rw [hd]; exact hk⟩
theorem sy {B : Ty} {d j t : Nat} {b w : Bool} {og : Oper} (ho : ops.toList[i]? = some o) (hg : o.guard = some (j, b)) (hj : ops.toList[j]? = some og) (ht : og.dst = some t) (hc : Gd (cQ ts E t) b w) (hd : o.dst = some d) (hN : Nat.blt d C.N = true)
  (hs : w = true -> bs C o (cQ ts E) L B) (hk : JX C ops k its (upd E d (tW w B)) L) : JX C ops k (⟨i, ts, 1⟩ :: its) E L :=
 ⟨o, tW w B, by simpa using ho, by rw [hd]; exact hN, .inr ⟨j, b, og, t, w, B, hg, by simpa using hj, ht, hc, rfl, hs⟩, by rw [hd]; exact hk⟩
theorem dq {X : Type} {A : X -> Ty} {L' : X -> List SP} {d : Nat} (ho : ops.toList[i]? = some o) (hg : o.guard = none) (hd : o.dst = some d) (hN : Nat.blt d C.N = true) (hs : Step C o (cQ ts E) L A L')
  (hk : ∀ x, JX C ops k its (upd E d (A x)) (L' x)) : JX C ops k (⟨i, ts, 2⟩ :: its) E L :=
 ⟨o, by simpa using ho, by rw [hd]; exact hN, X, A, L', .inl hg, hs, fun x => by rw [hd]; exact hk x⟩
theorem bI {X : Type} {A : X -> Ty} {L' : X -> List SP} (ho : ops.toList[i]? = some o) (hg : o.guard = none) (hd : o.dst = none) (hs : Step C o (cQ ts E) L A L')
  (hk : ∀ x, JX C ops k its E (L' x)) : JX C ops k (⟨i, ts, 2⟩ :: its) E L :=
 ⟨o, by simpa using ho, by rw [hd]; rfl, X, A, L', .inl hg, hs, fun x => by rw [hd]; exact hk x⟩
end
structure Pl3 where
 i : Nat
 ts : List Nat
 c : Nat
 aft : List Nat
 dst : Option Nat
def cp (ops : List Oper) (x : It3) : Pl3 := ⟨x.i, x.ts, x.c, cv ops x.i, dV ops x.i⟩
def cX (a b : Pl3) : Bool := !Nat.beq a.i b.i && (memN a.i b.aft || (!inO a.dst b.ts && !inO b.dst a.ts && !eqO a.dst b.dst))
def oi (m : Pl3) (l : List Pl3) : Bool := match m.c with
 | 0 => true
 | 1 => l.all fun q => Nat.ble q.c 1 || (memN m.i q.aft || q.aft.any fun r => l.any fun p => Nat.beq r p.i && memN m.i p.aft)
 | _ => l.all fun q => memN m.i q.aft || q.aft.any fun r => l.any fun p => Nat.beq r p.i
def du : List Pl3 -> Bool
 | [] => true
 | a :: l => l.all (cX a) && oi a l && du l
def CB (ops : List Oper) (its : List It3) : Bool :=
 let pls := its.map (cp ops)
 du pls && pls.all (fun p => p.aft.all (Nat.blt · p.i)) && (List.range ops.length).all (fun i => its.any fun x => Nat.beq i x.i) && its.all fun x => Nat.blt x.i ops.length
theorem iG : ∀ {l1 : List Pl3} {b : Pl3} {l2 : List Pl3}, du (l1 ++ b :: l2) = true -> (∀ a ∈ l1, a.c <= 1) -> (∀ a ∈ l1, a.i ∉ b.aft) -> du (l1 ++ l2) = true
 | [], b, l2, h, _, _ => by simp only [List.nil_append, du, Bool.and_eq_true] at h; exact h.2
 | a :: l1, b, l2, h, hf, hn => by
   simp only [List.cons_append, du, Bool.and_eq_true, List.all_eq_true] at h ⊢
   have hsub : ∀ x ∈ l1 ++ l2, x ∈ l1 ++ b :: l2 := fun x hx => by rcases List.mem_append.1 hx with hx | hx <;> simp [hx]
   refine ⟨⟨fun x hx => h.1.1 x (hsub x hx), ?_⟩, iG h.2 (fun x hx => hf x (by simp [hx])) (fun x hx => hn x (by simp [hx]))⟩
   have h1 := h.1.2
   have hc := hf a (by simp)
   unfold oi at h1 ⊢
   match e : a.c, hc with
   | 0, _ => rfl
   | 1, _ =>
     rw [e] at h1
     simp only [List.all_eq_true, Bool.or_eq_true, List.any_eq_true, Bool.and_eq_true] at h1 ⊢
     intro x hx
     rcases h1 x (hsub x hx) with q | q | ⟨r, hr, p, hp, q1, q2⟩
     · exact .inl q
     · exact .inr (.inl q)
     · refine .inr (.inr ⟨r, hr, p, ?_, q1, q2⟩)
       rcases List.mem_append.1 hp with hp | hp
       · exact List.mem_append_left _ hp
       · rcases List.mem_cons.1 hp with rfl | hp
         · exact absurd (dC.1 q2) (hn a (by simp))
         · exact List.mem_append_right _ hp
theorem fJ : ∀ {l1 : List Pl3} {b : Pl3} {l2 : List Pl3}, du (l1 ++ b :: l2) = true -> ∀ a ∈ l1, cX a b = true
 | [], _, _, _, a, ha => by cases ha
 | a :: l1, b, l2, h, x, hx => by
   simp only [List.cons_append, du, Bool.and_eq_true, List.all_eq_true] at h
   rcases List.mem_cons.1 hx with rfl | hx
   · exact h.1.1 b (by simp)
   · exact fJ h.2 x hx
theorem l3 : ∀ {l1 : List Pl3} {b : Pl3} {l2 : List Pl3}, du (l1 ++ b :: l2) = true -> ∀ (x y : List Pl3) (a : Pl3), l1 = x ++ a :: y -> oi a (y ++ b :: l2) = true
 | [], _, _, _, x, y, a, e => by simp at e
 | c :: l1, b, l2, h, [], y, a, e => by
   simp only [List.nil_append, List.cons.injEq] at e; obtain ⟨rfl, rfl⟩ := e
   simp only [List.cons_append, du, Bool.and_eq_true] at h
   exact h.1.2
 | c :: l1, b, l2, h, d :: x, y, a, e => by
   simp only [List.cons_append, List.cons.injEq] at e
   simp only [List.cons_append, du, Bool.and_eq_true] at h
   exact l3 h.2 x y a e.2
theorem zF {C : Cx} {ops : Array Oper} {k : Env -> List SP -> Prop} {its its' : List It3} (h : ∀ E L, JX C ops k its E L -> JX C ops k its' E L) : ∀ {a : It3} {E : Env} {L : List SP}, JX C ops k (a :: its) E L -> JX C ops k (a :: its') E L
 | ⟨i, ts, 0⟩, _, _, ⟨o, A, h1, h2, h3, h4⟩ => ⟨o, A, h1, h2, h3, h _ _ h4⟩
 | ⟨i, ts, 1⟩, _, _, ⟨o, A, h1, h2, h3, h4⟩ => ⟨o, A, h1, h2, h3, h _ _ h4⟩
 | ⟨i, ts, _ + 2⟩, _, _, ⟨o, h1, h2, X, A, L', h3, h4, h5⟩ => ⟨o, h1, h2, X, A, L', h3, h4, fun x => h _ _ (h5 x)⟩
theorem jH {ops : Array Oper} {a b : It3} (hp : cX (cp ops.toList a) (cp ops.toList b) = true) (hn : a.i ∉ cv ops.toList b.i) {oa ob : Oper} (ha : ops[a.i]? = some oa) (hb : ops[b.i]? = some ob) :
  inO oa.dst b.ts = false /\ inO ob.dst a.ts = false /\ eqO oa.dst ob.dst = false := by
 have hda : dV ops.toList a.i = oa.dst := by simp [dV, ha]
 have hdb : dV ops.toList b.i = ob.dst := by simp [dV, hb]
 simp only [cX, cp, hda, hdb, Bool.and_eq_true, Bool.or_eq_true, Bool.not_eq_true', dC] at hp
 rcases hp.2 with q | q
 · exact absurd q hn
 · exact ⟨q.1.1, q.1.2, q.2⟩
section
variable {C : Cx} {ops : Array Oper} {k : Env -> List SP -> Prop} {ia ib : Nat} {ta tb : List Nat} {its : List It3} {E : Env} {L : List SP}
theorem u0 (hp : ∀ ca cb, cX (cp ops.toList ⟨ia, ta, ca⟩) (cp ops.toList ⟨ib, tb, cb⟩) = true) (hn : ia ∉ cv ops.toList ib) (h : JX C ops k (⟨ia, ta, 0⟩ :: ⟨ib, tb, 0⟩ :: its) E L) : JX C ops k (⟨ib, tb, 0⟩ :: ⟨ia, ta, 0⟩ :: its) E L := by
 obtain ⟨oa, A, ha, hla, hsa, ob, B, hb, hlb, hsb, hk⟩ := h
 obtain ⟨p1, p2, p3⟩ := jH (a := ⟨ia, ta, 0⟩) (b := ⟨ib, tb, 0⟩) (hp 0 0) hn ha hb
 refine ⟨ob, B, hb, hlb, fun L => (hsb L).same (bP p1), oa, A, ha, hla, fun L => (hsa L).same (bP p2).symm, ?_⟩
 rw [dI p3] at hk
 exact hk
theorem u4 (hp : ∀ ca cb, cX (cp ops.toList ⟨ia, ta, ca⟩) (cp ops.toList ⟨ib, tb, cb⟩) = true) (hn : ia ∉ cv ops.toList ib) (h : JX C ops k (⟨ia, ta, 0⟩ :: ⟨ib, tb, 1⟩ :: its) E L) : JX C ops k (⟨ib, tb, 1⟩ :: ⟨ia, ta, 0⟩ :: its) E L := by
 obtain ⟨oa, A, ha, hla, hsa, ob, B, hb, hlb, hsb, hk⟩ := h
 obtain ⟨p1, p2, p3⟩ := jH (a := ⟨ia, ta, 0⟩) (b := ⟨ib, tb, 1⟩) (hp 0 1) hn ha hb
 refine ⟨ob, B, hb, hlb, hsb.same (bP p1), oa, A, ha, hla, fun L => (hsa L).same (bP p2).symm, ?_⟩
 rw [dI p3] at hk
 exact hk
theorem u5 {c : Nat} (hp : ∀ ca cb, cX (cp ops.toList ⟨ia, ta, ca⟩) (cp ops.toList ⟨ib, tb, cb⟩) = true) (hn : ia ∉ cv ops.toList ib) (h : JX C ops k (⟨ia, ta, 0⟩ :: ⟨ib, tb, c + 2⟩ :: its) E L) : JX C ops k (⟨ib, tb, c + 2⟩ :: ⟨ia, ta, 0⟩ :: its) E L := by
 obtain ⟨oa, A, ha, hla, hsa, ob, hb, hlb, X, B, L', hgb, hsb, hk⟩ := h
 obtain ⟨p1, p2, p3⟩ := jH (a := ⟨ia, ta, 0⟩) (b := ⟨ib, tb, c + 2⟩) (hp 0 (c + 2)) hn ha hb
 rw [bP p1] at hsb hgb
 refine ⟨ob, hb, hlb, X, B, L', hgb, hsb, fun x => ⟨oa, A, ha, hla, fun L => (hsa L).same (bP p2).symm, ?_⟩⟩
 have := hk x
 rw [dI p3] at this
 exact this
theorem u6 (hp : ∀ ca cb, cX (cp ops.toList ⟨ia, ta, ca⟩) (cp ops.toList ⟨ib, tb, cb⟩) = true) (hn : ia ∉ cv ops.toList ib) (h : JX C ops k (⟨ia, ta, 1⟩ :: ⟨ib, tb, 0⟩ :: its) E L) : JX C ops k (⟨ib, tb, 0⟩ :: ⟨ia, ta, 1⟩ :: its) E L := by
 obtain ⟨oa, A, ha, hla, hsa, ob, B, hb, hlb, hsb, hk⟩ := h
 obtain ⟨p1, p2, p3⟩ := jH (a := ⟨ia, ta, 1⟩) (b := ⟨ib, tb, 0⟩) (hp 1 0) hn ha hb
 refine ⟨ob, B, hb, hlb, fun L => (hsb L).same (bP p1), oa, A, ha, hla, hsa.same (bP p2).symm, ?_⟩
 rw [dI p3] at hk
 exact hk
theorem u7 (hp : ∀ ca cb, cX (cp ops.toList ⟨ia, ta, ca⟩) (cp ops.toList ⟨ib, tb, cb⟩) = true) (hn : ia ∉ cv ops.toList ib) (h : JX C ops k (⟨ia, ta, 1⟩ :: ⟨ib, tb, 1⟩ :: its) E L) : JX C ops k (⟨ib, tb, 1⟩ :: ⟨ia, ta, 1⟩ :: its) E L := by
 obtain ⟨oa, A, ha, hla, hsa, ob, B, hb, hlb, hsb, hk⟩ := h
 obtain ⟨p1, p2, p3⟩ := jH (a := ⟨ia, ta, 1⟩) (b := ⟨ib, tb, 1⟩) (hp 1 1) hn ha hb
 refine ⟨ob, B, hb, hlb, hsb.same (bP p1), oa, A, ha, hla, hsa.same (bP p2).symm, ?_⟩
 rw [dI p3] at hk
 exact hk
end
theorem zH {C : Cx} {ops : Array Oper} {k : Env -> List SP -> Prop} {a b : It3} {its : List It3} {E : Env} {L : List SP} (hf : a.c = 0 \/ (a.c = 1 /\ b.c <= 1)) (hp : cX (cp ops.toList a) (cp ops.toList b) = true) (hn : a.i ∉ cv ops.toList b.i)
  (h : JX C ops k (a :: b :: its) E L) : JX C ops k (b :: a :: its) E L := by
 obtain ⟨ia, ta, ca⟩ := a
 obtain ⟨ib, tb, cb⟩ := b
 have hp' : ∀ ca cb, cX (cp ops.toList ⟨ia, ta, ca⟩) (cp ops.toList ⟨ib, tb, cb⟩) = true := fun _ _ => hp
 rcases hf with h0 | ⟨h1, hb1⟩
 · have h0 : ca = 0 := h0
   subst h0
   rcases cb with _ | _ | c
   · exact u0 hp' hn h
   · exact u4 hp' hn h
   · exact u5 hp' hn h
 · have h1 : ca = 1 := h1
   have hb1 : cb <= 1 := hb1
   subst h1
   rcases cb with _ | _ | c
   · exact u6 hp' hn h
   · exact u7 hp' hn h
   · omega
theorem zI {C : Cx} {ops : Array Oper} {k : Env -> List SP -> Prop} {b : It3} {l2 : List It3} : ∀ {l1 : List It3} {E : Env} {L : List SP}, (∀ a ∈ l1, a.c = 0 \/ (a.c = 1 /\ b.c <= 1)) ->
  (∀ a ∈ l1, cX (cp ops.toList a) (cp ops.toList b) = true) -> (∀ a ∈ l1, a.i ∉ cv ops.toList b.i) -> JX C ops k (l1 ++ b :: l2) E L -> JX C ops k (b :: (l1 ++ l2)) E L := by
 intro l1
 induction l1 with
 | nil => intro E L _ _ _ h; exact h
 | cons a l1 ih =>
   intro E L hf hp hn h
   refine zH (hf a (by simp)) (hp a (by simp)) (hn a (by simp)) ?_
   exact zF (fun E L hk => ih (fun a m => hf a (by simp [m])) (fun a m => hp a (by simp [m])) (fun a m => hn a (by simp [m])) hk) h
theorem oj {C : Cx} {ops : Array Oper} {Q : Exit -> Act -> World -> Prop} : ∀ (fuel : Nat) (its : List It3) (listed : Array Bool) (E : Env) (L : List SP), its.length <= fuel -> listed.size = ops.size ->
  (∀ i, i < ops.size -> (listed.getD i true = false ↔ ∃ x ∈ its, x.i = i)) -> du (its.map (cp ops.toList)) = true -> (∀ x ∈ its, x.i < ops.size /\ ∀ e ∈ cv ops.toList x.i, e < x.i) ->
  JX C ops (fun E' L' => K C (Q .normal) E' L') its E L -> K C (fun a w => wpAnyIn (Fw C.ro) 0 C.P .any ops Q fuel listed a w) E L := by
 intro fuel
 induction fuel with
 | zero =>
   intro its listed E L hlen hsz hin _ _ hJ
   have : its = [] := List.length_eq_zero_iff.1 (by omega)
   subst this
   intro a w p
   refine ⟨?_, hJ a w p⟩
   rw [List.eq_nil_iff_forall_not_mem]
   intro i hi
   obtain ⟨h1, h2, _⟩ := dt.1 hi
   obtain ⟨x, hx, _⟩ := (hin i h1).1 h2
   cases hx
 | succ fuel ih =>
   intro its listed E L hlen hsz hin hok hlt hJ
   have hdone : Region.ready .any ops listed = [] -> its = [] := by
    intro hr
    have hall : ∀ i, i < ops.size -> listed.getD i true = true := by
     intro i
     induction i using Nat.strongRecOn with
     | _ i ihi =>
       intro hi
       cases hl : listed.getD i true with
       | true => rfl
       | false =>
         have ho : ops[i]? = some ops[i] := Array.getElem?_eq_getElem hi
         obtain ⟨x, hx, hxi⟩ := (hin i hi).1 hl
         have h1 := (hlt x hx).2
         rw [hxi] at h1
         have hm : i ∈ Region.ready .any ops listed := dt.2 ⟨hi, hl, _, ho, fun e he => by
          have he' : e < i := h1 e (by simpa [cv, hi] using he)
          rw [eQ (by omega) false true]
          exact ihi e he' (by omega)⟩
         rw [hr] at hm; cases hm
    match its with
    | [] => rfl
    | x :: _ =>
      have h1 := (hlt x (by simp)).1
      have := (hin x.i h1).2 ⟨x, by simp, rfl⟩
      rw [hall x.i h1] at this; cases this
   intro a w p
   refine ⟨fun hr => ?_, fun i hi => ?_⟩
   · have := hdone hr
     subst this
     exact hJ a w p
   · obtain ⟨hlti, hnl, o, ho, haft⟩ := dt.1 hi
     obtain ⟨b, hb, hbi⟩ := (hin i hlti).1 hnl
     obtain ⟨l1, l2, rfl⟩ := List.append_of_mem hb
     have hoi : ops.toList[b.i]? = some o := by rw [hbi]; simpa using ho
     have haft' : cv ops.toList b.i = aftN o := by simp only [cv, hoi]
     have hleft : ∀ x ∈ l1 ++ b :: l2, x.i ∉ cv ops.toList b.i := fun x hx hm => by
      rw [haft'] at hm
      have h1 := haft _ hm
      have h2 := (hlt x hx).1
      have h3 := (hin x.i h2).2 ⟨x, hx, rfl⟩
      rw [eQ (by omega) true false, h1] at h3; cases h3
     rw [List.map_append, List.map_cons] at hok
     have hpair : ∀ a ∈ l1, cX (cp ops.toList a) (cp ops.toList b) = true := fun a ha => fJ hok _ (List.mem_map_of_mem ha)
     have hfree : ∀ a ∈ l1, a.c = 0 \/ (a.c = 1 /\ b.c <= 1) := fun x hx => by
      obtain ⟨y, z, rfl⟩ := List.append_of_mem hx
      have ht := l3 hok (y.map (cp ops.toList)) (z.map (cp ops.toList)) (cp ops.toList x) (by simp)
      unfold oi at ht
      have hxc : (cp ops.toList x).c = x.c := rfl
      rw [hxc] at ht
      match e : x.c with
      | 0 => exact .inl rfl
      | 1 =>
        right
        rw [e] at ht
        simp only [List.all_eq_true, Bool.or_eq_true, List.any_eq_true, Bool.and_eq_true] at ht
        refine ⟨rfl, ?_⟩
        rcases ht (cp ops.toList b) (by simp) with q | q | ⟨r, hr, p, hp, hq, _⟩
        · exact Nat.le_of_ble_eq_true q
        · exact absurd (dC.1 q) (hleft x (by simp))
        · exfalso
          have hrp := Nat.eq_of_beq_eq_true hq
          have hp' : ∃ u ∈ z ++ b :: l2, cp ops.toList u = p := by
           rcases List.mem_append.1 hp with hp | hp
           · obtain ⟨u, hu, e⟩ := List.mem_map.1 hp
             exact ⟨u, by simp [hu], e⟩
           · rcases List.mem_cons.1 hp with hp | hp
             · exact ⟨b, by simp, hp.symm⟩
             · obtain ⟨u, hu, e⟩ := List.mem_map.1 hp
               exact ⟨u, by simp [hu], e⟩
          obtain ⟨u, hu, e⟩ := hp'
          have : u.i ∉ cv ops.toList b.i := hleft u (by
           rcases List.mem_append.1 hu with hu | hu
           · simp [hu]
           · simp only [List.mem_append]; exact .inr hu)
          rw [<- e] at hrp
          have hr' : r ∈ cv ops.toList b.i := hr
          rw [hrp] at hr'
          exact absurd hr' this
      | c + 2 =>
        exfalso
        rw [e] at ht
        simp only [Bool.or_eq_true, List.all_eq_true, List.any_eq_true] at ht
        rcases ht (cp ops.toList b) (by simp) with q | ⟨r, hr, p, hp, hq⟩
        · exact absurd (dC.1 q) (hleft x (by simp))
        · have hrp := Nat.eq_of_beq_eq_true hq
          have hp' : ∃ u ∈ z ++ b :: l2, cp ops.toList u = p := by
           rcases List.mem_append.1 hp with hp | hp
           · obtain ⟨u, hu, e⟩ := List.mem_map.1 hp
             exact ⟨u, by simp [hu], e⟩
           · rcases List.mem_cons.1 hp with hp | hp
             · exact ⟨b, by simp, hp.symm⟩
             · obtain ⟨u, hu, e⟩ := List.mem_map.1 hp
               exact ⟨u, by simp [hu], e⟩
          obtain ⟨u, hu, e⟩ := hp'
          have : u.i ∉ cv ops.toList b.i := hleft u (by
           rcases List.mem_append.1 hu with hu | hu
           · simp [hu]
           · simp only [List.mem_append]; exact .inr hu)
          rw [<- e] at hrp
          have hr' : r ∈ cv ops.toList b.i := hr
          rw [hrp] at hr'
          exact absurd hr' this
     have hJ' := zI hfree hpair (fun a ha => hleft a (by simp [ha])) hJ
     have hsub : ∀ x ∈ l1 ++ l2, x ∈ l1 ++ b :: l2 := fun x hx => by
      rcases List.mem_append.1 hx with hx | hx <;> simp [hx]
     have hpairs : ∀ x ∈ l1 ++ l2, x.i ≠ b.i := fun x hx => by
      rcases List.mem_append.1 hx with hx | hx
      · have := hpair x hx
        simp only [cX, cp, Bool.and_eq_true, Bool.not_eq_true'] at this
        intro e; rw [e] at this; simp at this
      · have h2 : ∀ {l1 : List Pl3} {b : Pl3} {l2 : List Pl3}, du (l1 ++ b :: l2) = true -> du (b :: l2) = true := by
          intro l1
          induction l1 with
          | nil => intro b l2 h; exact h
          | cons c l1 ih => intro b l2 h; simp only [List.cons_append, du, Bool.and_eq_true] at h; exact ih h.2
        have := h2 hok
        simp only [du, Bool.and_eq_true, List.all_eq_true] at this
        have := this.1.1 _ (List.mem_map_of_mem hx)
        simp only [cX, cp, Bool.and_eq_true, Bool.not_eq_true'] at this
        intro e; rw [e] at this; simp at this
     have rest : ∀ E' L', JX C ops (fun E' L' => K C (Q .normal) E' L') (l1 ++ l2) E' L' -> K C (fun a w => wpAnyIn (Fw C.ro) 0 C.P .any ops Q fuel (listed.setIfInBounds i true) a w) E' L' := by
      intro E' L' hk
      refine ih (l1 ++ l2) _ E' L' (by simp only [List.length_append, List.length_cons] at hlen ⊢; omega) (by simpa using hsz) (fun j hj => ?_) (by
       rw [List.map_append]
       exact iG hok (fun x hx => (List.mem_map.1 hx).elim fun y hy => hy.2 ▸ (by rcases hfree y hy.1 with q | ⟨q, _⟩ <;> (show y.c <= 1) <;> omega)) (fun x hx => (List.mem_map.1 hx).elim fun y hy => hy.2 ▸ hleft y (by simp [hy.1]))) (fun x hx => hlt x (hsub x hx)) hk
      by_cases hji : i = j
      · subst hji
        rw [de (by omega)]
        constructor
        · intro h; cases h
        · rintro ⟨x, hx, e⟩
          exact absurd (e.trans hbi.symm) (hpairs x hx)
      · rw [dS hji, hin j hj]
        constructor
        · rintro ⟨x, hx, e⟩
          refine ⟨x, ?_, e⟩
          rcases List.mem_append.1 hx with hx | hx
          · simp [hx]
          · rcases List.mem_cons.1 hx with rfl | hx
            · exact absurd (hbi.symm.trans e) hji
            · simp [hx]
        · rintro ⟨x, hx, e⟩
          exact ⟨x, hsub x hx, e⟩
     obtain ⟨bi, tb, cb⟩ := b
     simp only at hbi hoi
     subst hbi
     have ho' : ops[bi]? = some o := ho
     match cb, hJ' with
     | 0, hJ' =>
       obtain ⟨o', A, ho2, hl, hs, hk⟩ := hJ'
       rw [ho'] at ho2; cases ho2
       exact (hs L).op ho' hl (rest _ _ hk) a w p
     | 1, hJ' =>
       obtain ⟨o', A, ho2, hl, hs, hk⟩ := hJ'
       rw [ho'] at ho2; cases ho2
       exact hs.op ho' hl (rest _ _ hk) a w p
     | c + 2, hJ' =>
       obtain ⟨o', ho2, hl, X, A, L', hg, hs, hk⟩ := hJ'
       rw [ho'] at ho2; cases ho2
       obtain ⟨n, ds, h, m, l, sp, st, fr⟩ := p
       have hwt : Region.wanted o (yielded ops a.tmps) = true := hg.run (fr.sub eS)
       unfold wpOpIn
       simp only [ho']
       rw [if_pos hwt]
       exact hs a w h m n l sp st (fr.sub eS) _ Q fun x v w' h' m' l' sp' st' hv =>
        rest _ _ (hk x) _ _ ⟨by rw [iA]; exact n, by rw [fB]; exact ds, h', m', HL.trans l l', sp', st', (fr.mono l'.1).putO (by rw [n]; exact hl) hv⟩
theorem cl {C : Cx} {id : Nat} {ops : Array Oper} (its : List It3) {Q : Exit -> Act -> World -> Prop} {E : Env} {L : List SP} (hmix : C.P.follows .mixedOrders = true) (hok : CB ops.toList its = true)
  (hJ : JX C ops (fun E' L' => K C (Q .normal) E' L') its E L) : J C (.region id ops true) Q E L := fun a w p => by
 refine wpIn_region_draw (fun t => ?_)
 simp only [Region.schedule, hmix, Bool.true_or, if_true]
 refine wpAnyIn_sound ops.size t _ a _ ?_
 simp only [CB, Bool.and_eq_true, List.all_eq_true, List.any_eq_true] at hok
 obtain ⟨⟨⟨h1, h2⟩, h3⟩, h4⟩ := hok
 have h5 : ∀ x ∈ its, x.i < ops.size := fun x hx => by have := h4 x hx; simpa using this
 have hnd : (its.map (·.i)).Nodup := by
  have : ∀ {l : List It3}, du (l.map (cp ops.toList)) = true -> (l.map (·.i)).Nodup := by
   intro l
   induction l with
   | nil => intro _; simp
   | cons x l ih =>
     intro h
     simp only [List.map_cons, du, Bool.and_eq_true, List.all_eq_true] at h
     simp only [List.map_cons, List.nodup_cons]
     refine ⟨fun hm => ?_, ih h.2⟩
     obtain ⟨y, hy, e⟩ := List.mem_map.1 hm
     have := h.1.1 _ (List.mem_map_of_mem hy)
     simp only [cX, cp, Bool.and_eq_true, Bool.not_eq_true'] at this
     rw [e] at this; simp at this
  exact this h1
 have hlen : its.length <= ops.size := by
  have := nT hnd (n := ops.size) (fun i hi => by
   obtain ⟨x, hx, rfl⟩ := List.mem_map.1 hi
   exact h5 x hx)
  simpa using this
 refine oj ops.size its _ E L hlen (by simp) (fun i hi => ?_) h1 (fun x hx => ⟨h5 x hx, fun e he => ?_⟩) hJ a _ ?_
 · constructor
   · intro _
     obtain ⟨x, hx, e⟩ := h3 i (by simpa using hi)
     exact ⟨x, hx, (Nat.eq_of_beq_eq_true e).symm⟩
   · intro _; simp [Array.getD_eq_getD_getElem?, hi]
 · have := h2 _ (List.mem_map_of_mem hx) e he
   simpa [cp] using this
 · obtain ⟨hsz, hds, h, m, hl, sp, st, fr⟩ := p
   exact ⟨hsz, hds, h, m, hl.trans (HL.same (Same.drew _)), ⟨(by first | exact Sep.inv (by assumption) | exact Inv.mono (Dy _ _) (Sep.inv (by assumption))), sp.hm, sp.hr, sp.mr, sp.hw, sp.mw, sp.rw⟩, st, fr⟩
section
variable {C : Cx} {ops : Array Oper} {k : Env -> List SP -> Prop} {its : List It3} {E : Env} {L : List SP} {i d ty : Nat} {ts : List Nat} {op : Op} {pos : String} {af : Array Edge}
theorem ZX {A : Ty} (ho : ops.toList[i]? = some ⟨some d, op, ty, pos, af, none⟩) (hs : ∀ {L}, bs C ⟨some d, op, ty, pos, af, none⟩ (cQ ts E) L A) (hk : JX C ops k its (upd E d A) L) (hN : Nat.blt d C.N = true := by rfl) : JX C ops k (⟨i, ts, 0⟩ :: its) E L := am ho rfl rfl hN (fun _ => hs) hk
end
def vc (k : Env -> List SP -> Prop) : Prop := ∀ E L L', L.Perm L' -> k E L -> k E L'
theorem sz {E : Env} {d e : Nat} {A B : Ty} (h : d ≠ e) : upd (upd E d A) e B = upd (upd E e B) d A := by
 have := dI (E := E) (d := some d) (e := some e) (A := A) (B := B) (g7 h)
 simpa [ll] using this
theorem pO {ts : List Nat} {E : Env} {d : Nat} {A : Ty} (h : memN d ts = false) : cQ ts (upd E d A) = cQ ts E := by
 have := bP (ts := ts) (E := E) (d := some d) (A := A) (by simpa [inO] using h)
 simpa [ll] using this
section
variable {C : Cx} {ops : Array Oper} {k : Env -> List SP -> Prop}
end
theorem DU {L L' : List SP} (p : L.Perm L') : LSub L L' := by
 induction p with
 | nil => exact LSub.rfl
 | cons x _ ih => exact LSub.head ih
 | swap x y l => exact LSub.swap
 | trans _ _ h1 h2 => exact LSub.trans h1 h2
structure Al2 where
 i : Nat
 ts : List Nat
 d : Nat
 I : SP
 A : Value -> Ty
 M : Value -> SP
def AlOk2 (C : Cx) (ops : Array Oper) (E : Env) (a : Al2) : Prop := ∃ o, ops[a.i]? = some o /\ o.dst = some a.d /\ Nat.blt a.d C.N = true /\ o.guard = none /\ ∀ L, Step (X := Value) C o (cQ a.ts E) (a.I :: L) a.A (fun v => a.M v :: L)
def Als2 (C : Cx) (ops : Array Oper) (k : Env -> List SP -> Prop) : List Al2 -> Env -> List SP -> Prop
 | [], E, L => k E L
 | a :: als, E, L => AlOk2 C ops E a /\ ∀ v, Als2 C ops k als (upd E a.d (a.A v)) (a.M v :: L)
def l5 (a b : Al2) : Bool := !Nat.beq a.i b.i && !memN a.d b.ts && !memN b.d a.ts && !Nat.beq a.d b.d
def jI : List Al2 -> Bool
 | [] => true
 | a :: l => l.all (l5 a) && jI l
def C7 (F : List SP) : Nat -> List SP
 | 0 => []
 | _ + 1 => F
def JF (C : Cx) (ops : Array Oper) (F : List SP) (k : Env -> List SP -> Prop) : List It3 -> Env -> List SP -> Prop
 | [], E, L => k E L
 | x :: its, E, L => ∃ o A, ops[x.i]? = some o /\ ltO o.dst C.N = true /\ (∀ L, StepG C ops o (cQ x.ts E) (C7 F x.c ++ L) A) /\ JF C ops F k its (ll E o.dst A) L
section
variable {C : Cx} {ops : Array Oper} {F : List SP} {k : Env -> List SP -> Prop} {its : List It3} {E : Env} {L : List SP} {i : Nat} {ts : List Nat} {o : Oper}
theorem nE (h : k E L) : JF C ops F k [] E L := h
theorem bN {A : Ty} {d : Nat} (ho : ops.toList[i]? = some o) (hg : o.guard = none) (hd : o.dst = some d) (hN : Nat.blt d C.N = true) (hs : ∀ L, bs C o (cQ ts E) L A)
  (hk : JF C ops F k its (upd E d A) L) : JF C ops F k (⟨i, ts, 0⟩ :: its) E L :=
 ⟨o, A, by simpa using ho, by rw [hd]; exact hN, fun L => .inl ⟨hg, hs L⟩, by rw [hd]; exact hk⟩
theorem kx {A : Ty} {d : Nat} (ho : ops.toList[i]? = some o) (hg : o.guard = none) (hd : o.dst = some d) (hN : Nat.blt d C.N = true) (hs : ∀ L, bs C o (cQ ts E) (F ++ L) A)
  (hk : JF C ops F k its (upd E d A) L) : JF C ops F k (⟨i, ts, 1⟩ :: its) E L :=
 ⟨o, A, by simpa using ho, by rw [hd]; exact hN, fun L => .inl ⟨hg, hs L⟩, by rw [hd]; exact hk⟩
end
section
variable {C : Cx} {ops : Array Oper} {F : List SP} {k : Env -> List SP -> Prop}
theorem AlOk2.same {E : Env} {a : Al2} {d : Nat} {A : Ty} (h : memN d a.ts = false) : AlOk2 C ops (upd E d A) a ↔ AlOk2 C ops E a := by
 unfold AlOk2; rw [pO h]
theorem Ei (hk : vc k) : ∀ {als : List Al2} {E : Env} {L L' : List SP}, L.Perm L' -> Als2 C ops k als E L -> Als2 C ops k als E L'
 | [], _, _, _, p, h => hk _ _ _ p h
 | a :: als, E, L, L', p, ⟨h1, h2⟩ => ⟨h1, fun v => Ei hk (List.Perm.cons _ p) (h2 v)⟩
theorem Ej (hk : vc k) : ∀ {l1 : List Al2} {b : Al2} {l2 : List Al2} {E : Env} {L : List SP}, (∀ a ∈ l1, l5 a b = true) -> Als2 C ops k (l1 ++ b :: l2) E L -> Als2 C ops k (b :: (l1 ++ l2)) E L
 | [], _, _, _, _, _, h => h
 | a :: l1, b, l2, E, L, hp, ⟨h1, h2⟩ => by
   have hab := hp a (by simp)
   simp only [l5, Bool.and_eq_true, Bool.not_eq_true'] at hab
   obtain ⟨⟨⟨p1, p2⟩, p3⟩, p4⟩ := hab
   have p4 : a.d ≠ b.d := fun e => by rw [e] at p4; simp at p4
   have ih := fun v => Ej hk (fun x hx => hp x (by simp [hx])) (h2 v)
   refine ⟨(AlOk2.same p2).1 (ih default).1, fun v => ⟨(AlOk2.same p3).2 h1, fun u => ?_⟩⟩
   have := (ih u).2 v
   rw [sz p4] at this
   exact Ei hk (List.Perm.swap _ _ _) this
theorem sA (hk : vc k) : ∀ {its : List It3}, vc (JF C ops F k its)
 | [] => hk
 | x :: its => by
   rintro E L L' p ⟨o, A, h1, h2, h3, h4⟩
   exact ⟨o, A, h1, h2, h3, sA hk _ _ _ p h4⟩
theorem pP {k' : Env -> List SP -> Prop} {b : Al2} : ∀ {its : List It3} {E : Env} {L : List SP}, (∀ x ∈ its, memN b.d x.ts = false /\ inO (dV ops.toList x.i) b.ts = false /\ eqO (some b.d) (dV ops.toList x.i) = false) ->
  (∀ E L, k E L -> AlOk2 C ops E b /\ ∀ v, k' (upd E b.d (b.A v)) (b.M v :: L)) -> JF C ops F k its E L -> AlOk2 C ops E b /\ ∀ v, JF C ops F k' its (upd E b.d (b.A v)) (b.M v :: L)
 | [], E, L, _, hk, h => hk E L h
 | x :: its, E, L, hp, hk, h => by
   obtain ⟨o, A, h1, h2, h3, h4⟩ := h
   obtain ⟨p1, p2, p3⟩ := hp x (by simp)
   have hd : dV ops.toList x.i = o.dst := by simp [dV, h1]
   simp only [hd] at p2 p3
   obtain ⟨g1, g2⟩ := pP (fun x hx => hp x (by simp [hx])) hk h4
   refine ⟨?_, fun v => ⟨o, A, h1, h2, fun L => ?_, ?_⟩⟩
   · obtain ⟨ob, q1, q2, q3, q4, q5⟩ := g1
     rw [bP p2] at q5
     exact ⟨ob, q1, q2, q3, q4, q5⟩
   · rw [pO p1]; exact h3 L
   · have := g2 v
     have e : upd (ll E o.dst A) b.d (b.A v) = ll (upd E b.d (b.A v)) o.dst A := by
      have := dI (E := E) (d := some b.d) (e := o.dst) (A := b.A v) (B := A) p3
      simpa [ll] using this.symm
     rw [e] at this
     exact this
theorem ru : ∀ {l1 : List It3} {b : It3} {l2 : List It3} {E : Env} {L : List SP},
  (∀ a ∈ l1, cX (cp ops.toList a) (cp ops.toList b) = true) -> (∀ a ∈ l1, a.i ∉ cv ops.toList b.i) -> JF C ops F k (l1 ++ b :: l2) E L -> JF C ops F k (b :: (l1 ++ l2)) E L
 | [], _, _, _, _, _, _, h => h
 | xa :: l1, xb, l2, E, L, hp, hn, h => by
   obtain ⟨oa, A, ha, hla, hsa, hk⟩ := h
   have ih := ru (fun a m => hp a (by simp [m])) (fun a m => hn a (by simp [m])) hk
   have hpair := hp xa (by simp)
   have hna := hn xa (by simp)
   have hda : dV ops.toList xa.i = oa.dst := by simp [dV, ha]
   have hpair' : inO oa.dst xb.ts = false /\ inO (dV ops.toList xb.i) xa.ts = false /\ eqO oa.dst (dV ops.toList xb.i) = false := by
    simp only [cX, cp, hda, Bool.and_eq_true, Bool.or_eq_true, Bool.not_eq_true', dC] at hpair
    rcases hpair.2 with q | q
    · exact absurd q hna
    · exact ⟨q.1.1, q.1.2, q.2⟩
   obtain ⟨p1, p2, p3⟩ := hpair'
   obtain ⟨ob, B, hb, hlb, hsb, hkb⟩ := ih
   have hdb : dV ops.toList xb.i = ob.dst := by simp [dV, hb]
   rw [hdb] at p2 p3
   refine ⟨ob, B, hb, hlb, fun L => (hsb L).same (bP p1), oa, A, ha, hla, fun L => (hsa L).same (bP p2).symm, ?_⟩
   rw [dI p3] at hkb
   exact hkb
def upP (k : Env -> List SP -> Prop) : Env -> List SP -> Prop := fun E L => ∃ L0, L.Perm L0 /\ k E L0
theorem ol : vc (upP k) := fun E L L' p ⟨L0, q, h⟩ => ⟨L0, p.symm.trans q, h⟩
theorem yJ : ∀ {its : List It3} {E : Env} {L : List SP}, JF C ops F (upP k) its E L -> ∃ L0, L.Perm L0 /\ JF C ops F k its E L0
 | [], _, _, h => h
 | x :: its, E, L, ⟨o, A, h1, h2, h3, h4⟩ => by
   obtain ⟨L0, p, h5⟩ := yJ h4
   exact ⟨L0, p, o, A, h1, h2, h3, h5⟩
theorem zJ {tail : List It3} : ∀ {its : List It3} {E : Env} {L : List SP}, (∀ x ∈ its, x.c <= 1) -> JF C ops F (fun E L => JX C ops k tail E (F ++ L)) its E L -> JX C ops k (its ++ tail) E (F ++ L)
 | [], _, _, _, h => h
 | ⟨i, ts, 0⟩ :: its, E, L, hc, ⟨o, A, h1, h2, h3, h4⟩ => ⟨o, A, h1, h2, h3, zJ (fun x hx => hc x (by simp [hx])) h4⟩
 | ⟨i, ts, 1⟩ :: its, E, L, hc, ⟨o, A, h1, h2, h3, h4⟩ => ⟨o, A, h1, h2, h3 L, zJ (fun x hx => hc x (by simp [hx])) h4⟩
 | ⟨i, ts, c + 2⟩ :: its, E, L, hc, _ => by have := hc ⟨i, ts, c + 2⟩ (by simp); simp at this
end
def hZ (ops : List Oper) (frees tail : List It3) (a : Al2) : Bool :=
 (cv ops a.i).all (Nat.blt · a.i) && Nat.blt a.i ops.length &&
 (frees.all fun x => !memN a.d x.ts && (memN x.i (cv ops a.i) || !inO (dV ops x.i) a.ts) && !eqO (some a.d) (dV ops x.i) && !Nat.beq a.i x.i) &&
 (tail.all fun x => !Nat.beq a.i x.i && (memN a.i (cv ops x.i) || (cv ops x.i).any fun r => tail.any fun y => Nat.beq r y.i))
def okZ (ops : List Oper) (frees : List It3) (als : List Al2) (tail : List It3) : Bool :=
 let pls := (frees ++ tail).map (cp ops)
 du pls && (pls.all fun p => p.aft.all (Nat.blt · p.i)) && ((frees ++ tail).all fun x => Nat.blt x.i ops.length) && (frees.all fun x => Nat.ble x.c 1) &&
 (List.range ops.length).all (fun i => ((frees ++ tail).any fun x => Nat.beq i x.i) || als.any fun a => Nat.beq i a.i) &&
 jI als && als.all (hZ ops frees tail)
theorem l6 : ∀ {l1 l2 : List Pl3}, du (l1 ++ l2) = true -> du l2 = true
 | [], _, h => h
 | a :: l1, l2, h => by
   simp only [List.cons_append, du, Bool.and_eq_true] at h
   exact l6 h.2
theorem ve {ops : List Oper} {l1 l2 : List It3} {b : It3} (h : du ((l1 ++ b :: l2).map (cp ops)) = true) : ∀ x ∈ l1 ++ l2, x.i ≠ b.i := fun x hx e => by
 rw [List.map_append, List.map_cons] at h
 rcases List.mem_append.1 hx with hx | hx
 · have := fJ h (cp ops x) (List.mem_map_of_mem hx)
   simp only [cX, cp, Bool.and_eq_true, Bool.not_eq_true'] at this
   rw [e] at this; simp at this
 · have := l6 h
   simp only [du, Bool.and_eq_true, List.all_eq_true] at this
   have := this.1.1 _ (List.mem_map_of_mem hx)
   simp only [cX, cp, Bool.and_eq_true, Bool.not_eq_true'] at this
   rw [e] at this; simp at this
theorem ky {b : Al2} {l2 : List Al2} : ∀ {l1 : List Al2}, jI (l1 ++ b :: l2) = true -> jI (l1 ++ l2) = true /\ (∀ x ∈ l1 ++ l2, x.i ≠ b.i) /\ ∀ a ∈ l1, l5 a b = true
 | [], h => by
   simp only [List.nil_append, jI, Bool.and_eq_true, List.all_eq_true] at h
   refine ⟨h.2, fun x hx e => ?_, fun a ha => by cases ha⟩
   have := h.1 x hx
   simp only [l5, Bool.and_eq_true, Bool.not_eq_true'] at this
   rw [e] at this; simp at this
 | a :: l1, h => by
   simp only [List.cons_append, jI, Bool.and_eq_true, List.all_eq_true] at h ⊢
   obtain ⟨h1, h2, h3⟩ := ky h.2
   refine ⟨⟨fun x hx => h.1 x ?_, h1⟩, fun x hx e => ?_, fun x hx => ?_⟩
   · rcases List.mem_append.1 hx with hx | hx <;> simp [hx]
   · rcases List.mem_cons.1 hx with rfl | hx
     · have := h.1 b (by simp)
       simp only [l5, Bool.and_eq_true, Bool.not_eq_true'] at this
       rw [e] at this; simp at this
     · exact h2 x hx e
   · rcases List.mem_cons.1 hx with rfl | hx
     · exact h.1 b (by simp)
     · exact h3 x hx
theorem sB {C : Cx} {ops : Array Oper} {F : List SP} {Q : Exit -> Act -> World -> Prop} {tail : List It3} : ∀ (fuel : Nat) (frees : List It3) (als : List Al2) (listed : Array Bool) (E : Env) (L : List SP), frees.length + als.length + tail.length <= fuel -> listed.size = ops.size ->
  (∀ i, i < ops.size -> (listed.getD i true = false ↔ (∃ x ∈ frees ++ tail, x.i = i) \/ ∃ a ∈ als, a.i = i)) -> du ((frees ++ tail).map (cp ops.toList)) = true -> (∀ x ∈ frees ++ tail, x.i < ops.size /\ ∀ e ∈ cv ops.toList x.i, e < x.i) -> (∀ x ∈ frees, x.c <= 1) -> jI als = true -> (∀ a ∈ als, hZ ops.toList frees tail a = true) ->
  JF C ops F (Als2 C ops (upP fun E' L' => JX C ops (fun E' L' => K C (Q .normal) E' L') tail E' (F ++ L')) als) frees E L -> K C (fun a w => wpAnyIn (Fw C.ro) 0 C.P .any ops Q fuel listed a w) E (F ++ (als.map (·.I) ++ L)) := by
 intro fuel
 induction fuel with
 | zero =>
   intro frees als listed E L hlen hsz hin hok hlt hc hi hal hJ
   have h1 : frees = [] := List.length_eq_zero_iff.1 (by omega)
   have h2 : als = [] := List.length_eq_zero_iff.1 (by omega)
   have h3 : tail = [] := List.length_eq_zero_iff.1 (by omega)
   subst h1; subst h2; subst h3
   obtain ⟨L0, p, hJ⟩ := hJ
   exact bZ (DU (List.Perm.append_left F p)) (oj 0 [] listed E (F ++ L0) (by simp) hsz (fun i h => by rw [hin i h]; simp) rfl (fun x hx => by cases hx) hJ)
 | succ fuel ih =>
   intro frees als listed E L hlen hsz hin hok hlt hc hi hal hJ
   match als, hlen, hin, hi, hal, hJ with
   | [], hlen, hin, hi, hal, hJ =>
     obtain ⟨L0, p, hJ⟩ := yJ hJ
     exact bZ (DU (List.Perm.append_left F p)) (oj (fuel + 1) (frees ++ tail) listed E (F ++ L0) (by simp at hlen ⊢; omega) hsz (fun i h => by rw [hin i h]; simp) hok hlt (zJ hc hJ))
   | a0 :: als0, hlen, hin, hi, hal, hJ =>
     generalize hals : a0 :: als0 = als at *
     have ha0 : a0 ∈ als := by rw [<- hals]; simp
     have hall : ∀ a ∈ als, a.i < ops.size /\ ∀ e ∈ cv ops.toList a.i, e < a.i := fun a ha => by
      have := hal a ha
      simp only [hZ, Bool.and_eq_true, List.all_eq_true] at this
      exact ⟨by simpa using this.1.1.2, fun e he => by simpa using this.1.1.1 e he⟩
     intro a w p
     refine ⟨fun hr => ?_, fun i hii => ?_⟩
     · exfalso
       have hall2 : ∀ i, i < ops.size -> listed.getD i true = true := by
        intro i
        induction i using Nat.strongRecOn with
        | _ i ihi =>
          intro hilt
          cases hl : listed.getD i true with
          | true => rfl
          | false =>
            have ho : ops[i]? = some ops[i] := Array.getElem?_eq_getElem hilt
            have h1 : ∀ e ∈ cv ops.toList i, e < i := by
             rcases (hin i hilt).1 hl with ⟨x, hx, hxi⟩ | ⟨x, hx, hxi⟩
             · have := (hlt x hx).2; rwa [hxi] at this
             · have := (hall x hx).2; rwa [hxi] at this
            have hm : i ∈ Region.ready .any ops listed := dt.2 ⟨hilt, hl, _, ho, fun e he => by
             have he' : e < i := h1 e (by simpa [cv, hilt] using he)
             rw [eQ (by omega) false true]
             exact ihi e he' (by omega)⟩
            rw [hr] at hm; cases hm
       have h1 := (hall a0 ha0).1
       have := (hin a0.i h1).2 (.inr ⟨a0, ha0, rfl⟩)
       rw [hall2 a0.i h1] at this; cases this
     · obtain ⟨hlti, hnl, o, ho, haft⟩ := dt.1 hii
       have haft' : cv ops.toList i = aftN o := by
        have : ops.toList[i]? = some o := by simpa using ho
        simp only [cv, this]
       have hno : ∀ j, j < ops.size -> listed.getD j true = false -> j ∉ cv ops.toList i := fun j hj hl hm => by
        rw [haft'] at hm
        have h1 := haft _ hm
        rw [eQ (by omega) true false, h1] at hl; cases hl
       rcases (hin i hlti).1 hnl with ⟨b, hb, hbi⟩ | ⟨b, hb, hbi⟩
       · rcases List.mem_append.1 hb with hb | hb
         · obtain ⟨l1, l2, rfl⟩ := List.append_of_mem hb
           have hmap : (l1 ++ b :: l2 ++ tail).map (cp ops.toList) = l1.map (cp ops.toList) ++ cp ops.toList b :: (l2 ++ tail).map (cp ops.toList) := by simp
           have hpair : ∀ x ∈ l1, cX (cp ops.toList x) (cp ops.toList b) = true := fun x hx => fJ (hmap ▸ hok) _ (List.mem_map_of_mem hx)
           have hleft : ∀ x ∈ l1, x.i ∉ cv ops.toList b.i := fun x hx => by
            rw [hbi]; exact hno x.i (hlt x (by simp [hx])).1 ((hin x.i (hlt x (by simp [hx])).1).2 (.inl ⟨x, by simp [hx], rfl⟩))
           have hne := ve (ops := ops.toList) (l1 := l1) (b := b) (l2 := l2 ++ tail) (by simpa using hok)
           have hJ' := ru hpair hleft hJ
           obtain ⟨o', A, ho2, hl, hs, hk⟩ := hJ'
           subst hbi
           have hna : ∀ x ∈ als, x.i ≠ b.i := fun x hx e => by
            have := hal x hx
            simp only [hZ, Bool.and_eq_true, List.all_eq_true] at this
            have := (this.1.2 b (by simp)).2
            rw [e] at this; simp at this
           have hs' : StepG C ops o' (cQ b.ts E) (F ++ (als.map (·.I) ++ L)) A := by
            match e : b.c with
            | 0 => have := hs (F ++ (als.map (·.I) ++ L)); rw [e] at this; exact this
            | c + 1 => have := hs (als.map (·.I) ++ L); rw [e] at this; exact this
           refine hs'.op ho2 hl ?_ a w p
           refine ih (l1 ++ l2) als _ _ L (by simp only [List.length_append, List.length_cons] at hlen ⊢; omega) (by simpa using hsz) (fun j hj => ?_) ?_ (fun x hx => hlt x ?_) (fun x hx => hc x (by rcases List.mem_append.1 hx with hx | hx <;> simp [hx])) hi (fun x hx => ?_) hk
           · by_cases hji : b.i = j
             · subst hji
               rw [de (by omega)]
               constructor
               · intro h; cases h
               · rintro (⟨x, hx, e⟩ | ⟨x, hx, e⟩)
                 · exact absurd e (hne x (by simpa [List.append_assoc] using hx))
                 · exact absurd e (hna x hx)
             · rw [dS hji, hin j hj]
               constructor
               · rintro (⟨x, hx, e⟩ | h)
                 · refine .inl ⟨x, ?_, e⟩
                   simp only [List.mem_append, List.mem_cons] at hx ⊢
                   rcases hx with (hx | rfl | hx) | hx
                   · exact .inl (.inl hx)
                   · exact absurd e hji
                   · exact .inl (.inr hx)
                   · exact .inr hx
                 · exact .inr h
               · rintro (⟨x, hx, e⟩ | h)
                 · refine .inl ⟨x, ?_, e⟩
                   simp only [List.mem_append, List.mem_cons] at hx ⊢
                   rcases hx with (hx | hx) | hx
                   · exact .inl (.inl hx)
                   · exact .inl (.inr (.inr hx))
                   · exact .inr hx
                 · exact .inr h
           · have h3 := iG (hmap ▸ hok) (fun x hx => (List.mem_map.1 hx).elim fun y hy => hy.2 ▸ hc y (by simp [hy.1])) (fun x hx => (List.mem_map.1 hx).elim fun y hy => hy.2 ▸ hleft y hy.1)
             simpa using h3
           · simp only [List.mem_append, List.mem_cons] at hx ⊢
             rcases hx with (hx | hx) | hx
             · exact .inl (.inl hx)
             · exact .inl (.inr (.inr hx))
             · exact .inr hx
           · have := hal x hx
             simp only [hZ, Bool.and_eq_true, List.all_eq_true] at this ⊢
             refine ⟨⟨this.1.1, fun y hy => this.1.2 y ?_⟩, this.2⟩
             rcases List.mem_append.1 hy with hy | hy <;> simp [hy]
         · exfalso
           have := hal a0 ha0
           simp only [hZ, Bool.and_eq_true, List.all_eq_true] at this
           have := (this.2 b hb).2
           rw [hbi] at this
           simp only [Bool.or_eq_true, List.any_eq_true] at this
           rcases this with q | ⟨r, hr, y, hy, e⟩
           · exact hno a0.i (hall a0 ha0).1 ((hin a0.i (hall a0 ha0).1).2 (.inr ⟨a0, ha0, rfl⟩)) (dC.1 q)
           · have e := Nat.eq_of_beq_eq_true e
             subst e
             have hyl := (hlt y (by simp [hy])).1
             exact hno y.i hyl ((hin y.i hyl).2 (.inl ⟨y, by simp [hy], rfl⟩)) hr
       · have hbo := hal b hb
         simp only [hZ, Bool.and_eq_true, List.all_eq_true] at hbo
         obtain ⟨l1, l2, hl12⟩ := List.append_of_mem hb
         rw [hl12] at hi
         obtain ⟨hi2, hne, hpA⟩ := ky hi
         obtain ⟨hAl, hnext⟩ := pP (C := C) (ops := ops) (F := F) (b := b) (k' := Als2 C ops (upP fun E' L' => JX C ops (fun E' L' => K C (Q .normal) E' L') tail E' (F ++ L')) (l1 ++ l2)) (its := frees) (fun x hx => by
          have hq := hbo.1.2 x hx
          simp only [Bool.and_eq_true, Bool.or_eq_true, Bool.not_eq_true'] at hq
          refine ⟨hq.1.1.1, ?_, hq.1.2⟩
          rcases hq.1.1.2 with q | q
          · exfalso
            have hxl := (hlt x (by simp [hx])).1
            rw [hbi] at q
            exact hno x.i hxl ((hin x.i hxl).2 (.inl ⟨x, by simp [hx], rfl⟩)) (dC.1 q)
          · exact q) (fun E L h => by rw [hl12] at h; exact Ej ol hpA h) hJ
         obtain ⟨ob, q1, q2, q3, q4, q5⟩ := hAl
         rw [hbi, ho] at q1
         cases q1
         have hperm : (F ++ (als.map (·.I) ++ L)).Perm (b.I :: (F ++ ((l1 ++ l2).map (·.I) ++ L))) := by
          rw [hl12]
          simp only [List.map_append, List.map_cons]
          refine (List.Perm.append_left F ?_).trans List.perm_middle
          rw [List.append_assoc, List.append_assoc]
          exact List.perm_middle
         obtain ⟨n, ds, h, m, l, sp, st, fr⟩ := p.lsub (DU hperm)
         have hwt : Region.wanted o (yielded ops a.tmps) = true := by simp [Region.wanted, q4]
         unfold wpOpIn
         simp only [ho]
         rw [if_pos hwt]
         refine q5 (F ++ ((l1 ++ l2).map (·.I) ++ L)) a w h m n l sp st (fr.sub eS) _ Q fun v v' w' h' m' l' sp' st' hv => ?_
         have hrest := ih frees (l1 ++ l2) (listed.setIfInBounds i true) (upd E b.d (b.A v)) (b.M v :: L) (by rw [hl12] at hlen; simp only [List.length_append, List.length_cons] at hlen ⊢; omega) (by simpa using hsz) (fun j hj => ?_) hok hlt hc hi2 (fun x hx => hal x (by
          rw [hl12]
          rcases List.mem_append.1 hx with hx | hx <;> simp [hx])) (hnext v)
         · have hperm2 : (b.M v :: (F ++ ((l1 ++ l2).map (·.I) ++ L))).Perm (F ++ ((l1 ++ l2).map (·.I) ++ b.M v :: L)) := by
             have e1 : F ++ ((l1 ++ l2).map (·.I) ++ b.M v :: L) = (F ++ (l1 ++ l2).map (·.I)) ++ b.M v :: L := by simp
             have e2 : b.M v :: (F ++ ((l1 ++ l2).map (·.I) ++ L)) = b.M v :: ((F ++ (l1 ++ l2).map (·.I)) ++ L) := by simp
             rw [e1, e2]
             exact List.perm_middle.symm
           have hpre : Pre C (ll E o.dst (b.A v)) (b.M v :: (F ++ ((l1 ++ l2).map (·.I) ++ L))) (a.put o.dst v') w' :=
            ⟨by rw [iA]; exact n, by rw [fB]; exact ds, h', m', HL.trans l l', sp', st', (fr.mono l'.1).putO (by rw [n, q2]; exact q3) hv⟩
           have hpre2 := hpre.lsub (DU hperm2)
           rw [q2] at hpre2 ⊢
           exact hrest _ _ hpre2
         · by_cases hji : i = j
           · subst hji
             rw [de (by omega)]
             constructor
             · intro h; cases h
             · rintro (⟨x, hx, e⟩ | ⟨x, hx, e⟩)
               · exfalso
                 rcases List.mem_append.1 hx with hx | hx
                 · have := (hbo.1.2 x hx).2
                   rw [hbi, e] at this; simp at this
                 · have := (hbo.2 x hx).1
                   rw [hbi, e] at this; simp at this
               · exact absurd (e.trans hbi.symm) (hne x hx)
           · rw [dS hji, hin j hj, hl12]
             constructor
             · rintro (h | ⟨x, hx, e⟩)
               · exact .inl h
               · rcases List.mem_append.1 hx with hx | hx
                 · exact .inr ⟨x, by simp [hx], e⟩
                 · rcases List.mem_cons.1 hx with rfl | hx
                   · exact absurd (hbi.symm.trans e) hji
                   · exact .inr ⟨x, by simp [hx], e⟩
             · rintro (h | ⟨x, hx, e⟩)
               · exact .inl h
               · refine .inr ⟨x, ?_, e⟩
                 rcases List.mem_append.1 hx with hx | hx <;> simp [hx]
theorem om {C : Cx} {id : Nat} {ops : Array Oper} (F : List SP) (frees : List It3) (als : List Al2) (tail : List It3) {Q : Exit -> Act -> World -> Prop} {E : Env} {L0 L : List SP} (hL : LSub L0 (F ++ (als.map (·.I) ++ L))) (hmix : C.P.follows .mixedOrders = true) (hok : okZ ops.toList frees als tail = true) (hn : frees.length + als.length + tail.length <= ops.size)
  (hJ : JF C ops F (Als2 C ops (upP fun E' L' => JX C ops (fun E' L' => K C (Q .normal) E' L') tail E' (F ++ L')) als) frees E L) : J C (.region id ops true) Q E L0 := fun a w p => by
 refine wpIn_region_draw (fun t => ?_)
 simp only [Region.schedule, hmix, Bool.true_or, if_true]
 refine wpAnyIn_sound ops.size t _ a _ ?_
 simp only [okZ, Bool.and_eq_true, List.all_eq_true, List.any_eq_true, Bool.or_eq_true] at hok
 obtain ⟨⟨⟨⟨⟨⟨h1, h2⟩, h3⟩, h3c⟩, h4⟩, h5⟩, h6⟩ := hok
 refine bZ hL (sB ops.size frees als _ E L hn (by simp) (fun i hi => ?_) h1 (fun x hx => ⟨by have := h3 x hx; simpa using this, fun e he => ?_⟩) (fun x hx => by have := h3c x hx; simpa using this) h5 h6 hJ) a _ ?_
 · constructor
   · intro _
     rcases h4 i (by simpa using hi) with ⟨x, hx, e⟩ | ⟨x, hx, e⟩
     · exact .inl ⟨x, hx, (Nat.eq_of_beq_eq_true e).symm⟩
     · exact .inr ⟨x, hx, (Nat.eq_of_beq_eq_true e).symm⟩
   · intro _; simp [Array.getD_eq_getD_getElem?, hi]
 · have := h2 _ (List.mem_map_of_mem hx) e he
   simpa [cp] using this
 · obtain ⟨hsz, hds, h, m, hl, sp, st, fr⟩ := p
   exact ⟨hsz, hds, h, m, hl.trans (HL.same (Same.drew _)), ⟨(by first | exact Sep.inv (by assumption) | exact Inv.mono (Dy _ _) (Sep.inv (by assumption))), sp.hm, sp.hr, sp.mr, sp.hw, sp.mw, sp.rw⟩, st, fr⟩
theorem pQ {k : Env -> List SP -> Prop} {E : Env} {L : List SP} (h : k E L) : upP k E L := ⟨L, List.Perm.refl _, h⟩
theorem Ec {A B : Ty} (h : A = B) : Sub A B := h ▸ Sr
theorem l7 (l : List Int) (hl : l.length <= 1000000000) : Spec (X := Value) prog 113 [tSl bg l] ([]) (fun v => rV.ty v) (fun v => [own 3 bg v l]) := by
 refine Spec.enter func113 rfl rfl fun h0 w0 fr0 => ?_
 refine Jr (Za (ae (ar (Jr (Zm ?_)))))
 refine Zx (d8 underlying36 Sr) fun v4 => ?_
 refine ae ?_
 refine au Sr (fun h4 => ?_) (fun h4 => ?_)
 ·
  try simp only [NF] at h4
  refine Jr (Za (ae (aF ?_)))
  have hl0 := v4.2 h4
  subst hl0
  refine bZ (DB (e := 3) (R := bg)) ?_
  refine aZ (rv := .tmp 2) rfl (.slice none 0 0) (Dz _) (.tmp (DG rfl)) (Frz.sub Sr)
 try simp only [NF] at h4
 refine ay (Jr ?_)
 refine Zx (cx (ys := []) underlying36 el3 trivial rfl (by decide)) fun v5 => ?_
 refine Zm ?_
 refine Zx (aL underlying36 el3 Sr Sr zS (by simp; omega) (by simp; omega)) fun v7 => ?_
 refine Za (ae (aF ?_))
 refine aZ (rv := .tmp 2) rfl v7 (Dz _) (.tmp Sr) (Frz.sub Sr)
end Lg
