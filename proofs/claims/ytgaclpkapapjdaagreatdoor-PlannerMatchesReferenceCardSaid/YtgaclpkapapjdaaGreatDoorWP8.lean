/- The walk and the plain law of PlannerMatchesReference. -/
import Derived.Test.YtgaclpkapapjdaaGreatDoorH
set_option linter.unusedVariables false
set_option linter.unusedSimpArgs false
set_option linter.unusedSectionVars false
set_option maxHeartbeats 16000000
namespace Lg
open Go Go.Proofs Go.Proofs.Tryz
theorem uq {s : GSchema} {p : aG} {ts : List (List (List GValue))} {m : Int} (h : smallE s p ts m = true) : s.Tables.length <= 1000 := by
  unfold smallE gW at h
  simp only [Bool.and_eq_true, decide_eq_true_eq, List.all_eq_true] at h
  have h1 := h.1.1.1.1
  unfold smS at h1
  simp only [Bool.and_eq_true, decide_eq_true_eq, List.all_eq_true] at h1
  have := h1.1
  omega
theorem lawMatches35_spec (s : GSchema) (hn : ∀ t ∈ s.Tables, ∀ x ∈ namesL t.Attrs, x.size <= 9223372036854775807) (p : aG) (hpl : qE p) (st : GStats) (hdl : st.Distinct.length <= 9223372036854775807) (ts : List (List (List GValue))) (hts : ∀ t ∈ ts, t.length <= 9223372036854775807) : Fun1 prog 8 [aV.ty s, bO.ty p, bA.ty st, tSl (rSl (rSl rValue)) ts] (tV (.bool true)) := by
 refine Spec.enter func8 rfl rfl fun h0 w0 fr0 => ?_
 refine Jr (Zs (aJ (R := aV) Sr) (Zs (aJ (R := bO) Sr) (Zs (aJ (R := bA) Sr) (Za (ae ?_)))))
 refine Jr (Zs (ai (rZ ) trivial call34) (Za (ae (ar (Jr ?_)))))
 refine Zl fR Sr (Zl ba Sr (Zm (Zs (ai (r7 s p hpl ts 30 hts) ⟨Sr, Sr, Sr, Sr, trivial⟩ call19) (Zs (bf Sr) (Zm ?_)))))
 refine Zk (ab gh Sr) ?_
 refine Zg (fun hw => ai (rG st hdl) ⟨(Sub.w hw), trivial⟩ call35) (Zg (fun hw => bf (Sub.w hw)) (Zs (az Sr Sr) (ae ?_)))
 refine au Sr (fun h32 => ?_) (fun h32 => ?_)
 ·
  try simp only [NF] at h32
  refine Jr (Zm (Za (ae (aF ?_))))
  refine aK (t := 8) rfl () (Sub.bool ?_)
  rfl
 try simp only [NF] at h32
 obtain ⟨hse, hfw⟩ : smallE s p ts 30 = true /\ fewP st = true := by simpa using h32
 obtain ⟨hsm, htl, htr⟩ := yo hse hn hpl
 have htb := uq hse
 obtain ⟨_, hd30, hda⟩ := zW hfw
 have hsd : ∀ d ∈ st.Distinct, d.length <= 1000000000000 := fun d hd => by have := hda d hd; omega
 have hst1 : ∀ t ∈ s.Tables, t.Attrs.length <= 1000 := fun t ht => Nat.le_trans (hsm.t t ht) zG
 have hq0 := hsm.q
 have hl1 : ∀ t ∈ ts, t.length <= 4000 := fun t ht => by have := (htr t ht).1; omega
 have hr1 : ∀ t ∈ ts, ∀ r ∈ t, r.length <= 1000000 := fun t ht r hr => by have := (htr t ht).2 r hr; omega
 have hsa := uh ts hsm.t
 have hsl := hsm.z.tabs
 refine ay (Jr (Zl fR Sr (Zm (Zs (ai (iw s hsm.z hst1 ts hl1 hr1) ⟨Sr, Sr, trivial⟩ call36) (Zm ?_)))))
 refine Zs (aM Sr rfl) (Zs (aM Sr rfl) ?_)
 refine Zx (aD (fun w => zeroValue60 w) BP) fun b10 => ?_
 refine Ju (aj gh Sr Sr zS) fun _ => ?_
 refine bc (t := 10) (Sel.take (Dz _)) Frz.box ?_
 refine Za (ae (Jr (Zl fR Sr (Zm (Zs (ai (lx s hsm.z hst1 zG ts hl1 hr1) ⟨Sr, Sr, trivial⟩ call37) ?_)))))
 refine Zm (Zs (aM Sr rfl) (Zs (aM Sr rfl) ?_))
 refine Zx (aD (fun w => zeroValue60 w) BP) fun b12 => ?_
 refine Ju (aj gh Sr Sr zS) fun _ => ?_
 refine bc (t := 12) (Sel.take (Dz _)) Frz.box ?_
 refine Za (ae (Jr (Zl fR Sr (Zl ba Sr (Zl gh Sr ?_)))))
 refine Zs (ai (i8 s hsm.z (depP p) p (dG _) hq0.z st hsd) ⟨Sr, Sr, Sr, trivial⟩ call38) (Zm (Zs (aM Sr rfl) (Zs (aM Sr rfl) (Za (Za ?_)))))
 refine ae (Jr (Zl fR Sr (Zl ba Sr (Zl gh Sr (Zs (ai (nj s hsm.z hsm.t htb p hq0.z st hsd) ⟨Sr, Sr, Sr, trivial⟩ call39) ?_)))))
 refine Zm (Zs (aM Sr rfl) (Zs (aM Sr rfl) (Za (Za (ae ?_)))))
 refine Jr (Zl fR Sr (Zl ba Sr (Zl gh Sr (Zs (ai (kZ s hsm.z hst1 (depP p) p (dG _) hq0.z (fun h => Nat.le_trans (hq0.t h) zG) st hsd) ⟨Sr, Sr, Sr, trivial⟩ call40) (Zm ?_)))))
 refine Zs (aM Sr rfl) (Zs (aM Sr rfl) ?_)
 refine Zx (aD (fun w => zeroValue46 w) fL) fun b18 => ?_
 refine Ju (aj ba Sr Sr zS) fun _ => ?_
 refine bc (t := 18) (Sel.take (Dz _)) Frz.box ?_
 refine Za (ae (Jr (Zl fR Sr (Zl ba Sr (Zl gh Sr ?_)))))
 refine Zs (ai (o0 s hsm.z hsm.t htb p ⟨hq0.z, fun h => Nat.le_trans (hq0.t h) zG⟩ st hsd) ⟨Sr, Sr, Sr, trivial⟩ call41) (Zm (Zs (aM Sr rfl) (Zs (aM Sr rfl) ?_)))
 refine Zx (aD (fun w => zeroValue46 w) fL) fun b20 => ?_
 refine Ju (aj ba Sr Sr zS) fun _ => ?_
 refine bc (t := 20) (Sel.take (Dz _)) Frz.box ?_
 refine Za (ae (Jr (Zm (Zm ?_))))
 refine Zk (al Sr) ?_
 refine Zk (al Sr) ?_
 refine Zg (fun hw => aC (Sub.w hw) (Sub.w hw)) (Zs (aw Sr Sr) (Zm ?_))
 refine Zk (ab gh Sr) ?_
 refine Zk (ab gh Sr) ?_
 refine Zg (fun hw => ai (i6 (gn s ts) (gn s ts) ⟨by omega, by omega, fun d hd => by have := hsa.2.2 d hd; omega⟩) ⟨(Sub.w hw), (Sub.w hw), trivial⟩ call42) ?_
 refine Zs (aw Sr Sr) (Zm ?_)
 refine Zk (al Sr) ?_
 refine Zk (al Sr) ?_
 refine Zg (fun hw => aC (Sub.w hw) (Sub.w hw)) (Zs (aw Sr Sr) (Zm ?_))
 refine Zk (al Sr) ?_
 refine Zk (al Sr) ?_
 refine Zg (fun hw => aC (Sub.w hw) (Sub.w hw)) (Zs (aw Sr Sr) (Zm ?_))
 refine Zk (al Sr) ?_
 refine Zk (al Sr) ?_
 refine Zg (fun hw => aC (Sub.w hw) (Sub.w hw)) (Zs (aw Sr Sr) (Zm ?_))
 refine Zk (ab ba Sr) ?_
 refine Zk (ab ba Sr) ?_
 refine Zg (fun hw => ai (uo (ud s p st) (ud s p st) (w9 hq0 zG) (w9 hq0 zG)) ⟨(Sub.w hw), (Sub.w hw), trivial⟩ call43) (Zs (aw Sr Sr) (Za (ae (aF ?_))))
 refine aK (t := 8) rfl () (Sub.bool ?_)
 simp [w7, An]
end Lg
