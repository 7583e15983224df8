/- Graphs of binary codes: what both answer. -/
import Derived.Test.YtclfmfabcnbbpaaGreatzWA
import Derived.Test.YtclfmfabcnbbpaaGreatzGU
import Derived.Test.YtclfmfabcnbbpaaGreatzE3
set_option linter.unusedSimpArgs false
set_option linter.unusedVariables false
set_option maxHeartbeats 4000000
set_option maxRecDepth 100000
open Int renaming toNat_natCast→wA
namespace Go.Proofs.YtclfmfabcnbbpaaGreat
open Go.Av
def cgV (p d : Int) (L : List Int) (m : List (List Int)) : (List Int × List (Int × Int)) × Int :=
 if codeB p d L m = true then (if p.toNat ^ d.toNat = 2 then grV (m.getD 0 []).length (supps (m.getD 0 []).length m) else (([],[]),6)) else (([],[]),1)
theorem grV_len (n : Nat) (xss : List (List Int)) : (grV n xss).1.1.length ≤ 64 ∧ (grV n xss).1.2.length ≤ 512:=by
 unfold grV
 split
 ·simp
 ·rename_i h
  have e1 : (twoC n xss.length).length = n + xss.length:=by simp [twoC,tab]
  have e2:=sortU_len (cf:=cmpE) (edI n xss)
  simp only
  omega
theorem cgV_len (p d : Int) (L : List Int) (m : List (List Int)) : (cgV p d L m).1.1.length ≤ 64 ∧ (cgV p d L m).1.2.length ≤ 512:=by
 unfold cgV
 split
 ·split
  ·exact grV_len _ _
  ·simp
 ·simp
theorem codeB_facts {p d : Int} {L : List Int} {m : List (List Int)} (h : codeB p d L m = true) : fieldB p d L = true ∧ matC (p.toNat ^ d.toNat) m = true ∧ m.length ≤ 8:=by
 unfold codeB at h
 simp only [Bool.and_eq_true,decide_eq_true_eq] at h
 exact ⟨h.1.1.1.1,h.1.1.1.2,h.1.1.2⟩
theorem code_two {p d : Int} {L : List Int} {m : List (List Int)} (h : codeB p d L m = true) (h2 : p.toNat ^ d.toNat = 2) :
  p = 2 ∧ d = 1 ∧ (OkD (2 : Nat) L ∧ L.length = 1 + 1) ∧ L.getD 1 0 = 1 ∧ (1 ≤ m.length ∧ m.length ≤ 8) ∧ 1 ≤ (m.getD 0 []).length ∧ (m.getD 0 []).length ≤ 32 ∧ ∀ r ∈ m,r.length = (m.getD 0 []).length ∧ Bit r:=by
 obtain ⟨hf,hm,h8⟩:=codeB_facts h
 obtain ⟨P,K,rfl,rfl,hpb,hkb,hLb,hq,h1,-,-⟩:=fieldB_facts hf
 rw [wA,wA] at h2 hm
 have hK : K = 1:=by
  rcases Nat.lt_or_ge K 2 with hK|hK
  ·omega
  ·have e1 : 2 ^ 2 ≤ 2 ^ K:=Nat.pow_le_pow_right (by omega) hK
   have e2 : 2 ^ K ≤ P ^ K:=Nat.pow_le_pow_left (by omega) K
   omega
 subst hK
 rw [Nat.pow_one] at h2
 subst h2
 obtain ⟨hn,hw,hM⟩:=matC_facts hm
 refine ⟨rfl,rfl,hLb,h1,⟨hn.1,h8⟩,hw.1,hw.2,fun r hr=>⟨(hM r hr).1,fun x hx=>?_⟩⟩
 exact (hM r hr).2 x hx
end Go.Proofs.YtclfmfabcnbbpaaGreat