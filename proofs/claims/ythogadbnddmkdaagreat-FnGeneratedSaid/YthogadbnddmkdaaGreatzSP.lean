/- Generated packings: their labelings add up to the number of packings. -/
import Derived.Test.YthogadbnddmkdaaGreatzJ4
import Derived.Test.YthogadbnddmkdaaGreatzJ9
import Derived.Test.YthogadbnddmkdaaGreatzJ1
set_option linter.unusedSimpArgs false
set_option linter.unusedVariables false
set_option maxHeartbeats 4000000
set_option maxRecDepth 100000
namespace Go.Proofs.YthogadbnddmkdaaGreat
open Go.Av
theorem cl_pk {s : Int} : ∀ (rest : List (List Int)) (r : Nat) (B : List (List Int)) (left c l : Nat), cl s B rest r left = some (c, l) → c = (pk s B rest r).length
  | rest, 0, B, left, c, l, h => by
    rw [cl_zero] at h
    rw [pk_zero]
    simp at h
    simp; omega
  | [], r + 1, B, left, c, l, h => by
    simp [cl] at h
    simp [pk]; omega
  | x :: rest, r + 1, B, left, c, l, h => by
    unfold cl at h
    unfold pk
    unfold fitsC at h
    split at h
    · rename_i hf
      rw [if_pos hf]
      split at h
      · simp at h
      · cases e1 : cl s (B ++ [x]) rest r (left - 1) with
        | none => rw [e1] at h; simp at h
        | some p =>
          obtain ⟨c1, l1⟩ := p
          rw [e1] at h
          dsimp only at h
          have i1 := cl_pk rest r (B ++ [x]) (left - 1) c1 l1 e1
          cases e2 : cl s B rest (r + 1) l1 with
          | none => rw [e2] at h; simp at h
          | some q =>
            obtain ⟨d, l2⟩ := q
            rw [e2] at h
            dsimp only at h
            have i2 := cl_pk rest (r + 1) B l1 d l2 e2
            simp at h
            rw [List.length_append]; omega
    · rename_i hf
      rw [if_neg hf]
      have i2 := cl_pk rest (r + 1) B left c l h
      simpa using i2
theorem pack_ok {v k m : Nat} {bs : List (List Int)} (h1 : 1 ≤ v) (h6 : v ≤ 6) (hk : 1 ≤ k) (h : packOk v k m bs) : systemOk v bs = true := by
  simp only [systemOk, Bool.and_eq_true, decide_eq_true_eq]
  refine ⟨⟨by omega, by omega⟩, chain_back _ _ _ h.2.1 (fun b hb => ⟨(h.2.2 b hb).2, fun e => ?_⟩) (by simp)⟩
  have := (h.2.2 b hb).1
  rw [e] at this
  simp at this; omega
theorem labels_one {v k m : Nat} {s : Int} {bs : List (List Int)} (h1 : 1 ≤ v) (h6 : v ≤ 6) (hb : bs ∈ genN v k s m) : leastF bs (perms v) = bs ∧ packOk v k m bs ∧ 1 ≤ sameC bs (perms v) ∧ fct v % sameC bs (perms v) = 0 ∧ fct v / sameC bs (perms v) = (orbF v bs).length := by
  obtain ⟨hp, hf⟩ := genN_pack h1 h6 m bs hb
  have hs := hp.1.sys h1 h6
  have h0 := sameC_pos hs
  have h2 := orb_stab hs
  refine ⟨hf, hp.1, h0, ?_, ?_⟩
  · rw [← h2]; exact Nat.mul_mod_left _ _
  · rw [← h2]; exact Nat.mul_div_cancel _ h0
theorem fct6 {v : Nat} (h : v ≤ 6) : fct v ≤ 720 := by
  have : v = 0 ∨ v = 1 ∨ v = 2 ∨ v = 3 ∨ v = 4 ∨ v = 5 ∨ v = 6 := by omega
  rcases this with rfl | rfl | rfl | rfl | rfl | rfl | rfl <;> decide
theorem labels_all {v k m : Nat} {s : Int} {left c l : Nat} (h1 : 1 ≤ v) (h6 : v ≤ 6) (h : cl s [] (subsN v k) m left = some (c, l)) : c = sumN (fun bs => fct v / sameC bs (perms v)) (genN v k s m) := by
  rw [cl_pk _ _ _ _ _ _ h, pack_sum h1 h6]
  exact sumN_congr fun bs hb => (labels_one h1 h6 hb).2.2.2.2.symm
end Go.Proofs.YthogadbnddmkdaaGreat
