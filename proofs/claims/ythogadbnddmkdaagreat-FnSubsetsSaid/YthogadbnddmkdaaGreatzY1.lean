/- Ranks of sets: within the number of sets; the reference. -/
import Derived.Test.YthogadbnddmkdaaGreatzK23
import Derived.Test.YthogadbnddmkdaaGreatzK18
set_option linter.unusedSimpArgs false
set_option linter.unusedVariables false
set_option maxHeartbeats 4000000
set_option maxRecDepth 100000
namespace Go.Proofs.YthogadbnddmkdaaGreat
open Go.Av
def rkN : Nat → Int → List Int → Nat
  | 0, _, _ => 0
  | _ + 1, _, [] => 0
  | m + 1, lo, x :: r => if x = lo then rkN m (lo + 1) r else ch m r.length + rkN m (lo + 1) (x :: r)
theorem rkN_nil (m : Nat) (lo : Int) : rkN m lo [] = 0 := by cases m <;> rfl
theorem rkN_lt : ∀ (m : Nat) (lo : Int) (s : List Int), asc lo (lo + m - 1) s = true → rkN m lo s < ch m s.length
  | 0, lo, s, h => by
    rcases asc_len h with rfl | h2
    · rw [List.length_nil, ch_zero]; exact Nat.one_pos
    · cases s with
      | nil => rw [List.length_nil, ch_zero]; exact Nat.one_pos
      | cons x r => exfalso; simp at h2; omega
  | m + 1, lo, [], h => by rw [rkN_nil, List.length_nil, ch_zero]; exact Nat.one_pos
  | m + 1, lo, x :: r, h => by
    have hc := h
    simp only [asc, Bool.and_eq_true, decide_eq_true_eq] at hc
    rw [rkN, List.length_cons, ch]
    split
    · rename_i hx
      have := rkN_lt m (lo + 1) r (by rw [← hx]; rw [show x + 1 + (m : Int) - 1 = lo + ((m + 1 : Nat) : Int) - 1 by omega]; exact hc.2)
      omega
    · rename_i hx
      have := rkN_lt m (lo + 1) (x :: r) (by
        simp only [asc, Bool.and_eq_true, decide_eq_true_eq]
        rw [show lo + 1 + (m : Int) - 1 = lo + ((m + 1 : Nat) : Int) - 1 by omega]
        exact ⟨⟨by omega, hc.1.2⟩, hc.2⟩)
      rw [List.length_cons] at this
      omega
theorem rankGo_is (n : Nat) (K : Int) (hn : n ≤ 32) : ∀ (m : Nat) (fr : Int) (i : Nat) (s : List Int) (acc : Int), (n : Int) = fr + m → 0 ≤ fr → asc fr ((n : Int) - 1) s = true → K = i + s.length → 0 ≤ acc → acc + ch m s.length ≤ 4611686018427387904 → rankGo n K i fr s acc = acc + rkN m fr s
  | m, fr, i, [], acc, _, _, _, _, _, _ => by rw [rankGo, rkN_nil]; simp
  | 0, fr, i, x :: r, acc, h1, h2, h3, _, _, _ => by
    exfalso
    simp only [asc, Bool.and_eq_true, decide_eq_true_eq] at h3
    omega
  | m + 1, fr, i, x :: r, acc, h1, h2, h3, h4, h5, h6 => by
    have hc := h3
    simp only [asc, Bool.and_eq_true, decide_eq_true_eq] at hc
    rw [List.length_cons, ch] at h6
    rw [rankGo, rkN]
    by_cases hx : x = fr
    · rw [if_pos hx, hx, show (fr - fr).toNat = 0 by omega, rankIn]
      exact rankGo_is n K hn m (fr + 1) (i + 1) r acc (by omega) (by omega) (by rw [← hx]; exact hc.2) (by rw [h4]; simp; omega) h5 (by omega)
    · rw [if_neg hx]
      obtain ⟨j, hj⟩ : ∃ j, (x - fr).toNat = j + 1 := ⟨(x - fr).toNat - 1, by omega⟩
      have ec : chooseI ((n : Int) - 1 - fr) (K - 1 - i) = ch m r.length := by
        rw [show (n : Int) - 1 - fr = (m : Int) by omega, show K - 1 - (i : Int) = (r.length : Int) by rw [h4]; simp; omega, chooseI_any m _ (by omega), if_pos (by omega)]
        simp
      have ew : w64 (acc + (ch m r.length : Nat)) = acc + (ch m r.length : Nat) := w64_id (by omega) (by omega)
      rw [hj, rankIn, ec, ew]
      have ih := rankGo_is n K hn m (fr + 1) i (x :: r) (acc + (ch m r.length : Nat)) (by omega) (by omega) (by
        simp only [asc, Bool.and_eq_true, decide_eq_true_eq]
        exact ⟨⟨by omega, hc.1.2⟩, hc.2⟩) h4 (by omega) (by rw [List.length_cons]; omega)
      rw [rankGo, show (x - (fr + 1)).toNat = j by omega] at ih
      rw [ih]
      simp; omega
theorem rankI_is (n : Nat) (s : List Int) (hn : n ≤ 32) (hv : asc 0 ((n : Int) - 1) s = true) : rankI n s = rkN n 0 s ∧ rkN n 0 s < ch n s.length := by
  have h1 := rkN_lt n 0 s (by rw [show (0 : Int) + n - 1 = n - 1 by omega]; exact hv)
  have h2 := ch_le n s.length
  have h3 : 2 ^ n ≤ 2 ^ 32 := Nat.pow_le_pow_right (by omega) hn
  refine ⟨?_, h1⟩
  unfold rankI
  rw [rankGo_is n s.length hn n 0 0 s 0 (by omega) (by omega) hv (by simp) (by omega) (by omega)]
  simp
end Go.Proofs.YthogadbnddmkdaaGreat
