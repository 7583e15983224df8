/- No orbit is empty, none is too long. -/
import Derived.Test.YtkifdjjnbplghaaGreatzY2
set_option linter.unusedSimpArgs false
set_option linter.unusedVariables false
set_option maxHeartbeats 4000000
set_option maxRecDepth 100000
namespace Go.Proofs.YtkifdjjnbplghaaGreat
open Go.Av
theorem orbL_rows {n k : Nat} {els : List (List Int)} (hel : 1 ≤ els.length) (hl : els.length ≤ 720) (j : Nat) : ∀ R ∈ (orbL n k els j).1, R ≠ [] ∧ R.length ≤ 720 := by
  induction j with
  | zero => rw [orbL_zero]; simp
  | succ j ih =>
    rw [orbL_succ]
    unfold orbS
    split
    · exact ih
    · intro R hR
      rcases List.mem_append.1 hR with h | h
      · exact ih R h
      · rw [List.mem_singleton.1 h]
        have h1 := sortU_ne (els := els) (set := (subsN n k).getD j []) hel
        have h2 := sortU_len (cf := cmpL) (imgsOf els ((subsN n k).getD j []))
        have h3 : (imgsOf els ((subsN n k).getD j [])).length = els.length := by simp [imgsOf]
        refine ⟨fun h0 => ?_, by omega⟩
        rw [h0] at h1
        simp at h1
theorem orbL_sets {n k : Nat} {els : List (List Int)} (hn : n ≤ 32) (ho : ∀ q ∈ els, permOk n q) (j : Nat) (hj : j ≤ ch n k) : ∀ R ∈ (orbL n k els j).1, ∀ s ∈ R, s.length ≤ 32 := by
  induction j with
  | zero => rw [orbL_zero]; simp
  | succ j ih =>
    rw [orbL_succ]
    unfold orbS
    split
    · exact ih (by omega)
    · intro R hR
      rcases List.mem_append.1 hR with h | h
      · exact ih (by omega) R h
      · rw [List.mem_singleton.1 h]
        intro s hs
        have h1 := (orb_rank (i := j) hn ho (by omega) s hs).1
        rcases asc_len h1 with h2 | h2
        · rw [h2]; simp
        · omega
theorem total_le {c : Nat} {xss : List (List Int)} (h : ∀ x ∈ xss, x.length ≤ c) : total xss ≤ c * xss.length := by
  induction xss with
  | nil => simp [total]
  | cons x r ih =>
    have h1 := h x (by simp)
    have h2 := ih (fun y hy => h y (by simp [hy]))
    rw [total_cons, List.length_cons, Nat.mul_add]; omega
end Go.Proofs.YtkifdjjnbplghaaGreat
