/- No orbit is empty, none is too long. -/
import Derived.Test.YthogadbnddmkdaaGreatzY2
set_option linter.unusedSimpArgs false
set_option linter.unusedVariables false
set_option maxHeartbeats 4000000
set_option maxRecDepth 100000
namespace Go.Proofs.YthogadbnddmkdaaGreat
open Go.Av
theorem orbL_rows {n k : Nat} {els : List (List Int)} (hel : 1 ≤ els.length) (hl : els.length ≤ 720) (j : Nat) : ∀ R ∈ (orbL n k els j).1, R ≠ [] ∧ R.length ≤ 720 := by
  induction j with
  | zero => rw [orbL_zero]; simp
  | succ j ih =>
    rw [orbL_succ]
    unfold orbS
    split
    · exact ih
    · intro R hR
      rcases List.mem_append.1 hR with h | h
      · exact ih R h
      · rw [List.mem_singleton.1 h]
        have h1 := sortU_ne (els := els) (set := (subsN n k).getD j []) hel
        have h2 := sortU_len (cf := cmpL) (imgsOf els ((subsN n k).getD j []))
        have h3 : (imgsOf els ((subsN n k).getD j [])).length = els.length := by simp [imgsOf]
        refine ⟨fun h0 => ?_, by omega⟩
        rw [h0] at h1
        simp at h1
end Go.Proofs.YthogadbnddmkdaaGreat
