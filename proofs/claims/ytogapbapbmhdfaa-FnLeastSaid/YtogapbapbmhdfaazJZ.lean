/- Systems compared: an order. -/
import Derived.Test.YtogapbapbmhdfaazK63
set_option linter.unusedSimpArgs false
set_option linter.unusedVariables false
set_option maxHeartbeats 4000000
set_option maxRecDepth 100000
namespace Go.Proofs.Ytogapbapbmhdfaa
open Go.Shelf Go.RowKit Go.Lib Go.Sort Go.Av
theorem cmpSS_eq0 : ∀ a b : List (List Int), cmpSS a b = 0 ↔ a = b
  | [], [] => by simp [cmpSS]
  | [], _ :: _ => by simp [cmpSS]
  | _ :: _, [] => by simp [cmpSS]
  | x :: a, y :: b => by
    unfold cmpSS
    split
    · rename_i h
      rw [cmpSS_eq0 a b, (cmpL_eq0 x y).1 h]; simp
    · rename_i h
      refine ⟨fun h2 => absurd h2 h, fun h2 => ?_⟩
      simp only [List.cons.injEq] at h2
      exact absurd ((cmpL_eq0 x y).2 h2.1) h
theorem cmpSS_neg : ∀ a b : List (List Int), cmpSS b a = - cmpSS a b
  | [], [] => by simp [cmpSS]
  | [], _ :: _ => by simp [cmpSS]
  | _ :: _, [] => by simp [cmpSS]
  | x :: a, y :: b => by
    have hn := cmpL_tot.neg x y
    unfold cmpSS
    by_cases h : cmpL x y = 0
    · rw [if_pos h, if_pos (by omega)]
      exact cmpSS_neg a b
    · rw [if_neg h, if_neg (by omega)]
      omega
theorem cmpSS_trans : ∀ a b c : List (List Int), cmpSS a b < 0 → cmpSS b c < 0 → cmpSS a c < 0
  | [], [], _ => by simp [cmpSS]
  | [], _ :: _, [] => by simp [cmpSS]
  | [], _ :: _, _ :: _ => by simp [cmpSS]
  | _ :: _, [], _ => by simp [cmpSS]
  | _ :: _, _ :: _, [] => by simp [cmpSS]
  | x :: a, y :: b, z :: c => by
    unfold cmpSS
    intro h1 h2
    by_cases e1 : cmpL x y = 0
    · have := (cmpL_eq0 x y).1 e1; subst this
      rw [if_pos e1] at h1
      by_cases e2 : cmpL x z = 0
      · rw [if_pos e2] at h2 ⊢
        exact cmpSS_trans a b c h1 h2
      · rw [if_neg e2] at h2 ⊢
        exact h2
    · rw [if_neg e1] at h1
      by_cases e2 : cmpL y z = 0
      · have := (cmpL_eq0 y z).1 e2; subst this
        rw [if_neg e1]; exact h1
      · rw [if_neg e2] at h2
        have h3 := cmpL_trans _ _ _ h1 h2
        rw [if_neg (by omega)]; exact h3
end Go.Proofs.Ytogapbapbmhdfaa
