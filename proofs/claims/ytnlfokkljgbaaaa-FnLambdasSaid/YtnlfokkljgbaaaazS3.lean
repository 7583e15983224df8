/- Sorted lists: one order, one sorted list. -/
import Derived.Test.YtnlfokkljgbaaaazK19
import Derived.Test.YtnlfokkljgbaaaazAvA
import Derived.Test.YtnlfokkljgbaaaazL7
import Derived.Test.YtnlfokkljgbaaaazAvC
import Derived.Test.YtnlfokkljgbaaaazL1
set_option linter.unusedSimpArgs false
set_option linter.unusedVariables false
set_option maxHeartbeats 4000000
set_option maxRecDepth 100000
namespace Go.Sort
end Go.Sort
namespace Go.Proofs.Ytnlfokkljgbaaaa
open Go.Av Go.Sort
structure TotC {A : Type} (cf : A → A → Int) : Prop where
  neg : ∀ x y, cf y x = - cf x y
  eq0 : ∀ x y, cf x y = 0 ↔ x = y
  trans : ∀ x y z, cf x y < 0 → cf y z < 0 → cf x z < 0
section
variable {A : Type} {cf : A → A → Int}
end
theorem cmpL_eq0 : ∀ (xs ys : List Int), cmpL xs ys = 0 ↔ xs = ys
  | [], [] => by simp [cmpL]
  | [], _ :: _ => by simp [cmpL]
  | _ :: _, [] => by simp [cmpL]
  | x :: a, y :: b => by
    unfold cmpL
    split
    · rename_i h; simp; intro h2; omega
    · split
      · rename_i h; simp; intro h2; omega
      · have : x = y := by omega
        subst this
        rw [cmpL_eq0 a b]; simp
theorem cmpL_trans : ∀ (xs ys zs : List Int), cmpL xs ys < 0 → cmpL ys zs < 0 → cmpL xs zs < 0
  | [], [], _, h, _ => by simp [cmpL] at h
  | [], _ :: _, [], _, h => by simp [cmpL] at h
  | [], _ :: _, _ :: _, _, _ => by simp [cmpL]
  | _ :: _, [], _, h, _ => by simp [cmpL] at h
  | _ :: _, _ :: _, [], _, h => by simp [cmpL] at h
  | x :: a, y :: b, z :: c, h1, h2 => by
    unfold cmpL at *
    by_cases hxy : x < y
    · by_cases hyz : y < z
      · rw [if_pos (by omega)]; omega
      · rw [if_neg hyz] at h2
        by_cases hzy : z < y
        · rw [if_pos hzy] at h2; omega
        · rw [if_pos (by omega)]; omega
    · rw [if_neg hxy] at h1
      by_cases hyx : y < x
      · rw [if_pos hyx] at h1; omega
      · rw [if_neg hyx] at h1
        by_cases hyz : y < z
        · rw [if_pos (by omega)]; omega
        · rw [if_neg hyz] at h2
          by_cases hzy : z < y
          · rw [if_pos hzy] at h2; omega
          · rw [if_neg hzy] at h2
            rw [if_neg (by omega), if_neg (by omega)]
            exact cmpL_trans a b c h1 h2
theorem cmpL_tot : TotC cmpL := ⟨fun x y => cmpL_neg x y, cmpL_eq0, cmpL_trans⟩
end Go.Proofs.Ytnlfokkljgbaaaa
