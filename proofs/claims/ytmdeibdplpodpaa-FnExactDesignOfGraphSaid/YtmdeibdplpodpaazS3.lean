/- Sorted lists: one order, one sorted list. -/
import Derived.Test.YtmdeibdplpodpaazK19
import Derived.Test.YtmdeibdplpodpaazS2
set_option linter.unusedSimpArgs false
set_option linter.unusedVariables false
set_option maxHeartbeats 4000000
set_option maxRecDepth 100000
namespace Go.Sort
end Go.Sort
namespace Go.Proofs.Ytmdeibdplpodpaa
open Go.Av Go.Sort
structure TotC {A : Type} (cf : A → A → Int) : Prop where
  neg : ∀ x y, cf y x = - cf x y
  eq0 : ∀ x y, cf x y = 0 ↔ x = y
  trans : ∀ x y z, cf x y < 0 → cf y z < 0 → cf x z < 0
section
variable {A : Type} {cf : A → A → Int}
theorem TotC.le (h : TotC cf) {x y z : A} (h1 : cf x y ≤ 0) (h2 : cf y z ≤ 0) : cf x z ≤ 0 := by
  rcases Int.lt_or_eq_of_le h1 with h1 | h1
  · rcases Int.lt_or_eq_of_le h2 with h2 | h2
    · exact Int.le_of_lt (h.trans _ _ _ h1 h2)
    · rw [(h.eq0 _ _).1 h2] at h1; exact Int.le_of_lt h1
  · rw [(h.eq0 _ _).1 h1]; exact h2
theorem TotC.swo (h : TotC cf) : SWO (ltOf cf) := by
  refine ⟨fun x => ?_, fun x y z h1 h2 => ?_, fun x y z h1 h2 => ?_⟩
  · have := (h.eq0 x x).2 rfl
    simp [ltOf, this]
  · simp only [ltOf, decide_eq_true_eq] at *
    exact h.trans _ _ _ h1 h2
  · simp only [ltOf, decide_eq_false_iff_not] at *
    have e1 := h.neg x y
    have e2 := h.neg y z
    have e3 := h.neg x z
    have := h.le (x := z) (y := y) (z := x) (by omega) (by omega)
    omega
end
theorem cmpL_eq0 : ∀ (xs ys : List Int), cmpL xs ys = 0 ↔ xs = ys
  | [], [] => by simp [cmpL]
  | [], _ :: _ => by simp [cmpL]
  | _ :: _, [] => by simp [cmpL]
  | x :: a, y :: b => by
    unfold cmpL
    split
    · rename_i h; simp; intro h2; omega
    · split
      · rename_i h; simp; intro h2; omega
      · have : x = y := by omega
        subst this
        rw [cmpL_eq0 a b]; simp
theorem cmpL_trans : ∀ (xs ys zs : List Int), cmpL xs ys < 0 → cmpL ys zs < 0 → cmpL xs zs < 0
  | [], [], _, h, _ => by simp [cmpL] at h
  | [], _ :: _, [], _, h => by simp [cmpL] at h
  | [], _ :: _, _ :: _, _, _ => by simp [cmpL]
  | _ :: _, [], _, h, _ => by simp [cmpL] at h
  | _ :: _, _ :: _, [], _, h => by simp [cmpL] at h
  | x :: a, y :: b, z :: c, h1, h2 => by
    unfold cmpL at *
    by_cases hxy : x < y
    · by_cases hyz : y < z
      · rw [if_pos (by omega)]; omega
      · rw [if_neg hyz] at h2
        by_cases hzy : z < y
        · rw [if_pos hzy] at h2; omega
        · rw [if_pos (by omega)]; omega
    · rw [if_neg hxy] at h1
      by_cases hyx : y < x
      · rw [if_pos hyx] at h1; omega
      · rw [if_neg hyx] at h1
        by_cases hyz : y < z
        · rw [if_pos (by omega)]; omega
        · rw [if_neg hyz] at h2
          by_cases hzy : z < y
          · rw [if_pos hzy] at h2; omega
          · rw [if_neg hzy] at h2
            rw [if_neg (by omega), if_neg (by omega)]
            exact cmpL_trans a b c h1 h2
theorem cmpL_tot : TotC cmpL := ⟨fun x y => cmpL_neg x y, cmpL_eq0, cmpL_trans⟩
end Go.Proofs.Ytmdeibdplpodpaa
