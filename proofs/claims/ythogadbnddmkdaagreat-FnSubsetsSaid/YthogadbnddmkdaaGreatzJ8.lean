/- Incidences of orbits, counted twice. -/
import Derived.Test.YthogadbnddmkdaaGreatzJ5
import Derived.Test.YthogadbnddmkdaaGreatzY4
set_option linter.unusedSimpArgs false
set_option linter.unusedVariables false
set_option maxHeartbeats 4000000
set_option maxRecDepth 100000
namespace Go.Proofs.YthogadbnddmkdaaGreat
open Go.Av
def ind (b : Bool) : Nat := if b = true then 1 else 0
theorem filter_sum {A : Type} (p : A → Bool) : ∀ l : List A, (l.filter p).length = sumN (fun x => ind (p x)) l
  | [] => rfl
  | x :: l => by
    rw [sumN_cons, ← filter_sum p l, List.filter_cons]
    unfold ind
    split
    · rw [List.length_cons]; omega
    · omega
theorem sumN_swap {A B : Type} (f : A → B → Nat) (m : List B) : ∀ l : List A, sumN (fun x => sumN (fun y => f x y) m) l = sumN (fun y => sumN (fun x => f x y) l) m
  | [] => by
    have : sumN (fun y => sumN (fun x => f x y) ([] : List A)) m = sumN (fun _ => 0) m := sumN_congr (fun _ _ => rfl)
    rw [this, sumN_const]; rfl
  | x :: l => by
    rw [sumN_cons, sumN_swap f m l, ← sumN_add]
    exact sumN_congr (fun y _ => (sumN_cons (fun x => f x y) x l).symm)
end Go.Proofs.YthogadbnddmkdaaGreat
namespace Go.Proofs.YthogadbnddmkdaaGreat
open Go.Av
theorem burnside {n k : Nat} {els : List (List Int)} (h : IsG n els) : sumN (fun p => ((subsN n k).filter fun S => decide (img p S = S)).length) els = (orbAll n k els).length * els.length := by
  have e1 : sumN (fun p => ((subsN n k).filter fun S => decide (img p S = S)).length) els = sumN (fun p => sumN (fun S => ind (decide (img p S = S))) (subsN n k)) els := sumN_congr (fun p _ => filter_sum _ _)
  have e2 : ∀ S, sumN (fun p => ind (decide (img p S = S))) els = (stabL els S).length := fun S => (filter_sum _ _).symm
  rw [e1, sumN_swap, sumN_congr (fun S _ => e2 S), orb_sum h, ← sumN_const]
  refine sumN_congr (fun O hO => ?_)
  obtain ⟨S0, s1, s2, rfl⟩ := orbAll_of h hO
  have h0 := orb_stabG h s2
  have hpos : 0 < (orb els S0).length := List.length_pos_of_mem (orb_self h s2)
  have e3 : sumN (fun S => (stabL els S).length) (orb els S0) = sumN (fun _ => (stabL els S0).length) (orb els S0) := by
    refine sumN_congr (fun S hS => ?_)
    have hs := orb_set h s2 hS
    have h1 := orb_stabG h hs.1
    rw [orb_eq h s2 hS, ← h0] at h1
    exact Nat.eq_of_mul_eq_mul_left hpos h1
  rw [e3, sumN_const, h0]
end Go.Proofs.YthogadbnddmkdaaGreat
