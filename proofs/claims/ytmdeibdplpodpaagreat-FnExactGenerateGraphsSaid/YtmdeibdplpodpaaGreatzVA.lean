/- Groups of permutations: what some permutations generate. Permutations composed; their keys. Groups of permutations: the closure in the program. -/
import Derived.Test.YtmdeibdplpodpaaGreatzK66
import Derived.Test.YtmdeibdplpodpaaGreatzK60
import Derived.Test.YtmdeibdplpodpaaGreatzK8
import Derived.Test.YtmdeibdplpodpaaGreatzK50
import Derived.Test.YtmdeibdplpodpaaGreatzU1
import Derived.Test.YtmdeibdplpodpaaGreatzK62
set_option linter.unusedSimpArgs false
set_option linter.unusedVariables false
set_option maxHeartbeats 4000000
set_option maxRecDepth 100000
namespace Go.Proofs.YtmdeibdplpodpaaGreat
open Go.Av
inductive Gen (n : Nat) (gs : List (List Int)) : List Int → Prop
  | one : Gen n gs (idL n)
  | step (p g : List Int) (hg : g ∈ gs) (h : Gen n gs p) : Gen n gs (mul p g)
theorem Gen.ok {n : Nat} {gs : List (List Int)} (hg : ∀ g ∈ gs, permOk n g) {p : List Int} (h : Gen n gs p) : permOk n p := by
  induction h with
  | one => exact idL_ok n
  | step p g hm _ ih => exact mul_ok ih (hg g hm)
theorem Gen.mono {n : Nat} {gs hs : List (List Int)} (hsub : ∀ g ∈ gs, g ∈ hs) {p : List Int} (h : Gen n gs p) : Gen n hs p := by
  induction h with
  | one => exact .one
  | step p g hm _ ih => exact .step p g (hsub g hm) ih
theorem Gen.mul {n : Nat} {gs : List (List Int)} (hg : ∀ g ∈ gs, permOk n g) {p q : List Int} (h : Gen n gs p) (k : Gen n gs q) : Gen n gs (mul p q) := by
  induction k with
  | one => rw [mul_one (h.ok hg)]; exact h
  | step q g hm hq ih => rw [mul_assoc' (h.ok hg) (hq.ok hg)]; exact .step _ g hm ih
theorem Gen.trans {n : Nat} {gs hs : List (List Int)} (hg : ∀ g ∈ gs, permOk n g) (hsub : ∀ h ∈ hs, Gen n gs h) {p : List Int} (h : Gen n hs p) : Gen n gs p := by
  induction h with
  | one => exact .one
  | step p g hm _ ih => exact ih.mul hg (hsub g hm)
end Go.Proofs.YtmdeibdplpodpaaGreat
namespace Go.Proofs.YtmdeibdplpodpaaGreat
open Go.Av
end Go.Proofs.YtmdeibdplpodpaaGreat
namespace Go.Proofs.YtmdeibdplpodpaaGreat
open Go.Av
end Go.Proofs.YtmdeibdplpodpaaGreat
