/- Orbits of all sets of k points: what both reckon. -/
import Derived.Test.YtmdeibdplpodpaaGreatzK23
import Derived.Test.YtmdeibdplpodpaaGreatzK28
import Derived.Test.YtmdeibdplpodpaaGreatzVA
import Derived.Test.YtmdeibdplpodpaaGreatzK20
import Derived.Test.YtmdeibdplpodpaaGreatzK50
import Derived.Test.YtmdeibdplpodpaaGreatzL8
import Derived.Test.YtmdeibdplpodpaaGreatzK18
import Derived.Test.YtmdeibdplpodpaaGreatzK19
import Derived.Test.YtmdeibdplpodpaaGreatzU1
import Derived.Test.YtmdeibdplpodpaaGreatzK8
import Derived.Test.YtmdeibdplpodpaaGreatzSZ
import Derived.Test.YtmdeibdplpodpaaGreatzK2
import Derived.Test.YtmdeibdplpodpaaGreatzL1
import Derived.Test.YtmdeibdplpodpaaGreatzK1
import Derived.Test.YtmdeibdplpodpaaGreatzCP
import Derived.Test.YtmdeibdplpodpaaGreatzK62
import Derived.Test.YtmdeibdplpodpaaGreatzG1
set_option linter.unusedSimpArgs false
set_option linter.unusedVariables false
set_option maxHeartbeats 4000000
set_option maxRecDepth 100000
namespace Go.Proofs.YtmdeibdplpodpaaGreat
open Go.Av
theorem asc_ofZ : ∀ {l : List Int} {lo hi : Int}, Asc cmpZ l → (∀ x ∈ l, lo ≤ x ∧ x ≤ hi) → asc lo hi l = true
  | [], _, _, _, _ => rfl
  | x :: r, lo, hi, h, hm => by
    have h' := List.pairwise_cons.1 h
    simp only [asc, Bool.and_eq_true, decide_eq_true_eq]
    refine ⟨hm x (by simp), asc_ofZ h'.2 fun y hy => ?_⟩
    have h1 := h'.1 y hy
    have h2 := hm y (by simp [hy])
    unfold cmpZ at h1
    omega
theorem img_asc {n : Nat} {p b : List Int} (hp : permOk n p) (hb : asc 0 ((n : Int) - 1) b = true) : asc 0 ((n : Int) - 1) (img p b) = true := by
  refine asc_ofZ (sortU_asc cmpZ_tot _) fun x hx => ?_
  obtain ⟨y, hy, rfl⟩ := (img_mem p b x).1 hx
  have hyb := asc_mem hb y hy
  have hg := pa_get hp (x := y) (by omega) (by omega)
  have hm : pa p y ∈ p := by
    rw [← hg.2, List.getD_eq_getElem?_getD, List.getElem?_eq_getElem hg.1]; exact List.getElem_mem _
  have := hp.2.2 _ hm
  omega
theorem img_length {n : Nat} {p b : List Int} (hp : permOk n p) (hb : asc 0 ((n : Int) - 1) b = true) : (img p b).length = b.length := by
  have := (sortU_perm cmpZ_tot (map_nodup hp hb)).length_eq
  unfold img
  rw [this, List.length_map]
end Go.Proofs.YtmdeibdplpodpaaGreat
