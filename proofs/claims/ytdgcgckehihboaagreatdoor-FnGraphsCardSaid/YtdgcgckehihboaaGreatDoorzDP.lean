/- Some permutation, drawn. -/
import Derived.Test.YtdgcgckehihboaaGreatDoorzSR
import Derived.Test.YtdgcgckehihboaaGreatDoorzK60
import Derived.Test.YtdgcgckehihboaaGreatDoorzOW
set_option linter.unusedSimpArgs false
set_option linter.unusedVariables false
set_option linter.unusedSectionVars false
set_option maxHeartbeats 4000000
set_option maxRecDepth 100000
namespace Go.Proofs.YtdgcgckehihboaaGreatDoor
variable [Go.Av.DoorC]
open Go.Av
theorem permOk_swap {n : Nat} {p : List Int} (hp : permOk n p) {i j : Nat} (hi : i < p.length) (hj : j < p.length) : permOk n ((p.set i p[j]).set j p[i]) := by
  have h : ((p.set i p[j]).set j p[i]).Perm p := List.set_set_perm hi hj
  refine ⟨by simpa using hp.1, h.nodup_iff.2 hp.2.1, fun x hx => hp.2.2 x (h.mem_iff.1 hx)⟩
theorem idL_succ (i : Nat) : idL (i + 1) = idL i ++ [(i : Int)] := by simp [idL, tab, List.range_succ]
end Go.Proofs.YtdgcgckehihboaaGreatDoor
