/- Sets of a size, in memory of the call's own. -/
import Derived.Test.YthogadbnddmkdaaGreatzK23
import Derived.Test.YthogadbnddmkdaaGreatzK20
set_option linter.unusedSimpArgs false
set_option linter.unusedVariables false
set_option maxHeartbeats 4000000
set_option maxRecDepth 100000
namespace Go.Proofs.YthogadbnddmkdaaGreat
open Go.Av
theorem froz_rdU {H : List Blk} {b r ver len : Nat} {xs : List Int} (hb : b ≤ r) (ha : RdS H (.nm r ver 0 len) xs) : Froz H b (.nm r ver 0 len) (ilS xs) := by
  simp only [RdS, aview] at ha
  split at ha
  case h_2 => simp at ha
  case h_1 k hk =>
    split at ha
    case isFalse => simp at ha
    case isTrue hv =>
      simp only [Option.some.injEq, Prod.mk.injEq] at ha
      obtain ⟨rfl, h2⟩ := ha
      refine .nm r ver 0 xs.length k (xs.map I) hb hk hv (by rw [h2]) ?_
      intro j c c' g1 g2
      rw [h2, g2] at g1; cases g1
      obtain ⟨x, _, rfl⟩ := List.mem_map.1 (List.mem_of_getElem? g2)
      exact froz_I _ _ _
theorem RdS.froz0 {H : List Blk} {r ver len : Nat} {xs : List Int} (ha : RdS H (.nm r ver 0 len) xs) : Froz H 0 (.nm r ver 0 len) (ilS xs) := froz_rdU (Nat.zero_le _) ha
end Go.Proofs.YthogadbnddmkdaaGreat
