/- FnCover: the law. -/
import Derived.Test.YtnlfokkljgbaaaaProg
import Derived.KernelRfl
import Derived.Test.YtnlfokkljgbaaaazCA
import Derived.Test.YtnlfokkljgbaaaazK39
import Derived.Test.YtnlfokkljgbaaaazCE0
import Derived.Test.YtnlfokkljgbaaaazCB
import Derived.Test.YtnlfokkljgbaaaazAvA
import Derived.Test.YtnlfokkljgbaaaazGF
import Derived.Test.YtnlfokkljgbaaaazAv17
import Derived.Test.YtnlfokkljgbaaaazK31
import Derived.Test.YtnlfokkljgbaaaazUG
import Derived.Test.YtnlfokkljgbaaaazCO
import Derived.Test.YtnlfokkljgbaaaazK41
import Derived.Test.YtnlfokkljgbaaaazSB
import Derived.Test.YtnlfokkljgbaaaazK7
set_option linter.unusedSimpArgs false
set_option linter.unusedVariables false
set_option maxHeartbeats 4000000
set_option maxRecDepth 100000
namespace Go.Proofs.Ytnlfokkljgbaaaa
open Go.Av
theorem ren_nmC {H : List Blk} {k : Nat} {js : List (Option Nat)} {r ver ty sz n : Nat} {cells cs : List AV} (hb : k ≤ r) (hj : some r ∉ js) (hr : H[r]? = some ⟨ver, ty, sz, cells⟩) (hl : cells.length = n * sz) (hcs : cs.length = cells.length)
    (h : ∀ (j : Nat) (c c' : AV), cells[j]? = some c → cs[j]? = some c' → Ren H k js c c') : Ren H k js (.nm r ver 0 n) (.il n cs) := by
  have hc : (cells.drop 0).take (n * sz) = cells := by rw [List.drop_zero]; exact List.take_of_length_le (by omega)
  exact .fz r ver 0 n _ cs hb hj hr rfl (by simp only [hc]; exact hcs) (fun j c c' g1 g2 => h j c c' (by simp only [hc] at g1; exact g1) g2)
end Go.Proofs.Ytnlfokkljgbaaaa
