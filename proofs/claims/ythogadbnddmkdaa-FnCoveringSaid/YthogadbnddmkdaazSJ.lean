/- Counting packings: the reference's walk. -/
import Derived.Test.YthogadbnddmkdaaProg
import Derived.KernelRfl
import Derived.Test.YthogadbnddmkdaazSR
import Derived.Test.YthogadbnddmkdaazOW
import Derived.Test.YthogadbnddmkdaazY0
import Derived.Test.YthogadbnddmkdaazU1
import Derived.Test.YthogadbnddmkdaazK23
import Derived.Test.YthogadbnddmkdaazK18
import Derived.Test.YthogadbnddmkdaazK27
set_option linter.unusedSimpArgs false
set_option linter.unusedVariables false
set_option maxHeartbeats 4000000
set_option maxRecDepth 100000
namespace Go.Proofs.Ythogadbnddmkdaa
open Go.Av
def ArgR (p : Nat) (H : List Blk) (a : AV) (B : List (List Int)) : Prop := (a = ilSS B ∨ a = nilS ∧ B = []) ∨ ∃ i ver, a = .nm i ver 0 B.length ∧ i ≠ p ∧ H[i]? = some ⟨ver, tyLL, 1, B.map ilS⟩
section
variable {p : Nat} {H : List Blk} {a : AV} {B : List (List Int)}
theorem ArgR.froz (h : ArgR p H a B) : Froz H 0 a (ilSS B) := by
  rcases h with (rfl | ⟨rfl, rfl⟩) | ⟨i, ver, rfl, -, h⟩
  · exact froz_ilSS _
  · exact .nil
  · exact froz_rowS (Nat.zero_le _) h
theorem ArgR.set (h : ArgR p H a B) (b : Blk) : ArgR p (H.set p b) a B := by
  rcases h with h | ⟨i, ver, rfl, hn, h⟩
  · exact .inl h
  · exact .inr ⟨i, ver, rfl, hn, by rw [List.getElem?_set_ne (Ne.symm hn)]; exact h⟩
theorem ArgR.app (h : ArgR p H a B) (ext : List Blk) : ArgR p (H ++ ext) a B := by
  rcases h with h | ⟨i, ver, rfl, hn, h⟩
  · exact .inl h
  · exact .inr ⟨i, ver, rfl, hn, by rw [List.getElem?_append_left (List.getElem?_eq_some_iff.1 h).1]; exact h⟩
theorem ArgR.bel (h : ArgR p H a B) : Bel H.length a := by
  rcases h with (rfl | ⟨rfl, rfl⟩) | ⟨i, ver, rfl, hn, h⟩
  · rw [Bel_ilSS]; trivial
  · exact .lit _
  · exact .nm _ _ _ _ (List.getElem?_eq_some_iff.1 h).1
end
end Go.Proofs.Ythogadbnddmkdaa
