/- Counting packings: the reference's walk. -/
import Derived.Test.YthogadbnddmkdaaGreatzSR
import Derived.Test.YthogadbnddmkdaaGreatzOW
import Derived.Test.YthogadbnddmkdaaGreatzY0
import Derived.Test.YthogadbnddmkdaaGreatzU1
import Derived.Test.YthogadbnddmkdaaGreatzK23
import Derived.Test.YthogadbnddmkdaaGreatzK18
import Derived.Test.YthogadbnddmkdaaGreatzK27
import Derived.Test.YthogadbnddmkdaaGreatProg
import Derived.KernelRfl
set_option linter.unusedSimpArgs false
set_option linter.unusedVariables false
set_option maxHeartbeats 4000000
set_option maxRecDepth 100000
namespace Go.Proofs.YthogadbnddmkdaaGreat
open Go.Av
def ArgR (p : Nat) (H : List Blk) (a : AV) (B : List (List Int)) : Prop := (a = ilSS B ∨ a = nilS ∧ B = []) ∨ ∃ i ver, a = .nm i ver 0 B.length ∧ i ≠ p ∧ H[i]? = some ⟨ver, tyLL, 1, B.map ilS⟩
section
variable {p : Nat} {H : List Blk} {a : AV} {B : List (List Int)}
theorem ArgR.froz (h : ArgR p H a B) : Froz H 0 a (ilSS B) := by
  rcases h with (rfl | ⟨rfl, rfl⟩) | ⟨i, ver, rfl, -, h⟩
  · exact froz_ilSS _
  · exact .nil
  · exact froz_rowS (Nat.zero_le _) h
theorem ArgR.set (h : ArgR p H a B) (b : Blk) : ArgR p (H.set p b) a B := by
  rcases h with h | ⟨i, ver, rfl, hn, h⟩
  · exact .inl h
  · exact .inr ⟨i, ver, rfl, hn, by rw [List.getElem?_set_ne (Ne.symm hn)]; exact h⟩
theorem ArgR.app (h : ArgR p H a B) (ext : List Blk) : ArgR p (H ++ ext) a B := by
  rcases h with h | ⟨i, ver, rfl, hn, h⟩
  · exact .inl h
  · exact .inr ⟨i, ver, rfl, hn, by rw [List.getElem?_append_left (List.getElem?_eq_some_iff.1 h).1]; exact h⟩
theorem ArgR.bel (h : ArgR p H a B) : Bel H.length a := by
  rcases h with (rfl | ⟨rfl, rfl⟩) | ⟨i, ver, rfl, hn, h⟩
  · rw [Bel_ilSS]; trivial
  · exact .lit _
  · exact .nm _ _ _ _ (List.getElem?_eq_some_iff.1 h).1
end
end Go.Proofs.YthogadbnddmkdaaGreat
namespace Go.Proofs.YthogadbnddmkdaaGreat
open Go.Av
theorem getAppB {H : List Blk} {p : Nat} {b : Blk} (h : H[p]? = some b) (ext : List Blk) : (H ++ ext)[p]? = some b := by
  rw [List.getElem?_append_left (List.getElem?_eq_some_iff.1 h).1]; exact h
theorem FcallW.rows {P : Program} {f : FuncId} {args : List AV} {X : List Blk} {B : List (List Int)} {K : AV → List Blk → Prop}
    (h : ACalls P f args X (fun r H' => ∃ ver, r = .nm X.length ver 0 B.length ∧ H' = X ++ [⟨ver, tyLL, 1, B.map ilS⟩]))
    (hk : ∀ ver, K (.nm X.length ver 0 B.length) (X ++ [⟨ver, tyLL, 1, B.map ilS⟩])) : FcallW P f args X K := by
  refine h.mono ?_
  rintro r H' ⟨ver, rfl, rfl⟩
  exact ⟨hk ver, _, rfl⟩
end Go.Proofs.YthogadbnddmkdaaGreat
