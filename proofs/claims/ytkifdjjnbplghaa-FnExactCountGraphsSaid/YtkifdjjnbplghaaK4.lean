/- Arguments copied and compared, as computations. -/
import Derived.Test.YtkifdjjnbplghaaL7
import Derived.Test.YtkifdjjnbplghaaK1
set_option linter.unusedSimpArgs false
set_option linter.unusedVariables false
set_option maxHeartbeats 4000000
set_option maxRecDepth 100000
namespace Go.Proofs.Ytkifdjjnbplghaa
open Go.Av

theorem toInt64S_fn (xs : List Int) (hs : xs.length ≤ 1073741824) : PFn Try.prog f_laws_toInt64S [ilS xs] (ilS xs) := by
  intro H
  refine (toInt64S_ok H _ xs (rd_ilS _ _) hs).gr ?_
  rintro r H' ⟨rfl, rfl⟩
  exact GR.froz (froz_row (ver := 0) (ty := 2) (Nat.le_refl _) (by simp)) ⟨rfl, rfl⟩
theorem toInt64SS_fn (xss : List (List Int)) (hs : xss.length ≤ 1073741824) (hs' : ∀ xs ∈ xss, xs.length ≤ 1073741824) : PFn Try.prog f_laws_toInt64SS [ilSS xss] (ilSS xss) := by
  intro H
  refine (toInt64SS_ok H _ xss (rd_ilSS _ _) hs hs').gr ?_
  rintro r H' ⟨rfl, rfl⟩
  have h1 := OwnC.names (H := H) (ext := []) (ver := 0) (ty := tySS) xss
  rw [List.append_nil] at h1
  exact GR.froz (OwnSS.froz (base := H.length) (.inl ⟨_, _, _, _, rfl, h1⟩) (fun r hr => hr.1)) ⟨rfl, rfl⟩
theorem eqInt64S_fn2 (xs : List Int) : PFn Try.prog f_laws_eqInt64S [ilS xs, ilS xs] (Bv true) := fun H => by
  simpa using eqInt64S_ok H _ _ xs xs (rd_ilS _ _) (rd_ilS _ _)
theorem eqInt64SS_fn2 (xss : List (List Int)) : PFn Try.prog f_laws_eqInt64SS [ilSS xss, ilSS xss] (Bv true) := fun H => by
  simpa using eqInt64SS_ok H _ _ xss xss (rd_ilSS _ _) (rd_ilSS _ _)
end Go.Proofs.Ytkifdjjnbplghaa
