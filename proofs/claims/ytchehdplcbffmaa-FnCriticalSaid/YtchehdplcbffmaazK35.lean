/- The first completion of a partial square. -/
import Derived.Test.YtchehdplcbffmaaProg
import Derived.KernelRfl
import Derived.Test.YtchehdplcbffmaazK34
import Derived.Test.YtchehdplcbffmaazM2
set_option linter.unusedSimpArgs false
set_option linter.unusedVariables false
set_option maxHeartbeats 4000000
set_option maxRecDepth 100000
namespace Go.Proofs.Ytchehdplcbffmaa
open Go.Av
theorem sq_own {Hb ext : List Blk} {v w b : Nat} {xss : List (List Int)} (hb : b ≤ Hb.length) : OwnSS (Hb ++ (sqB v w Hb.length xss ++ ext)) (Btw b (Hb ++ (sqB v w Hb.length xss ++ ext)).length) (.nm Hb.length v 0 xss.length) xss := by
  have hlen : (Hb ++ (sqB v w Hb.length xss ++ ext)).length = Hb.length + (xss.length + 1 + ext.length) := by simp [sqB_length]
  refine .inl ⟨Hb.length, v, _, _, rfl, ⟨hb, by rw [hlen]; omega⟩, sq_get0, nmsV_length _ _ _, ?_, ?_⟩
  · intro j c xs hc hx
    have hl := (List.getElem?_eq_some_iff.1 hx).1
    rw [sq_cell hl] at hc
    cases hc
    have e : xss.getD j [] = xs := by rw [List.getD_eq_getElem?_getD, hx]; rfl
    have := sq_get (Hb := Hb) (v := v) (w := w) (ext := ext) hl
    rw [e] at this ⊢
    exact .inl ⟨Hb.length + 1 + j, w, _, rfl, ⟨by omega, by rw [hlen]; omega⟩, by omega, this⟩
  · intro i j r v1 o1 l1 v2 o2 l2 hij h1 h2
    have hi : i < xss.length := by have := (List.getElem?_eq_some_iff.1 h1).1; rwa [nmsV_length] at this
    have hj : j < xss.length := by have := (List.getElem?_eq_some_iff.1 h2).1; rwa [nmsV_length] at this
    rw [sq_cell hi] at h1
    rw [sq_cell hj] at h2
    simp only [Option.some.injEq, AV.nm.injEq] at h1 h2
    omega
end Go.Proofs.Ytchehdplcbffmaa
