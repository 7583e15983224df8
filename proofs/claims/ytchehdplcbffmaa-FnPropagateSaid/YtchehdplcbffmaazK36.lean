/- Critical sets. -/
import Derived.Test.YtchehdplcbffmaaProg
import Derived.KernelRfl
import Derived.Test.YtchehdplcbffmaazK35
set_option linter.unusedSimpArgs false
set_option linter.unusedVariables false
set_option maxHeartbeats 4000000
set_option maxRecDepth 100000
namespace Go.Proofs.Ytchehdplcbffmaa
open Go.Av
theorem setC_self {sq : List (List Int)} {x y : Nat} {v : Int} (hx : x < sq.length) (hy : y < (sq.getD x []).length) : cellAt (setC sq x y v) x y = v := by
  unfold cellAt setC
  have e : (sq.set x ((sq.getD x []).set y v)).getD x [] = (sq.getD x []).set y v := by simp [List.getD_eq_getElem?_getD, hx]
  rw [e, List.getD_eq_getElem?_getD, List.getElem?_set_self hy]; rfl
theorem partB_iff (p : List (List Int)) : partB p = true ↔ (1 ≤ p.length ∧ p.length ≤ 10) ∧ (∀ r ∈ p, r.length = p.length) ∧ ∀ x y, x < p.length → y < p.length → okS p x y := by
  constructor
  · intro h
    have hf := partB_facts h
    refine ⟨⟨hf.1, hf.2.1⟩, hf.2.2, (ok_all p hf.2.2).1 ?_⟩
    simp only [partB, Bool.and_eq_true, decide_eq_true_eq, List.all_eq_true, List.mem_range] at h
    exact fun x y hx hy => h.2 x hx y hy
  · rintro ⟨h1, h2, h3⟩
    have h4 := (ok_all p h2).2 h3
    simp only [partB, Bool.and_eq_true, decide_eq_true_eq, List.all_eq_true, List.mem_range]
    exact ⟨⟨⟨h1.1, h1.2⟩, h2⟩, fun x hx y hy => h4 x y hx hy⟩
theorem FSS.lendf {P : Program} {f : FuncId} {args args' : List AV} {xss : List (List Int)} {code : Int} (h : FSS P f args' xss code) {H : List Blk} (hf : Frozs H args args') : ACalls P f args H fun r H' => r = .tup [ilSS xss, I code] ∧ H' = H := by
  refine (h.lend hf).gr ?_
  rintro r H' ⟨ext, v, rfl, rfl, ho⟩
  exact GR.froz (froz_tup2 (ho.froz (fun i hi => hi.1)) (froz_I' _)) ⟨rfl, rfl⟩
end Go.Proofs.Ytchehdplcbffmaa
