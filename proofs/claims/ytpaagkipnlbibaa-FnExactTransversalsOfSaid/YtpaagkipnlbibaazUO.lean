/- Transversals: what is answered. -/
import Derived.Test.YtpaagkipnlbibaazUG
set_option linter.unusedSimpArgs false
set_option linter.unusedVariables false
set_option maxHeartbeats 4000000
set_option maxRecDepth 100000
namespace Go.Proofs.Ytpaagkipnlbibaa
open Go.Av
theorem foldT_rows {n lim : Nat} (a : List (List Int)) : ∀ (k : Nat) (cols : List Int) (st : TS), cols.length + k = n → (∀ r ∈ st.found, r.length = n) → ∀ r ∈ (trv a n lim k cols st).found, r.length = n
  | 0, cols, st, h, hs => by
    intro r hr
    rcases List.mem_append.1 (show r ∈ st.found ++ [cols] from hr) with h2 | h2
    · exact hs r h2
    · rw [List.mem_singleton.1 h2]; omega
  | k + 1, cols, st, h, hs => by
    have inv : ∀ (l : List Nat) (st : TS), (∀ r ∈ st.found, r.length = n) → ∀ r ∈ (l.foldl (stepT lim (trv a n lim k) a cols) st).found, r.length = n := by
      intro l
      induction l with
      | nil => intro st hs; exact hs
      | cons y l ih =>
        intro st hs
        rw [List.foldl_cons]
        refine ih _ ?_
        unfold stepT
        split
        · exact hs
        · split
          · exact hs
          · split
            · exact hs
            · exact foldT_rows a k _ _ (by simp; omega) hs
    exact inv _ st hs
def trV (a : List (List Int)) (lim b : Int) : List (List Int) × Int :=
  if !latB a then ([], 1) else if !(decide (1 ≤ b) && decide (b ≤ 20000)) || !(decide (1 ≤ lim) && decide (lim ≤ 100)) then ([], 2) else
    if (trv a a.length lim.toNat a.length [] ⟨b.toNat, false, []⟩).spent then ([], 5) else ((trv a a.length lim.toNat a.length [] ⟨b.toNat, false, []⟩).found, 0)
theorem trV_small (a : List (List Int)) (lim b : Int) : (trV a lim b).1.length ≤ 100 ∧ ∀ r ∈ (trV a lim b).1, r.length ≤ 10 := by
  unfold trV
  split
  · simp
  · rename_i h1
    simp only [Bool.not_eq_true', Bool.not_eq_false] at h1
    have hf := latB_facts h1
    split
    · simp
    · rename_i h2
      simp only [Bool.or_eq_true, Bool.not_eq_true', not_or, Bool.not_eq_false, Bool.and_eq_true, decide_eq_true_eq] at h2
      split
      · simp
      · refine ⟨?_, fun r hr => ?_⟩
        · have := trv_found a a.length lim.toNat a.length [] ⟨b.toNat, false, []⟩ (by show 0 < lim.toNat; omega)
          show (trv a a.length lim.toNat a.length [] ⟨b.toNat, false, []⟩).found.length ≤ 100
          omega
        · have := foldT_rows (n := a.length) (lim := lim.toNat) a a.length [] ⟨b.toNat, false, []⟩ (by simp) (by simp) r hr
          omega
theorem symsT_nil (a : List (List Int)) (n : Nat) : symsT a n [] = List.replicate n false := by
  unfold symsT anyT
  simp [List.map_const']
theorem ext_of {H H1 : List Blk} (hl : H.length ≤ H1.length) (hs : ∀ j, j < H.length → H1[j]? = H[j]?) : ∃ ext, H1 = H ++ ext := by
  refine ⟨H1.drop H.length, ?_⟩
  have e : H1.take H.length = H := by
    refine List.ext_getElem? fun j => ?_
    rw [List.getElem?_take]
    split
    · exact hs j (by assumption)
    · rw [List.getElem?_eq_none (by omega)]
  conv => rhs; rw [← e]
  rw [List.length_take, Nat.min_eq_left hl, List.take_append_drop]
end Go.Proofs.Ytpaagkipnlbibaa
