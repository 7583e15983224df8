/- Transversals: the model of their search. -/
import Derived.Test.YtpaagkipnlbibaazQ1
import Derived.Test.YtpaagkipnlbibaazK29
set_option linter.unusedSimpArgs false
set_option linter.unusedVariables false
set_option maxHeartbeats 4000000
set_option maxRecDepth 100000
namespace Go.Proofs.Ytpaagkipnlbibaa
open Go.Av
structure TS where
  left : Nat
  spent : Bool
  found : List (List Int)
def anyT (a : List (List Int)) (cols : List Int) (s : Int) : Bool := (List.range cols.length).any fun i => decide (cellAt a i (cols.getD i 0).toNat = s)
def symsT (a : List (List Int)) (n : Nat) (cols : List Int) : List Bool := (List.range n).map fun (s : Nat) => anyT a cols (s : Int)
def blkT (a : List (List Int)) (cols : List Int) (y : Nat) : Bool := cols.contains (y : Int) || anyT a cols (cellAt a cols.length y)
def stepT (lim : Nat) (rec : List Int → TS → TS) (a : List (List Int)) (cols : List Int) (st : TS) (y : Nat) : TS :=
  if blkT a cols y = true then st else if st.spent = true ∨ st.found.length = lim then st else if st.left = 0 then { st with spent := true } else rec (cols ++ [(y : Int)]) { st with left := st.left - 1 }
def trv (a : List (List Int)) (n lim : Nat) : Nat → List Int → TS → TS
  | 0, cols, st => { st with found := st.found ++ [cols] }
  | k + 1, cols, st => (List.range n).foldl (stepT lim (trv a n lim k) a cols) st
theorem fold_to {α : Type} (f : α → Nat → α) (st : α) (y : Nat) : ∀ d, (∀ z, f ((List.range y).foldl f st) z = (List.range y).foldl f st) → (List.range (y + d)).foldl f st = (List.range y).foldl f st
  | 0, _ => rfl
  | d + 1, h => by
    rw [← Nat.add_assoc, List.range_succ, List.foldl_append, fold_to f st y d h]
    exact h _
theorem fold_succ {α : Type} (f : α → Nat → α) (st : α) (y : Nat) : (List.range (y + 1)).foldl f st = f ((List.range y).foldl f st) y := by
  rw [List.range_succ, List.foldl_append]; rfl
theorem stepT_stop {lim : Nat} {rec : List Int → TS → TS} {a : List (List Int)} {cols : List Int} {st : TS} (h : st.spent = true ∨ st.found.length = lim) (y : Nat) : stepT lim rec a cols st y = st := by
  unfold stepT
  rw [if_pos h, ite_self]
theorem foldT_inv {P : TS → Prop} {lim : Nat} {rec : List Int → TS → TS} {a : List (List Int)} {cols : List Int} (h0 : ∀ st, P st → P { st with spent := true })
    (hr : ∀ c st, P st → st.spent = false → st.found.length ≠ lim → st.left ≠ 0 → P (rec c { st with left := st.left - 1 })) : ∀ (l : List Nat) (st : TS), P st → P (l.foldl (stepT lim rec a cols) st)
  | [], _, h => h
  | y :: l, st, h => by
    rw [List.foldl_cons]
    refine foldT_inv h0 hr l _ ?_
    unfold stepT
    split
    · exact h
    · split
      · exact h
      · rename_i h2
        split
        · exact h0 _ h
        · rename_i h3
          refine hr _ _ h ?_ (fun e => h2 (.inr e)) h3
          cases hs : st.spent with
          | false => rfl
          | true => exact absurd (.inl hs) h2
theorem trv_left (a : List (List Int)) (n lim : Nat) (b : Nat) : ∀ (k : Nat) (cols : List Int) (st : TS), st.left ≤ b → (trv a n lim k cols st).left ≤ b
  | 0, _, _, h => h
  | k + 1, _, st, h => foldT_inv (P := fun st => st.left ≤ b) (fun _ h => h) (fun c st h _ _ _ => trv_left a n lim b k c _ (by show st.left - 1 ≤ b; omega)) _ st h
theorem trv_found (a : List (List Int)) (n lim : Nat) : ∀ (k : Nat) (cols : List Int) (st : TS), st.found.length < lim → (trv a n lim k cols st).found.length ≤ lim
  | 0, _, st, h => by show (st.found ++ [_]).length ≤ lim; rw [List.length_append]; exact h
  | k + 1, _, st, h => foldT_inv (P := fun st => st.found.length ≤ lim) (fun _ h => h) (fun c st h _ h2 _ => trv_found a n lim k c _ (by show st.found.length < lim; omega)) _ st (Nat.le_of_lt h)
theorem symsT_len (a : List (List Int)) (n : Nat) (cols : List Int) : (symsT a n cols).length = n := by simp [symsT]
theorem symsT_get {a : List (List Int)} {n : Nat} {cols : List Int} {s : Nat} (h : s < n) : (symsT a n cols)[s]? = some (anyT a cols (s : Int)) := by
  unfold symsT
  rw [List.getElem?_map, List.getElem?_range h]; rfl
theorem getD_pre {cols : List Int} {y : Int} {i : Nat} (h : i < cols.length) : (cols ++ [y]).getD i 0 = cols.getD i 0 := by
  rw [List.getD_eq_getElem?_getD, List.getElem?_append_left h, ← List.getD_eq_getElem?_getD]
theorem anyT_push (a : List (List Int)) (cols : List Int) (y : Nat) (s : Int) : anyT a (cols ++ [(y : Int)]) s = (anyT a cols s || decide (cellAt a cols.length y = s)) := by
  have e : (cols ++ [(y : Int)]).getD cols.length 0 = y := by rw [List.getD_eq_getElem?_getD, List.getElem?_append_right (Nat.le_refl _), Nat.sub_self]; rfl
  unfold anyT
  rw [List.length_append, List.length_singleton, List.range_succ, List.any_append]
  congr 1
  · rw [Bool.eq_iff_iff]
    simp only [List.any_eq_true, List.mem_range, decide_eq_true_eq]
    constructor
    · rintro ⟨i, hi, h⟩
      rw [getD_pre hi] at h
      exact ⟨i, hi, h⟩
    · rintro ⟨i, hi, h⟩
      exact ⟨i, hi, by rw [getD_pre hi]; exact h⟩
  · simp only [List.any_cons, List.any_nil, Bool.or_false, e, Int.toNat_natCast]
theorem symsT_push {a : List (List Int)} {n : Nat} {cols : List Int} {y s : Nat} (hs : cellAt a cols.length y = s) : symsT a n (cols ++ [(y : Int)]) = (symsT a n cols).set s true := by
  refine List.ext_getElem? fun j => ?_
  by_cases hj : j < n
  · rw [symsT_get hj, anyT_push, hs]
    by_cases he : s = j
    · subst he
      rw [List.getElem?_set_self (by rw [symsT_len]; exact hj)]
      simp
    · rw [List.getElem?_set_ne he, symsT_get hj, decide_eq_false (by omega), Bool.or_false]
  · rw [List.getElem?_eq_none (by rw [symsT_len]; omega), List.getElem?_eq_none (by rw [List.length_set, symsT_len]; omega)]
theorem symsT_pop {a : List (List Int)} {n : Nat} {cols : List Int} {y s : Nat} (hs : cellAt a cols.length y = s) (hn : s < n) (hf : anyT a cols (s : Int) = false) : (symsT a n (cols ++ [(y : Int)])).set s false = symsT a n cols := by
  rw [symsT_push hs, List.set_set]
  refine List.ext_getElem? fun j => ?_
  by_cases he : s = j
  · subst he
    rw [List.getElem?_set_self (by rw [symsT_len]; exact hn), symsT_get hn, hf]
  · rw [List.getElem?_set_ne he]
theorem latB_facts {a : List (List Int)} (h : latB a = true) : (1 ≤ a.length ∧ a.length ≤ 10) ∧ (∀ r ∈ a, r.length = a.length) ∧ ∀ x y, x < a.length → y < a.length → ∃ s : Nat, cellAt a x y = s ∧ s < a.length := by
  unfold latB at h
  simp only [Bool.and_eq_true, decide_eq_true_eq, List.all_eq_true] at h
  obtain ⟨⟨h1, h2⟩, -⟩ := h
  refine ⟨h1, fun r hr => (h2 r hr).1, fun x y hx hy => ?_⟩
  have hm : a.getD x [] ∈ a := by rw [getD_get hx]; exact List.getElem_mem _
  obtain ⟨h3, h4⟩ := h2 _ hm
  unfold permB at h4
  simp only [Bool.and_eq_true, decide_eq_true_eq] at h4
  have hz : cellAt a x y ∈ a.getD x [] := by
    unfold cellAt
    rw [getD_get (show y < (a.getD x []).length by omega)]
    exact List.getElem_mem _
  have := h4.2.1 _ hz
  rw [h3] at this
  obtain ⟨s, hs⟩ := Int.eq_ofNat_of_zero_le this.1
  exact ⟨s, hs, by omega⟩
end Go.Proofs.Ytpaagkipnlbibaa
