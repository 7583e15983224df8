/- Mates: the model of their search. -/
import Derived.Test.YtflnjgeoegofdaazGV
import Derived.Test.YtflnjgeoegofdaazUE
import Derived.Test.YtflnjgeoegofdaazK31
set_option linter.unusedSimpArgs false
set_option linter.unusedVariables false
set_option maxHeartbeats 4000000
set_option maxRecDepth 100000
namespace Go.Proofs.Ytflnjgeoegofdaa
open Go.Av
structure MS where
  left : Nat
  spent : Bool
  res : Option (List (List Int))
def colM (b : List (List Int)) (n k y : Nat) : Bool := (List.range n).any fun i => decide (cellAt b i y = (k : Int))
def symM (a b : List (List Int)) (n k s : Nat) : Bool := (List.range n).any fun i => (List.range n).any fun j => decide (cellAt b i j = (k : Int)) && decide (cellAt a i j = (s : Int))
def blkM (a b : List (List Int)) (n k x y : Nat) : Bool := (colM b n k y || symM a b n k (cellAt a x y).toNat) || decide (0 ≤ cellAt b x y)
def stepM (a : List (List Int)) (n : Nat) (rec : List (List Int) → MS → MS) (b : List (List Int)) (k x : Nat) (st : MS) (y : Nat) : MS :=
  if blkM a b n k x y = true then st else if st.spent = true ∨ st.res.isSome = true then st else if st.left = 0 then { st with spent := true } else rec (setC b x y (k : Int)) { st with left := st.left - 1 }
def matR (a : List (List Int)) (n : Nat) : Nat → List (List Int) → MS → MS
  | 0, b, st => { st with res := some b }
  | r + 1, b, st => (List.range n).foldl (stepM a n (matR a n r) b ((n * (n - 1) - (r + 1)) / (n - 1)) ((n * (n - 1) - (r + 1)) % (n - 1) + 1)) st
theorem stepM_stop {a : List (List Int)} {n : Nat} {rec : List (List Int) → MS → MS} {b : List (List Int)} {k x : Nat} {st : MS} (h : st.spent = true ∨ st.res.isSome = true) (y : Nat) : stepM a n rec b k x st y = st := by
  unfold stepM
  rw [if_pos h, ite_self]
theorem posM {n k x r : Nat} (h : k * (n - 1) + x + (r + 1) = n * (n - 1)) (hx : x < n - 1) : (n * (n - 1) - (r + 1)) / (n - 1) = k ∧ (n * (n - 1) - (r + 1)) % (n - 1) = x := by
  have e : n * (n - 1) - (r + 1) = x + (n - 1) * k := by rw [Nat.mul_comm (n - 1) k]; omega
  rw [e]
  constructor
  · rw [Nat.add_mul_div_left _ _ (by omega), Nat.div_eq_of_lt hx, Nat.zero_add]
  · rw [Nat.add_mul_mod_self_left, Nat.mod_eq_of_lt hx]
theorem foldM_inv {P : MS → Prop} {a : List (List Int)} {n : Nat} {rec : List (List Int) → MS → MS} {b : List (List Int)} {k x : Nat} (h0 : ∀ st, P st → P { st with spent := true })
    (hr : ∀ b st, P st → st.spent = false → st.res = none → st.left ≠ 0 → P (rec b { st with left := st.left - 1 })) : ∀ (l : List Nat) (st : MS), P st → P (l.foldl (stepM a n rec b k x) st)
  | [], _, h => h
  | y :: l, st, h => by
    rw [List.foldl_cons]
    refine foldM_inv h0 hr l _ ?_
    unfold stepM
    split
    · exact h
    · split
      · exact h
      · rename_i h2
        split
        · exact h0 _ h
        · rename_i h3
          refine hr _ _ h ?_ ?_ h3
          · cases hs : st.spent with
            | false => rfl
            | true => exact absurd (.inl hs) h2
          · cases hs : st.res with
            | none => rfl
            | some q => exact absurd (.inr (by rw [hs]; rfl)) h2
theorem matR_left (a : List (List Int)) (n c : Nat) : ∀ (r : Nat) (b : List (List Int)) (st : MS), st.left ≤ c → (matR a n r b st).left ≤ c
  | 0, _, _, h => h
  | r + 1, b, st, h => foldM_inv (P := fun st => st.left ≤ c) (fun _ h => h) (fun b st h _ _ _ => matR_left a n c r b _ (by show st.left - 1 ≤ c; omega)) _ st h
structure BOk (b : List (List Int)) (n k x : Nat) : Prop where
  sq : b.length = n ∧ ∀ r ∈ b, r.length = n
  top : ∀ j, j < n → cellAt b 0 j = (j : Int)
  low : ∀ i j, 1 ≤ i → i < n → j < n → cellAt b i j = -1 ∨ (0 ≤ cellAt b i j ∧ (cellAt b i j < (k : Int) ∨ cellAt b i j = (k : Int) ∧ i < x))
theorem BOk.next {b : List (List Int)} {n k : Nat} (h : BOk b n k n) : BOk b n (k + 1) 1 := by
  refine ⟨h.sq, h.top, fun i j h1 h2 h3 => ?_⟩
  rcases h.low i j h1 h2 h3 with g | ⟨g, g2⟩
  · exact .inl g
  · exact .inr ⟨g, .inl (by omega)⟩
theorem cellAt_setC {b : List (List Int)} {n x y : Nat} {v : Int} (hb : b.length = n ∧ ∀ r ∈ b, r.length = n) (hx : x < n) (hy : y < n) (i j : Nat) : cellAt (setC b x y v) i j = if i = x ∧ j = y then v else cellAt b i j := by
  by_cases h : i = x ∧ j = y
  · rw [if_pos h, h.1, h.2]
    unfold cellAt setC
    have hl : (b.getD x []).length = n := hb.2 _ (by rw [getD_get (by omega)]; exact List.getElem_mem _)
    have e : (b.set x ((b.getD x []).set y v)).getD x [] = (b.getD x []).set y v := by simp [List.getD_eq_getElem?_getD, hb.1, hx]
    rw [e, getD_get (by rw [List.length_set]; omega), List.getElem_set_self]
  · rw [if_neg h]; exact setC_get h
theorem BOk.set {b : List (List Int)} {n k x y : Nat} (h : BOk b n k x) (h1 : 1 ≤ x) (hx : x < n) (hy : y < n) : BOk (setC b x y (k : Int)) n k (x + 1) := by
  refine ⟨setC_ok h.sq, fun j hj => ?_, fun i j g1 g2 g3 => ?_⟩
  · rw [cellAt_setC h.sq hx hy, if_neg (by omega)]; exact h.top j hj
  · rw [cellAt_setC h.sq hx hy]
    split
    · rename_i e
      exact .inr ⟨by omega, .inr ⟨rfl, by omega⟩⟩
    · rcases h.low i j g1 g2 g3 with g | ⟨g, g4⟩
      · exact .inl g
      · exact .inr ⟨g, by omega⟩
theorem colM_push {b : List (List Int)} {n x y : Nat} {k : Nat} (hb : b.length = n ∧ ∀ r ∈ b, r.length = n) (hx : x < n) (hy : y < n) (hc : cellAt b x y = -1) (k' y' : Nat) : colM (setC b x y (k : Int)) n k' y' = (colM b n k' y' || (decide (k = k') && decide (y = y'))) := by
  unfold colM
  rw [Bool.eq_iff_iff]
  simp only [Bool.or_eq_true, List.any_eq_true, List.mem_range, decide_eq_true_eq, Bool.and_eq_true]
  constructor
  · rintro ⟨i, hi, h⟩
    rw [cellAt_setC hb hx hy] at h
    split at h
    · rename_i e
      exact .inr ⟨by omega, e.2.symm⟩
    · exact .inl ⟨i, hi, h⟩
  · rintro (⟨i, hi, h⟩ | ⟨rfl, rfl⟩)
    · refine ⟨i, hi, ?_⟩
      rw [cellAt_setC hb hx hy, if_neg]
      · exact h
      · rintro ⟨rfl, rfl⟩
        rw [hc] at h; omega
    · exact ⟨x, hx, by rw [cellAt_setC hb hx hy, if_pos ⟨rfl, rfl⟩]⟩
theorem symM_push {a b : List (List Int)} {n x y s : Nat} {k : Nat} (hb : b.length = n ∧ ∀ r ∈ b, r.length = n) (hx : x < n) (hy : y < n) (hc : cellAt b x y = -1) (hs : cellAt a x y = (s : Int)) (k' s' : Nat) : symM a (setC b x y (k : Int)) n k' s' = (symM a b n k' s' || (decide (k = k') && decide (s = s'))) := by
  unfold symM
  rw [Bool.eq_iff_iff]
  simp only [Bool.or_eq_true, List.any_eq_true, List.mem_range, decide_eq_true_eq, Bool.and_eq_true]
  constructor
  · rintro ⟨i, hi, j, hj, h, h2⟩
    rw [cellAt_setC hb hx hy] at h
    split at h
    · rename_i e
      rw [e.1, e.2, hs] at h2
      exact .inr ⟨by omega, by omega⟩
    · exact .inl ⟨i, hi, j, hj, h, h2⟩
  · rintro (⟨i, hi, j, hj, h, h2⟩ | ⟨rfl, rfl⟩)
    · refine ⟨i, hi, j, hj, ?_, h2⟩
      rw [cellAt_setC hb hx hy, if_neg]
      · exact h
      · rintro ⟨rfl, rfl⟩
        rw [hc] at h; omega
    · exact ⟨x, hx, y, hy, by rw [cellAt_setC hb hx hy, if_pos ⟨rfl, rfl⟩], hs⟩
def colsM (b : List (List Int)) (n : Nat) : List (List Bool) := tabB n fun k y => colM b n k y
def symsM (a b : List (List Int)) (n : Nat) : List (List Bool) := tabB n fun k s => symM a b n k s
section
variable {a b : List (List Int)} {n k x y s : Nat}
theorem colsM_push (hb : b.length = n ∧ ∀ r ∈ b, r.length = n) (hx : x < n) (hy : y < n) (hk : k < n) (hc : cellAt b x y = -1) : setB (colsM b n) k y true = colsM (setC b x y (k : Int)) n := by
  unfold colsM
  rw [tabB_set _ hk hy]
  refine tabB_ext fun k' y' _ _ => ?_
  rw [colM_push hb hx hy hc]
  by_cases h : k' = k ∧ y' = y
  · rw [if_pos h, h.1, h.2]; simp
  · rw [if_neg h]
    have : (decide (k = k') && decide (y = y')) = false := by
      rw [← Bool.not_eq_true, Bool.and_eq_true, decide_eq_true_eq, decide_eq_true_eq]
      rintro ⟨rfl, rfl⟩; exact h ⟨rfl, rfl⟩
    rw [this, Bool.or_false]
theorem colsM_pop (hb : b.length = n ∧ ∀ r ∈ b, r.length = n) (hx : x < n) (hy : y < n) (hk : k < n) (hc : cellAt b x y = -1) (hf : colM b n k y = false) : setB (colsM (setC b x y (k : Int)) n) k y false = colsM b n := by
  unfold colsM
  rw [tabB_set _ hk hy]
  refine tabB_ext fun k' y' _ _ => ?_
  rw [colM_push hb hx hy hc]
  by_cases h : k' = k ∧ y' = y
  · rw [if_pos h, h.1, h.2, hf]
  · rw [if_neg h]
    have : (decide (k = k') && decide (y = y')) = false := by
      rw [← Bool.not_eq_true, Bool.and_eq_true, decide_eq_true_eq, decide_eq_true_eq]
      rintro ⟨rfl, rfl⟩; exact h ⟨rfl, rfl⟩
    rw [this, Bool.or_false]
theorem symsM_push (hb : b.length = n ∧ ∀ r ∈ b, r.length = n) (hx : x < n) (hy : y < n) (hk : k < n) (hs : s < n) (hc : cellAt b x y = -1) (ha : cellAt a x y = (s : Int)) : setB (symsM a b n) k s true = symsM a (setC b x y (k : Int)) n := by
  unfold symsM
  rw [tabB_set _ hk hs]
  refine tabB_ext fun k' y' _ _ => ?_
  rw [symM_push hb hx hy hc ha]
  by_cases h : k' = k ∧ y' = s
  · rw [if_pos h, h.1, h.2]; simp
  · rw [if_neg h]
    have : (decide (k = k') && decide (s = y')) = false := by
      rw [← Bool.not_eq_true, Bool.and_eq_true, decide_eq_true_eq, decide_eq_true_eq]
      rintro ⟨rfl, rfl⟩; exact h ⟨rfl, rfl⟩
    rw [this, Bool.or_false]
theorem symsM_pop (hb : b.length = n ∧ ∀ r ∈ b, r.length = n) (hx : x < n) (hy : y < n) (hk : k < n) (hs : s < n) (hc : cellAt b x y = -1) (ha : cellAt a x y = (s : Int)) (hf : symM a b n k s = false) : setB (symsM a (setC b x y (k : Int)) n) k s false = symsM a b n := by
  unfold symsM
  rw [tabB_set _ hk hs]
  refine tabB_ext fun k' y' _ _ => ?_
  rw [symM_push hb hx hy hc ha]
  by_cases h : k' = k ∧ y' = s
  · rw [if_pos h, h.1, h.2, hf]
  · rw [if_neg h]
    have : (decide (k = k') && decide (s = y')) = false := by
      rw [← Bool.not_eq_true, Bool.and_eq_true, decide_eq_true_eq, decide_eq_true_eq]
      rintro ⟨rfl, rfl⟩; exact h ⟨rfl, rfl⟩
    rw [this, Bool.or_false]
end
end Go.Proofs.Ytflnjgeoegofdaa
