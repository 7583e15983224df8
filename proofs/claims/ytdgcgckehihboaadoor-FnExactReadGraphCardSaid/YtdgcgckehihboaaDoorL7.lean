/- Arguments measured and copied. -/
import Derived.Test.YtdgcgckehihboaaDoorL4
import Derived.Test.YtdgcgckehihboaaDoorAvC
set_option linter.unusedSimpArgs false
set_option linter.unusedVariables false
set_option maxHeartbeats 4000000
set_option maxRecDepth 100000
namespace Go.Proofs.YtdgcgckehihboaaDoor
open Go.Av

/-- Behind i rounds of copying. -/
def ct (xs : List Int) (i : Nat) : List Int := xs.take i ++ List.replicate (xs.length - i) 0
theorem ct_zero (xs : List Int) : ct xs 0 = List.replicate xs.length 0 := by simp [ct]
theorem ct_all (xs : List Int) : ct xs xs.length = xs := by simp [ct]
theorem ct_length (xs : List Int) {i : Nat} (h : i ≤ xs.length) : (ct xs i).length = xs.length := by simp [ct]; omega
theorem ct_set (xs : List Int) {i : Nat} (h : i < xs.length) : (ct xs i).set i xs[i] = ct xs (i + 1) := by
  unfold ct
  rw [List.set_append_right _ _ (by simp; omega)]
  have : i - (xs.take i).length = 0 := by simp; omega
  rw [this, show xs.length - i = (xs.length - (i + 1)) + 1 by omega, List.replicate_succ, List.set_cons_zero, List.take_add_one, List.getElem?_eq_getElem h]
  simp only [Option.toList_some, List.append_assoc, List.singleton_append]

/-- Names of rows in a row. -/
def nmsB : Nat → List (List Int) → List AV
  | _, [] => []
  | k, xs :: r => .nm k 0 0 xs.length :: nmsB (k + 1) r
def rowsB (xss : List (List Int)) : List Blk := xss.map fun xs => ⟨0, 2, 1, xs.map I⟩
theorem nmsB_length (k : Nat) (xss : List (List Int)) : (nmsB k xss).length = xss.length := by
  induction xss generalizing k with
  | nil => rfl
  | cons xs r ih => simp [nmsB, ih]
theorem nmsB_app (k : Nat) (xss : List (List Int)) (xs : List Int) : nmsB k (xss ++ [xs]) = nmsB k xss ++ [.nm (k + xss.length) 0 0 xs.length] := by
  induction xss generalizing k with
  | nil => rfl
  | cons ys r ih => simp only [List.cons_append, nmsB, ih, List.length_cons]; rw [show k + 1 + r.length = k + (r.length + 1) by omega]
theorem nmsB_get (k : Nat) (xss : List (List Int)) (j : Nat) : (nmsB k xss)[j]? = xss[j]?.map fun xs => .nm (k + j) 0 0 xs.length := by
  induction xss generalizing k j with
  | nil => simp [nmsB]
  | cons ys r ih =>
    cases j with
    | zero => simp [nmsB]
    | succ j => simp only [nmsB, List.getElem?_cons_succ, ih]; rw [show k + 1 + j = k + (j + 1) by omega]

def cts (k : Nat) (xss : List (List Int)) (i : Nat) : List AV := nmsB k (xss.take i) ++ List.replicate (xss.length - i) nilS
theorem cts_length (k : Nat) (xss : List (List Int)) {i : Nat} (h : i ≤ xss.length) : (cts k xss i).length = xss.length := by simp [cts, nmsB_length]; omega
theorem cts_all (k : Nat) (xss : List (List Int)) : cts k xss xss.length = nmsB k xss := by simp [cts]
theorem cts_set (k : Nat) (xss : List (List Int)) {i : Nat} (h : i < xss.length) : (cts k xss i).set i (.nm (k + i) 0 0 xss[i].length) = cts k xss (i + 1) := by
  unfold cts
  have hl : (nmsB k (xss.take i)).length = i := by rw [nmsB_length]; simp; omega
  rw [List.set_append_right _ _ (by omega), hl, Nat.sub_self, show xss.length - i = (xss.length - (i + 1)) + 1 by omega, List.replicate_succ, List.set_cons_zero, List.take_add_one, List.getElem?_eq_getElem h]
  simp only [Option.toList]
  rw [nmsB_app]
  simp [Nat.min_eq_left (Nat.le_of_lt h)]

theorem OwnC.names {H : List Blk} {ext : List Blk} {ver ty : Nat} (xss : List (List Int)) : OwnC (H ++ ⟨ver, ty, 1, nmsB (H.length + 1) xss⟩ :: (rowsB xss ++ ext)) (Btw H.length (H.length + 1 + xss.length)) H.length ver ty (nmsB (H.length + 1) xss) xss := by
  refine ⟨⟨by omega, by omega⟩, by simp, nmsB_length _ _, ?_, ?_⟩
  · intro j c xs h1 h2
    rw [nmsB_get, h2] at h1
    simp only [Option.map_some, Option.some.injEq] at h1
    subst h1
    have hlt := (List.getElem?_eq_some_iff.1 h2).1
    refine .inl ⟨_, 0, 2, rfl, ⟨by omega, by omega⟩, by omega, ?_⟩
    rw [show H.length + 1 + j = H.length + (j + 1) by omega, hget, List.getElem?_cons_succ, List.getElem?_append_left (by simpa [rowsB] using hlt)]
    simp [rowsB, h2]
  · intro i j r v o l v' o' l' hij h1 h2
    rw [nmsB_get] at h1 h2
    cases hi : xss[i]? with
    | none => rw [hi] at h1; simp at h1
    | some x =>
      cases hj : xss[j]? with
      | none => rw [hj] at h2; simp at h2
      | some y =>
        rw [hi] at h1; rw [hj] at h2
        simp at h1 h2
        omega

/-- What a call has made is told by its content. -/
theorem _root_.Go.Av.ACalls.gr {P : Program} {f : FuncId} {args : List AV} {H : List Blk} {R0 R : AV → List Blk → Prop} (h : ACalls P f args H R0) (hg : ∀ r H', R0 r H' → GR H R r H') : ACalls P f args H R := by
  intro B W0 F m w vs h1 h2
  refine (h B W0 F m w vs h1 h2).mono ?_
  rintro e w' ⟨F', m', H', r, v, rfl, g2, g3, g4, g5, g6⟩
  obtain ⟨F2, m2, r2, H2, k1, k2, k3, k4, k5⟩ := hg r H' g6 B W0 F m w F' m' w' v h2 g2 g3 g4 g5
  exact ⟨F2, m2, H2, r2, v, rfl, k1, k2, k3, k4, k5⟩

theorem small_rows {xss : List (List Int)} {z k : Int} (h : 0 ≤ z) (he : z = k - xss.length - total xss) (hk : k ≤ 1073741824) : xss.length ≤ 1073741824 ∧ ∀ xs ∈ xss, xs.length ≤ 1073741824 := by
  refine ⟨by omega, fun xs hx => ?_⟩
  obtain ⟨i, hi, rfl⟩ := List.getElem_of_mem hx
  have h1 := total_take_succ xss hi
  have h2 := total_take_le xss (i + 1)
  omega

end Go.Proofs.YtdgcgckehihboaaDoor
