/- Cycles of pairs: what is counted. -/
import Derived.Test.YtkifdjjnbplghaaK62
set_option linter.unusedSimpArgs false
set_option linter.unusedVariables false
set_option maxHeartbeats 4000000
set_option maxRecDepth 100000
namespace Go.Proofs.Ytkifdjjnbplghaa
open Go.Av

def nx (p : List Int) (x : Int × Int) : Int × Int := (if pa p x.1 < pa p x.2 then pa p x.1 else pa p x.2, if pa p x.1 < pa p x.2 then pa p x.2 else pa p x.1)
/-- A pair of numbers in order. -/
def okP (n : Nat) (x : Int × Int) : Prop := 0 ≤ x.1 ∧ x.1 < x.2 ∧ x.2 < n
theorem nx_ok {n : Nat} {p : List Int} {x : Int × Int} (hp : permOk n p) (h : okP n x) : okP n (nx p x) := by
  obtain ⟨h1, h2, h3⟩ := h
  have g1 := hp.2.2 (pa p x.1) (by unfold pa; rw [List.getD_eq_getElem?_getD, List.getElem?_eq_getElem (by rw [hp.1]; omega)]; exact List.getElem_mem _)
  have g2 := hp.2.2 (pa p x.2) (by unfold pa; rw [List.getD_eq_getElem?_getD, List.getElem?_eq_getElem (by rw [hp.1]; omega)]; exact List.getElem_mem _)
  have hne : pa p x.1 ≠ pa p x.2 := fun e => by
    have := pa_inj hp ⟨h1, by omega⟩ ⟨by omega, h3⟩ e
    omega
  unfold okP nx
  by_cases hc : pa p x.1 < pa p x.2
  · simp only [if_pos hc]; omega
  · simp only [if_neg hc]; omega
def walkF (p : List Int) : Nat → List (Int × Int) → Int × Int → List (Int × Int)
  | 0, S, _ => S
  | f + 1, S, x => if x ∈ S then S else walkF p f (S ++ [x]) (nx p x)
def walkP (p : List Int) (S : List (Int × Int)) (x : Int × Int) : List (Int × Int) := walkF p (40 - S.length) S x
theorem walkP_in {p : List Int} {S : List (Int × Int)} {x : Int × Int} (h : x ∈ S) : walkP p S x = S := by
  unfold walkP
  cases 40 - S.length with
  | zero => rfl
  | succ f => simp [walkF, h]
theorem walkP_out {p : List Int} {S : List (Int × Int)} {x : Int × Int} (h : x ∉ S) (hl : S.length ≤ 36) : walkP p S x = walkP p (S ++ [x]) (nx p x) := by
  unfold walkP
  rw [show 40 - S.length = (40 - (S ++ [x]).length) + 1 by simp; omega]
  simp [walkF, h]
/-- What is met so far. -/
def metP (n : Nat) (S : List (Int × Int)) : Prop := S.Nodup ∧ ∀ x ∈ S, okP n x
theorem nodup_subN {A : Type} : ∀ {l m : List A}, l.Nodup → (∀ x ∈ l, x ∈ m) → l.length ≤ m.length
  | [], _, _, _ => Nat.zero_le _
  | a :: l, m, hn, hs => by
    rw [List.nodup_cons] at hn
    obtain ⟨s, t, rfl⟩ := List.append_of_mem (hs a (by simp))
    have := nodup_subN (l := l) (m := s ++ t) hn.2 (fun x hx => by
      have h1 := hs x (by simp [hx])
      rcases List.mem_append.1 h1 with h1 | h1
      · exact List.mem_append_left _ h1
      · rcases List.mem_cons.1 h1 with rfl | h1
        · exact absurd hx hn.1
        · exact List.mem_append_right _ h1)
    simp at this ⊢; omega
theorem metP.len {n : Nat} {S : List (Int × Int)} (h : metP n S) (hn : n ≤ 6) : S.length ≤ 36 := by
  have := nodup_subN (m := (List.range 36).map fun i => (((i / 6 : Nat) : Int), ((i % 6 : Nat) : Int))) h.1 (fun x hx => by
    obtain ⟨h1, h2, h3⟩ := h.2 x hx
    refine List.mem_map.2 ⟨x.1.toNat * 6 + x.2.toNat, List.mem_range.2 (by omega), ?_⟩
    have e1 : (x.1.toNat * 6 + x.2.toNat) / 6 = x.1.toNat := by omega
    have e2 : (x.1.toNat * 6 + x.2.toNat) % 6 = x.2.toNat := by omega
    rw [e1, e2]
    exact Prod.ext (by simp; omega) (by simp; omega))
  simpa using this
theorem metP.snoc {n : Nat} {S : List (Int × Int)} {x : Int × Int} (h : metP n S) (hx : okP n x) (hn : x ∉ S) : metP n (S ++ [x]) := by
  refine ⟨?_, fun y hy => ?_⟩
  · rw [List.nodup_append]
    exact ⟨h.1, by simp, fun a ha b hb => by rw [List.mem_singleton.1 hb]; exact fun e => hn (e ▸ ha)⟩
  · rcases List.mem_append.1 hy with hy | hy
    · exact h.2 y hy
    · rw [List.mem_singleton.1 hy]; exact hx
theorem walkF_met {n : Nat} {p : List Int} (hp : permOk n p) : ∀ (f : Nat) (S : List (Int × Int)) (x : Int × Int), metP n S → okP n x → metP n (walkF p f S x)
  | 0, S, x, h, _ => h
  | f + 1, S, x, h, hx => by
    unfold walkF
    split
    · exact h
    · rename_i hn
      exact walkF_met hp f _ _ (h.snoc hx hn) (nx_ok hp hx)
def stepP (p : List Int) (st : List (Int × Int) × Nat) (x : Int × Int) : List (Int × Int) × Nat := if x ∈ st.1 then st else (walkP p st.1 x, st.2 + 1)
def rowP (a b : Nat) : List (Int × Int) := (List.range (b - (a + 1))).map fun i => ((a : Int), ((a + 1 + i : Nat) : Int))
def doneP (n a : Nat) : List (Int × Int) := (List.range a).flatMap fun a' => rowP a' n
/-- After the pairs before (a, b). -/
def stP (p : List Int) (n a b : Nat) : List (Int × Int) × Nat := (doneP n a ++ rowP a b).foldl (stepP p) ([], 0)
def cycP (p : List Int) (n : Nat) : Nat := (stP p n n (n + 1)).2
theorem rowP_first (a : Nat) : rowP a (a + 1) = [] := by simp [rowP]
theorem stP_zero (p : List Int) (n : Nat) : stP p n 0 1 = ([], 0) := by simp [stP, doneP, rowP]
theorem stP_b (p : List Int) (n a b : Nat) (h : a + 1 ≤ b) : stP p n a (b + 1) = stepP p (stP p n a b) ((a : Int), (b : Int)) := by
  have e : rowP a (b + 1) = rowP a b ++ [((a : Int), (b : Int))] := by
    unfold rowP
    rw [show b + 1 - (a + 1) = (b - (a + 1)) + 1 by omega, List.range_succ, List.map_append]
    simp only [List.map_cons, List.map_nil]
    rw [show a + 1 + (b - (a + 1)) = b by omega]
  unfold stP
  rw [e, ← List.append_assoc, List.foldl_append]; rfl
theorem stP_a (p : List Int) (n a : Nat) : stP p n (a + 1) (a + 2) = stP p n a n := by
  have e : doneP n (a + 1) = doneP n a ++ rowP a n := by simp [doneP, List.range_succ]
  unfold stP
  rw [e, show a + 2 = (a + 1) + 1 from rfl, rowP_first, List.append_nil]
theorem stepP_ok {n : Nat} {p : List Int} (hp : permOk n p) {st : List (Int × Int) × Nat} {x : Int × Int} (h : metP n st.1) (hx : okP n x) : metP n (stepP p st x).1 ∧ (stepP p st x).2 ≤ st.2 + 1 := by
  unfold stepP
  split
  · exact ⟨h, by omega⟩
  · exact ⟨walkF_met hp _ _ _ h hx, Nat.le_refl _⟩
theorem fold_ok {n : Nat} {p : List Int} (hp : permOk n p) : ∀ (L : List (Int × Int)) (st : List (Int × Int) × Nat), (∀ x ∈ L, okP n x) → metP n st.1 → metP n (L.foldl (stepP p) st).1 ∧ (L.foldl (stepP p) st).2 ≤ st.2 + L.length
  | [], st, _, h => ⟨h, by simp⟩
  | x :: L, st, hL, h => by
    have h1 := stepP_ok hp h (hL x (by simp))
    have h2 := fold_ok hp L (stepP p st x) (fun y hy => hL y (by simp [hy])) h1.1
    rw [List.foldl_cons]
    exact ⟨h2.1, by simp; omega⟩
theorem rowP_ok {n a b : Nat} (h : b ≤ n) : ∀ x ∈ rowP a b, okP n x := by
  intro x hx
  obtain ⟨i, hi, rfl⟩ := List.mem_map.1 hx
  rw [List.mem_range] at hi
  exact ⟨by simp, by simp; omega, by simp; omega⟩
theorem rowP_len (a b : Nat) : (rowP a b).length ≤ b := by unfold rowP; rw [List.length_map, List.length_range]; omega
theorem doneP_ok {n a : Nat} : ∀ x ∈ doneP n a, okP n x := by
  intro x hx
  obtain ⟨i, hi, hx⟩ := List.mem_flatMap.1 hx
  exact rowP_ok (Nat.le_refl _) x hx
theorem doneP_len (n : Nat) : ∀ a, (doneP n a).length ≤ a * n
  | 0 => by simp [doneP]
  | a + 1 => by
    have e : doneP n (a + 1) = doneP n a ++ rowP a n := by simp [doneP, List.range_succ]
    have := doneP_len n a
    have h2 := rowP_len a n
    rw [e, List.length_append, Nat.add_mul]; omega
theorem stP_ok {n : Nat} {p : List Int} (hp : permOk n p) (hn : n ≤ 6) {a b : Nat} (ha : a ≤ n) (hb : b ≤ n) : metP n (stP p n a b).1 ∧ (stP p n a b).2 ≤ 42 := by
  have h := fold_ok hp (doneP n a ++ rowP a b) ([], 0) (fun x hx => by
    rcases List.mem_append.1 hx with hx | hx
    · exact doneP_ok x hx
    · exact rowP_ok hb x hx) ⟨by simp, by simp⟩
  refine ⟨h.1, Nat.le_trans h.2 ?_⟩
  have h1 := doneP_len n a
  have h2 := rowP_len a b
  have h3 : a * n ≤ 6 * 6 := Nat.mul_le_mul (by omega) hn
  rw [List.length_append]; omega
end Go.Proofs.Ytkifdjjnbplghaa
