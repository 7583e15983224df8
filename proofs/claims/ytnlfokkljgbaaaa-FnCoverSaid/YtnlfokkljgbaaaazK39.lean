/- What is left of a cover: the model, two ways. -/
import Derived.Test.YtnlfokkljgbaaaazK38
set_option linter.unusedSimpArgs false
set_option linter.unusedVariables false
set_option maxHeartbeats 4000000
set_option maxRecDepth 100000
namespace Go.Proofs.Ytnlfokkljgbaaaa
open Go.Av
def leftL (n : Nat) (E : List Int) : List Int := ((List.range n).map fun (i : Nat) => (i : Int)).filter fun x => !E.contains x
theorem leftL_succ (n : Nat) (E : List Int) : leftL (n + 1) E = leftL n E ++ (if E.contains (n : Int) then [] else [(n : Int)]) := by
  unfold leftL
  rw [List.range_succ, List.map_append, List.filter_append]
  cases h : E.contains (n : Int) <;> simp at h ⊢ <;> exact h
theorem leftL_len (n : Nat) (E : List Int) : (leftL n E).length ≤ n := by
  unfold leftL
  refine Nat.le_trans (List.length_filter_le _ _) ?_
  simp
def cntL (E : List Int) (n : Nat) : Nat := (leftL n E).length
theorem cntL_succ (E : List Int) (n : Nat) : cntL E (n + 1) = cntL E n + (if E.contains (n : Int) then 0 else 1) := by
  unfold cntL
  rw [leftL_succ, List.length_append]
  split <;> rfl
theorem asc_gtA : ∀ {l : List Int} {lo hi : Int}, asc lo hi l = true → ∀ x ∈ l, lo ≤ x ∧ x ≤ hi
  | [], _, _, _, _, hx => by cases hx
  | y :: l, lo, hi, h, x, hx => by
    simp only [asc, Bool.and_eq_true, decide_eq_true_eq] at h
    rcases List.mem_cons.1 hx with rfl | hx
    · exact h.1
    · have := asc_gtA h.2 x hx; omega
def numbersL (n : Nat) (E : List Int) (x : Nat) : List Int := (List.range n).map fun (i : Nat) => if i < x ∧ E.contains (i : Int) = false then (cntL E i : Int) else 0
theorem numbersL_zero (n : Nat) (E : List Int) : numbersL n E 0 = List.replicate n 0 := by simp [numbersL, List.map_const']
theorem numbersL_length (n : Nat) (E : List Int) (x : Nat) : (numbersL n E x).length = n := by simp [numbersL]
theorem numbersL_skip {n : Nat} {E : List Int} {x : Nat} (h : E.contains (x : Int) = true) : numbersL n E (x + 1) = numbersL n E x := by
  unfold numbersL
  refine List.map_congr_left fun i hi => ?_
  have e : (i < x + 1 ∧ E.contains (i : Int) = false) ↔ (i < x ∧ E.contains (i : Int) = false) := by
    constructor
    · rintro ⟨h1, h2⟩
      refine ⟨?_, h2⟩
      by_cases hx : i = x
      · subst hx; rw [h] at h2; cases h2
      · omega
    · rintro ⟨h1, h2⟩; exact ⟨by omega, h2⟩
  simp only [e]
theorem numbersL_put {n : Nat} {E : List Int} {x : Nat} (h : E.contains (x : Int) = false) : (numbersL n E x).set x (cntL E x : Int) = numbersL n E (x + 1) := by
  unfold numbersL
  apply List.ext_getElem
  · simp
  · intro i h1 h2
    simp only [List.getElem_set, List.getElem_map, List.getElem_range]
    by_cases hx : x = i
    · subst hx
      rw [if_pos rfl, if_pos ⟨by omega, h⟩]
    · have e : (i < x) ↔ (i < x + 1) := by omega
      rw [if_neg hx]; simp only [e]
theorem numbersL_get {n : Nat} {E : List Int} {x : Int} (h0 : 0 ≤ x) (hx : x < n) (h : E.contains x = false) : (numbersL n E n).getD x.toNat 0 = (cntL E x.toNat : Int) := by
  have e : ((x.toNat : Nat) : Int) = x := by omega
  have hl : x.toNat < n := by omega
  have h' : E.contains ((x.toNat : Nat) : Int) = false := by rw [e]; exact h
  unfold numbersL
  rw [List.getD_eq_getElem?_getD, List.getElem?_map, List.getElem?_range hl]
  simp only [Option.map_some, Option.getD_some]
  rw [if_pos ⟨hl, h'⟩]
def keptI (xss : List (List Int)) (E : List Int) : List Int := (xss.zipIdx.filter fun p => !p.1.any fun x => E.contains x).map fun p => (p.2 : Int)
theorem keptI_snoc (pre : List (List Int)) (x E : List Int) : keptI (pre ++ [x]) E = keptI pre E ++ (if (x.any fun y => E.contains y) = true then [] else [(pre.length : Int)]) := by
  unfold keptI
  rw [List.zipIdx_append, List.filter_append, List.map_append]
  have e : List.zipIdx [x] (0 + pre.length) = [(x, pre.length)] := by simp
  rw [e]
  cases h : x.any fun y => E.contains y
  · rw [List.filter_cons_of_pos (by rw [h]; rfl)]; simp
  · rw [List.filter_cons_of_neg (by rw [h]; simp)]; simp
theorem keptI_len (xss : List (List Int)) (E : List Int) : (keptI xss E).length ≤ xss.length := by
  unfold keptI
  rw [List.length_map]
  refine Nat.le_trans (List.length_filter_le _ _) ?_
  simp
def optsI (xss : List (List Int)) (E : List Int) : List (List Int) := (xss.filter fun o => !o.any fun x => E.contains x).map fun o => o.map fun x => (cntL E x.toNat : Int)
theorem optsI_snoc (pre : List (List Int)) (x E : List Int) : optsI (pre ++ [x]) E = optsI pre E ++ (if (x.any fun y => E.contains y) = true then [] else [x.map fun x => (cntL E x.toNat : Int)]) := by
  unfold optsI
  rw [List.filter_append, List.map_append]
  cases h : x.any fun y => E.contains y
  · rw [List.filter_cons_of_pos (by rw [h]; rfl)]; simp
  · rw [List.filter_cons_of_neg (by rw [h]; simp)]; simp
theorem optsI_len (xss : List (List Int)) (E : List Int) : (optsI xss E).length ≤ xss.length := by
  unfold optsI
  rw [List.length_map]
  exact List.length_filter_le _ _
theorem marks_left (n : Nat) (E : List Int) : (marks n E).contains false = true ↔ leftL n E ≠ [] := by
  unfold marks leftL
  simp only [List.contains_eq_mem, decide_eq_true_eq, List.mem_map, List.mem_range, ne_eq, List.filter_eq_nil_iff]
  constructor
  · rintro ⟨i, hi, h⟩ hc
    exact hc (i : Int) ⟨i, hi, rfl⟩ (by simpa using h)
  · intro h
    apply Classical.byContradiction
    intro hc
    apply h
    rintro x ⟨i, hi, rfl⟩ hx
    exact hc ⟨i, hi, by simpa using hx⟩
def rcV (n : Int) (xss : List (List Int)) (cols : List Int) : (Int × List (List Int)) × List Int × Int :=
  if !coverOk n xss then ((0, []), [], 1) else if !asc 0 ((xss.length : Int) - 1) cols then ((0, []), [], 2) else
    if ¬ (itemsOf xss cols).Nodup ∨ leftL n.toNat (itemsOf xss cols) = [] then ((0, []), [], 6) else
      ((((leftL n.toNat (itemsOf xss cols)).length : Int), optsI xss (itemsOf xss cols)), keptI xss (itemsOf xss cols), 0)
end Go.Proofs.Ytnlfokkljgbaaaa
