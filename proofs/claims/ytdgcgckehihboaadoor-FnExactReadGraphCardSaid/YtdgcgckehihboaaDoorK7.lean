/- Exact covers: what is covered; IsCover; OptionsWith. -/
import Derived.Test.YtdgcgckehihboaaDoorK6
set_option linter.unusedSimpArgs false
set_option linter.unusedVariables false
set_option maxHeartbeats 4000000
set_option maxRecDepth 100000
namespace Go.Proofs.YtdgcgckehihboaaDoor
open Go.Av

/-- The items of some options. -/
def itemsOf (xss : List (List Int)) (cols : List Int) : List Int := cols.flatMap fun k => xss.getD k.toNat []
theorem itemsOf_mid (xss : List (List Int)) (pre post : List Int) (k : Int) : itemsOf xss (pre ++ k :: post) = itemsOf xss pre ++ xss.getD k.toNat [] ++ itemsOf xss post := by simp [itemsOf]
theorem itemsOf_snoc (xss : List (List Int)) (pre : List Int) (k : Int) : itemsOf xss (pre ++ [k]) = itemsOf xss pre ++ xss.getD k.toNat [] := by simp [itemsOf]
/-- Which of n items stand in a list. -/
def marks (n : Nat) (l : List Int) : List Bool := (List.range n).map fun (i : Nat) => l.contains (i : Int)
theorem marks_nil (n : Nat) : List.replicate n false = marks n [] := by
  unfold marks; apply List.ext_getElem <;> simp
theorem marks_length (n : Nat) (l : List Int) : (marks n l).length = n := by simp [marks]
theorem marks_set (n : Nat) (l : List Int) (x : Int) (h0 : 0 ≤ x) : (marks n l).set x.toNat true = marks n (l ++ [x]) := by
  unfold marks
  apply List.ext_getElem
  · simp
  · intro i h1 h2
    simp only [List.getElem_set, List.getElem_map, List.getElem_range]
    split
    · rename_i h; subst h; simp [Int.toNat_of_nonneg h0]
    · rename_i h
      have : ¬ (i : Int) = x := by intro he; apply h; rw [← he]; simp
      simp [this]
theorem marks_get (n : Nat) (l : List Int) (x : Int) (h0 : 0 ≤ x) (h1 : x < n) : (marks n l).getD x.toNat false = l.contains x := by
  have : x.toNat < n := by omega
  simp [marks, this, Int.toNat_of_nonneg h0]

def coverB (n : Int) (xss : List (List Int)) (cols : List Int) : Bool :=
  coverOk n xss && asc 0 (xss.length - 1) cols && decide (itemsOf xss cols).Nodup && !(marks n.toNat (itemsOf xss cols)).contains false

theorem coverOk_facts {n : Int} {xss : List (List Int)} (h : coverOk n xss = true) : 1 ≤ n ∧ n ≤ 64 ∧ xss.length ≤ 256 ∧ ∀ xs ∈ xss, (∀ x ∈ xs, 0 ≤ x ∧ x < n) ∧ xs.length ≤ 64 := by
  simp only [coverOk, Bool.and_eq_true, decide_eq_true_eq, List.all_eq_true] at h
  refine ⟨h.1.1.1, h.1.1.2, h.1.2, fun xs hx => ⟨fun x hxs => ?_, ?_⟩⟩
  · have := asc_mem (h.2 xs hx).2 x hxs; omega
  · rcases asc_len (h.2 xs hx).2 with h2 | h2
    · subst h2; simp
    · omega

/-- How often each of n items stands in a list. -/
def counts (n : Nat) (l : List Int) : List Int := (List.range n).map fun (i : Nat) => (l.count (i : Int) : Int)
theorem counts_nil (n : Nat) : List.replicate n (0 : Int) = counts n [] := by
  unfold counts; apply List.ext_getElem <;> simp
theorem counts_length (n : Nat) (l : List Int) : (counts n l).length = n := by simp [counts]
theorem counts_get (n : Nat) (l : List Int) (x : Int) (h0 : 0 ≤ x) (h1 : x < n) : (counts n l).getD x.toNat 0 = l.count x := by
  have : x.toNat < n := by omega
  simp [counts, this, Int.toNat_of_nonneg h0]
theorem counts_set (n : Nat) (l : List Int) (x : Int) (h0 : 0 ≤ x) : (counts n l).set x.toNat ((l.count x + 1 : Nat) : Int) = counts n (l ++ [x]) := by
  unfold counts
  apply List.ext_getElem
  · simp
  · intro i h1 h2
    simp only [List.getElem_set, List.getElem_map, List.getElem_range]
    split
    · rename_i h; subst h; simp [Int.toNat_of_nonneg h0, List.count_append]
    · rename_i h
      have : ¬ x = (i : Int) := by intro he; apply h; rw [he]; simp
      simp [List.count_append, List.count_singleton, this]
theorem counts_all {n : Nat} {l : List Int} (hl : ∀ x ∈ l, 0 ≤ x ∧ x < n) : (counts n l).all (fun c => decide (c = 1)) = (decide l.Nodup && !(marks n l).contains false) := by
  have e1 : (counts n l).all (fun c => decide (c = 1)) = true ↔ ∀ i : Nat, i < n → l.count (i : Int) = 1 := by
    simp only [List.all_eq_true, decide_eq_true_eq, counts, List.mem_map, List.mem_range, forall_exists_index, and_imp, forall_apply_eq_imp_iff₂]
    exact ⟨fun h i hi => by have := h i hi; omega, fun h i hi => by have := h i hi; omega⟩
  have e2 : (marks n l).contains false = false ↔ ∀ i : Nat, i < n → (i : Int) ∈ l := by
    rw [Bool.eq_false_iff]
    constructor
    · intro h i hi
      refine Decidable.byContradiction fun hc => h ?_
      rw [List.contains_iff_mem]
      exact List.mem_map.2 ⟨i, by simpa using hi, by simpa using hc⟩
    · intro h hc
      rw [List.contains_iff_mem] at hc
      obtain ⟨i, hi, h2⟩ := List.mem_map.1 hc
      simp at hi h2
      exact h2 (h i hi)
  rw [Bool.eq_iff_iff, e1, Bool.and_eq_true, decide_eq_true_eq, Bool.not_eq_true', e2]
  constructor
  · intro h
    refine ⟨List.nodup_iff_count.2 fun a => ?_, fun i hi => ?_⟩
    · by_cases ha : a ∈ l
      · have h1 := hl a ha
        have := h a.toNat (by omega)
        rw [Int.toNat_of_nonneg h1.1] at this
        omega
      · rw [List.count_eq_zero.2 ha]; omega
    · have := h i hi
      have h4 : 0 < l.count (i : Int) := by omega
      exact List.count_pos_iff.1 h4
  · rintro ⟨h1, h2⟩ i hi
    have := List.nodup_iff_count.1 h1 (i : Int)
    have := List.count_pos_iff.2 (h2 i hi)
    omega

end Go.Proofs.YtdgcgckehihboaaDoor
