/- Valid designs: the program, the reference. -/
import Derived.Test.YtdgcgckehihboaaDoorU1
import Derived.Test.YtdgcgckehihboaaDoorK4
import Derived.Test.YtdgcgckehihboaaDoorK7
import Derived.Test.YtdgcgckehihboaaDoorK3
set_option linter.unusedSimpArgs false
set_option linter.unusedVariables false
set_option maxHeartbeats 4000000
set_option maxRecDepth 100000
namespace Go.Proofs.YtdgcgckehihboaaDoor
open Go.Av

theorem get_appU {H : List Blk} {p : Nat} {b : Blk} (h : H[p]? = some b) (ext : List Blk) : (H ++ ext)[p]? = some b := by
  rw [List.getElem?_append_left (List.getElem?_eq_some_iff.1 h).1]; exact h
/-- Neighbours in a list. -/
def adjB {α : Type} (r : α → α → Bool) : List α → Bool
  | x :: y :: l => r x y && adjB r (y :: l)
  | _ => true
theorem adjB_snoc {α : Type} (r : α → α → Bool) (l : List α) (y x : α) : adjB r (l ++ [y] ++ [x]) = (adjB r (l ++ [y]) && r y x) := by
  induction l with
  | nil => simp [adjB]
  | cons a l ih =>
    cases l with
    | nil => simp [adjB]
    | cons b l =>
      simp only [List.cons_append, adjB] at ih ⊢
      rw [ih, Bool.and_assoc]
theorem adjB_pre {α : Type} (r : α → α → Bool) (l m : List α) (h : adjB r (l ++ m) = true) : adjB r l = true := by
  induction l with
  | nil => rfl
  | cons a l ih =>
    cases l with
    | nil => rfl
    | cons b l =>
      simp only [List.cons_append, adjB, Bool.and_eq_true] at ih h ⊢
      exact ⟨h.1, ih h.2⟩
theorem nilOrSnoc {α : Type} (xs : List α) : xs = [] ∨ ∃ r b, xs = r ++ [b] := by
  rcases List.eq_nil_or_concat xs with h | ⟨r, b, h⟩
  · exact .inl h
  · exact .inr ⟨r, b, by simpa using h⟩
/-- The element before the place, if there is one. -/
theorem lastOf {α : Type} {xs pre post : List α} {d : α} (h : xs = pre ++ post) (h0 : 0 < pre.length) : ∃ r b, pre = r ++ [b] ∧ xs.getD (pre.length - 1) d = b := by
  rcases nilOrSnoc pre with rfl | ⟨r, b, rfl⟩
  · simp at h0
  · refine ⟨r, b, by simp, ?_⟩
    subst h; simp

theorem cmpL_neg : ∀ (xs ys : List Int), cmpL ys xs = - cmpL xs ys
  | [], [] => rfl
  | [], y :: ys => rfl
  | x :: xs, [] => rfl
  | x :: xs, y :: ys => by
    simp only [cmpL]
    by_cases h1 : x < y
    · have h2 : ¬ y < x := by omega
      simp [h1, h2]
    · by_cases h2 : y < x
      · simp [h1, h2]
      · simp only [h1, h2, if_false]; exact cmpL_neg xs ys

/-- A block of points. -/
def blkB (v : Int) (b : List Int) : Bool := !b.isEmpty && asc 0 (v - 1) b
def designB (v : Int) (xss : List (List Int)) : Bool := decide (1 ≤ v) && decide (v ≤ 32) && xss.all (blkB v) && decide (xss.length ≤ 128) && adjB (fun x y => !decide (cmpL y x < 0)) xss

end Go.Proofs.YtdgcgckehihboaaDoor
