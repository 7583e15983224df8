/- Choices of orbits. -/
import Derived.Test.YtdgcgckehihboaaDoorProg
import Derived.KernelRfl
import Derived.Test.YtdgcgckehihboaaDoorK3
import Derived.Test.YtdgcgckehihboaaDoorK4
set_option linter.unusedSimpArgs false
set_option linter.unusedVariables false
set_option maxHeartbeats 4000000
set_option maxRecDepth 100000
namespace Go.Proofs.YtdgcgckehihboaaDoor
open Go.Av

/-! The abstract code of functions, printed by program and tied to the program by the kernel. -/
/-- loop.example/g00920/impl.size[int64] -/
abbrev f_impl_size_int64 : Nat := 36
def c_impl_size_int64 : SC :=
 .seq (.reg [
     ⟨(some 2), .mv (.const (.int .i64 0)), none⟩] [0])
 (.seq (.reg [
     ⟨(some 3), .mv (.tmp 0), none⟩,
     ⟨(some 4), .len (.tmp 3), none⟩,
     ⟨(some 2), .mv (.tmp 4), none⟩] [2])
 (.ret))
theorem s_impl_size_int64 : stripF Tryd.prog 36 [[0], [2]] = some (c_impl_size_int64, [.tmp 2], 5) := by kernel_rfl


theorem asc_mem : ∀ {xs : List Int} {lo hi : Int}, asc lo hi xs = true → ∀ x ∈ xs, lo ≤ x ∧ x ≤ hi
  | [], _, _, _, x, h => by simp at h
  | y :: r, lo, hi, h, x, hx => by
    simp only [asc, Bool.and_eq_true, decide_eq_true_eq] at h
    rcases List.mem_cons.1 hx with rfl | hx
    · exact h.1
    · have := asc_mem h.2 x hx; omega

theorem asc_len : ∀ {xs : List Int} {lo hi : Int}, asc lo hi xs = true → xs = [] ∨ lo + xs.length ≤ hi + 1
  | [], _, _, _ => .inl rfl
  | y :: r, lo, hi, h => by
    simp only [asc, Bool.and_eq_true, decide_eq_true_eq] at h
    rcases asc_len h.2 with rfl | h2
    · right; simp; omega
    · right; simp; omega

theorem size_fn (xs : List Int) : PFn Tryd.prog f_impl_size_int64 [ilS xs] (I xs.length) := by
  intro H; refine ACalls.introB s_impl_size_int64 (by simp) ?_; intro hB hA; unfold c_impl_size_int64; simp (config := { maxSteps := 1000000 }) (disch := (first | omega | (simp only [go_sem]; try omega))) only [go_sem, Nat.reduceAdd, Nat.reduceEqDiff, Nat.reduceLeDiff, Nat.reduceMul, Nat.reduceLT, reduceIte, Int.reduceToNat, w64_id, cast_succ]
  repeat (first | (with_reducible first | refine SW.seq ?_ | refine SW.block ?_ | refine SW.rowC ?_ | refine SW.skip ?_ | refine SW.exit ?_ | intro _ | refine And.intro (by omega) ?_) | simp (config := { maxSteps := 1000000 }) (disch := (first | omega | (simp only [go_sem]; try omega))) only [go_sem, Nat.reduceAdd, Nat.reduceEqDiff, Nat.reduceLeDiff, Nat.reduceMul, Nat.reduceLT, reduceIte, Int.reduceToNat, w64_id, cast_succ])
  refine SW.ret ?_; (try simp only [go_sem]); (first | refine FunPost.one ?_ | refine FunPost.two ?_ | refine FunPost.three ?_); (try simp (config := { maxSteps := 1000000 }) (disch := (first | omega | (simp only [go_sem]; try omega))) only [go_sem, Nat.reduceAdd, Nat.reduceEqDiff, Nat.reduceLeDiff, Nat.reduceMul, Nat.reduceLT, reduceIte, Int.reduceToNat, w64_id, cast_succ]); (first | (with_reducible refine GR.drop ?_ ?_; (simp only [go_sem, and_self, and_true, true_and, implies_true, List.take_succ_cons, List.take_zero])) | refine GR.of ?_); refine ⟨?_, rfl⟩; (try with_reducible rfl)
def countsOk (m : List (List Int)) : Bool := decide (1 ≤ m.length) && decide (m.length ≤ 2000) && decide ((m.getD 0 []).length ≤ 2000) && m.all fun r => decide (r.length = (m.getD 0 []).length) && r.all fun x => decide (0 ≤ x) && decide (x ≤ 2000)

def sumAt (row : List Int) (cols : List Int) : Int := cols.foldl (fun s c => w64 (s + row.getD c.toNat 0)) 0

def choiceV (m : List (List Int)) (lam : Int) (cols : List Int) : AV :=
  if !countsOk m then .tup [Bv false, I 1] else if !(decide (1 ≤ lam) && decide (lam ≤ 2000)) then .tup [Bv false, I 2] else .tup [Bv (asc 0 ((m.getD 0 []).length - 1) cols && m.all fun r => decide (sumAt r cols = lam)), I 0]

theorem countsOk_len {m : List (List Int)} (h : countsOk m = true) : 1 ≤ m.length ∧ m.length ≤ 2000 ∧ ∀ r ∈ m, r.length = (m.getD 0 []).length := by
  simp only [countsOk, Bool.and_eq_true, decide_eq_true_eq, List.all_eq_true] at h
  exact ⟨h.1.1.1, h.1.1.2, fun r hr => (h.2 r hr).1⟩

theorem choiceV_cases (m : List (List Int)) (lam : Int) (cols : List Int) : ∃ b c, choiceV m lam cols = .tup [Bv b, I c] := by
  unfold choiceV
  split
  · exact ⟨_, _, rfl⟩
  · split <;> exact ⟨_, _, rfl⟩

end Go.Proofs.YtdgcgckehihboaaDoor
