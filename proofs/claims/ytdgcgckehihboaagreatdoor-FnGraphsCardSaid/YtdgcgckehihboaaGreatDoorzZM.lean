/- The other edges: plain. -/
import Derived.Test.YtdgcgckehihboaaGreatDoorzE4
set_option linter.unusedSimpArgs false
set_option linter.unusedVariables false
set_option linter.unusedSectionVars false
set_option maxHeartbeats 4000000
set_option maxRecDepth 100000
namespace Go.Proofs.YtdgcgckehihboaaGreatDoor
variable [Go.Av.DoorC]
open Go.Av
def prR (a m : Nat) : List (Int × Int) := ((List.range m).filter fun b => decide (a < b)).map fun (b : Nat) => ((a : Int), (b : Int))
def prs (n k : Nat) : List (Int × Int) := (List.range k).flatMap fun a => prR a n
def cplE (n : Nat) (es : List (Int × Int)) : List (Int × Int) := (prs n n).filter fun e => !es.contains e
theorem prR_succ (a m : Nat) : prR a (m + 1) = prR a m ++ (if a < m then [((a : Int), (m : Int))] else []) := by
  unfold prR
  rw [List.range_succ, List.filter_append, List.map_append]
  by_cases h : a < m <;> simp [h]
theorem prs_succ (n k : Nat) : prs n (k + 1) = prs n k ++ prR k n := by
  unfold prs
  rw [List.range_succ, List.flatMap_append]; simp
theorem prR_mem {a m : Nat} {e : Int × Int} : e ∈ prR a m ↔ ∃ b : Nat, a < b ∧ b < m ∧ e = ((a : Int), (b : Int)) := by
  unfold prR
  simp only [List.mem_map, List.mem_filter, List.mem_range, decide_eq_true_eq]
  exact ⟨fun ⟨b, ⟨h1, h2⟩, h3⟩ => ⟨b, h2, h1, h3.symm⟩, fun ⟨b, h1, h2, h3⟩ => ⟨b, ⟨h2, h1⟩, h3.symm⟩⟩
theorem prs_mem {n k : Nat} {e : Int × Int} : e ∈ prs n k ↔ ∃ a b : Nat, a < k ∧ a < b ∧ b < n ∧ e = ((a : Int), (b : Int)) := by
  unfold prs
  simp only [List.mem_flatMap, List.mem_range, prR_mem]
  exact ⟨fun ⟨a, h1, b, h2, h3, h4⟩ => ⟨a, b, h1, h2, h3, h4⟩, fun ⟨a, b, h1, h2, h3, h4⟩ => ⟨a, h1, b, h2, h3, h4⟩⟩
theorem prs_edB {n : Nat} {e : Int × Int} : e ∈ prs n n ↔ edB n e = true := by
  rw [prs_mem]
  unfold edB
  simp only [Bool.and_eq_true, decide_eq_true_eq]
  constructor
  · rintro ⟨a, b, h1, h2, h3, rfl⟩
    simp only
    omega
  · obtain ⟨x, y⟩ := e
    rintro ⟨h1, h2, h3⟩
    simp only at h1 h2 h3
    exact ⟨x.toNat, y.toNat, by omega, by omega, by omega, by rw [Prod.mk.injEq]; omega⟩
theorem cmpE_ltA {a b c d : Int} (h : a < c) : cmpE (a, b) (c, d) < 0 := by
  rw [cmpE_lt]; exact .inl h
theorem cmpE_ltB {a b d : Int} (h : b < d) : cmpE (a, b) (a, d) < 0 := by
  rw [cmpE_lt]; exact .inr ⟨rfl, h⟩
theorem prR_asc (a : Nat) : ∀ m, Asc cmpE (prR a m)
  | 0 => by unfold Asc prR; simp
  | m + 1 => by
    rw [prR_succ]
    split
    · unfold Asc
      rw [List.pairwise_append]
      refine ⟨prR_asc a m, by simp, fun x hx y hy => ?_⟩
      rw [List.mem_singleton] at hy
      subst hy
      obtain ⟨b, _, hb, rfl⟩ := prR_mem.1 hx
      exact cmpE_ltB (by omega)
    · rw [List.append_nil]; exact prR_asc a m
theorem prs_asc (n : Nat) : ∀ k, Asc cmpE (prs n k)
  | 0 => by unfold Asc prs; simp
  | k + 1 => by
    rw [prs_succ]
    unfold Asc
    rw [List.pairwise_append]
    refine ⟨prs_asc n k, prR_asc k n, fun x hx y hy => ?_⟩
    obtain ⟨a, b, ha, _, _, rfl⟩ := prs_mem.1 hx
    obtain ⟨c, _, _, rfl⟩ := prR_mem.1 hy
    exact cmpE_ltA (by omega)
theorem prR_len (a : Nat) : ∀ m, (prR a m).length = m - (a + 1)
  | 0 => by simp [prR]
  | m + 1 => by
    rw [prR_succ, List.length_append, prR_len a m]
    split <;> simp <;> omega
theorem prs_len (n : Nat) : ∀ k, k ≤ n → 2 * (prs n k).length + k * k + k = 2 * (k * n)
  | 0, _ => by simp [prs]
  | k + 1, h => by
    have ih := prs_len n k (by omega)
    rw [prs_succ, List.length_append, prR_len]
    have e1 : (k + 1) * (k + 1) = k * k + 2 * k + 1 := by rw [Nat.succ_mul, Nat.mul_succ]; omega
    have e2 : (k + 1) * n = k * n + n := Nat.succ_mul k n
    rw [e1, e2]
    omega
theorem cplE_asc (n : Nat) (es : List (Int × Int)) : Asc cmpE (cplE n es) := List.Pairwise.filter _ (prs_asc n n)
theorem cplE_valid (n : Nat) (es : List (Int × Int)) : edsB n (cplE n es) = true := by
  unfold edsB
  rw [Bool.and_eq_true, decide_eq_true_eq, List.all_eq_true]
  refine ⟨fun e he => ?_, cplE_asc n es⟩
  exact prs_edB.1 (List.mem_filter.1 he).1
theorem eds_is {n : Nat} {es : List (Int × Int)} (h : edsB n es = true) : es = (prs n n).filter fun e => es.contains e := by
  unfold edsB at h
  rw [Bool.and_eq_true, decide_eq_true_eq, List.all_eq_true] at h
  refine asc_uniq cmpE_tot h.2 (List.Pairwise.filter _ (prs_asc n n)) fun y => ?_
  rw [List.mem_filter]
  constructor
  · intro hy; exact ⟨prs_edB.2 (h.1 y hy), by simpa using hy⟩
  · rintro ⟨_, hy⟩; simpa using hy
theorem cplE_cplE {n : Nat} {es : List (Int × Int)} (h : edsB n es = true) : cplE n (cplE n es) = es := by
  conv => rhs; rw [eds_is h]
  unfold cplE
  refine List.filter_congr fun e he => ?_
  have : (List.filter (fun e => !es.contains e) (prs n n)).contains e = !es.contains e := by
    rw [Bool.eq_iff_iff, List.contains_iff_mem, List.mem_filter]
    exact ⟨fun h => h.2, fun h => ⟨he, h⟩⟩
  rw [this, Bool.not_not]
theorem parts_len {α : Type} (p : α → Bool) : ∀ l : List α, (l.filter fun e => !p e).length + (l.filter p).length = l.length
  | [] => rfl
  | x :: l => by
    have ih := parts_len p l
    rw [List.filter_cons, List.filter_cons]
    cases p x <;> simp <;> omega
theorem cplE_len {n : Nat} {es : List (Int × Int)} (h : edsB n es = true) : 2 * ((cplE n es).length + es.length) + n = n * n := by
  have h1 := prs_len n n (Nat.le_refl _)
  have h2 := parts_len (fun e => es.contains e) (prs n n)
  rw [← eds_is h] at h2
  have h3 : (cplE n es).length + es.length = (prs n n).length := h2
  omega
end Go.Proofs.YtdgcgckehihboaaGreatDoor
