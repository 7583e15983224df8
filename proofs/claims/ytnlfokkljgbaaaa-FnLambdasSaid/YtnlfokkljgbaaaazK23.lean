/- Sets of a size, in order: by succession and by rank. -/
import Derived.Test.YtnlfokkljgbaaaazK19
import Derived.Test.YtnlfokkljgbaaaazK8
set_option linter.unusedSimpArgs false
set_option linter.unusedVariables false
set_option maxHeartbeats 4000000
set_option maxRecDepth 100000
namespace Go.Proofs.Ytnlfokkljgbaaaa
open Go.Av
def subsL : Nat → Int → Nat → List (List Int)
  | _, _, 0 => [[]]
  | 0, _, _ + 1 => []
  | m + 1, lo, k + 1 => (subsL m (lo + 1) k).map (lo :: ·) ++ subsL m (lo + 1) (k + 1)
def ch : Nat → Nat → Nat
  | _, 0 => 1
  | 0, _ + 1 => 0
  | m + 1, k + 1 => ch m k + ch m (k + 1)
theorem ch_zero (m : Nat) : ch m 0 = 1 := by cases m <;> rfl
theorem subsL_zero (m : Nat) (lo : Int) : subsL m lo 0 = [[]] := by cases m <;> rfl
theorem subsL_len : ∀ (m : Nat) (lo : Int) (k : Nat), (subsL m lo k).length = ch m k
  | m, lo, 0 => by rw [subsL_zero, ch_zero]; rfl
  | 0, lo, k + 1 => rfl
  | m + 1, lo, k + 1 => by simp only [subsL, ch, List.length_append, List.length_map, subsL_len m]
theorem ch_lt : ∀ (m k : Nat), m < k → ch m k = 0
  | 0, k + 1, _ => rfl
  | m + 1, k + 1, h => by simp only [ch, ch_lt m k (by omega), ch_lt m (k + 1) (by omega)]
theorem ch_pos : ∀ (m k : Nat), k ≤ m → 0 < ch m k
  | m, 0, _ => by rw [ch_zero]; omega
  | m + 1, k + 1, h => by have := ch_pos m k (by omega); simp only [ch]; omega
theorem ch_le : ∀ (m k : Nat), ch m k ≤ 2 ^ m
  | m, 0 => by rw [ch_zero]; exact Nat.one_le_two_pow
  | 0, k + 1 => by simp [ch]
  | m + 1, k + 1 => by have h1 := ch_le m k; have h2 := ch_le m (k + 1); simp only [ch, Nat.pow_succ]; omega
theorem subsL_mem : ∀ (m : Nat) (lo : Int) (k : Nat), ∀ s ∈ subsL m lo k, s.length = k ∧ asc lo (lo + m - 1) s = true
  | m, lo, 0, s, h => by rw [subsL_zero] at h; simp at h; subst h; exact ⟨rfl, rfl⟩
  | 0, lo, k + 1, s, h => by simp [subsL] at h
  | m + 1, lo, k + 1, s, h => by
    simp only [subsL, List.mem_append, List.mem_map] at h
    rcases h with ⟨r, hr, rfl⟩ | h
    · have := subsL_mem m (lo + 1) k r hr
      refine ⟨by simp [this.1], ?_⟩
      rw [show lo + 1 + (m : Int) - 1 = lo + ((m + 1 : Nat) : Int) - 1 by omega] at this
      simp only [asc, this.2, Bool.and_true, Bool.and_eq_true, decide_eq_true_eq]
      omega
    · have := subsL_mem m (lo + 1) (k + 1) s h
      refine ⟨this.1, ?_⟩
      rw [show lo + 1 + (m : Int) - 1 = lo + ((m + 1 : Nat) : Int) - 1 by omega] at this
      cases s with
      | nil => rfl
      | cons x r =>
        have h2 := this.2
        simp only [asc, Bool.and_eq_true, decide_eq_true_eq] at h2 ⊢
        exact ⟨⟨by omega, h2.1.2⟩, h2.2⟩
theorem nextGo_succ (n : Int) (set : List Int) (i : Nat) : nextGo n set (i + 1) = if set.getD i 0 = n - set.length + i then nextGo n set i else some (tab set.length fun j => if j < i then set.getD j 0 else set.getD i 0 + 1 + j - i) := rfl
theorem nextGo_cons (n x : Int) (r : List Int) : ∀ i, i ≤ r.length → nextGo n (x :: r) (i + 1) = match nextGo n r i with
    | some t => some (x :: t)
    | none => nextGo n (x :: r) 1
  | 0, _ => rfl
  | i + 1, h => by
    rw [nextGo_succ n (x :: r) (i + 1), nextGo_succ n r i]
    have e : (x :: r).getD (i + 1) 0 = r.getD i 0 := by simp
    rw [e]
    have e2 : n - ((x :: r).length : Int) + ((i + 1 : Nat) : Int) = n - (r.length : Int) + (i : Int) := by simp; omega
    rw [e2]
    by_cases hc : r.getD i 0 = n - (r.length : Int) + i
    · rw [if_pos hc, if_pos hc]; exact nextGo_cons n x r i (by omega)
    · rw [if_neg hc, if_neg hc]
      simp only [Option.some.injEq]
      apply List.ext_getElem
      · simp [tab]
      · intro j h1 h2
        cases j with
        | zero => simp [tab]
        | succ j =>
          simp [tab]
          split
          · rfl
          · omega
def run_ (lo : Int) (k : Nat) : List Int := tab k fun i => lo + i
theorem run_succ (lo : Int) (k : Nat) : run_ lo (k + 1) = lo :: run_ (lo + 1) k := by
  apply List.ext_getElem
  · simp [run_, tab]
  · intro j h1 h2
    cases j with
    | zero => simp [run_, tab]
    | succ j => simp [run_, tab]; omega
theorem nextSub_cons (n x : Int) (r : List Int) : nextSub n (x :: r) = match nextSub n r with
    | some t => some (x :: t)
    | none => if x = n - (r.length + 1) then none else some (run_ (x + 1) (r.length + 1)) := by
  unfold nextSub
  rw [List.length_cons, nextGo_cons n x r _ (Nat.le_refl _)]
  cases nextGo n r r.length with
  | some t => rfl
  | none =>
    show nextGo n (x :: r) (0 + 1) = _
    rw [nextGo_succ]
    have e : (x :: r).getD 0 0 = x := rfl
    rw [e]
    have e2 : n - ((x :: r).length : Int) + ((0 : Nat) : Int) = n - (r.length + 1) := by simp
    rw [e2]
    split
    · rfl
    · simp only [Option.some.injEq]
      unfold run_
      rw [List.length_cons]
      refine tab_congr fun j hj => ?_
      simp
def chainN (nx : List Int → Option (List Int)) (last : Option (List Int)) : List (List Int) → Prop
  | [] => True
  | [s] => nx s = last
  | s :: t :: r => nx s = some t ∧ chainN nx last (t :: r)
theorem chainN_app (nx : List Int → Option (List Int)) (last : Option (List Int)) : ∀ (l : List (List Int)) (t : List Int) (r : List (List Int)), chainN nx (some t) l → chainN nx last (t :: r) → chainN nx last (l ++ t :: r)
  | [], t, r, _, h => h
  | [s], t, r, h1, h2 => ⟨h1, h2⟩
  | s :: u :: l, t, r, h1, h2 => ⟨h1.1, chainN_app nx last (u :: l) t r h1.2 h2⟩
theorem chainN_map (n lo : Int) (k : Nat) (last : Option (List Int)) (hl : last = if lo = n - (k + 1) then none else some (run_ (lo + 1) (k + 1))) :
    ∀ l : List (List Int), (∀ s ∈ l, s.length = k) → chainN (nextSub n) none l → chainN (nextSub n) last (l.map (lo :: ·))
  | [], _, _ => trivial
  | [s], hs, h => by
    have h0 : nextSub n s = none := h
    show nextSub n (lo :: s) = last
    rw [nextSub_cons, h0, hl, hs s (by simp)]
  | s :: t :: r, hs, h => by
    have h0 : nextSub n s = some t := h.1
    refine ⟨?_, chainN_map n lo k last hl (t :: r) (fun s hs' => hs s (by simp [hs'])) h.2⟩
    rw [nextSub_cons, h0]
theorem subsL_head : ∀ (m : Nat) (lo : Int) (k : Nat), (k ≤ m → ∃ r, subsL m lo k = run_ lo k :: r) ∧ (m < k → subsL m lo k = [])
  | m, lo, 0 => ⟨fun _ => ⟨[], by rw [subsL_zero]; rfl⟩, fun h => by omega⟩
  | 0, lo, k + 1 => ⟨fun h => by omega, fun _ => rfl⟩
  | m + 1, lo, k + 1 => by
    constructor
    · intro h
      obtain ⟨r, hr⟩ := (subsL_head m (lo + 1) k).1 (by omega)
      exact ⟨_, by rw [subsL, hr, run_succ]; rfl⟩
    · intro h
      rw [subsL, (subsL_head m (lo + 1) k).2 (by omega), (subsL_head m (lo + 1) (k + 1)).2 (by omega)]; rfl
theorem subsL_chain (n : Int) : ∀ (m : Nat) (lo : Int) (k : Nat), lo + m = n → chainN (nextSub n) none (subsL m lo k)
  | m, lo, 0, _ => by rw [subsL_zero]; rfl
  | 0, lo, k + 1, _ => trivial
  | m + 1, lo, k + 1, h => by
    have h1 := subsL_chain n m (lo + 1) k (by omega)
    have h2 := subsL_chain n m (lo + 1) (k + 1) (by omega)
    have hs : ∀ s ∈ subsL m (lo + 1) k, s.length = k := fun s hs => (subsL_mem m (lo + 1) k s hs).1
    rw [subsL]
    by_cases hk : k + 1 ≤ m
    · obtain ⟨r, hr⟩ := (subsL_head m (lo + 1) (k + 1)).1 hk
      rw [hr] at h2 ⊢
      refine chainN_app _ _ _ _ _ (chainN_map n lo k _ ?_ _ hs h1) h2
      rw [if_neg (by omega)]
    · rw [(subsL_head m (lo + 1) (k + 1)).2 (by omega), List.append_nil]
      by_cases hk2 : k = m
      · exact chainN_map n lo k _ (by rw [if_pos (by omega)]) _ hs h1
      · rw [(subsL_head m (lo + 1) k).2 (by omega)]; trivial
theorem chainS_of (n : Int) : ∀ l : List (List Int), (∀ s ∈ l, asc 0 (n - 1) s = true) → chainN (nextSub n) none l → chainS n l
  | [], _, _ => trivial
  | [s], h, hc => ⟨h s (by simp), hc⟩
  | s :: t :: r, h, hc => ⟨h s (by simp), hc.1, chainS_of n (t :: r) (fun s hs => h s (by simp [hs])) hc.2⟩
def subsN (n k : Nat) : List (List Int) := subsL n 0 k
theorem idL_run (k : Nat) : idL k = run_ 0 k := by unfold idL run_; exact tab_congr fun j _ => by omega
theorem subs_fn (n k : Nat) (hn : n ≤ 32) (hk : k ≤ 1000000) : PFn Try.prog f_impl_allSubsets [I n, I k] (ilSS (subsN n k)) := by
  have h1 : ∀ s ∈ subsN n k, asc 0 (n - 1) s = true := fun s hs => by have := (subsL_mem n 0 k s hs).2; rwa [Int.zero_add] at this
  refine allSubsets_fn n k (subsN n k) (by omega) (by omega) ?_ ?_ ?_ hk (chainS_of n _ h1 (subsL_chain n n 0 k (by omega)))
  · unfold subsN
    rw [subsL_len]
    have := ch_le n k
    have h2 : 2 ^ n ≤ 2 ^ 32 := Nat.pow_le_pow_right (by omega) hn
    omega
  · intro h
    rw [idL_run]
    exact (subsL_head n 0 k).1 (by omega)
  · intro h
    exact (subsL_head n 0 k).2 (by omega)
end Go.Proofs.Ytnlfokkljgbaaaa
