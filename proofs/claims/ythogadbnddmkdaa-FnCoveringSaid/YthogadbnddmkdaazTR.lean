/- Covering arrays: what the greedy run finds. -/
import Derived.Test.YthogadbnddmkdaazTO
import Derived.Test.YthogadbnddmkdaazGF
import Derived.Test.YthogadbnddmkdaazT0
set_option linter.unusedSimpArgs false
set_option linter.unusedVariables false
set_option maxHeartbeats 4000000
set_option maxRecDepth 100000
namespace Go.Proofs.Ythogadbnddmkdaa
open Go.Av
theorem nodup_sub_lenR {A : Type} : ∀ {l m : List A}, l.Nodup → (∀ x ∈ l, x ∈ m) → l.length ≤ m.length
  | [], _, _, _ => Nat.zero_le _
  | a :: l, m, hn, hs => by
    rw [List.nodup_cons] at hn
    obtain ⟨s, t, rfl⟩ := List.append_of_mem (hs a (by simp))
    have := nodup_sub_lenR (l := l) (m := s ++ t) hn.2 (fun x hx => by
      have h1 := hs x (by simp [hx])
      rcases List.mem_append.1 h1 with h1 | h1
      · exact List.mem_append_left _ h1
      · rcases List.mem_cons.1 h1 with rfl | h1
        · exact absurd hx hn.1
        · exact List.mem_append_right _ h1)
    simp at this ⊢; omega
theorem grd_ok {l c : Nat} (hl1 : 1 ≤ l) : ∀ (f : Nat) (m : List Int) (rows R : List (List Int)), m = rows.flatMap (codes l c) → (∀ r ∈ rows, rowOk l c r = true) → rows.length ≤ 256 → grd l c f m rows = some R → R.length ≤ 256 ∧ (∀ r ∈ R, rowOk l c r = true) ∧ opAll l c (inP l c (R.flatMap (codes l c))) = []
  | 0, m, rows, R, _, _, _, h => by simp [grd] at h
  | f + 1, m, rows, R, hm, hr, hlen, h => by
    cases hop : opAll l c (inP l c m) with
    | nil =>
      rw [grd_done hop] at h
      cases h
      exact ⟨hlen, hr, hm ▸ hop⟩
    | cons Q t =>
      obtain ⟨x, y, v, w, hxy, hy, hv, hw, rfl⟩ := opAll_mem (P := inP l c m) (q := Q) (by rw [hop]; simp)
      by_cases hf : rows.length = 256
      · rw [grd_full hop hf] at h; simp at h
      · rw [grd_step hop hf] at h
        have hn := nextRow_ok (m := m) (v := (v : Int)) (w := (w : Int)) hl1 (by omega) (by omega) hxy hy
        refine grd_ok hl1 f _ _ R ?_ (fun r hr2 => ?_) (by simp; omega) h
        · rw [List.flatMap_append, ← hm]; simp
        · rcases List.mem_append.1 hr2 with h1 | h1
          · exact hr r h1
          · rw [List.mem_singleton.1 h1]
            simp only [rowOk, Bool.and_eq_true, decide_eq_true_eq, List.all_eq_true]
            refine ⟨by rw [hn.1], fun z hz => ?_⟩
            obtain ⟨i, hi, rfl⟩ := List.getElem_of_mem hz
            rw [List.getElem_eq_getD 0]
            have := hn.2.1 i (by omega)
            omega
theorem opAll_nil {l c : Nat} {P : Nat → Nat → Nat → Nat → Bool} : opAll l c P = [] ↔ ∀ x y v w, x < y → y < c → v < l → w < l → P x y v w = true := by
  constructor
  · intro h x y v w hxy hy hv hw
    have h1 := opX_nil.1 (opTo_nil.1 h x (by omega)) (y - (x + 1)) (by omega)
    rw [show x + 1 + (y - (x + 1)) = y by omega] at h1
    have hn : v * l + w < l * l := by
      have := Nat.mul_le_mul_right l (show v + 1 ≤ l from hv)
      rw [Nat.succ_mul] at this; omega
    have h2 := opY_nil.1 h1 (v * l + w) hn
    rwa [show (v * l + w) / l = v by rw [Nat.mul_comm, Nat.mul_add_div (by omega), Nat.div_eq_of_lt hw, Nat.add_zero], show (v * l + w) % l = w by rw [Nat.mul_comm, Nat.mul_add_mod, Nat.mod_eq_of_lt hw]] at h2
  · intro h
    refine opTo_nil.2 fun x hx => opX_nil.2 fun j hj => opY_nil.2 fun k hk => ?_
    have hl : 0 < l := by
      rcases Nat.eq_zero_or_pos l with h0 | h0
      · rw [h0] at hk; simp at hk
      · exact h0
    exact h _ _ _ _ (by omega) (by omega) (Nat.div_lt_of_lt_mul hk) (Nat.mod_lt _ hl)
theorem rows_many {l c : Nat} {R : List (List Int)} (hc : 2 ≤ c) (h : opAll l c (covR R) = []) : l * l ≤ R.length := by
  have hcov := fun v w hv hw => opAll_nil.1 h 0 1 v w (by omega) (by omega) hv hw
  have h2 := nodup_sub_lenR (l := List.range (l * l)) (m := R.map fun r => (r.getD 0 0 * (l : Int) + r.getD 1 0).toNat) List.nodup_range (fun k hk => by
    rw [List.mem_range] at hk
    have hl : 0 < l := by
      rcases Nat.eq_zero_or_pos l with h0 | h0
      · rw [h0] at hk; simp at hk
      · exact h0
    have h3 := hcov (k / l) (k % l) (Nat.div_lt_of_lt_mul hk) (Nat.mod_lt _ hl)
    unfold covR at h3
    rw [List.any_eq_true] at h3
    obtain ⟨r, hr, h4⟩ := h3
    simp only [Bool.and_eq_true, decide_eq_true_eq] at h4
    refine List.mem_map.2 ⟨r, hr, ?_⟩
    rw [h4.1, h4.2]
    have := Nat.div_add_mod' k l
    have e : (((k / l : Nat) : Int) * (l : Int) + ((k % l : Nat) : Int)) = (((k / l * l + k % l : Nat)) : Int) := by simp
    rw [e, this]; simp)
  simpa using h2
theorem opX_le {l x y : Nat} {P : Nat → Nat → Nat → Nat → Bool} (h : ∀ j, j < y - (x + 1) → (opY l P x (x + 1 + j) (l * l)).length ≤ 1) : (opX l P x y).length ≤ y - (x + 1) := by
  unfold opX
  have : ∀ n, n ≤ y - (x + 1) → ((List.range n).flatMap fun j => opY l P x (x + 1 + j) (l * l)).length ≤ n := by
    intro n
    induction n with
    | zero => simp
    | succ n ih =>
      intro hn
      have i1 := ih (by omega)
      have i2 := h n (by omega)
      rw [List.range_succ, List.flatMap_append, List.length_append]
      simp only [List.flatMap_cons, List.flatMap_nil, List.append_nil]
      omega
  exact this _ (Nat.le_refl _)
theorem opTo_le {l c : Nat} {P : Nat → Nat → Nat → Nat → Bool} (h : ∀ x y, x < y → y < c → (opY l P x y (l * l)).length ≤ 1) : ∀ x, x ≤ c → 2 * (opTo l c P x).length + (c - x) * (c - x) + x ≤ c * c
  | 0, _ => by simp [opTo]
  | x + 1, hx => by
    have ih := opTo_le h x (by omega)
    have h1 := opX_le (l := l) (x := x) (y := c) (P := P) (fun j hj => h x (x + 1 + j) (by omega) (by omega))
    rw [opTo_succ, List.length_append]
    obtain ⟨d, hd⟩ : ∃ d, c = x + 1 + d := ⟨c - (x + 1), by omega⟩
    rw [show c - x = d + 1 by omega] at ih
    rw [show c - (x + 1) = d by omega] at h1 ⊢
    have e : (d + 1) * (d + 1) = d * d + 2 * d + 1 := by rw [Nat.add_mul, Nat.mul_add]; omega
    rw [e] at ih
    omega
theorem less_one {l c : Nat} {R B : List (List Int)} (a : List Int) (hR : opAll l c (covR R) = []) (hB : ∀ r ∈ R, r = a ∨ r ∈ B) : (opAll l c (covR B)).length * 2 ≤ c * (c - 1) := by
  have hcov := opAll_nil.1 hR
  have h1 : ∀ x y, x < y → y < c → (opY l (covR B) x y (l * l)).length ≤ 1 := fun x y hxy hy => by
    unfold opY
    rw [List.length_map]
    have hnd : ((List.range (l * l)).filter fun k => !covR B x y (k / l) (k % l)).Nodup := List.nodup_range.filter _
    have hun : ∀ k ∈ (List.range (l * l)).filter fun k => !covR B x y (k / l) (k % l), k ∈ [(a.getD x 0 * l + a.getD y 0).toNat] := fun k hk => by
      obtain ⟨hk1, hk2⟩ := List.mem_filter.1 hk
      rw [List.mem_range] at hk1
      have hl : 0 < l := by
        rcases Nat.eq_zero_or_pos l with h0 | h0
        · rw [h0] at hk1; simp at hk1
        · exact h0
      have h3 := hcov x y (k / l) (k % l) hxy hy (Nat.div_lt_of_lt_mul hk1) (Nat.mod_lt _ hl)
      have h4 : covR B x y (k / l) (k % l) = false := by simpa using hk2
      unfold covR at h3 h4
      rw [List.any_eq_true] at h3
      rw [List.any_eq_false] at h4
      obtain ⟨r, hr, h5⟩ := h3
      rcases hB r hr with rfl | hrB
      · simp only [Bool.and_eq_true, decide_eq_true_eq] at h5
        rw [List.mem_singleton, h5.1, h5.2]
        have := Nat.div_add_mod' k l
        have e : (((k / l : Nat) : Int) * (l : Int) + ((k % l : Nat) : Int)) = (((k / l * l + k % l : Nat)) : Int) := by simp
        rw [e, this]; simp
      · exact absurd h5 (h4 r hrB)
    have := nodup_sub_lenR (m := [(a.getD x 0 * l + a.getD y 0).toNat]) hnd hun
    simpa using this
  have h2 := opTo_le h1 c (Nat.le_refl _)
  unfold opAll
  rw [Nat.sub_self, Nat.zero_mul] at h2
  have h3 : c * (c - 1) = c * c - c := by rw [Nat.mul_sub, Nat.mul_one]
  omega
end Go.Proofs.Ythogadbnddmkdaa
