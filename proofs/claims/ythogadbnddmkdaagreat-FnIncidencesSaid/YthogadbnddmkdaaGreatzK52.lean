/- Groups as results: compared, marked, held; the cyclic group's law. -/
import Derived.Test.YthogadbnddmkdaaGreatzK50
import Derived.Test.YthogadbnddmkdaaGreatzL1
set_option linter.unusedSimpArgs false
set_option linter.unusedVariables false
set_option maxHeartbeats 4000000
set_option maxRecDepth 100000
namespace Go.Proofs.YthogadbnddmkdaaGreat
open Go.Av
theorem aff_small (n : Nat) (fs : List Nat) (hn : n ≤ 32) (hfl : fs.length ≤ 32) : total (sortU cmpL (affAll n fs)) ≤ 40000 := by
  have h1 := sortU_len (cf := cmpL) (affAll n fs)
  rw [affAll_len] at h1
  have h2 : fs.length * n ≤ 32 * 32 := Nat.mul_le_mul hfl hn
  have h3 : ∀ r ∈ sortU cmpL (affAll n fs), r.length ≤ 32 := by
    intro r hr
    rw [sortU_mem cmpL_tot] at hr
    obtain ⟨a, _, hr⟩ := List.mem_flatMap.1 hr
    obtain ⟨b, _, rfl⟩ := List.mem_map.1 hr
    rw [affRow_len]; exact hn
  have h4 : ∀ l : List (List Int), (∀ r ∈ l, r.length ≤ 32) → total l ≤ l.length * 32 := by
    intro l hl
    induction l with
    | nil => simp [total]
    | cons r l ih =>
      have e1 := hl r (by simp)
      have e2 := ih (fun r hr => hl r (by simp [hr]))
      simp [total] at e2 ⊢; omega
  have := h4 _ h3
  omega
theorem affRow_inj {n a b c d : Nat} (hn : 2 ≤ n) (ha : a < n) (hb : b < n) (hc : c < n) (hd : d < n) (h : affRow n a b n = affRow n c d n) : a = c ∧ b = d := by
  have g : ∀ i, i < n → (a * i + b) % n = (c * i + d) % n := fun i hi => by
    have := congrArg (fun l : List Int => l[i]?) h
    simp only [affRow, List.getElem?_map, List.getElem?_range hi, Option.map_some, Option.some.injEq] at this
    exact Int.ofNat_inj.1 this
  have g0 := g 0 (by omega)
  have g1 := g 1 (by omega)
  rw [Nat.mul_zero, Nat.zero_add, Nat.mul_zero, Nat.zero_add, Nat.mod_eq_of_lt hb, Nat.mod_eq_of_lt hd] at g0
  subst g0
  rw [Nat.mul_one, Nat.mul_one] at g1
  refine ⟨?_, rfl⟩
  have e1 : (a + b) % n = if a + b < n then a + b else a + b - n := by
    split
    · exact Nat.mod_eq_of_lt (by assumption)
    · rw [Nat.mod_eq_sub_mod (by omega), Nat.mod_eq_of_lt (by omega)]
  have e2 : (c + b) % n = if c + b < n then c + b else c + b - n := by
    split
    · exact Nat.mod_eq_of_lt (by assumption)
    · rw [Nat.mod_eq_sub_mod (by omega), Nat.mod_eq_of_lt (by omega)]
  rw [e1, e2] at g1
  split at g1 <;> split at g1 <;> omega
theorem affAll_nodup {n : Nat} {fs : List Nat} (hn : 2 ≤ n) (hf : ∀ a ∈ fs, a < n) (hd : fs.Nodup) : (affAll n fs).Nodup := by
  induction fs with
  | nil => simp [affAll]
  | cons a fs ih =>
    have hd2 := List.nodup_cons.1 hd
    have hl := ih (fun x hx => hf x (by simp [hx])) hd2.2
    have ha := hf a (by simp)
    unfold affAll at hl ⊢
    rw [List.flatMap_cons, List.nodup_append]
    refine ⟨?_, hl, ?_⟩
    · unfold affS
      rw [List.nodup_iff_pairwise_ne, List.pairwise_map]
      refine List.Pairwise.imp_of_mem ?_ (List.nodup_iff_pairwise_ne.1 List.nodup_range)
      intro b c hb hc hne he
      rw [List.mem_range] at hb hc
      exact hne (affRow_inj hn ha hb ha hc he).2
    · rintro x hx y hy rfl
      obtain ⟨b, hb, rfl⟩ := List.mem_map.1 hx
      obtain ⟨c, hc, hy⟩ := List.mem_flatMap.1 hy
      obtain ⟨d, hd, he⟩ := List.mem_map.1 hy
      rw [List.mem_range] at hb hd
      have := (affRow_inj hn (hf c (by simp [hc])) hd ha hb he).1
      subst this
      exact hd2.1 hc
end Go.Proofs.YthogadbnddmkdaaGreat
namespace Go.Proofs.YthogadbnddmkdaaGreat
open Go.Av
theorem total_geV {x : List Int} : ∀ {xss : List (List Int)}, x ∈ xss → x.length ≤ total xss
  | y :: r, h => by
    rw [total_cons]
    rcases List.mem_cons.1 h with rfl | h
    · omega
    · have := total_geV h; omega
end Go.Proofs.YthogadbnddmkdaaGreat
