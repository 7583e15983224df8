/- Orbits of sets: how many there are, how long they are, how each begins. -/
import Derived.Test.YthogadbnddmkdaaGreatzJB
import Derived.Test.YthogadbnddmkdaaGreatzJ8
import Derived.Test.YthogadbnddmkdaaGreatzW3
import Derived.Test.YthogadbnddmkdaaGreatzYB
import Derived.Test.YthogadbnddmkdaaGreatzSK
set_option linter.unusedSimpArgs false
set_option linter.unusedVariables false
set_option maxHeartbeats 4000000
set_option maxRecDepth 100000
namespace Go.Proofs.YthogadbnddmkdaaGreat
open Go.Av
theorem sumF_is {n k : Nat} : ∀ (els : List (List Int)) (z : Int), (∀ p ∈ els, permOk n p) → els.foldl (fun s p => s + fxV p k) z = z + (sumN (fun p => ((subsN n k).filter fun S => decide (img p S = S)).length) els : Nat)
  | [], z, _ => by simp [sumN]
  | p :: els, z, h => by
    rw [List.foldl_cons, sumF_is els _ (fun q hq => h q (by simp [hq])), sumN_cons, kept_count (h p (by simp))]
    omega
theorem orbAll_len (n k : Nat) (els : List (List Int)) : (orbAll n k els).length ≤ ch n k := (orbL_len n k els (ch n k)).2
theorem count_is {n : Int} {els : List (List Int)} {k : Int} (hg : grpB n els = true) (h0 : 0 ≤ k) (h1 : k ≤ n) : coV n els k = (((orbAll n.toNat k.toNat els).length : Int), 0) := by
  have hgo := grpB_t.1 hg
  have hG := IsG.of hgo
  unfold coV
  rw [if_pos hg, if_pos ⟨h0, h1⟩]
  have hs : sumF k.toNat els = (((orbAll n.toNat k.toNat els).length * els.length : Nat) : Int) := by
    unfold sumF
    rw [sumF_is (n := n.toNat) els 0 hG.1, burnside hG, Int.zero_add]
  have hpos : 0 < els.length := List.length_pos_of_mem hG.2.2.1
  rw [hs, tdivN, Nat.mul_div_cancel _ hpos]
  have h2 := orbAll_len n.toNat k.toNat els
  have h3 := ch_le n.toNat k.toNat
  have h4 : 2 ^ n.toNat ≤ 2 ^ 32 := Nat.pow_le_pow_right (by omega) (by have := hgo.1; omega)
  rw [w64_id (by omega) (by omega)]
theorem orb_total {n k : Nat} {els : List (List Int)} (h : IsG n els) : sumN (fun O => O.length) (orbAll n k els) = ch n k := by
  have := orb_sum (k := k) h (fun _ => 1)
  rw [sumN_const, subsN_len] at this
  rw [← Nat.mul_one (ch n k), this]
  exact sumN_congr fun O _ => by rw [sumN_const, Nat.mul_one]
theorem subsN_asc (n k : Nat) : Asc cmpL (subsN n k) := subsL_ascK n 0 k
theorem subsN_lt {n k i j : Nat} (hij : i < j) (hj : j < ch n k) : cmpL ((subsN n k).getD i []) ((subsN n k).getD j []) < 0 := by
  have hl := subsN_len n k
  rw [List.getD_eq_getElem?_getD, List.getD_eq_getElem?_getD, List.getElem?_eq_getElem (by omega), List.getElem?_eq_getElem (by omega)]
  exact List.pairwise_iff_getElem.1 (subsN_asc n k) i j (by omega) (by omega) hij
theorem head_is {n k j : Nat} {els : List (List Int)} {st : List (List (List Int)) × List Bool} (h : IsG n els) (ih : OrbI n k els j st) (hj : j < ch n k) (hs : st.2.getD j false = false) : (orb els ((subsN n k).getD j [])).getD 0 [] = (subsN n k).getD j [] := by
  obtain ⟨r1, r2⟩ := subsN_row (n := n) (k := k) (i := j) hj
  generalize hS : (subsN n k).getD j [] = S at *
  have hself := orb_self h r2
  have hasc := sortU_asc cmpL_tot (imgsOf els S)
  cases hO : orb els S with
  | nil => rw [hO] at hself; simp at hself
  | cons x r =>
    show x = S
    refine Classical.byContradiction fun hne => ?_
    have hSr : S ∈ r := by
      rw [hO] at hself
      rcases List.mem_cons.1 hself with e | e
      · exact absurd e.symm hne
      · exact e
    have hlt : cmpL x S < 0 := by
      have : Asc cmpL (orb els S) := hasc
      rw [hO] at this
      exact (List.pairwise_cons.1 this).1 S hSr
    have hx : x ∈ orb els S := by rw [hO]; simp
    obtain ⟨x1, x2⟩ := orb_set h r2 hx
    have hxm : x ∈ subsN n k := subsN_mem.2 ⟨by omega, x1⟩
    obtain ⟨i, hi, e⟩ := List.getElem_of_mem hxm
    rw [subsN_len] at hi
    have eg : (subsN n k).getD i [] = x := by rw [List.getD_eq_getElem?_getD, List.getElem?_eq_getElem (by rw [subsN_len]; exact hi), e]; rfl
    rcases Nat.lt_trichotomy i j with hij | hij | hij
    · obtain ⟨O', hO', hxO⟩ := ih.all i hij
      rw [eg] at hxO
      obtain ⟨S', s1, s2, rfl⟩ := ih.orbs O' hO'
      have e1 := orb_eq h s2 hxO
      have e2 := orb_eq h r2 hx
      have : st.2.getD j false = true := (ih.seen j hj).2 ⟨_, hO', by rw [hS, ← e1, e2]; exact orb_self h r2⟩
      rw [hs] at this; simp at this
    · subst hij
      exact hne (eg.symm.trans hS)
    · have := subsN_lt (n := n) (k := k) hij hi
      rw [eg, hS] at this
      have := cmpL_tot.neg x S
      omega
theorem heads {n k : Nat} {els : List (List Int)} (h : IsG n els) : ∀ j, j ≤ ch n k → (orbL n k els j).1.Pairwise (fun O O' => cmpL (O.getD 0 []) (O'.getD 0 []) < 0) ∧ ∀ O ∈ (orbL n k els j).1, ∃ i, i < j ∧ O.getD 0 [] = (subsN n k).getD i []
  | 0, _ => by rw [orbL_zero]; simp
  | j + 1, hj => by
    have ih := heads (k := k) h j (by omega)
    have inv := orbL_inv (k := k) h j (by omega)
    rw [orbL_succ]
    generalize orbL n k els j = st at *
    unfold orbS
    split
    · refine ⟨ih.1, fun O hO => ?_⟩
      obtain ⟨i, hi, e⟩ := ih.2 O hO
      exact ⟨i, by omega, e⟩
    · rename_i hs
      have hs' : st.2.getD j false = false := by cases hb : st.2.getD j false <;> simp_all
      have hh := head_is h inv (by omega) hs'
      simp only
      refine ⟨?_, fun O hO => ?_⟩
      · rw [List.pairwise_append]
        refine ⟨ih.1, by simp, fun O hO O' hO' => ?_⟩
        rw [List.mem_singleton.1 hO']
        obtain ⟨i, hi, e⟩ := ih.2 O hO
        rw [e]
        show cmpL _ ((orb els ((subsN n k).getD j [])).getD 0 []) < 0
        rw [hh]
        exact subsN_lt hi (by omega)
      · rcases List.mem_append.1 hO with hO | hO
        · obtain ⟨i, hi, e⟩ := ih.2 O hO
          exact ⟨i, by omega, e⟩
        · rw [List.mem_singleton.1 hO]
          exact ⟨j, by omega, hh⟩
theorem orbAll_heads {n k : Nat} {els : List (List Int)} (h : IsG n els) : (orbAll n k els).Pairwise (fun O O' => cmpL (O.getD 0 []) (O'.getD 0 []) < 0) := (heads (k := k) h (ch n k) (Nat.le_refl _)).1
end Go.Proofs.YthogadbnddmkdaaGreat
