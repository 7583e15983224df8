/- Orbits of all sets of k points: what both reckon. -/
import Derived.Test.YthogadbnddmkdaaGreatzY1
import Derived.Test.YthogadbnddmkdaaGreatzVB
set_option linter.unusedSimpArgs false
set_option linter.unusedVariables false
set_option maxHeartbeats 4000000
set_option maxRecDepth 100000
namespace Go.Proofs.YthogadbnddmkdaaGreat
open Go.Av
theorem asc_ofZ : ∀ {l : List Int} {lo hi : Int}, Asc cmpZ l → (∀ x ∈ l, lo ≤ x ∧ x ≤ hi) → asc lo hi l = true
  | [], _, _, _, _ => rfl
  | x :: r, lo, hi, h, hm => by
    have h' := List.pairwise_cons.1 h
    simp only [asc, Bool.and_eq_true, decide_eq_true_eq]
    refine ⟨hm x (by simp), asc_ofZ h'.2 fun y hy => ?_⟩
    have h1 := h'.1 y hy
    have h2 := hm y (by simp [hy])
    unfold cmpZ at h1
    omega
theorem img_asc {n : Nat} {p b : List Int} (hp : permOk n p) (hb : asc 0 ((n : Int) - 1) b = true) : asc 0 ((n : Int) - 1) (img p b) = true := by
  refine asc_ofZ (sortU_asc cmpZ_tot _) fun x hx => ?_
  obtain ⟨y, hy, rfl⟩ := (img_mem p b x).1 hx
  have hyb := asc_mem hb y hy
  have hg := pa_get hp (x := y) (by omega) (by omega)
  have hm : pa p y ∈ p := by
    rw [← hg.2, List.getD_eq_getElem?_getD, List.getElem?_eq_getElem hg.1]; exact List.getElem_mem _
  have := hp.2.2 _ hm
  omega
theorem img_length {n : Nat} {p b : List Int} (hp : permOk n p) (hb : asc 0 ((n : Int) - 1) b = true) : (img p b).length = b.length := by
  have := (sortU_perm cmpZ_tot (map_nodup hp hb)).length_eq
  unfold img
  rw [this, List.length_map]
noncomputable def orbS (n k : Nat) (els : List (List Int)) (st : List (List (List Int)) × List Bool) (i : Nat) : List (List (List Int)) × List Bool :=
  if st.2.getD i false = true then st else (st.1 ++ [sortU cmpL (imgsOf els ((subsN n k).getD i []))], (sortU cmpL (imgsOf els ((subsN n k).getD i []))).foldl (fun s x => s.set (rkN n 0 x) true) st.2)
noncomputable def orbL (n k : Nat) (els : List (List Int)) (j : Nat) : List (List (List Int)) × List Bool := (List.range j).foldl (orbS n k els) ([], List.replicate (ch n k) false)
theorem orbL_zero (n k : Nat) (els : List (List Int)) : orbL n k els 0 = ([], List.replicate (ch n k) false) := rfl
theorem orbL_succ (n k : Nat) (els : List (List Int)) (j : Nat) : orbL n k els (j + 1) = orbS n k els (orbL n k els j) j := by unfold orbL; rw [List.range_succ, List.foldl_append]; rfl
theorem foldset_len (f : List Int → Nat) : ∀ (O : List (List Int)) (s : List Bool), (O.foldl (fun s x => s.set (f x) true) s).length = s.length
  | [], _ => rfl
  | x :: O, s => by rw [List.foldl_cons, foldset_len f O, List.length_set]
theorem orbL_len (n k : Nat) (els : List (List Int)) (j : Nat) : (orbL n k els j).2.length = ch n k ∧ (orbL n k els j).1.length ≤ j := by
  induction j with
  | zero => rw [orbL_zero]; simp
  | succ j ih =>
    rw [orbL_succ]
    unfold orbS
    split
    · exact ⟨ih.1, by omega⟩
    · refine ⟨by simp only; rw [foldset_len]; exact ih.1, by simp; omega⟩
theorem subsN_row {n k i : Nat} (hi : i < ch n k) : ((subsN n k).getD i []).length = k ∧ asc 0 ((n : Int) - 1) ((subsN n k).getD i []) = true := by
  have hl : i < (subsN n k).length := by unfold subsN; rw [subsL_len]; exact hi
  have hm : (subsN n k).getD i [] ∈ subsN n k := by rw [List.getD_eq_getElem?_getD, List.getElem?_eq_getElem hl]; exact List.getElem_mem _
  have := subsL_mem n 0 k _ hm
  rw [show (0 : Int) + n - 1 = n - 1 by omega] at this
  exact this
theorem orb_rank {n k i : Nat} {els : List (List Int)} (hn : n ≤ 32) (hp : ∀ p ∈ els, permOk n p) (hi : i < ch n k) : ∀ x ∈ sortU cmpL (imgsOf els ((subsN n k).getD i [])), asc 0 ((n : Int) - 1) x = true ∧ rankI n x = rkN n 0 x ∧ rkN n 0 x < ch n k := by
  intro x hx
  rw [sortU_mem cmpL_tot] at hx
  obtain ⟨p, hpm, rfl⟩ := List.mem_map.1 hx
  have hs := subsN_row hi
  have ha := img_asc (hp p hpm) hs.2
  have hr := rankI_is n _ hn ha
  rw [img_length (hp p hpm) hs.2, hs.1] at hr
  exact ⟨ha, hr⟩
end Go.Proofs.YthogadbnddmkdaaGreat
namespace Go.Proofs.YthogadbnddmkdaaGreat
open Go.Av
theorem orbL_rows {n k : Nat} {els : List (List Int)} (hel : 1 ≤ els.length) (hl : els.length ≤ 720) (j : Nat) : ∀ R ∈ (orbL n k els j).1, R ≠ [] ∧ R.length ≤ 720 := by
  induction j with
  | zero => rw [orbL_zero]; simp
  | succ j ih =>
    rw [orbL_succ]
    unfold orbS
    split
    · exact ih
    · intro R hR
      rcases List.mem_append.1 hR with h | h
      · exact ih R h
      · rw [List.mem_singleton.1 h]
        have h1 := sortU_ne (els := els) (set := (subsN n k).getD j []) hel
        have h2 := sortU_len (cf := cmpL) (imgsOf els ((subsN n k).getD j []))
        have h3 : (imgsOf els ((subsN n k).getD j [])).length = els.length := by simp [imgsOf]
        refine ⟨fun h0 => ?_, by omega⟩
        rw [h0] at h1
        simp at h1
end Go.Proofs.YthogadbnddmkdaaGreat
