/- Partial squares: what forced cells leave. -/
import Derived.Test.YtchehdplcbffmaazUI
import Derived.Test.YtchehdplcbffmaazUC
set_option linter.unusedSimpArgs false
set_option linter.unusedVariables false
set_option maxHeartbeats 4000000
set_option maxRecDepth 100000
namespace Go.Proofs.Ytchehdplcbffmaa
open Go.Av
inductive Fills (n : Nat) (p : List (List Int)) : List (List Int) → Prop
  | same : Fills n p p
  | more {q : List (List Int)} {c v : Nat} : Fills n p q → c < n * n → cellAt q (c / n) (c % n) = -1 → cands q (c / n) (c % n) n = [(v : Int)] → Fills n p (setC q (c / n) (c % n) (v : Int))
theorem empT_celB {n : Nat} {p : List (List Int)} (hs : sqN n p) : celB n p (empT p n (n * n)) := ⟨hs, empT_nodup _ _ _, fun _ hc => ⟨empT_lt hc, empT_cell hc⟩⟩
theorem empT_fill {n c v : Nat} {p : List (List Int)} (hs : sqN n p) (hc : c < n * n) : empT (setC p (c / n) (c % n) (v : Int)) n (n * n) = (empT p n (n * n)).erase c := by
  have hcc := cel_at hc
  rw [(empT_nodup p n (n * n)).erase_eq_filter]
  unfold empT
  rw [List.filter_filter]
  refine List.filter_congr fun d hd => ?_
  unfold isE
  rw [cell_set hs hcc.1 hcc.2]
  by_cases hdc : d = c
  · subst hdc
    rw [if_pos ⟨rfl, rfl⟩, decide_eq_false (by omega)]; simp
  · rw [if_neg (cel_ne hdc)]; simp [hdc]
theorem fill_part {p : List (List Int)} {c v : Nat} (h : partB p = true) (hc : c < p.length * p.length) (hv : (v : Int) ∈ cands p (c / p.length) (c % p.length) p.length) : partB (setC p (c / p.length) (c % p.length) (v : Int)) = true := by
  rw [partB_iff] at h ⊢
  obtain ⟨h1, h2, h3⟩ := h
  have hs : sqN p.length p := ⟨rfl, h2⟩
  have hcc := cel_at hc
  have hs2 := sqN_set hs (c / p.length) (c % p.length) v
  have hvn := (cands_mem hv).2
  obtain ⟨u, hu, e⟩ := List.mem_map.1 hv
  obtain rfl : u = v := by omega
  have hcan := (candP_iff hs hcc.1).1 (List.mem_filter.1 hu).2
  generalize c / p.length = x at *
  generalize c % p.length = y at *
  rw [hs2.1]
  refine ⟨h1, hs2.2, fun a b ha hb => ?_⟩
  unfold okS
  rw [hs2.1]
  by_cases hab : a = x ∧ b = y
  · obtain ⟨rfl, rfl⟩ := hab
    rw [cell_set hs ha hb, if_pos ⟨rfl, rfl⟩]
    refine ⟨by omega, fun _ k hk => ⟨fun hne => ?_, fun hne => ?_⟩⟩
    · rw [cell_set hs ha hb, if_neg (fun h => hne h.2)]; exact (hcan k hk).1
    · rw [cell_set hs ha hb, if_neg (fun h => hne h.1)]; exact (hcan k hk).2
  · have hok := h3 a b ha hb
    unfold okS at hok
    rw [cell_set hs hcc.1 hcc.2, if_neg hab]
    refine ⟨hok.1, fun h0 k hk => ⟨fun hne => ?_, fun hne => ?_⟩⟩
    · rw [cell_set hs hcc.1 hcc.2]
      split
      · rename_i h4
        rw [h4.1]
        exact fun e => (hcan b hb).1 e.symm
      · exact (hok.2 h0 k hk).1 hne
    · rw [cell_set hs hcc.1 hcc.2]
      split
      · rename_i h4
        rw [h4.2]
        exact fun e => (hcan a ha).2 e.symm
      · exact (hok.2 h0 k hk).2 hne
theorem Fills.part {p q : List (List Int)} (h : Fills p.length p q) (hp : partB p = true) : partB q = true ∧ q.length = p.length := by
  induction h with
  | same => exact ⟨hp, rfl⟩
  | more h hc he hv ih =>
    rename_i q c v
    obtain ⟨h1, h2⟩ := ih
    rw [← h2] at hc he hv ⊢
    exact ⟨fill_part h1 hc (by rw [hv]; simp), (sqN_set ⟨rfl, (partB_facts h1).2.2⟩ _ _ _).1⟩
theorem Fills.sq {p q : List (List Int)} (h : Fills p.length p q) (hp : partB p = true) : sqN p.length q := by
  obtain ⟨h1, h2⟩ := h.part hp
  exact ⟨h2, fun r hr => by rw [(partB_facts h1).2.2 r hr, h2]⟩
theorem Fills.keeps {p q : List (List Int)} (h : Fills p.length p q) (hp : partB p = true) {a b : Nat} (h0 : 0 ≤ cellAt p a b) : cellAt q a b = cellAt p a b := by
  induction h with
  | same => rfl
  | more h hc he hv ih =>
    rename_i q c v
    have hs := h.sq hp
    have hcc := cel_at hc
    rw [cell_set hs hcc.1 hcc.2, if_neg, ih]
    rintro ⟨rfl, rfl⟩
    rw [ih] at he
    omega
theorem Fills.less {p q : List (List Int)} (h : Fills p.length p q) (hp : partB p = true) : (empT q p.length (p.length * p.length)).length ≤ (empT p p.length (p.length * p.length)).length := by
  induction h with
  | same => exact Nat.le_refl _
  | more h hc he hv ih =>
    rename_i q c v
    rw [empT_fill (h.sq hp) hc]
    exact Nat.le_trans List.length_erase_le ih
theorem Fills.all {p q : List (List Int)} (h : Fills p.length p q) (hp : partB p = true) : allC p.length (empT q p.length (p.length * p.length)) q = allC p.length (empT p p.length (p.length * p.length)) p := by
  induction h with
  | same => rfl
  | more h hc he hv ih =>
    rename_i q c v
    have hs := h.sq hp
    rw [← ih, empT_fill hs hc, allC_one (empT_celB hs) (List.mem_filter.2 ⟨List.mem_range.2 hc, decide_eq_true he⟩) hv]
theorem cpV_all {p : List (List Int)} (hp : partB p = true) : cpV p 20000 = ([], 5) ∨ cpV p 20000 = match (allC p.length (empT p p.length (p.length * p.length)) p).head? with | none => ([], 3) | some f => (f, 0) := by
  have h := srch_all p.length (empT p p.length (p.length * p.length)) p (st0 20000) rfl rfl rfl
  unfold cpV
  rw [hp, if_neg (by simp), if_neg (by simp)]
  change (outS p.length 1 p 20000).spent = true ∨ (outS p.length 1 p 20000).first = _ at h
  rw [show ((20000 : Int)).toNat = 20000 from rfl]
  cases hs : (outS p.length 1 p 20000).spent with
  | true => exact .inl (if_pos rfl)
  | false =>
    right
    rw [if_neg (by simp)]
    rcases h with h | h
    · rw [hs] at h; cases h
    · rw [h]
      cases (allC p.length (empT p p.length (p.length * p.length)) p).head? <;> rfl
theorem fills_same {p q : List (List Int)} (h : Fills p.length p q) (hp : partB p = true) : (cpV p 20000).2 = 5 ∨ (cpV q 20000).2 = 5 ∨ cpV p 20000 = cpV q 20000 := by
  obtain ⟨h1, h2⟩ := h.part hp
  have ha := h.all hp
  rcases cpV_all hp with g | g
  · exact .inl (by rw [g])
  · rcases cpV_all h1 with f | f
    · exact .inr (.inl (by rw [f]))
    · right; right
      rw [g, f, h2, ha]
theorem fills_none {p q : List (List Int)} (h : Fills p.length p q) (hp : partB p = true) {c : Nat} (hc : c < p.length * p.length) (he : cellAt q (c / p.length) (c % p.length) = -1) (hn : cands q (c / p.length) (c % p.length) p.length = []) : (cpV p 20000).2 = 5 ∨ (cpV p 20000).2 = 3 := by
  have ha := h.all hp
  rw [allC_dead (empT_celB (h.sq hp)) (List.mem_filter.2 ⟨List.mem_range.2 hc, decide_eq_true he⟩) hn] at ha
  rcases cpV_all hp with g | g
  · exact .inl (by rw [g])
  · right
    rw [g, ← ha]; rfl
theorem cpV_bad {p : List (List Int)} (hp : partB p = false) (b : Int) : cpV p b = ([], 1) := by
  unfold cpV; rw [hp]; rfl
end Go.Proofs.Ytchehdplcbffmaa
