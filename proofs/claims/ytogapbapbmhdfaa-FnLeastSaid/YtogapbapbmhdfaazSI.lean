/- Moved systems are systems; insertion at a place. -/
import Derived.Test.YtogapbapbmhdfaazJ2
set_option linter.unusedSimpArgs false
set_option linter.unusedVariables false
set_option maxHeartbeats 4000000
set_option maxRecDepth 100000
namespace Go.Proofs.Ytogapbapbmhdfaa
open Go.Av
theorem wfOfI {x : Int} (h : -9223372036854775808 ≤ x ∧ x ≤ 9223372036854775807) : (Lit.int .i64 x).wf = true := by
  simp [Lit.wf, IntKind.min, IntKind.max, IntKind.signed, IntKind.bits]
  omega
theorem cmpL_m1 : ∀ (xs ys : List Int), cmpL xs ys = -1 ∨ cmpL xs ys = 0 ∨ cmpL xs ys = 1
  | [], [] => .inr (.inl rfl)
  | [], _ :: _ => .inl rfl
  | _ :: _, [] => .inr (.inr rfl)
  | x :: a, y :: b => by
    rw [cmpL]
    split
    · exact .inl rfl
    · split
      · exact .inr (.inr rfl)
      · exact cmpL_m1 a b
theorem img_lenI {n : Nat} {p b : List Int} (hp : permOk n p) (hb : asc 0 ((n : Int) - 1) b = true) : (img p b).length = b.length := by
  have := (sortU_perm cmpZ_tot (map_nodup hp hb)).length_eq
  unfold img
  rw [this, List.length_map]
theorem chain_back (v : Int) : ∀ (l : List (List Int)) (p : Option (List Int)), Asc cmpL l → (∀ b ∈ l, asc 0 (v - 1) b = true ∧ b ≠ []) → (∀ q, p = some q → ∀ b ∈ l, cmpL q b < 0) → chain v p l = true
  | [], _, _, _, _ => by simp [chain]
  | b :: l, p, ha, hb, hq => by
    have h2 : ∀ y ∈ l, cmpL b y < 0 := fun y hy => (List.pairwise_cons.1 ha).1 y hy
    have h3 := chain_back v l (some b) (List.pairwise_cons.1 ha).2 (fun c hc => hb c (by simp [hc])) (fun q hq2 c hc => by cases hq2; exact h2 c hc)
    have h4 := hb b (by simp)
    simp only [chain, h3, h4.1]
    cases p with
    | none => simp [h4.2]
    | some q => have := hq q rfl b (by simp); simp [h4.2, this]
theorem systemOk_img {n : Nat} {p : List Int} {bs : List (List Int)} (h : systemOk n bs = true) (hs : sysOk n bs) (hp : permOk n p) : systemOk n (imgS p bs) = true := by
  have h0 := h
  simp only [systemOk, Bool.and_eq_true, decide_eq_true_eq] at h ⊢
  refine ⟨h.1, ?_⟩
  have hf := chain_facts _ bs none h.2
  refine chain_back _ _ _ (imgS_sys hs hp).2.2.1 (fun y hy => ?_) (by simp)
  obtain ⟨b, hb, rfl⟩ := (imgS_memJ p bs y).1 hy
  refine ⟨img_ascJ hp (hs.2.2.2 b hb), fun e => ?_⟩
  have := img_lenI hp (hs.2.2.2 b hb)
  rw [e] at this
  exact (hf.2.1 b hb).2 (List.eq_nil_of_length_eq_zero this.symm)
theorem ins_past {y : List Int} : ∀ {l1 l2 : List (List Int)}, (∀ z ∈ l1, cmpL z y < 0) → insU cmpL y (l1 ++ l2) = l1 ++ insU cmpL y l2
  | [], _, _ => rfl
  | z :: l1, l2, h => by
    have h1 := h z (by simp)
    show (if cmpL z y ≥ 0 then (if cmpL z y > 0 then y :: z :: (l1 ++ l2) else z :: (l1 ++ l2)) else z :: insU cmpL y (l1 ++ l2)) = _
    rw [if_neg (by omega), ins_past (fun w hw => h w (by simp [hw]))]
    rfl
theorem ins_here {y z : List Int} {l2 : List (List Int)} (h : ¬ cmpL z y < 0) (hne : z ≠ y) : insU cmpL y (z :: l2) = y :: z :: l2 := by
  have h1 : cmpL z y ≠ 0 := fun e => hne ((cmpL_eq0 z y).1 e)
  show (if cmpL z y ≥ 0 then (if cmpL z y > 0 then y :: z :: l2 else z :: l2) else _) = _
  rw [if_pos (by omega), if_pos (by omega)]
def mvd (p : List Int) (l : List (List Int)) : List (List Int) := sortU cmpL (l.map (img p))
theorem mvd_snoc (p : List Int) (l : List (List Int)) (b : List Int) : mvd p (l ++ [b]) = insU cmpL (img p b) (mvd p l) := by
  unfold mvd; rw [List.map_append]; exact sortU_snoc _ _
theorem mvd_new {n : Nat} {p : List Int} {pre post : List (List Int)} {b : List Int} (hs : sysOk n (pre ++ b :: post)) (hp : permOk n p) : ∀ z ∈ mvd p pre, z ≠ img p b := by
  intro z hz e
  unfold mvd at hz
  rw [sortU_mem cmpL_tot] at hz
  obtain ⟨c, hc, rfl⟩ := List.mem_map.1 hz
  have := img_inj hp (hs.2.2.2 c (by simp [hc])) (hs.2.2.2 b (by simp)) e
  subst this
  have ha := hs.2.2.1
  have h2 := (List.pairwise_append.1 ha).2.2 c hc c (by simp)
  have h3 := (cmpL_eq0 c c).2 rfl
  omega
end Go.Proofs.Ytogapbapbmhdfaa
