/- Differences; new lists. -/
import Derived.Test.YtdgcgckehihboaaDoorK7
import Derived.Test.YtdgcgckehihboaaDoorK8
import Derived.Test.YtdgcgckehihboaaDoorAv17
set_option linter.unusedSimpArgs false
set_option linter.unusedVariables false
set_option maxHeartbeats 4000000
set_option maxRecDepth 100000
namespace Go.Proofs.YtdgcgckehihboaaDoor
open Go.Av

/-- A call that returns a new list. -/
def NewL (P : Program) (f : FuncId) (args : List AV) (xs : List Int) : Prop :=
  ∀ H, ACalls P f args H fun r H' => ∃ ext, H' = H ++ ext ∧ OwnS H' (Btw H.length H'.length) H'.length r xs

theorem NewL.lend {P : Program} {f : FuncId} {args args' : List AV} {xs : List Int} (h : NewL P f args' xs) {H : List Blk} (hf : Frozs H args args') : ACalls P f args H fun r H' => ∃ ext, H' = H ++ ext ∧ OwnS H' (Btw H.length H'.length) H'.length r xs := by
  refine ((h []).lend hf ?_).mono ?_
  · rintro r H0 ⟨ext, rfl, ho⟩
    exact ho.ov
  · rintro r H' ⟨r0, H0, ⟨ext, rfl, ho⟩, rfl, rfl⟩
    refine ⟨_, rfl, ?_⟩
    have h2 := ho.sh (H := H) (N' := Btw H.length (H ++ H0.map (shB H.length)).length) (fun i hi => by
      unfold Btw at hi ⊢
      simp at hi ⊢; omega)
    have e : H.length + H0.length = (H ++ H0.map (shB H.length)).length := by simp
    rw [e] at h2
    exact h2
theorem NewL.lendf {P : Program} {f : FuncId} {args args' : List AV} {xs : List Int} (h : NewL P f args' xs) {H : List Blk} (hf : Frozs H args args') : ACalls P f args H fun r H' => r = ilS xs ∧ H' = H := by
  refine (h.lend hf).gr ?_
  rintro r H' ⟨ext, rfl, ho⟩
  exact GR.froz (ho.froz (fun i hi => hi.1)) ⟨rfl, rfl⟩
theorem NewL.lendq {P : Program} {f : FuncId} {args args' : List AV} {xs : List Int} (h : NewL P f args' xs) {H : List Blk} (hf : Frozs H args args') : AFn P f args H (ilS xs) := fun ext => h.lendf (hf.append ext)
theorem NewL.pfn {P : Program} {f : FuncId} {args : List AV} {xs : List Int} (h : NewL P f args xs) : PFn P f args (ilS xs) := by
  intro H
  refine (h H).gr ?_
  rintro r H' ⟨ext, rfl, ho⟩
  exact GR.froz (ho.froz (fun i hi => hi.1)) ⟨rfl, rfl⟩
theorem newL_of {H : List Blk} {k ver ty : Nat} {xs : List Int} {ext : List Blk} (hk : H.length ≤ k) (hr : (H ++ ext)[k]? = some ⟨ver, ty, 1, xs.map I⟩) : ∃ ext', H ++ ext = H ++ ext' ∧ OwnS (H ++ ext) (Btw H.length (H ++ ext).length) (H ++ ext).length (.nm k ver 0 xs.length) xs := by
  have := (List.getElem?_eq_some_iff.1 hr).1
  exact ⟨ext, rfl, .inl ⟨k, ver, ty, rfl, ⟨hk, this⟩, by omega, hr⟩⟩

def da (n a : Int) (l : List Int) : List Int := (l.filter fun b => decide (b ≠ a)).map fun b => (a - b + n).tmod n
def dl (n : Int) (set l : List Int) : List Int := l.flatMap fun a => da n a set
theorem da_snoc (n a : Int) (l : List Int) (b : Int) : da n a (l ++ [b]) = da n a l ++ (if b = a then [] else [(a - b + n).tmod n]) := by
  unfold da; rw [List.filter_append]; by_cases h : b = a <;> simp [h]
theorem dl_snoc (n : Int) (set l : List Int) (a : Int) : dl n set (l ++ [a]) = dl n set l ++ da n a set := by simp [dl]
theorem da_len (n a : Int) (l : List Int) : (da n a l).length ≤ l.length := by
  unfold da; rw [List.length_map]; exact List.length_filter_le _ _
theorem dl_len (n : Int) (set l : List Int) : (dl n set l).length ≤ l.length * set.length := by
  induction l with
  | nil => simp [dl]
  | cons a l ih =>
    have := da_len n a set
    simp only [dl, List.flatMap_cons, List.length_append, List.length_cons, Nat.succ_mul] at ih ⊢
    omega
theorem diff_range {n : Nat} {a b : Int} (ha : 0 ≤ a ∧ a < n) (hb : 0 ≤ b ∧ b < n) : 0 ≤ (a - b + n).tmod n ∧ (a - b + n).tmod n < n := by
  rw [Int.tmod_eq_emod_of_nonneg (by omega)]
  exact ⟨Int.emod_nonneg _ (by omega), Int.emod_lt_of_pos _ (by omega)⟩
theorem diff_ne {n : Nat} {a b : Int} (ha : 0 ≤ a ∧ a < n) (hb : 0 ≤ b ∧ b < n) (h : b ≠ a) : (a - b + n).tmod n ≠ 0 := by
  rw [Int.tmod_eq_emod_of_nonneg (by omega)]
  intro h0
  rcases Int.lt_or_gt_of_ne h with h1 | h1
  · have : (a - b + n) % n = (a - b) := by
      rw [Int.add_emod_right, Int.emod_eq_of_lt (by omega) (by omega)]
    omega
  · rw [Int.emod_eq_of_lt (by omega) (by omega)] at h0
    omega

end Go.Proofs.YtdgcgckehihboaaDoor
