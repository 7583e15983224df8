/- Orbits of all sets: both functions, with codes. -/
import Derived.Test.YtkifdjjnbplghaaGreatProg
import Derived.KernelRfl
import Derived.Test.YtkifdjjnbplghaaGreatzY4
import Derived.Test.YtkifdjjnbplghaaGreatzY8
import Derived.Test.YtkifdjjnbplghaaGreatzYA
set_option linter.unusedSimpArgs false
set_option linter.unusedVariables false
set_option maxHeartbeats 4000000
set_option maxRecDepth 100000
namespace Go.Proofs.YtkifdjjnbplghaaGreat
open Go.Av
attribute [go_sem] Bel_il3
def FX (P : Program) (f : FuncId) (args : List AV) (x3 : List (List (List Int))) (code : Int) : Prop :=
  ∀ H, ACalls P f args H fun r H' => ∃ ext v, H' = H ++ ext ∧ r = .tup [v, I code] ∧ OwnX H' (Btw H.length H'.length) v x3
theorem FX.lend {P : Program} {f : FuncId} {args args' : List AV} {x3 : List (List (List Int))} {code : Int} (h : FX P f args' x3 code) {H : List Blk} (hf : Frozs H args args') :
    ACalls P f args H fun r H' => ∃ ext v, H' = H ++ ext ∧ r = .tup [v, I code] ∧ OwnX H' (Btw H.length H'.length) v x3 := by
  refine ((h []).lend hf ?_).mono ?_
  · rintro r H0 ⟨ext, v, rfl, rfl, ho⟩
    exact .tup2 ho.ov (.I _)
  · rintro r H' ⟨r0, H0, ⟨ext, v, rfl, rfl, ho⟩, rfl, rfl⟩
    refine ⟨_, _, rfl, ?_, ho.sh (H := H) (N' := Btw H.length (H ++ _).length) (fun i hi => ?_)⟩
    · simp [sh_tup, sh_In]
    · unfold Btw at hi ⊢
      simp at hi ⊢; omega
noncomputable def orbsV (n : Int) (els : List (List Int)) (k : Int) : List (List (List Int)) := (orbL n.toNat k.toNat els (ch n.toNat k.toNat)).1
noncomputable def soV (n : Int) (els : List (List Int)) (k : Int) : List (List (List Int)) := if askV n els k = 0 then orbsV n els k else []
theorem askV_zero {n : Int} {els : List (List Int)} {k : Int} (h : askV n els k = 0) : grpOk n els ∧ 0 ≤ k ∧ k ≤ n ∧ ch n.toNat k.toNat ≤ 2000 ∧ n = ((n.toNat : Nat) : Int) ∧ k = ((k.toNat : Nat) : Int) := by
  unfold askV at h
  split at h
  · rename_i hg
    have hg' := grpB_t.1 hg
    have hn := hg'.1
    split at h
    · rename_i hk
      split at h
      · omega
      · rename_i hc
        have en : n = ((n.toNat : Nat) : Int) := by omega
        have ek : k = ((k.toNat : Nat) : Int) := by omega
        rw [en, ek, chooseI_ch _ _ (by omega) (by omega)] at hc
        exact ⟨hg', hk.1, hk.2, by omega, en, ek⟩
    · omega
  · omega
theorem soV_len (n : Int) (els : List (List Int)) (k : Int) : (soV n els k).length ≤ 2000 := by
  unfold soV
  split
  · rename_i h
    have hc := (askV_zero h).2.2.2.1
    have := (orbL_len n.toNat k.toNat els (ch n.toNat k.toNat)).2
    unfold orbsV
    omega
  · simp
end Go.Proofs.YtkifdjjnbplghaaGreat
