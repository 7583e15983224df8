/- Marks over a list of the call's own; nothing handed back. -/
import Derived.Test.YtdgcgckehihboaaDoorK4
import Derived.Test.YtdgcgckehihboaaDoorAv17
set_option linter.unusedSimpArgs false
set_option linter.unusedVariables false
set_option maxHeartbeats 4000000
set_option maxRecDepth 100000
namespace Go.Proofs.YtdgcgckehihboaaDoor
open Go.Av

def nums (k : Int) (n : Nat) : List Int := (List.range n).map fun (j : Nat) => k + (j : Int)
theorem nums_length (k : Int) (n : Nat) : (nums k n).length = n := by simp [nums]
theorem markS_ok (H : List Blk) (N : Nat → Prop) (t : Nat) (v : AV) (xs : List Int) (k : Int) (ho : OwnS H N t v xs) (hk0 : 0 ≤ k) (hk : k + xs.length ≤ 4611686018427387904) :
    ACalls Tryd.prog f_laws_markInt64S [v, I k] H (fun r H' => r = I (k + xs.length) ∧ OwnS H' N t v (nums k xs.length) ∧ H'.length = H.length ∧ ∀ j, ¬ N j → H'[j]? = H[j]?) := by
  rcases ho with ⟨r, ver, ty, rfl, h1, h2, h3⟩ | ⟨rfl, h⟩
  · refine (markInt64S_ok H r ver ty xs k h3 hk0 hk).mono ?_
    rintro r1 H' ⟨rfl, rfl⟩
    refine ⟨rfl, .inl ⟨r, ver, ty, by rw [nums_length], h1, h2, List.getElem?_set_self (List.getElem?_eq_some_iff.1 h3).1⟩, by simp, fun j hj => ?_⟩
    rw [List.getElem?_set_ne (by rintro rfl; exact hj h1)]
  · have hv : aview H v = some (0, []) := by rcases h with rfl | rfl <;> rfl
    refine (markInt64S_nil H v k hv).mono ?_
    rintro r1 H' ⟨rfl, rfl⟩
    exact ⟨by simp, .inr ⟨rfl, h⟩, rfl, fun _ _ => rfl⟩


theorem nilFS1 {H : List Blk} {ext : List Blk} {code : Int} : ∃ ext' v t, H ++ ext = H ++ ext' ∧ AV.tup [nilS, I code] = .tup [v, I code] ∧ OwnS (H ++ ext) (Btw H.length (H ++ ext).length) t v [] ∧ t = (H ++ ext).length := ⟨ext, nilS, _, rfl, rfl, .inr ⟨rfl, .inl rfl⟩, rfl⟩
end Go.Proofs.YtdgcgckehihboaaDoor
