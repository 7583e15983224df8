/- Mates: the memory of their search. -/
import Derived.Test.YtflnjgeoegofdaazUR
import Derived.Test.YtflnjgeoegofdaazUG
import Derived.Test.YtflnjgeoegofdaazGV
set_option linter.unusedSimpArgs false
set_option linter.unusedVariables false
set_option maxHeartbeats 4000000
set_option maxRecDepth 100000
namespace Go.Proofs.Ytflnjgeoegofdaa
open Go.Av
abbrev tyMa : Nat := 47
structure MaN where
  (p tb vb wb tc vc wc ts vs ws : Nat)
  (rb rc rs : List Nat)
def MaN.foot (N : MaN) : List Nat := N.p :: N.tb :: N.tc :: N.ts :: (N.rb ++ (N.rc ++ N.rs))
structure MaH (H : List Blk) (N : MaN) (n : Nat) (a b : List (List Int)) (C S : List (List Bool)) (left : Nat) (spent : Bool) : Prop where
  nd : N.foot.Nodup
  box : H[N.p]? = some ⟨0, tyMa, 1, [I left, Bv spent, ilSS a, .nm N.tb N.vb 0 n, .nm N.tc N.vc 0 n, .nm N.ts N.vs 0 n]⟩
  gb : GrV I 30 2 H N.tb N.vb N.wb n N.rb b
  gc : GrV Bv 48 4 H N.tc N.vc N.wc n N.rc C
  gs : GrV Bv 48 4 H N.ts N.vs N.ws n N.rs S
theorem MaN.parts {N : MaN} (h : N.foot.Nodup) : (N.rb.Nodup ∧ N.rc.Nodup ∧ N.rs.Nodup) ∧ (N.tb ∉ N.rb ∧ N.tc ∉ N.rc ∧ N.ts ∉ N.rs) ∧
    (∀ r, r ∈ N.rb → r ≠ N.p ∧ (r ≠ N.tc ∧ r ∉ N.rc) ∧ (r ≠ N.ts ∧ r ∉ N.rs)) ∧ (∀ r, r ∈ N.rc → r ≠ N.p ∧ (r ≠ N.tb ∧ r ∉ N.rb) ∧ (r ≠ N.ts ∧ r ∉ N.rs)) ∧ (∀ r, r ∈ N.rs → r ≠ N.p ∧ (r ≠ N.tb ∧ r ∉ N.rb) ∧ (r ≠ N.tc ∧ r ∉ N.rc)) ∧
    ((N.p ≠ N.tb ∧ N.p ∉ N.rb) ∧ (N.p ≠ N.tc ∧ N.p ∉ N.rc) ∧ (N.p ≠ N.ts ∧ N.p ∉ N.rs)) := by
  unfold MaN.foot at h
  simp only [List.nodup_cons, List.mem_cons, List.mem_append, not_or, List.nodup_append] at h
  obtain ⟨⟨a1, a2, a3, a4, a5, a6⟩, ⟨b2, b3, b4, b5, b6⟩, ⟨c3, c4, c5, c6⟩, ⟨d4, d5, d6⟩, e1, ⟨f1, f2, f3⟩, f4⟩ := h
  refine ⟨⟨e1, f1, f2⟩, ⟨b4, c5, d6⟩, fun r hr => ⟨?_, ⟨?_, ?_⟩, ?_, ?_⟩, fun r hr => ⟨?_, ⟨?_, ?_⟩, ?_, ?_⟩, fun r hr => ⟨?_, ⟨?_, ?_⟩, ?_, ?_⟩, ⟨⟨a1, a4⟩, ⟨a2, a5⟩, a3, a6⟩⟩
  · rintro rfl; exact a4 hr
  · rintro rfl; exact c4 hr
  · intro h; exact f4 r hr r (.inl h) rfl
  · rintro rfl; exact d4 hr
  · intro h; exact f4 r hr r (.inr h) rfl
  · rintro rfl; exact a5 hr
  · rintro rfl; exact b5 hr
  · intro h; exact f4 r h r (.inl hr) rfl
  · rintro rfl; exact d5 hr
  · intro h; exact f3 r hr r h rfl
  · rintro rfl; exact a6 hr
  · rintro rfl; exact b6 hr
  · intro h; exact f4 r h r (.inr hr) rfl
  · rintro rfl; exact c6 hr
  · intro h; exact f3 r h r hr rfl
theorem MaN.in_b {N : MaN} {r : Nat} (h : r ∈ N.rb) : r ∈ N.foot := by simp [MaN.foot, h]
theorem MaN.in_c {N : MaN} {r : Nat} (h : r ∈ N.rc) : r ∈ N.foot := by simp [MaN.foot, h]
theorem MaN.in_s {N : MaN} {r : Nat} (h : r ∈ N.rs) : r ∈ N.foot := by simp [MaN.foot, h]
end Go.Proofs.Ytflnjgeoegofdaa
