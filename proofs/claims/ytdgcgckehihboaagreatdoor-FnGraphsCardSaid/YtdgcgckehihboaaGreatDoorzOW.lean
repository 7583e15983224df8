/- Copies of lists, frozen. -/
import Derived.Test.YtdgcgckehihboaaGreatDoorProg
import Derived.KernelRfl
import Derived.Test.YtdgcgckehihboaaGreatDoorzU1
import Derived.Test.YtdgcgckehihboaaGreatDoorzM2
set_option linter.unusedSimpArgs false
set_option linter.unusedVariables false
set_option linter.unusedSectionVars false
set_option maxHeartbeats 4000000
set_option maxRecDepth 100000
namespace Go.Av
variable [Go.Av.DoorC]
theorem GR.frozH {H0 H1 ext : List Blk} {R : AV → List Blk → Prop} {r r' : AV} (hl : H1.length = H0.length) (hB : HB H1) (hf : Froz (H1 ++ ext) H0.length r r') (h : R r' H1) : GR H0 R r (H1 ++ ext) := by
  intro B W0 F0 m0 w0 F m w v hs0 hF hm hr hs
  have h1 := froz_rel hs hf hr
  have h2 := hs.take (k := H1.length) (by rw [List.take_left]; exact hB)
  rw [List.take_left] at h2
  have hF' : FLe F (fun b o v => F b o v ∨ ((∃ i e, H0.length ≤ i ∧ m[i]? = some e ∧ e.blk = some b) ∧ w.cell? ⟨b, o, none⟩ = some v)) := fun b o v h => .inl h
  rw [hl] at h2
  refine ⟨_, m.take H0.length, r', H1, hF.trans hF', hm.take (by rw [hs0.len]; exact Nat.le_refl _), h1, ?_, h⟩
  have sub : ∀ {i : Nat} {e : Ent}, (m.take H0.length)[i]? = some e → i < H0.length ∧ m[i]? = some e := by
    intro i e he
    rw [List.getElem?_take] at he
    split at he
    · exact ⟨by assumption, he⟩
    · simp at he
  refine ⟨h2.len, h2.below, h2.base, ?_, ?_, h2.dist, ?_, h2.glob⟩
  · intro b o u hu
    rcases hu with hu | ⟨⟨i, e, hi, he, hb⟩, hc⟩
    · exact h2.fz b o u hu
    · obtain ⟨k, hk, hok⟩ := hs.getm he
      exact ⟨hc, hok.one hb hc⟩
  · intro i e b o u he hb hu
    obtain ⟨hlt, he'⟩ := sub he
    rcases hu with hu | ⟨⟨j, e', hj, hje, hjb⟩, _⟩
    · exact h2.apart i e b o u he hb hu
    · have := hs.dist i j e e' b he' hje hb hjb
      omega
  · intro i e k he hk
    exact (h2.blk i e k he hk).mono hF' (MLe.refl _) (fun _ _ => rfl)
end Go.Av
namespace Go.Proofs.YtdgcgckehihboaaGreatDoor
variable [Go.Av.DoorC]
open Go.Av
abbrev f_spec_l00Own : Nat := 78
def c_spec_l00Own : SC :=
 .seq (.reg [
     ⟨(some 2), .mv (.const (.slice none 0 0)), none⟩] [0])
 (.seq (.reg [
     ⟨(some 3), .bslice 2 1 0 [] [], none⟩,
     ⟨(some 4), .mv (.tmp 0), none⟩,
     ⟨(some 5), .app 2 1 8 (.tmp 3) (.tmp 4), none⟩,
     ⟨(some 2), .mv (.tmp 5), none⟩] [2])
 (.ret))
theorem s_spec_l00Own : stripF Tryz.prog 78 [[0], [2]] = some (c_spec_l00Own, [.tmp 2], 6) := by kernel_rfl
end Go.Proofs.YtdgcgckehihboaaGreatDoor
