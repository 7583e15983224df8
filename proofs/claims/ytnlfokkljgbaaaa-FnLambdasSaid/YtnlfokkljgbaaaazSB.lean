/- Bytes that are read. -/
import Derived.Test.YtnlfokkljgbaaaazSR
import Derived.Test.YtnlfokkljgbaaaazL7
set_option linter.unusedSimpArgs false
set_option linter.unusedVariables false
set_option maxHeartbeats 4000000
set_option maxRecDepth 100000
namespace Go.Proofs.Ytnlfokkljgbaaaa
open Go.Av Go.RowKit
theorem byteBounds {n : Int} (h : (Lit.int .u8 n).wf = true) : 0 ≤ n ∧ n < 256 := by
  simp [Lit.wf, IntKind.min, IntKind.max, IntKind.signed, IntKind.bits] at h
  omega
theorem reads_byte {H : Type} {enc : TypeId × Value → H} {P : Program} {w : World} {held : Bool} {t : TypeId} {fuel : Nat} {cs : List Value} {x : DataW H × List MemPlace} (ht : P.underlying t = some (.int .u8)) (h : DataW.trod enc P w 0 (fun _ => true) held fuel t cs = some x) : ∃ n : Int, Reads w [U8 n] cs ∧ (0 ≤ n ∧ n < 256) := by
  obtain ⟨n, rfl, _, hw⟩ := DataW.trod_int ht h
  exact ⟨n, ⟨Rels.cons (.lit _) (Rels.nil _ _), by simp [U8, AV.cell1, Value.oneCell']⟩, byteBounds hw⟩
theorem reads_bytes {H : Type} {enc : TypeId × Value → H} {P : Program} {w : World} {held : Bool} {t e : TypeId} {fuel : Nat} {cs : List Value} {x : DataW H × List MemPlace} (ht : P.underlying t = some (.slice e)) (hc : 0 < P.cellsOf e) (he : P.underlying e = some (.int .u8)) (h : DataW.trod enc P w 0 (fun _ => true) held fuel t cs = some x) :
    ∃ xs : List Int, Reads w [ilY xs] cs ∧ ∀ n ∈ xs, 0 ≤ n ∧ n < 256 := by
  obtain ⟨ys, h1, h2⟩ := reads_slice (g := fun y => [U8 y]) (Q := fun n => 0 ≤ n ∧ n < 256) ht hc (fun _ _ _ h => reads_byte he h) h
  exact ⟨ys, by rw [flatMap_one] at h1; exact h1, h2⟩
end Go.Proofs.Ytnlfokkljgbaaaa
