/- The law of IsAutomorphism. -/
import Derived.Test.YtmdeibdplpodpaaProg
import Derived.KernelRfl
import Derived.Test.YtmdeibdplpodpaazRA
import Derived.ChangeSame
set_option linter.unusedSimpArgs false
set_option linter.unusedVariables false
set_option maxHeartbeats 4000000
set_option maxRecDepth 100000
namespace Go.Proofs.Ytmdeibdplpodpaa
open Go.Av
theorem reads_edges {H : Type} {enc : TypeId × Value → H} {P : Program} {w : World} {held : Bool} {t e i : TypeId} {f0 f1 : Field} {fuel : Nat} {cs : List Value} {x : DataW H × List MemPlace} (ht : P.underlying t = some (.slice e)) (hc : 0 < P.cellsOf e) (he : P.underlying e = some (.struct #[f0, f1])) (hi : P.underlying i = some (.int .i64))
    (e0 : f0.type = i) (e1 : f1.type = i) (o0 : f0.offset = 0) (o1 : f1.offset = P.cellsOf i) (h2 : P.cellsOf e = P.cellsOf i + P.cellsOf i) (h : DataW.trod enc P w 0 (fun _ => true) held fuel t cs = some x) :
    ∃ es : List (Int × Int), Reads w [ilE es] cs ∧ ∀ e ∈ es, (Lit.int .i64 e.1).wf = true ∧ (Lit.int .i64 e.2).wf = true := by
  subst e0
  obtain ⟨ys, k1, k2⟩ := reads_slice (g := fun y : Int × Int => [I y.1, I y.2]) (Q := fun n => (Lit.int .i64 n.1).wf = true ∧ (Lit.int .i64 n.2).wf = true) ht hc (fun fu cs x h => by
    obtain ⟨z0, z1, n, _, hl, h0, h1⟩ := Go.ChangeShapes.trod_struct2 he h
    obtain ⟨a, r0, g0⟩ := reads_int hi h0
    obtain ⟨b, r1, g1⟩ := reads_int (e1 ▸ hi) h1
    exact ⟨(a, b), reads_struct2 hl o0 o1 (e1.symm ▸ h2) r0 r1, g0, g1⟩) h
  exact ⟨ys, k1, k2⟩
end Go.Proofs.Ytmdeibdplpodpaa
