/- The abstract layer, part 15: a law that returns true, at the top. -/
import Derived.Test.YtonfknfphdeenaaAv14
set_option linter.unusedSimpArgs false
set_option linter.unusedVariables false
set_option maxHeartbeats 4000000
set_option maxRecDepth 100000
namespace Go.Av

theorem Sim.start (w : World) : Sim w.heap.size w (fun _ _ _ => False) [] [] w :=
  ⟨rfl, Blw.refl _ _, Nat.le_refl _, fun _ _ _ h => h.elim, fun _ _ _ _ _ h => by simp at h, fun _ _ _ _ _ h => by simp at h, fun _ _ _ h => by simp at h⟩

theorem Rels.lit1 {F : Fz} {m : List Ent} (v : Value) : Rels F m [.lit v] [v] := by
  refine ⟨rfl, fun j c u h1 h2 => ?_⟩
  cases j with
  | zero => simp at h1 h2; subst h1; subst h2; exact .lit _
  | succ j => simp at h1
/-- A law without slices among its arguments: it returns true and leaves the memory before it alone. -/
theorem ACalls.top {P : Program} {f : FuncId} {args : List AV} {w : World} {b : Bool} (h : ACalls P f args [] fun r _ => r = Bv b) (vs : List Value) (hr : Rels (fun _ _ _ => False) [] args vs) :
    Calls P f vs.toArray w fun e w' => e = .returned (.bool b) ∧ RowKit.Below w.heap.size w w' := by
  refine (h w.heap.size w (fun _ _ _ => False) [] w vs hr (Sim.start w)).mono ?_
  rintro e w' ⟨F', m', H', r, v, rfl, _, _, hrel, hs, rfl⟩
  exact ⟨by rw [hrel.lit_inv], hs.below.toB⟩
end Go.Av
