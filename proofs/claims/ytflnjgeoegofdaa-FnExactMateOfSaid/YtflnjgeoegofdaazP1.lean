/-
  The program's MateOf returns what the reference's returns, for all arguments. No condition.
-/
import Derived.Test.YtflnjgeoegofdaaRows
import Derived.Test.YtflnjgeoegofdaazMH
import Derived.WalkKit
import Derived.ProofKit
import Derived.OpenShut
import Derived.Below
import Derived.Carry
import Derived.Deep.Strs
import Derived.Lib.SmallJoins
set_option linter.unusedSimpArgs false
set_option linter.unusedVariables false
set_option maxHeartbeats 400000000
namespace Go.Proofs.Ytflnjgeoegofdaa.fnExactMateOf
open Go.ChangeShapes Go.WideShapes Go.ChangeAt Go.RowKit Go.Av
theorem own : ownKnob Try.prog.godebug = none := by kernel_rfl
theorem laid : laidOutB Try.prog = true := by kernel_rfl
theorem andI {a b : Bool} (h1 : a = true) (h2 : b = true) : (a && b) = true := by rw [h1, h2]; rfl
theorem reads22 {H : Type} {enc : TypeId × Value → H} {w : World} {fuel : Nat} {cs : List Value} {x : DataW H × List MemPlace} (h : DataW.trod enc Try.prog w 0 (fun _ => true) true fuel 22 cs = some x) : ∃ (y : List (List Int)), Reads w [ilSS y] cs ∧ (∀ xs ∈ y, ∀ n ∈ xs, (Lit.int .i64 n).wf = true) := by
  exact reads_intss Try.underlying22 (by rw [show Try.prog.cellsOf 30 = 1 by kernel_rfl]; decide) Try.underlying30 (by rw [show Try.prog.cellsOf 2 = 1 by kernel_rfl]; decide) Try.underlying2 h
theorem reads2 {H : Type} {enc : TypeId × Value → H} {w : World} {fuel : Nat} {cs : List Value} {x : DataW H × List MemPlace} (h : DataW.trod enc Try.prog w 0 (fun _ => true) true fuel 2 cs = some x) : ∃ (y : Int), Reads w [I y] cs ∧ (Lit.int .i64 y).wf = true := by
  exact reads_int Try.underlying2 h
theorem readable : ∀ t ∈ (#[22, 2] : Array TypeId).toList, Try.prog.readableRec t = true ∧ t < Try.prog.types.size := by
  intro t ht
  simp only [List.mem_cons, List.not_mem_nil, or_false] at ht
  rcases ht with rfl | rfl
  all_goals exact ⟨by kernel_rfl, of_decide_eq_true (by kernel_rfl)⟩
set_option maxRecDepth 100000 in
theorem lifted (os : Os) (started : os.Started) (H : Type) (enc : TypeId × Value → H) :
    ReturnsInHanded {} Try.checked os 3 .any (Rows.fnExactMateOfSpec.pre6 enc Try.prog Try.f3 Rows.fnExactMateOfRow.domain false) (Rows.fnExactMateOfSpec.post enc Try.prog Try.f3 false true false false) := by
  refine returnsInHanded_of_change (C := Try.checked) own started (by kernel_rfl) Try.func3
    (ChangeSpec.witness6 (enc := enc) (C := Try.checked) false ⟨#[], #[.slice none 0 0, .int .i64 0], []⟩ 8 (by kernel_rfl) (by kernel_rfl) (by kernel_rfl) (by kernel_rfl)) ?_
  intro W base args ds gs before hval0 hW hcnd _
  have hval : ∀ (j : Nat) t v, Try.f3.params[j]? = some t → args[j]? = some v → Value.okWide Try.prog W .any base t v := hval0
  have hW' := hW
  obtain ⟨p, q, hA0, hV, rfl, hfz, hnd⟩ := hW
  have hA : DataW.TrodAll enc Try.prog W 0 (fun _ => true) true Try.f3.params.toList args.toList ds p := hA0
  rw [Try.params3] at hA hval
  have hlt : ∀ x ∈ p, x.block < W.heap.size := fun x hx => hW'.lt x (List.mem_append_left _ hx)
  have hAk := hA
  obtain ⟨v0, vs0, d0, ds0, p0, q0, hargs, rfl, rfl, h0, r0⟩ := trodAll_cons hA
  obtain ⟨v1, vs1, d1, ds1, p1, q1, hargs1, rfl, rfl, h1, r1⟩ := trodAll_cons r0
  subst hargs1
  obtain ⟨rfl, rfl, rfl⟩ := trodAll_nil r1
  obtain rfl : args = #[v0, v1] := by cases args; simp_all
  obtain ⟨rfl, rfl⟩ := trodVars_none hV
  obtain ⟨fu0, hf0⟩ := h0
  have o0 : v0.oneCell' = true := by obtain ⟨a, l, c, rfl⟩ := okWide_slice Try.underlying22 (hval 0 22 v0 rfl rfl); rfl
  obtain ⟨a0_, e0, w0⟩ := reads22 hf0
  have k0 := e0.rel1 o0
  obtain ⟨fu1, hf1⟩ := h1
  have o1 : v1.oneCell' = true := by obtain ⟨n, rfl⟩ := okWide_int Try.underlying2 (hval 1 2 v1 rfl rfl); rfl
  obtain ⟨a1_, e1, w1⟩ := reads2 hf1
  have k1 := e1.rel1 o1
  clear hA0 hval0
  simp only [List.append_nil] at hW'
  refine (ACalls.topF (args := [ilSS a0_, I a1_]) (lawMateOf_ok [] a0_ a1_ w0) _ (Rels.cons k0 (Rels.cons k1 (Rels.nil _ _)))).mono fun e W' ⟨he, hg⟩ => ?_
  subst he
  exact ⟨_, rfl, ⟨_, _, _, [], _, [], hW', trodAll_mk1 (shut_bool Try.underlying4 _), trodAll_below laid hg (by rw [Try.params3]; exact readable) (by rw [Try.params3]; exact hAk) hlt, rfl, hg.frame _, fun h => by cases h⟩⟩
theorem over : Rows.fnExactMateOfRow.holds Try.pinned (OpenSpec.ofChange Rows.fnExactMateOfSpec) :=
  OpenClaim.holds_of_wide 3 Try.f3 rfl rfl rfl rfl rfl rfl rfl ⟨rfl, rfl, rfl, rfl, rfl⟩ rfl rfl rfl rfl rfl (by kernel_rfl) Try.func3 (by unfold joinedFacts; (repeat' with_reducible refine andI ?_ ?_); all_goals (as_aux_lemma => kernel_rfl))
    (of_decide_eq_true (by kernel_rfl)) (by unfold Func.isWrapper; first | (rw [if_pos (by decide +kernel)]; kernel_rfl) | (rw [if_neg (by decide +kernel)]; exact ⟨rfl, rfl⟩))
    (fun os started H enc _ => lifted os started H enc)
theorem proved : Rows.FnExactMateOfSaid :=
  over
#print axioms proved
end Go.Proofs.Ytflnjgeoegofdaa.fnExactMateOf
