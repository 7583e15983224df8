/-
  The program's GenerateSystems returns what the reference's returns, for all arguments. No condition.
-/
import Derived.Test.YtkifdjjnbplghaaGreatRows
import Derived.Test.YtkifdjjnbplghaaGreatzZ6
import Derived.WalkKit
import Derived.ProofKit
import Derived.OpenShut
import Derived.Below
import Derived.Carry
import Derived.Deep.Strs
import Derived.Lib.SmallJoins
set_option linter.unusedSimpArgs false
set_option linter.unusedVariables false
set_option maxHeartbeats 400000000
namespace Go.Proofs.YtkifdjjnbplghaaGreat.fnExactGenerateSystems
open Go.ChangeShapes Go.WideShapes Go.ChangeAt Go.RowKit Go.Av
theorem own : ownKnob Tryz.prog.godebug = none := by kernel_rfl
theorem laid : laidOutB Tryz.prog = true := by kernel_rfl
theorem andI {a b : Bool} (h1 : a = true) (h2 : b = true) : (a && b) = true := by rw [h1, h2]; rfl
theorem reads2 {H : Type} {enc : TypeId × Value → H} {w : World} {fuel : Nat} {cs : List Value} {x : DataW H × List MemPlace} (h : DataW.trod enc Tryz.prog w 0 (fun _ => true) true fuel 2 cs = some x) : ∃ (y : Int), Reads w [I y] cs ∧ (Lit.int .i64 y).wf = true := by
  exact reads_int Tryz.underlying2 h
theorem readable : ∀ t ∈ (#[2, 2, 2, 2] : Array TypeId).toList, Tryz.prog.readableRec t = true ∧ t < Tryz.prog.types.size := by
  intro t ht
  simp only [List.mem_cons, List.not_mem_nil, or_false] at ht
  rcases ht with rfl | rfl | rfl | rfl
  all_goals exact ⟨by kernel_rfl, of_decide_eq_true (by kernel_rfl)⟩
set_option maxRecDepth 100000 in
theorem lifted (os : Os) (started : os.Started) (H : Type) (enc : TypeId × Value → H) :
    ReturnsInHanded {} Tryz.checked os 8 .any (Rows.fnExactGenerateSystemsSpec.pre6 enc Tryz.prog Tryz.f8 Rows.fnExactGenerateSystemsRow.domain false) (Rows.fnExactGenerateSystemsSpec.post enc Tryz.prog Tryz.f8 false true false false) := by
  refine returnsInHanded_of_change (C := Tryz.checked) own started (by kernel_rfl) Tryz.func8
    (ChangeSpec.witness6 (enc := enc) (C := Tryz.checked) false ⟨#[], #[.int .i64 0, .int .i64 0, .int .i64 0, .int .i64 0], []⟩ 8 (by kernel_rfl) (by kernel_rfl) (by kernel_rfl) (by kernel_rfl)) ?_
  intro W base args ds gs before hval0 hW hcnd _
  have hval : ∀ (j : Nat) t v, Tryz.f8.params[j]? = some t → args[j]? = some v → Value.okWide Tryz.prog W .any base t v := hval0
  have hW' := hW
  obtain ⟨p, q, hA0, hV, rfl, hfz, hnd⟩ := hW
  have hA : DataW.TrodAll enc Tryz.prog W 0 (fun _ => true) true Tryz.f8.params.toList args.toList ds p := hA0
  rw [Tryz.params8] at hA hval
  have hlt : ∀ x ∈ p, x.block < W.heap.size := fun x hx => hW'.lt x (List.mem_append_left _ hx)
  have hAk := hA
  obtain ⟨v0, vs0, d0, ds0, p0, q0, hargs, rfl, rfl, h0, r0⟩ := trodAll_cons hA
  obtain ⟨v1, vs1, d1, ds1, p1, q1, hargs1, rfl, rfl, h1, r1⟩ := trodAll_cons r0
  obtain ⟨v2, vs2, d2, ds2, p2, q2, hargs2, rfl, rfl, h2, r2⟩ := trodAll_cons r1
  obtain ⟨v3, vs3, d3, ds3, p3, q3, hargs3, rfl, rfl, h3, r3⟩ := trodAll_cons r2
  subst hargs1
  subst hargs2
  subst hargs3
  obtain ⟨rfl, rfl, rfl⟩ := trodAll_nil r3
  obtain rfl : args = #[v0, v1, v2, v3] := by cases args; simp_all
  obtain ⟨rfl, rfl⟩ := trodVars_none hV
  obtain ⟨fu0, hf0⟩ := h0
  have o0 : v0.oneCell' = true := by obtain ⟨n, rfl⟩ := okWide_int Tryz.underlying2 (hval 0 2 v0 rfl rfl); rfl
  obtain ⟨a0_, e0, w0⟩ := reads2 hf0
  have k0 := e0.rel1 o0
  obtain ⟨fu1, hf1⟩ := h1
  have o1 : v1.oneCell' = true := by obtain ⟨n, rfl⟩ := okWide_int Tryz.underlying2 (hval 1 2 v1 rfl rfl); rfl
  obtain ⟨a1_, e1, w1⟩ := reads2 hf1
  have k1 := e1.rel1 o1
  obtain ⟨fu2, hf2⟩ := h2
  have o2 : v2.oneCell' = true := by obtain ⟨n, rfl⟩ := okWide_int Tryz.underlying2 (hval 2 2 v2 rfl rfl); rfl
  obtain ⟨a2_, e2, w2⟩ := reads2 hf2
  have k2 := e2.rel1 o2
  obtain ⟨fu3, hf3⟩ := h3
  have o3 : v3.oneCell' = true := by obtain ⟨n, rfl⟩ := okWide_int Tryz.underlying2 (hval 3 2 v3 rfl rfl); rfl
  obtain ⟨a3_, e3, w3⟩ := reads2 hf3
  have k3 := e3.rel1 o3
  clear hA0 hval0
  simp only [List.append_nil] at hW'
  refine (ACalls.topF (args := [I a0_, I a1_, I a2_, I a3_]) (lawGenerate_ok [] a0_ a1_ a2_ a3_) _ (Rels.cons k0 (Rels.cons k1 (Rels.cons k2 (Rels.cons k3 (Rels.nil _ _)))))).mono fun e W' ⟨he, hg⟩ => ?_
  subst he
  exact ⟨_, rfl, ⟨_, _, _, [], _, [], hW', trodAll_mk1 (shut_bool Tryz.underlying4 _), trodAll_below laid hg (by rw [Tryz.params8]; exact readable) (by rw [Tryz.params8]; exact hAk) hlt, rfl, hg.frame _, fun h => by cases h⟩⟩
theorem over : Rows.fnExactGenerateSystemsRow.holds Tryz.pinned (OpenSpec.ofChange Rows.fnExactGenerateSystemsSpec) :=
  OpenClaim.holds_of_wide 8 Tryz.f8 rfl rfl rfl rfl rfl rfl rfl ⟨rfl, rfl, rfl, rfl, rfl⟩ rfl rfl rfl rfl rfl (by kernel_rfl) Tryz.func8 (by unfold joinedFacts; (repeat' with_reducible refine andI ?_ ?_); all_goals (as_aux_lemma => kernel_rfl))
    (of_decide_eq_true (by kernel_rfl)) (by unfold Func.isWrapper; first | (rw [if_pos (by decide +kernel)]; kernel_rfl) | (rw [if_neg (by decide +kernel)]; exact ⟨rfl, rfl⟩))
    (fun os started H enc _ => lifted os started H enc)
theorem proved : Rows.FnExactGenerateSystemsSaid :=
  over
#print axioms proved
end Go.Proofs.YtkifdjjnbplghaaGreat.fnExactGenerateSystems
