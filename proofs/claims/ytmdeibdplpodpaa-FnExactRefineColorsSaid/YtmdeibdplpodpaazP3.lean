/-
  The program's RefineColors returns what the reference's returns, for all arguments. No condition.
-/
import Derived.Test.YtmdeibdplpodpaaRows
import Derived.Test.YtmdeibdplpodpaazRW
import Derived.WalkKit
import Derived.ProofKit
import Derived.OpenShut
import Derived.Below
import Derived.Carry
import Derived.Deep.Strs
import Derived.Lib.SmallJoins
set_option linter.unusedSimpArgs false
set_option linter.unusedVariables false
set_option maxHeartbeats 400000000
namespace Go.Proofs.Ytmdeibdplpodpaa.fnExactRefineColors
open Go.ChangeShapes Go.WideShapes Go.ChangeAt Go.RowKit Go.Av
theorem own : ownKnob Try.prog.godebug = none := by kernel_rfl
theorem laid : laidOutB Try.prog = true := by kernel_rfl
theorem andI {a b : Bool} (h1 : a = true) (h2 : b = true) : (a && b) = true := by rw [h1, h2]; rfl
theorem reads22 {H : Type} {enc : TypeId × Value → H} {w : World} {fuel : Nat} {cs : List Value} {x : DataW H × List MemPlace} (h : DataW.trod enc Try.prog w 0 (fun _ => true) true fuel 22 cs = some x) : ∃ (y : List Int), Reads w [ilS y] cs ∧ (∀ n ∈ y, (Lit.int .i64 n).wf = true) := by
  exact reads_ints Try.underlying22 (by rw [show Try.prog.cellsOf 2 = 1 by kernel_rfl]; decide) Try.underlying2 h
theorem reads23 {H : Type} {enc : TypeId × Value → H} {w : World} {fuel : Nat} {cs : List Value} {x : DataW H × List MemPlace} (h : DataW.trod enc Try.prog w 0 (fun _ => true) true fuel 23 cs = some x) : ∃ (y : List (Int × Int)), Reads w [ilE y] cs ∧ (∀ e ∈ y, (Lit.int .i64 e.1).wf = true ∧ (Lit.int .i64 e.2).wf = true) := by
  exact reads_edges Try.underlying23 (by rw [show Try.prog.cellsOf 76 = 2 by kernel_rfl]; decide) Try.underlying76 Try.underlying2 (by kernel_rfl) (by kernel_rfl) (by kernel_rfl) (by kernel_rfl) (by kernel_rfl) h
theorem reads25 {H : Type} {enc : TypeId × Value → H} {w : World} {fuel : Nat} {cs : List Value} {x : DataW H × List MemPlace} (h : DataW.trod enc Try.prog w 0 (fun _ => true) true fuel 25 cs = some x) : ∃ (y0 : List Int) (y1 : List (Int × Int)), Reads w [ilS y0, ilE y1] cs ∧ ((∀ n ∈ y0, (Lit.int .i64 n).wf = true) ∧ (∀ e ∈ y1, (Lit.int .i64 e.1).wf = true ∧ (Lit.int .i64 e.2).wf = true)) := by
  obtain ⟨z0, z1, n, _, hl, h0, h1⟩ := trod_struct2 Try.underlying25 h
  obtain ⟨y0, r0, g0⟩ := reads22 h0
  obtain ⟨y1, r1, g1⟩ := reads23 h1
  exact ⟨y0, y1, reads_struct2 hl (by kernel_rfl) (by kernel_rfl) (by kernel_rfl) r0 r1, g0, g1⟩
theorem readable : ∀ t ∈ (#[25, 22] : Array TypeId).toList, Try.prog.readableRec t = true ∧ t < Try.prog.types.size := by
  intro t ht
  simp only [List.mem_cons, List.not_mem_nil, or_false] at ht
  rcases ht with rfl | rfl
  all_goals exact ⟨by kernel_rfl, of_decide_eq_true (by kernel_rfl)⟩
set_option maxRecDepth 100000 in
theorem lifted (os : Os) (started : os.Started) (H : Type) (enc : TypeId × Value → H) :
    ReturnsInHanded {} Try.checked os 5 .any (Rows.fnExactRefineColorsSpec.pre6 enc Try.prog Try.f5 Rows.fnExactRefineColorsRow.domain false) (Rows.fnExactRefineColorsSpec.post enc Try.prog Try.f5 false true false false) := by
  refine returnsInHanded_of_change (C := Try.checked) own started (by kernel_rfl) Try.func5
    (ChangeSpec.witness6 (enc := enc) (C := Try.checked) false ⟨#[], #[.agg #[.slice none 0 0, .slice none 0 0], .slice none 0 0], []⟩ 8 (by kernel_rfl) (by kernel_rfl) (by kernel_rfl) (by kernel_rfl)) ?_
  intro W base args ds gs before hval0 hW hcnd _
  have hval : ∀ (j : Nat) t v, Try.f5.params[j]? = some t → args[j]? = some v → Value.okWide Try.prog W .any base t v := hval0
  have hW' := hW
  obtain ⟨p, q, hA0, hV, rfl, hfz, hnd⟩ := hW
  have hA : DataW.TrodAll enc Try.prog W 0 (fun _ => true) true Try.f5.params.toList args.toList ds p := hA0
  rw [Try.params5] at hA hval
  have hlt : ∀ x ∈ p, x.block < W.heap.size := fun x hx => hW'.lt x (List.mem_append_left _ hx)
  have hAk := hA
  obtain ⟨v0, vs0, d0, ds0, p0, q0, hargs, rfl, rfl, h0, r0⟩ := trodAll_cons hA
  obtain ⟨v1, vs1, d1, ds1, p1, q1, hargs1, rfl, rfl, h1, r1⟩ := trodAll_cons r0
  subst hargs1
  obtain ⟨rfl, rfl, rfl⟩ := trodAll_nil r1
  obtain rfl : args = #[v0, v1] := by cases args; simp_all
  obtain ⟨rfl, rfl⟩ := trodVars_none hV
  obtain ⟨fu0, hf0⟩ := h0
  obtain ⟨arr0, rfl, _⟩ := okWide_struct Try.underlying25 (hval 0 25 v0 rfl rfl)
  obtain ⟨a0_0, a0_1, e0, w0⟩ := reads25 hf0
  have k0 := e0.relagg
  obtain ⟨fu1, hf1⟩ := h1
  have o1 : v1.oneCell' = true := by obtain ⟨a, l, c, rfl⟩ := okWide_slice Try.underlying22 (hval 1 22 v1 rfl rfl); rfl
  obtain ⟨a1_, e1, w1⟩ := reads22 hf1
  have k1 := e1.rel1 o1
  clear hA0 hval0
  simp only [List.append_nil] at hW'
  refine (ACalls.topF (args := [.agg [ilS a0_0, ilE a0_1], ilS a1_]) (lawRefineColors_ok [] a0_0 a0_1 a1_) _ (Rels.cons k0 (Rels.cons k1 (Rels.nil _ _)))).mono fun e W' ⟨he, hg⟩ => ?_
  subst he
  exact ⟨_, rfl, ⟨_, _, _, [], _, [], hW', trodAll_mk1 (shut_bool Try.underlying4 _), trodAll_below laid hg (by rw [Try.params5]; exact readable) (by rw [Try.params5]; exact hAk) hlt, rfl, hg.frame _, fun h => by cases h⟩⟩
theorem over : Rows.fnExactRefineColorsRow.holds Try.pinned (OpenSpec.ofChange Rows.fnExactRefineColorsSpec) :=
  OpenClaim.holds_of_wide 5 Try.f5 rfl rfl rfl rfl rfl rfl rfl ⟨rfl, rfl, rfl, rfl, rfl⟩ rfl rfl rfl rfl rfl (by kernel_rfl) Try.func5 (by unfold joinedFacts; (repeat' with_reducible refine andI ?_ ?_); all_goals (as_aux_lemma => kernel_rfl))
    (of_decide_eq_true (by kernel_rfl)) (by unfold Func.isWrapper; first | (rw [if_pos (by decide +kernel)]; kernel_rfl) | (rw [if_neg (by decide +kernel)]; exact ⟨rfl, rfl⟩))
    (fun os started H enc _ => lifted os started H enc)
theorem proved : Rows.FnExactRefineColorsSaid :=
  over
#print axioms proved
end Go.Proofs.Ytmdeibdplpodpaa.fnExactRefineColors
