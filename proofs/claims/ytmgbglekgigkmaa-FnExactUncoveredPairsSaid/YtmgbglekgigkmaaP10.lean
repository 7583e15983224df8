/-
  The program's UncoveredPairs returns what the reference's returns, for all arguments: the law's Go text returns true. No condition.
-/
import Derived.Test.YtmgbglekgigkmaaRows
import Derived.Test.YtmgbglekgigkmaaK17
import Derived.WalkKit
import Derived.ProofKit
import Derived.OpenShut
import Derived.Below
import Derived.Carry
import Derived.Deep.Strs
import Derived.Lib.SmallJoins
set_option linter.unusedSimpArgs false
set_option linter.unusedVariables false
namespace Go.Proofs.Ytmgbglekgigkmaa.fnExactUncoveredPairs
open Go.ChangeShapes Go.WideShapes Go.ChangeAt Go.RowKit Go.Av

theorem own : ownKnob Try.prog.godebug = none := by kernel_rfl
theorem laid : laidOutB Try.prog = true := by kernel_rfl

theorem reads2 {H : Type} {enc : TypeId × Value → H} {w : World} {fuel : Nat} {cs : List Value} {x : DataW H × List MemPlace} (h : DataW.trod enc Try.prog w 0 (fun _ => true) true fuel 2 cs = some x) : ∃ (y : Int), Reads w [I y] cs ∧ (Lit.int .i64 y).wf = true := by
  exact reads_int Try.underlying2 h

theorem reads22 {H : Type} {enc : TypeId × Value → H} {w : World} {fuel : Nat} {cs : List Value} {x : DataW H × List MemPlace} (h : DataW.trod enc Try.prog w 0 (fun _ => true) true fuel 22 cs = some x) : ∃ (y : List (List Int)), Reads w [ilSS y] cs ∧ (∀ xs ∈ y, ∀ n ∈ xs, (Lit.int .i64 n).wf = true) := by
  exact reads_intss Try.underlying22 (by rw [show Try.prog.cellsOf 42 = 1 by kernel_rfl]; decide) Try.underlying42 (by rw [show Try.prog.cellsOf 2 = 1 by kernel_rfl]; decide) Try.underlying2 h

theorem trod_struct3 {H : Type} {enc : TypeId × Value → H} {P : Program} {w : World} {base : Nat} {spare : Nat → Bool} {held : Bool} {t : TypeId} {f0 f1 f2 : Field} {fuel : Nat} {cs : List Value} {x : DataW H × List MemPlace} (ht : P.underlying t = some (.struct #[f0, f1, f2])) (h : DataW.trod enc P w base spare held fuel t cs = some x) :
    ∃ y0 y1 y2 n, x = (.agg [y0.1, y1.1, y2.1], y0.2 ++ (y1.2 ++ y2.2)) ∧ cs.length = P.cellsOf t ∧ DataW.trod enc P w base spare held n f0.type ((cs.drop f0.offset).take (P.cellsOf f0.type)) = some y0 ∧
      DataW.trod enc P w base spare held n f1.type ((cs.drop f1.offset).take (P.cellsOf f1.type)) = some y1 ∧ DataW.trod enc P w base spare held n f2.type ((cs.drop f2.offset).take (P.cellsOf f2.type)) = some y2 := by
  obtain ⟨xs, n, _, rfl, hl, hlen, hf⟩ := DataW.trod_struct ht h
  match xs, hlen with
  | [y0, y1, y2], _ => exact ⟨y0, y1, y2, n, by simp, hl, by simpa using hf 0 f0 rfl, by simpa using hf 1 f1 rfl, by simpa using hf 2 f2 rfl⟩

theorem reads66 {H : Type} {enc : TypeId × Value → H} {w : World} {fuel : Nat} {cs : List Value} {x : DataW H × List MemPlace} (h : DataW.trod enc Try.prog w 0 (fun _ => true) true fuel 66 cs = some x) : ∃ (y0 : Int) (y1 : Int) (y2 : List (List Int)), Reads w [I y0, I y1, ilSS y2] cs ∧ ((Lit.int .i64 y0).wf = true ∧ (Lit.int .i64 y1).wf = true ∧ (∀ xs ∈ y2, ∀ n ∈ xs, (Lit.int .i64 n).wf = true)) := by
  obtain ⟨z0, z1, z2, n, _, hl, h0, h1, h2⟩ := trod_struct3 Try.underlying66 h
  obtain ⟨y0, r0, g0⟩ := reads2 h0
  obtain ⟨y1, r1, g1⟩ := reads2 h1
  obtain ⟨y2, r2, g2⟩ := reads22 h2
  exact ⟨y0, y1, y2, reads_struct3 hl (by kernel_rfl) (by kernel_rfl) (by kernel_rfl) (by kernel_rfl) r0 r1 r2, g0, g1, g2⟩

theorem readable : ∀ t ∈ (#[66] : Array TypeId).toList, Try.prog.readableRec t = true ∧ t < Try.prog.types.size := by
  intro t ht
  simp only [List.mem_cons, List.not_mem_nil, or_false] at ht
  subst ht
  all_goals exact ⟨by kernel_rfl, of_decide_eq_true (by kernel_rfl)⟩

/-! ### THE ROW's STEP: WRITTEN OUT: LEAVE IT -/
set_option maxRecDepth 100000 in
theorem lifted (os : Os) (started : os.Started) (H : Type) (enc : TypeId × Value → H) :
    ReturnsInHanded {} Try.checked os 14 .any (Rows.fnExactUncoveredPairsSpec.pre6 enc Try.prog Try.f14 Rows.fnExactUncoveredPairsRow.domain false) (Rows.fnExactUncoveredPairsSpec.post enc Try.prog Try.f14 false true false false) := by
  refine returnsInHanded_of_change (C := Try.checked) own started (by kernel_rfl) Try.func14
    (ChangeSpec.witness6 (enc := enc) (C := Try.checked) false ⟨#[], #[.agg #[.int .i64 0, .int .i64 0, .slice none 0 0]], []⟩ 8 (by kernel_rfl) (by kernel_rfl) (by kernel_rfl) (by kernel_rfl)) ?_
  intro W base args ds gs before hval0 hW hcnd _
  have hval : ∀ (j : Nat) t v, Try.f14.params[j]? = some t → args[j]? = some v → Value.okWide Try.prog W .any base t v := hval0
  have hW' := hW
  obtain ⟨p, q, hA0, hV, rfl, hfz, hnd⟩ := hW
  have hA : DataW.TrodAll enc Try.prog W 0 (fun _ => true) true Try.f14.params.toList args.toList ds p := hA0
  rw [Try.params14] at hA hval
  have hlt : ∀ x ∈ p, x.block < W.heap.size := fun x hx => hW'.lt x (List.mem_append_left _ hx)
  have hAk := hA
  obtain ⟨v0, vs0, d0, ds0, p0, q0, hargs, rfl, rfl, h0, r0⟩ := trodAll_cons hA
  obtain ⟨rfl, rfl, rfl⟩ := trodAll_nil r0
  obtain rfl : args = #[v0] := by cases args; simp_all
  obtain ⟨rfl, rfl⟩ := trodVars_none hV
  obtain ⟨fu0, hf0⟩ := h0
  obtain ⟨arr0, rfl, _⟩ := okWide_struct Try.underlying66 (hval 0 66 v0 rfl rfl)
  obtain ⟨a0_0, a0_1, a0_2, e0, w0⟩ := reads66 hf0
  have k0 := e0.relagg
  clear hA0 hval0
  simp only [List.append_nil] at hW'
  refine (ACalls.topF (args := [.agg [I a0_0, I a0_1, ilSS a0_2]]) (lawUncovered_ok [] a0_0 a0_1 a0_2) _ (Rels.cons k0 (Rels.nil _ _))).mono fun e W' ⟨he, hg⟩ => ?_
  subst he
  exact ⟨_, rfl, ⟨_, _, _, [], _, [], hW', trodAll_mk1 (shut_bool Try.underlying4 _), trodAll_below laid hg (by rw [Try.params14]; exact readable) (by rw [Try.params14]; exact hAk) hlt, rfl, hg.frame _, fun h => by cases h⟩⟩

theorem over : Rows.fnExactUncoveredPairsRow.holds Try.pinned (OpenSpec.ofChange Rows.fnExactUncoveredPairsSpec) :=
  OpenClaim.holds_of_wide 14 Try.f14 rfl rfl rfl rfl rfl rfl rfl ⟨rfl, rfl, rfl, rfl, rfl⟩ rfl rfl rfl rfl rfl (by kernel_rfl) Try.func14 (by kernel_rfl)
    (of_decide_eq_true (by kernel_rfl)) (by unfold Func.isWrapper; first | (rw [if_pos (by decide +kernel)]; kernel_rfl) | (rw [if_neg (by decide +kernel)]; exact ⟨rfl, rfl⟩))
    (fun os started H enc _ => lifted os started H enc)

/-- ████ THE STATEMENT ████ -/
theorem proved : Rows.FnExactUncoveredPairsSaid :=
  over
#print axioms proved
end Go.Proofs.Ytmgbglekgigkmaa.fnExactUncoveredPairs
