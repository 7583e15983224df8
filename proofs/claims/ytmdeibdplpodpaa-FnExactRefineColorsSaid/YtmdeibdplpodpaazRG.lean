/- The law of DesignOfGraph. -/
import Derived.Test.YtmdeibdplpodpaaProg
import Derived.KernelRfl
import Derived.Test.YtmdeibdplpodpaazRF
import Derived.Test.YtmdeibdplpodpaazRB
import Derived.Test.YtmdeibdplpodpaazK4
import Derived.Test.YtmdeibdplpodpaazL2
set_option linter.unusedSimpArgs false
set_option linter.unusedVariables false
set_option maxHeartbeats 4000000
set_option maxRecDepth 100000
namespace Go.Proofs.Ytmdeibdplpodpaa
open Go.Av
theorem toGraph_ok (H : List Blk) (cols : List Int) (es : List (Int × Int)) (hl1 : cols.length ≤ 1073741824) (hl : es.length ≤ 1073741824) :
    ACalls Try.prog f_laws_toGraph [.agg [ilS cols, ilE es]] H (fun r H' => ∃ ext u v, H' = H ++ ext ∧ r = .agg [u, v] ∧ OwnS H' (fun j => j = H.length + 3) H.length u cols ∧ OwnE H' (fun j => j = H.length + 4) v es ∧ H'.length = H.length + 5) := by
  refine ACalls.introB s_laws_toGraph (by simp) ?_; intro hB hA; unfold c_laws_toGraph; simp (config := { maxSteps := 1000000 }) (disch := (first | omega | (simp only [go_sem]; try omega))) only [go_sem, Nat.reduceAdd, Nat.reduceEqDiff, Nat.reduceLeDiff, Nat.reduceMul, Nat.reduceLT, reduceIte, Int.reduceToNat, w64_id, cast_succ]
  repeat (first | (with_reducible first | refine SW.seq ?_ | refine SW.block ?_ | refine SW.rowC ?_ | refine SW.skip ?_ | refine SW.exit ?_ | intro _ | refine And.intro (by omega) ?_) | simp (config := { maxSteps := 1000000 }) (disch := (first | omega | (simp only [go_sem]; try omega))) only [go_sem, Nat.reduceAdd, Nat.reduceEqDiff, Nat.reduceLeDiff, Nat.reduceMul, Nat.reduceLT, reduceIte, Int.reduceToNat, w64_id, cast_succ])
  refine (toInt64S_ok _ _ cols (rd_ilS _ _) hl1).mono ?_
  rintro r X ⟨rfl, rfl⟩
  repeat (first | (with_reducible first | refine SW.seq ?_ | refine SW.block ?_ | refine SW.rowC ?_ | refine SW.skip ?_ | refine SW.exit ?_ | intro _ | refine And.intro (by omega) ?_) | simp (config := { maxSteps := 1000000 }) (disch := (first | omega | (simp only [go_sem]; try omega))) only [go_sem, Nat.reduceAdd, Nat.reduceEqDiff, Nat.reduceLeDiff, Nat.reduceMul, Nat.reduceLT, reduceIte, Int.reduceToNat, w64_id, cast_succ])
  refine (toEdgeS_ok _ _ es (rd_ilE _ _) hl).mono ?_
  rintro r X ⟨rfl, rfl⟩
  repeat (first | (with_reducible first | refine SW.seq ?_ | refine SW.block ?_ | refine SW.rowC ?_ | refine SW.skip ?_ | refine SW.exit ?_ | intro _ | refine And.intro (by omega) ?_) | simp (config := { maxSteps := 1000000 }) (disch := (first | omega | (simp only [go_sem]; try omega))) only [go_sem, Nat.reduceAdd, Nat.reduceEqDiff, Nat.reduceLeDiff, Nat.reduceMul, Nat.reduceLT, reduceIte, Int.reduceToNat, w64_id, cast_succ])
  refine SW.ret (FunPost.cell (cs := [.nm (H.length + 3) 0 0 cols.length, .nm (H.length + 4) 0 0 es.length]) (by simp [go_sem, acells]) (GR.of ⟨_, _, _, rfl, rfl, .inl ⟨_, 0, 2, rfl, rfl, by omega, by simp⟩, ?_, by simp⟩))
  refine .inl ⟨_, 0, tyE, rfl, rfl, by simp⟩
theorem OwnS.oneR {H : List Blk} {N : Nat → Prop} {t : Nat} {c : AV} {xs : List Int} (h : OwnS H N t c xs) : c.cell1 = true ∧ partsOf c = [c] := by
  rcases h with ⟨r, ver, ty, rfl, _⟩ | ⟨_, rfl | rfl⟩ <;> exact ⟨rfl, rfl⟩
theorem OwnS.appR {H : List Blk} {N : Nat → Prop} {t : Nat} {c : AV} {xs : List Int} (h : OwnS H N t c xs) (ext : List Blk) : OwnS (H ++ ext) N t c xs :=
  h.same (fun j b _ _ hb => by rw [List.getElem?_append_left (List.getElem?_eq_some_iff.1 hb).1]; exact hb)
end Go.Proofs.Ytmdeibdplpodpaa
