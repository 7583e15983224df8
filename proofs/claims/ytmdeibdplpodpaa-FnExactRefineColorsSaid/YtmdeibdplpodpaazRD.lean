/- DesignOfGraph: the program. -/
import Derived.Test.YtmdeibdplpodpaaProg
import Derived.KernelRfl
import Derived.Test.YtmdeibdplpodpaazRC
import Derived.Test.YtmdeibdplpodpaazFD
import Derived.Test.YtmdeibdplpodpaazK2
import Derived.Test.YtmdeibdplpodpaazL8
set_option linter.unusedSimpArgs false
set_option linter.unusedVariables false
set_option maxHeartbeats 4000000
set_option maxRecDepth 100000
namespace Go.Proofs.Ytmdeibdplpodpaa
open Go.Av
theorem neighborLists_fn (cols : List Int) (es : List (Int × Int)) (hn : cols.length ≤ 64) (hel : es.length ≤ 512) (he : ∀ e ∈ es, (0 ≤ e.1 ∧ e.1 < cols.length) ∧ 0 ≤ e.2 ∧ e.2 < cols.length) :
    PFn Try.prog f_impl_neighborLists [.agg [ilS cols, ilE es]] (ilSS ((nbrT cols.length es).map isort)) := by
  intro H
  refine (neighborLists_ok H cols es hn hel he).gr ?_
  rintro r H1 ⟨ext, cells, rfl, rfl, hG⟩
  have ho : OwnSS (H ++ ext) (Fr (H.length + 1)) (.nm (H.length + 1) 0 0 cols.length) ((nbrT cols.length es).map isort) := .inl ⟨_, _, _, _, by rw [List.length_map, nbrT_len], hG.own⟩
  exact GR.froz (ho.froz (fun r hr => by unfold Fr at hr; omega)) ⟨rfl, rfl⟩
theorem grB_facts {cols : List Int} {es : List (Int × Int)} (h : grB cols es = true) : cols.length ≤ 64 ∧ es.length ≤ 512 ∧ (∀ e ∈ es, 0 ≤ e.1 ∧ e.1 < e.2 ∧ e.2 < cols.length) ∧ (∀ c ∈ cols, 0 ≤ c ∧ c ≤ 63) := by
  unfold grB edsB colsB at h
  simp only [Bool.and_eq_true, decide_eq_true_eq, List.all_eq_true, edB] at h
  obtain ⟨⟨h1, _⟩, ⟨h2, h3⟩, h4⟩ := h
  exact ⟨h2, h4, h1, h3⟩
end Go.Proofs.Ytmdeibdplpodpaa
