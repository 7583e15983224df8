/- What is left of a cover: the law. -/
import Derived.Test.YtnlfokkljgbaaaazK41
set_option linter.unusedSimpArgs false
set_option linter.unusedVariables false
set_option maxHeartbeats 4000000
set_option maxRecDepth 100000
namespace Go.Proofs.Ytnlfokkljgbaaaa
open Go.Av
theorem implRest_lend {H : List Blk} {args : List AV} (n : Int) (xss : List (List Int)) (cols : List Int) (hx : ∀ xs ∈ xss, ∀ x ∈ xs, (Lit.int .i64 x).wf = true) (hc : ∀ x ∈ cols, (Lit.int .i64 x).wf = true) (hl : xss.length ≤ 1073741824) (hf : Frozs H args [.agg [I n, ilSS xss], ilS cols]) :
    ACalls Try.prog f_impl_RestCover args H (RcR H (rcV n xss cols)) := by
  refine ((implRest_ok [] n xss cols hx hc hl).lend hf ?_).mono ?_
  · rintro r H0 ⟨ext, v, u, q, rfl, rfl, _, _, ho, hu⟩
    refine .tup _ (fun c hc => ?_)
    simp only [List.mem_cons, List.not_mem_nil, or_false] at hc
    rcases hc with rfl | rfl | rfl
    · refine .agg _ (fun c hc => ?_)
      simp only [List.mem_cons, List.not_mem_nil, or_false] at hc
      rcases hc with rfl | rfl
      · exact .I _
      · exact ho.ov
    · exact hu.ov
    · exact .I _
  · rintro r H' ⟨r0, H0, ⟨ext, v, u, q, rfl, rfl, h1, h2, ho, hu⟩, rfl, rfl⟩
    refine ⟨_, sh H.length v, sh H.length u, H.length + q, rfl, ?_, by omega, ?_, ho.sh (H := H) (N' := Btw (H.length + q) (H ++ _).length) (fun i hi => ?_), ?_⟩
    · simp [sh_tup, sh_agg, sh_In]
    · simp at h2 ⊢; omega
    · unfold Btw at hi ⊢
      simp at hi ⊢; omega
    · have := hu.sh (H := H) (N' := Btw H.length (H.length + q)) (fun i hi => by unfold Btw at hi ⊢; simp at hi ⊢; omega)
      simpa using this
end Go.Proofs.Ytnlfokkljgbaaaa
