/- What is left of a cover: the reference. -/
import Derived.Test.YtnlfokkljgbaaaazK39
set_option linter.unusedSimpArgs false
set_option linter.unusedVariables false
set_option maxHeartbeats 4000000
set_option maxRecDepth 100000
namespace Go.Proofs.Ytnlfokkljgbaaaa
open Go.Av
abbrev tyCov : Nat := 34
theorem FunPost.cell3 {H0 : List Blk} {R : AV → List Blk → Prop} {E : Env} {H : List Blk} {t c u s : Nat} {cs : List AV} (hc : acells H c (aget E t) = some cs) (h : GR H0 R (.tup [.agg cs, aget E u, aget E s]) H) : FunPost [.cell t c, .tmp u, .tmp s] H0 R .ret E H := ⟨_, by simp [rvsAV, rvAV, hc], h⟩
end Go.Proofs.Ytnlfokkljgbaaaa
