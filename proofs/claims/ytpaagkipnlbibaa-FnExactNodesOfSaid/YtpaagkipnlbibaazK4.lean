/- Arguments copied and compared, as computations. -/
import Derived.Test.YtpaagkipnlbibaazL7
import Derived.Test.YtpaagkipnlbibaazK1
set_option linter.unusedSimpArgs false
set_option linter.unusedVariables false
set_option maxHeartbeats 4000000
set_option maxRecDepth 100000
namespace Go.Proofs.Ytpaagkipnlbibaa
open Go.Av
theorem toCover_fn (n : Int) (xss : List (List Int)) (hs : xss.length ≤ 1073741824) (hs' : ∀ xs ∈ xss, xs.length ≤ 1073741824) : PFn Try.prog f_laws_toCover [.agg [I n, ilSS xss]] (.agg [I n, ilSS xss]) := fun H => by
  simpa using toCover_fz H n _ xss rfl (rd_ilSS _ _) hs hs' []
theorem eqCover_fn2 (n : Int) (xss : List (List Int)) : PFn Try.prog f_laws_eqCover [.agg [I n, ilSS xss], .agg [I n, ilSS xss]] (Bv true) := fun H => by
  simpa using eqCover_ok H n n _ _ xss xss rfl rfl (rd_ilSS _ _) (rd_ilSS _ _)
end Go.Proofs.Ytpaagkipnlbibaa
