/- Pairs of points: how many blocks hold them. -/
import Derived.Test.YtpaagkipnlbibaaProg
import Derived.KernelRfl
import Derived.Test.YtpaagkipnlbibaazK19
import Derived.Test.YtpaagkipnlbibaazK10
set_option linter.unusedSimpArgs false
set_option linter.unusedVariables false
set_option maxHeartbeats 4000000
set_option maxRecDepth 100000
namespace Go.Proofs.Ytpaagkipnlbibaa
open Go.Av
def NewS (P : Program) (f : FuncId) (args : List AV) (xs : List Int) : Prop :=
  ∀ H, ACalls P f args H fun r H' => r = .nm H.length 0 0 xs.length ∧ H' = H ++ [⟨0, 2, 1, xs.map I⟩]
theorem asc_nodupA : ∀ {l : List Int} {lo hi : Int}, asc lo hi l = true → l.Nodup
  | [], _, _, _ => List.nodup_nil
  | x :: l, lo, hi, h => by
    simp only [asc, Bool.and_eq_true, decide_eq_true_eq] at h
    refine List.nodup_cons.2 ⟨fun hx => ?_, asc_nodupA h.2⟩
    have := asc_mem h.2 x hx; omega
end Go.Proofs.Ytpaagkipnlbibaa
