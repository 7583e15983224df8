/- Pairs of numbers, sorted by the library's function. -/
import Derived.Test.YtmdeibdplpodpaaGreatzS2
set_option linter.unusedSimpArgs false
set_option linter.unusedVariables false
set_option maxHeartbeats 4000000
set_option maxRecDepth 100000
namespace Go.Sort
end Go.Sort
namespace Go.Av
open Go.RowKit Go.Sort Go.Proofs
def encE (e : Int × Int) : List Value := [.int .i64 e.1, .int .i64 e.2]
def agE (e : Int × Int) : AV := .agg [I e.1, I e.2]
def flatV (es : List (Int × Int)) : List Value := es.flatMap encE
def flatE (es : List (Int × Int)) : List AV := es.flatMap fun e => [I e.1, I e.2]
theorem flatE_lit (es : List (Int × Int)) : flatE es = (flatV es).map .lit := by
  induction es with
  | nil => rfl
  | cons e es ih => simp only [flatE, flatV, List.flatMap_cons, List.map_append] at ih ⊢; rw [ih]; rfl
theorem flatV_length (es : List (Int × Int)) : (flatV es).length = es.length * 2 := by
  induction es with
  | nil => rfl
  | cons e es ih => simp only [flatV, List.flatMap_cons, List.length_append, encE, List.length_cons, List.length_nil] at ih ⊢; omega
theorem flatE_length (es : List (Int × Int)) : (flatE es).length = es.length * 2 := by rw [flatE_lit, List.length_map, flatV_length]
section
variable {B : Nat} {W0 : World} {F : Fz} {m : List Ent} {H : List Blk} {w : World}
end
end Go.Av
