/- The abstract layer, part 17: a call that makes memory of its own reads memory that is only lent to it. -/
import Derived.Test.YthogadbnddmkdaazK1
set_option linter.unusedSimpArgs false
set_option linter.unusedVariables false
set_option maxHeartbeats 4000000
set_option maxRecDepth 100000
namespace Go.Av
open Go.RowKit
inductive OV : AV → Prop
  | lit (v : Value) : OV (.lit v)
  | nil : OV (.il 0 [])
  | nm (i ver off len : Nat) : OV (.nm i ver off len)
  | pc (i ver off : Nat) : OV (.pc i ver off)
  | agg (cs : List AV) (h : ∀ c ∈ cs, OV c) : OV (.agg cs)
  | tup (cs : List AV) (h : ∀ c ∈ cs, OV c) : OV (.tup cs)
theorem OV.I (n : Int) : OV (I n) := .lit _
theorem OV.B (n : Bool) : OV (Bv n) := .lit _
end Go.Av
namespace Go.Proofs.Ythogadbnddmkdaa
open Go.Av
end Go.Proofs.Ythogadbnddmkdaa
