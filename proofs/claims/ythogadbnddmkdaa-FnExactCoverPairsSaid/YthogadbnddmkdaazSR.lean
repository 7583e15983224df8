/- The source of choices: what is drawn lies within bounds. -/
import Derived.Test.YthogadbnddmkdaaProg
import Derived.KernelRfl
import Derived.Test.YthogadbnddmkdaazK1
import Derived.Test.YthogadbnddmkdaazL4
import Derived.Test.YthogadbnddmkdaazL7
import Derived.Test.YthogadbnddmkdaazAv17
set_option linter.unusedSimpArgs false
set_option linter.unusedVariables false
set_option maxHeartbeats 4000000
set_option maxRecDepth 100000
namespace Go.Proofs.Ythogadbnddmkdaa
open Go.Av
def U64 (z : Int) : AV := .lit (.int .u64 z)
section
variable {P : Program} {H : List Blk} {Kv : AV → List Blk → Prop} {a b z : Int} {k : Nat}
@[go_sem] theorem ev_u64 (F : Nat → AV) : ev F (.const (.int .u64 z)) = U64 z := (rfl)
@[go_sem] theorem BinW_mulU : BinW .mul (U64 a) (U64 b) H Kv = Kv (U64 (IntKind.u64.wrap (a * b))) H := by simp [BinW, swpBin, U64]
@[go_sem] theorem BinW_addU : BinW .add (U64 a) (U64 b) H Kv = Kv (U64 (IntKind.u64.wrap (a + b))) H := by simp [BinW, swpBin, U64]
@[go_sem] theorem BinW_shrU : BinW .shr (U64 a) (U64 b) H Kv = (0 ≤ b ∧ Kv (U64 (a.fdiv (2 ^ (min b.toNat 64)))) H) := (rfl)
@[go_sem] theorem BinW_andU : BinW .and (U64 a) (U64 b) H Kv = Kv (U64 (IntKind.u64.wrap (BitVec.ofInt 64 a &&& BitVec.ofInt 64 b).toNat)) H := by simp [BinW, swpBin, U64]; rfl
@[go_sem] theorem ConvW_U64 : ConvW .i64 (U64 z) H Kv = Kv (I (w64 z)) H := (rfl)
@[go_sem] theorem ConvW_IU : ConvW .u64 (I z) H Kv = Kv (U64 (IntKind.u64.wrap z)) H := (rfl)
@[go_sem] theorem cell1_U64 : (U64 z).cell1 = true := rfl
@[go_sem] theorem partsOf_U64 : partsOf (U64 z) = [U64 z] := rfl
end
end Go.Proofs.Ythogadbnddmkdaa
