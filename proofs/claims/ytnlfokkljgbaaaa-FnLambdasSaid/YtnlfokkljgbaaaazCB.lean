/- Exact covers: the parts of the program's search. -/
import Derived.Test.YtnlfokkljgbaaaaProg
import Derived.KernelRfl
import Derived.Test.YtnlfokkljgbaaaazCA
import Derived.Test.YtnlfokkljgbaaaazUG
import Derived.Test.YtnlfokkljgbaaaazNF
set_option linter.unusedSimpArgs false
set_option linter.unusedVariables false
set_option maxHeartbeats 4000000
set_option maxRecDepth 100000
namespace Go.Proofs.Ytnlfokkljgbaaaa
open Go.Av
abbrev tyCv : Nat := 63
abbrev cvB (q n : Nat) (O W : List (List Int)) (one : Bool) (b0 : Nat) (st : VS) (v fv : AV) : Blk :=
  ⟨0, tyCv, 1, [I st.left, Bv st.spent, I n, ilSS O, ilSS W, Bv one, .nm q 0 0 n, v, I ((b0 - st.left : Nat) : Int), fv]⟩
structure CvH (H : List Blk) (q p n : Nat) (O W : List (List Int)) (one : Bool) (b0 : Nat) (D : List Int) (st : VS) (v fv : AV) : Prop where
  box : H[p]? = some (cvB q n O W one b0 st v fv)
  cov : H[q]? = some ⟨0, 4, 1, (marks n D).map Bv⟩
section
variable {H : List Blk} {q p n : Nat} {O W : List (List Int)} {one : Bool} {b0 : Nat} {D : List Int} {st : VS} {v fv : AV}
theorem CvH.append (h : CvH H q p n O W one b0 D st v fv) (ext : List Blk) : CvH (H ++ ext) q p n O W one b0 D st v fv := ⟨get_appU h.box ext, get_appU h.cov ext⟩
theorem CvH.view (h : CvH H q p n O W one b0 D st v fv) : aview H (.nm q 0 0 n) = some (n, (marks n D).map Bv) := view_nm h.cov (by rw [List.length_map, marks_length])
end
end Go.Proofs.Ytnlfokkljgbaaaa
