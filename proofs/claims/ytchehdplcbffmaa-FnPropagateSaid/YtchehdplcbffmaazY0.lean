/- Lists of lists of lists, told by their content. -/
import Derived.Test.YtchehdplcbffmaazU1
import Derived.Test.YtchehdplcbffmaazK1
import Derived.Test.YtchehdplcbffmaazM2
set_option linter.unusedSimpArgs false
set_option linter.unusedVariables false
set_option maxHeartbeats 4000000
set_option maxRecDepth 100000
namespace Go.Proofs.Ytchehdplcbffmaa
open Go.Av
section
variable {H : List Blk} {i : Nat} {b : Nat}
@[go_sem] theorem get3 {xs : List (List (List Int))} (h : i < xs.length) : (xs.map ilSS)[i]? = some (ilSS (xs.getD i [])) := by simp [List.getElem?_eq_getElem h]
@[go_sem] theorem app3 (xs : List (List (List Int))) (v : List (List Int)) : xs.map ilSS ++ [ilSS v] = (xs ++ [v]).map ilSS := by simp
@[go_sem] theorem take3 (xs : List (List (List Int))) : (xs.map ilSS).take xs.length = xs.map ilSS := List.take_of_length_le (by simp)
@[go_sem] theorem all31 (xs : List (List (List Int))) : (xs.map ilSS).all AV.cell1 = true := by rw [List.all_eq_true]; intro c hc; obtain ⟨x, _, rfl⟩ := List.mem_map.1 hc; rfl
end
end Go.Proofs.Ytchehdplcbffmaa
