/- Slices of integers, read. -/
import Derived.Test.YtchehdplcbffmaaProg
import Derived.KernelRfl
import Derived.Test.YtchehdplcbffmaazAvC
set_option linter.unusedSimpArgs false
set_option linter.unusedVariables false
set_option maxHeartbeats 4000000
set_option maxRecDepth 100000
namespace Go.Proofs.Ytchehdplcbffmaa
open Go.Av
abbrev RdS (H : List Blk) (a : AV) (xs : List Int) : Prop := aview H a = some (xs.length, xs.map I)
section
variable {H : List Blk} {a : AV} {xs : List Int} {K : AV → List Blk → Prop}
end
theorem RdS.append {H : List Blk} {a : AV} {xs : List Int} (h : RdS H a xs) (ext : List Blk) : RdS (H ++ ext) a xs := aview_append h ext
def RdSS (H : List Blk) (a : AV) (xss : List (List Int)) : Prop := ∃ cells, aview H a = some (xss.length, cells) ∧ cells.length = xss.length ∧ ∀ (j : Nat) (c : AV) (xs : List Int), cells[j]? = some c → xss[j]? = some xs → RdS H c xs
theorem RdSS.append {H : List Blk} {a : AV} {xss : List (List Int)} (h : RdSS H a xss) (ext : List Blk) : RdSS (H ++ ext) a xss := by
  obtain ⟨cells, h1, h2, h3⟩ := h
  exact ⟨cells, aview_append h1 ext, h2, fun j c xs g1 g2 => RdS.append (h3 j c xs g1 g2) ext⟩
section
variable {H : List Blk} {a : AV} {n : Nat} {cells : List AV} {K : AV → List Blk → Prop}
theorem store_nm {r ver ty : Nat} {c : AV} (h : H[r]? = some ⟨ver, ty, 1, cells⟩) {i : Nat} (hi : i < cells.length) : astore H [c] (.el (.nm r ver 0 n) i) = some (H.set r ⟨ver, ty, 1, cells.set i c⟩) := by
  simp only [astore, h, List.length_cons, List.length_nil, Nat.zero_add, setMany]
  rw [if_pos ⟨trivial, by omega⟩]
end
@[go_sem] theorem partsOf_I (n : Int) : partsOf (I n) = [I n] := (rfl)
@[go_sem] theorem cell1_I (n : Int) : (I n).cell1 = true := (rfl)
@[go_sem] theorem all_nil1 (f : AV → Bool) : ([] : List AV).all f = true := (rfl)
@[go_sem] theorem all_cons1 (f : AV → Bool) (c : AV) (cs : List AV) : (c :: cs).all f = (f c && cs.all f) := (rfl)
attribute [go_sem] Bool.and_true Bool.true_and
end Go.Proofs.Ytchehdplcbffmaa
