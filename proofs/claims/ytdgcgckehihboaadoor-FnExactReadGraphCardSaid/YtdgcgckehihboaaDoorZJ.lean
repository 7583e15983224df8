/- The globals at the call's start. -/
import Derived.Test.YtdgcgckehihboaaDoorZI
import Derived.Test.YtdgcgckehihboaaDoorRows
import Derived.Shelf.Vars
import Derived.Stop.LaidErr
import Derived.MakeChecks
import Derived.Lib.LaidTab
set_option linter.unusedSimpArgs false
set_option linter.unusedVariables false
set_option maxHeartbeats 4000000
set_option maxRecDepth 100000
namespace Go.Proofs.YtdgcgckehihboaaDoor
open Go.Av Go.RowKit

theorem errStar : "*" ++ "errors.errorString" = "*errors.errorString" := by decide
/-- The one row of that name. -/
theorem errRow (u : TypeId) (h : Tryd.prog.typeName? 3 u = some "*errors.errorString") : u = 117 :=
  typeName_ptr_named (nm := "errors.errorString") (by rw [errStar]; kernel_rfl) (by kernel_rfl) (by decide) u (by rw [errStar]; exact h)
theorem glob_of {W : World} (hsh : W.ShapedOpen Tryd.prog) (hL : laidMetH Tryd.prog Rows.fnExactReadGraphRow.laid W) : Glob W.heap.size W := by
  rw [MakeChecks.laidMetH_plain _ _ _ (by kernel_rfl)] at hL
  have h1 := hL.tail
  have h2 := h1.tail
  have h3 := h2.tail
  have h4 := h3.tail
  have h5 := h4.tail
  have hm : ∃ m : Int, W.cell? ⟨0, 0, none⟩ = some (.int .i64 m) :=
    cell_of_shapedOpen_int hsh (of_decide_eq_true (by kernel_rfl)) (zero := #[.int .i64 0]) (t := 3) (by kernel_rfl) rfl (by kernel_rfl) (by kernel_rfl) (by kernel_rfl)
  have ht : Lib.TabIs Tryd.prog W "internal/strconv.uint64pow10" .u64 Lib.pow10Tab :=
    Lib.tabIs_of_head (g := 5) (t := 121) (e := 88) (n := 20) (by kernel_rfl) (by kernel_rfl) (by kernel_rfl) (by kernel_rfl) (by kernel_rfl) (by kernel_rfl) h2
  have hd : ∃ cs, W.var? Tryd.prog "math/bits.deBruijn64tab" = some cs := by
    obtain ⟨ps, ⟨g, t, cs, fuel, p, q, hg, ht, hv, hd, _⟩, _⟩ := h1
    exact ⟨cs, hv⟩
  have hsR : ∃ tp p, W.var? Tryd.prog "strconv.ErrRange" = some #[.iface tp p] := by
    obtain ⟨a, s, hv, -⟩ := laid_sentinel h4 (g := 2) (by kernel_rfl) (by kernel_rfl) (ti := 57) Tryd.underlying57 (tp := 117) errRow Tryd.underlying117 Tryd.underlying119 rfl rfl Tryd.underlying9 (by kernel_rfl) (by kernel_rfl)
    exact ⟨_, _, hv⟩
  have hsS : ∃ tp p, W.var? Tryd.prog "strconv.ErrSyntax" = some #[.iface tp p] := by
    obtain ⟨a, s, hv, -⟩ := laid_sentinel h5 (g := 1) (by kernel_rfl) (by kernel_rfl) (ti := 57) Tryd.underlying57 (tp := 117) errRow Tryd.underlying117 Tryd.underlying119 rfl rfl Tryd.underlying9 (by kernel_rfl) (by kernel_rfl)
    exact ⟨_, _, hv⟩
  refine ⟨?_, hm, ?_, hsS, hsR⟩
  · obtain ⟨cs, hd⟩ := hd
    have hg : Program.globalNamed Tryd.prog "math/bits.deBruijn64tab" = some 7 := by kernel_rfl
    simp only [World.var?, hg, Option.bind_some] at hd
    split at hd
    · rename_i h
      have := (Array.getElem?_eq_some_iff.1 h).1
      omega
    · cases hd
  · have hg : Program.globalNamed Tryd.prog "internal/strconv.uint64pow10" = some 5 := by kernel_rfl
    unfold Lib.TabIs at ht
    simp only [World.var?, hg, Option.bind_some] at ht
    split at ht
    · rename_i c t q h
      cases ht
      exact ⟨t, q, h⟩
    · cases ht
end Go.Proofs.YtdgcgckehihboaaDoor
