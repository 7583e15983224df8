/- Calls that return rows of their own and a code. -/
import Derived.Test.YtflnjgeoegofdaazK4
import Derived.Test.YtflnjgeoegofdaazAv17
import Derived.Test.YtflnjgeoegofdaazL3
import Derived.Test.YtflnjgeoegofdaazL7
set_option linter.unusedSimpArgs false
set_option linter.unusedVariables false
set_option maxHeartbeats 4000000
set_option maxRecDepth 100000
namespace Go.Proofs.Ytflnjgeoegofdaa
open Go.Av
def FSS (P : Program) (f : FuncId) (args : List AV) (xss : List (List Int)) (code : Int) : Prop :=
  ∀ H, ACalls P f args H fun r H' => ∃ ext v, H' = H ++ ext ∧ r = .tup [v, I code] ∧ OwnSS H' (Btw H.length H'.length) v xss
theorem FSS.lend {P : Program} {f : FuncId} {args args' : List AV} {xss : List (List Int)} {code : Int} (h : FSS P f args' xss code) {H : List Blk} (hf : Frozs H args args') :
    ACalls P f args H fun r H' => ∃ ext v, H' = H ++ ext ∧ r = .tup [v, I code] ∧ OwnSS H' (Btw H.length H'.length) v xss := by
  refine ((h []).lend hf ?_).mono ?_
  · rintro r H0 ⟨ext, v, rfl, rfl, ho⟩
    exact .tup2 ho.ov (.I _)
  · rintro r H' ⟨r0, H0, ⟨ext, v, rfl, rfl, ho⟩, rfl, rfl⟩
    refine ⟨_, _, rfl, ?_, ho.sh (H := H) (N' := Btw H.length (H ++ _).length) (fun i hi => ?_)⟩
    · simp [sh_tup, sh_In]
    · unfold Btw at hi ⊢
      simp at hi ⊢; omega
theorem nilFSS0 {H : List Blk} {code : Int} : ∃ ext' v, H = H ++ ext' ∧ AV.tup [nilS, I code] = .tup [v, I code] ∧ OwnSS H (Btw H.length H.length) v [] := ⟨[], nilS, by simp, rfl, .inr ⟨rfl, .inl rfl⟩⟩
theorem OwnSS.oneU {H : List Blk} {N : Nat → Prop} {v : AV} {xss : List (List Int)} (h : OwnSS H N v xss) : v.cell1 = true ∧ partsOf v = [v] := by
  rcases h with ⟨t, ver, ty, cells, rfl, h⟩ | ⟨rfl, rfl | rfl⟩ <;> exact ⟨rfl, rfl⟩
theorem fss_own {H : List Blk} (xss : List (List Int)) : OwnSS (H ++ ⟨0, tySS, 1, nmsB (H.length + 1) xss⟩ :: rowsB xss) (Btw H.length (H ++ ⟨0, tySS, 1, nmsB (H.length + 1) xss⟩ :: rowsB xss).length) (.nm H.length 0 0 xss.length) xss := by
  have h1 := OwnC.names (H := H) (ext := []) (ver := 0) (ty := tySS) xss
  rw [List.append_nil] at h1
  refine .inl ⟨H.length, 0, tySS, nmsB (H.length + 1) xss, rfl, h1.weak (fun r g1 g2 => ⟨by unfold Btw at g1; omega, g2⟩)⟩
end Go.Proofs.Ytflnjgeoegofdaa
