/- Pairs of points: how many blocks hold them. -/
import Derived.Test.YtnlfokkljgbaaaazK19
import Derived.Test.YtnlfokkljgbaaaazK10
set_option linter.unusedSimpArgs false
set_option linter.unusedVariables false
set_option maxHeartbeats 4000000
set_option maxRecDepth 100000
namespace Go.Proofs.Ytnlfokkljgbaaaa
open Go.Av
def NewS (P : Program) (f : FuncId) (args : List AV) (xs : List Int) : Prop :=
  ∀ H, ACalls P f args H fun r H' => r = .nm H.length 0 0 xs.length ∧ H' = H ++ [⟨0, 2, 1, xs.map I⟩]
theorem NewS.newL {P : Program} {f : FuncId} {args : List AV} {xs : List Int} (h : NewS P f args xs) : NewL P f args xs := by
  intro H
  refine (h H).mono ?_
  rintro r H' ⟨rfl, rfl⟩
  exact newL_of (k := H.length) (ver := 0) (ty := 2) (xs := xs) (ext := [⟨0, 2, 1, xs.map I⟩]) (Nat.le_refl _) (by simp)
theorem NewS.pfn {P : Program} {f : FuncId} {args : List AV} {xs : List Int} (h : NewS P f args xs) : PFn P f args (ilS xs) := h.newL.pfn
theorem GR.oneS {H0 ext : List Blk} {i ver : Nat} {xs : List Int} (hi : H0.length ≤ i) (h : (H0 ++ ext)[i]? = some ⟨ver, 2, 1, xs.map I⟩) :
    GR H0 (fun r H' => r = .nm H0.length 0 0 xs.length ∧ H' = H0 ++ [⟨0, 2, 1, xs.map I⟩]) (.nm i ver 0 xs.length) (H0 ++ ext) := by
  refine GR.ren (js := [some i]) (H2 := [⟨0, 2, 1, xs.map I⟩]) ⟨rfl, ?_, ?_, ?_⟩ (.nm 0 i ver 0 xs.length _ rfl h rfl) ⟨rfl, rfl⟩
  · intro p q j hp hq
    have h1 := (List.getElem?_eq_some_iff.1 hp).1
    have h2 := (List.getElem?_eq_some_iff.1 hq).1
    simp at h1 h2; omega
  · intro p j nb hp hn
    have h1 := (List.getElem?_eq_some_iff.1 hp).1
    have : p = 0 := by simp at h1; omega
    subst this
    simp at hp hn
    subst hp; subst hn
    refine ⟨_, hi, h, by simp, rfl, rfl, rfl, Nat.le_refl _, fun i c' hc => ⟨c', hc, ?_⟩⟩
    obtain ⟨x, _, rfl⟩ := List.mem_map.1 (List.mem_of_getElem? hc)
    exact ren_I x
  · intro p nb hp
    have h1 := (List.getElem?_eq_some_iff.1 hp).1
    have : p = 0 := by simp at h1; omega
    subst this
    simp at hp
theorem asc_nodupA : ∀ {l : List Int} {lo hi : Int}, asc lo hi l = true → l.Nodup
  | [], _, _, _ => List.nodup_nil
  | x :: l, lo, hi, h => by
    simp only [asc, Bool.and_eq_true, decide_eq_true_eq] at h
    refine List.nodup_cons.2 ⟨fun hx => ?_, asc_nodupA h.2⟩
    have := asc_mem h.2 x hx; omega
end Go.Proofs.Ytnlfokkljgbaaaa
