/- Affine maps as groups: both ways. -/
import Derived.Test.YtkifdjjnbplghaaS5
import Derived.Test.YtkifdjjnbplghaaG1
import Derived.Test.YtkifdjjnbplghaaU1
import Derived.Test.YtkifdjjnbplghaaM2
import Derived.Test.YtkifdjjnbplghaaK3
set_option linter.unusedSimpArgs false
set_option linter.unusedVariables false
set_option maxHeartbeats 4000000
set_option maxRecDepth 100000
namespace Go.Proofs.Ytkifdjjnbplghaa
open Go.Av

abbrev tyG : Nat := 29
abbrev tyLL : Nat := 25

/-- x -> a x + b on n points. -/
def affRow (n a b : Nat) (x : Nat) : List Int := (List.range x).map fun (i : Nat) => (((a * i + b) % n : Nat) : Int)
def affS (n a b : Nat) : List (List Int) := (List.range b).map fun (b : Nat) => affRow n a b n
def affAll (n : Nat) (fs : List Nat) : List (List Int) := fs.flatMap fun a => affS n a n
theorem affRow_succ (n a b x : Nat) : affRow n a b (x + 1) = affRow n a b x ++ [(((a * x + b) % n : Nat) : Int)] := by simp [affRow, List.range_succ]
theorem affRow_len (n a b x : Nat) : (affRow n a b x).length = x := by simp [affRow]
theorem affS_succ (n a b : Nat) : affS n a (b + 1) = affS n a b ++ [affRow n a b n] := by simp [affS, List.range_succ]
theorem affS_len (n a b : Nat) : (affS n a b).length = b := by simp [affS]
theorem affAll_snoc (n : Nat) (fs : List Nat) (a : Nat) : affAll n (fs ++ [a]) = affAll n fs ++ affS n a n := by simp [affAll]
theorem affAll_len (n : Nat) (fs : List Nat) : (affAll n fs).length = fs.length * n := by
  induction fs with
  | nil => simp [affAll]
  | cons a fs ih => simp only [affAll, List.flatMap_cons, List.length_append, List.length_cons, Nat.succ_mul] at ih ⊢; rw [ih, affS_len]; omega
def nats (fs : List Nat) : List Int := fs.map fun (a : Nat) => (a : Int)
theorem nats_len (fs : List Nat) : (nats fs).length = fs.length := by simp [nats]
theorem nats_split {fs : List Nat} {pre post : List Int} (h : nats fs = pre ++ post) : ∃ p q, fs = p ++ q ∧ pre = nats p ∧ post = nats q := by
  refine ⟨fs.take pre.length, fs.drop pre.length, (List.take_append_drop _ _).symm, ?_, ?_⟩
  · unfold nats at *; rw [List.map_take, h]; simp
  · unfold nats at *; rw [List.map_drop, h]; simp

/-- The box holds a list that grows; the rest of the memory. -/
def BxT (ty : Nat) (Hb : List Blk) (p : Nat) (hd : AV) (xss : List (List Int)) (H' : List Blk) : Prop :=
  ∃ v, H'[p]? = some ⟨0, ty, 1, [hd, v]⟩ ∧ GrowSS H' (p + 1) tyLL v xss ∧ p + 1 ≤ H'.length ∧ ∀ j, j < p → H'[j]? = Hb[j]?
theorem BxT.put {ty : Nat} {Hb H3 : List Blk} {p : Nat} {hd v3 : AV} {xss : List (List Int)} (d1 : GrowSS H3 (p + 1) tyLL v3 xss) (d2 : p + 1 ≤ H3.length) (d3 : ∀ j, j < p → H3[j]? = Hb[j]?) : BxT ty Hb p hd xss (H3.set p ⟨0, ty, 1, [hd, v3]⟩) := by
  refine ⟨v3, List.getElem?_set_self (by omega), d1.same (fun j b h1 h2 => ?_), by simpa using d2, fun j hj => ?_⟩
  · rw [List.getElem?_set_ne (by omega)]; exact h2
  · rw [List.getElem?_set_ne (by omega)]; exact d3 j hj

theorem get_appB1 {H : List Blk} {p : Nat} {b : Blk} (h : H[p]? = some b) (ext : List Blk) : (H ++ ext)[p]? = some b := by
  rw [List.getElem?_append_left (List.getElem?_eq_some_iff.1 h).1]; exact h

end Go.Proofs.Ytkifdjjnbplghaa
