/- Subsets in order: ranks, the next one, all of them. -/
import Derived.Test.YtdgcgckehihboaaDoorK6
set_option linter.unusedSimpArgs false
set_option linter.unusedVariables false
set_option maxHeartbeats 4000000
set_option maxRecDepth 100000
namespace Go.Proofs.YtdgcgckehihboaaDoor
open Go.Av

theorem _root_.Go.Av.GR.froz0 {H0 : List Blk} {R : AV → List Blk → Prop} {r r' : AV} (hf : Froz H0 H0.length r r') (h : R r' H0) : GR H0 R r H0 := by
  have := GR.froz (H0 := H0) (ext := []) (R := R) (by simpa using hf) h
  simpa using this

/-- A list by its places. -/
def tab (n : Nat) (f : Nat → Int) : List Int := (List.range n).map f
theorem tab_length (n : Nat) (f : Nat → Int) : (tab n f).length = n := by simp [tab]
theorem tab_getD {n : Nat} (f : Nat → Int) {i : Nat} (h : i < n) : (tab n f).getD i 0 = f i := by simp [tab, h]
theorem tab_set (n : Nat) (f : Nat → Int) (i : Nat) (v : Int) : (tab n f).set i v = tab n (fun j => if j = i then v else f j) := by
  unfold tab
  apply List.ext_getElem
  · simp
  · intro j h1 h2
    simp only [List.getElem_set, List.getElem_map, List.getElem_range]
    by_cases h : i = j
    · simp [h]
    · simp [h, Ne.symm h]
theorem tab_congr {n : Nat} {f g : Nat → Int} (h : ∀ j, j < n → f j = g j) : tab n f = tab n g := by
  unfold tab
  exact List.map_congr_left fun j hj => h j (List.mem_range.1 hj)
theorem tab_of (l : List Int) : l = tab l.length fun j => l.getD j 0 := by
  unfold tab
  apply List.ext_getElem
  · simp
  · intro j h1 h2
    simp [List.getElem?_eq_getElem h1]
theorem tab_rep (n : Nat) (v : Int) : List.replicate n v = tab n fun _ => v := by
  unfold tab
  apply List.ext_getElem <;> simp
theorem take_tab (n : Nat) (f : Nat → Int) : ((tab n f).map I).take n = (tab n f).map I := List.take_of_length_le (by simp [tab_length])

/-- The program's number of subsets. -/
def chooseI (n k : Int) : Int :=
  if (decide (0 ≤ n) && decide (n ≤ 32)) && (decide (0 ≤ k) && decide (k ≤ n)) then (List.range k.toNat).foldl (fun c (i : Nat) => w64 ((w64 (c * (n - k + (i + 1 : Nat)))).tdiv (i + 1 : Nat))) 1 else 0

/-- The next set of the same size, looked for at the first i places. -/
def nextGo (n : Int) (set : List Int) : Nat → Option (List Int)
  | 0 => none
  | i + 1 => if set.getD i 0 = n - set.length + i then nextGo n set i else some (tab set.length fun j => if j < i then set.getD j 0 else set.getD i 0 + 1 + j - i)
def nextSub (n : Int) (set : List Int) : Option (List Int) := nextGo n set set.length
def nextAV : Option (List Int) → AV
  | some s => .tup [ilS s, Bv true]
  | none => .tup [ilS [], Bv false]

def idL (k : Nat) : List Int := tab k fun i => i
/-- Each set is followed by the next one, up to the last. -/
def chainS (n : Int) : List (List Int) → Prop
  | [] => True
  | [s] => asc 0 (n - 1) s = true ∧ nextSub n s = none
  | s :: t :: r => asc 0 (n - 1) s = true ∧ nextSub n s = some t ∧ chainS n (t :: r)

theorem cell1_mapS (xs : List (List Int)) : ∀ c ∈ xs.map ilS, c.cell1 = true := by intro c hc; obtain ⟨x, _, rfl⟩ := List.mem_map.1 hc; rfl

/-- The rank of a set, as the program reckons it. -/
def rankIn (n : Int) (k : Int) (i : Nat) (x : Int) (from_ : Int) : Nat → Int → Int
  | 0, acc => acc
  | m + 1, acc => rankIn n k i x (from_ + 1) m (w64 (acc + chooseI (n - 1 - from_) (k - 1 - i)))
def rankGo (n k : Int) : Nat → Int → List Int → Int → Int
  | _, _, [], acc => acc
  | i, from_, x :: r, acc => rankGo n k (i + 1) (x + 1) r (rankIn n k i x from_ (x - from_).toNat acc)
def rankI (n : Int) (set : List Int) : Int := rankGo n set.length 0 0 set 0

end Go.Proofs.YtdgcgckehihboaaDoor
