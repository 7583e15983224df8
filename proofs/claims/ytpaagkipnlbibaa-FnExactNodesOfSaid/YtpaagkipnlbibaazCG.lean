/- Exact covers: the parts of the reference's search. -/
import Derived.Test.YtpaagkipnlbibaazCC
import Derived.Test.YtpaagkipnlbibaazK38
set_option linter.unusedSimpArgs false
set_option linter.unusedVariables false
set_option maxHeartbeats 4000000
set_option maxRecDepth 100000
namespace Go.Proofs.Ytpaagkipnlbibaa
open Go.Av
theorem optW_range (x : Int) : ∀ (O : List (List Int)), optW x O = ((List.range O.length).filter fun (i : Nat) => (O.getD i []).contains x).map fun (i : Nat) => (i : Int) := by
  intro O
  have key : ∀ (n : Nat) (O : List (List Int)), O.length = n → optW x O = ((List.range n).filter fun (i : Nat) => (O.getD i []).contains x).map fun (i : Nat) => (i : Int) := by
    intro n
    induction n with
    | zero => intro O h; rw [List.length_eq_zero_iff.1 h]; rfl
    | succ n ih =>
      intro O h
      rcases nilOrSnoc O with rfl | ⟨pre, y, rfl⟩
      · simp at h
      · have hp : pre.length = n := by simpa using h
        rw [optW_snoc, ih pre hp, List.range_succ, List.filter_append, List.map_append]
        congr 1
        · congr 1
          refine List.filter_congr fun i hi => ?_
          have hi := List.mem_range.1 hi
          rw [List.getD_eq_getElem?_getD, List.getD_eq_getElem?_getD, List.getElem?_append_left (by omega)]
        · have e : (pre ++ [y]).getD n [] = y := by rw [← hp]; simp [List.getD_eq_getElem?_getD]
          rw [hp]
          cases hc : y.contains x
          · rw [List.filter_cons_of_neg (by rw [e, hc]; simp)]; simp
          · rw [List.filter_cons_of_pos (by rw [e, hc])]; simp
  exact key _ O rfl
def pickC (O : List (List Int)) (D : List Int) (x : Int) (i : Nat) : Bool := (O.getD i []).contains x && opI O D (i : Int)
theorem chL_range (O : List (List Int)) (D : List Int) (x : Int) : chL O D x = ((List.range O.length).filter (pickC O D x)).map fun (i : Nat) => (i : Int) := by
  unfold chL
  rw [optW_range, List.filter_map, List.filter_filter]
  congr 1
  refine List.filter_congr fun i _ => ?_
  unfold pickC
  rw [Bool.and_comm]; rfl
def meetC (O : List (List Int)) (i : Nat) (k : Int) : Bool := (O.getD i []).any fun x => (O.getD k.toNat []).contains x
def offL (O : List (List Int)) (ch : List Int) : List Int := (List.range O.length).map fun (i : Nat) => ((ch.countP (meetC O i) : Nat) : Int)
theorem offL_len (O : List (List Int)) (ch : List Int) : (offL O ch).length = O.length := by simp [offL]
theorem offL_get {O : List (List Int)} {ch : List Int} {i : Nat} (h : i < O.length) : (offL O ch).getD i 0 = ((ch.countP (meetC O i) : Nat) : Int) := by
  rw [getD_get (by rw [offL_len]; exact h)]; simp [offL]
theorem offL_nil (O : List (List Int)) : offL O [] = List.replicate O.length 0 := by
  unfold offL
  simp [List.map_const']
theorem off_zero {O : List (List Int)} {ch : List Int} {i : Nat} : ch.countP (meetC O i) = 0 ↔ opI O (itemsOf O ch) (i : Int) = true := by
  rw [List.countP_eq_zero]
  unfold opI meetC itemsOf
  rw [Bool.not_eq_true', List.any_eq_false, Int.toNat_natCast]
  constructor
  · intro h x hx
    rw [List.contains_iff_mem, List.mem_flatMap]
    rintro ⟨k, hk, hxk⟩
    exact h k hk (List.any_eq_true.2 ⟨x, hx, List.contains_iff_mem.2 hxk⟩)
  · intro h k hk hm
    obtain ⟨x, hx, hxk⟩ := List.any_eq_true.1 hm
    exact h x hx (List.contains_iff_mem.2 (List.mem_flatMap.2 ⟨k, hk, List.contains_iff_mem.1 hxk⟩))
def offBy (O : List (List Int)) (os : List Int) (k : Int) (by_ : Int) : List Int := (List.range O.length).map fun (i : Nat) => if meetC O i k = true then os.getD i 0 + by_ else os.getD i 0
theorem offBy_push (O : List (List Int)) (ch : List Int) (k : Int) : offBy O (offL O ch) k 1 = offL O (ch ++ [k]) := by
  unfold offBy
  conv => rhs; unfold offL
  refine List.map_congr_left fun i hi => ?_
  rw [offL_get (List.mem_range.1 hi), List.countP_append, List.countP_cons, List.countP_nil]
  split <;> simp [*]
theorem offBy_pop (O : List (List Int)) (ch : List Int) (k : Int) : offBy O (offL O (ch ++ [k])) k (-1) = offL O ch := by
  unfold offBy
  conv => rhs; unfold offL
  refine List.map_congr_left fun i hi => ?_
  rw [offL_get (List.mem_range.1 hi), List.countP_append, List.countP_cons, List.countP_nil]
  split <;> simp [*] <;> omega
def setAll (ds : List Bool) (o : List Int) (v : Bool) : List Bool := o.foldl (fun d x => d.set x.toNat v) ds
theorem setAll_len (o : List Int) (v : Bool) : ∀ ds : List Bool, (setAll ds o v).length = ds.length := by
  induction o with
  | nil => intro ds; rfl
  | cons x o ih => intro ds; show (setAll (ds.set x.toNat v) o v).length = _; rw [ih, List.length_set]
theorem setAll_snoc (ds : List Bool) (pre : List Int) (x : Int) (v : Bool) : setAll ds (pre ++ [x]) v = (setAll ds pre v).set x.toNat v := by unfold setAll; rw [List.foldl_append]; rfl
theorem setAll_push (n : Nat) (D : List Int) : ∀ o : List Int, (∀ x ∈ o, 0 ≤ x) → setAll (marks n D) o true = marks n (D ++ o) := by
  intro o
  induction o using snocInd with
  | nil => intro _; simp [setAll]
  | append_singleton o x ih =>
    intro h
    rw [setAll_snoc, ih (fun y hy => h y (by simp [hy])), marks_set _ _ _ (h x (by simp)), List.append_assoc]
theorem setAll_pop {n : Nat} {D o : List Int} (h0 : ∀ x ∈ o, 0 ≤ x) (hd : ∀ x ∈ o, D.contains x = false) : setAll (marks n (D ++ o)) o false = marks n D := by
  have key : ∀ pre : List Int, (∀ x ∈ pre, 0 ≤ x) → (∀ x ∈ pre, D.contains x = false) → setAll (marksF n D o []) pre false = marksF n D o pre := by
    intro pre
    induction pre using snocInd with
    | nil => intro _ _; rfl
    | append_singleton pre x ih =>
      intro g1 g2
      rw [setAll_snoc, ih (fun y hy => g1 y (by simp [hy])) (fun y hy => g2 y (by simp [hy]))]
      have hx := g1 x (by simp)
      have hx2 := g2 x (by simp)
      obtain ⟨x, rfl⟩ := Int.eq_ofNat_of_zero_le hx
      rw [Int.toNat_natCast, marksF_set hx2]
  rw [← marksF_nil, key o h0 hd, marksF_all]
end Go.Proofs.Ytpaagkipnlbibaa
