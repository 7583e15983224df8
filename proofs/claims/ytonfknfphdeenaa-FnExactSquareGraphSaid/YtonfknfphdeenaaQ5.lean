/- Graphs of squares: colors and edges. -/
import Derived.Test.YtonfknfphdeenaaQ1
import Derived.Test.YtonfknfphdeenaaE4
set_option linter.unusedSimpArgs false
set_option linter.unusedVariables false
set_option maxHeartbeats 4000000
set_option maxRecDepth 100000
namespace Go.Proofs.Ytonfknfphdeenaa
open Go.Av

theorem latB_facts {xss : List (List Int)} (h : latB xss = true) : 1 ≤ xss.length ∧ xss.length ≤ 10 ∧ (∀ r ∈ xss, r.length = xss.length) ∧ ∀ r ∈ xss, ∀ x ∈ r, 0 ≤ x ∧ x < (xss.length : Int) := by
  unfold latB at h
  simp only [Bool.and_eq_true, decide_eq_true_eq, List.all_eq_true] at h
  obtain ⟨⟨h1, h2⟩, -⟩ := h
  refine ⟨h1.1, h1.2, fun r hr => (h2 r hr).1, fun r hr x hx => ?_⟩
  have := (h2 r hr).2
  unfold permB at this
  simp only [Bool.and_eq_true, decide_eq_true_eq] at this
  have h3 := this.2.1 x hx
  rw [(h2 r hr).1] at h3
  exact h3
theorem latB_cell {xss : List (List Int)} (h : latB xss = true) {x y : Nat} (hx : x < xss.length) (hy : y < xss.length) : 0 ≤ (xss.getD x []).getD y 0 ∧ (xss.getD x []).getD y 0 < (xss.length : Int) := by
  obtain ⟨_, _, h3, h4⟩ := latB_facts h
  have hr : xss.getD x [] ∈ xss := by
    rw [List.getD_eq_getElem?_getD, List.getElem?_eq_getElem hx]; exact List.getElem_mem _
  have hl := h3 _ hr
  have hm : (xss.getD x []).getD y 0 ∈ xss.getD x [] := by
    rw [List.getD_eq_getElem?_getD (l := xss.getD x []), List.getElem?_eq_getElem (by omega)]; exact List.getElem_mem _
  exact h4 _ hr _ hm

/-- The colors. -/
def sqCol (n : Nat) (cl : Bool) : List Int := tab (3 * n + n * n) fun v => if (cl && decide (v < 3 * n)) = true then 0 else ((min (v / n) 3 : Nat) : Int)
/-- The number of a cell. -/
def celN (n x y : Nat) : Int := ((3 * n + n * x + y : Nat) : Int)
def sqEd1 (n : Nat) (xss : List (List Int)) (x y : Nat) : List (Int × Int) := [((x : Int), celN n x y), (((n + y : Nat) : Int), celN n x y), (2 * (n : Int) + (xss.getD x []).getD y 0, celN n x y)]
def sqEdR (n : Nat) (xss : List (List Int)) (x k : Nat) : List (Int × Int) := (List.range k).flatMap fun y => sqEd1 n xss x y
def sqEd (n : Nat) (xss : List (List Int)) (k : Nat) : List (Int × Int) := (List.range k).flatMap fun x => sqEdR n xss x n
theorem sqEdR_succ (n : Nat) (xss : List (List Int)) (x k : Nat) : sqEdR n xss x (k + 1) = sqEdR n xss x k ++ sqEd1 n xss x k := by
  unfold sqEdR; rw [List.range_succ, List.flatMap_append]; simp
theorem sqEd_succ (n : Nat) (xss : List (List Int)) (k : Nat) : sqEd n xss (k + 1) = sqEd n xss k ++ sqEdR n xss k n := by
  unfold sqEd; rw [List.range_succ, List.flatMap_append]; simp
theorem sqEdR_len (n : Nat) (xss : List (List Int)) (x k : Nat) : (sqEdR n xss x k).length = 3 * k := by
  induction k with
  | zero => rfl
  | succ k ih => rw [sqEdR_succ, List.length_append, ih]; simp [sqEd1]; omega
theorem sqEd_len (n : Nat) (xss : List (List Int)) (k : Nat) : (sqEd n xss k).length = k * (3 * n) := by
  induction k with
  | zero => simp [sqEd]
  | succ k ih => rw [sqEd_succ, List.length_append, ih, sqEdR_len, Nat.succ_mul k]

/-- The reference's edges: line by line. -/
def cndQ (n : Nat) (xss : List (List Int)) (line x y : Nat) : Bool := decide ((line : Int) = (x : Int)) || (decide ((line : Int) = (n : Int) + (y : Int)) || decide ((line : Int) = 2 * (n : Int) + (xss.getD x []).getD y 0))
def sqX1 (n : Nat) (xss : List (List Int)) (line x k : Nat) : List (Int × Int) := ((List.range k).filter fun y => cndQ n xss line x y).map fun y => ((line : Int), celN n x y)
def sqX2 (n : Nat) (xss : List (List Int)) (line k : Nat) : List (Int × Int) := (List.range k).flatMap fun x => sqX1 n xss line x n
def sqX (n : Nat) (xss : List (List Int)) (k : Nat) : List (Int × Int) := (List.range k).flatMap fun line => sqX2 n xss line n
theorem sqX1_succ (n : Nat) (xss : List (List Int)) (line x k : Nat) : sqX1 n xss line x (k + 1) = sqX1 n xss line x k ++ (if cndQ n xss line x k = true then [((line : Int), celN n x k)] else []) := by
  unfold sqX1
  rw [List.range_succ, List.filter_append, List.map_append]
  congr 1
  by_cases h : cndQ n xss line x k = true
  · rw [if_pos h, List.filter_cons_of_pos h]; rfl
  · rw [if_neg h, List.filter_cons_of_neg h]; rfl
theorem sqX2_succ (n : Nat) (xss : List (List Int)) (line k : Nat) : sqX2 n xss line (k + 1) = sqX2 n xss line k ++ sqX1 n xss line k n := by
  unfold sqX2; rw [List.range_succ, List.flatMap_append]; simp
theorem sqX_succ (n : Nat) (xss : List (List Int)) (k : Nat) : sqX n xss (k + 1) = sqX n xss k ++ sqX2 n xss k n := by
  unfold sqX; rw [List.range_succ, List.flatMap_append]; simp
theorem sqX1_len (n : Nat) (xss : List (List Int)) (line x k : Nat) : (sqX1 n xss line x k).length ≤ k := by
  unfold sqX1; rw [List.length_map]; exact Nat.le_trans (List.length_filter_le _ _) (by simp)
theorem sqX2_len (n : Nat) (xss : List (List Int)) (line k : Nat) : (sqX2 n xss line k).length ≤ k * n := by
  induction k with
  | zero => simp [sqX2]
  | succ k ih => rw [sqX2_succ, List.length_append, Nat.succ_mul]; have := sqX1_len n xss line k n; omega
theorem sqX_len (n : Nat) (xss : List (List Int)) (k : Nat) : (sqX n xss k).length ≤ k * (n * n) := by
  induction k with
  | zero => simp [sqX]
  | succ k ih => rw [sqX_succ, List.length_append, Nat.succ_mul]; have := sqX2_len n xss k n; omega
theorem sqX1_mem {n : Nat} {xss : List (List Int)} {line x k : Nat} {e : Int × Int} : e ∈ sqX1 n xss line x k ↔ ∃ y, y < k ∧ cndQ n xss line x y = true ∧ e = ((line : Int), celN n x y) := by
  unfold sqX1
  rw [List.mem_map]
  constructor
  · rintro ⟨y, hy, rfl⟩
    rw [List.mem_filter, List.mem_range] at hy
    exact ⟨y, hy.1, hy.2, rfl⟩
  · rintro ⟨y, h1, h2, rfl⟩
    exact ⟨y, List.mem_filter.2 ⟨List.mem_range.2 h1, h2⟩, rfl⟩
theorem sqX2_mem {n : Nat} {xss : List (List Int)} {line k : Nat} {e : Int × Int} : e ∈ sqX2 n xss line k ↔ ∃ x y, x < k ∧ y < n ∧ cndQ n xss line x y = true ∧ e = ((line : Int), celN n x y) := by
  unfold sqX2
  rw [List.mem_flatMap]
  constructor
  · rintro ⟨x, hx, he⟩
    obtain ⟨y, h1, h2, h3⟩ := sqX1_mem.1 he
    exact ⟨x, y, List.mem_range.1 hx, h1, h2, h3⟩
  · rintro ⟨x, y, h0, h1, h2, h3⟩
    exact ⟨x, List.mem_range.2 h0, sqX1_mem.2 ⟨y, h1, h2, h3⟩⟩
theorem celN_lt {n x y x' y' : Nat} (hy : y < n) (h : x < x') : celN n x y < celN n x' y' := by
  have h1 : n * (x + 1) ≤ n * x' := Nat.mul_le_mul_left n h
  rw [Nat.mul_succ] at h1
  unfold celN
  omega
theorem celN_inj {n x y x' y' : Nat} (hy : y < n) (hy' : y' < n) (h : celN n x y = celN n x' y') : x = x' ∧ y = y' := by
  have hx : x = x' := by
    rcases Nat.lt_trichotomy x x' with h1 | h1 | h1
    · have := celN_lt (y' := y') hy h1; omega
    · exact h1
    · have := celN_lt (y' := y) hy' h1; omega
  subst hx
  unfold celN at h
  exact ⟨rfl, by omega⟩
theorem sqEd_mem {n : Nat} {xss : List (List Int)} {k : Nat} {e : Int × Int} : e ∈ sqEd n xss k ↔ ∃ x y, x < k ∧ y < n ∧ e ∈ sqEd1 n xss x y := by
  unfold sqEd sqEdR
  rw [List.mem_flatMap]
  constructor
  · rintro ⟨x, hx, he⟩
    obtain ⟨y, hy, he⟩ := List.mem_flatMap.1 he
    exact ⟨x, y, List.mem_range.1 hx, List.mem_range.1 hy, he⟩
  · rintro ⟨x, y, hx, hy, he⟩
    exact ⟨x, List.mem_range.2 hx, List.mem_flatMap.2 ⟨y, List.mem_range.2 hy, he⟩⟩
theorem sqEd1_mem {n : Nat} {xss : List (List Int)} {x y : Nat} {e : Int × Int} : e ∈ sqEd1 n xss x y ↔ e = ((x : Int), celN n x y) ∨ e = (((n + y : Nat) : Int), celN n x y) ∨ e = (2 * (n : Int) + (xss.getD x []).getD y 0, celN n x y) := by
  unfold sqEd1
  simp only [List.mem_cons, List.not_mem_nil, or_false]

theorem sqX_is {xss : List (List Int)} (h : latB xss = true) : sqX xss.length xss (3 * xss.length) = sortU cmpE (sqEd xss.length xss xss.length) := by
  obtain ⟨h1, _, h3, h4⟩ := latB_facts h
  have hcel := fun {x y : Nat} hx hy => latB_cell h (x := x) (y := y) hx hy
  generalize xss.length = n at *
  refine asc_uniq cmpE_tot ?_ (sortU_asc cmpE_tot _) (fun e => ?_)
  · unfold Asc sqX
    rw [List.pairwise_flatMap]
    refine ⟨fun line _ => ?_, ?_⟩
    · unfold sqX2
      rw [List.pairwise_flatMap]
      refine ⟨fun x _ => ?_, ?_⟩
      · unfold sqX1
        rw [List.pairwise_map]
        exact (List.pairwise_lt_range.filter _).imp (fun h => cmpE_lt2 (by unfold celN; omega))
      · refine List.pairwise_lt_range.imp ?_
        intro x x' hxy a ha b hb
        obtain ⟨y, g1, _, rfl⟩ := sqX1_mem.1 ha
        obtain ⟨y', _, _, rfl⟩ := sqX1_mem.1 hb
        exact cmpE_lt2 (celN_lt g1 hxy)
    · refine List.pairwise_lt_range.imp ?_
      intro l l' hl a ha b hb
      obtain ⟨_, _, _, _, _, rfl⟩ := sqX2_mem.1 ha
      obtain ⟨_, _, _, _, _, rfl⟩ := sqX2_mem.1 hb
      exact cmpE_lt1 (by omega)
  · rw [sortU_mem cmpE_tot, sqEd_mem]
    unfold sqX
    rw [List.mem_flatMap]
    constructor
    · rintro ⟨line, hl, he⟩
      obtain ⟨x, y, g1, g2, g3, rfl⟩ := sqX2_mem.1 he
      refine ⟨x, y, g1, g2, sqEd1_mem.2 ?_⟩
      unfold cndQ at g3
      simp only [Bool.or_eq_true, decide_eq_true_eq] at g3
      rcases g3 with g3 | g3 | g3
      · exact .inl (by rw [g3])
      · exact .inr (.inl (by rw [g3]; simp))
      · exact .inr (.inr (by rw [g3]))
    · rintro ⟨x, y, g1, g2, he⟩
      have hc := hcel g1 g2
      rcases sqEd1_mem.1 he with rfl | rfl | rfl
      · exact ⟨x, List.mem_range.2 (by omega), sqX2_mem.2 ⟨x, y, g1, g2, by unfold cndQ; simp, rfl⟩⟩
      · exact ⟨n + y, List.mem_range.2 (by omega), sqX2_mem.2 ⟨x, y, g1, g2, by unfold cndQ; simp, rfl⟩⟩
      · obtain ⟨c, hcc⟩ := Int.eq_ofNat_of_zero_le hc.1
        rw [hcc] at hc ⊢
        refine ⟨2 * n + c, List.mem_range.2 (by omega), sqX2_mem.2 ⟨x, y, g1, g2, ?_, ?_⟩⟩
        · unfold cndQ; rw [hcc]; simp
        · simp
theorem sqEd_nodup {xss : List (List Int)} (h : latB xss = true) : (sqEd xss.length xss xss.length).Nodup := by
  obtain ⟨h1, _, h3, h4⟩ := latB_facts h
  have hcel := fun {x y : Nat} hx hy => latB_cell h (x := x) (y := y) hx hy
  generalize xss.length = n at *
  rw [List.nodup_iff_pairwise_ne]
  unfold sqEd
  rw [List.pairwise_flatMap]
  have hsnd : ∀ {x y : Nat} {e : Int × Int}, e ∈ sqEd1 n xss x y → e.2 = celN n x y := by
    intro x y e he
    rcases sqEd1_mem.1 he with rfl | rfl | rfl <;> rfl
  refine ⟨fun x hx => ?_, ?_⟩
  · unfold sqEdR
    rw [List.pairwise_flatMap]
    refine ⟨fun y hy => ?_, ?_⟩
    · have hc := hcel (List.mem_range.1 hx) (List.mem_range.1 hy)
      have hx' := List.mem_range.1 hx
      have hy' := List.mem_range.1 hy
      unfold sqEd1
      simp only [List.pairwise_cons, List.mem_cons, List.not_mem_nil, or_false, forall_eq_or_imp, forall_eq, ne_eq, Prod.mk.injEq, and_true, List.Pairwise.nil, implies_true, false_imp_iff]
      omega
    · refine List.pairwise_lt_range.imp_of_mem ?_
      intro y y' hy hy' hlt a ha b hb hab
      have e1 := hsnd ha
      have e2 := hsnd hb
      rw [hab, e2] at e1
      have := celN_inj (List.mem_range.1 hy') (List.mem_range.1 hy) e1
      omega
  · refine List.pairwise_lt_range.imp_of_mem ?_
    intro x x' hx hx' hlt a ha b hb hab
    unfold sqEdR at ha hb
    obtain ⟨y, hy, ha⟩ := List.mem_flatMap.1 ha
    obtain ⟨y', hy', hb⟩ := List.mem_flatMap.1 hb
    have e1 := hsnd ha
    have e2 := hsnd hb
    rw [hab, e2] at e1
    have := celN_inj (List.mem_range.1 hy') (List.mem_range.1 hy) e1
    omega
theorem sqEd_le {xss : List (List Int)} (h : latB xss = true) : ∀ e ∈ sqEd xss.length xss xss.length, e.1 ≤ e.2 := by
  intro e he
  obtain ⟨x, y, g1, g2, he⟩ := sqEd_mem.1 he
  have hc := latB_cell h g1 g2
  generalize xss.length = n at *
  rcases sqEd1_mem.1 he with rfl | rfl | rfl <;> simp only [celN] <;> omega
/-- The graph of a square, and the code. -/
def sqV (xss : List (List Int)) (cl : Bool) : (List Int × List (Int × Int)) × Int := if latB xss = true then (if 6 < xss.length then (([], []), 5) else ((sqCol xss.length cl, sortU cmpE (sqEd xss.length xss xss.length)), 0)) else (([], []), 1)
end Go.Proofs.Ytonfknfphdeenaa
