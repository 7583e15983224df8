/- Pairs that are not covered: the program, the reference. -/
import Derived.Test.YthogadbnddmkdaaProg
import Derived.KernelRfl
import Derived.Test.YthogadbnddmkdaazK16
import Derived.Test.YthogadbnddmkdaazL7
import Derived.Test.YthogadbnddmkdaazK1
set_option linter.unusedSimpArgs false
set_option linter.unusedVariables false
set_option maxHeartbeats 4000000
set_option maxRecDepth 100000
namespace Go.Proofs.Ythogadbnddmkdaa
open Go.Av
abbrev f_impl_UncoveredPairs : Nat := 19
def c_impl_UncoveredPairs : SC :=
 .seq (.reg [
     ⟨(some 1), .box 27 (.tmp 0), none⟩,
     ⟨(some 2), .mv (.const (.int .i64 0)), none⟩] [1])
 (.seq (.seq (.reg [
     ⟨(some 6), .load 3 true (.tmp 1), none⟩,
     ⟨(some 7), .call 18 [(.tmp 6)], none⟩,
     ⟨(some 8), .un .not (.tmp 7), none⟩] [1, 8])
 (.cond (.tmp 8)
  (.seq (.reg [
      ⟨(some 2), .mv (.const (.int .i64 0)), none⟩] [2])
  (.ret))
  (.skip)))
 (.seq (.reg [
     ⟨(some 9), .faddr 0 (.tmp 1), none⟩,
     ⟨(some 10), .load 1 false (.tmp 9), none⟩,
     ⟨(some 11), .faddr 1 (.tmp 1), none⟩,
     ⟨(some 12), .load 1 false (.tmp 11), none⟩,
     ⟨(some 13), .call 46 [(.tmp 10), (.tmp 12)], none⟩,
     ⟨(some 3), .mv (.tmp 13), none⟩] [1, 3])
 (.seq (.seq (.reg [
     ⟨(some 14), .faddr 2 (.tmp 1), none⟩,
     ⟨(some 15), .load 1 false (.tmp 14), none⟩,
     ⟨(some 16), .len (.tmp 15), none⟩,
     ⟨(some 17), .mv (.const (.int .i64 0)), none⟩] [3, 15, 16, 17])
 (.block 0 (.loop [3, 15, 16, 17]
   (.seq (.reg [
       ⟨(some 18), .bin .lss (.tmp 17) (.tmp 16), none⟩] [3, 15, 16, 17, 18])
   (.seq (.cond (.tmp 18)
    (.skip)
    (.exit 0))
   (.seq (.block 1 (.seq (.reg [
        ⟨(some 19), .iaddr 1 (.tmp 15) (.tmp 17), none⟩,
        ⟨(some 20), .load 1 false (.tmp 19), none⟩,
        ⟨(some 5), .mv (.tmp 20), none⟩] [3, 5, 15, 16, 17])
    (.reg [
        ⟨(some 21), .mv (.tmp 3), none⟩,
        ⟨(some 22), .mv (.tmp 5), none⟩,
        ⟨(some 23), .call 49 [(.tmp 21), (.tmp 22)], none⟩] [3, 15, 16, 17])))
   (.reg [
       ⟨(some 24), .bin .add (.tmp 17) (.const (.int .i64 1)), none⟩,
       ⟨(some 17), .mv (.tmp 24), none⟩] [3, 15, 16, 17])))))))
 (.seq (.reg [
     ⟨(some 25), .mv (.tmp 3), none⟩,
     ⟨(some 26), .call 47 [(.tmp 25)], none⟩,
     ⟨(some 27), .call 61 [(.tmp 26)], none⟩,
     ⟨(some 2), .mv (.tmp 27), none⟩] [2])
 (.ret)))))
theorem s_impl_UncoveredPairs : stripF Try.prog 19 [[1], [1, 8], [2], [1, 3], [3, 15, 16, 17], [3, 15, 16, 17], [3, 15, 16, 17, 18], [3, 5, 15, 16, 17], [3, 15, 16, 17], [3, 15, 16, 17], [2]] = some (c_impl_UncoveredPairs, [.tmp 2], 28) := by kernel_rfl
abbrev f_impl_size__4int64 : Nat := 61
def c_impl_size__4int64 : SC :=
 .seq (.reg [
     ⟨(some 2), .mv (.const (.int .i64 0)), none⟩] [0])
 (.seq (.reg [
     ⟨(some 3), .mv (.tmp 0), none⟩,
     ⟨(some 4), .len (.tmp 3), none⟩,
     ⟨(some 2), .mv (.tmp 4), none⟩] [2])
 (.ret))
theorem s_impl_size__4int64 : stripF Try.prog 61 [[0], [2]] = some (c_impl_size__4int64, [.tmp 2], 5) := by kernel_rfl
def covR (rows : List (List Int)) (x y v w : Nat) : Bool := rows.any fun row => decide (row.getD x 0 = (v : Int)) && decide (row.getD y 0 = (w : Int))
theorem mul_add_inj {n a b a' b' : Int} (hb : 0 ≤ b ∧ b < n) (hb' : 0 ≤ b' ∧ b' < n) (h : a * n + b = a' * n + b') : a = a' ∧ b = b' := by
  have e1 : (a * n + b) / n = a := by rw [Int.add_comm, Int.add_mul_ediv_right _ _ (by omega), Int.ediv_eq_zero_of_lt hb.1 hb.2]; omega
  have e2 : (a' * n + b') / n = a' := by rw [Int.add_comm, Int.add_mul_ediv_right _ _ (by omega), Int.ediv_eq_zero_of_lt hb'.1 hb'.2]; omega
  have h1 : a = a' := by rw [← e1, ← e2, h]
  subst h1
  exact ⟨rfl, by omega⟩
theorem at_inj {l c : Nat} {x y v w x' y' v' w' : Int} (hy : 0 ≤ y ∧ y < c) (hv : 0 ≤ v ∧ v < l) (hw : 0 ≤ w ∧ w < l) (hy' : 0 ≤ y' ∧ y' < c) (hv' : 0 ≤ v' ∧ v' < l) (hw' : 0 ≤ w' ∧ w' < l) (h : atI l c x y v w = atI l c x' y' v' w') : x = x' ∧ y = y' ∧ v = v' ∧ w = w' := by
  unfold atI at h
  obtain ⟨h1, rfl⟩ := mul_add_inj hw hw' h
  obtain ⟨h2, rfl⟩ := mul_add_inj hv hv' h1
  obtain ⟨h3, rfl⟩ := mul_add_inj hy hy' h2
  exact ⟨h3, rfl, rfl, rfl⟩
theorem mem_codes {l c : Nat} {row : List Int} {z : Int} : z ∈ codes l c row ↔ ∃ x y : Nat, x < y ∧ y < c ∧ z = atI l c x y (row.getD x 0) (row.getD y 0) := by
  unfold codes codesTo codeC
  constructor
  · intro h
    obtain ⟨x, hx, h⟩ := List.mem_flatMap.1 h
    obtain ⟨j, hj, rfl⟩ := List.mem_map.1 h
    rw [List.mem_range] at hx hj
    exact ⟨x, x + 1 + j, by omega, by omega, rfl⟩
  · rintro ⟨x, y, hxy, hy, rfl⟩
    refine List.mem_flatMap.2 ⟨x, List.mem_range.2 (by omega), List.mem_map.2 ⟨y - (x + 1), List.mem_range.2 (by omega), ?_⟩⟩
    rw [show x + 1 + (y - (x + 1)) = y by omega]
theorem rowOk_get {l c : Nat} {row : List Int} (h : rowOk l c row = true) {i : Nat} (hi : i < c) : 0 ≤ row.getD i 0 ∧ row.getD i 0 < l := by
  simp only [rowOk, Bool.and_eq_true, decide_eq_true_eq, List.all_eq_true] at h
  have := h.2 (row.getD i 0) (by rw [List.getD_eq_getElem?_getD, List.getElem?_eq_getElem (by omega)]; exact List.getElem_mem _)
  omega
theorem inP_cov {l c : Nat} {rows : List (List Int)} (hr : rows.all (rowOk l c) = true) {x y v w : Nat} (hxy : x < y) (hy : y < c) (hv : v < l) (hw : w < l) : inP l c (rows.flatMap (codes l c)) x y v w = covR rows x y v w := by
  rw [List.all_eq_true] at hr
  unfold inP covR
  rw [Bool.eq_iff_iff, List.contains_iff_mem, List.mem_flatMap, List.any_eq_true]
  constructor
  · rintro ⟨row, hm, hz⟩
    obtain ⟨x', y', h1, h2, h3⟩ := mem_codes.1 hz
    have gx := rowOk_get (hr row hm) (i := x') (by omega)
    have gy := rowOk_get (hr row hm) (i := y') (by omega)
    obtain ⟨k1, k2, k3, k4⟩ := at_inj (by omega) (by omega) (by omega) (by omega) gx gy h3
    have : x = x' := by omega
    subst this
    have : y = y' := by omega
    subst this
    exact ⟨row, hm, by rw [← k3, ← k4]; simp⟩
  · rintro ⟨row, hm, h⟩
    simp only [Bool.and_eq_true, decide_eq_true_eq] at h
    exact ⟨row, hm, mem_codes.2 ⟨x, y, hxy, hy, by rw [h.1, h.2]⟩⟩
theorem opY_congr {l : Nat} {P P' : Nat → Nat → Nat → Nat → Bool} {x y n : Nat} (hn : n ≤ l * l) (h : ∀ v w, v < l → w < l → P x y v w = P' x y v w) : opY l P x y n = opY l P' x y n := by
  unfold opY
  have : (List.range n).filter (fun k => !P x y (k / l) (k % l)) = (List.range n).filter (fun k => !P' x y (k / l) (k % l)) := by
    refine List.filter_congr fun k hk => ?_
    rw [List.mem_range] at hk
    have hl : 0 < l := by
      rcases Nat.eq_zero_or_pos l with h0 | h0
      · subst h0; omega
      · exact h0
    rw [h (k / l) (k % l) (Nat.div_lt_of_lt_mul (by omega)) (Nat.mod_lt _ hl)]
  rw [this]
theorem opAll_congr {l c : Nat} {P P' : Nat → Nat → Nat → Nat → Bool} (h : ∀ x y v w, x < y → y < c → v < l → w < l → P x y v w = P' x y v w) : opAll l c P = opAll l c P' := by
  unfold opAll opTo opX
  simp only [List.flatMap_def]
  congr 1
  refine List.map_congr_left fun x hx => ?_
  rw [List.mem_range] at hx
  congr 1
  refine List.map_congr_left fun j hj => ?_
  rw [List.mem_range] at hj
  exact opY_congr (Nat.le_refl _) fun v w hv hw => h x _ v w (by omega) (by omega) hv hw
theorem size4_ok (H : List Blk) (a : AV) (n : Nat) (cells : List AV) (ha : aview H a = some (n, cells)) : ACalls Try.prog f_impl_size__4int64 [a] H (fun r H' => r = I n ∧ H' = H) := by
  refine ACalls.introB s_impl_size__4int64 (by simp) ?_; intro hB hA; unfold c_impl_size__4int64; simp (config := { maxSteps := 1000000 }) (disch := (first | omega | (simp only [go_sem]; try omega))) only [go_sem, Nat.reduceAdd, Nat.reduceEqDiff, Nat.reduceLeDiff, Nat.reduceMul, Nat.reduceLT, reduceIte, Int.reduceToNat, w64_id, cast_succ]
  repeat (first | (with_reducible first | refine SW.seq ?_ | refine SW.block ?_ | refine SW.rowC ?_ | refine SW.skip ?_ | refine SW.exit ?_ | intro _ | refine And.intro (by omega) ?_) | simp (config := { maxSteps := 1000000 }) (disch := (first | omega | (simp only [go_sem]; try omega))) only [go_sem, Nat.reduceAdd, Nat.reduceEqDiff, Nat.reduceLeDiff, Nat.reduceMul, Nat.reduceLT, reduceIte, Int.reduceToNat, w64_id, cast_succ, ha])
  refine SW.ret ?_; (try simp only [go_sem]); (first | refine FunPost.one ?_ | refine FunPost.two ?_ | refine FunPost.three ?_); (try simp (config := { maxSteps := 1000000 }) (disch := (first | omega | (simp only [go_sem]; try omega))) only [go_sem, Nat.reduceAdd, Nat.reduceEqDiff, Nat.reduceLeDiff, Nat.reduceMul, Nat.reduceLT, reduceIte, Int.reduceToNat, w64_id, cast_succ]); (first | (with_reducible refine GR.drop ?_ ?_; (simp only [go_sem, and_self, and_true, true_and, implies_true, List.take_succ_cons, List.take_zero])) | refine GR.of ?_); refine ⟨?_, rfl⟩; (try with_reducible rfl)
theorem UncoveredPairs_fn (l c : Int) (rows : List (List Int)) : PFn Try.prog f_impl_UncoveredPairs [.agg [I l, I c, ilSS rows]] (I (if arrayOk l c rows then ((opAll l.toNat c.toNat (covR rows)).length : Int) else 0)) := by
  have hva := ValidArray_fn l c rows
  cases hv : arrayOk l c rows with
  | false =>
    rw [hv] at hva
    intro H; refine ACalls.introB s_impl_UncoveredPairs (by simp) ?_; intro hB hA; unfold c_impl_UncoveredPairs; simp (config := { maxSteps := 1000000 }) (disch := (first | omega | (simp only [go_sem]; try omega))) only [go_sem, Nat.reduceAdd, Nat.reduceEqDiff, Nat.reduceLeDiff, Nat.reduceMul, Nat.reduceLT, reduceIte, Int.reduceToNat, w64_id, cast_succ]
    repeat (first | (with_reducible first | refine SW.seq ?_ | refine SW.block ?_ | refine SW.rowC ?_ | refine SW.skip ?_ | refine SW.exit ?_ | refine PFn.use (hva) ?_ | refine PFn.useq (hva) ?_ | intro _ | refine And.intro (by omega) ?_) | simp (config := { maxSteps := 1000000 }) (disch := (first | omega | (simp only [go_sem]; try omega))) only [go_sem, Nat.reduceAdd, Nat.reduceEqDiff, Nat.reduceLeDiff, Nat.reduceMul, Nat.reduceLT, reduceIte, Int.reduceToNat, w64_id, cast_succ])
    refine SW.condT rfl ?_
    repeat (first | (with_reducible first | refine SW.seq ?_ | refine SW.block ?_ | refine SW.rowC ?_ | refine SW.skip ?_ | refine SW.exit ?_ | intro _ | refine And.intro (by omega) ?_) | simp (config := { maxSteps := 1000000 }) (disch := (first | omega | (simp only [go_sem]; try omega))) only [go_sem, Nat.reduceAdd, Nat.reduceEqDiff, Nat.reduceLeDiff, Nat.reduceMul, Nat.reduceLT, reduceIte, Int.reduceToNat, w64_id, cast_succ])
    refine SW.ret ?_; (try simp only [go_sem]); (first | refine FunPost.one ?_ | refine FunPost.two ?_ | refine FunPost.three ?_); (try simp (config := { maxSteps := 1000000 }) (disch := (first | omega | (simp only [go_sem]; try omega))) only [go_sem, Nat.reduceAdd, Nat.reduceEqDiff, Nat.reduceLeDiff, Nat.reduceMul, Nat.reduceLT, reduceIte, Int.reduceToNat, w64_id, cast_succ]); (first | (with_reducible refine GR.drop ?_ ?_; (simp only [go_sem, and_self, and_true, true_and, implies_true, List.take_succ_cons, List.take_zero])) | refine GR.of ?_); refine ⟨?_, rfl⟩; (try with_reducible rfl)
  | true =>
    rw [hv] at hva
    simp only [arrayOk, Bool.and_eq_true, decide_eq_true_eq] at hv
    obtain ⟨⟨hs, hlen⟩, hrows⟩ := hv
    have hs2 := shapeOk_iff.1 hs
    obtain ⟨l, rfl⟩ := Int.eq_ofNat_of_zero_le (show 0 ≤ l by omega)
    obtain ⟨c, rfl⟩ := Int.eq_ofNat_of_zero_le (show 0 ≤ c by omega)
    have hrl := List.all_eq_true.1 hrows
    intro H; refine ACalls.introB s_impl_UncoveredPairs (by simp) ?_; intro hB hA; unfold c_impl_UncoveredPairs; simp (config := { maxSteps := 1000000 }) (disch := (first | omega | (simp only [go_sem]; try omega))) only [go_sem, Nat.reduceAdd, Nat.reduceEqDiff, Nat.reduceLeDiff, Nat.reduceMul, Nat.reduceLT, reduceIte, Int.reduceToNat, w64_id, cast_succ]
    repeat (first | (with_reducible first | refine SW.seq ?_ | refine SW.block ?_ | refine SW.rowC ?_ | refine SW.skip ?_ | refine SW.exit ?_ | refine PFn.use (hva) ?_ | refine PFn.useq (hva) ?_ | intro _ | refine And.intro (by omega) ?_) | simp (config := { maxSteps := 1000000 }) (disch := (first | omega | (simp only [go_sem]; try omega))) only [go_sem, Nat.reduceAdd, Nat.reduceEqDiff, Nat.reduceLeDiff, Nat.reduceMul, Nat.reduceLT, reduceIte, Int.reduceToNat, w64_id, cast_succ])
    refine SW.condF rfl ?_
    repeat (first | (with_reducible first | refine SW.seq ?_ | refine SW.block ?_ | refine SW.rowC ?_ | refine SW.skip ?_ | refine SW.exit ?_ | intro _ | refine And.intro (by omega) ?_) | simp (config := { maxSteps := 1000000 }) (disch := (first | omega | (simp only [go_sem]; try omega))) only [go_sem, Nat.reduceAdd, Nat.reduceEqDiff, Nat.reduceLeDiff, Nat.reduceMul, Nat.reduceLT, reduceIte, Int.reduceToNat, w64_id, cast_succ])
    refine (newCover_ok _ l c (by omega) (by omega)).mono ?_
    rintro r H1 ⟨rfl, rfl⟩
    repeat (first | (with_reducible first | refine SW.seq ?_ | refine SW.block ?_ | refine SW.rowC ?_ | refine SW.skip ?_ | refine SW.exit ?_ | intro _ | refine And.intro (by omega) ?_) | simp (config := { maxSteps := 1000000 }) (disch := (first | omega | (simp only [go_sem]; try omega))) only [go_sem, Nat.reduceAdd, Nat.reduceEqDiff, Nat.reduceLeDiff, Nat.reduceMul, Nat.reduceLT, reduceIte, Int.reduceToNat, w64_id, cast_succ])
    refine SW.loopE (fun E0 H0 q E' H' => ∃ (pre post : List (List Int)), rows = pre ++ post ∧ q = post.length ∧ E' = aput E0 17 (I pre.length) ∧ H' = H ++ [⟨0, tyArr, 1, [I l, I c, ilSS rows]⟩, bB (c * c * l * l) (pre.flatMap (codes l c)) 0, ⟨0, tyK, 1, [I l, I c, .nm (H.length + 1) 0 0 (c * c * l * l)]⟩]) rows.length ⟨[], rows, rfl, rfl, rfl, by simp [bB]⟩ ?_
    rintro q E' H' ⟨pre, post, hp, rfl, rfl, rfl⟩
    simp (config := { maxSteps := 1000000 }) (disch := (first | omega | (simp only [go_sem]; try omega))) only [go_sem, Nat.reduceAdd, Nat.reduceEqDiff, Nat.reduceLeDiff, Nat.reduceMul, Nat.reduceLT, reduceIte, Int.reduceToNat, w64_id, cast_succ]
    repeat (first | (with_reducible first | refine SW.seq ?_ | refine SW.block ?_ | refine SW.rowC ?_ | refine SW.skip ?_ | refine SW.exit ?_ | intro _ | refine And.intro (by omega) ?_) | simp (config := { maxSteps := 1000000 }) (disch := (first | omega | (simp only [go_sem]; try omega))) only [go_sem, Nat.reduceAdd, Nat.reduceEqDiff, Nat.reduceLeDiff, Nat.reduceMul, Nat.reduceLT, reduceIte, Int.reduceToNat, w64_id, cast_succ])
    (first | refine SW.condD rfl (fun h => ?_) (fun h => ?_) | refine SW.condN rfl (fun h => ?_) (fun h => ?_) | refine SW.condNB rfl (fun h => ?_) (fun h => ?_) | refine SW.condB rfl (fun h => ?_) (fun h => ?_))
    · cases post with
      | nil => exfalso; simp at hp; subst hp; omega
      | cons row post =>
        have hg : rows.getD pre.length [] = row := by subst hp; simp
        have hro := hrl row (by subst hp; simp)
        have hro2 := hro
        simp only [rowOk, Bool.and_eq_true, decide_eq_true_eq, List.all_eq_true] at hro2
        repeat (first | (with_reducible first | refine SW.seq ?_ | refine SW.block ?_ | refine SW.rowC ?_ | refine SW.skip ?_ | refine SW.exit ?_ | intro _ | refine And.intro (by omega) ?_) | simp (config := { maxSteps := 1000000 }) (disch := (first | omega | (simp only [go_sem]; try omega))) only [go_sem, Nat.reduceAdd, Nat.reduceEqDiff, Nat.reduceLeDiff, Nat.reduceMul, Nat.reduceLT, reduceIte, Int.reduceToNat, w64_id, cast_succ, hg])
        refine (add_ok _ (H.length + 2) (H.length + 1) l c (pre.flatMap (codes l c)) row (by omega) (by omega) hro2.1 (fun x hx => by have := hro2.2 x hx; omega) (by omega) (by simp) (by simp)).mono ?_
        rintro r H1 rfl
        repeat (first | (with_reducible first | refine SW.seq ?_ | refine SW.block ?_ | refine SW.rowC ?_ | refine SW.skip ?_ | refine SW.exit ?_ | intro _ | refine And.intro (by omega) ?_) | simp (config := { maxSteps := 1000000 }) (disch := (first | omega | (simp only [go_sem]; try omega))) only [go_sem, Nat.reduceAdd, Nat.reduceEqDiff, Nat.reduceLeDiff, Nat.reduceMul, Nat.reduceLT, reduceIte, Int.reduceToNat, w64_id, cast_succ])
        refine SLoop.next post.length (by simp) ⟨pre ++ [row], post, by simp [hp], rfl, ?_, ?_⟩
        · simp [go_sem]
        · simp
    · have : post = [] := by cases post with
        | nil => rfl
        | cons x post => exfalso; subst hp; simp at h; omega
      subst this
      rw [List.append_nil] at hp
      subst hp
      repeat (first | (with_reducible first | refine SW.seq ?_ | refine SW.block ?_ | refine SW.rowC ?_ | refine SW.skip ?_ | refine SW.exit ?_ | intro _ | refine And.intro (by omega) ?_) | simp (config := { maxSteps := 1000000 }) (disch := (first | omega | (simp only [go_sem]; try omega))) only [go_sem, Nat.reduceAdd, Nat.reduceEqDiff, Nat.reduceLeDiff, Nat.reduceMul, Nat.reduceLT, reduceIte, Int.reduceToNat, w64_id, cast_succ])
      refine (open_ok _ (H.length + 2) (H.length + 1) l c (rows.flatMap (codes l c)) (by omega) (by omega) (by simp) (by simp)).mono ?_
      rintro r H1 ⟨ver, k, ext, rfl, rfl, hk, hc⟩
      have e : opAll l c (inP l c (rows.flatMap (codes l c))) = opAll l c (covR rows) := opAll_congr fun x y v w h1 h2 h3 h4 => inP_cov hrows h1 h2 h3 h4
      rw [e] at hc ⊢
      generalize opAll l c (covR rows) = L at *
      repeat (first | (with_reducible first | refine SW.seq ?_ | refine SW.block ?_ | refine SW.rowC ?_ | refine SW.skip ?_ | refine SW.exit ?_ | intro _ | refine And.intro (by omega) ?_) | simp (config := { maxSteps := 1000000 }) (disch := (first | omega | (simp only [go_sem]; try omega))) only [go_sem, Nat.reduceAdd, Nat.reduceEqDiff, Nat.reduceLeDiff, Nat.reduceMul, Nat.reduceLT, reduceIte, Int.reduceToNat, w64_id, cast_succ])
      have hvw : aview (H ++ [⟨0, tyArr, 1, [I l, I c, ilSS rows]⟩, bB (c * c * l * l) (rows.flatMap (codes l c)) 0, ⟨0, tyK, 1, [I l, I c, .nm (H.length + 1) 0 0 (c * c * l * l)]⟩] ++ ext) (.nm k ver 0 L.length) = some (L.length, (L.flatten.map I).take (L.length * 4)) := by
        simp only [aview, hc]; rfl
      simp only [List.append_assoc, List.cons_append, List.nil_append] at hvw
      refine (size4_ok _ _ _ _ hvw).mono ?_
      rintro r H1 ⟨rfl, rfl⟩
      repeat (first | (with_reducible first | refine SW.seq ?_ | refine SW.block ?_ | refine SW.rowC ?_ | refine SW.skip ?_ | refine SW.exit ?_ | intro _ | refine And.intro (by omega) ?_) | simp (config := { maxSteps := 1000000 }) (disch := (first | omega | (simp only [go_sem]; try omega))) only [go_sem, Nat.reduceAdd, Nat.reduceEqDiff, Nat.reduceLeDiff, Nat.reduceMul, Nat.reduceLT, reduceIte, Int.reduceToNat, w64_id, cast_succ])
      refine SW.ret ?_; (try simp only [go_sem]); (first | refine FunPost.one ?_ | refine FunPost.two ?_ | refine FunPost.three ?_); (try simp (config := { maxSteps := 1000000 }) (disch := (first | omega | (simp only [go_sem]; try omega))) only [go_sem, Nat.reduceAdd, Nat.reduceEqDiff, Nat.reduceLeDiff, Nat.reduceMul, Nat.reduceLT, reduceIte, Int.reduceToNat, w64_id, cast_succ]); (first | (with_reducible refine GR.drop ?_ ?_; (simp only [go_sem, and_self, and_true, true_and, implies_true, List.take_succ_cons, List.take_zero])) | refine GR.of ?_); refine ⟨?_, rfl⟩; (try with_reducible rfl)
end Go.Proofs.Ythogadbnddmkdaa
