/- Drawn groups. -/
import Derived.Test.YthogadbnddmkdaaGreatProg
import Derived.KernelRfl
import Derived.Test.YthogadbnddmkdaaGreatzTA
import Derived.Test.YthogadbnddmkdaaGreatzSE
import Derived.Test.YthogadbnddmkdaaGreatzVB
set_option linter.unusedSimpArgs false
set_option linter.unusedVariables false
set_option maxHeartbeats 4000000
set_option maxRecDepth 100000
namespace Go.Proofs.YthogadbnddmkdaaGreat
open Go.Av
abbrev f_spec_l05Draw : Nat := 108
def c_spec_l05Draw : SC :=
 .seq (.reg [
     ⟨(some 2), .alloc 44 [(.int .i64 0), (.slice none 0 0)], none⟩] [0, 2])
 (.seq (.reg [
     ⟨(some 8), .mv (.tmp 0), none⟩,
     ⟨(some 9), .call 139 [(.tmp 8)], none⟩,
     ⟨(some 7), .mv (.tmp 9), none⟩,
     ⟨(some 10), .ext (.tmp 7) 0, none⟩,
     ⟨(some 11), .ext (.tmp 7) 1, none⟩,
     ⟨(some 3), .mv (.tmp 10), none⟩,
     ⟨(some 4), .mv (.tmp 11), none⟩] [2, 3, 4])
 (.seq (.reg [
     ⟨(some 13), .mv (.tmp 3), none⟩,
     ⟨(some 14), .mv (.tmp 4), none⟩,
     ⟨(some 15), .call 140 [(.tmp 13), (.tmp 14), (.const (.int .i64 720))], none⟩,
     ⟨(some 12), .mv (.tmp 15), none⟩,
     ⟨(some 16), .ext (.tmp 12) 0, none⟩,
     ⟨(some 17), .ext (.tmp 12) 1, none⟩,
     ⟨(some 5), .mv (.tmp 16), none⟩,
     ⟨(some 6), .mv (.tmp 17), none⟩] [2, 3, 5, 6])
 (.seq (.seq (.reg [
     ⟨(some 18), .mv (.tmp 6), none⟩,
     ⟨(some 19), .un .not (.tmp 18), none⟩] [2, 3, 5, 19])
 (.cond (.tmp 19)
  (.reg [
      ⟨(some 20), .mv (.tmp 3), none⟩,
      ⟨(some 21), .call 134 [(.tmp 20)], none⟩,
      ⟨(some 22), .bslice 50 1 1 [(.slice none 0 0)] [(0, (.tmp 21))], none⟩,
      ⟨(some 5), .mv (.tmp 22), none⟩] [2, 3, 5])
  (.skip)))
 (.seq (.reg [
     ⟨(some 23), .mv (.tmp 3), none⟩,
     ⟨(some 24), .mv (.tmp 5), none⟩,
     ⟨(some 25), .call 141 [(.tmp 24)], none⟩,
     ⟨(some 26), .build [(.int .i64 0), (.slice none 0 0)] [(0, 1, (.tmp 23)), (1, 1, (.tmp 25))], none⟩,
     ⟨none, .store 2 (.tmp 2) (.tmp 26), none⟩] [2])
 (.ret)))))
theorem s_spec_l05Draw : stripF Tryz.prog 108 [[0, 2], [2, 3, 4], [2, 3, 5, 6], [2, 3, 5, 19], [2, 3, 5], [2]] = some (c_spec_l05Draw, [.cell 2 2], 27) := by kernel_rfl
abbrev f_spec_l05Some : Nat := 139
def c_spec_l05Some : SC :=
 .seq (.reg [
     ⟨(some 2), .mv (.const (.int .i64 0)), none⟩,
     ⟨(some 3), .mv (.const (.slice none 0 0)), none⟩] [0])
 (.seq (.reg [
     ⟨(some 7), .mv (.tmp 0), none⟩,
     ⟨(some 8), .call 73 [(.tmp 7), (.const (.int .i64 8))], none⟩,
     ⟨(some 9), .bin .add (.const (.int .i64 1)) (.tmp 8), none⟩,
     ⟨(some 4), .mv (.tmp 9), none⟩] [0, 4])
 (.seq (.seq (.reg [
     ⟨(some 10), .mv (.tmp 0), none⟩,
     ⟨(some 11), .call 73 [(.tmp 10), (.const (.int .i64 4))], none⟩] [0, 4, 11])
 (.block 0 (.seq (.reg [
      ⟨(some 13), .bin .eql (.tmp 11) (.const (.int .i64 0)), none⟩,
      ⟨(some 12), .mv (.tmp 13), none⟩] [0, 4, 11, 12])
  (.cond (.tmp 12)
   (.seq (.reg [
       ⟨(some 14), .mv (.tmp 4), none⟩,
       ⟨(some 15), .mv (.tmp 4), none⟩,
       ⟨(some 16), .call 171 [(.tmp 15), (.const (.int .i64 1)), (.const (.int .i64 1))], none⟩,
       ⟨(some 17), .bslice 50 1 1 [(.slice none 0 0)] [(0, (.tmp 16))], none⟩,
       ⟨(some 2), .mv (.tmp 14), none⟩,
       ⟨(some 3), .mv (.tmp 17), none⟩] [2, 3])
   (.ret))
   (.seq (.reg [
       ⟨(some 19), .bin .eql (.tmp 11) (.const (.int .i64 1)), none⟩,
       ⟨(some 18), .mv (.tmp 19), none⟩] [0, 4, 11, 18])
   (.cond (.tmp 18)
    (.seq (.reg [
        ⟨(some 20), .mv (.tmp 4), none⟩,
        ⟨(some 21), .mv (.tmp 4), none⟩,
        ⟨(some 22), .call 171 [(.tmp 21), (.const (.int .i64 1)), (.const (.int .i64 1))], none⟩,
        ⟨(some 23), .mv (.tmp 4), none⟩,
        ⟨(some 24), .mv (.tmp 4), none⟩,
        ⟨(some 25), .bin .sub (.tmp 24) (.const (.int .i64 1)), none⟩,
        ⟨(some 26), .call 171 [(.tmp 23), (.tmp 25), (.const (.int .i64 0))], none⟩,
        ⟨(some 27), .bslice 50 1 2 [(.slice none 0 0), (.slice none 0 0)] [(0, (.tmp 22)), (1, (.tmp 26))], none⟩,
        ⟨(some 2), .mv (.tmp 20), none⟩,
        ⟨(some 3), .mv (.tmp 27), none⟩] [2, 3])
    (.ret))
    (.seq (.reg [
        ⟨(some 29), .bin .eql (.tmp 11) (.const (.int .i64 2)), none⟩,
        ⟨(some 28), .mv (.tmp 29), none⟩] [0, 28])
    (.cond (.tmp 28)
     (.seq (.reg [
         ⟨(some 30), .mv (.tmp 0), none⟩,
         ⟨(some 31), .bslice 2 1 4 [(.int .i64 0), (.int .i64 0), (.int .i64 0), (.int .i64 0)] [(0, (.const (.int .i64 5))), (1, (.const (.int .i64 7))), (2, (.const (.int .i64 11))), (3, (.const (.int .i64 13)))], none⟩,
         ⟨(some 32), .call 76 [(.tmp 30), (.tmp 31)], none⟩,
         ⟨(some 4), .mv (.tmp 32), none⟩] [0, 4])
     (.seq (.reg [
         ⟨(some 33), .mv (.tmp 4), none⟩,
         ⟨(some 34), .mv (.tmp 4), none⟩,
         ⟨(some 35), .call 171 [(.tmp 34), (.const (.int .i64 1)), (.const (.int .i64 1))], none⟩,
         ⟨(some 36), .mv (.tmp 4), none⟩,
         ⟨(some 37), .mv (.tmp 0), none⟩,
         ⟨(some 38), .bslice 2 1 3 [(.int .i64 0), (.int .i64 0), (.int .i64 0)] [(0, (.const (.int .i64 2))), (1, (.const (.int .i64 3))), (2, (.const (.int .i64 4)))], none⟩,
         ⟨(some 39), .call 76 [(.tmp 37), (.tmp 38)], none⟩,
         ⟨(some 40), .call 171 [(.tmp 36), (.tmp 39), (.const (.int .i64 0))], none⟩,
         ⟨(some 41), .bslice 50 1 2 [(.slice none 0 0), (.slice none 0 0)] [(0, (.tmp 35)), (1, (.tmp 40))], none⟩,
         ⟨(some 2), .mv (.tmp 33), none⟩,
         ⟨(some 3), .mv (.tmp 41), none⟩] [2, 3])
     (.ret)))
     (.skip)))))))))
 (.seq (.reg [
     ⟨(some 42), .mv (.tmp 0), none⟩,
     ⟨(some 43), .call 73 [(.tmp 42), (.const (.int .i64 5))], none⟩,
     ⟨(some 44), .bin .add (.const (.int .i64 1)) (.tmp 43), none⟩,
     ⟨(some 4), .mv (.tmp 44), none⟩] [0, 4])
 (.seq (.reg [
     ⟨(some 45), .bslice 50 1 0 [] [], none⟩,
     ⟨(some 5), .mv (.tmp 45), none⟩] [0, 4, 5])
 (.seq (.seq (.reg [
     ⟨(some 46), .mv (.tmp 0), none⟩,
     ⟨(some 47), .call 73 [(.tmp 46), (.const (.int .i64 3))], none⟩,
     ⟨(some 6), .mv (.tmp 47), none⟩] [0, 4, 5, 6])
 (.block 1 (.loop [0, 4, 5, 6]
   (.seq (.seq (.reg [
       ⟨(some 48), .mv (.tmp 6), none⟩,
       ⟨(some 49), .bin .gtr (.tmp 48) (.const (.int .i64 0)), none⟩] [0, 4, 5, 6, 49])
   (.cond (.tmp 49)
    (.skip)
    (.exit 1)))
   (.seq (.block 2 (.reg [
        ⟨(some 52), .mv (.tmp 5), none⟩,
        ⟨(some 53), .mv (.tmp 0), none⟩,
        ⟨(some 54), .mv (.tmp 4), none⟩,
        ⟨(some 55), .call 172 [(.tmp 53), (.tmp 54)], none⟩,
        ⟨(some 56), .bslice 50 1 1 [(.slice none 0 0)] [(0, (.tmp 55))], none⟩,
        ⟨(some 57), .app 50 1 24 (.tmp 52) (.tmp 56), none⟩,
        ⟨(some 5), .mv (.tmp 57), none⟩] [0, 4, 5, 6]))
   (.reg [
       ⟨(some 50), .mv (.tmp 6), none⟩,
       ⟨(some 51), .bin .sub (.tmp 50) (.const (.int .i64 1)), none⟩,
       ⟨(some 6), .mv (.tmp 51), none⟩] [0, 4, 5, 6]))))))
 (.seq (.reg [
     ⟨(some 58), .mv (.tmp 4), none⟩,
     ⟨(some 59), .mv (.tmp 5), none⟩,
     ⟨(some 2), .mv (.tmp 58), none⟩,
     ⟨(some 3), .mv (.tmp 59), none⟩] [2, 3])
 (.ret)))))))
theorem s_spec_l05Some : stripF Tryz.prog 139 [[0], [0, 4], [0, 4, 11], [0, 4, 11, 12], [2, 3], [0, 4, 11, 18], [2, 3], [0, 28], [0, 4], [2, 3], [0, 4], [0, 4, 5], [0, 4, 5, 6], [0, 4, 5, 6], [0, 4, 5, 6, 49], [0, 4, 5, 6], [0, 4, 5, 6], [2, 3]] = some (c_spec_l05Some, [.tmp 2, .tmp 3], 60) := by kernel_rfl
def someR (H : List Blk) (p : Nat) (code : AV) (t : Nat) (r : AV) (H' : List Blk) : Prop :=
  ∃ (n : Nat) (gs : List (List Int)) (u' : Int) (t' : Nat), r = .tup [I n, ilSS gs] ∧ 1 ≤ n ∧ n ≤ 13 ∧ (∀ g ∈ gs, permOk n g) ∧ gs.length ≤ 2 ∧ t' ≤ t + 100 ∧ H' = H.set p (srcB code t' u')
theorem HB_set {H : List Blk} (hB : HB H) {p : Nat} {code : AV} (hcb : ∀ k, Bel k code) (t : Nat) (u : Int) : HB (H.set p (srcB code t u)) := fun b hb c hcc => by
  rw [List.length_set]
  rcases List.mem_or_eq_of_mem_set hb with hb | rfl
  · exact hB b hb c hcc
  · unfold srcB at hcc
    simp only [List.mem_cons, List.not_mem_nil, or_false] at hcc
    rcases hcc with rfl | rfl | rfl
    · exact hcb _
    · exact .lit _
    · exact .lit _
theorem l05Some_ok (H : List Blk) (p : Nat) (code : AV) (ns : List Int) (t : Nat) (u : Int) (hp : H[p]? = some (srcB code t u)) (hc : CodeOk code ns) (hcb : ∀ k, Bel k code) (ht : t ≤ 700000000) :
    ACalls Tryz.prog f_spec_l05Some [.pc p 0 0] H (someR H p code t) := by
  have hlt := (List.getElem?_eq_some_iff.1 hp).1
  have hgp : ∀ t u, (H.set p (srcB code t u))[p]? = some (srcB code t u) := fun t u => List.getElem?_set_self hlt
  have hset : ∀ t u t' u' (ext : List Blk), (H.set p (srcB code t u) ++ ext).set p (srcB code t' u') = H.set p (srcB code t' u') ++ ext := fun t u t' u' ext => by
    rw [List.set_append_left _ _ (by simpa using hlt), List.set_set]
  have hpx : ∀ t u ext, (H.set p (srcB code t u) ++ ext)[p]? = some (srcB code t u) := fun t u ext => by rw [List.getElem?_append_left (by simpa using hlt)]; exact hgp t u
  refine ACalls.introB s_spec_l05Some (by simp) ?_; intro hB hA; unfold c_spec_l05Some; simp (config := { maxSteps := 1000000 }) (disch := (first | omega | (simp only [go_sem]; try omega))) only [go_sem, Nat.reduceAdd, Nat.reduceEqDiff, Nat.reduceLeDiff, Nat.reduceMul, Nat.reduceLT, reduceIte, Int.reduceToNat, w64_id, cast_succ]
  have hBG := fun t u => HB_set hB (p := p) hcb t u
  repeat (first | (with_reducible first | refine SW.seq ?_ | refine SW.block ?_ | refine SW.rowC ?_ | refine SW.skip ?_ | refine SW.exit ?_ | intro _ | refine And.intro (by omega) ?_) | simp (config := { maxSteps := 1000000 }) (disch := (first | omega | (simp only [go_sem]; try omega))) only [go_sem, Nat.reduceAdd, Nat.reduceEqDiff, Nat.reduceLeDiff, Nat.reduceMul, Nat.reduceLT, reduceIte, Int.reduceToNat, w64_id, cast_succ])
  refine (pick_ok H p code ns t u 8 hp hc (by omega)).mono ?_
  rintro r H1 ⟨x1, u1, t1, rfl, a1, b1, ht1, rfl⟩
  obtain ⟨x1, rfl⟩ := Int.eq_ofNat_of_zero_le a1
  repeat (first | (with_reducible first | refine SW.seq ?_ | refine SW.block ?_ | refine SW.rowC ?_ | refine SW.skip ?_ | refine SW.exit ?_ | intro _ | refine And.intro (by omega) ?_) | simp (config := { maxSteps := 1000000 }) (disch := (first | omega | (simp only [go_sem]; try omega))) only [go_sem, Nat.reduceAdd, Nat.reduceEqDiff, Nat.reduceLeDiff, Nat.reduceMul, Nat.reduceLT, reduceIte, Int.reduceToNat, w64_id, cast_succ])
  refine (pick_ok _ p code ns t1 u1 4 (hgp _ _) hc (by omega)).mono ?_
  rintro r H1 ⟨x2, u2, t2, rfl, a2, b2, ht2, rfl⟩
  rw [List.set_set]
  have e1 : (1 + (x1 : Int)) = ((x1 + 1 : Nat) : Int) := by omega
  have k1 := turn_ok1 (x1 + 1) (by omega) (by omega)
  have c1 := l05Turn_fn (x1 + 1) 1 1 (by omega) (by omega) (by omega) (by omega)
  have c2 := l05Turn_fn (x1 + 1) x1 0 (by omega) (by omega) (by omega) (by omega)
  repeat (first | (with_reducible first | refine SW.seq ?_ | refine SW.block ?_ | refine SW.rowC ?_ | refine SW.skip ?_ | refine SW.exit ?_ | intro _ | refine And.intro (by omega) ?_) | simp (config := { maxSteps := 1000000 }) (disch := (first | omega | (simp only [go_sem]; try omega))) only [go_sem, Nat.reduceAdd, Nat.reduceEqDiff, Nat.reduceLeDiff, Nat.reduceMul, Nat.reduceLT, reduceIte, Int.reduceToNat, w64_id, cast_succ])
  rw [e1]
  generalize hn : x1 + 1 = n at *
  have done : ∀ (n : Nat) (gs : List (List Int)) (u' : Int) (t' ver i ty : Nat) (ext : List Blk), 1 ≤ n → n ≤ 13 → (∀ g ∈ gs, permOk n g) → gs.length ≤ 2 → t' ≤ t + 100 → H.length ≤ i → (H.set p (srcB code t' u') ++ ext)[i]? = some ⟨ver, ty, 1, gs.map ilS⟩ → GR H (someR H p code t) (.tup [I n, .nm i ver 0 gs.length]) (H.set p (srcB code t' u') ++ ext) :=
    fun n gs u' t' ver i ty ext g1 g2 g3 g4 g5 g6 g7 => GR.frozH (H0 := H) (H1 := H.set p (srcB code t' u')) (r' := .tup [I n, ilSS gs]) (by simp) (hBG _ _) (froz_tup2 (froz_I' _) (froz_rowS g6 g7)) ⟨n, gs, u', t', rfl, g1, g2, g3, g4, g5, rfl⟩
  (first | refine SW.condD rfl (fun h => ?_) (fun h => ?_) | refine SW.condN rfl (fun h => ?_) (fun h => ?_) | refine SW.condNB rfl (fun h => ?_) (fun h => ?_) | refine SW.condB rfl (fun h => ?_) (fun h => ?_))
  · repeat (first | (with_reducible first | refine SW.seq ?_ | refine SW.block ?_ | refine SW.rowC ?_ | refine SW.skip ?_ | refine SW.exit ?_ | refine PFn.use (c1) ?_ | refine PFn.useq (c1) ?_ | intro _ | refine And.intro (by omega) ?_) | simp (config := { maxSteps := 1000000 }) (disch := (first | omega | (simp only [go_sem]; try omega))) only [go_sem, Nat.reduceAdd, Nat.reduceEqDiff, Nat.reduceLeDiff, Nat.reduceMul, Nat.reduceLT, reduceIte, Int.reduceToNat, w64_id, cast_succ])
    refine SW.ret ?_; (try simp only [go_sem]); (first | refine FunPost.one ?_ | refine FunPost.two ?_ | refine FunPost.three ?_); (try simp (config := { maxSteps := 1000000 }) (disch := (first | omega | (simp only [go_sem]; try omega))) only [go_sem, Nat.reduceAdd, Nat.reduceEqDiff, Nat.reduceLeDiff, Nat.reduceMul, Nat.reduceLT, reduceIte, Int.reduceToNat, w64_id, cast_succ])
    exact done n [turnL n 1 1] u2 t2 0 H.length _ _ (by omega) (by omega) (fun g hg => by rw [List.mem_singleton.1 hg]; exact k1.1) (by simp) (by omega) (Nat.le_refl _) (by rw [List.getElem?_append_right (by simp)]; simp; rfl)
  · repeat (first | (with_reducible first | refine SW.seq ?_ | refine SW.block ?_ | refine SW.rowC ?_ | refine SW.skip ?_ | refine SW.exit ?_ | intro _ | refine And.intro (by omega) ?_) | simp (config := { maxSteps := 1000000 }) (disch := (first | omega | (simp only [go_sem]; try omega))) only [go_sem, Nat.reduceAdd, Nat.reduceEqDiff, Nat.reduceLeDiff, Nat.reduceMul, Nat.reduceLT, reduceIte, Int.reduceToNat, w64_id, cast_succ])
    (first | refine SW.condD rfl (fun h => ?_) (fun h => ?_) | refine SW.condN rfl (fun h => ?_) (fun h => ?_) | refine SW.condNB rfl (fun h => ?_) (fun h => ?_) | refine SW.condB rfl (fun h => ?_) (fun h => ?_))
    · repeat (first | (with_reducible first | refine SW.seq ?_ | refine SW.block ?_ | refine SW.rowC ?_ | refine SW.skip ?_ | refine SW.exit ?_ | refine PFn.use (c1) ?_ | refine PFn.useq (c1) ?_ | intro _ | refine And.intro (by omega) ?_) | simp (config := { maxSteps := 1000000 }) (disch := (first | omega | (simp only [go_sem]; try omega))) only [go_sem, Nat.reduceAdd, Nat.reduceEqDiff, Nat.reduceLeDiff, Nat.reduceMul, Nat.reduceLT, reduceIte, Int.reduceToNat, w64_id, cast_succ])
      have c3 : PFn Tryz.prog f_spec_l05Turn [I n, I ((n : Int) - 1), I 0] (ilS (turnL n (n - 1) 0)) := by
        have := l05Turn_fn n (n - 1) 0 (by omega) (by omega) (by omega) (by omega)
        rwa [show ((n - 1 : Nat) : Int) = (n : Int) - 1 by omega] at this
      repeat (first | (with_reducible first | refine SW.seq ?_ | refine SW.block ?_ | refine SW.rowC ?_ | refine SW.skip ?_ | refine SW.exit ?_ | refine PFn.use (c3) ?_ | refine PFn.useq (c3) ?_ | intro _ | refine And.intro (by omega) ?_) | simp (config := { maxSteps := 1000000 }) (disch := (first | omega | (simp only [go_sem]; try omega))) only [go_sem, Nat.reduceAdd, Nat.reduceEqDiff, Nat.reduceLeDiff, Nat.reduceMul, Nat.reduceLT, reduceIte, Int.reduceToNat, w64_id, cast_succ])
      refine SW.ret ?_; (try simp only [go_sem]); (first | refine FunPost.one ?_ | refine FunPost.two ?_ | refine FunPost.three ?_); (try simp (config := { maxSteps := 1000000 }) (disch := (first | omega | (simp only [go_sem]; try omega))) only [go_sem, Nat.reduceAdd, Nat.reduceEqDiff, Nat.reduceLeDiff, Nat.reduceMul, Nat.reduceLT, reduceIte, Int.reduceToNat, w64_id, cast_succ])
      exact done n [turnL n 1 1, turnL n (n - 1) 0] u2 t2 0 H.length _ _ (by omega) (by omega) (fun g hg => by
        rcases List.mem_cons.1 hg with rfl | hg
        · exact k1.1
        · rw [List.mem_singleton.1 hg]; exact k1.2) (by simp) (by omega) (Nat.le_refl _) (by rw [List.getElem?_append_right (by simp)]; simp; rfl)
    · repeat (first | (with_reducible first | refine SW.seq ?_ | refine SW.block ?_ | refine SW.rowC ?_ | refine SW.skip ?_ | refine SW.exit ?_ | intro _ | refine And.intro (by omega) ?_) | simp (config := { maxSteps := 1000000 }) (disch := (first | omega | (simp only [go_sem]; try omega))) only [go_sem, Nat.reduceAdd, Nat.reduceEqDiff, Nat.reduceLeDiff, Nat.reduceMul, Nat.reduceLT, reduceIte, Int.reduceToNat, w64_id, cast_succ])
      (first | refine SW.condD rfl (fun h => ?_) (fun h => ?_) | refine SW.condN rfl (fun h => ?_) (fun h => ?_) | refine SW.condNB rfl (fun h => ?_) (fun h => ?_) | refine SW.condB rfl (fun h => ?_) (fun h => ?_))
      · repeat (first | (with_reducible first | refine SW.seq ?_ | refine SW.block ?_ | refine SW.rowC ?_ | refine SW.skip ?_ | refine SW.exit ?_ | intro _ | refine And.intro (by omega) ?_) | simp (config := { maxSteps := 1000000 }) (disch := (first | omega | (simp only [go_sem]; try omega))) only [go_sem, Nat.reduceAdd, Nat.reduceEqDiff, Nat.reduceLeDiff, Nat.reduceMul, Nat.reduceLT, reduceIte, Int.reduceToNat, w64_id, cast_succ])
        refine (among_new H p code ns t2 u2 [5, 7, 11, 13] hlt hc (by omega) (by simp) []).mono ?_
        rintro r H1 ⟨x6, u6, t6, rfl, hx6, ht6, rfl⟩
        obtain ⟨q, rfl⟩ : ∃ q : Nat, x6 = q := ⟨x6.toNat, by simp at hx6; omega⟩
        have hq : q ∈ [5, 7, 11, 13] := by simp at hx6 ⊢; omega
        have hq13 : 1 ≤ q ∧ q ≤ 13 := by simp at hq; omega
        have c4 := l05Turn_fn q 1 1 (by omega) (by omega) (by omega) (by omega)
        repeat (first | (with_reducible first | refine SW.seq ?_ | refine SW.block ?_ | refine SW.rowC ?_ | refine SW.skip ?_ | refine SW.exit ?_ | refine PFn.use (c4) ?_ | refine PFn.useq (c4) ?_ | intro _ | refine And.intro (by omega) ?_) | simp (config := { maxSteps := 1000000 }) (disch := (first | omega | (simp only [go_sem]; try omega))) only [go_sem, Nat.reduceAdd, Nat.reduceEqDiff, Nat.reduceLeDiff, Nat.reduceMul, Nat.reduceLT, reduceIte, Int.reduceToNat, w64_id, cast_succ])
        refine (among_new H p code ns t6 u6 [2, 3, 4] hlt hc (by omega) (by simp) [⟨0, 2, 1, [I 5, I 7, I 11, I 13]⟩]).mono ?_
        rintro r H1 ⟨x7, u7, t7, rfl, hx7, ht7, rfl⟩
        obtain ⟨z, rfl⟩ : ∃ z : Nat, x7 = z := ⟨x7.toNat, by simp at hx7; omega⟩
        have hz : z ∈ [2, 3, 4] := by simp at hx7 ⊢; omega
        have hz4 : z ≤ 4 := by simp at hz; omega
        have k2 := turn_ok2 q hq z hz
        have c5 := l05Turn_fn q z 0 (by omega) (by omega) (by omega) (by omega)
        repeat (first | (with_reducible first | refine SW.seq ?_ | refine SW.block ?_ | refine SW.rowC ?_ | refine SW.skip ?_ | refine SW.exit ?_ | refine PFn.use (c5) ?_ | refine PFn.useq (c5) ?_ | intro _ | refine And.intro (by omega) ?_) | simp (config := { maxSteps := 1000000 }) (disch := (first | omega | (simp only [go_sem]; try omega))) only [go_sem, Nat.reduceAdd, Nat.reduceEqDiff, Nat.reduceLeDiff, Nat.reduceMul, Nat.reduceLT, reduceIte, Int.reduceToNat, w64_id, cast_succ])
        refine SW.ret ?_; (try simp only [go_sem]); (first | refine FunPost.one ?_ | refine FunPost.two ?_ | refine FunPost.three ?_); (try simp (config := { maxSteps := 1000000 }) (disch := (first | omega | (simp only [go_sem]; try omega))) only [go_sem, Nat.reduceAdd, Nat.reduceEqDiff, Nat.reduceLeDiff, Nat.reduceMul, Nat.reduceLT, reduceIte, Int.reduceToNat, w64_id, cast_succ])
        exact done q [turnL q 1 1, turnL q z 0] u7 t7 0 (H.length + 2) _ _ (by omega) (by omega) (fun g hg => by
          rcases List.mem_cons.1 hg with rfl | hg
          · exact k2.1
          · rw [List.mem_singleton.1 hg]; exact k2.2) (by simp) (by omega) (by omega) (by rw [List.getElem?_append_right (by simp)]; simp; rfl)
      · repeat (first | (with_reducible first | refine SW.seq ?_ | refine SW.block ?_ | refine SW.rowC ?_ | refine SW.skip ?_ | refine SW.exit ?_ | intro _ | refine And.intro (by omega) ?_) | simp (config := { maxSteps := 1000000 }) (disch := (first | omega | (simp only [go_sem]; try omega))) only [go_sem, Nat.reduceAdd, Nat.reduceEqDiff, Nat.reduceLeDiff, Nat.reduceMul, Nat.reduceLT, reduceIte, Int.reduceToNat, w64_id, cast_succ])
        refine (pick_ok _ p code ns t2 u2 5 (hgp _ _) hc (by omega)).mono ?_
        rintro r H1 ⟨x3, u3, t3, rfl, a3, b3, ht3, rfl⟩
        rw [List.set_set]
        obtain ⟨x3, rfl⟩ := Int.eq_ofNat_of_zero_le a3
        have e3 : (1 + (x3 : Int)) = ((x3 + 1 : Nat) : Int) := by omega
        repeat (first | (with_reducible first | refine SW.seq ?_ | refine SW.block ?_ | refine SW.rowC ?_ | refine SW.skip ?_ | refine SW.exit ?_ | intro _ | refine And.intro (by omega) ?_) | simp (config := { maxSteps := 1000000 }) (disch := (first | omega | (simp only [go_sem]; try omega))) only [go_sem, Nat.reduceAdd, Nat.reduceEqDiff, Nat.reduceLeDiff, Nat.reduceMul, Nat.reduceLT, reduceIte, Int.reduceToNat, w64_id, cast_succ, e3])
        refine (pick_ok _ p code ns t3 u3 3 (hpx _ _ _) hc (by omega)).mono ?_
        rintro r H1 ⟨x4, u4, t4, rfl, a4, b4, ht4, rfl⟩
        rw [hset]
        obtain ⟨x4, rfl⟩ := Int.eq_ofNat_of_zero_le a4
        repeat (first | (with_reducible first | refine SW.seq ?_ | refine SW.block ?_ | refine SW.rowC ?_ | refine SW.skip ?_ | refine SW.exit ?_ | intro _ | refine And.intro (by omega) ?_) | simp (config := { maxSteps := 1000000 }) (disch := (first | omega | (simp only [go_sem]; try omega))) only [go_sem, Nat.reduceAdd, Nat.reduceEqDiff, Nat.reduceLeDiff, Nat.reduceMul, Nat.reduceLT, reduceIte, Int.reduceToNat, w64_id, cast_succ])
        generalize hm : x3 + 1 = m at *
        refine SW.loopE (fun E0 H0 q E' H' => ∃ (k ver t' : Nat) (u' : Int) (gs : List (List Int)), k ≤ 2 ∧ q = k ∧ gs.length + k ≤ 2 ∧ (∀ g ∈ gs, permOk m g) ∧ t' + 10 * k ≤ t + 40 ∧ E' = aput (aput E0 6 (I k)) 5 (.nm H.length ver 0 gs.length) ∧ H' = H.set p (srcB code t' u') ++ [⟨ver, tyLL, 1, gs.map ilS⟩]) x4 ⟨x4, 0, t4, u4, [], by omega, rfl, by simp; omega, by simp, by omega, rfl, rfl⟩ ?_
        rintro q E' H' ⟨k, ver, t', u', gs, hk2, rfl, hgl, hgo, ht', rfl, rfl⟩
        simp (config := { maxSteps := 1000000 }) (disch := (first | omega | (simp only [go_sem]; try omega))) only [go_sem, Nat.reduceAdd, Nat.reduceEqDiff, Nat.reduceLeDiff, Nat.reduceMul, Nat.reduceLT, reduceIte, Int.reduceToNat, w64_id, cast_succ]
        repeat (first | (with_reducible first | refine SW.seq ?_ | refine SW.block ?_ | refine SW.rowC ?_ | refine SW.skip ?_ | refine SW.exit ?_ | intro _ | refine And.intro (by omega) ?_) | simp (config := { maxSteps := 1000000 }) (disch := (first | omega | (simp only [go_sem]; try omega))) only [go_sem, Nat.reduceAdd, Nat.reduceEqDiff, Nat.reduceLeDiff, Nat.reduceMul, Nat.reduceLT, reduceIte, Int.reduceToNat, w64_id, cast_succ])
        (first | refine SW.condD rfl (fun h => ?_) (fun h => ?_) | refine SW.condN rfl (fun h => ?_) (fun h => ?_) | refine SW.condNB rfl (fun h => ?_) (fun h => ?_) | refine SW.condB rfl (fun h => ?_) (fun h => ?_))
        · repeat (first | (with_reducible first | refine SW.seq ?_ | refine SW.block ?_ | refine SW.rowC ?_ | refine SW.skip ?_ | refine SW.exit ?_ | intro _ | refine And.intro (by omega) ?_) | simp (config := { maxSteps := 1000000 }) (disch := (first | omega | (simp only [go_sem]; try omega))) only [go_sem, Nat.reduceAdd, Nat.reduceEqDiff, Nat.reduceLeDiff, Nat.reduceMul, Nat.reduceLT, reduceIte, Int.reduceToNat, w64_id, cast_succ])
          refine (l04DrawPerm_ok _ p code ns t' u' m (hpx _ _ _) hc hcb (by omega) (by omega) (by omega)).mono ?_
          rintro r H1 ⟨P, u5, t5, rfl, hP, ht5, rfl⟩
          rw [hset]
          have hGl : (H.set p (srcB code t5 u5)).length = H.length := List.length_set
          have hBg := hBG t5 u5
          have htg : (gs.map ilS).take gs.length = gs.map ilS := List.take_of_length_le (by simp)
          generalize hGe : H.set p (srcB code t5 u5) = G at *
          rw [← hGl]
          repeat (first | (with_reducible first | refine SW.seq ?_ | refine SW.block ?_ | refine SW.rowC ?_ | refine SW.skip ?_ | refine SW.exit ?_ | intro _ | refine And.intro (by omega) ?_) | simp (config := { maxSteps := 1000000 }) (disch := (first | omega | (simp only [go_sem]; try omega))) only [go_sem, Nat.reduceAdd, Nat.reduceEqDiff, Nat.reduceLeDiff, Nat.reduceMul, Nat.reduceLT, reduceIte, Int.reduceToNat, w64_id, cast_succ, htg])
          refine SLoop.nextT 1 (q - 1) hBg (by omega) (by omega) (by simp) ?_ ?_ ⟨q - 1, ver + 1, t5, u5, gs ++ [P], by omega, rfl, by simp; omega, fun g hg => ?_, by omega, ?_, ?_⟩
          · (simp only [go_sem, Nat.reduceAdd, Nat.reduceEqDiff, reduceIte, go_sem, and_self, and_true, true_and, implies_true, List.take_succ_cons, List.take_zero, and_true, true_and]; try omega)
          · (simp only [go_sem, Nat.reduceAdd, Nat.reduceEqDiff, reduceIte, go_sem, and_self, and_true, true_and, implies_true, List.take_succ_cons, List.take_zero, and_true, true_and]; try omega)
          · rcases List.mem_append.1 hg with hg | hg
            · exact hgo g hg
            · rw [List.mem_singleton.1 hg]; exact hP
          · rw [show ((q - 1 : Nat) : Int) = (q : Int) - 1 by omega]; simp [go_sem]
          · rw [hGe]; simp
        · repeat (first | (with_reducible first | refine SW.seq ?_ | refine SW.block ?_ | refine SW.rowC ?_ | refine SW.skip ?_ | refine SW.exit ?_ | intro _ | refine And.intro (by omega) ?_) | simp (config := { maxSteps := 1000000 }) (disch := (first | omega | (simp only [go_sem]; try omega))) only [go_sem, Nat.reduceAdd, Nat.reduceEqDiff, Nat.reduceLeDiff, Nat.reduceMul, Nat.reduceLT, reduceIte, Int.reduceToNat, w64_id, cast_succ])
          refine SW.ret ?_; (try simp only [go_sem]); (first | refine FunPost.one ?_ | refine FunPost.two ?_ | refine FunPost.three ?_); (try simp (config := { maxSteps := 1000000 }) (disch := (first | omega | (simp only [go_sem]; try omega))) only [go_sem, Nat.reduceAdd, Nat.reduceEqDiff, Nat.reduceLeDiff, Nat.reduceMul, Nat.reduceLT, reduceIte, Int.reduceToNat, w64_id, cast_succ])
          exact done m gs u' t' ver H.length _ _ (by omega) (by omega) hgo (by omega) (by omega) (Nat.le_refl _) (by rw [List.getElem?_append_right (by simp)]; simp; rfl)
def drawR (H : List Blk) (p : Nat) (code : AV) (t : Nat) (r : AV) (H' : List Blk) : Prop :=
  ∃ (n : Nat) (els : List (List Int)) (u' : Int) (t' i ver : Nat) (ext : List Blk), r = .agg [I n, .nm i ver 0 els.length] ∧ 1 ≤ n ∧ n ≤ 32 ∧ 1 ≤ els.length ∧ els.length ≤ 720 ∧ (∀ x ∈ els, x.length ≤ 64) ∧ t' ≤ t + 200 ∧ H' = H.set p (srcB code t' u') ++ ext ∧ H.length ≤ i ∧ H'[i]? = some ⟨ver, tyLL, 1, els.map ilS⟩
theorem l05Draw_ok (H : List Blk) (p : Nat) (code : AV) (ns : List Int) (t : Nat) (u : Int) (hp : H[p]? = some (srcB code t u)) (hc : CodeOk code ns) (hcb : ∀ k, Bel k code) (ht : t ≤ 700000000) :
    ACalls Tryz.prog f_spec_l05Draw [.pc p 0 0] H (drawR H p code t) := by
  have hlt := (List.getElem?_eq_some_iff.1 hp).1
  refine ACalls.introB s_spec_l05Draw (by simp) ?_; intro hB hA; unfold c_spec_l05Draw; simp (config := { maxSteps := 1000000 }) (disch := (first | omega | (simp only [go_sem]; try omega))) only [go_sem, Nat.reduceAdd, Nat.reduceEqDiff, Nat.reduceLeDiff, Nat.reduceMul, Nat.reduceLT, reduceIte, Int.reduceToNat, w64_id, cast_succ]
  have hBG := fun t u => HB_set hB (p := p) hcb t u
  have hset : ∀ t u (ext : List Blk), (H ++ ext).set p (srcB code t u) = H.set p (srcB code t u) ++ ext := fun t u ext => List.set_append_left _ _ hlt
  repeat (first | (with_reducible first | refine SW.seq ?_ | refine SW.block ?_ | refine SW.rowC ?_ | refine SW.skip ?_ | refine SW.exit ?_ | intro _ | refine And.intro (by omega) ?_) | simp (config := { maxSteps := 1000000 }) (disch := (first | omega | (simp only [go_sem]; try omega))) only [go_sem, Nat.reduceAdd, Nat.reduceEqDiff, Nat.reduceLeDiff, Nat.reduceMul, Nat.reduceLT, reduceIte, Int.reduceToNat, w64_id, cast_succ])
  refine (l05Some_ok (H ++ [(⟨0, tyG, 1, [I 0, nilS]⟩ : Blk)]) p code ns t u (by rw [List.getElem?_append_left hlt]; exact hp) hc hcb ht).mono ?_
  rintro r H1 ⟨n, gs, u1, t1, rfl, n1, n13, hgo, hgl, ht1, rfl⟩
  rw [hset]
  have hGl : (H.set p (srcB code t1 u1)).length = H.length := List.length_set
  have hBg := hBG t1 u1
  have fin : ∀ (els : List (List Int)) (i ver : Nat) (ext : List Blk), 1 ≤ els.length → els.length ≤ 720 → (∀ x ∈ els, x.length ≤ 64) → H.length ≤ i → (H.set p (srcB code t1 u1) ++ ext)[i]? = some ⟨ver, tyLL, 1, els.map ilS⟩ → GR H (drawR H p code t) (.agg [I n, .nm i ver 0 els.length]) (H.set p (srcB code t1 u1) ++ ext) := fun els i ver ext q1 q2 q3 q4 q5 => GR.of ⟨n, els, u1, t1, i, ver, ext, rfl, n1, by omega, q1, q2, q3, by omega, rfl, q4, q5⟩
  generalize hGe : H.set p (srcB code t1 u1) = G at *
  repeat (first | (with_reducible first | refine SW.seq ?_ | refine SW.block ?_ | refine SW.rowC ?_ | refine SW.skip ?_ | refine SW.exit ?_ | intro _ | refine And.intro (by omega) ?_) | simp (config := { maxSteps := 1000000 }) (disch := (first | omega | (simp only [go_sem]; try omega))) only [go_sem, Nat.reduceAdd, Nat.reduceEqDiff, Nat.reduceLeDiff, Nat.reduceMul, Nat.reduceLT, reduceIte, Int.reduceToNat, w64_id, cast_succ])
  refine (l05Close_ok (G ++ [(⟨0, tyG, 1, [I 0, nilS]⟩ : Blk)]) n 720 (ilSS gs) gs (by omega) (by omega) (by omega) (by omega) rfl hgo (by omega)).mono ?_
  rintro r H1 ⟨rfl, rfl⟩
  rw [← hGl]
  cases hg : genL n gs 720 with
  | none =>
    unfold closAV
    repeat (first | (with_reducible first | refine SW.seq ?_ | refine SW.block ?_ | refine SW.rowC ?_ | refine SW.skip ?_ | refine SW.exit ?_ | intro _ | refine And.intro (by omega) ?_) | simp (config := { maxSteps := 1000000 }) (disch := (first | omega | (simp only [go_sem]; try omega))) only [go_sem, Nat.reduceAdd, Nat.reduceEqDiff, Nat.reduceLeDiff, Nat.reduceMul, Nat.reduceLT, reduceIte, Int.reduceToNat, w64_id, cast_succ])
    refine SW.condT rfl ?_
    have c1 := l04One64_fn n (by omega)
    repeat (first | (with_reducible first | refine SW.seq ?_ | refine SW.block ?_ | refine SW.rowC ?_ | refine SW.skip ?_ | refine SW.exit ?_ | refine PFn.use (c1) ?_ | refine PFn.useq (c1) ?_ | intro _ | refine And.intro (by omega) ?_) | simp (config := { maxSteps := 1000000 }) (disch := (first | omega | (simp only [go_sem]; try omega))) only [go_sem, Nat.reduceAdd, Nat.reduceEqDiff, Nat.reduceLeDiff, Nat.reduceMul, Nat.reduceLT, reduceIte, Int.reduceToNat, w64_id, cast_succ])
    have hv : aview (G ++ [(⟨0, tyG, 1, [I 0, nilS]⟩ : Blk), ⟨0, tyLL, 1, [ilS (idL n)]⟩]) (.nm (G.length + 1) 0 0 1) = some ([idL n].length, [idL n].map ilS) := by
      simp only [aview]
      rw [List.getElem?_append_right (by simp)]
      simp
    refine (l10Sort_new _ _ [idL n] hv (by simp) (fun x hx => by rw [List.mem_singleton.1 hx]; have := (idL_ok n).1; omega)).mono ?_
    rintro r H1 ⟨ver, rfl, rfl⟩
    have hp1 := (sortD_fact cmpL_tot [idL n]).1
    generalize hes : sortD cmpL [idL n] = es at *
    have hel : es.length = 1 := hp1.length_eq
    repeat (first | (with_reducible first | refine SW.seq ?_ | refine SW.block ?_ | refine SW.rowC ?_ | refine SW.skip ?_ | refine SW.exit ?_ | intro _ | refine And.intro (by omega) ?_) | simp (config := { maxSteps := 1000000 }) (disch := (first | omega | (simp only [go_sem]; try omega))) only [go_sem, Nat.reduceAdd, Nat.reduceEqDiff, Nat.reduceLeDiff, Nat.reduceMul, Nat.reduceLT, reduceIte, Int.reduceToNat, w64_id, cast_succ])
    refine SW.ret ?_
    refine FunPost.cell (cs := [I n, .nm (G.length + 2) ver 0 es.length]) (by rw [hel]; simp (config := { maxSteps := 1000000 }) (disch := (first | omega | (simp only [go_sem]; try omega))) only [go_sem, Nat.reduceAdd, Nat.reduceEqDiff, Nat.reduceLeDiff, Nat.reduceMul, Nat.reduceLT, reduceIte, Int.reduceToNat, w64_id, cast_succ]) ?_
    refine fin es (G.length + 2) ver _ (by omega) (by omega) ?_ (by omega) (by rw [List.getElem?_append_right (by omega)]; simp)
    intro x hx
    rw [List.mem_singleton.1 (hp1.mem_iff.1 hx)]; have := (idL_ok n).1; omega
  | some L =>
    obtain ⟨⟨q1, q2⟩, q3⟩ := genL_inv hg
    unfold closAV
    repeat (first | (with_reducible first | refine SW.seq ?_ | refine SW.block ?_ | refine SW.rowC ?_ | refine SW.skip ?_ | refine SW.exit ?_ | intro _ | refine And.intro (by omega) ?_) | simp (config := { maxSteps := 1000000 }) (disch := (first | omega | (simp only [go_sem]; try omega))) only [go_sem, Nat.reduceAdd, Nat.reduceEqDiff, Nat.reduceLeDiff, Nat.reduceMul, Nat.reduceLT, reduceIte, Int.reduceToNat, w64_id, cast_succ])
    refine SW.condF rfl ?_
    repeat (first | (with_reducible first | refine SW.seq ?_ | refine SW.block ?_ | refine SW.rowC ?_ | refine SW.skip ?_ | refine SW.exit ?_ | intro _ | refine And.intro (by omega) ?_) | simp (config := { maxSteps := 1000000 }) (disch := (first | omega | (simp only [go_sem]; try omega))) only [go_sem, Nat.reduceAdd, Nat.reduceEqDiff, Nat.reduceLeDiff, Nat.reduceMul, Nat.reduceLT, reduceIte, Int.reduceToNat, w64_id, cast_succ])
    have hrl : ∀ x ∈ L, x.length ≤ 64 := fun x hx => by have := (((q2 x).1 hx).ok hgo).1; omega
    refine (l10Sort_new _ _ L rfl (by omega) (fun x hx => by have := hrl x hx; omega)).mono ?_
    rintro r H1 ⟨ver, rfl, rfl⟩
    have hp1 := (sortD_fact cmpL_tot L).1
    generalize hes : sortD cmpL L = es at *
    have hel : es.length = L.length := hp1.length_eq
    repeat (first | (with_reducible first | refine SW.seq ?_ | refine SW.block ?_ | refine SW.rowC ?_ | refine SW.skip ?_ | refine SW.exit ?_ | intro _ | refine And.intro (by omega) ?_) | simp (config := { maxSteps := 1000000 }) (disch := (first | omega | (simp only [go_sem]; try omega))) only [go_sem, Nat.reduceAdd, Nat.reduceEqDiff, Nat.reduceLeDiff, Nat.reduceMul, Nat.reduceLT, reduceIte, Int.reduceToNat, w64_id, cast_succ])
    refine SW.ret ?_
    refine FunPost.cell (cs := [I n, .nm (G.length + 1) ver 0 es.length]) (by rw [hel]; simp (config := { maxSteps := 1000000 }) (disch := (first | omega | (simp only [go_sem]; try omega))) only [go_sem, Nat.reduceAdd, Nat.reduceEqDiff, Nat.reduceLeDiff, Nat.reduceMul, Nat.reduceLT, reduceIte, Int.reduceToNat, w64_id, cast_succ]) ?_
    refine fin es (G.length + 1) ver _ ?_ (by omega) (fun x hx => hrl x (hp1.mem_iff.1 hx)) (by omega) (by rw [List.getElem?_append_right (by omega)]; simp)
    rw [hel]
    have : idL n ∈ L := (q2 _).2 .one
    exact List.length_pos_of_mem this
end Go.Proofs.YthogadbnddmkdaaGreat
