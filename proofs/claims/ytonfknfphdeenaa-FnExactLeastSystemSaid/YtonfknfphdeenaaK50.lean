/- Affine maps as groups: both ways. -/
import Derived.Test.YtonfknfphdeenaaProg
import Derived.KernelRfl
import Derived.Test.YtonfknfphdeenaaS5
import Derived.Test.YtonfknfphdeenaaG1
import Derived.Test.YtonfknfphdeenaaU1
import Derived.Test.YtonfknfphdeenaaM2
import Derived.Test.YtonfknfphdeenaaK3
set_option linter.unusedSimpArgs false
set_option linter.unusedVariables false
set_option maxHeartbeats 4000000
set_option maxRecDepth 100000
namespace Go.Proofs.Ytonfknfphdeenaa
open Go.Av

/-! The abstract code of functions, printed by program and tied to the program by the kernel. -/
/-- loop.example/g00920/impl.linearGroup -/
abbrev f_impl_linearGroup : Nat := 50
def c_impl_linearGroup : SC :=
 .seq (.reg [
     ⟨(some 4), .alloc 24 [(.int .i64 0), (.slice none 0 0)], none⟩] [0, 1, 4])
 (.seq (.reg [
     ⟨(some 11), .mv (.tmp 0), none⟩,
     ⟨(some 12), .build [(.int .i64 0), (.slice none 0 0)] [(0, 1, (.tmp 11))], none⟩,
     ⟨(some 5), .alloc 24 [(.int .i64 0), (.slice none 0 0)], none⟩,
     ⟨none, .store 2 (.tmp 5) (.tmp 12), none⟩] [0, 1, 4, 5])
 (.seq (.seq (.reg [
     ⟨(some 13), .mv (.tmp 1), none⟩,
     ⟨(some 14), .len (.tmp 13), none⟩,
     ⟨(some 15), .mv (.const (.int .i64 0)), none⟩] [0, 4, 5, 13, 14, 15])
 (.block 0 (.loop [0, 4, 5, 13, 14, 15]
   (.seq (.reg [
       ⟨(some 16), .bin .lss (.tmp 15) (.tmp 14), none⟩] [0, 4, 5, 13, 14, 15, 16])
   (.seq (.cond (.tmp 16)
    (.skip)
    (.exit 0))
   (.seq (.block 1 (.seq (.reg [
        ⟨(some 17), .iaddr 1 (.tmp 13) (.tmp 15), none⟩,
        ⟨(some 18), .load 1 false (.tmp 17), none⟩,
        ⟨(some 7), .mv (.tmp 18), none⟩] [0, 4, 5, 7, 13, 14, 15])
    (.seq (.reg [
        ⟨(some 19), .mv (.tmp 0), none⟩,
        ⟨(some 20), .mv (.const (.int .i64 0)), none⟩] [0, 4, 5, 7, 13, 14, 15, 19, 20])
    (.block 2 (.loop [0, 4, 5, 7, 13, 14, 15, 19, 20]
      (.seq (.reg [
          ⟨(some 21), .bin .lss (.tmp 20) (.tmp 19), none⟩] [0, 4, 5, 7, 13, 14, 15, 19, 20, 21])
      (.seq (.cond (.tmp 21)
       (.skip)
       (.exit 2))
      (.seq (.block 3 (.seq (.reg [
           ⟨(some 22), .mv (.tmp 20), none⟩,
           ⟨(some 8), .mv (.tmp 22), none⟩] [0, 4, 5, 7, 8, 13, 14, 15, 19, 20])
       (.seq (.reg [
           ⟨(some 9), .mv (.const (.slice none 0 0)), none⟩] [0, 4, 5, 7, 8, 9, 13, 14, 15, 19, 20])
       (.seq (.seq (.reg [
           ⟨(some 23), .mv (.tmp 0), none⟩,
           ⟨(some 24), .mv (.const (.int .i64 0)), none⟩] [0, 4, 5, 7, 8, 9, 13, 14, 15, 19, 20, 23, 24])
       (.block 4 (.loop [0, 4, 5, 7, 8, 9, 13, 14, 15, 19, 20, 23, 24]
         (.seq (.reg [
             ⟨(some 25), .bin .lss (.tmp 24) (.tmp 23), none⟩] [0, 4, 5, 7, 8, 9, 13, 14, 15, 19, 20, 23, 24, 25])
         (.seq (.cond (.tmp 25)
          (.skip)
          (.exit 4))
         (.seq (.block 5 (.seq (.reg [
              ⟨(some 26), .mv (.tmp 24), none⟩,
              ⟨(some 10), .mv (.tmp 26), none⟩] [0, 4, 5, 7, 8, 9, 10, 13, 14, 15, 19, 20, 23, 24])
          (.reg [
              ⟨(some 27), .mv (.tmp 9), none⟩,
              ⟨(some 28), .mv (.tmp 7), none⟩,
              ⟨(some 29), .mv (.tmp 10), none⟩,
              ⟨(some 30), .bin .mul (.tmp 28) (.tmp 29), none⟩,
              ⟨(some 31), .mv (.tmp 8), none⟩,
              ⟨(some 32), .bin .add (.tmp 30) (.tmp 31), none⟩,
              ⟨(some 33), .mv (.tmp 0), none⟩,
              ⟨(some 34), .bin .rem (.tmp 32) (.tmp 33), none⟩,
              ⟨(some 35), .bslice 2 1 1 [(.int .i64 0)] [(0, (.tmp 34))], none⟩,
              ⟨(some 36), .app 2 1 8 (.tmp 27) (.tmp 35), none⟩,
              ⟨(some 9), .mv (.tmp 36), none⟩] [0, 4, 5, 7, 8, 9, 13, 14, 15, 19, 20, 23, 24])))
         (.reg [
             ⟨(some 37), .bin .add (.tmp 24) (.const (.int .i64 1)), none⟩,
             ⟨(some 24), .mv (.tmp 37), none⟩] [0, 4, 5, 7, 8, 9, 13, 14, 15, 19, 20, 23, 24])))))))
       (.reg [
           ⟨(some 38), .faddr 1 (.tmp 5), none⟩,
           ⟨(some 39), .load 1 false (.tmp 38), none⟩,
           ⟨(some 40), .mv (.tmp 9), none⟩,
           ⟨(some 41), .bslice 35 1 1 [(.slice none 0 0)] [(0, (.tmp 40))], none⟩,
           ⟨(some 42), .app 35 1 24 (.tmp 39) (.tmp 41), none⟩,
           ⟨(some 43), .faddr 1 (.tmp 5), none⟩,
           ⟨none, .store 1 (.tmp 43) (.tmp 42), none⟩] [0, 4, 5, 7, 13, 14, 15, 19, 20])))))
      (.reg [
          ⟨(some 44), .bin .add (.tmp 20) (.const (.int .i64 1)), none⟩,
          ⟨(some 20), .mv (.tmp 44), none⟩] [0, 4, 5, 7, 13, 14, 15, 19, 20])))))))))
   (.reg [
       ⟨(some 45), .bin .add (.tmp 15) (.const (.int .i64 1)), none⟩,
       ⟨(some 15), .mv (.tmp 45), none⟩] [0, 4, 5, 13, 14, 15])))))))
 (.seq (.reg [
     ⟨(some 46), .faddr 1 (.tmp 5), none⟩,
     ⟨(some 47), .load 1 false (.tmp 46), none⟩,
     ⟨(some 48), .call 96 [(.tmp 47), (.func 97)], none⟩] [4, 5])
 (.seq (.reg [
     ⟨(some 49), .load 2 true (.tmp 5), none⟩,
     ⟨none, .store 2 (.tmp 4) (.tmp 49), none⟩] [4])
 (.ret)))))
theorem s_impl_linearGroup : stripF Try.prog 50 [[0, 1, 4], [0, 1, 4, 5], [0, 4, 5, 13, 14, 15], [0, 4, 5, 13, 14, 15], [0, 4, 5, 13, 14, 15, 16], [0, 4, 5, 7, 13, 14, 15], [0, 4, 5, 7, 13, 14, 15, 19, 20], [0, 4, 5, 7, 13, 14, 15, 19, 20], [0, 4, 5, 7, 13, 14, 15, 19, 20, 21], [0, 4, 5, 7, 8, 13, 14, 15, 19, 20], [0, 4, 5, 7, 8, 9, 13, 14, 15, 19, 20], [0, 4, 5, 7, 8, 9, 13, 14, 15, 19, 20, 23, 24], [0, 4, 5, 7, 8, 9, 13, 14, 15, 19, 20, 23, 24], [0, 4, 5, 7, 8, 9, 13, 14, 15, 19, 20, 23, 24, 25], [0, 4, 5, 7, 8, 9, 10, 13, 14, 15, 19, 20, 23, 24], [0, 4, 5, 7, 8, 9, 13, 14, 15, 19, 20, 23, 24], [0, 4, 5, 7, 8, 9, 13, 14, 15, 19, 20, 23, 24], [0, 4, 5, 7, 13, 14, 15, 19, 20], [0, 4, 5, 7, 13, 14, 15, 19, 20], [0, 4, 5, 13, 14, 15], [4, 5], [4]] = some (c_impl_linearGroup, [.cell 4 2], 50) := by kernel_rfl


abbrev tyG : Nat := 24
abbrev tyLL : Nat := 35

/-- x -> a x + b on n points. -/
def affRow (n a b : Nat) (x : Nat) : List Int := (List.range x).map fun (i : Nat) => (((a * i + b) % n : Nat) : Int)
def affS (n a b : Nat) : List (List Int) := (List.range b).map fun (b : Nat) => affRow n a b n
def affAll (n : Nat) (fs : List Nat) : List (List Int) := fs.flatMap fun a => affS n a n
theorem affRow_succ (n a b x : Nat) : affRow n a b (x + 1) = affRow n a b x ++ [(((a * x + b) % n : Nat) : Int)] := by simp [affRow, List.range_succ]
theorem affRow_len (n a b x : Nat) : (affRow n a b x).length = x := by simp [affRow]
theorem affS_succ (n a b : Nat) : affS n a (b + 1) = affS n a b ++ [affRow n a b n] := by simp [affS, List.range_succ]
theorem affS_len (n a b : Nat) : (affS n a b).length = b := by simp [affS]
theorem affAll_snoc (n : Nat) (fs : List Nat) (a : Nat) : affAll n (fs ++ [a]) = affAll n fs ++ affS n a n := by simp [affAll]
theorem affAll_len (n : Nat) (fs : List Nat) : (affAll n fs).length = fs.length * n := by
  induction fs with
  | nil => simp [affAll]
  | cons a fs ih => simp only [affAll, List.flatMap_cons, List.length_append, List.length_cons, Nat.succ_mul] at ih ⊢; rw [ih, affS_len]; omega
def nats (fs : List Nat) : List Int := fs.map fun (a : Nat) => (a : Int)
theorem nats_len (fs : List Nat) : (nats fs).length = fs.length := by simp [nats]
theorem nats_split {fs : List Nat} {pre post : List Int} (h : nats fs = pre ++ post) : ∃ p q, fs = p ++ q ∧ pre = nats p ∧ post = nats q := by
  refine ⟨fs.take pre.length, fs.drop pre.length, (List.take_append_drop _ _).symm, ?_, ?_⟩
  · unfold nats at *; rw [List.map_take, h]; simp
  · unfold nats at *; rw [List.map_drop, h]; simp

/-- The box holds a list that grows; the rest of the memory. -/
def BxT (ty : Nat) (Hb : List Blk) (p : Nat) (hd : AV) (xss : List (List Int)) (H' : List Blk) : Prop :=
  ∃ v, H'[p]? = some ⟨0, ty, 1, [hd, v]⟩ ∧ GrowSS H' (p + 1) tyLL v xss ∧ p + 1 ≤ H'.length ∧ ∀ j, j < p → H'[j]? = Hb[j]?
theorem BxT.put {ty : Nat} {Hb H3 : List Blk} {p : Nat} {hd v3 : AV} {xss : List (List Int)} (d1 : GrowSS H3 (p + 1) tyLL v3 xss) (d2 : p + 1 ≤ H3.length) (d3 : ∀ j, j < p → H3[j]? = Hb[j]?) : BxT ty Hb p hd xss (H3.set p ⟨0, ty, 1, [hd, v3]⟩) := by
  refine ⟨v3, List.getElem?_set_self (by omega), d1.same (fun j b h1 h2 => ?_), by simpa using d2, fun j hj => ?_⟩
  · rw [List.getElem?_set_ne (by omega)]; exact h2
  · rw [List.getElem?_set_ne (by omega)]; exact d3 j hj

theorem get_appB1 {H : List Blk} {p : Nat} {b : Blk} (h : H[p]? = some b) (ext : List Blk) : (H ++ ext)[p]? = some b := by
  rw [List.getElem?_append_left (List.getElem?_eq_some_iff.1 h).1]; exact h

theorem linear_ok (H : List Blk) (n : Nat) (fs : List Nat) (hn1 : 1 ≤ n) (hn : n ≤ 32) (hf : ∀ a ∈ fs, a ≤ 32) (hfl : fs.length ≤ 32) :
    ACalls Try.prog f_impl_linearGroup [I n, ilS (nats fs)] H (fun r H' => ∃ ext v yss, H' = H ++ ext ∧ r = .agg [I n, v] ∧ OwnSS H' (Btw H.length H'.length) v yss ∧ yss.Perm (affAll n fs) ∧ yss.Pairwise (fun a b => ¬ cmpL b a < 0)) := by
  refine ACalls.introB s_impl_linearGroup (by simp) ?_; intro hB hA; unfold c_impl_linearGroup; simp (config := { maxSteps := 1000000 }) (disch := (first | omega | (simp only [go_sem]; try omega))) only [go_sem, Nat.reduceAdd, Nat.reduceEqDiff, Nat.reduceLeDiff, Nat.reduceMul, Nat.reduceLT, reduceIte, Int.reduceToNat, w64_id, cast_succ]
  repeat (first | (with_reducible first | refine SW.seq ?_ | refine SW.block ?_ | refine SW.rowC ?_ | refine SW.skip ?_ | refine SW.exit ?_ | intro _ | refine And.intro (by omega) ?_) | simp (config := { maxSteps := 1000000 }) (disch := (first | omega | (simp only [go_sem]; try omega))) only [go_sem, Nat.reduceAdd, Nat.reduceEqDiff, Nat.reduceLeDiff, Nat.reduceMul, Nat.reduceLT, reduceIte, Int.reduceToNat, w64_id, cast_succ])
  have hnl := nats_len fs
  refine SW.loopE (fun E0 H0 q E' H' => ∃ (pre post : List Nat), fs = pre ++ post ∧ q = post.length ∧ E' = aput E0 15 (I pre.length) ∧
    BxT tyG (H ++ [⟨0, tyG, 1, [I 0, nilS]⟩]) (H.length + 1) (I n) (affAll n pre) H') fs.length ⟨[], fs, rfl, rfl, rfl, nilS, by simp, .inl ⟨rfl, rfl⟩, by simp, fun j hj => ?_⟩ ?_
  · rw [show H ++ [(⟨0, tyG, 1, [I 0, nilS]⟩ : Blk), ⟨0, tyG, 1, [I n, nilS]⟩] = (H ++ [⟨0, tyG, 1, [I 0, nilS]⟩]) ++ [(⟨0, tyG, 1, [I n, nilS]⟩ : Blk)] by simp]
    rw [List.getElem?_append_left (by simp; omega)]
  rintro q E' H1 ⟨pre, post, hp, rfl, rfl, hbx⟩
  simp (config := { maxSteps := 1000000 }) (disch := (first | omega | (simp only [go_sem]; try omega))) only [go_sem, Nat.reduceAdd, Nat.reduceEqDiff, Nat.reduceLeDiff, Nat.reduceMul, Nat.reduceLT, reduceIte, Int.reduceToNat, w64_id, cast_succ]
  repeat (first | (with_reducible first | refine SW.seq ?_ | refine SW.block ?_ | refine SW.rowC ?_ | refine SW.skip ?_ | refine SW.exit ?_ | intro _ | refine And.intro (by omega) ?_) | simp (config := { maxSteps := 1000000 }) (disch := (first | omega | (simp only [go_sem]; try omega))) only [go_sem, Nat.reduceAdd, Nat.reduceEqDiff, Nat.reduceLeDiff, Nat.reduceMul, Nat.reduceLT, reduceIte, Int.reduceToNat, w64_id, cast_succ])
  (first | refine SW.condD rfl (fun h => ?_) (fun h => ?_) | refine SW.condN rfl (fun h => ?_) (fun h => ?_) | refine SW.condNB rfl (fun h => ?_) (fun h => ?_) | refine SW.condB rfl (fun h => ?_) (fun h => ?_))
  · cases post with
    | nil => exfalso; have := congrArg List.length hp; simp at this; omega
    | cons a post =>
    have hg : (nats fs).getD pre.length 0 = (a : Int) := by rw [hp]; simp [nats]
    have ha := hf a (by rw [hp]; simp)
    have hpl : pre.length ≤ 32 := by rw [hp] at hfl; simp at hfl; omega
    repeat (first | (with_reducible first | refine SW.seq ?_ | refine SW.block ?_ | refine SW.rowC ?_ | refine SW.skip ?_ | refine SW.exit ?_ | intro _ | refine And.intro (by omega) ?_) | simp (config := { maxSteps := 1000000 }) (disch := (first | omega | (simp only [go_sem]; try omega))) only [go_sem, Nat.reduceAdd, Nat.reduceEqDiff, Nat.reduceLeDiff, Nat.reduceMul, Nat.reduceLT, reduceIte, Int.reduceToNat, w64_id, cast_succ, hg])
    refine SW.loopE (fun E0 H0 q E' H' => ∃ b : Nat, b ≤ n ∧ q = n - b ∧ E' = aput E0 20 (I b) ∧
      BxT tyG (H ++ [⟨0, tyG, 1, [I 0, nilS]⟩]) (H.length + 1) (I n) (affAll n pre ++ affS n a b) H') n ⟨0, by omega, by omega, rfl, by simpa [affS] using hbx⟩ ?_
    rintro q E' H2 ⟨b, hb, rfl, rfl, v, b1, b2, b3, b4⟩
    simp (config := { maxSteps := 1000000 }) (disch := (first | omega | (simp only [go_sem]; try omega))) only [go_sem, Nat.reduceAdd, Nat.reduceEqDiff, Nat.reduceLeDiff, Nat.reduceMul, Nat.reduceLT, reduceIte, Int.reduceToNat, w64_id, cast_succ]
    repeat (first | (with_reducible first | refine SW.seq ?_ | refine SW.block ?_ | refine SW.rowC ?_ | refine SW.skip ?_ | refine SW.exit ?_ | intro _ | refine And.intro (by omega) ?_) | simp (config := { maxSteps := 1000000 }) (disch := (first | omega | (simp only [go_sem]; try omega))) only [go_sem, Nat.reduceAdd, Nat.reduceEqDiff, Nat.reduceLeDiff, Nat.reduceMul, Nat.reduceLT, reduceIte, Int.reduceToNat, w64_id, cast_succ])
    (first | refine SW.condD rfl (fun h2 => ?_) (fun h2 => ?_) | refine SW.condN rfl (fun h2 => ?_) (fun h2 => ?_) | refine SW.condNB rfl (fun h2 => ?_) (fun h2 => ?_) | refine SW.condB rfl (fun h2 => ?_) (fun h2 => ?_))
    · repeat (first | (with_reducible first | refine SW.seq ?_ | refine SW.block ?_ | refine SW.rowC ?_ | refine SW.skip ?_ | refine SW.exit ?_ | intro _ | refine And.intro (by omega) ?_) | simp (config := { maxSteps := 1000000 }) (disch := (first | omega | (simp only [go_sem]; try omega))) only [go_sem, Nat.reduceAdd, Nat.reduceEqDiff, Nat.reduceLeDiff, Nat.reduceMul, Nat.reduceLT, reduceIte, Int.reduceToNat, w64_id, cast_succ])
      refine SW.hb (fun hB2 => ?_)
      refine SW.ghost (Gh.name 9 2 1 rfl) ?_
      simp (config := { maxSteps := 1000000 }) (disch := (first | omega | (simp only [go_sem]; try omega))) only [go_sem, Nat.reduceAdd, Nat.reduceEqDiff, Nat.reduceLeDiff, Nat.reduceMul, Nat.reduceLT, reduceIte, Int.reduceToNat, w64_id, cast_succ]
      refine SW.loopE (fun E0 H0 q E' H' => ∃ (x ver : Nat), x ≤ n ∧ q = n - x ∧ E' = aput (aput E0 24 (I x)) 9 (.nm H2.length ver 0 (affRow n a b x).length) ∧ H' = H2 ++ [⟨ver, 2, 1, (affRow n a b x).map I⟩]) n ⟨0, 0, by omega, by omega, rfl, rfl⟩ ?_
      rintro q E' H' ⟨x, ver, hx, rfl, rfl, rfl⟩
      have hal := affRow_len n a b x
      simp (config := { maxSteps := 1000000 }) (disch := (first | omega | (simp only [go_sem]; try omega))) only [go_sem, Nat.reduceAdd, Nat.reduceEqDiff, Nat.reduceLeDiff, Nat.reduceMul, Nat.reduceLT, reduceIte, Int.reduceToNat, w64_id, cast_succ]
      repeat (first | (with_reducible first | refine SW.seq ?_ | refine SW.block ?_ | refine SW.rowC ?_ | refine SW.skip ?_ | refine SW.exit ?_ | intro _ | refine And.intro (by omega) ?_) | simp (config := { maxSteps := 1000000 }) (disch := (first | omega | (simp only [go_sem]; try omega))) only [go_sem, Nat.reduceAdd, Nat.reduceEqDiff, Nat.reduceLeDiff, Nat.reduceMul, Nat.reduceLT, reduceIte, Int.reduceToNat, w64_id, cast_succ])
      (first | refine SW.condD rfl (fun h3 => ?_) (fun h3 => ?_) | refine SW.condN rfl (fun h3 => ?_) (fun h3 => ?_) | refine SW.condNB rfl (fun h3 => ?_) (fun h3 => ?_) | refine SW.condB rfl (fun h3 => ?_) (fun h3 => ?_))
      · have hax : a * x ≤ 32 * 32 := Nat.mul_le_mul ha (by omega)
        have e1 : ((a : Int) * (x : Int)) = ((a * x : Nat) : Int) := by simp
        have e2 : (((a * x : Nat) : Int) + (b : Int)).tmod (n : Int) = (((a * x + b) % n : Nat) : Int) := by
          rw [Int.tmod_eq_emod_of_nonneg (by omega)]; simp
        have hnz : ¬ (n : Int) = 0 := by omega
        have htl : (List.map I (affRow n a b x)).take x = List.map I (affRow n a b x) := List.take_of_length_le (by simp [hal])
        repeat (first | (with_reducible first | refine SW.seq ?_ | refine SW.block ?_ | refine SW.rowC ?_ | refine SW.skip ?_ | refine SW.exit ?_ | intro _ | refine And.intro (by omega) ?_) | simp (config := { maxSteps := 1000000 }) (disch := (first | omega | (simp only [go_sem]; try omega))) only [go_sem, Nat.reduceAdd, Nat.reduceEqDiff, Nat.reduceLeDiff, Nat.reduceMul, Nat.reduceLT, reduceIte, Int.reduceToNat, w64_id, cast_succ, e1, e2, htl])
        refine SLoop.nextT 1 (n - (x + 1)) hB2 (by omega) (by omega) (by simp) ?_ ?_ ⟨x + 1, ver + 1, by omega, rfl, ?_, ?_⟩
        · (simp only [go_sem, Nat.reduceAdd, Nat.reduceEqDiff, reduceIte, go_sem, and_self, and_true, true_and, implies_true, List.take_succ_cons, List.take_zero, and_true, true_and]; try omega)
        · (simp only [go_sem, Nat.reduceAdd, Nat.reduceEqDiff, reduceIte, go_sem, and_self, and_true, true_and, implies_true, List.take_succ_cons, List.take_zero, and_true, true_and]; try omega)
        · simp [go_sem, affRow_len]
        · rw [affRow_succ]; simp
      · have : x = n := by omega
        subst this
        have m4a := fun l (o : Nat) => pc_alive (off := o) (get_appB1 b1 l)
        have m4l := fun l (o : Nat) => pc_ld (off := o) (get_appB1 b1 l)
        have hpm : pre.length * x ≤ 32 * 32 := Nat.mul_le_mul hpl hn
        repeat (first | (with_reducible first | refine SW.seq ?_ | refine SW.block ?_ | refine SW.rowC ?_ | refine SW.skip ?_ | refine SW.exit ?_ | intro _ | refine And.intro (by omega) ?_) | simp (config := { maxSteps := 1000000 }) (disch := (first | omega | (simp only [go_sem]; try omega))) only [go_sem, Nat.reduceAdd, Nat.reduceEqDiff, Nat.reduceLeDiff, Nat.reduceMul, Nat.reduceLT, reduceIte, Int.reduceToNat, w64_id, cast_succ, m4a, m4l])
        refine GrowSS.appG (H1 := H2) (r := H2.length) (rv := ver) (rty := 2) (xs := affRow x a b x) rfl b2 b3 (Nat.le_refl _) (by rw [List.length_append, affAll_len, affS_len]; omega) (fun j b _ hb => by rw [List.getElem?_append_left (List.getElem?_eq_some_iff.1 hb).1]; exact hb) (by rw [hget0]; rfl) ?_
        intro v3 H3 d1 d2 d3
        have d5 : ∀ j, j < H.length + 2 → H3[j]? = H2[j]? := fun j hj => by rw [d3 j hj, List.getElem?_append_left (by omega)]
        have e1 : H3[H.length + 1]? = some ⟨0, tyG, 1, [I x, v]⟩ := by rw [d5 _ (by omega)]; exact b1
        have d4 : H2.length ≤ H3.length := by simp at d2; omega
        repeat (first | (with_reducible first | refine SW.seq ?_ | refine SW.block ?_ | refine SW.rowC ?_ | refine SW.skip ?_ | refine SW.exit ?_ | intro _ | refine And.intro (by omega) ?_) | simp (config := { maxSteps := 1000000 }) (disch := (first | omega | (simp only [go_sem]; try omega))) only [go_sem, Nat.reduceAdd, Nat.reduceEqDiff, Nat.reduceLeDiff, Nat.reduceMul, Nat.reduceLT, reduceIte, Int.reduceToNat, w64_id, cast_succ, pc_alive e1, pc_ld e1, d1.parts, d1.cell1])
        rw [pc_st e1 (by simp)]
        repeat (first | (with_reducible first | refine SW.seq ?_ | refine SW.block ?_ | refine SW.rowC ?_ | refine SW.skip ?_ | refine SW.exit ?_ | intro _ | refine And.intro (by omega) ?_) | simp (config := { maxSteps := 1000000 }) (disch := (first | omega | (simp only [go_sem]; try omega))) only [go_sem, Nat.reduceAdd, Nat.reduceEqDiff, Nat.reduceLeDiff, Nat.reduceMul, Nat.reduceLT, reduceIte, Int.reduceToNat, w64_id, cast_succ])
        refine SLoop.next (x - (b + 1)) (by omega) ⟨b + 1, by omega, rfl, ?_, ?_⟩
        · simp [go_sem]
        · rw [affS_succ, ← List.append_assoc]
          exact BxT.put d1 (by omega) (fun j hj => by rw [d5 j (by omega)]; exact b4 j hj)
    · have : b = n := by omega
      subst this
      repeat (first | (with_reducible first | refine SW.seq ?_ | refine SW.block ?_ | refine SW.rowC ?_ | refine SW.skip ?_ | refine SW.exit ?_ | intro _ | refine And.intro (by omega) ?_) | simp (config := { maxSteps := 1000000 }) (disch := (first | omega | (simp only [go_sem]; try omega))) only [go_sem, Nat.reduceAdd, Nat.reduceEqDiff, Nat.reduceLeDiff, Nat.reduceMul, Nat.reduceLT, reduceIte, Int.reduceToNat, w64_id, cast_succ])
      refine SLoop.next post.length (by simp) ⟨pre ++ [a], post, by simp [hp], rfl, ?_, ?_⟩
      · simp [go_sem]
      · rw [affAll_snoc]; exact ⟨v, b1, b2, b3, b4⟩
  · have hpo : post = [] := by cases post with
      | nil => rfl
      | cons x post => exfalso; have := congrArg List.length hp; simp at this; omega
    subst hpo
    rw [List.append_nil] at hp
    subst hp
    obtain ⟨v, b1, b2, b3, b4⟩ := hbx
    have b5 : H1[H.length]? = some ⟨0, tyG, 1, [I 0, nilS]⟩ := by rw [b4 _ (by omega)]; simp
    have hfin : ∀ (v : AV) (yss : List (List Int)) (H3 : List Blk), v.cell1 = true → H3[H.length]? = some ⟨0, tyG, 1, [I 0, nilS]⟩ → OwnSS H3 (Btw (H.length + 1) H3.length) v yss → H.length + 1 ≤ H3.length → (∀ j, j < H.length → H3[j]? = H[j]?) → yss.Perm (affAll n fs) → yss.Pairwise (fun a b => ¬ cmpL b a < 0) →
        GR H (fun r H' => ∃ ext v yss, H' = H ++ ext ∧ r = .agg [I n, v] ∧ OwnSS H' (Btw H.length H'.length) v yss ∧ yss.Perm (affAll n fs) ∧ yss.Pairwise (fun a b => ¬ cmpL b a < 0)) (.agg [I n, v]) (H3.set H.length ⟨0, tyG, 1, [I n, v]⟩) := by
      intro v yss H3 hv1 hb5 hown hl3 hj3 hpm hsd
      obtain ⟨ext, he⟩ := prefix_of (H := H) (H' := H3.set H.length ⟨0, tyG, 1, [I n, v]⟩) (by simp; omega) (fun j hj => by rw [List.getElem?_set_ne (by omega), hj3 j hj])
      refine GR.of ⟨ext, v, yss, he, rfl, ?_, hpm, hsd⟩
      refine (hown.same (H' := H3.set H.length ⟨0, tyG, 1, [I n, v]⟩) (fun j b h1 h2 => ?_)).weak (fun r h1 h2 => ?_)
      · rw [List.getElem?_set_ne (by unfold Btw at h1; omega)]; exact h2
      · unfold Btw at h1 ⊢; omega
    rcases b2 with ⟨rfl, hnil⟩ | ⟨t, ver, cells, rfl, hc⟩
    · repeat (first | (with_reducible first | refine SW.seq ?_ | refine SW.block ?_ | refine SW.rowC ?_ | refine SW.skip ?_ | refine SW.exit ?_ | intro _ | refine And.intro (by omega) ?_) | simp (config := { maxSteps := 1000000 }) (disch := (first | omega | (simp only [go_sem]; try omega))) only [go_sem, Nat.reduceAdd, Nat.reduceEqDiff, Nat.reduceLeDiff, Nat.reduceMul, Nat.reduceLT, reduceIte, Int.reduceToNat, w64_id, cast_succ, pc_alive b1, pc_ld b1])
      refine (sortNil_ok _ _).mono ?_
      rintro r H2 ⟨rfl, rfl⟩
      have b1l : acells H2 2 (.pc (H.length + 1) 0 0) = some [I n, nilS] := pc_lds b1 (by simp)
      repeat (first | (with_reducible first | refine SW.seq ?_ | refine SW.block ?_ | refine SW.rowC ?_ | refine SW.skip ?_ | refine SW.exit ?_ | intro _ | refine And.intro (by omega) ?_) | simp (config := { maxSteps := 1000000 }) (disch := (first | omega | (simp only [go_sem]; try omega))) only [go_sem, Nat.reduceAdd, Nat.reduceEqDiff, Nat.reduceLeDiff, Nat.reduceMul, Nat.reduceLT, reduceIte, Int.reduceToNat, w64_id, cast_succ, pc_alive b1, b1l])
      rw [pc_st b5 (by simp)]
      repeat (first | (with_reducible first | refine SW.seq ?_ | refine SW.block ?_ | refine SW.rowC ?_ | refine SW.skip ?_ | refine SW.exit ?_ | intro _ | refine And.intro (by omega) ?_) | simp (config := { maxSteps := 1000000 }) (disch := (first | omega | (simp only [go_sem]; try omega))) only [go_sem, Nat.reduceAdd, Nat.reduceEqDiff, Nat.reduceLeDiff, Nat.reduceMul, Nat.reduceLT, reduceIte, Int.reduceToNat, w64_id, cast_succ])
      refine SW.ret ?_
      refine FunPost.cell (cs := [I n, nilS]) ?_ (hfin nilS [] _ rfl b5 (.inr ⟨rfl, .inl rfl⟩) (by omega) (fun j hj => by rw [b4 j (by omega), List.getElem?_append_left hj]) (by rw [hnil]) .nil)
      simp (config := { maxSteps := 1000000 }) (disch := (first | omega | (simp only [go_sem]; try omega))) only [go_sem, Nat.reduceAdd, Nat.reduceEqDiff, Nat.reduceLeDiff, Nat.reduceMul, Nat.reduceLT, reduceIte, Int.reduceToNat, w64_id, cast_succ]
      rw [pc_lds (List.getElem?_set_self (List.getElem?_eq_some_iff.1 b5).1) (by simp)]
      rfl
    · have hal := affAll_len n fs
      have hpm : fs.length * n ≤ 32 * 32 := Nat.mul_le_mul hfl hn
      have htl : H.length + 2 ≤ t := hc.1
      repeat (first | (with_reducible first | refine SW.seq ?_ | refine SW.block ?_ | refine SW.rowC ?_ | refine SW.skip ?_ | refine SW.exit ?_ | intro _ | refine And.intro (by omega) ?_) | simp (config := { maxSteps := 1000000 }) (disch := (first | omega | (simp only [go_sem]; try omega))) only [go_sem, Nat.reduceAdd, Nat.reduceEqDiff, Nat.reduceLeDiff, Nat.reduceMul, Nat.reduceLT, reduceIte, Int.reduceToNat, w64_id, cast_succ, pc_alive b1, pc_ld b1])
      refine (sortRows_ok hc (by omega)).mono ?_
      rintro r H2 ⟨rfl, cells', yss, hpm, hsd, rfl, hc'⟩
      have c1 : (H1.set t ⟨ver, tyLL, 1, cells'⟩)[H.length + 1]? = some ⟨0, tyG, 1, [I n, .nm t ver 0 (affAll n fs).length]⟩ := by rw [List.getElem?_set_ne (by omega)]; exact b1
      have c5 : (H1.set t ⟨ver, tyLL, 1, cells'⟩)[H.length]? = some ⟨0, tyG, 1, [I 0, nilS]⟩ := by rw [List.getElem?_set_ne (by omega)]; exact b5
      have b1l : acells (H1.set t ⟨ver, tyLL, 1, cells'⟩) 2 (.pc (H.length + 1) 0 0) = some [I n, .nm t ver 0 (affAll n fs).length] := pc_lds c1 (by simp)
      repeat (first | (with_reducible first | refine SW.seq ?_ | refine SW.block ?_ | refine SW.rowC ?_ | refine SW.skip ?_ | refine SW.exit ?_ | intro _ | refine And.intro (by omega) ?_) | simp (config := { maxSteps := 1000000 }) (disch := (first | omega | (simp only [go_sem]; try omega))) only [go_sem, Nat.reduceAdd, Nat.reduceEqDiff, Nat.reduceLeDiff, Nat.reduceMul, Nat.reduceLT, reduceIte, Int.reduceToNat, w64_id, cast_succ, pc_alive c1, b1l])
      rw [pc_st c5 (by simp)]
      repeat (first | (with_reducible first | refine SW.seq ?_ | refine SW.block ?_ | refine SW.rowC ?_ | refine SW.skip ?_ | refine SW.exit ?_ | intro _ | refine And.intro (by omega) ?_) | simp (config := { maxSteps := 1000000 }) (disch := (first | omega | (simp only [go_sem]; try omega))) only [go_sem, Nat.reduceAdd, Nat.reduceEqDiff, Nat.reduceLeDiff, Nat.reduceMul, Nat.reduceLT, reduceIte, Int.reduceToNat, w64_id, cast_succ])
      refine SW.ret ?_
      refine FunPost.cell (cs := [I n, .nm t ver 0 (affAll n fs).length]) ?_ (hfin _ yss _ rfl c5 ?_ (by simp; omega) (fun j hj => by rw [List.getElem?_set_ne (by omega), b4 j (by omega), List.getElem?_append_left hj]) hpm hsd)
      · simp (config := { maxSteps := 1000000 }) (disch := (first | omega | (simp only [go_sem]; try omega))) only [go_sem, Nat.reduceAdd, Nat.reduceEqDiff, Nat.reduceLeDiff, Nat.reduceMul, Nat.reduceLT, reduceIte, Int.reduceToNat, w64_id, cast_succ]
        rw [pc_lds (List.getElem?_set_self (List.getElem?_eq_some_iff.1 c5).1) (by simp)]
        rfl
      · rw [← hpm.length_eq]
        exact .inl ⟨t, ver, tyLL, cells', rfl, hc'.weak (fun r h1 h2 => ⟨by unfold Fr at h1; omega, h2⟩)⟩
end Go.Proofs.Ytonfknfphdeenaa
