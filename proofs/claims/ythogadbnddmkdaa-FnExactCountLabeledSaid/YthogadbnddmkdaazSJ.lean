/- Counting packings: the reference's walk. -/
import Derived.Test.YthogadbnddmkdaaProg
import Derived.KernelRfl
import Derived.Test.YthogadbnddmkdaazSR
import Derived.Test.YthogadbnddmkdaazOW
import Derived.Test.YthogadbnddmkdaazY0
import Derived.Test.YthogadbnddmkdaazU1
import Derived.Test.YthogadbnddmkdaazK28
import Derived.Test.YthogadbnddmkdaazJ9
set_option linter.unusedSimpArgs false
set_option linter.unusedVariables false
set_option maxHeartbeats 4000000
set_option maxRecDepth 100000
namespace Go.Proofs.Ythogadbnddmkdaa
open Go.Av
abbrev f_spec_l27Find_run : Nat := 37
def c_spec_l27Find_run : SC :=
 .seq (.seq (.reg [
     ⟨(some 8), .mv (.tmp 1), none⟩,
     ⟨(some 9), .len (.tmp 8), none⟩,
     ⟨(some 10), .mv (.tmp 0), none⟩,
     ⟨(some 11), .nilc (.tmp 10), none⟩,
     ⟨(some 12), .faddr 2 (.tmp 11), none⟩,
     ⟨(some 13), .load 1 false (.tmp 12), none⟩,
     ⟨(some 14), .bin .eql (.tmp 9) (.tmp 13), none⟩] [0, 1, 2, 14])
 (.cond (.tmp 14)
  (.seq (.reg [
      ⟨(some 15), .mv (.tmp 0), none⟩,
      ⟨(some 16), .nilc (.tmp 15), none⟩,
      ⟨(some 17), .faddr 4 (.tmp 16), none⟩,
      ⟨(some 18), .load 1 false (.tmp 17), none⟩,
      ⟨(some 19), .bin .add (.tmp 18) (.const (.int .i64 1)), none⟩,
      ⟨(some 20), .nilc (.tmp 15), none⟩,
      ⟨(some 21), .faddr 4 (.tmp 20), none⟩,
      ⟨none, .store 1 (.tmp 21) (.tmp 19), none⟩] [])
  (.ret))
  (.skip)))
 (.seq (.reg [
     ⟨(some 22), .mv (.tmp 2), none⟩,
     ⟨(some 6), .mv (.tmp 22), none⟩] [0, 1, 6])
 (.block 0 (.loop [0, 1, 6]
   (.seq (.seq (.reg [
       ⟨(some 23), .mv (.tmp 6), none⟩,
       ⟨(some 24), .mv (.tmp 0), none⟩,
       ⟨(some 25), .nilc (.tmp 24), none⟩,
       ⟨(some 26), .faddr 0 (.tmp 25), none⟩,
       ⟨(some 27), .load 1 false (.tmp 26), none⟩,
       ⟨(some 28), .mv (.tmp 0), none⟩,
       ⟨(some 29), .nilc (.tmp 28), none⟩,
       ⟨(some 30), .faddr 1 (.tmp 29), none⟩,
       ⟨(some 31), .load 1 false (.tmp 30), none⟩,
       ⟨(some 32), .qcall 84 [(.tmp 27), (.tmp 31)], none⟩,
       ⟨(some 33), .bin .lss (.tmp 23) (.tmp 32), none⟩] [0, 1, 6, 33])
   (.cond (.tmp 33)
    (.skip)
    (.exit 0)))
   (.seq (.block 1 (.seq (.reg [
        ⟨(some 36), .mv (.tmp 0), none⟩,
        ⟨(some 37), .nilc (.tmp 36), none⟩,
        ⟨(some 38), .faddr 0 (.tmp 37), none⟩,
        ⟨(some 39), .load 1 false (.tmp 38), none⟩,
        ⟨(some 40), .mv (.tmp 0), none⟩,
        ⟨(some 41), .nilc (.tmp 40), none⟩,
        ⟨(some 42), .faddr 1 (.tmp 41), none⟩,
        ⟨(some 43), .load 1 false (.tmp 42), none⟩,
        ⟨(some 44), .mv (.tmp 6), none⟩,
        ⟨(some 45), .qcall 85 [(.tmp 39), (.tmp 43), (.tmp 44)], none⟩,
        ⟨(some 7), .mv (.tmp 45), none⟩] [0, 1, 6, 7])
    (.seq (.seq (.reg [
        ⟨(some 46), .mv (.tmp 1), none⟩,
        ⟨(some 47), .mv (.tmp 7), none⟩,
        ⟨(some 48), .mv (.tmp 0), none⟩,
        ⟨(some 49), .nilc (.tmp 48), none⟩,
        ⟨(some 50), .faddr 3 (.tmp 49), none⟩,
        ⟨(some 51), .load 1 false (.tmp 50), none⟩,
        ⟨(some 52), .call 86 [(.tmp 46), (.tmp 47), (.tmp 51)], none⟩,
        ⟨(some 53), .un .not (.tmp 52), none⟩] [0, 1, 6, 7, 53])
    (.cond (.tmp 53)
     (.exit 1)
     (.skip)))
    (.seq (.seq (.reg [
        ⟨(some 54), .mv (.tmp 0), none⟩,
        ⟨(some 55), .nilc (.tmp 54), none⟩,
        ⟨(some 56), .faddr 5 (.tmp 55), none⟩,
        ⟨(some 57), .load 1 false (.tmp 56), none⟩,
        ⟨(some 58), .mv (.tmp 0), none⟩,
        ⟨(some 59), .nilc (.tmp 58), none⟩,
        ⟨(some 60), .faddr 6 (.tmp 59), none⟩,
        ⟨(some 61), .load 1 false (.tmp 60), none⟩,
        ⟨(some 62), .bin .eql (.tmp 57) (.tmp 61), none⟩] [0, 1, 6, 7, 62])
    (.cond (.tmp 62)
     (.reg [
         ⟨(some 63), .mv (.tmp 0), none⟩,
         ⟨(some 64), .nilc (.tmp 63), none⟩,
         ⟨(some 65), .faddr 7 (.tmp 64), none⟩,
         ⟨none, .store 1 (.tmp 65) (.const (.bool true)), none⟩] [0, 1, 6, 7])
     (.skip)))
    (.seq (.seq (.reg [
        ⟨(some 66), .mv (.tmp 0), none⟩,
        ⟨(some 67), .nilc (.tmp 66), none⟩,
        ⟨(some 68), .faddr 7 (.tmp 67), none⟩,
        ⟨(some 69), .load 1 false (.tmp 68), none⟩] [0, 1, 6, 7, 69])
    (.cond (.tmp 69)
     (.ret)
     (.skip)))
    (.seq (.reg [
        ⟨(some 70), .mv (.tmp 0), none⟩,
        ⟨(some 71), .nilc (.tmp 70), none⟩,
        ⟨(some 72), .faddr 5 (.tmp 71), none⟩,
        ⟨(some 73), .load 1 false (.tmp 72), none⟩,
        ⟨(some 74), .bin .add (.tmp 73) (.const (.int .i64 1)), none⟩,
        ⟨(some 75), .nilc (.tmp 70), none⟩,
        ⟨(some 76), .faddr 5 (.tmp 75), none⟩,
        ⟨none, .store 1 (.tmp 76) (.tmp 74), none⟩] [0, 1, 6, 7])
    (.reg [
        ⟨(some 77), .mv (.tmp 0), none⟩,
        ⟨(some 78), .mv (.tmp 1), none⟩,
        ⟨(some 79), .call 63 [(.tmp 78)], none⟩,
        ⟨(some 80), .mv (.tmp 7), none⟩,
        ⟨(some 81), .bslice 39 1 1 [(.slice none 0 0)] [(0, (.tmp 80))], none⟩,
        ⟨(some 82), .app 39 1 24 (.tmp 79) (.tmp 81), none⟩,
        ⟨(some 83), .mv (.tmp 6), none⟩,
        ⟨(some 84), .bin .add (.tmp 83) (.const (.int .i64 1)), none⟩,
        ⟨(some 85), .call 37 [(.tmp 77), (.tmp 82), (.tmp 84)], none⟩] [0, 1, 6])))))))
   (.reg [
       ⟨(some 34), .mv (.tmp 6), none⟩,
       ⟨(some 35), .bin .add (.tmp 34) (.const (.int .i64 1)), none⟩,
       ⟨(some 6), .mv (.tmp 35), none⟩] [0, 1, 6]))))))
theorem s_spec_l27Find_run : stripF Try.prog 37 [[0, 1, 2, 14], [], [0, 1, 6], [0, 1, 6], [0, 1, 6, 33], [0, 1, 6, 7], [0, 1, 6, 7, 53], [0, 1, 6, 7, 62], [0, 1, 6, 7], [0, 1, 6, 7, 69], [0, 1, 6, 7], [0, 1, 6], [0, 1, 6]] = some (c_spec_l27Find_run, [], 86) := by kernel_rfl
def ArgR (p : Nat) (H : List Blk) (a : AV) (B : List (List Int)) : Prop := (a = ilSS B ∨ a = nilS ∧ B = []) ∨ ∃ i ver, a = .nm i ver 0 B.length ∧ i ≠ p ∧ H[i]? = some ⟨ver, tyLL, 1, B.map ilS⟩
section
variable {p : Nat} {H : List Blk} {a : AV} {B : List (List Int)}
theorem ArgR.view (h : ArgR p H a B) : aview H a = some (B.length, B.map ilS) := by
  rcases h with (rfl | ⟨rfl, rfl⟩) | ⟨i, ver, rfl, -, h⟩
  · rfl
  · rfl
  · simp only [aview, h]; simp; exact List.take_of_length_le (by simp)
theorem ArgR.froz (h : ArgR p H a B) : Froz H 0 a (ilSS B) := by
  rcases h with (rfl | ⟨rfl, rfl⟩) | ⟨i, ver, rfl, -, h⟩
  · exact froz_ilSS _
  · exact .nil
  · exact froz_rowS (Nat.zero_le _) h
theorem ArgR.set (h : ArgR p H a B) (b : Blk) : ArgR p (H.set p b) a B := by
  rcases h with h | ⟨i, ver, rfl, hn, h⟩
  · exact .inl h
  · exact .inr ⟨i, ver, rfl, hn, by rw [List.getElem?_set_ne (Ne.symm hn)]; exact h⟩
theorem ArgR.app (h : ArgR p H a B) (ext : List Blk) : ArgR p (H ++ ext) a B := by
  rcases h with h | ⟨i, ver, rfl, hn, h⟩
  · exact .inl h
  · exact .inr ⟨i, ver, rfl, hn, by rw [List.getElem?_append_left (List.getElem?_eq_some_iff.1 h).1]; exact h⟩
theorem ArgR.bel (h : ArgR p H a B) : Bel H.length a := by
  rcases h with (rfl | ⟨rfl, rfl⟩) | ⟨i, ver, rfl, hn, h⟩
  · rw [Bel_ilSS]; trivial
  · exact .lit _
  · exact .nm _ _ _ _ (List.getElem?_eq_some_iff.1 h).1
end
theorem l06Own_arg {p : Nat} (H : List Blk) (a : AV) (xss : List (List Int)) (ha : ArgR p H a xss) (hl : xss.length ≤ 2000000) (hr : ∀ x ∈ xss, x.length ≤ 2000000) :
    ACalls Try.prog f_spec_l06Own [a] H (fun r H' => ∃ ver, H' = H ++ [⟨ver, tyLL, 1, xss.map ilS⟩] ∧ r = .nm H.length ver 0 xss.length) := by
  have hav := fun ext => (ha.app ext).view
  have hab := ha.bel
  have hav0 := ha.view
  refine ACalls.introB s_spec_l06Own (by simp) ?_; intro hB hA; unfold c_spec_l06Own; simp (config := { maxSteps := 1000000 }) (disch := (first | omega | (simp only [go_sem]; try omega))) only [go_sem, Nat.reduceAdd, Nat.reduceEqDiff, Nat.reduceLeDiff, Nat.reduceMul, Nat.reduceLT, reduceIte, Int.reduceToNat, w64_id, cast_succ]
  repeat (first | (with_reducible first | refine SW.seq ?_ | refine SW.block ?_ | refine SW.rowC ?_ | refine SW.skip ?_ | refine SW.exit ?_ | intro _ | refine And.intro (by omega) ?_) | simp (config := { maxSteps := 1000000 }) (disch := (first | omega | (simp only [go_sem]; try omega))) only [go_sem, Nat.reduceAdd, Nat.reduceEqDiff, Nat.reduceLeDiff, Nat.reduceMul, Nat.reduceLT, reduceIte, Int.reduceToNat, w64_id, cast_succ, hav, hav0])
  refine SW.loopE (fun E0 H0 q E' H' => ∃ (pre post : List (List Int)) (ver : Nat), xss = pre ++ post ∧ q = post.length ∧ E' = aput (aput E0 4 (I pre.length)) 3 (.nm H.length ver 0 pre.length) ∧ H' = H ++ [⟨ver, tyLL, 1, pre.map ilS⟩]) xss.length ⟨[], xss, 0, rfl, rfl, rfl, rfl⟩ ?_
  rintro q E' H' ⟨pre, post, ver, hpp, rfl, rfl, rfl⟩
  have hpl : pre.length ≤ 2000000 := by rw [hpp] at hl; simp at hl; omega
  have htl : (pre.map ilS).take pre.length = pre.map ilS := List.take_of_length_le (by simp)
  simp (config := { maxSteps := 1000000 }) (disch := (first | omega | (simp only [go_sem]; try omega))) only [go_sem, Nat.reduceAdd, Nat.reduceEqDiff, Nat.reduceLeDiff, Nat.reduceMul, Nat.reduceLT, reduceIte, Int.reduceToNat, w64_id, cast_succ]
  repeat (first | (with_reducible first | refine SW.seq ?_ | refine SW.block ?_ | refine SW.rowC ?_ | refine SW.skip ?_ | refine SW.exit ?_ | intro _ | refine And.intro (by omega) ?_) | simp (config := { maxSteps := 1000000 }) (disch := (first | omega | (simp only [go_sem]; try omega))) only [go_sem, Nat.reduceAdd, Nat.reduceEqDiff, Nat.reduceLeDiff, Nat.reduceMul, Nat.reduceLT, reduceIte, Int.reduceToNat, w64_id, cast_succ, hav])
  (first | refine SW.condD rfl (fun h => ?_) (fun h => ?_) | refine SW.condN rfl (fun h => ?_) (fun h => ?_) | refine SW.condNB rfl (fun h => ?_) (fun h => ?_) | refine SW.condB rfl (fun h => ?_) (fun h => ?_))
  · obtain ⟨y, post, rfl, hg, -⟩ := consOf (d := []) hpp (by omega)
    repeat (first | (with_reducible first | refine SW.seq ?_ | refine SW.block ?_ | refine SW.rowC ?_ | refine SW.skip ?_ | refine SW.exit ?_ | refine PFn.use (l00OwnF_fn y (hr y (by rw [hpp]; simp))) ?_ | refine PFn.useq (l00OwnF_fn y (hr y (by rw [hpp]; simp))) ?_ | intro _ | refine And.intro (by omega) ?_) | simp (config := { maxSteps := 1000000 }) (disch := (first | omega | (simp only [go_sem]; try omega))) only [go_sem, Nat.reduceAdd, Nat.reduceEqDiff, Nat.reduceLeDiff, Nat.reduceMul, Nat.reduceLT, reduceIte, Int.reduceToNat, w64_id, cast_succ, hg, htl, hav])
    refine SLoop.nextT 1 post.length hB (by omega) (by simp) (by simp) ?_ ?_ ⟨pre ++ [y], post, ver + 1, by simp [hpp], rfl, ?_, ?_⟩
    · (simp only [go_sem, Nat.reduceAdd, Nat.reduceEqDiff, reduceIte, go_sem, and_self, and_true, true_and, implies_true, List.take_succ_cons, List.take_zero, and_true, true_and]; try omega)
      exact ⟨hab.mono (by omega), by omega⟩
    · (simp only [go_sem, Nat.reduceAdd, Nat.reduceEqDiff, reduceIte, go_sem, and_self, and_true, true_and, implies_true, List.take_succ_cons, List.take_zero, and_true, true_and]; try omega)
    · simp [go_sem]
    · simp
  · obtain ⟨rfl, rfl⟩ := nilOf hpp (by omega)
    repeat (first | (with_reducible first | refine SW.seq ?_ | refine SW.block ?_ | refine SW.rowC ?_ | refine SW.skip ?_ | refine SW.exit ?_ | intro _ | refine And.intro (by omega) ?_) | simp (config := { maxSteps := 1000000 }) (disch := (first | omega | (simp only [go_sem]; try omega))) only [go_sem, Nat.reduceAdd, Nat.reduceEqDiff, Nat.reduceLeDiff, Nat.reduceMul, Nat.reduceLT, reduceIte, Int.reduceToNat, w64_id, cast_succ])
    refine SW.ret ?_; (try simp only [go_sem]); (first | refine FunPost.one ?_ | refine FunPost.two ?_ | refine FunPost.three ?_); (try simp (config := { maxSteps := 1000000 }) (disch := (first | omega | (simp only [go_sem]; try omega))) only [go_sem, Nat.reduceAdd, Nat.reduceEqDiff, Nat.reduceLeDiff, Nat.reduceMul, Nat.reduceLT, reduceIte, Int.reduceToNat, w64_id, cast_succ])
    exact GR.of ⟨ver, rfl, rfl⟩
abbrev tyFind : Nat := 63
def finB (v k m : Nat) (s : Int) (cnt used : Nat) (bud : Int) (over : Bool) : Blk := ⟨0, tyFind, 1, [I v, I k, I m, I s, I cnt, I used, I bud, Bv over]⟩
def FinR (v k m : Nat) (s : Int) (bud : Nat) (H : List Blk) (p cnt used : Nat) (o : Option (Nat × Nat)) (H' : List Blk) : Prop :=
  ∃ (cnt' used' : Nat) (over : Bool), H' = H.set p (finB v k m s cnt' used' bud over) ∧ used ≤ used' ∧ used' ≤ bud ∧ cnt' + used ≤ cnt + used' + 1 ∧ (over = true → used' = bud ∧ o = none) ∧ (over = false → ∃ c, cnt' = cnt + c ∧ o = some (c, bud - used'))
theorem fit_same {s : Int} {x : List Int} : ∀ {B : List (List Int)}, (∀ b ∈ B, b ≠ x) → fitB B s x = fitsC s B x
  | [], _ => rfl
  | b :: B, h => by
    have i1 := fit_same (s := s) (x := x) (B := B) (fun c hc => h c (by simp [hc]))
    unfold fitB fitsC at *
    have := h b (by simp)
    simp [this] at i1 ⊢
    rw [i1, Bool.not_not]
theorem asc_len32 {l : List Int} (h : asc 0 31 l = true) : l.length ≤ 32 := by
  rcases asc_len h with rfl | h1
  · simp
  · omega
theorem cl_no {s : Int} {B rest : List (List Int)} {x : List Int} {r left : Nat} (h : fitsC s B x = false) : cl s B (x :: rest) (r + 1) left = cl s B rest (r + 1) left := by
  rw [cl, h]; rfl
theorem cl_spent {s : Int} {B rest : List (List Int)} {x : List Int} {r : Nat} (h : fitsC s B x = true) : cl s B (x :: rest) (r + 1) 0 = none := by
  rw [cl, h]; rfl
theorem cl_yes {s : Int} {B rest : List (List Int)} {x : List Int} {r left : Nat} (h : fitsC s B x = true) (h0 : left ≠ 0) : cl s B (x :: rest) (r + 1) left = match cl s (B ++ [x]) rest r (left - 1) with
    | none => none
    | some (c, l) => match cl s B rest (r + 1) l with
      | none => none
      | some (d, l') => some (c + d, l') := by
  rw [cl, h, if_pos rfl, if_neg h0]; rfl
theorem findRun_ok (v k m : Nat) (s : Int) (bud : Nat) (S : List (List Int)) (hm : m ≤ 1000) (hb : bud ≤ 20000) (hSl : S.length ≤ 1000000) (hSa : ∀ t ∈ S, asc 0 31 t = true) (hnd : S.Nodup) (hcs : PFn Try.prog f_spec_Choose [I v, I k] (I S.length)) (hsub : ∀ R, R < S.length → PFn Try.prog f_spec_l01Subset [I v, I k, I R] (ilS (S.getD R []))) :
    ∀ (r : Nat) (H : List Blk) (p : Nat) (a : AV) (B : List (List Int)) (at_ cnt used : Nat), ArgR p H a B → B.length + r = m → (∀ b ∈ B, b ∈ S.take at_) → at_ ≤ S.length → used ≤ bud → cnt ≤ used → H[p]? = some (finB v k m s cnt used bud false) →
    ACalls Try.prog f_spec_l27Find_run [.pc p 0 0, a, I at_] H (fun r' H' => r' = .tup [] ∧ FinR v k m s bud H p cnt used (cl s B (S.drop at_) r (bud - used)) H') := by
  intro r
  induction r with
  | zero =>
    intro H p a B at_ cnt used ha hBm hB2 hBa hu hcu hp
    have hpa := fun o => pc_alive (off := o) hp
    have hpl := fun o => pc_ld (off := o) hp
    have hav := ha.view
    unfold finB at *
    have hst : ∀ x, astore H [x] (.pc p 0 4) = some (H.set p ⟨0, tyFind, 1, [I v, I k, I m, I s, x, I used, I bud, Bv false]⟩) := fun x => by rw [pc_st hp (by simp)]; rfl
    refine ACalls.introB s_spec_l27Find_run (by simp) ?_; intro hB hA; unfold c_spec_l27Find_run; simp (config := { maxSteps := 1000000 }) (disch := (first | omega | (simp only [go_sem]; try omega))) only [go_sem, Nat.reduceAdd, Nat.reduceEqDiff, Nat.reduceLeDiff, Nat.reduceMul, Nat.reduceLT, reduceIte, Int.reduceToNat, w64_id, cast_succ]
    repeat (first | (with_reducible first | refine SW.seq ?_ | refine SW.block ?_ | refine SW.rowC ?_ | refine SW.skip ?_ | refine SW.exit ?_ | intro _ | refine And.intro (by omega) ?_) | simp (config := { maxSteps := 1000000 }) (disch := (first | omega | (simp only [go_sem]; try omega))) only [go_sem, Nat.reduceAdd, Nat.reduceEqDiff, Nat.reduceLeDiff, Nat.reduceMul, Nat.reduceLT, reduceIte, Int.reduceToNat, w64_id, cast_succ, hpa, hpl, hav])
    refine SW.condT (show Bv (decide ((B.length : Int) = m)) = Bv true by rw [decide_eq_true (by omega)]) ?_
    repeat (first | (with_reducible first | refine SW.seq ?_ | refine SW.block ?_ | refine SW.rowC ?_ | refine SW.skip ?_ | refine SW.exit ?_ | intro _ | refine And.intro (by omega) ?_) | simp (config := { maxSteps := 1000000 }) (disch := (first | omega | (simp only [go_sem]; try omega))) only [go_sem, Nat.reduceAdd, Nat.reduceEqDiff, Nat.reduceLeDiff, Nat.reduceMul, Nat.reduceLT, reduceIte, Int.reduceToNat, w64_id, cast_succ, hpa, hpl, hst])
    refine SW.ret ⟨_, rfl, GR.of ⟨rfl, cnt + 1, used, false, rfl, Nat.le_refl _, hu, by omega, by simp, fun _ => ⟨1, rfl, ?_⟩⟩⟩
    rw [cl_zero]
  | succ r ih =>
    intro H p a B at_ cnt used ha hBm hB2 hBa hu hcu hp
    have hlt := (List.getElem?_eq_some_iff.1 hp).1
    have hself : H.set p (finB v k m s cnt used bud false) = H := by
      obtain ⟨g1, g2⟩ := List.getElem?_eq_some_iff.1 hp
      rw [← g2]; exact List.set_getElem_self g1
    have hgp : ∀ b : Blk, (H.set p b)[p]? = some b := fun b => List.getElem?_set_self hlt
    have hpa := fun o => pc_alive (off := o) hp
    have hpl := fun o => pc_ld (off := o) hp
    have hav := ha.view
    refine ACalls.introB s_spec_l27Find_run (by simp) ?_; intro hB hA; unfold c_spec_l27Find_run; simp (config := { maxSteps := 1000000 }) (disch := (first | omega | (simp only [go_sem]; try omega))) only [go_sem, Nat.reduceAdd, Nat.reduceEqDiff, Nat.reduceLeDiff, Nat.reduceMul, Nat.reduceLT, reduceIte, Int.reduceToNat, w64_id, cast_succ]
    unfold finB at hpa hpl
    repeat (first | (with_reducible first | refine SW.seq ?_ | refine SW.block ?_ | refine SW.rowC ?_ | refine SW.skip ?_ | refine SW.exit ?_ | intro _ | refine And.intro (by omega) ?_) | simp (config := { maxSteps := 1000000 }) (disch := (first | omega | (simp only [go_sem]; try omega))) only [go_sem, Nat.reduceAdd, Nat.reduceEqDiff, Nat.reduceLeDiff, Nat.reduceMul, Nat.reduceLT, reduceIte, Int.reduceToNat, w64_id, cast_succ, hpa, hpl, hav])
    refine SW.condF (show Bv (decide ((B.length : Int) = m)) = Bv false by rw [decide_eq_false (by omega)]) ?_
    repeat (first | (with_reducible first | refine SW.seq ?_ | refine SW.block ?_ | refine SW.rowC ?_ | refine SW.skip ?_ | refine SW.exit ?_ | intro _ | refine And.intro (by omega) ?_) | simp (config := { maxSteps := 1000000 }) (disch := (first | omega | (simp only [go_sem]; try omega))) only [go_sem, Nat.reduceAdd, Nat.reduceEqDiff, Nat.reduceLeDiff, Nat.reduceMul, Nat.reduceLT, reduceIte, Int.reduceToNat, w64_id, cast_succ])
    refine SW.loopE (fun E0 H0 q E' H' => ∃ (i cnt' used' : Nat) (over : Bool), at_ ≤ i ∧ i ≤ S.length ∧ q = S.length - i ∧ E' = aput E0 6 (I i) ∧ H' = H.set p (finB v k m s cnt' used' bud over) ∧ used ≤ used' ∧ used' ≤ bud ∧ cnt' + used ≤ cnt + used' ∧
      (over = true → used' = bud ∧ cl s B (S.drop at_) (r + 1) (bud - used) = none) ∧ (over = false → ∃ c0, cnt' = cnt + c0 ∧
        cl s B (S.drop at_) (r + 1) (bud - used) = match cl s B (S.drop i) (r + 1) (bud - used') with | none => none | some (d, l) => some (c0 + d, l))) (S.length - at_)
      ⟨at_, cnt, used, false, Nat.le_refl _, hBa, rfl, rfl, hself.symm, Nat.le_refl _, hu, Nat.le_refl _, by simp, fun _ => ⟨0, rfl, ?_⟩⟩ ?_
    · cases cl s B (S.drop at_) (r + 1) (bud - used) with
      | none => rfl
      | some p => simp
    rintro q E' H' ⟨i, cnt', used', over, hai, hi, rfl, rfl, rfl, huu, hu', hc', ho1, ho2⟩
    have hpa := fun o => pc_alive (off := o) (hgp (finB v k m s cnt' used' bud over))
    have hpl := fun o => pc_ld (off := o) (hgp (finB v k m s cnt' used' bud over))
    unfold finB at hpa hpl
    simp (config := { maxSteps := 1000000 }) (disch := (first | omega | (simp only [go_sem]; try omega))) only [go_sem, Nat.reduceAdd, Nat.reduceEqDiff, Nat.reduceLeDiff, Nat.reduceMul, Nat.reduceLT, reduceIte, Int.reduceToNat, w64_id, cast_succ]
    unfold finB
    repeat (first | (with_reducible first | refine SW.seq ?_ | refine SW.block ?_ | refine SW.rowC ?_ | refine SW.skip ?_ | refine SW.exit ?_ | refine PFn.use (hcs) ?_ | refine PFn.useq (hcs) ?_ | intro _ | refine And.intro (by omega) ?_) | simp (config := { maxSteps := 1000000 }) (disch := (first | omega | (simp only [go_sem]; try omega))) only [go_sem, Nat.reduceAdd, Nat.reduceEqDiff, Nat.reduceLeDiff, Nat.reduceMul, Nat.reduceLT, reduceIte, Int.reduceToNat, w64_id, cast_succ, hpa, hpl])
    (first | refine SW.condD rfl (fun h2 => ?_) (fun h2 => ?_) | refine SW.condN rfl (fun h2 => ?_) (fun h2 => ?_) | refine SW.condNB rfl (fun h2 => ?_) (fun h2 => ?_) | refine SW.condB rfl (fun h2 => ?_) (fun h2 => ?_))
    · have hlt2 : i < S.length := by omega
      have hsi := hsub i hlt2
      have hdr : S.drop i = S.getD i [] :: S.drop (i + 1) := by rw [List.getD_eq_getElem?_getD, List.getElem?_eq_getElem hlt2]; exact List.drop_eq_getElem_cons hlt2
      repeat (first | (with_reducible first | refine SW.seq ?_ | refine SW.block ?_ | refine SW.rowC ?_ | refine SW.skip ?_ | refine SW.exit ?_ | refine PFn.use (hsi) ?_ | refine PFn.useq (hsi) ?_ | intro _ | refine And.intro (by omega) ?_) | simp (config := { maxSteps := 1000000 }) (disch := (first | omega | (simp only [go_sem]; try omega))) only [go_sem, Nat.reduceAdd, Nat.reduceEqDiff, Nat.reduceLeDiff, Nat.reduceMul, Nat.reduceLT, reduceIte, Int.reduceToNat, w64_id, cast_succ, hpa, hpl])
      have hxm : S.getD i [] ∈ S := by rw [List.getD_eq_getElem?_getD, List.getElem?_eq_getElem hlt2]; exact List.getElem_mem _
      have hsp : S = S.take i ++ S.getD i [] :: S.drop (i + 1) := by rw [← hdr, List.take_append_drop]
      have hne : ∀ b ∈ B, b ≠ S.getD i [] := fun b hb e => by
        have h5 : b ∈ S.take i := by
          obtain ⟨j, hj, e2⟩ := List.getElem_of_mem (hB2 b hb)
          rw [List.getElem_take] at e2
          rw [← e2]
          exact List.mem_take_iff_getElem.2 ⟨j, by simp at hj; omega, rfl⟩
        rw [hsp, List.nodup_append] at hnd
        exact hnd.2.2 b h5 (S.getD i []) (by simp) e
      have hbB : ∀ b ∈ B, asc 0 31 b = true := fun b hb => hSa b (List.mem_of_mem_take (hB2 b hb))
      have hxa := hSa _ hxm
      have htk : ∀ b ∈ B ++ [S.getD i []], b ∈ S.take (i + 1) := fun b hb => by
        rw [List.take_succ_eq_append_getElem hlt2]
        rcases List.mem_append.1 hb with hb | hb
        · obtain ⟨j, hj, e2⟩ := List.getElem_of_mem (hB2 b hb)
          rw [List.getElem_take] at e2
          rw [← e2]
          exact List.mem_append_left _ (List.mem_take_iff_getElem.2 ⟨j, by simp at hj; omega, rfl⟩)
        · rw [List.mem_singleton.1 hb, List.getD_eq_getElem?_getD, List.getElem?_eq_getElem hlt2]
          exact List.mem_append_right _ (List.mem_singleton.2 rfl)
      rw [hdr] at ho2
      generalize S.getD i [] = x at *
      refine ((l27Fits_fn B x s hbB hxa).lend (.cons ((ha.set _).froz) (.cons (froz_ilS _) (.cons (froz_I' _) .nil)))).mono ?_
      rintro r1 H1 ⟨rfl, rfl⟩
      rw [fit_same hne]
      cases hf : fitsC s B x
      · repeat (first | (with_reducible first | refine SW.seq ?_ | refine SW.block ?_ | refine SW.rowC ?_ | refine SW.skip ?_ | refine SW.exit ?_ | intro _ | refine And.intro (by omega) ?_) | simp (config := { maxSteps := 1000000 }) (disch := (first | omega | (simp only [go_sem]; try omega))) only [go_sem, Nat.reduceAdd, Nat.reduceEqDiff, Nat.reduceLeDiff, Nat.reduceMul, Nat.reduceLT, reduceIte, Int.reduceToNat, w64_id, cast_succ])
        refine SW.condT rfl ?_
        repeat (first | (with_reducible first | refine SW.seq ?_ | refine SW.block ?_ | refine SW.rowC ?_ | refine SW.skip ?_ | refine SW.exit ?_ | intro _ | refine And.intro (by omega) ?_) | simp (config := { maxSteps := 1000000 }) (disch := (first | omega | (simp only [go_sem]; try omega))) only [go_sem, Nat.reduceAdd, Nat.reduceEqDiff, Nat.reduceLeDiff, Nat.reduceMul, Nat.reduceLT, reduceIte, Int.reduceToNat, w64_id, cast_succ])
        refine SLoop.next (S.length - (i + 1)) (by omega) ⟨i + 1, cnt', used', over, by omega, by omega, rfl, rfl, rfl, huu, hu', hc', ho1, fun h => ?_⟩
        obtain ⟨c0, g1, g2⟩ := ho2 h
        rw [cl_no hf] at g2
        exact ⟨c0, g1, g2⟩
      · repeat (first | (with_reducible first | refine SW.seq ?_ | refine SW.block ?_ | refine SW.rowC ?_ | refine SW.skip ?_ | refine SW.exit ?_ | intro _ | refine And.intro (by omega) ?_) | simp (config := { maxSteps := 1000000 }) (disch := (first | omega | (simp only [go_sem]; try omega))) only [go_sem, Nat.reduceAdd, Nat.reduceEqDiff, Nat.reduceLeDiff, Nat.reduceMul, Nat.reduceLT, reduceIte, Int.reduceToNat, w64_id, cast_succ])
        refine SW.condF rfl ?_
        repeat (first | (with_reducible first | refine SW.seq ?_ | refine SW.block ?_ | refine SW.rowC ?_ | refine SW.skip ?_ | refine SW.exit ?_ | intro _ | refine And.intro (by omega) ?_) | simp (config := { maxSteps := 1000000 }) (disch := (first | omega | (simp only [go_sem]; try omega))) only [go_sem, Nat.reduceAdd, Nat.reduceEqDiff, Nat.reduceLeDiff, Nat.reduceMul, Nat.reduceLT, reduceIte, Int.reduceToNat, w64_id, cast_succ, hpa, hpl])
        have hst7 : ∀ x, astore (H.set p ⟨0, tyFind, 1, [I v, I k, I m, I s, I cnt', I used', I bud, Bv over]⟩) [x] (.pc p 0 7) = some (H.set p ⟨0, tyFind, 1, [I v, I k, I m, I s, I cnt', I used', I bud, x]⟩) := fun x => by rw [pc_st (hgp _) (by simp), List.set_set]; rfl
        have hst5 : ∀ x, astore (H.set p ⟨0, tyFind, 1, [I v, I k, I m, I s, I cnt', I used', I bud, Bv over]⟩) [x] (.pc p 0 5) = some (H.set p ⟨0, tyFind, 1, [I v, I k, I m, I s, I cnt', x, I bud, Bv over]⟩) := fun x => by rw [pc_st (hgp _) (by simp), List.set_set]; rfl
        by_cases hub : used' = bud
        · have hnone : cl s B (S.drop at_) (r + 1) (bud - used) = none := by
            cases over with
            | true => exact (ho1 rfl).2
            | false =>
              obtain ⟨c0, g1, g2⟩ := ho2 rfl
              rw [g2, hub, Nat.sub_self, cl_spent hf]
          have hpa3 := fun c o => pc_alive (off := o) (hgp ⟨0, tyFind, 1, c⟩)
          have hpl3 := fun c o => pc_ld (off := o) (hgp ⟨0, tyFind, 1, c⟩)
          refine SW.condT (show Bv (decide ((used' : Int) = bud)) = Bv true by rw [decide_eq_true (by omega)]) ?_
          repeat (first | (with_reducible first | refine SW.seq ?_ | refine SW.block ?_ | refine SW.rowC ?_ | refine SW.skip ?_ | refine SW.exit ?_ | intro _ | refine And.intro (by omega) ?_) | simp (config := { maxSteps := 1000000 }) (disch := (first | omega | (simp only [go_sem]; try omega))) only [go_sem, Nat.reduceAdd, Nat.reduceEqDiff, Nat.reduceLeDiff, Nat.reduceMul, Nat.reduceLT, reduceIte, Int.reduceToNat, w64_id, cast_succ, hpa, hpl, hst7, hpa3, hpl3])
          refine SW.condT rfl ?_
          refine SW.ret ⟨_, rfl, GR.of ⟨rfl, cnt', used', true, rfl, huu, hu', by omega, fun _ => ⟨hub, hnone⟩, by simp⟩⟩
        · have hov : over = false := by
            cases over with
            | false => rfl
            | true => exact absurd (ho1 rfl).1 hub
          subst hov
          have hpa3 := fun c o => pc_alive (off := o) (hgp ⟨0, tyFind, 1, c⟩)
          have hpl3 := fun c o => pc_ld (off := o) (hgp ⟨0, tyFind, 1, c⟩)
          refine SW.condF (show Bv (decide ((used' : Int) = bud)) = Bv false by rw [decide_eq_false (by omega)]) ?_
          repeat (first | (with_reducible first | refine SW.seq ?_ | refine SW.block ?_ | refine SW.rowC ?_ | refine SW.skip ?_ | refine SW.exit ?_ | intro _ | refine And.intro (by omega) ?_) | simp (config := { maxSteps := 1000000 }) (disch := (first | omega | (simp only [go_sem]; try omega))) only [go_sem, Nat.reduceAdd, Nat.reduceEqDiff, Nat.reduceLeDiff, Nat.reduceMul, Nat.reduceLT, reduceIte, Int.reduceToNat, w64_id, cast_succ, hpa, hpl, hst5, hpa3, hpl3])
          refine SW.condF rfl ?_
          repeat (first | (with_reducible first | refine SW.seq ?_ | refine SW.block ?_ | refine SW.rowC ?_ | refine SW.skip ?_ | refine SW.exit ?_ | intro _ | refine And.intro (by omega) ?_) | simp (config := { maxSteps := 1000000 }) (disch := (first | omega | (simp only [go_sem]; try omega))) only [go_sem, Nat.reduceAdd, Nat.reduceEqDiff, Nat.reduceLeDiff, Nat.reduceMul, Nat.reduceLT, reduceIte, Int.reduceToNat, w64_id, cast_succ, hpa, hpl, hst5, hpa3, hpl3])
          have hrl : ∀ b ∈ B, b.length ≤ 2000000 := fun b hb => Nat.le_trans (asc_len32 (hbB b hb)) (by omega)
          have hag := ha.set (finB v k m s cnt' (used' + 1) bud false)
          have hgG := hgp (finB v k m s cnt' (used' + 1) bud false)
          have hBG : ∀ c1 u1 o1, HB (H.set p (finB v k m s c1 u1 bud o1)) := fun c1 u1 o1 b hb c hcc => by
            rw [List.length_set]
            rcases List.mem_or_eq_of_mem_set hb with hb | rfl
            · exact hB b hb c hcc
            · unfold finB at hcc
              simp only [List.mem_cons, List.not_mem_nil, or_false] at hcc
              rcases hcc with rfl | rfl | rfl | rfl | rfl | rfl | rfl | rfl <;> exact .lit _
          have hset2 : ∀ b, (H.set p (finB v k m s cnt' (used' + 1) bud false)).set p b = H.set p b := fun b => List.set_set ..
          have hlt' : p < (H.set p (finB v k m s cnt' (used' + 1) bud false)).length := by rw [List.length_set]; exact hlt
          have hGl : (H.set p (finB v k m s cnt' (used' + 1) bud false)).length = H.length := List.length_set
          rw [show (⟨0, tyFind, 1, [I v, I k, I m, I s, I cnt', I ((used' + 1 : Nat) : Int), I bud, Bv false]⟩ : Blk) = finB v k m s cnt' (used' + 1) bud false from rfl]
          generalize hG : H.set p (finB v k m s cnt' (used' + 1) bud false) = G at *
          have htl : (B.map ilS).take B.length = B.map ilS := List.take_of_length_le (by simp)
          refine (l06Own_arg (p := p) G a B hag (by omega) hrl).mono ?_
          rintro r1 H1 ⟨ver, rfl, rfl⟩
          repeat (first | (with_reducible first | refine SW.seq ?_ | refine SW.block ?_ | refine SW.rowC ?_ | refine SW.skip ?_ | refine SW.exit ?_ | intro _ | refine And.intro (by omega) ?_) | simp (config := { maxSteps := 1000000 }) (disch := (first | omega | (simp only [go_sem]; try omega))) only [go_sem, Nat.reduceAdd, Nat.reduceEqDiff, Nat.reduceLeDiff, Nat.reduceMul, Nat.reduceLT, reduceIte, Int.reduceToNat, w64_id, cast_succ, htl])
          refine (ih _ p _ (B ++ [x]) (i + 1) cnt' (used' + 1) (.inr ⟨G.length, ver + 1, by simp, by omega, by simp⟩) (by simp; omega) htk (by omega) (by omega) (by omega) (by rw [List.getElem?_append_left hlt']; exact hgG)).mono ?_
          rintro r1 H1 ⟨rfl, cnt2, used2, over2, rfl, hw1, hw2, hw3, hw4, hw5⟩
          rw [List.set_append_left _ _ hlt', hset2]
          obtain ⟨c0, g1, g2⟩ := ho2 rfl
          rw [cl_yes hf (by omega), Nat.sub_sub] at g2
          have hae := ha.bel
          repeat (first | (with_reducible first | refine SW.seq ?_ | refine SW.block ?_ | refine SW.rowC ?_ | refine SW.skip ?_ | refine SW.exit ?_ | intro _ | refine And.intro (by omega) ?_) | simp (config := { maxSteps := 1000000 }) (disch := (first | omega | (simp only [go_sem]; try omega))) only [go_sem, Nat.reduceAdd, Nat.reduceEqDiff, Nat.reduceLeDiff, Nat.reduceMul, Nat.reduceLT, reduceIte, Int.reduceToNat, w64_id, cast_succ])
          refine SLoop.nextT 0 (S.length - (i + 1)) (hBG _ _ _) (by simp) (by omega) (by simp) ?_ ?_ ⟨i + 1, cnt2, used2, over2, by omega, by omega, rfl, rfl, by simp [finB], by omega, hw2, by omega, fun h => ?_, fun h => ?_⟩
          · (simp only [go_sem, Nat.reduceAdd, Nat.reduceEqDiff, reduceIte, go_sem, and_self, and_true, true_and, implies_true, List.take_succ_cons, List.take_zero, and_true, true_and]; try omega)
            exact ⟨hlt, hae⟩
          · (simp only [go_sem, Nat.reduceAdd, Nat.reduceEqDiff, reduceIte, go_sem, and_self, and_true, true_and, implies_true, List.take_succ_cons, List.take_zero, and_true, true_and]; try omega)
          · obtain ⟨e1, e2⟩ := hw4 h
            rw [e2] at g2
            exact ⟨e1, g2⟩
          · obtain ⟨c, e1, e2⟩ := hw5 h
            rw [e2] at g2
            dsimp only at g2
            refine ⟨c0 + c, by omega, ?_⟩
            rw [g2]
            cases cl s B (S.drop (i + 1)) (r + 1) (bud - used2) with
            | none => rfl
            | some q => simp [Nat.add_assoc]
    · have : i = S.length := by omega
      subst this
      rw [List.drop_length] at ho2
      repeat (first | (with_reducible first | refine SW.seq ?_ | refine SW.block ?_ | refine SW.rowC ?_ | refine SW.skip ?_ | refine SW.exit ?_ | intro _ | refine And.intro (by omega) ?_) | simp (config := { maxSteps := 1000000 }) (disch := (first | omega | (simp only [go_sem]; try omega))) only [go_sem, Nat.reduceAdd, Nat.reduceEqDiff, Nat.reduceLeDiff, Nat.reduceMul, Nat.reduceLT, reduceIte, Int.reduceToNat, w64_id, cast_succ])
      refine ⟨_, rfl, GR.of ⟨rfl, cnt', used', over, rfl, huu, hu', by omega, ho1, fun h => ?_⟩⟩
      obtain ⟨c0, g1, g2⟩ := ho2 h
      exact ⟨c0, g1, by rw [g2]; rfl⟩
end Go.Proofs.Ythogadbnddmkdaa
