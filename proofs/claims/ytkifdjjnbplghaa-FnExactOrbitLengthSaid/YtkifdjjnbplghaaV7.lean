/- Groups of permutations: valid groups in the reference. -/
import Derived.Test.YtkifdjjnbplghaaProg
import Derived.KernelRfl
import Derived.Test.YtkifdjjnbplghaaV6
import Derived.Test.YtkifdjjnbplghaaK6
set_option linter.unusedSimpArgs false
set_option linter.unusedVariables false
set_option maxHeartbeats 4000000
set_option maxRecDepth 100000
namespace Go.Proofs.Ytkifdjjnbplghaa
open Go.Av

/-! The abstract code of functions, printed by program and tied to the program by the kernel. -/
/-- loop.example/g00920/spec.l05Generators -/
abbrev f_spec_l05Generators : Nat := 48
def c_spec_l05Generators : SC :=
 .seq (.reg [
     ⟨(some 4), .mv (.const (.slice none 0 0)), none⟩,
     ⟨(some 5), .mv (.const (.bool false)), none⟩] [0, 1])
 (.seq (.reg [
     ⟨(some 14), .bslice 25 1 0 [] [], none⟩,
     ⟨(some 6), .mv (.tmp 14), none⟩] [0, 1, 6])
 (.seq (.reg [
     ⟨(some 16), .mv (.tmp 0), none⟩,
     ⟨(some 17), .mv (.tmp 6), none⟩,
     ⟨(some 18), .call 68 [(.tmp 16), (.tmp 17), (.const (.int .i64 1))], none⟩,
     ⟨(some 15), .mv (.tmp 18), none⟩,
     ⟨(some 19), .ext (.tmp 15) 0, none⟩,
     ⟨(some 20), .ext (.tmp 15) 1, none⟩,
     ⟨(some 7), .mv (.tmp 19), none⟩,
     ⟨(some 8), .mv (.tmp 20), none⟩] [0, 1, 6, 7])
 (.seq (.seq (.reg [
     ⟨(some 9), .mv (.const (.int .i64 0)), none⟩] [0, 1, 6, 7, 9])
 (.block 0 (.loop [0, 1, 6, 7, 9]
   (.seq (.seq (.reg [
       ⟨(some 21), .mv (.tmp 9), none⟩,
       ⟨(some 22), .mv (.tmp 1), none⟩,
       ⟨(some 23), .len (.tmp 22), none⟩,
       ⟨(some 24), .bin .lss (.tmp 21) (.tmp 23), none⟩] [0, 1, 6, 7, 9, 24])
   (.cond (.tmp 24)
    (.skip)
    (.exit 0)))
   (.seq (.block 1 (.seq (.reg [
        ⟨(some 28), .mv (.tmp 7), none⟩,
        ⟨(some 29), .mv (.tmp 1), none⟩,
        ⟨(some 30), .mv (.tmp 9), none⟩,
        ⟨(some 31), .iaddr 1 (.tmp 29) (.tmp 30), none⟩,
        ⟨(some 32), .load 1 false (.tmp 31), none⟩,
        ⟨(some 33), .call 69 [(.tmp 28), (.tmp 32)], none⟩,
        ⟨(some 27), .mv (.tmp 33), none⟩,
        ⟨(some 34), .ext (.tmp 27) 0, none⟩,
        ⟨(some 35), .ext (.tmp 27) 1, none⟩,
        ⟨(some 10), .mv (.tmp 34), none⟩,
        ⟨(some 11), .mv (.tmp 35), none⟩] [0, 1, 6, 7, 9, 11])
    (.seq (.seq (.reg [
        ⟨(some 36), .mv (.tmp 11), none⟩] [0, 1, 6, 7, 9, 36])
    (.cond (.tmp 36)
     (.exit 1)
     (.skip)))
    (.seq (.reg [
        ⟨(some 37), .mv (.tmp 6), none⟩,
        ⟨(some 38), .mv (.tmp 1), none⟩,
        ⟨(some 39), .mv (.tmp 9), none⟩,
        ⟨(some 40), .iaddr 1 (.tmp 38) (.tmp 39), none⟩,
        ⟨(some 41), .load 1 false (.tmp 40), none⟩,
        ⟨(some 42), .call 50 [(.tmp 41)], none⟩,
        ⟨(some 43), .bslice 25 1 1 [(.slice none 0 0)] [(0, (.tmp 42))], none⟩,
        ⟨(some 44), .app 25 1 24 (.tmp 37) (.tmp 43), none⟩,
        ⟨(some 6), .mv (.tmp 44), none⟩] [0, 1, 6, 9])
    (.seq (.reg [
        ⟨(some 46), .mv (.tmp 0), none⟩,
        ⟨(some 47), .mv (.tmp 6), none⟩,
        ⟨(some 48), .mv (.tmp 1), none⟩,
        ⟨(some 49), .len (.tmp 48), none⟩,
        ⟨(some 50), .call 68 [(.tmp 46), (.tmp 47), (.tmp 49)], none⟩,
        ⟨(some 45), .mv (.tmp 50), none⟩,
        ⟨(some 51), .ext (.tmp 45) 0, none⟩,
        ⟨(some 52), .ext (.tmp 45) 1, none⟩,
        ⟨(some 12), .mv (.tmp 51), none⟩,
        ⟨(some 13), .mv (.tmp 52), none⟩] [0, 1, 6, 9, 12, 13])
    (.seq (.seq (.reg [
        ⟨(some 53), .mv (.tmp 13), none⟩,
        ⟨(some 54), .un .not (.tmp 53), none⟩] [0, 1, 6, 9, 12, 54])
    (.cond (.tmp 54)
     (.seq (.reg [
         ⟨(some 4), .mv (.const (.slice none 0 0)), none⟩,
         ⟨(some 5), .mv (.const (.bool false)), none⟩] [4, 5])
     (.ret))
     (.skip)))
    (.reg [
        ⟨(some 55), .mv (.tmp 12), none⟩,
        ⟨(some 7), .mv (.tmp 55), none⟩] [0, 1, 6, 7, 9])))))))
   (.reg [
       ⟨(some 25), .mv (.tmp 9), none⟩,
       ⟨(some 26), .bin .add (.tmp 25) (.const (.int .i64 1)), none⟩,
       ⟨(some 9), .mv (.tmp 26), none⟩] [0, 1, 6, 7, 9]))))))
 (.seq (.reg [
     ⟨(some 56), .mv (.tmp 6), none⟩,
     ⟨(some 57), .mv (.tmp 7), none⟩,
     ⟨(some 58), .mv (.tmp 1), none⟩,
     ⟨(some 59), .call 70 [(.tmp 57), (.tmp 58)], none⟩,
     ⟨(some 4), .mv (.tmp 56), none⟩,
     ⟨(some 5), .mv (.tmp 59), none⟩] [4, 5])
 (.ret)))))
theorem s_spec_l05Generators : stripF Try.prog 48 [[0, 1], [0, 1, 6], [0, 1, 6, 7], [0, 1, 6, 7, 9], [0, 1, 6, 7, 9], [0, 1, 6, 7, 9, 24], [0, 1, 6, 7, 9, 11], [0, 1, 6, 7, 9, 36], [0, 1, 6, 9], [0, 1, 6, 9, 12, 13], [0, 1, 6, 9, 12, 54], [4, 5], [0, 1, 6, 7, 9], [0, 1, 6, 7, 9], [4, 5]] = some (c_spec_l05Generators, [.tmp 4, .tmp 5], 60) := by kernel_rfl

/-- loop.example/g00920/spec.l10Same -/
abbrev f_spec_l10Same : Nat := 70
def c_spec_l10Same : SC :=
 .seq (.reg [
     ⟨(some 4), .mv (.const (.bool false)), none⟩] [0, 1])
 (.seq (.seq (.reg [
     ⟨(some 6), .mv (.tmp 0), none⟩,
     ⟨(some 7), .len (.tmp 6), none⟩,
     ⟨(some 8), .mv (.tmp 1), none⟩,
     ⟨(some 9), .len (.tmp 8), none⟩,
     ⟨(some 10), .bin .neq (.tmp 7) (.tmp 9), none⟩] [0, 1, 10])
 (.cond (.tmp 10)
  (.seq (.reg [
      ⟨(some 4), .mv (.const (.bool false)), none⟩] [4])
  (.ret))
  (.skip)))
 (.seq (.seq (.reg [
     ⟨(some 5), .mv (.const (.int .i64 0)), none⟩] [0, 1, 5])
 (.block 0 (.loop [0, 1, 5]
   (.seq (.seq (.reg [
       ⟨(some 11), .mv (.tmp 5), none⟩,
       ⟨(some 12), .mv (.tmp 0), none⟩,
       ⟨(some 13), .len (.tmp 12), none⟩,
       ⟨(some 14), .bin .lss (.tmp 11) (.tmp 13), none⟩] [0, 1, 5, 14])
   (.cond (.tmp 14)
    (.skip)
    (.exit 0)))
   (.seq (.block 1 (.seq (.reg [
        ⟨(some 17), .mv (.tmp 0), none⟩,
        ⟨(some 18), .mv (.tmp 5), none⟩,
        ⟨(some 19), .iaddr 1 (.tmp 17) (.tmp 18), none⟩,
        ⟨(some 20), .load 1 false (.tmp 19), none⟩,
        ⟨(some 21), .mv (.tmp 1), none⟩,
        ⟨(some 22), .mv (.tmp 5), none⟩,
        ⟨(some 23), .iaddr 1 (.tmp 21) (.tmp 22), none⟩,
        ⟨(some 24), .load 1 false (.tmp 23), none⟩,
        ⟨(some 25), .qcall 85 [(.tmp 20), (.tmp 24)], none⟩,
        ⟨(some 26), .un .not (.tmp 25), none⟩] [0, 1, 5, 26])
    (.cond (.tmp 26)
     (.seq (.reg [
         ⟨(some 4), .mv (.const (.bool false)), none⟩] [4])
     (.ret))
     (.skip))))
   (.reg [
       ⟨(some 15), .mv (.tmp 5), none⟩,
       ⟨(some 16), .bin .add (.tmp 15) (.const (.int .i64 1)), none⟩,
       ⟨(some 5), .mv (.tmp 16), none⟩] [0, 1, 5]))))))
 (.seq (.reg [
     ⟨(some 4), .mv (.const (.bool true)), none⟩] [4])
 (.ret))))
theorem s_spec_l10Same : stripF Try.prog 70 [[0, 1], [0, 1, 10], [4], [0, 1, 5], [0, 1, 5], [0, 1, 5, 14], [0, 1, 5, 26], [4], [0, 1, 5], [4]] = some (c_spec_l10Same, [.tmp 4], 27) := by kernel_rfl

/-- loop.example/g00920/spec.l00Same -/
abbrev f_spec_l00Same : Nat := 85
def c_spec_l00Same : SC :=
 .seq (.reg [
     ⟨(some 4), .mv (.const (.bool false)), none⟩] [0, 1])
 (.seq (.seq (.reg [
     ⟨(some 6), .mv (.tmp 0), none⟩,
     ⟨(some 7), .len (.tmp 6), none⟩,
     ⟨(some 8), .mv (.tmp 1), none⟩,
     ⟨(some 9), .len (.tmp 8), none⟩,
     ⟨(some 10), .bin .neq (.tmp 7) (.tmp 9), none⟩] [0, 1, 10])
 (.cond (.tmp 10)
  (.seq (.reg [
      ⟨(some 4), .mv (.const (.bool false)), none⟩] [4])
  (.ret))
  (.skip)))
 (.seq (.seq (.reg [
     ⟨(some 5), .mv (.const (.int .i64 0)), none⟩] [0, 1, 5])
 (.block 0 (.loop [0, 1, 5]
   (.seq (.seq (.reg [
       ⟨(some 11), .mv (.tmp 5), none⟩,
       ⟨(some 12), .mv (.tmp 0), none⟩,
       ⟨(some 13), .len (.tmp 12), none⟩,
       ⟨(some 14), .bin .lss (.tmp 11) (.tmp 13), none⟩] [0, 1, 5, 14])
   (.cond (.tmp 14)
    (.skip)
    (.exit 0)))
   (.seq (.block 1 (.seq (.reg [
        ⟨(some 17), .mv (.tmp 0), none⟩,
        ⟨(some 18), .mv (.tmp 5), none⟩,
        ⟨(some 19), .iaddr 1 (.tmp 17) (.tmp 18), none⟩,
        ⟨(some 20), .load 1 false (.tmp 19), none⟩,
        ⟨(some 21), .mv (.tmp 1), none⟩,
        ⟨(some 22), .mv (.tmp 5), none⟩,
        ⟨(some 23), .iaddr 1 (.tmp 21) (.tmp 22), none⟩,
        ⟨(some 24), .load 1 false (.tmp 23), none⟩,
        ⟨(some 25), .bin .neq (.tmp 20) (.tmp 24), none⟩] [0, 1, 5, 25])
    (.cond (.tmp 25)
     (.seq (.reg [
         ⟨(some 4), .mv (.const (.bool false)), none⟩] [4])
     (.ret))
     (.skip))))
   (.reg [
       ⟨(some 15), .mv (.tmp 5), none⟩,
       ⟨(some 16), .bin .add (.tmp 15) (.const (.int .i64 1)), none⟩,
       ⟨(some 5), .mv (.tmp 16), none⟩] [0, 1, 5]))))))
 (.seq (.reg [
     ⟨(some 4), .mv (.const (.bool true)), none⟩] [4])
 (.ret))))
theorem s_spec_l00Same : stripF Try.prog 85 [[0, 1], [0, 1, 10], [4], [0, 1, 5], [0, 1, 5], [0, 1, 5, 14], [0, 1, 5, 25], [4], [0, 1, 5], [4]] = some (c_spec_l00Same, [.tmp 4], 26) := by kernel_rfl


theorem l00SameV_ok (H : List Blk) (a b : AV) (xs ys : List Int) (ha : RdS H a xs) (hb : RdS H b ys) :
    ACalls Try.prog f_spec_l00Same [a, b] H (fun r H' => r = Bv (decide (xs = ys)) ∧ H' = H) := eqS_of s_spec_l00Same H a b xs ys ha hb
theorem l10SameV_fn (xs ys : List (List Int)) : PFn Try.prog f_spec_l10Same [ilSS xs, ilSS ys] (Bv (decide (xs = ys))) := fun H => eqSS_of s_spec_l10Same l00SameV_ok H _ _ xs ys (rd_ilSS _ _) (rd_ilSS _ _)
theorem l00OwnV_fn (xs : List Int) (hl : xs.length ≤ 2000000) : PFn Try.prog f_spec_l00Own [ilS xs] (ilS xs) := by
  intro H; refine ACalls.introB s_spec_l00Own (by simp) ?_; intro hB hA; unfold c_spec_l00Own; simp (config := { maxSteps := 1000000 }) (disch := (first | omega | (simp only [go_sem]; try omega))) only [go_sem, Nat.reduceAdd, Nat.reduceEqDiff, Nat.reduceLeDiff, Nat.reduceMul, Nat.reduceLT, reduceIte, Int.reduceToNat, w64_id, cast_succ]
  repeat (first | (with_reducible first | refine SW.seq ?_ | refine SW.block ?_ | refine SW.rowC ?_ | refine SW.skip ?_ | refine SW.exit ?_ | intro _ | refine And.intro (by omega) ?_) | simp (config := { maxSteps := 1000000 }) (disch := (first | omega | (simp only [go_sem]; try omega))) only [go_sem, Nat.reduceAdd, Nat.reduceEqDiff, Nat.reduceLeDiff, Nat.reduceMul, Nat.reduceLT, reduceIte, Int.reduceToNat, w64_id, cast_succ])
  refine SW.ret ?_; (try simp only [go_sem]); (first | refine FunPost.one ?_ | refine FunPost.two ?_ | refine FunPost.three ?_); (try simp (config := { maxSteps := 1000000 }) (disch := (first | omega | (simp only [go_sem]; try omega))) only [go_sem, Nat.reduceAdd, Nat.reduceEqDiff, Nat.reduceLeDiff, Nat.reduceMul, Nat.reduceLT, reduceIte, Int.reduceToNat, w64_id, cast_succ])
  exact GR.froz (froz_rowI (r := H.length) (ver := 1) (ty := 2) (Nat.le_refl _) (by simp)) ⟨rfl, rfl⟩

open Classical in
noncomputable def closB (n : Nat) (els : List (List Int)) : Bool := decide (Closed n els)
theorem closB_t {n : Nat} {els : List (List Int)} : closB n els = true ↔ Closed n els := by unfold closB; simp
theorem closB_f {n : Nat} {els : List (List Int)} : closB n els = false ↔ ¬ Closed n els := by unfold closB; simp

theorem l05Generators_ok (H : List Blk) (n : Nat) (els : List (List Int)) (hn1 : 1 ≤ n) (hn : n ≤ 32) (hp : ∀ p ∈ els, permOk n p) (hl1 : 1 ≤ els.length) (hl : els.length ≤ 720) (hasc : Asc cmpL els) :
    ACalls Try.prog f_spec_l05Generators [I n, ilSS els] H (fun r H' => ∃ G : List (List Int), r = .tup [ilSS G, Bv (closB n els)] ∧ H' = H) := by
  refine ACalls.introB s_spec_l05Generators (by simp) ?_; intro hB hA; unfold c_spec_l05Generators; simp (config := { maxSteps := 1000000 }) (disch := (first | omega | (simp only [go_sem]; try omega))) only [go_sem, Nat.reduceAdd, Nat.reduceEqDiff, Nat.reduceLeDiff, Nat.reduceMul, Nat.reduceLT, reduceIte, Int.reduceToNat, w64_id, cast_succ]
  repeat (first | (with_reducible first | refine SW.seq ?_ | refine SW.block ?_ | refine SW.rowC ?_ | refine SW.skip ?_ | refine SW.exit ?_ | intro _ | refine And.intro (by omega) ?_) | simp (config := { maxSteps := 1000000 }) (disch := (first | omega | (simp only [go_sem]; try omega))) only [go_sem, Nat.reduceAdd, Nat.reduceEqDiff, Nat.reduceLeDiff, Nat.reduceMul, Nat.reduceLT, reduceIte, Int.reduceToNat, w64_id, cast_succ])
  have hc0 := l05Close_ok (H ++ [(⟨0, tyLL, 1, []⟩ : Blk)]) n 1 (.nm H.length 0 0 0) [] hn1 hn (by omega) (by omega) (view_nm (ver := 0) (ty := tyLL) (cells := []) (by simp) rfl) (by simp) (by simp)
  rw [genL_some (genList_nil n) (show [idL n].length ≤ 1 by simp)] at hc0
  refine ACalls.fn hc0 ?_
  simp only [closAV]
  repeat (first | (with_reducible first | refine SW.seq ?_ | refine SW.block ?_ | refine SW.rowC ?_ | refine SW.skip ?_ | refine SW.exit ?_ | intro _ | refine And.intro (by omega) ?_) | simp (config := { maxSteps := 1000000 }) (disch := (first | omega | (simp only [go_sem]; try omega))) only [go_sem, Nat.reduceAdd, Nat.reduceEqDiff, Nat.reduceLeDiff, Nat.reduceMul, Nat.reduceLT, reduceIte, Int.reduceToNat, w64_id, cast_succ])
  refine SW.loopE (fun E0 H0 q E' H' => ∃ (pre post G A : List (List Int)) (ver : Nat), els = pre ++ post ∧ q = post.length ∧ E' = aput (aput (aput E0 9 (I pre.length)) 6 (.nm H.length ver 0 G.length)) 7 (ilSS A) ∧ H' = H ++ [⟨ver, tyLL, 1, G.map ilS⟩] ∧ (∀ g ∈ G, g ∈ pre) ∧ G.length ≤ pre.length ∧ GenList n G A ∧ A.length ≤ els.length ∧ (∀ p ∈ pre, p ∈ A)) els.length ⟨[], els, [], [idL n], 0, rfl, rfl, rfl, rfl, by simp, by simp, genList_nil n, by simpa using hl1, by simp⟩ ?_
  rintro q E' H' ⟨pre, post, G, A, ver, hpp, rfl, rfl, rfl, hGp, hGl, hGL, hAl, hAp⟩
  have hprl : pre.length ≤ 720 := by rw [hpp] at hl; simp at hl; omega
  simp (config := { maxSteps := 1000000 }) (disch := (first | omega | (simp only [go_sem]; try omega))) only [go_sem, Nat.reduceAdd, Nat.reduceEqDiff, Nat.reduceLeDiff, Nat.reduceMul, Nat.reduceLT, reduceIte, Int.reduceToNat, w64_id, cast_succ]
  repeat (first | (with_reducible first | refine SW.seq ?_ | refine SW.block ?_ | refine SW.rowC ?_ | refine SW.skip ?_ | refine SW.exit ?_ | intro _ | refine And.intro (by omega) ?_) | simp (config := { maxSteps := 1000000 }) (disch := (first | omega | (simp only [go_sem]; try omega))) only [go_sem, Nat.reduceAdd, Nat.reduceEqDiff, Nat.reduceLeDiff, Nat.reduceMul, Nat.reduceLT, reduceIte, Int.reduceToNat, w64_id, cast_succ])
  (first | refine SW.condD rfl (fun h2 => ?_) (fun h2 => ?_) | refine SW.condN rfl (fun h2 => ?_) (fun h2 => ?_) | refine SW.condNB rfl (fun h2 => ?_) (fun h2 => ?_) | refine SW.condB rfl (fun h2 => ?_) (fun h2 => ?_))
  · obtain ⟨p, post, rfl, hgp, -⟩ := consOf (d := []) hpp (by omega)
    have hpm : p ∈ els := by rw [hpp]; simp
    have hpo := hp p hpm
    have hfd := l05Find_fn A p hGL.1 (by omega)
    have hab : Bel (H.length + 1) (ilSS els) := by rw [Bel_ilSS]; trivial
    have htl : (G.map ilS).take G.length = G.map ilS := List.take_of_length_le (by simp)
    have hGB : ∀ (G : List (List Int)) (c : AV), c ∈ G.map ilS → Bel (H.length + 1) c := fun G c hc => by
      obtain ⟨x, _, rfl⟩ := List.mem_map.1 hc
      rw [Bel_ilS]; trivial
    by_cases hm : p ∈ A
    · have dd := decide_eq_true hm
      repeat (first | (with_reducible first | refine SW.seq ?_ | refine SW.block ?_ | refine SW.rowC ?_ | refine SW.skip ?_ | refine SW.exit ?_ | refine PFn.use (hfd) ?_ | refine PFn.useq (hfd) ?_ | intro _ | refine And.intro (by omega) ?_) | simp (config := { maxSteps := 1000000 }) (disch := (first | omega | (simp only [go_sem]; try omega))) only [go_sem, Nat.reduceAdd, Nat.reduceEqDiff, Nat.reduceLeDiff, Nat.reduceMul, Nat.reduceLT, reduceIte, Int.reduceToNat, w64_id, cast_succ, hgp, dd])
      refine SW.condT rfl ?_
      repeat (first | (with_reducible first | refine SW.seq ?_ | refine SW.block ?_ | refine SW.rowC ?_ | refine SW.skip ?_ | refine SW.exit ?_ | intro _ | refine And.intro (by omega) ?_) | simp (config := { maxSteps := 1000000 }) (disch := (first | omega | (simp only [go_sem]; try omega))) only [go_sem, Nat.reduceAdd, Nat.reduceEqDiff, Nat.reduceLeDiff, Nat.reduceMul, Nat.reduceLT, reduceIte, Int.reduceToNat, w64_id, cast_succ])
      refine SLoop.next post.length (by simp) ⟨pre ++ [p], post, G, A, ver, by simp [hpp], rfl, by simp [go_sem], rfl, fun g hg => List.mem_append_left _ (hGp g hg), by simp; omega, hGL, hAl, fun q hq => ?_⟩
      rcases List.mem_append.1 hq with h | h
      · exact hAp q h
      · rw [List.mem_singleton.1 h]; exact hm
    · have dd := decide_eq_false hm
      have how := l00OwnV_fn p (by rw [hpo.1]; omega)
      have hgo : ∀ g ∈ G ++ [p], permOk n g := fun g hg => by
        rcases List.mem_append.1 hg with h | h
        · exact hp g (by rw [hpp]; exact List.mem_append_left _ (hGp g h))
        · rw [List.mem_singleton.1 h]; exact hpo
      repeat (first | (with_reducible first | refine SW.seq ?_ | refine SW.block ?_ | refine SW.rowC ?_ | refine SW.skip ?_ | refine SW.exit ?_ | refine PFn.use (hfd) ?_ | refine PFn.useq (hfd) ?_ | intro _ | refine And.intro (by omega) ?_) | simp (config := { maxSteps := 1000000 }) (disch := (first | omega | (simp only [go_sem]; try omega))) only [go_sem, Nat.reduceAdd, Nat.reduceEqDiff, Nat.reduceLeDiff, Nat.reduceMul, Nat.reduceLT, reduceIte, Int.reduceToNat, w64_id, cast_succ, hgp, dd])
      refine SW.condF rfl ?_
      repeat (first | (with_reducible first | refine SW.seq ?_ | refine SW.block ?_ | refine SW.rowC ?_ | refine SW.skip ?_ | refine SW.exit ?_ | refine PFn.use (how) ?_ | refine PFn.useq (how) ?_ | intro _ | refine And.intro (by omega) ?_) | simp (config := { maxSteps := 1000000 }) (disch := (first | omega | (simp only [go_sem]; try omega))) only [go_sem, Nat.reduceAdd, Nat.reduceEqDiff, Nat.reduceLeDiff, Nat.reduceMul, Nat.reduceLT, reduceIte, Int.reduceToNat, w64_id, cast_succ, hgp, htl])
      have hview : aview (H ++ [(⟨ver + 1, tyLL, 1, (G ++ [p]).map ilS⟩ : Blk), ⟨0, tyLL, 1, [ilS p]⟩]) (.nm H.length (ver + 1) 0 (G.length + 1)) = some ((G ++ [p]).length, (G ++ [p]).map ilS) := by
        have := view_nm (H := H ++ [(⟨ver + 1, tyLL, 1, (G ++ [p]).map ilS⟩ : Blk), ⟨0, tyLL, 1, [ilS p]⟩]) (r := H.length) (ver := ver + 1) (ty := tyLL) (cells := (G ++ [p]).map ilS) (n := G.length + 1) (by simp) (by simp)
        rw [this]; simp
      refine ACalls.fn (l05Close_ok _ n els.length _ (G ++ [p]) hn1 hn hl1 hl hview hgo (by simp; omega)) ?_
      have hG' : (∀ g ∈ G ++ [p], g ∈ pre ++ [p]) ∧ (G ++ [p]).length ≤ (pre ++ [p]).length := by
        refine ⟨fun g hg => ?_, by simp; omega⟩
        rcases List.mem_append.1 hg with h | h
        · exact List.mem_append_left _ (hGp g h)
        · exact List.mem_append_right _ h
      have hsub : ∀ g ∈ G ++ [p], g ∈ els := fun g hg => by
        have := hG'.1 g hg
        rw [hpp]
        rcases List.mem_append.1 this with h | h
        · exact List.mem_append_left _ h
        · rw [List.mem_singleton.1 h]; simp
      cases hgn : genL n (G ++ [p]) els.length with
      | none =>
        simp only [closAV]
        repeat (first | (with_reducible first | refine SW.seq ?_ | refine SW.block ?_ | refine SW.rowC ?_ | refine SW.skip ?_ | refine SW.exit ?_ | intro _ | refine And.intro (by omega) ?_) | simp (config := { maxSteps := 1000000 }) (disch := (first | omega | (simp only [go_sem]; try omega))) only [go_sem, Nat.reduceAdd, Nat.reduceEqDiff, Nat.reduceLeDiff, Nat.reduceMul, Nat.reduceLT, reduceIte, Int.reduceToNat, w64_id, cast_succ])
        refine SW.condT rfl ?_
        repeat (first | (with_reducible first | refine SW.seq ?_ | refine SW.block ?_ | refine SW.rowC ?_ | refine SW.skip ?_ | refine SW.exit ?_ | intro _ | refine And.intro (by omega) ?_) | simp (config := { maxSteps := 1000000 }) (disch := (first | omega | (simp only [go_sem]; try omega))) only [go_sem, Nat.reduceAdd, Nat.reduceEqDiff, Nat.reduceLeDiff, Nat.reduceMul, Nat.reduceLT, reduceIte, Int.reduceToNat, w64_id, cast_succ])
        refine SW.ret ?_; (try simp only [go_sem]); (first | refine FunPost.one ?_ | refine FunPost.two ?_ | refine FunPost.three ?_); (try simp (config := { maxSteps := 1000000 }) (disch := (first | omega | (simp only [go_sem]; try omega))) only [go_sem, Nat.reduceAdd, Nat.reduceEqDiff, Nat.reduceLeDiff, Nat.reduceMul, Nat.reduceLT, reduceIte, Int.reduceToNat, w64_id, cast_succ])
        have hF : closB n els = false := closB_f.2 fun hc => by
          obtain ⟨L, hL, _⟩ := closed_small hc hasc hsub (Nat.le_refl _)
          rw [hgn] at hL; cases hL
        rw [hF]
        exact GR.froz (r' := .tup [ilSS [], Bv false]) (froz_tup2 .nil (.old _ (.lit _))) ⟨[], rfl, rfl⟩
      | some A2 =>
        have hGL2 := genL_inv hgn
        simp only [closAV]
        repeat (first | (with_reducible first | refine SW.seq ?_ | refine SW.block ?_ | refine SW.rowC ?_ | refine SW.skip ?_ | refine SW.exit ?_ | intro _ | refine And.intro (by omega) ?_) | simp (config := { maxSteps := 1000000 }) (disch := (first | omega | (simp only [go_sem]; try omega))) only [go_sem, Nat.reduceAdd, Nat.reduceEqDiff, Nat.reduceLeDiff, Nat.reduceMul, Nat.reduceLT, reduceIte, Int.reduceToNat, w64_id, cast_succ])
        refine SW.condF rfl ?_
        repeat (first | (with_reducible first | refine SW.seq ?_ | refine SW.block ?_ | refine SW.rowC ?_ | refine SW.skip ?_ | refine SW.exit ?_ | intro _ | refine And.intro (by omega) ?_) | simp (config := { maxSteps := 1000000 }) (disch := (first | omega | (simp only [go_sem]; try omega))) only [go_sem, Nat.reduceAdd, Nat.reduceEqDiff, Nat.reduceLeDiff, Nat.reduceMul, Nat.reduceLT, reduceIte, Int.reduceToNat, w64_id, cast_succ])
        refine SLoop.nextT 1 post.length hB (by omega) (by simp) (by simp) ?_ ?_ ⟨pre ++ [p], post, G ++ [p], A2, ver + 1, by simp [hpp], rfl, by simp [go_sem], rfl, hG'.1, hG'.2, hGL2.1, hGL2.2, fun q hq => ?_⟩
        · (simp only [go_sem, Nat.reduceAdd, Nat.reduceEqDiff, reduceIte, go_sem, and_self, and_true, true_and, implies_true, List.take_succ_cons, List.take_zero, and_true, true_and]; try omega)
        · simp only [List.take_succ_cons, List.take_zero, BB_cons, BB_nil, and_true]
          exact hGB _
        · rw [hGL2.1.2]
          rcases List.mem_append.1 hq with h | h
          · exact Gen.mono (fun g hg => List.mem_append_left _ hg) ((hGL.2 q).1 (hAp q h))
          · rw [List.mem_singleton.1 h]; exact Gen.gen hpo (by simp)
  · obtain ⟨rfl, rfl⟩ := nilOf hpp (by omega)
    have hsm := l10SameV_fn A pre
    have hci := closed_iff hp hasc hGp hGL hAp
    have hd : decide (A = pre) = closB n pre := by
      rw [Bool.eq_iff_iff, decide_eq_true_eq, closB_t]
      constructor
      · rintro rfl
        exact hci.2 rfl
      · intro hc
        exact asc_uniq cmpL_tot hGL.1 hasc (fun p => ⟨fun h => hc p (((hGL.2 p).1 h).mono hGp), hAp p⟩)
    rw [hd] at hsm
    repeat (first | (with_reducible first | refine SW.seq ?_ | refine SW.block ?_ | refine SW.rowC ?_ | refine SW.skip ?_ | refine SW.exit ?_ | refine PFn.use (hsm) ?_ | refine PFn.useq (hsm) ?_ | intro _ | refine And.intro (by omega) ?_) | simp (config := { maxSteps := 1000000 }) (disch := (first | omega | (simp only [go_sem]; try omega))) only [go_sem, Nat.reduceAdd, Nat.reduceEqDiff, Nat.reduceLeDiff, Nat.reduceMul, Nat.reduceLT, reduceIte, Int.reduceToNat, w64_id, cast_succ])
    refine SW.ret ?_; (try simp only [go_sem]); (first | refine FunPost.one ?_ | refine FunPost.two ?_ | refine FunPost.three ?_); (try simp (config := { maxSteps := 1000000 }) (disch := (first | omega | (simp only [go_sem]; try omega))) only [go_sem, Nat.reduceAdd, Nat.reduceEqDiff, Nat.reduceLeDiff, Nat.reduceMul, Nat.reduceLT, reduceIte, Int.reduceToNat, w64_id, cast_succ])
    refine GR.froz (r' := .tup [ilSS G, Bv (closB n pre)]) (froz_tup2 ?_ (.old _ (.lit _))) ⟨G, rfl, rfl⟩
    exact froz_rowsS (ver := ver) (ty := tyLL) (by omega) (by simp)
end Go.Proofs.Ytkifdjjnbplghaa
