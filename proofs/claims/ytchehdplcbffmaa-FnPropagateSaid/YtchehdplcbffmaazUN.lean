/- Forced cells: the law. -/
import Derived.Test.YtchehdplcbffmaaProg
import Derived.KernelRfl
import Derived.Test.YtchehdplcbffmaazUM
set_option linter.unusedSimpArgs false
set_option linter.unusedVariables false
set_option maxHeartbeats 4000000
set_option maxRecDepth 100000
namespace Go.Proofs.Ytchehdplcbffmaa
open Go.Av
abbrev f_laws_FnPropagate : Nat := 4
def c_laws_FnPropagate : SC :=
 .seq (.reg [
     ⟨(some 2), .mv (.const (.bool false)), none⟩] [0])
 (.seq (.seq (.reg [
     ⟨(some 10), .mv (.tmp 0), none⟩,
     ⟨(some 11), .call 8 [(.tmp 10)], none⟩] [0, 11])
 (.cond (.tmp 11)
  (.seq (.reg [
      ⟨(some 2), .mv (.const (.bool true)), none⟩] [2])
  (.ret))
  (.skip)))
 (.seq (.reg [
     ⟨(some 12), .mv (.tmp 0), none⟩,
     ⟨(some 13), .call 16 [(.tmp 12)], none⟩,
     ⟨(some 3), .mv (.tmp 13), none⟩] [3])
 (.seq (.reg [
     ⟨(some 15), .mv (.tmp 3), none⟩,
     ⟨(some 16), .call 17 [(.tmp 15)], none⟩,
     ⟨(some 14), .mv (.tmp 16), none⟩,
     ⟨(some 17), .ext (.tmp 14) 0, none⟩,
     ⟨(some 18), .ext (.tmp 14) 1, none⟩,
     ⟨(some 4), .mv (.tmp 17), none⟩,
     ⟨(some 5), .mv (.tmp 18), none⟩] [3, 4, 5])
 (.seq (.reg [
     ⟨(some 20), .mv (.tmp 3), none⟩,
     ⟨(some 21), .call 18 [(.tmp 20), (.const (.int .i64 20000))], none⟩,
     ⟨(some 19), .mv (.tmp 21), none⟩,
     ⟨(some 22), .ext (.tmp 19) 0, none⟩,
     ⟨(some 23), .ext (.tmp 19) 1, none⟩,
     ⟨(some 6), .mv (.tmp 22), none⟩,
     ⟨(some 7), .mv (.tmp 23), none⟩] [3, 4, 5, 6, 7])
 (.seq (.seq (.reg [
     ⟨(some 24), .mv (.tmp 5), none⟩,
     ⟨(some 25), .bin .eql (.tmp 24) (.const (.int .i64 1)), none⟩] [3, 4, 5, 6, 7, 25])
 (.cond (.tmp 25)
  (.seq (.reg [
      ⟨(some 26), .mv (.tmp 7), none⟩,
      ⟨(some 27), .bin .eql (.tmp 26) (.const (.int .i64 1)), none⟩,
      ⟨(some 2), .mv (.tmp 27), none⟩] [2])
  (.ret))
  (.skip)))
 (.seq (.seq (.reg [
     ⟨(some 28), .mv (.tmp 5), none⟩,
     ⟨(some 29), .bin .eql (.tmp 28) (.const (.int .i64 3)), none⟩] [3, 4, 5, 6, 7, 29])
 (.cond (.tmp 29)
  (.seq (.reg [
      ⟨(some 30), .mv (.tmp 7), none⟩,
      ⟨(some 31), .bin .eql (.tmp 30) (.const (.int .i64 3)), none⟩,
      ⟨(some 32), .mv (.tmp 31), none⟩,
      ⟨(some 33), .mv (.tmp 7), (some (32, false))⟩,
      ⟨(some 34), .bin .eql (.tmp 33) (.const (.int .i64 5)), (some (32, false))⟩,
      ⟨(some 35), .pick (.tmp 32) (.const (.bool true)) (.tmp 34), none⟩,
      ⟨(some 2), .mv (.tmp 35), none⟩] [2])
  (.ret))
  (.skip)))
 (.seq (.reg [
     ⟨(some 37), .mv (.tmp 4), none⟩,
     ⟨(some 38), .call 18 [(.tmp 37), (.const (.int .i64 20000))], none⟩,
     ⟨(some 36), .mv (.tmp 38), none⟩,
     ⟨(some 39), .ext (.tmp 36) 0, none⟩,
     ⟨(some 40), .ext (.tmp 36) 1, none⟩,
     ⟨(some 8), .mv (.tmp 39), none⟩,
     ⟨(some 9), .mv (.tmp 40), none⟩] [3, 4, 5, 6, 7, 8, 9])
 (.seq (.seq (.reg [
     ⟨(some 41), .mv (.tmp 5), none⟩,
     ⟨(some 42), .bin .neq (.tmp 41) (.const (.int .i64 0)), none⟩,
     ⟨(some 43), .mv (.tmp 42), none⟩,
     ⟨(some 44), .mv (.tmp 4), (some (43, false))⟩,
     ⟨(some 45), .call 19 [(.tmp 44)], (some (43, false))⟩,
     ⟨(some 46), .un .not (.tmp 45), (some (43, false))⟩,
     ⟨(some 47), .pick (.tmp 43) (.const (.bool true)) (.tmp 46), none⟩,
     ⟨(some 48), .mv (.tmp 47), none⟩,
     ⟨(some 49), .mv (.tmp 3), (some (48, false))⟩,
     ⟨(some 50), .mv (.tmp 4), (some (48, false))⟩,
     ⟨(some 51), .call 20 [(.tmp 49), (.tmp 50)], (some (48, false))⟩,
     ⟨(some 52), .un .not (.tmp 51), (some (48, false))⟩,
     ⟨(some 53), .pick (.tmp 48) (.const (.bool true)) (.tmp 52), none⟩,
     ⟨(some 54), .mv (.tmp 53), none⟩,
     ⟨(some 55), .mv (.tmp 4), (some (54, false))⟩,
     ⟨(some 56), .call 15 [(.tmp 55)], (some (54, false))⟩,
     ⟨(some 57), .mv (.tmp 3), (some (54, false))⟩,
     ⟨(some 58), .call 15 [(.tmp 57)], (some (54, false))⟩,
     ⟨(some 59), .bin .lss (.tmp 56) (.tmp 58), (some (54, false))⟩,
     ⟨(some 60), .pick (.tmp 54) (.const (.bool true)) (.tmp 59), none⟩] [6, 7, 8, 9, 60])
 (.cond (.tmp 60)
  (.seq (.reg [
      ⟨(some 2), .mv (.const (.bool false)), none⟩] [2])
  (.ret))
  (.skip)))
 (.seq (.seq (.reg [
     ⟨(some 61), .mv (.tmp 7), none⟩,
     ⟨(some 62), .bin .eql (.tmp 61) (.const (.int .i64 5)), none⟩,
     ⟨(some 63), .mv (.tmp 62), none⟩,
     ⟨(some 64), .mv (.tmp 9), (some (63, false))⟩,
     ⟨(some 65), .bin .eql (.tmp 64) (.const (.int .i64 5)), (some (63, false))⟩,
     ⟨(some 66), .pick (.tmp 63) (.const (.bool true)) (.tmp 65), none⟩] [6, 7, 8, 9, 66])
 (.cond (.tmp 66)
  (.seq (.reg [
      ⟨(some 2), .mv (.const (.bool true)), none⟩] [2])
  (.ret))
  (.skip)))
 (.seq (.reg [
     ⟨(some 67), .mv (.tmp 7), none⟩,
     ⟨(some 68), .mv (.tmp 9), none⟩,
     ⟨(some 69), .bin .eql (.tmp 67) (.tmp 68), none⟩,
     ⟨(some 70), .mv (.tmp 69), none⟩,
     ⟨(some 71), .mv (.tmp 6), (some (70, true))⟩,
     ⟨(some 72), .mv (.tmp 8), (some (70, true))⟩,
     ⟨(some 73), .call 21 [(.tmp 71), (.tmp 72)], (some (70, true))⟩,
     ⟨(some 74), .pick (.tmp 70) (.tmp 73) (.const (.bool false)), none⟩,
     ⟨(some 2), .mv (.tmp 74), none⟩] [2])
 (.ret)))))))))))
theorem s_laws_FnPropagate : stripF Try.prog 4 [[0], [0, 11], [2], [3], [3, 4, 5], [3, 4, 5, 6, 7], [3, 4, 5, 6, 7, 25], [2], [3, 4, 5, 6, 7, 29], [2], [3, 4, 5, 6, 7, 8, 9], [6, 7, 8, 9, 60], [2], [6, 7, 8, 9, 66], [2], [2]] = some (c_laws_FnPropagate, [.tmp 2], 75) := by kernel_rfl
theorem FSS.pfnP {P : Program} {f : FuncId} {args : List AV} {xss : List (List Int)} {code : Int} (h : FSS P f args xss code) : PFn P f args (.tup [ilSS xss, I code]) := by
  intro H
  refine (h H).gr ?_
  rintro r H' ⟨ext, v, rfl, rfl, ho⟩
  exact GR.froz (froz_tup2 (ho.froz (fun i hi => hi.1)) (froz_I' _)) ⟨rfl, rfl⟩
theorem cpV_small (p : List (List Int)) (hp : smallM p) (b : Int) : (cpV p b).1.length ≤ 10 ∧ ∀ r ∈ (cpV p b).1, r.length ≤ 10 := by
  unfold cpV
  split
  · simp
  · rename_i h1
    split
    · simp
    · split
      · simp
      · split
        · simp
        · rename_i f hf
          simp only [Bool.not_eq_true', Bool.not_eq_false] at h1
          have h2 := partB_facts h1
          have := outS_first p.length 1 p b.toNat ⟨rfl, h2.2.2⟩ f hf
          exact ⟨by show f.length ≤ 10; omega, fun r hr => by have := this.2 r hr; omega⟩
theorem lawFnPropagate_ok (H : List Blk) (ns : List Int) (hz : ∀ z ∈ ns, 0 ≤ z ∧ z < 256) : ACalls Try.prog f_laws_FnPropagate [ilY ns] H (fun r _ => r = Bv true) := by
  have hbn := fun k => Bel_ilY k ns
  have l1 := b10Long_fn ns
  by_cases h1 : (1048576 : Int) < ns.length
  · rw [decide_eq_true h1] at l1
    refine ACalls.introB s_laws_FnPropagate (by simp) ?_; intro hB hA; unfold c_laws_FnPropagate; simp (config := { maxSteps := 1000000 }) (disch := (first | omega | (simp only [go_sem]; try omega))) only [go_sem, Nat.reduceAdd, Nat.reduceEqDiff, Nat.reduceLeDiff, Nat.reduceMul, Nat.reduceLT, reduceIte, Int.reduceToNat, w64_id, cast_succ]
    repeat (first | (with_reducible first | refine SW.seq ?_ | refine SW.block ?_ | refine SW.rowC ?_ | refine SW.skip ?_ | refine SW.exit ?_ | refine PFn.use (l1) ?_ | refine PFn.useq (l1) ?_ | intro _ | refine And.intro (by omega) ?_) | simp (config := { maxSteps := 1000000 }) (disch := (first | omega | (simp only [go_sem]; try omega))) only [go_sem, Nat.reduceAdd, Nat.reduceEqDiff, Nat.reduceLeDiff, Nat.reduceMul, Nat.reduceLT, reduceIte, Int.reduceToNat, w64_id, cast_succ])
    refine SW.condT rfl ?_
    repeat (first | (with_reducible first | refine SW.seq ?_ | refine SW.block ?_ | refine SW.rowC ?_ | refine SW.skip ?_ | refine SW.exit ?_ | intro _ | refine And.intro (by omega) ?_) | simp (config := { maxSteps := 1000000 }) (disch := (first | omega | (simp only [go_sem]; try omega))) only [go_sem, Nat.reduceAdd, Nat.reduceEqDiff, Nat.reduceLeDiff, Nat.reduceMul, Nat.reduceLT, reduceIte, Int.reduceToNat, w64_id, cast_succ])
    refine SW.ret ?_; (try simp only [go_sem]); (first | refine FunPost.one ?_ | refine FunPost.two ?_ | refine FunPost.three ?_); (try simp (config := { maxSteps := 1000000 }) (disch := (first | omega | (simp only [go_sem]; try omega))) only [go_sem, Nat.reduceAdd, Nat.reduceEqDiff, Nat.reduceLeDiff, Nat.reduceMul, Nat.reduceLT, reduceIte, Int.reduceToNat, w64_id, cast_succ])
    exact GR.of rfl
  rw [decide_eq_false h1] at l1
  refine ACalls.introB s_laws_FnPropagate (by simp) ?_; intro hB hA; unfold c_laws_FnPropagate; simp (config := { maxSteps := 1000000 }) (disch := (first | omega | (simp only [go_sem]; try omega))) only [go_sem, Nat.reduceAdd, Nat.reduceEqDiff, Nat.reduceLeDiff, Nat.reduceMul, Nat.reduceLT, reduceIte, Int.reduceToNat, w64_id, cast_succ]
  repeat (first | (with_reducible first | refine SW.seq ?_ | refine SW.block ?_ | refine SW.rowC ?_ | refine SW.skip ?_ | refine SW.exit ?_ | refine PFn.use (l1) ?_ | refine PFn.useq (l1) ?_ | intro _ | refine And.intro (by omega) ?_) | simp (config := { maxSteps := 1000000 }) (disch := (first | omega | (simp only [go_sem]; try omega))) only [go_sem, Nat.reduceAdd, Nat.reduceEqDiff, Nat.reduceLeDiff, Nat.reduceMul, Nat.reduceLT, reduceIte, Int.reduceToNat, w64_id, cast_succ])
  refine SW.condF rfl ?_
  repeat (first | (with_reducible first | refine SW.seq ?_ | refine SW.block ?_ | refine SW.rowC ?_ | refine SW.skip ?_ | refine SW.exit ?_ | intro _ | refine And.intro (by omega) ?_) | simp (config := { maxSteps := 1000000 }) (disch := (first | omega | (simp only [go_sem]; try omega))) only [go_sem, Nat.reduceAdd, Nat.reduceEqDiff, Nat.reduceLeDiff, Nat.reduceMul, Nat.reduceLT, reduceIte, Int.reduceToNat, w64_id, cast_succ])
  refine (DrawPropagate_ok _ ns hz (by omega)).mono ?_
  rintro r H1 ⟨rfl, p, hsm, rfl⟩
  have cp := (implComplete_fss p 20000).pfnP
  cases hp : partB p with
  | false =>
    have ip := implPropagate_bad p hp
    rw [cpV_bad hp] at cp
    repeat (first | (with_reducible first | refine SW.seq ?_ | refine SW.block ?_ | refine SW.rowC ?_ | refine SW.skip ?_ | refine SW.exit ?_ | refine PFn.use (ip) ?_ | refine PFn.useq (ip) ?_ | refine PFn.use (cp) ?_ | refine PFn.useq (cp) ?_ | intro _ | refine And.intro (by omega) ?_) | simp (config := { maxSteps := 1000000 }) (disch := (first | omega | (simp only [go_sem]; try omega))) only [go_sem, Nat.reduceAdd, Nat.reduceEqDiff, Nat.reduceLeDiff, Nat.reduceMul, Nat.reduceLT, reduceIte, Int.reduceToNat, w64_id, cast_succ])
    refine SW.condT rfl ?_
    repeat (first | (with_reducible first | refine SW.seq ?_ | refine SW.block ?_ | refine SW.rowC ?_ | refine SW.skip ?_ | refine SW.exit ?_ | intro _ | refine And.intro (by omega) ?_) | simp (config := { maxSteps := 1000000 }) (disch := (first | omega | (simp only [go_sem]; try omega))) only [go_sem, Nat.reduceAdd, Nat.reduceEqDiff, Nat.reduceLeDiff, Nat.reduceMul, Nat.reduceLT, reduceIte, Int.reduceToNat, w64_id, cast_succ])
    refine SW.ret ?_; (try simp only [go_sem]); (first | refine FunPost.one ?_ | refine FunPost.two ?_ | refine FunPost.three ?_); (try simp (config := { maxSteps := 1000000 }) (disch := (first | omega | (simp only [go_sem]; try omega))) only [go_sem, Nat.reduceAdd, Nat.reduceEqDiff, Nat.reduceLeDiff, Nat.reduceMul, Nat.reduceLT, reduceIte, Int.reduceToNat, w64_id, cast_succ])
    exact GR.of rfl
  | true =>
    repeat (first | (with_reducible first | refine SW.seq ?_ | refine SW.block ?_ | refine SW.rowC ?_ | refine SW.skip ?_ | refine SW.exit ?_ | intro _ | refine And.intro (by omega) ?_) | simp (config := { maxSteps := 1000000 }) (disch := (first | omega | (simp only [go_sem]; try omega))) only [go_sem, Nat.reduceAdd, Nat.reduceEqDiff, Nat.reduceLeDiff, Nat.reduceMul, Nat.reduceLT, reduceIte, Int.reduceToNat, w64_id, cast_succ])
    refine (implPropagate_ok _ p hp).mono ?_
    rintro r H1 ⟨rfl, q, hfl, (rfl | ⟨rfl, c, hc, hce, hcn⟩)⟩
    · obtain ⟨hq, hql⟩ := hfl.part hp
      have hf := partB_facts hp
      have cq := (implComplete_fss q 20000).pfnP
      have vq := ValidPartial_fn q
      rw [hq] at vq
      have kp := b10Keeps_fn (n := p.length) (p := p) (q := q) ⟨rfl, hf.2.2⟩ (hfl.sq hp) (by omega) (fun x y _ _ h0 => hfl.keeps hp h0)
      have fp := FilledCells_fn p hp
      have fq := FilledCells_fn q hq
      rw [hql] at fq
      have hls := hfl.less hp
      have hsame := fills_same hfl hp
      have hs1 := cpV_small p hsm 20000
      generalize cpV p 20000 = a at *
      generalize cpV q 20000 = b at *
      obtain ⟨a1, a2⟩ := a
      obtain ⟨b1, b2⟩ := b
      simp only at *
      generalize (empT p p.length (p.length * p.length)).length = e1 at *
      generalize (empT q p.length (p.length * p.length)).length = e2 at *
      have dl : decide ((((p.length * p.length : Nat) : Int) - (e2 : Int)) < ((p.length * p.length : Nat) : Int) - (e1 : Int)) = false := decide_eq_false (by omega)
      have bl := b10Lists_fn a1 b1 (by omega) (fun x hx => by have := hs1.2 x hx; omega)
      repeat (first | (with_reducible first | refine SW.seq ?_ | refine SW.block ?_ | refine SW.rowC ?_ | refine SW.skip ?_ | refine SW.exit ?_ | refine PFn.use (cp) ?_ | refine PFn.useq (cp) ?_ | refine PFn.use (cq) ?_ | refine PFn.useq (cq) ?_ | refine PFn.use (vq) ?_ | refine PFn.useq (vq) ?_ | refine PFn.use (kp) ?_ | refine PFn.useq (kp) ?_ | refine PFn.use (fp) ?_ | refine PFn.useq (fp) ?_ | refine PFn.use (fq) ?_ | refine PFn.useq (fq) ?_ | intro _ | refine And.intro (by omega) ?_) | simp (config := { maxSteps := 1000000 }) (disch := (first | omega | (simp only [go_sem]; try omega))) only [go_sem, Nat.reduceAdd, Nat.reduceEqDiff, Nat.reduceLeDiff, Nat.reduceMul, Nat.reduceLT, reduceIte, Int.reduceToNat, w64_id, cast_succ, dl])
      refine SW.condF rfl ?_
      repeat (first | (with_reducible first | refine SW.seq ?_ | refine SW.block ?_ | refine SW.rowC ?_ | refine SW.skip ?_ | refine SW.exit ?_ | intro _ | refine And.intro (by omega) ?_) | simp (config := { maxSteps := 1000000 }) (disch := (first | omega | (simp only [go_sem]; try omega))) only [go_sem, Nat.reduceAdd, Nat.reduceEqDiff, Nat.reduceLeDiff, Nat.reduceMul, Nat.reduceLT, reduceIte, Int.reduceToNat, w64_id, cast_succ])
      refine SW.condF rfl ?_
      repeat (first | (with_reducible first | refine SW.seq ?_ | refine SW.block ?_ | refine SW.rowC ?_ | refine SW.skip ?_ | refine SW.exit ?_ | refine PFn.use (cq) ?_ | refine PFn.useq (cq) ?_ | refine PFn.use (vq) ?_ | refine PFn.useq (vq) ?_ | refine PFn.use (kp) ?_ | refine PFn.useq (kp) ?_ | refine PFn.use (fp) ?_ | refine PFn.useq (fp) ?_ | refine PFn.use (fq) ?_ | refine PFn.useq (fq) ?_ | intro _ | refine And.intro (by omega) ?_) | simp (config := { maxSteps := 1000000 }) (disch := (first | omega | (simp only [go_sem]; try omega))) only [go_sem, Nat.reduceAdd, Nat.reduceEqDiff, Nat.reduceLeDiff, Nat.reduceMul, Nat.reduceLT, reduceIte, Int.reduceToNat, w64_id, cast_succ, dl])
      refine SW.condF rfl ?_
      by_cases ha5 : a2 = 5
      · have d5 : decide (a2 = 5) = true := decide_eq_true ha5
        repeat (first | (with_reducible first | refine SW.seq ?_ | refine SW.block ?_ | refine SW.rowC ?_ | refine SW.skip ?_ | refine SW.exit ?_ | intro _ | refine And.intro (by omega) ?_) | simp (config := { maxSteps := 1000000 }) (disch := (first | omega | (simp only [go_sem]; try omega))) only [go_sem, Nat.reduceAdd, Nat.reduceEqDiff, Nat.reduceLeDiff, Nat.reduceMul, Nat.reduceLT, reduceIte, Int.reduceToNat, w64_id, cast_succ, d5])
        refine SW.condT rfl ?_
        repeat (first | (with_reducible first | refine SW.seq ?_ | refine SW.block ?_ | refine SW.rowC ?_ | refine SW.skip ?_ | refine SW.exit ?_ | intro _ | refine And.intro (by omega) ?_) | simp (config := { maxSteps := 1000000 }) (disch := (first | omega | (simp only [go_sem]; try omega))) only [go_sem, Nat.reduceAdd, Nat.reduceEqDiff, Nat.reduceLeDiff, Nat.reduceMul, Nat.reduceLT, reduceIte, Int.reduceToNat, w64_id, cast_succ])
        refine SW.ret ?_; (try simp only [go_sem]); (first | refine FunPost.one ?_ | refine FunPost.two ?_ | refine FunPost.three ?_); (try simp (config := { maxSteps := 1000000 }) (disch := (first | omega | (simp only [go_sem]; try omega))) only [go_sem, Nat.reduceAdd, Nat.reduceEqDiff, Nat.reduceLeDiff, Nat.reduceMul, Nat.reduceLT, reduceIte, Int.reduceToNat, w64_id, cast_succ])
        exact GR.of rfl
      have d5 : decide (a2 = 5) = false := decide_eq_false ha5
      by_cases hb5 : b2 = 5
      · have d6 : decide (b2 = 5) = true := decide_eq_true hb5
        repeat (first | (with_reducible first | refine SW.seq ?_ | refine SW.block ?_ | refine SW.rowC ?_ | refine SW.skip ?_ | refine SW.exit ?_ | intro _ | refine And.intro (by omega) ?_) | simp (config := { maxSteps := 1000000 }) (disch := (first | omega | (simp only [go_sem]; try omega))) only [go_sem, Nat.reduceAdd, Nat.reduceEqDiff, Nat.reduceLeDiff, Nat.reduceMul, Nat.reduceLT, reduceIte, Int.reduceToNat, w64_id, cast_succ, d5, d6])
        refine SW.condT rfl ?_
        repeat (first | (with_reducible first | refine SW.seq ?_ | refine SW.block ?_ | refine SW.rowC ?_ | refine SW.skip ?_ | refine SW.exit ?_ | intro _ | refine And.intro (by omega) ?_) | simp (config := { maxSteps := 1000000 }) (disch := (first | omega | (simp only [go_sem]; try omega))) only [go_sem, Nat.reduceAdd, Nat.reduceEqDiff, Nat.reduceLeDiff, Nat.reduceMul, Nat.reduceLT, reduceIte, Int.reduceToNat, w64_id, cast_succ])
        refine SW.ret ?_; (try simp only [go_sem]); (first | refine FunPost.one ?_ | refine FunPost.two ?_ | refine FunPost.three ?_); (try simp (config := { maxSteps := 1000000 }) (disch := (first | omega | (simp only [go_sem]; try omega))) only [go_sem, Nat.reduceAdd, Nat.reduceEqDiff, Nat.reduceLeDiff, Nat.reduceMul, Nat.reduceLT, reduceIte, Int.reduceToNat, w64_id, cast_succ])
        exact GR.of rfl
      have d6 : decide (b2 = 5) = false := decide_eq_false hb5
      rcases hsame with h | h | h
      · exact absurd h ha5
      · exact absurd h hb5
      cases h
      have d7 : decide (a2 = a2) = true := decide_eq_true rfl
      rw [decide_eq_true rfl] at bl
      repeat (first | (with_reducible first | refine SW.seq ?_ | refine SW.block ?_ | refine SW.rowC ?_ | refine SW.skip ?_ | refine SW.exit ?_ | intro _ | refine And.intro (by omega) ?_) | simp (config := { maxSteps := 1000000 }) (disch := (first | omega | (simp only [go_sem]; try omega))) only [go_sem, Nat.reduceAdd, Nat.reduceEqDiff, Nat.reduceLeDiff, Nat.reduceMul, Nat.reduceLT, reduceIte, Int.reduceToNat, w64_id, cast_succ, d5, d6])
      refine SW.condF rfl ?_
      repeat (first | (with_reducible first | refine SW.seq ?_ | refine SW.block ?_ | refine SW.rowC ?_ | refine SW.skip ?_ | refine SW.exit ?_ | refine PFn.use (bl) ?_ | refine PFn.useq (bl) ?_ | intro _ | refine And.intro (by omega) ?_) | simp (config := { maxSteps := 1000000 }) (disch := (first | omega | (simp only [go_sem]; try omega))) only [go_sem, Nat.reduceAdd, Nat.reduceEqDiff, Nat.reduceLeDiff, Nat.reduceMul, Nat.reduceLT, reduceIte, Int.reduceToNat, w64_id, cast_succ, d7])
      refine SW.ret ?_; (try simp only [go_sem]); (first | refine FunPost.one ?_ | refine FunPost.two ?_ | refine FunPost.three ?_); (try simp (config := { maxSteps := 1000000 }) (disch := (first | omega | (simp only [go_sem]; try omega))) only [go_sem, Nat.reduceAdd, Nat.reduceEqDiff, Nat.reduceLeDiff, Nat.reduceMul, Nat.reduceLT, reduceIte, Int.reduceToNat, w64_id, cast_succ])
      exact GR.of rfl
    · have h53 := fills_none hfl hp hc hce hcn
      generalize cpV p 20000 = a at *
      obtain ⟨a1, a2⟩ := a
      simp only at *
      repeat (first | (with_reducible first | refine SW.seq ?_ | refine SW.block ?_ | refine SW.rowC ?_ | refine SW.skip ?_ | refine SW.exit ?_ | refine PFn.use (cp) ?_ | refine PFn.useq (cp) ?_ | intro _ | refine And.intro (by omega) ?_) | simp (config := { maxSteps := 1000000 }) (disch := (first | omega | (simp only [go_sem]; try omega))) only [go_sem, Nat.reduceAdd, Nat.reduceEqDiff, Nat.reduceLeDiff, Nat.reduceMul, Nat.reduceLT, reduceIte, Int.reduceToNat, w64_id, cast_succ])
      refine SW.condF rfl ?_
      repeat (first | (with_reducible first | refine SW.seq ?_ | refine SW.block ?_ | refine SW.rowC ?_ | refine SW.skip ?_ | refine SW.exit ?_ | intro _ | refine And.intro (by omega) ?_) | simp (config := { maxSteps := 1000000 }) (disch := (first | omega | (simp only [go_sem]; try omega))) only [go_sem, Nat.reduceAdd, Nat.reduceEqDiff, Nat.reduceLeDiff, Nat.reduceMul, Nat.reduceLT, reduceIte, Int.reduceToNat, w64_id, cast_succ])
      refine SW.condT rfl ?_
      have d53 : decide ((5 : Int) = 3) = false := rfl
      have d33 : decide ((3 : Int) = 3) = true := rfl
      rcases h53 with rfl | rfl
      · repeat (first | (with_reducible first | refine SW.seq ?_ | refine SW.block ?_ | refine SW.rowC ?_ | refine SW.skip ?_ | refine SW.exit ?_ | intro _ | refine And.intro (by omega) ?_) | simp (config := { maxSteps := 1000000 }) (disch := (first | omega | (simp only [go_sem]; try omega))) only [go_sem, Nat.reduceAdd, Nat.reduceEqDiff, Nat.reduceLeDiff, Nat.reduceMul, Nat.reduceLT, reduceIte, Int.reduceToNat, w64_id, cast_succ, d53])
        refine SW.ret ?_; (try simp only [go_sem]); (first | refine FunPost.one ?_ | refine FunPost.two ?_ | refine FunPost.three ?_); (try simp (config := { maxSteps := 1000000 }) (disch := (first | omega | (simp only [go_sem]; try omega))) only [go_sem, Nat.reduceAdd, Nat.reduceEqDiff, Nat.reduceLeDiff, Nat.reduceMul, Nat.reduceLT, reduceIte, Int.reduceToNat, w64_id, cast_succ])
        exact GR.of rfl
      · repeat (first | (with_reducible first | refine SW.seq ?_ | refine SW.block ?_ | refine SW.rowC ?_ | refine SW.skip ?_ | refine SW.exit ?_ | intro _ | refine And.intro (by omega) ?_) | simp (config := { maxSteps := 1000000 }) (disch := (first | omega | (simp only [go_sem]; try omega))) only [go_sem, Nat.reduceAdd, Nat.reduceEqDiff, Nat.reduceLeDiff, Nat.reduceMul, Nat.reduceLT, reduceIte, Int.reduceToNat, w64_id, cast_succ, d33])
        refine SW.ret ?_; (try simp only [go_sem]); (first | refine FunPost.one ?_ | refine FunPost.two ?_ | refine FunPost.three ?_); (try simp (config := { maxSteps := 1000000 }) (disch := (first | omega | (simp only [go_sem]; try omega))) only [go_sem, Nat.reduceAdd, Nat.reduceEqDiff, Nat.reduceLeDiff, Nat.reduceMul, Nat.reduceLT, reduceIte, Int.reduceToNat, w64_id, cast_succ])
        exact GR.of rfl
end Go.Proofs.Ytchehdplcbffmaa
