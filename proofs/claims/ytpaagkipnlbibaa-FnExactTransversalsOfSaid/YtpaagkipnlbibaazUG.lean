/- Transversals: the program's search. -/
import Derived.Test.YtpaagkipnlbibaaProg
import Derived.KernelRfl
import Derived.Test.YtpaagkipnlbibaazUF
import Derived.Test.YtpaagkipnlbibaazK31
import Derived.Test.YtpaagkipnlbibaazK1
set_option linter.unusedSimpArgs false
set_option linter.unusedVariables false
set_option maxHeartbeats 4000000
set_option maxRecDepth 100000
namespace Go.Proofs.Ytpaagkipnlbibaa
open Go.Av
abbrev f_impl_transversals_search : Nat := 50
def c_impl_transversals_search : SC :=
 .seq (.reg [
     ⟨(some 5), .mv (.tmp 0), none⟩,
     ⟨(some 6), .nilc (.tmp 5), none⟩,
     ⟨(some 7), .faddr 4 (.tmp 6), none⟩,
     ⟨(some 8), .load 1 false (.tmp 7), none⟩,
     ⟨(some 9), .len (.tmp 8), none⟩,
     ⟨(some 2), .mv (.tmp 9), none⟩] [0, 2])
 (.seq (.seq (.reg [
     ⟨(some 10), .mv (.tmp 2), none⟩,
     ⟨(some 11), .mv (.tmp 0), none⟩,
     ⟨(some 12), .nilc (.tmp 11), none⟩,
     ⟨(some 13), .faddr 2 (.tmp 12), none⟩,
     ⟨(some 14), .load 1 false (.tmp 13), none⟩,
     ⟨(some 15), .len (.tmp 14), none⟩,
     ⟨(some 16), .bin .eql (.tmp 10) (.tmp 15), none⟩] [0, 2, 16])
 (.cond (.tmp 16)
  (.seq (.reg [
      ⟨(some 17), .mv (.tmp 0), none⟩,
      ⟨(some 18), .mv (.tmp 0), none⟩,
      ⟨(some 19), .nilc (.tmp 18), none⟩,
      ⟨(some 20), .faddr 6 (.tmp 19), none⟩,
      ⟨(some 21), .load 1 false (.tmp 20), none⟩,
      ⟨(some 22), .mv (.tmp 0), none⟩,
      ⟨(some 23), .nilc (.tmp 22), none⟩,
      ⟨(some 24), .faddr 4 (.tmp 23), none⟩,
      ⟨(some 25), .load 1 false (.tmp 24), none⟩,
      ⟨(some 26), .fcall 86 [(.tmp 25)], none⟩,
      ⟨(some 27), .bslice 29 1 1 [(.slice none 0 0)] [(0, (.tmp 26))], none⟩,
      ⟨(some 28), .app 29 1 24 (.tmp 21) (.tmp 27), none⟩,
      ⟨(some 29), .nilc (.tmp 17), none⟩,
      ⟨(some 30), .faddr 6 (.tmp 29), none⟩,
      ⟨none, .store 1 (.tmp 30) (.tmp 28), none⟩] [])
  (.ret))
  (.skip)))
 (.seq (.reg [
     ⟨(some 31), .mv (.tmp 0), none⟩,
     ⟨(some 32), .nilc (.tmp 31), none⟩,
     ⟨(some 33), .faddr 2 (.tmp 32), none⟩,
     ⟨(some 34), .load 1 false (.tmp 33), none⟩,
     ⟨(some 35), .mv (.tmp 2), none⟩,
     ⟨(some 36), .iaddr 1 (.tmp 34) (.tmp 35), none⟩,
     ⟨(some 37), .load 1 false (.tmp 36), none⟩,
     ⟨(some 38), .len (.tmp 37), none⟩,
     ⟨(some 39), .mv (.const (.int .i64 0)), none⟩] [0, 2, 37, 38, 39])
 (.block 0 (.loop [0, 2, 37, 38, 39]
   (.seq (.reg [
       ⟨(some 40), .bin .lss (.tmp 39) (.tmp 38), none⟩] [0, 2, 37, 38, 39, 40])
   (.seq (.cond (.tmp 40)
    (.skip)
    (.exit 0))
   (.seq (.block 1 (.seq (.reg [
        ⟨(some 41), .mv (.tmp 39), none⟩,
        ⟨(some 42), .iaddr 1 (.tmp 37) (.tmp 39), none⟩,
        ⟨(some 43), .load 1 false (.tmp 42), none⟩,
        ⟨(some 3), .mv (.tmp 41), none⟩,
        ⟨(some 4), .mv (.tmp 43), none⟩] [0, 2, 3, 4, 37, 38, 39])
    (.seq (.seq (.reg [
        ⟨(some 44), .mv (.tmp 0), none⟩,
        ⟨(some 45), .nilc (.tmp 44), none⟩,
        ⟨(some 46), .faddr 4 (.tmp 45), none⟩,
        ⟨(some 47), .load 1 false (.tmp 46), none⟩,
        ⟨(some 48), .mv (.tmp 3), none⟩,
        ⟨(some 49), .call 87 [(.tmp 47), (.tmp 48)], none⟩,
        ⟨(some 50), .mv (.tmp 49), none⟩,
        ⟨(some 51), .mv (.tmp 0), (some (50, false))⟩,
        ⟨(some 52), .nilc (.tmp 51), (some (50, false))⟩,
        ⟨(some 53), .faddr 5 (.tmp 52), (some (50, false))⟩,
        ⟨(some 54), .load 1 false (.tmp 53), (some (50, false))⟩,
        ⟨(some 55), .mv (.tmp 4), (some (50, false))⟩,
        ⟨(some 56), .iaddr 1 (.tmp 54) (.tmp 55), (some (50, false))⟩,
        ⟨(some 57), .load 1 false (.tmp 56), (some (50, false))⟩,
        ⟨(some 58), .pick (.tmp 50) (.const (.bool true)) (.tmp 57), none⟩] [0, 2, 3, 4, 37, 38, 39, 58])
    (.cond (.tmp 58)
     (.exit 1)
     (.skip)))
    (.seq (.seq (.reg [
        ⟨(some 59), .mv (.tmp 0), none⟩,
        ⟨(some 60), .call 88 [(.tmp 59)], none⟩,
        ⟨(some 61), .mv (.tmp 60), none⟩,
        ⟨(some 62), .mv (.tmp 0), (some (61, false))⟩,
        ⟨(some 63), .nilc (.tmp 62), (some (61, false))⟩,
        ⟨(some 64), .faddr 0 (.tmp 63), (some (61, false))⟩,
        ⟨(some 65), .call 89 [(.tmp 64)], (some (61, false))⟩,
        ⟨(some 66), .un .not (.tmp 65), (some (61, false))⟩,
        ⟨(some 67), .pick (.tmp 61) (.const (.bool true)) (.tmp 66), none⟩] [0, 2, 3, 4, 37, 38, 39, 67])
    (.cond (.tmp 67)
     (.ret)
     (.skip)))
    (.seq (.mix (.one ⟨(some 68), .mv (.tmp 0), none⟩
     (.one ⟨(some 69), .mv (.tmp 0), none⟩
     (.one ⟨(some 73), .mv (.tmp 4), none⟩
     (.one ⟨(some 74), .mv (.tmp 0), none⟩
     (.one ⟨(some 75), .nilc (.tmp 74), none⟩
     (.one ⟨(some 76), .faddr 4 (.tmp 75), none⟩
     (.one ⟨(some 77), .load 1 false (.tmp 76), none⟩
     (.one ⟨(some 78), .mv (.tmp 3), none⟩
     (.both (.one ⟨(some 70), .nilc (.tmp 69), none⟩
      (.both (.one ⟨(some 71), .faddr 5 (.tmp 70), none⟩
       (.both (.one ⟨(some 72), .load 1 false (.tmp 71), none⟩
        (.one ⟨(some 79), .bslice 2 1 1 [(.int .i64 0)] [(0, (.tmp 78))], none⟩
        (.one ⟨(some 80), .app 2 1 8 (.tmp 77) (.tmp 79), none⟩
        (.one ⟨(some 81), .nilc (.tmp 68), none⟩
        (.one ⟨(some 82), .faddr 4 (.tmp 81), none⟩
        (.one ⟨none, .store 1 (.tmp 82) (.tmp 80), none⟩
        (.one ⟨(some 83), .iaddr 1 (.tmp 72) (.tmp 73), none⟩
        (.one ⟨none, .store 1 (.tmp 83) (.const (.bool true)), none⟩
        (.done)))))))))
       (.one ⟨(some 79), .bslice 2 1 1 [(.int .i64 0)] [(0, (.tmp 78))], none⟩
        (.both (.one ⟨(some 72), .load 1 false (.tmp 71), none⟩
         (.one ⟨(some 80), .app 2 1 8 (.tmp 77) (.tmp 79), none⟩
         (.one ⟨(some 81), .nilc (.tmp 68), none⟩
         (.one ⟨(some 82), .faddr 4 (.tmp 81), none⟩
         (.one ⟨none, .store 1 (.tmp 82) (.tmp 80), none⟩
         (.one ⟨(some 83), .iaddr 1 (.tmp 72) (.tmp 73), none⟩
         (.one ⟨none, .store 1 (.tmp 83) (.const (.bool true)), none⟩
         (.done))))))))
        (.one ⟨(some 80), .app 2 1 8 (.tmp 77) (.tmp 79), none⟩
         (.one ⟨(some 72), .load 1 false (.tmp 71), none⟩
         (.one ⟨(some 81), .nilc (.tmp 68), none⟩
         (.one ⟨(some 82), .faddr 4 (.tmp 81), none⟩
         (.one ⟨none, .store 1 (.tmp 82) (.tmp 80), none⟩
         (.one ⟨(some 83), .iaddr 1 (.tmp 72) (.tmp 73), none⟩
         (.one ⟨none, .store 1 (.tmp 83) (.const (.bool true)), none⟩
         (.done))))))))))))
      (.one ⟨(some 79), .bslice 2 1 1 [(.int .i64 0)] [(0, (.tmp 78))], none⟩
       (.both (.one ⟨(some 71), .faddr 5 (.tmp 70), none⟩
        (.both (.one ⟨(some 72), .load 1 false (.tmp 71), none⟩
         (.one ⟨(some 80), .app 2 1 8 (.tmp 77) (.tmp 79), none⟩
         (.one ⟨(some 81), .nilc (.tmp 68), none⟩
         (.one ⟨(some 82), .faddr 4 (.tmp 81), none⟩
         (.one ⟨none, .store 1 (.tmp 82) (.tmp 80), none⟩
         (.one ⟨(some 83), .iaddr 1 (.tmp 72) (.tmp 73), none⟩
         (.one ⟨none, .store 1 (.tmp 83) (.const (.bool true)), none⟩
         (.done))))))))
        (.one ⟨(some 80), .app 2 1 8 (.tmp 77) (.tmp 79), none⟩
         (.one ⟨(some 72), .load 1 false (.tmp 71), none⟩
         (.one ⟨(some 81), .nilc (.tmp 68), none⟩
         (.one ⟨(some 82), .faddr 4 (.tmp 81), none⟩
         (.one ⟨none, .store 1 (.tmp 82) (.tmp 80), none⟩
         (.one ⟨(some 83), .iaddr 1 (.tmp 72) (.tmp 73), none⟩
         (.one ⟨none, .store 1 (.tmp 83) (.const (.bool true)), none⟩
         (.done))))))))))
       (.one ⟨(some 80), .app 2 1 8 (.tmp 77) (.tmp 79), none⟩
        (.one ⟨(some 71), .faddr 5 (.tmp 70), none⟩
        (.one ⟨(some 72), .load 1 false (.tmp 71), none⟩
        (.one ⟨(some 81), .nilc (.tmp 68), none⟩
        (.one ⟨(some 82), .faddr 4 (.tmp 81), none⟩
        (.one ⟨none, .store 1 (.tmp 82) (.tmp 80), none⟩
        (.one ⟨(some 83), .iaddr 1 (.tmp 72) (.tmp 73), none⟩
        (.one ⟨none, .store 1 (.tmp 83) (.const (.bool true)), none⟩
        (.done)))))))))))))
     (.one ⟨(some 79), .bslice 2 1 1 [(.int .i64 0)] [(0, (.tmp 78))], none⟩
      (.both (.one ⟨(some 70), .nilc (.tmp 69), none⟩
       (.both (.one ⟨(some 71), .faddr 5 (.tmp 70), none⟩
        (.both (.one ⟨(some 72), .load 1 false (.tmp 71), none⟩
         (.one ⟨(some 80), .app 2 1 8 (.tmp 77) (.tmp 79), none⟩
         (.one ⟨(some 81), .nilc (.tmp 68), none⟩
         (.one ⟨(some 82), .faddr 4 (.tmp 81), none⟩
         (.one ⟨none, .store 1 (.tmp 82) (.tmp 80), none⟩
         (.one ⟨(some 83), .iaddr 1 (.tmp 72) (.tmp 73), none⟩
         (.one ⟨none, .store 1 (.tmp 83) (.const (.bool true)), none⟩
         (.done))))))))
        (.one ⟨(some 80), .app 2 1 8 (.tmp 77) (.tmp 79), none⟩
         (.one ⟨(some 72), .load 1 false (.tmp 71), none⟩
         (.one ⟨(some 81), .nilc (.tmp 68), none⟩
         (.one ⟨(some 82), .faddr 4 (.tmp 81), none⟩
         (.one ⟨none, .store 1 (.tmp 82) (.tmp 80), none⟩
         (.one ⟨(some 83), .iaddr 1 (.tmp 72) (.tmp 73), none⟩
         (.one ⟨none, .store 1 (.tmp 83) (.const (.bool true)), none⟩
         (.done))))))))))
       (.one ⟨(some 80), .app 2 1 8 (.tmp 77) (.tmp 79), none⟩
        (.one ⟨(some 71), .faddr 5 (.tmp 70), none⟩
        (.one ⟨(some 72), .load 1 false (.tmp 71), none⟩
        (.one ⟨(some 81), .nilc (.tmp 68), none⟩
        (.one ⟨(some 82), .faddr 4 (.tmp 81), none⟩
        (.one ⟨none, .store 1 (.tmp 82) (.tmp 80), none⟩
        (.one ⟨(some 83), .iaddr 1 (.tmp 72) (.tmp 73), none⟩
        (.one ⟨none, .store 1 (.tmp 83) (.const (.bool true)), none⟩
        (.done)))))))))))
      (.one ⟨(some 80), .app 2 1 8 (.tmp 77) (.tmp 79), none⟩
       (.one ⟨(some 70), .nilc (.tmp 69), none⟩
       (.one ⟨(some 71), .faddr 5 (.tmp 70), none⟩
       (.one ⟨(some 72), .load 1 false (.tmp 71), none⟩
       (.one ⟨(some 81), .nilc (.tmp 68), none⟩
       (.one ⟨(some 82), .faddr 4 (.tmp 81), none⟩
       (.one ⟨none, .store 1 (.tmp 82) (.tmp 80), none⟩
       (.one ⟨(some 83), .iaddr 1 (.tmp 72) (.tmp 73), none⟩
       (.one ⟨none, .store 1 (.tmp 83) (.const (.bool true)), none⟩
       (.done))))))))))))))))))))) [0, 2, 4, 37, 38, 39])
    (.seq (.reg [
        ⟨(some 84), .mv (.tmp 0), none⟩,
        ⟨(some 85), .call 50 [(.tmp 84)], none⟩] [0, 2, 4, 37, 38, 39])
    (.reg [
        ⟨(some 86), .mv (.tmp 0), none⟩,
        ⟨(some 87), .mv (.tmp 0), none⟩,
        ⟨(some 88), .nilc (.tmp 87), none⟩,
        ⟨(some 89), .faddr 5 (.tmp 88), none⟩,
        ⟨(some 90), .load 1 false (.tmp 89), none⟩,
        ⟨(some 91), .mv (.tmp 4), none⟩,
        ⟨(some 92), .mv (.tmp 0), none⟩,
        ⟨(some 93), .nilc (.tmp 92), none⟩,
        ⟨(some 94), .faddr 4 (.tmp 93), none⟩,
        ⟨(some 95), .load 1 false (.tmp 94), none⟩,
        ⟨(some 96), .mv (.tmp 2), none⟩,
        ⟨(some 97), .slc 1 (.tmp 95) none (some (.tmp 96)), none⟩,
        ⟨(some 98), .nilc (.tmp 86), none⟩,
        ⟨(some 99), .faddr 4 (.tmp 98), none⟩,
        ⟨none, .store 1 (.tmp 99) (.tmp 97), none⟩,
        ⟨(some 100), .iaddr 1 (.tmp 90) (.tmp 91), none⟩,
        ⟨none, .store 1 (.tmp 100) (.const (.bool false)), none⟩] [0, 2, 37, 38, 39])))))))
   (.reg [
       ⟨(some 101), .bin .add (.tmp 39) (.const (.int .i64 1)), none⟩,
       ⟨(some 39), .mv (.tmp 101), none⟩] [0, 2, 37, 38, 39]))))))))
theorem s_impl_transversals_search : stripF Try.prog 50 [[0, 2], [0, 2, 16], [1001009], [0, 2, 37, 38, 39], [0, 2, 37, 38, 39], [0, 2, 37, 38, 39, 40], [0, 2, 3, 4, 37, 38, 39], [0, 2, 3, 4, 37, 38, 39, 58], [0, 2, 3, 4, 37, 38, 39, 67], [0, 2, 4, 37, 38, 39], [0, 2, 4, 37, 38, 39], [0, 2, 37, 38, 39], [0, 2, 37, 38, 39]] = some (c_impl_transversals_search, [], 102) := by kernel_rfl
abbrev f_impl_transversals_done : Nat := 88
def c_impl_transversals_done : SC :=
 .seq (.reg [
     ⟨(some 2), .mv (.const (.bool false)), none⟩] [0])
 (.seq (.reg [
     ⟨(some 3), .mv (.tmp 0), none⟩,
     ⟨(some 4), .nilc (.tmp 3), none⟩,
     ⟨(some 5), .faddr 0 (.tmp 4), none⟩,
     ⟨(some 6), .faddr 1 (.tmp 5), none⟩,
     ⟨(some 7), .load 1 false (.tmp 6), none⟩,
     ⟨(some 8), .mv (.tmp 7), none⟩,
     ⟨(some 9), .mv (.tmp 0), (some (8, false))⟩,
     ⟨(some 10), .nilc (.tmp 9), (some (8, false))⟩,
     ⟨(some 11), .faddr 6 (.tmp 10), (some (8, false))⟩,
     ⟨(some 12), .load 1 false (.tmp 11), (some (8, false))⟩,
     ⟨(some 13), .qcall 56 [(.tmp 12)], (some (8, false))⟩,
     ⟨(some 14), .mv (.tmp 0), (some (8, false))⟩,
     ⟨(some 15), .nilc (.tmp 14), (some (8, false))⟩,
     ⟨(some 16), .faddr 3 (.tmp 15), (some (8, false))⟩,
     ⟨(some 17), .load 1 false (.tmp 16), (some (8, false))⟩,
     ⟨(some 18), .bin .eql (.tmp 13) (.tmp 17), (some (8, false))⟩,
     ⟨(some 19), .pick (.tmp 8) (.const (.bool true)) (.tmp 18), none⟩,
     ⟨(some 2), .mv (.tmp 19), none⟩] [2])
 (.ret))
theorem s_impl_transversals_done : stripF Try.prog 88 [[0], [2]] = some (c_impl_transversals_done, [.tmp 2], 20) := by kernel_rfl
abbrev tyTr : Nat := 77
def TrH (H : List Blk) (q p : Nat) (a : List (List Int)) (lim : Nat) (cols : List Int) (st : TS) : Prop :=
  ∃ v fv, H[p]? = some ⟨0, tyTr, 1, [I st.left, Bv st.spent, ilSS a, I lim, v, .nm q 0 0 a.length, fv]⟩ ∧ H[q]? = some ⟨0, 4, 1, (symsT a a.length cols).map Bv⟩ ∧ ColG H (p + 1) v cols fv st.found
theorem slcNT {H : List Blk} {K : AV → Prop} {r v l n : Nat} {y : Int} {cells : List AV} (hs : (H[r]?).map Blk.sz = some 1) (h0 : 0 ≤ y) (h1 : y ≤ n) : SlcG 1 (.nm r v 0 l) 0 y H K (some (n, cells)) = K (.nm r v 0 y.toNat) := by
  simp only [SlcG, if_true]
  refine propext ⟨fun h => h.2.2.2.2, fun h => ⟨by omega, h0, h1, ?_, h⟩⟩
  intro i ver off len he
  cases he
  exact hs
theorem FcallW.row {P : Program} {f : FuncId} {args : List AV} {X : List Blk} {xs : List Int} {K : AV → List Blk → Prop}
    (h : ACalls P f args X (fun r H' => ∃ ver, r = .nm X.length ver 0 xs.length ∧ H' = X ++ [⟨ver, 2, 1, xs.map I⟩]))
    (hk : ∀ ver, K (.nm X.length ver 0 xs.length) (X ++ [⟨ver, 2, 1, xs.map I⟩])) : FcallW P f args X K := by
  refine h.mono ?_
  rintro r H' ⟨ver, rfl, rfl⟩
  exact ⟨hk ver, _, rfl⟩
theorem ColG.frozF {H : List Blk} {base b : Nat} {v fv : AV} {cols : List Int} {found : List (List Int)} (h : ColG H base v cols fv found) (hb : b ≤ base) : Froz H b fv (ilSS found) := by
  rcases h with ⟨-, -, rfl, rfl⟩ | ⟨t, ver, cells, rfl, h2, h3, h4, h5, h6⟩
  · exact .nil
  · exact (h6.own (b := b) (by omega)).froz (fun i hi => hi.1)
theorem trDone_ok (H : List Blk) (p q : Nat) (a : List (List Int)) (lim : Nat) (cols : List Int) (st : TS) (h : TrH H q p a lim cols st) : ACalls Try.prog f_impl_transversals_done [.pc p 0 0] H (fun r H' => r = Bv (st.spent || decide (st.found.length = lim)) ∧ H' = H) := by
  obtain ⟨v, fv, hp, hq, hcg⟩ := h
  have hpa := fun o => pc_alive (off := o) hp
  have hpl := fun o => pc_ld (off := o) hp
  refine ACalls.introB s_impl_transversals_done (by simp) ?_; intro hB hA; unfold c_impl_transversals_done; simp (config := { maxSteps := 1000000 }) (disch := (first | omega | (simp only [go_sem]; try omega))) only [go_sem, Nat.reduceAdd, Nat.reduceEqDiff, Nat.reduceLeDiff, Nat.reduceMul, Nat.reduceLT, reduceIte, Int.reduceToNat, w64_id, cast_succ]
  cases hs : st.spent
  · rw [hs] at hpl
    repeat (first | (with_reducible first | refine SW.seq ?_ | refine SW.block ?_ | refine SW.rowC ?_ | refine SW.skip ?_ | refine SW.exit ?_ | intro _ | refine And.intro (by omega) ?_) | simp (config := { maxSteps := 1000000 }) (disch := (first | omega | (simp only [go_sem]; try omega))) only [go_sem, Nat.reduceAdd, Nat.reduceEqDiff, Nat.reduceLeDiff, Nat.reduceMul, Nat.reduceLT, reduceIte, Int.reduceToNat, w64_id, cast_succ, hpa, hpl])
    refine (sizeS_fn st.found).uselq (.cons (hcg.frozF (Nat.zero_le _)) .nil) ?_
    repeat (first | (with_reducible first | refine SW.seq ?_ | refine SW.block ?_ | refine SW.rowC ?_ | refine SW.skip ?_ | refine SW.exit ?_ | intro _ | refine And.intro (by omega) ?_) | simp (config := { maxSteps := 1000000 }) (disch := (first | omega | (simp only [go_sem]; try omega))) only [go_sem, Nat.reduceAdd, Nat.reduceEqDiff, Nat.reduceLeDiff, Nat.reduceMul, Nat.reduceLT, reduceIte, Int.reduceToNat, w64_id, cast_succ, hpa, hpl])
    refine SW.ret ?_; (try simp only [go_sem]); (first | refine FunPost.one ?_ | refine FunPost.two ?_ | refine FunPost.three ?_); (try simp (config := { maxSteps := 1000000 }) (disch := (first | omega | (simp only [go_sem]; try omega))) only [go_sem, Nat.reduceAdd, Nat.reduceEqDiff, Nat.reduceLeDiff, Nat.reduceMul, Nat.reduceLT, reduceIte, Int.reduceToNat, w64_id, cast_succ])
    refine GR.of ⟨?_, rfl⟩
    rw [Bool.false_or]
    exact congrArg Bv (decide_eq_decide.2 (by omega))
  · rw [hs] at hpl
    repeat (first | (with_reducible first | refine SW.seq ?_ | refine SW.block ?_ | refine SW.rowC ?_ | refine SW.skip ?_ | refine SW.exit ?_ | intro _ | refine And.intro (by omega) ?_) | simp (config := { maxSteps := 1000000 }) (disch := (first | omega | (simp only [go_sem]; try omega))) only [go_sem, Nat.reduceAdd, Nat.reduceEqDiff, Nat.reduceLeDiff, Nat.reduceMul, Nat.reduceLT, reduceIte, Int.reduceToNat, w64_id, cast_succ, hpa, hpl])
    refine SW.ret ?_; (try simp only [go_sem]); (first | refine FunPost.one ?_ | refine FunPost.two ?_ | refine FunPost.three ?_); (try simp (config := { maxSteps := 1000000 }) (disch := (first | omega | (simp only [go_sem]; try omega))) only [go_sem, Nat.reduceAdd, Nat.reduceEqDiff, Nat.reduceLeDiff, Nat.reduceMul, Nat.reduceLT, reduceIte, Int.reduceToNat, w64_id, cast_succ])
    exact GR.of ⟨rfl, rfl⟩
theorem trSearch_ok (a : List (List Int)) (lim : Nat) (h10 : 1 ≤ a.length ∧ a.length ≤ 10) (hrow : ∀ r ∈ a, r.length = a.length) (hcell : ∀ x y, x < a.length → y < a.length → ∃ s : Nat, cellAt a x y = s ∧ s < a.length) (hlim : lim ≤ 100000) :
    ∀ (k : Nat) (H : List Blk) (q p : Nat) (cols : List Int) (st : TS), TrH H q p a lim cols st → q < p → cols.length + k = a.length → (∀ c ∈ cols, 0 ≤ c ∧ c < (a.length : Int)) → st.found.length < lim → st.spent = false → st.left ≤ 20000 →
    ACalls Try.prog f_impl_transversals_search [.pc p 0 0] H (fun r H' => r = .tup [] ∧ TrH H' q p a lim cols (trv a a.length lim k cols st) ∧ H.length ≤ H'.length ∧ ∀ j, j < q → H'[j]? = H[j]?) := by
  intro k
  induction k with
  | zero =>
    intro H q p cols st ⟨v, fv, hp, hq, hcg⟩ hqp hk hc hf hs hl
    have hpa := fun o => pc_alive (off := o) hp
    have hpl := fun o => pc_ld (off := o) hp
    have hv := hcg.view
    have hplt := (List.getElem?_eq_some_iff.1 hp).1
    refine ACalls.introB s_impl_transversals_search (by simp) ?_; intro hB hA; unfold c_impl_transversals_search; simp (config := { maxSteps := 1000000 }) (disch := (first | omega | (simp only [go_sem]; try omega))) only [go_sem, Nat.reduceAdd, Nat.reduceEqDiff, Nat.reduceLeDiff, Nat.reduceMul, Nat.reduceLT, reduceIte, Int.reduceToNat, w64_id, cast_succ]
    repeat (first | (with_reducible first | refine SW.seq ?_ | refine SW.block ?_ | refine SW.rowC ?_ | refine SW.skip ?_ | refine SW.exit ?_ | intro _ | refine And.intro (by omega) ?_) | simp (config := { maxSteps := 1000000 }) (disch := (first | omega | (simp only [go_sem]; try omega))) only [go_sem, Nat.reduceAdd, Nat.reduceEqDiff, Nat.reduceLeDiff, Nat.reduceMul, Nat.reduceLT, reduceIte, Int.reduceToNat, w64_id, cast_succ, hpa, hpl, hv])
    refine SW.condT (show Bv (decide ((cols.length : Int) = a.length)) = Bv true by rw [decide_eq_true (by omega)]) ?_
    repeat (first | (with_reducible first | refine SW.seq ?_ | refine SW.block ?_ | refine SW.rowC ?_ | refine SW.skip ?_ | refine SW.exit ?_ | intro _ | refine And.intro (by omega) ?_) | simp (config := { maxSteps := 1000000 }) (disch := (first | omega | (simp only [go_sem]; try omega))) only [go_sem, Nat.reduceAdd, Nat.reduceEqDiff, Nat.reduceLeDiff, Nat.reduceMul, Nat.reduceLT, reduceIte, Int.reduceToNat, w64_id, cast_succ, hpa, hpl, hv])
    refine FcallW.row (clone_ok H v cols hv (by omega)) ?_
    intro ver
    have hpa2 := fun o ext => pc_alive (off := o) (get_appU hp ext)
    have hpl2 := fun o ext => pc_ld (off := o) (get_appU hp ext)
    repeat (first | (with_reducible first | refine SW.seq ?_ | refine SW.block ?_ | refine SW.rowC ?_ | refine SW.skip ?_ | refine SW.exit ?_ | intro _ | refine And.intro (by omega) ?_) | simp (config := { maxSteps := 1000000 }) (disch := (first | omega | (simp only [go_sem]; try omega))) only [go_sem, Nat.reduceAdd, Nat.reduceEqDiff, Nat.reduceLeDiff, Nat.reduceMul, Nat.reduceLT, reduceIte, Int.reduceToNat, w64_id, cast_succ, hpa2, hpl2])
    have hne : cols ≠ [] := by rintro rfl; simp at hk; omega
    refine hcg.add (r := H.length) (rv := ver) (rty := 2) hne (by omega) (Nat.le_refl _) (by omega) (fun j b _ hb => get_appU hb _) (by rw [List.getElem?_append_right (Nat.le_refl _), Nat.sub_self]; rfl) ?_
    intro fv' H' g1 g2 g3
    have hp' : H'[p]? = some ⟨0, tyTr, 1, [I st.left, Bv st.spent, ilSS a, I lim, v, .nm q 0 0 a.length, fv]⟩ := by rw [g3 p (by omega)]; exact get_appU hp _
    have hq' : H'[q]? = some ⟨0, 4, 1, (symsT a a.length cols).map Bv⟩ := by rw [g3 q (by omega)]; exact get_appU hq _
    have hst : astore H' [fv'] (.pc p 0 6) = some (H'.set p ⟨0, tyTr, 1, [I st.left, Bv st.spent, ilSS a, I lim, v, .nm q 0 0 a.length, fv']⟩) := by rw [pc_st hp' (by simp)]; rfl
    have hpa3 := fun o => pc_alive (off := o) hp'
    have hpl' := (List.getElem?_eq_some_iff.1 hp').1
    repeat (first | (with_reducible first | refine SW.seq ?_ | refine SW.block ?_ | refine SW.rowC ?_ | refine SW.skip ?_ | refine SW.exit ?_ | intro _ | refine And.intro (by omega) ?_) | simp (config := { maxSteps := 1000000 }) (disch := (first | omega | (simp only [go_sem]; try omega))) only [go_sem, Nat.reduceAdd, Nat.reduceEqDiff, Nat.reduceLeDiff, Nat.reduceMul, Nat.reduceLT, reduceIte, Int.reduceToNat, w64_id, cast_succ, hpa3, hst, g1.one.2.1, g1.one.2.2])
    have hlH : H.length ≤ H'.length := by simp at g2; omega
    refine SW.ret ⟨_, rfl, GR.of ⟨rfl, ⟨v, fv', List.getElem?_set_self hpl', by rw [List.getElem?_set_ne (by omega)]; exact hq', g1.same (fun j b hj hb => by rw [List.getElem?_set_ne (by omega)]; exact hb)⟩, by rw [List.length_set]; exact hlH, fun j hj => ?_⟩⟩
    rw [List.getElem?_set_ne (by omega), g3 j (by omega), List.getElem?_append_left (by omega)]
  | succ k ih =>
    intro H q p cols st ⟨v, fv, hp, hq, hcg⟩ hqp hk hc hf hs hl
    have hpa := fun o => pc_alive (off := o) hp
    have hpl := fun o => pc_ld (off := o) hp
    have hv := hcg.view
    have hplt := (List.getElem?_eq_some_iff.1 hp).1
    refine ACalls.introB s_impl_transversals_search (by simp) ?_; intro hB hA; unfold c_impl_transversals_search; simp (config := { maxSteps := 1000000 }) (disch := (first | omega | (simp only [go_sem]; try omega))) only [go_sem, Nat.reduceAdd, Nat.reduceEqDiff, Nat.reduceLeDiff, Nat.reduceMul, Nat.reduceLT, reduceIte, Int.reduceToNat, w64_id, cast_succ]
    repeat (first | (with_reducible first | refine SW.seq ?_ | refine SW.block ?_ | refine SW.rowC ?_ | refine SW.skip ?_ | refine SW.exit ?_ | intro _ | refine And.intro (by omega) ?_) | simp (config := { maxSteps := 1000000 }) (disch := (first | omega | (simp only [go_sem]; try omega))) only [go_sem, Nat.reduceAdd, Nat.reduceEqDiff, Nat.reduceLeDiff, Nat.reduceMul, Nat.reduceLT, reduceIte, Int.reduceToNat, w64_id, cast_succ, hpa, hpl, hv])
    refine SW.condF (show Bv (decide ((cols.length : Int) = a.length)) = Bv false by rw [decide_eq_false (by omega)]) ?_
    repeat (first | (with_reducible first | refine SW.seq ?_ | refine SW.block ?_ | refine SW.rowC ?_ | refine SW.skip ?_ | refine SW.exit ?_ | intro _ | refine And.intro (by omega) ?_) | simp (config := { maxSteps := 1000000 }) (disch := (first | omega | (simp only [go_sem]; try omega))) only [go_sem, Nat.reduceAdd, Nat.reduceEqDiff, Nat.reduceLeDiff, Nat.reduceMul, Nat.reduceLT, reduceIte, Int.reduceToNat, w64_id, cast_succ, hpa, hpl, hv])
    have hx : cols.length < a.length := by omega
    have hrl : (a.getD cols.length []).length = a.length := hrow _ (by rw [getD_get hx]; exact List.getElem_mem _)
    have hfin : trv a a.length lim (k + 1) cols st = (List.range a.length).foldl (stepT lim (trv a a.length lim k) a cols) st := rfl
    rw [hfin]
    refine SW.loopE (fun E0 H0 m E' H' => ∃ (y : Nat), y ≤ a.length ∧ m = a.length - y ∧ E' = aput E0 39 (I y) ∧ TrH H' q p a lim cols ((List.range y).foldl (stepT lim (trv a a.length lim k) a cols) st) ∧ H.length ≤ H'.length ∧ (∀ j, j < q → H'[j]? = H[j]?)) a.length
      ⟨0, by omega, by omega, rfl, ⟨v, fv, hp, hq, hcg⟩, Nat.le_refl _, fun _ _ => rfl⟩ ?_
    rintro m E' H1 ⟨y, hy, rfl, rfl, ⟨v1, fv1, hp1, hq1, hcg1⟩, hl1, hfr1⟩
    have hsl : ((List.range y).foldl (stepT lim (trv a a.length lim k) a cols) st).left ≤ 20000 := foldT_inv (P := fun st => st.left ≤ 20000) (fun _ h => h) (fun c st h _ _ _ => trv_left a _ lim 20000 k c _ (by show st.left - 1 ≤ _; omega)) _ st hl
    have hsf : ((List.range y).foldl (stepT lim (trv a a.length lim k) a cols) st).found.length ≤ lim := foldT_inv (P := fun st => st.found.length ≤ lim) (fun _ h => h) (fun c st h _ h2 _ => trv_found a _ lim k c _ (by show st.found.length < lim; omega)) _ st (by omega)
    have hstop := fold_to (stepT lim (trv a a.length lim k) a cols) st y (a.length - y)
    rw [show y + (a.length - y) = a.length by omega] at hstop
    have hnext := fold_succ (stepT lim (trv a a.length lim k) a cols) st y
    generalize hs1 : (List.range y).foldl (stepT lim (trv a a.length lim k) a cols) st = s1 at *
    have hpa1 := fun o => pc_alive (off := o) hp1
    have hpl1 := fun o => pc_ld (off := o) hp1
    have hv1 := hcg1.view
    have hp1l := (List.getElem?_eq_some_iff.1 hp1).1
    rw [hrl]
    simp (config := { maxSteps := 1000000 }) (disch := (first | omega | (simp only [go_sem]; try omega))) only [go_sem, Nat.reduceAdd, Nat.reduceEqDiff, Nat.reduceLeDiff, Nat.reduceMul, Nat.reduceLT, reduceIte, Int.reduceToNat, w64_id, cast_succ]
    repeat (first | (with_reducible first | refine SW.seq ?_ | refine SW.block ?_ | refine SW.rowC ?_ | refine SW.skip ?_ | refine SW.exit ?_ | intro _ | refine And.intro (by omega) ?_) | simp (config := { maxSteps := 1000000 }) (disch := (first | omega | (simp only [go_sem]; try omega))) only [go_sem, Nat.reduceAdd, Nat.reduceEqDiff, Nat.reduceLeDiff, Nat.reduceMul, Nat.reduceLT, reduceIte, Int.reduceToNat, w64_id, cast_succ, hpa1, hpl1, hv1])
    (first | refine SW.condD rfl (fun h2 => ?_) (fun h2 => ?_) | refine SW.condN rfl (fun h2 => ?_) (fun h2 => ?_) | refine SW.condNB rfl (fun h2 => ?_) (fun h2 => ?_) | refine SW.condB rfl (fun h2 => ?_) (fun h2 => ?_))
    · have hyn : y < a.length := by omega
      obtain ⟨s, hs2, hsn⟩ := hcell cols.length y hx hyn
      have hcv : (a.getD cols.length []).getD y 0 = (s : Int) := hs2
      repeat (first | (with_reducible first | refine SW.seq ?_ | refine SW.block ?_ | refine SW.rowC ?_ | refine SW.skip ?_ | refine SW.exit ?_ | intro _ | refine And.intro (by omega) ?_) | simp (config := { maxSteps := 1000000 }) (disch := (first | omega | (simp only [go_sem]; try omega))) only [go_sem, Nat.reduceAdd, Nat.reduceEqDiff, Nat.reduceLeDiff, Nat.reduceMul, Nat.reduceLT, reduceIte, Int.reduceToNat, w64_id, cast_succ, hpa1, hpl1, hv1, hrl, hcv])
      refine ((ContainsI_fn cols (y : Int)).lend (.cons (hcg1.froz (Nat.zero_le _)) (.cons (.I _) .nil))).mono ?_
      rintro r H1 ⟨rfl, rfl⟩
      have hqv : aview H1 (.nm q 0 0 a.length) = some (a.length, (symsT a a.length cols).map Bv) := view_nm hq1 (by rw [List.length_map, symsT_len])
      have hqc : ((symsT a a.length cols).map Bv)[s]? = some (Bv (anyT a cols (s : Int))) := by rw [List.getElem?_map, symsT_get hsn]; rfl
      have hbk : blkT a cols y = (cols.contains (y : Int) || anyT a cols (s : Int)) := by unfold blkT; rw [hs2]
      have skip : blkT a cols y = true → stepT lim (trv a a.length lim k) a cols s1 y = s1 := fun h => by unfold stepT; rw [if_pos h]
      cases hc1 : cols.contains (y : Int)
      · cases hc2 : anyT a cols (s : Int)
        · rw [hc2] at hqc
          repeat (first | (with_reducible first | refine SW.seq ?_ | refine SW.block ?_ | refine SW.rowC ?_ | refine SW.skip ?_ | refine SW.exit ?_ | intro _ | refine And.intro (by omega) ?_) | simp (config := { maxSteps := 1000000 }) (disch := (first | omega | (simp only [go_sem]; try omega))) only [go_sem, Nat.reduceAdd, Nat.reduceEqDiff, Nat.reduceLeDiff, Nat.reduceMul, Nat.reduceLT, reduceIte, Int.reduceToNat, w64_id, cast_succ, hpa1, hpl1, hqv, hqc])
          refine SW.condF rfl ?_
          repeat (first | (with_reducible first | refine SW.seq ?_ | refine SW.block ?_ | refine SW.rowC ?_ | refine SW.skip ?_ | refine SW.exit ?_ | intro _ | refine And.intro (by omega) ?_) | simp (config := { maxSteps := 1000000 }) (disch := (first | omega | (simp only [go_sem]; try omega))) only [go_sem, Nat.reduceAdd, Nat.reduceEqDiff, Nat.reduceLeDiff, Nat.reduceMul, Nat.reduceLT, reduceIte, Int.reduceToNat, w64_id, cast_succ, hpa1, hpl1])
          refine (trDone_ok H1 p q a lim cols s1 ⟨v1, fv1, hp1, hq1, hcg1⟩).mono ?_
          rintro r H1 ⟨rfl, rfl⟩
          by_cases hst : s1.spent = true ∨ s1.found.length = lim
          · have hb : (s1.spent || decide (s1.found.length = lim)) = true := by rw [Bool.or_eq_true, decide_eq_true_eq]; exact hst
            rw [hb, hstop (fun z => stepT_stop hst z)]
            repeat (first | (with_reducible first | refine SW.seq ?_ | refine SW.block ?_ | refine SW.rowC ?_ | refine SW.skip ?_ | refine SW.exit ?_ | intro _ | refine And.intro (by omega) ?_) | simp (config := { maxSteps := 1000000 }) (disch := (first | omega | (simp only [go_sem]; try omega))) only [go_sem, Nat.reduceAdd, Nat.reduceEqDiff, Nat.reduceLeDiff, Nat.reduceMul, Nat.reduceLT, reduceIte, Int.reduceToNat, w64_id, cast_succ])
            refine SW.condT rfl ?_
            refine SW.ret ⟨_, rfl, GR.of ⟨rfl, ⟨v1, fv1, hp1, hq1, hcg1⟩, hl1, hfr1⟩⟩
          have hb : (s1.spent || decide (s1.found.length = lim)) = false := by
            rw [← Bool.not_eq_true, Bool.or_eq_true, decide_eq_true_eq]; exact hst
          rw [hb]
          have hs1f : s1.spent = false := by
            cases hh : s1.spent with
            | false => rfl
            | true => exact absurd (.inl hh) hst
          have hfl : s1.found.length < lim := by
            have : s1.found.length ≠ lim := fun e => hst (.inr e)
            omega
          repeat (first | (with_reducible first | refine SW.seq ?_ | refine SW.block ?_ | refine SW.rowC ?_ | refine SW.skip ?_ | refine SW.exit ?_ | intro _ | refine And.intro (by omega) ?_) | simp (config := { maxSteps := 1000000 }) (disch := (first | omega | (simp only [go_sem]; try omega))) only [go_sem, Nat.reduceAdd, Nat.reduceEqDiff, Nat.reduceLeDiff, Nat.reduceMul, Nat.reduceLT, reduceIte, Int.reduceToNat, w64_id, cast_succ, hpa1])
          refine (node_ok H1 p _ s1.left s1.spent _ (by omega) hp1).mono ?_
          rintro r H2 (⟨hl0, rfl, rfl⟩ | ⟨hl0, rfl, rfl⟩)
          · repeat (first | (with_reducible first | refine SW.seq ?_ | refine SW.block ?_ | refine SW.rowC ?_ | refine SW.skip ?_ | refine SW.exit ?_ | intro _ | refine And.intro (by omega) ?_) | simp (config := { maxSteps := 1000000 }) (disch := (first | omega | (simp only [go_sem]; try omega))) only [go_sem, Nat.reduceAdd, Nat.reduceEqDiff, Nat.reduceLeDiff, Nat.reduceMul, Nat.reduceLT, reduceIte, Int.reduceToNat, w64_id, cast_succ])
            refine SW.condT rfl ?_
            have hnb : ¬ blkT a cols y = true := by rw [hbk, hc1, hc2]; simp
            have hstep : stepT lim (trv a a.length lim k) a cols s1 y = { s1 with spent := true } := by unfold stepT; rw [if_neg hnb, if_neg hst, if_pos hl0]
            rw [hstep] at hnext
            have hend := fold_to (stepT lim (trv a a.length lim k) a cols) st (y + 1) (a.length - (y + 1))
            rw [show y + 1 + (a.length - (y + 1)) = a.length by omega, hnext] at hend
            rw [hend (fun z => stepT_stop (.inl rfl) z)]
            refine SW.ret ⟨_, rfl, GR.of ⟨rfl, ⟨v1, fv1, List.getElem?_set_self hp1l, by rw [List.getElem?_set_ne (by omega)]; exact hq1, hcg1.same (fun j b hj hb => by rw [List.getElem?_set_ne (by omega)]; exact hb)⟩, by rw [List.length_set]; exact hl1, fun j hj => ?_⟩⟩
            rw [List.getElem?_set_ne (by omega)]; exact hfr1 j hj
          · repeat (first | (with_reducible first | refine SW.seq ?_ | refine SW.block ?_ | refine SW.rowC ?_ | refine SW.skip ?_ | refine SW.exit ?_ | intro _ | refine And.intro (by omega) ?_) | simp (config := { maxSteps := 1000000 }) (disch := (first | omega | (simp only [go_sem]; try omega))) only [go_sem, Nat.reduceAdd, Nat.reduceEqDiff, Nat.reduceLeDiff, Nat.reduceMul, Nat.reduceLT, reduceIte, Int.reduceToNat, w64_id, cast_succ])
            refine SW.condF rfl ?_
            have hp2 : (H1.set p ⟨0, tyTr, 1, [I ((s1.left - 1 : Nat) : Int), Bv s1.spent, ilSS a, I lim, v1, .nm q 0 0 a.length, fv1]⟩)[p]? = some ⟨0, tyTr, 1, [I ((s1.left - 1 : Nat) : Int), Bv s1.spent, ilSS a, I lim, v1, .nm q 0 0 a.length, fv1]⟩ := List.getElem?_set_self hp1l
            have hq2 : (H1.set p ⟨0, tyTr, 1, [I ((s1.left - 1 : Nat) : Int), Bv s1.spent, ilSS a, I lim, v1, .nm q 0 0 a.length, fv1]⟩)[q]? = some ⟨0, 4, 1, (symsT a a.length cols).map Bv⟩ := by rw [List.getElem?_set_ne (by omega)]; exact hq1
            have hcg2 : ColG (H1.set p ⟨0, tyTr, 1, [I ((s1.left - 1 : Nat) : Int), Bv s1.spent, ilSS a, I lim, v1, .nm q 0 0 a.length, fv1]⟩) (p + 1) v1 cols fv1 s1.found := hcg1.same (fun j b hj hb => by rw [List.getElem?_set_ne (by omega)]; exact hb)
            have hl2 : H.length ≤ (H1.set p ⟨0, tyTr, 1, [I ((s1.left - 1 : Nat) : Int), Bv s1.spent, ilSS a, I lim, v1, .nm q 0 0 a.length, fv1]⟩).length := by rw [List.length_set]; exact hl1
            have hfr2 : ∀ j, j < q → (H1.set p ⟨0, tyTr, 1, [I ((s1.left - 1 : Nat) : Int), Bv s1.spent, ilSS a, I lim, v1, .nm q 0 0 a.length, fv1]⟩)[j]? = H[j]? := fun j hj => by rw [List.getElem?_set_ne (by omega)]; exact hfr1 j hj
            generalize H1.set p ⟨0, tyTr, 1, [I ((s1.left - 1 : Nat) : Int), Bv s1.spent, ilSS a, I lim, v1, .nm q 0 0 a.length, fv1]⟩ = X at *
            repeat (first | (with_reducible first | refine SW.seq ?_ | refine SW.block ?_ | refine SW.rowC ?_ | refine SW.skip ?_ | refine SW.exit ?_ | intro _ | refine And.intro (by omega) ?_) | simp (config := { maxSteps := 1000000 }) (disch := (first | omega | (simp only [go_sem]; try omega))) only [go_sem, Nat.reduceAdd, Nat.reduceEqDiff, Nat.reduceLeDiff, Nat.reduceMul, Nat.reduceLT, reduceIte, Int.reduceToNat, w64_id, cast_succ])
            refine SW.mixR (fun E' H' => keep [0, 2, 4, 37, 38, 39] E' = [(0, AV.pc p 0 0), (2, I cols.length), (4, I s), (37, ilS (a.getD cols.length [])), (38, I a.length), (39, I y)] ∧ TrH H' q p a lim (cols ++ [(y : Int)]) { s1 with left := s1.left - 1 } ∧ X.length ≤ H'.length ∧ ∀ j, j < q → H'[j]? = X[j]?) ?_ ?_
            · have qa := fun o ext => pc_alive (off := o) (get_appU hp2 ext)
              have ql := fun o ext => pc_ld (off := o) (get_appU hp2 ext)
              have qa0 := fun o => pc_alive (off := o) hp2
              have ql0 := fun o => pc_ld (off := o) hp2
              have hqv := fun ext => aview_append (show aview X (.nm q 0 0 a.length) = some (a.length, (symsT a a.length cols).map Bv) from view_nm hq2 (by rw [List.length_map, symsT_len])) ext
              have hqv0 : aview X (.nm q 0 0 a.length) = some (a.length, (symsT a a.length cols).map Bv) := view_nm hq2 (by rw [List.length_map, symsT_len])
              simp (config := { maxSteps := 1000000 }) (disch := (first | omega | (simp only [go_sem]; try omega))) only [go_sem, Nat.reduceAdd, Nat.reduceEqDiff, Nat.reduceLeDiff, Nat.reduceMul, Nat.reduceLT, reduceIte, Int.reduceToNat, w64_id, cast_succ, qa, ql, qa0, ql0, hqv, hqv0]
              repeat' (with_reducible refine And.intro ?_ ?_)
              all_goals
                refine (hcg2.same (H' := X ++ [⟨0, 2, 1, [I (y : Int)]⟩]) (fun j b _ hb => get_appU hb _)).push (by simp; omega) (by omega) ?_
                intro v2 H2 g1 g2 g3
                have hx2 : X.length ≤ H2.length := by simp at g2; omega
                have hp3 : H2[p]? = some ⟨0, tyTr, 1, [I ((s1.left - 1 : Nat) : Int), Bv s1.spent, ilSS a, I lim, v1, .nm q 0 0 a.length, fv1]⟩ := by rw [g3 p (by omega)]; exact get_appU hp2 _
                have hq3 : H2[q]? = some ⟨0, 4, 1, (symsT a a.length cols).map Bv⟩ := by rw [g3 q (by omega)]; exact get_appU hq2 _
                have hfr3 : ∀ j, j < q → H2[j]? = X[j]? := fun j hj => by rw [g3 j (by omega), List.getElem?_append_left (by omega)]
                have w1 : astore H2 [v2] (.pc p 0 4) = some (H2.set p ⟨0, tyTr, 1, [I ((s1.left - 1 : Nat) : Int), Bv s1.spent, ilSS a, I lim, v2, .nm q 0 0 a.length, fv1]⟩) := by rw [pc_st hp3 (by simp)]; rfl
                have hps : (symsT a a.length cols).map Bv = (symsT a a.length cols).map Bv := rfl
                have w2 : astore H2 [Bv true] (.el (.nm q 0 0 a.length) s) = some (H2.set q ⟨0, 4, 1, (symsT a a.length (cols ++ [(y : Int)])).map Bv⟩) := by
                  rw [store_nm hq3 (by rw [List.length_map, symsT_len]; exact hsn), symsT_push hs2, List.map_set]
                have w3 : astore (H2.set p ⟨0, tyTr, 1, [I ((s1.left - 1 : Nat) : Int), Bv s1.spent, ilSS a, I lim, v2, .nm q 0 0 a.length, fv1]⟩) [Bv true] (.el (.nm q 0 0 a.length) s) = some ((H2.set p ⟨0, tyTr, 1, [I ((s1.left - 1 : Nat) : Int), Bv s1.spent, ilSS a, I lim, v2, .nm q 0 0 a.length, fv1]⟩).set q ⟨0, 4, 1, (symsT a a.length (cols ++ [(y : Int)])).map Bv⟩) := by
                  rw [store_nm (by rw [List.getElem?_set_ne (by omega)]; exact hq3) (by rw [List.length_map, symsT_len]; exact hsn), symsT_push hs2, List.map_set]
                have w4 : astore (H2.set q ⟨0, 4, 1, (symsT a a.length (cols ++ [(y : Int)])).map Bv⟩) [v2] (.pc p 0 4) = some ((H2.set q ⟨0, 4, 1, (symsT a a.length (cols ++ [(y : Int)])).map Bv⟩).set p ⟨0, tyTr, 1, [I ((s1.left - 1 : Nat) : Int), Bv s1.spent, ilSS a, I lim, v2, .nm q 0 0 a.length, fv1]⟩) := by
                  rw [pc_st (by rw [List.getElem?_set_ne (by omega)]; exact hp3) (by simp)]; rfl
                have ra := fun o => pc_alive (off := o) hp3
                have rl := fun o => pc_ld (off := o) hp3
                have rv : aview H2 (.nm q 0 0 a.length) = some (a.length, (symsT a a.length cols).map Bv) := view_nm hq3 (by rw [List.length_map, symsT_len])
                have hp3l := (List.getElem?_eq_some_iff.1 hp3).1
                have fin : ∀ Y, Y = (H2.set p ⟨0, tyTr, 1, [I ((s1.left - 1 : Nat) : Int), Bv s1.spent, ilSS a, I lim, v2, .nm q 0 0 a.length, fv1]⟩).set q ⟨0, 4, 1, (symsT a a.length (cols ++ [(y : Int)])).map Bv⟩ → TrH Y q p a lim (cols ++ [(y : Int)]) { s1 with left := s1.left - 1 } ∧ X.length ≤ H2.length ∧ ∀ j, j < q → Y[j]? = X[j]? := by
                  rintro Y rfl
                  refine ⟨⟨v2, fv1, ?_, ?_, ?_⟩, ?_, ?_⟩
                  · rw [List.getElem?_set_ne (by omega)]; exact List.getElem?_set_self hp3l
                  · exact List.getElem?_set_self (by rw [List.length_set]; omega)
                  · exact g1.same (fun j b hj hb => by rw [List.getElem?_set_ne (by omega), List.getElem?_set_ne (by omega)]; exact hb)
                  · exact hx2
                  · intro j hj
                    rw [List.getElem?_set_ne (by omega), List.getElem?_set_ne (by omega)]; exact hfr3 j hj
                have rv2 : aview (H2.set p ⟨0, tyTr, 1, [I ((s1.left - 1 : Nat) : Int), Bv s1.spent, ilSS a, I lim, v2, .nm q 0 0 a.length, fv1]⟩) (.nm q 0 0 a.length) = some (a.length, (symsT a a.length cols).map Bv) := view_nm (by rw [List.getElem?_set_ne (by omega)]; exact hq3) (by rw [List.length_map, symsT_len])
                have hp4 : (H2.set p ⟨0, tyTr, 1, [I ((s1.left - 1 : Nat) : Int), Bv s1.spent, ilSS a, I lim, v2, .nm q 0 0 a.length, fv1]⟩)[p]? = some ⟨0, tyTr, 1, [I ((s1.left - 1 : Nat) : Int), Bv s1.spent, ilSS a, I lim, v2, .nm q 0 0 a.length, fv1]⟩ := List.getElem?_set_self hp3l
                have hp5 : (H2.set q ⟨0, 4, 1, (symsT a a.length (cols ++ [(y : Int)])).map Bv⟩)[p]? = some ⟨0, tyTr, 1, [I ((s1.left - 1 : Nat) : Int), Bv s1.spent, ilSS a, I lim, v1, .nm q 0 0 a.length, fv1]⟩ := by rw [List.getElem?_set_ne (by omega)]; exact hp3
                have ra4 := fun o => pc_alive (off := o) hp4
                have rl4 := fun o => pc_ld (off := o) hp4
                have ra5 := fun o => pc_alive (off := o) hp5
                have rl5 := fun o => pc_ld (off := o) hp5
              all_goals simp (config := { maxSteps := 1000000 }) (disch := (first | omega | (simp only [go_sem]; try omega))) only [go_sem, Nat.reduceAdd, Nat.reduceEqDiff, Nat.reduceLeDiff, Nat.reduceMul, Nat.reduceLT, reduceIte, Int.reduceToNat, w64_id, cast_succ, ra, rl, rv, rv2, ra4, rl4, ra5, rl5, w1, w2, w3, w4, g1.one.1.1, g1.one.1.2]
              all_goals first
                | exact fin _ rfl
                | exact fin _ (List.set_comm _ _ (by omega))
                | exact (7 : Nat)
            · rintro E2 H2 ⟨hk2, hT2, hl3, hfr3⟩
              rw [hk2]
              repeat (first | (with_reducible first | refine SW.seq ?_ | refine SW.block ?_ | refine SW.rowC ?_ | refine SW.skip ?_ | refine SW.exit ?_ | intro _ | refine And.intro (by omega) ?_) | simp (config := { maxSteps := 1000000 }) (disch := (first | omega | (simp only [go_sem]; try omega))) only [go_sem, Nat.reduceAdd, Nat.reduceEqDiff, Nat.reduceLeDiff, Nat.reduceMul, Nat.reduceLT, reduceIte, Int.reduceToNat, w64_id, cast_succ])
              refine (ih H2 q p (cols ++ [(y : Int)]) _ hT2 hqp (by simp; omega) (fun c hcm => ?_) hfl hs1f (by show s1.left - 1 ≤ 20000; omega)).mono ?_
              · rcases List.mem_append.1 hcm with h | h
                · exact hc c h
                · rw [List.mem_singleton.1 h]; omega
              rintro r H3 ⟨rfl, ⟨v3, fv3, hp3, hq3, hcg3⟩, hl4, hfr4⟩
              have hv3 := hcg3.view
              obtain ⟨t4, ver4, cells4, rfl, hx4, hy4, hcg4⟩ := hcg3.pop
              have hp3l := (List.getElem?_eq_some_iff.1 hp3).1
              have ra := fun o => pc_alive (off := o) hp3
              have rl := fun o => pc_ld (off := o) hp3
              rw [List.length_append, List.length_singleton] at hv3
              have hsl := fun K => slcNT (K := K) (r := t4) (v := ver4) (l := cols.length + 1) (n := cols.length + 1) (y := (cols.length : Int)) (cells := (cols ++ [(y : Int)]).map I) (by rw [hx4]; rfl) (by omega) (by omega)
              rw [Int.toNat_natCast] at hsl
              have hpop := symsT_pop hs2 hsn hc2
              have hnb : ¬ blkT a cols y = true := by rw [hbk, hc1, hc2]; simp
              have hstep : stepT lim (trv a a.length lim k) a cols s1 y = trv a a.length lim k (cols ++ [(y : Int)]) { s1 with left := s1.left - 1 } := by unfold stepT; rw [if_neg hnb, if_neg hst, if_neg hl0]
              generalize trv a a.length lim k (cols ++ [(y : Int)]) { s1 with left := s1.left - 1 } = s3 at *
              have w1 : astore H3 [.nm t4 ver4 0 cols.length] (.pc p 0 4) = some (H3.set p ⟨0, tyTr, 1, [I s3.left, Bv s3.spent, ilSS a, I lim, .nm t4 ver4 0 cols.length, .nm q 0 0 a.length, fv3]⟩) := by rw [pc_st hp3 (by simp)]; rfl
              have hq4 : (H3.set p ⟨0, tyTr, 1, [I s3.left, Bv s3.spent, ilSS a, I lim, .nm t4 ver4 0 cols.length, .nm q 0 0 a.length, fv3]⟩)[q]? = some ⟨0, 4, 1, (symsT a a.length (cols ++ [(y : Int)])).map Bv⟩ := by rw [List.getElem?_set_ne (by omega)]; exact hq3
              have rv4 : aview (H3.set p ⟨0, tyTr, 1, [I s3.left, Bv s3.spent, ilSS a, I lim, .nm t4 ver4 0 cols.length, .nm q 0 0 a.length, fv3]⟩) (.nm q 0 0 a.length) = some (a.length, (symsT a a.length (cols ++ [(y : Int)])).map Bv) := view_nm hq4 (by rw [List.length_map, symsT_len])
              have w2 : astore (H3.set p ⟨0, tyTr, 1, [I s3.left, Bv s3.spent, ilSS a, I lim, .nm t4 ver4 0 cols.length, .nm q 0 0 a.length, fv3]⟩) [Bv false] (.el (.nm q 0 0 a.length) s) = some ((H3.set p ⟨0, tyTr, 1, [I s3.left, Bv s3.spent, ilSS a, I lim, .nm t4 ver4 0 cols.length, .nm q 0 0 a.length, fv3]⟩).set q ⟨0, 4, 1, (symsT a a.length cols).map Bv⟩) := by
                rw [store_nm hq4 (by rw [List.length_map, symsT_len]; exact hsn), ← List.map_set, hpop]
              repeat (first | (with_reducible first | refine SW.seq ?_ | refine SW.block ?_ | refine SW.rowC ?_ | refine SW.skip ?_ | refine SW.exit ?_ | intro _ | refine And.intro (by omega) ?_) | simp (config := { maxSteps := 1000000 }) (disch := (first | omega | (simp only [go_sem]; try omega))) only [go_sem, Nat.reduceAdd, Nat.reduceEqDiff, Nat.reduceLeDiff, Nat.reduceMul, Nat.reduceLT, reduceIte, Int.reduceToNat, w64_id, cast_succ, ra, rl, hv3, hsl, w1, w2, rv4, Option.map_some, Option.map_none])
              refine SLoop.next (a.length - (y + 1)) (by omega) ⟨y + 1, by omega, rfl, by simp [go_sem], ?_, ?_, fun j hj => ?_⟩
              · rw [hnext, hstep]
                refine ⟨.nm t4 ver4 0 cols.length, fv3, ?_, ?_, ?_⟩
                · rw [List.getElem?_set_ne (by omega)]; exact List.getElem?_set_self hp3l
                · exact List.getElem?_set_self (by rw [List.length_set]; omega)
                · exact hcg4.same (fun j b hj hb => by rw [List.getElem?_set_ne (by omega), List.getElem?_set_ne (by omega)]; exact hb)
              · rw [List.length_set, List.length_set]; omega
              · rw [List.getElem?_set_ne (by omega), List.getElem?_set_ne (by omega), hfr4 j hj, hfr3 j hj, hfr2 j hj]
        · rw [hc2] at hqc
          repeat (first | (with_reducible first | refine SW.seq ?_ | refine SW.block ?_ | refine SW.rowC ?_ | refine SW.skip ?_ | refine SW.exit ?_ | intro _ | refine And.intro (by omega) ?_) | simp (config := { maxSteps := 1000000 }) (disch := (first | omega | (simp only [go_sem]; try omega))) only [go_sem, Nat.reduceAdd, Nat.reduceEqDiff, Nat.reduceLeDiff, Nat.reduceMul, Nat.reduceLT, reduceIte, Int.reduceToNat, w64_id, cast_succ, hpa1, hpl1, hqv, hqc])
          refine SW.condT rfl ?_
          repeat (first | (with_reducible first | refine SW.seq ?_ | refine SW.block ?_ | refine SW.rowC ?_ | refine SW.skip ?_ | refine SW.exit ?_ | intro _ | refine And.intro (by omega) ?_) | simp (config := { maxSteps := 1000000 }) (disch := (first | omega | (simp only [go_sem]; try omega))) only [go_sem, Nat.reduceAdd, Nat.reduceEqDiff, Nat.reduceLeDiff, Nat.reduceMul, Nat.reduceLT, reduceIte, Int.reduceToNat, w64_id, cast_succ])
          refine SLoop.next (a.length - (y + 1)) (by omega) ⟨y + 1, by omega, rfl, by simp [go_sem], ?_, hl1, hfr1⟩
          rw [hnext, skip (by rw [hbk, hc1, hc2]; rfl)]
          exact ⟨v1, fv1, hp1, hq1, hcg1⟩
      · repeat (first | (with_reducible first | refine SW.seq ?_ | refine SW.block ?_ | refine SW.rowC ?_ | refine SW.skip ?_ | refine SW.exit ?_ | intro _ | refine And.intro (by omega) ?_) | simp (config := { maxSteps := 1000000 }) (disch := (first | omega | (simp only [go_sem]; try omega))) only [go_sem, Nat.reduceAdd, Nat.reduceEqDiff, Nat.reduceLeDiff, Nat.reduceMul, Nat.reduceLT, reduceIte, Int.reduceToNat, w64_id, cast_succ])
        refine SW.condT rfl ?_
        repeat (first | (with_reducible first | refine SW.seq ?_ | refine SW.block ?_ | refine SW.rowC ?_ | refine SW.skip ?_ | refine SW.exit ?_ | intro _ | refine And.intro (by omega) ?_) | simp (config := { maxSteps := 1000000 }) (disch := (first | omega | (simp only [go_sem]; try omega))) only [go_sem, Nat.reduceAdd, Nat.reduceEqDiff, Nat.reduceLeDiff, Nat.reduceMul, Nat.reduceLT, reduceIte, Int.reduceToNat, w64_id, cast_succ])
        refine SLoop.next (a.length - (y + 1)) (by omega) ⟨y + 1, by omega, rfl, by simp [go_sem], ?_, hl1, hfr1⟩
        rw [hnext, skip (by rw [hbk, hc1]; rfl)]
        exact ⟨v1, fv1, hp1, hq1, hcg1⟩
    · have : y = a.length := by omega
      subst this
      repeat (first | (with_reducible first | refine SW.seq ?_ | refine SW.block ?_ | refine SW.rowC ?_ | refine SW.skip ?_ | refine SW.exit ?_ | intro _ | refine And.intro (by omega) ?_) | simp (config := { maxSteps := 1000000 }) (disch := (first | omega | (simp only [go_sem]; try omega))) only [go_sem, Nat.reduceAdd, Nat.reduceEqDiff, Nat.reduceLeDiff, Nat.reduceMul, Nat.reduceLT, reduceIte, Int.reduceToNat, w64_id, cast_succ])
      rw [hs1]
      exact ⟨_, rfl, GR.of ⟨rfl, ⟨v1, fv1, hp1, hq1, hcg1⟩, hl1, hfr1⟩⟩
end Go.Proofs.Ytpaagkipnlbibaa
