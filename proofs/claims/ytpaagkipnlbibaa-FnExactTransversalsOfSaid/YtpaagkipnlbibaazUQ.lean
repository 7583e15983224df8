/- Transversals: the reference's search. -/
import Derived.Test.YtpaagkipnlbibaaProg
import Derived.KernelRfl
import Derived.Test.YtpaagkipnlbibaazUP
set_option linter.unusedSimpArgs false
set_option linter.unusedVariables false
set_option maxHeartbeats 4000000
set_option maxRecDepth 100000
namespace Go.Proofs.Ytpaagkipnlbibaa
open Go.Av
abbrev f_spec_l07Find_run : Nat := 45
def c_spec_l07Find_run : SC :=
 .seq (.reg [
     ⟨(some 5), .mv (.tmp 0), none⟩,
     ⟨(some 6), .nilc (.tmp 5), none⟩,
     ⟨(some 7), .faddr 0 (.tmp 6), none⟩,
     ⟨(some 8), .load 1 false (.tmp 7), none⟩,
     ⟨(some 9), .len (.tmp 8), none⟩,
     ⟨(some 2), .mv (.tmp 9), none⟩] [0, 2])
 (.seq (.reg [
     ⟨(some 10), .mv (.tmp 0), none⟩,
     ⟨(some 11), .nilc (.tmp 10), none⟩,
     ⟨(some 12), .faddr 1 (.tmp 11), none⟩,
     ⟨(some 13), .load 1 false (.tmp 12), none⟩,
     ⟨(some 14), .len (.tmp 13), none⟩,
     ⟨(some 3), .mv (.tmp 14), none⟩] [0, 2, 3])
 (.seq (.seq (.reg [
     ⟨(some 15), .mv (.tmp 3), none⟩,
     ⟨(some 16), .mv (.tmp 2), none⟩,
     ⟨(some 17), .bin .eql (.tmp 15) (.tmp 16), none⟩] [0, 2, 3, 17])
 (.cond (.tmp 17)
  (.seq (.reg [
      ⟨(some 18), .mv (.tmp 0), none⟩,
      ⟨(some 19), .mv (.tmp 0), none⟩,
      ⟨(some 20), .nilc (.tmp 19), none⟩,
      ⟨(some 21), .faddr 2 (.tmp 20), none⟩,
      ⟨(some 22), .load 1 false (.tmp 21), none⟩,
      ⟨(some 23), .mv (.tmp 0), none⟩,
      ⟨(some 24), .nilc (.tmp 23), none⟩,
      ⟨(some 25), .faddr 1 (.tmp 24), none⟩,
      ⟨(some 26), .load 1 false (.tmp 25), none⟩,
      ⟨(some 27), .fcall 82 [(.tmp 26)], none⟩,
      ⟨(some 28), .bslice 29 1 1 [(.slice none 0 0)] [(0, (.tmp 27))], none⟩,
      ⟨(some 29), .app 29 1 24 (.tmp 22) (.tmp 28), none⟩,
      ⟨(some 30), .nilc (.tmp 18), none⟩,
      ⟨(some 31), .faddr 2 (.tmp 30), none⟩,
      ⟨none, .store 1 (.tmp 31) (.tmp 29), none⟩] [])
  (.ret))
  (.skip)))
 (.seq (.reg [
     ⟨(some 4), .mv (.const (.int .i64 0)), none⟩] [0, 2, 3, 4])
 (.block 0 (.loop [0, 2, 3, 4]
   (.seq (.seq (.reg [
       ⟨(some 32), .mv (.tmp 4), none⟩,
       ⟨(some 33), .mv (.tmp 2), none⟩,
       ⟨(some 34), .bin .lss (.tmp 32) (.tmp 33), none⟩] [0, 2, 3, 4, 34])
   (.cond (.tmp 34)
    (.skip)
    (.exit 0)))
   (.seq (.block 1 (.seq (.seq (.reg [
        ⟨(some 37), .mv (.tmp 0), none⟩,
        ⟨(some 38), .mv (.tmp 3), none⟩,
        ⟨(some 39), .mv (.tmp 4), none⟩,
        ⟨(some 40), .call 83 [(.tmp 37), (.tmp 38), (.tmp 39)], none⟩,
        ⟨(some 41), .un .not (.tmp 40), none⟩] [0, 2, 3, 4, 41])
    (.cond (.tmp 41)
     (.exit 1)
     (.skip)))
    (.seq (.seq (.reg [
        ⟨(some 42), .mv (.tmp 0), none⟩,
        ⟨(some 43), .nilc (.tmp 42), none⟩,
        ⟨(some 44), .faddr 6 (.tmp 43), none⟩,
        ⟨(some 45), .load 1 false (.tmp 44), none⟩,
        ⟨(some 46), .mv (.tmp 45), none⟩,
        ⟨(some 47), .mv (.tmp 0), (some (46, false))⟩,
        ⟨(some 48), .nilc (.tmp 47), (some (46, false))⟩,
        ⟨(some 49), .faddr 2 (.tmp 48), (some (46, false))⟩,
        ⟨(some 50), .load 1 false (.tmp 49), (some (46, false))⟩,
        ⟨(some 51), .qlen (.tmp 50), (some (46, false))⟩,
        ⟨(some 52), .mv (.tmp 0), (some (46, false))⟩,
        ⟨(some 53), .nilc (.tmp 52), (some (46, false))⟩,
        ⟨(some 54), .faddr 3 (.tmp 53), (some (46, false))⟩,
        ⟨(some 55), .load 1 false (.tmp 54), (some (46, false))⟩,
        ⟨(some 56), .bin .eql (.tmp 51) (.tmp 55), (some (46, false))⟩,
        ⟨(some 57), .pick (.tmp 46) (.const (.bool true)) (.tmp 56), none⟩] [0, 2, 3, 4, 57])
    (.cond (.tmp 57)
     (.ret)
     (.skip)))
    (.seq (.seq (.reg [
        ⟨(some 58), .mv (.tmp 0), none⟩,
        ⟨(some 59), .nilc (.tmp 58), none⟩,
        ⟨(some 60), .faddr 4 (.tmp 59), none⟩,
        ⟨(some 61), .load 1 false (.tmp 60), none⟩,
        ⟨(some 62), .mv (.tmp 0), none⟩,
        ⟨(some 63), .nilc (.tmp 62), none⟩,
        ⟨(some 64), .faddr 5 (.tmp 63), none⟩,
        ⟨(some 65), .load 1 false (.tmp 64), none⟩,
        ⟨(some 66), .bin .eql (.tmp 61) (.tmp 65), none⟩] [0, 2, 3, 4, 66])
    (.cond (.tmp 66)
     (.seq (.reg [
         ⟨(some 67), .mv (.tmp 0), none⟩,
         ⟨(some 68), .nilc (.tmp 67), none⟩,
         ⟨(some 69), .faddr 6 (.tmp 68), none⟩,
         ⟨none, .store 1 (.tmp 69) (.const (.bool true)), none⟩] [])
     (.ret))
     (.skip)))
    (.seq (.reg [
        ⟨(some 70), .mv (.tmp 0), none⟩,
        ⟨(some 71), .nilc (.tmp 70), none⟩,
        ⟨(some 72), .faddr 4 (.tmp 71), none⟩,
        ⟨(some 73), .load 1 false (.tmp 72), none⟩,
        ⟨(some 74), .bin .add (.tmp 73) (.const (.int .i64 1)), none⟩,
        ⟨(some 75), .nilc (.tmp 70), none⟩,
        ⟨(some 76), .faddr 4 (.tmp 75), none⟩,
        ⟨none, .store 1 (.tmp 76) (.tmp 74), none⟩] [0, 2, 3, 4])
    (.seq (.reg [
        ⟨(some 77), .mv (.tmp 0), none⟩,
        ⟨(some 78), .mv (.tmp 0), none⟩,
        ⟨(some 79), .nilc (.tmp 78), none⟩,
        ⟨(some 80), .faddr 1 (.tmp 79), none⟩,
        ⟨(some 81), .load 1 false (.tmp 80), none⟩,
        ⟨(some 82), .mv (.tmp 4), none⟩,
        ⟨(some 83), .bslice 2 1 1 [(.int .i64 0)] [(0, (.tmp 82))], none⟩,
        ⟨(some 84), .app 2 1 8 (.tmp 81) (.tmp 83), none⟩,
        ⟨(some 85), .nilc (.tmp 77), none⟩,
        ⟨(some 86), .faddr 1 (.tmp 85), none⟩,
        ⟨none, .store 1 (.tmp 86) (.tmp 84), none⟩] [0, 2, 3, 4])
    (.seq (.reg [
        ⟨(some 87), .mv (.tmp 0), none⟩,
        ⟨(some 88), .call 45 [(.tmp 87)], none⟩] [0, 2, 3, 4])
    (.reg [
        ⟨(some 89), .mv (.tmp 0), none⟩,
        ⟨(some 90), .mv (.tmp 0), none⟩,
        ⟨(some 91), .nilc (.tmp 90), none⟩,
        ⟨(some 92), .faddr 1 (.tmp 91), none⟩,
        ⟨(some 93), .load 1 false (.tmp 92), none⟩,
        ⟨(some 94), .mv (.tmp 3), none⟩,
        ⟨(some 95), .slc 1 (.tmp 93) none (some (.tmp 94)), none⟩,
        ⟨(some 96), .nilc (.tmp 89), none⟩,
        ⟨(some 97), .faddr 1 (.tmp 96), none⟩,
        ⟨none, .store 1 (.tmp 97) (.tmp 95), none⟩] [0, 2, 3, 4]))))))))
   (.reg [
       ⟨(some 35), .mv (.tmp 4), none⟩,
       ⟨(some 36), .bin .add (.tmp 35) (.const (.int .i64 1)), none⟩,
       ⟨(some 4), .mv (.tmp 36), none⟩] [0, 2, 3, 4]))))))))
theorem s_spec_l07Find_run : stripF Try.prog 45 [[0, 2], [0, 2, 3], [0, 2, 3, 17], [1001009], [0, 2, 3, 4], [0, 2, 3, 4], [0, 2, 3, 4, 34], [0, 2, 3, 4, 41], [0, 2, 3, 4, 57], [0, 2, 3, 4, 66], [], [0, 2, 3, 4], [0, 2, 3, 4], [0, 2, 3, 4], [0, 2, 3, 4], [0, 2, 3, 4]] = some (c_spec_l07Find_run, [], 98) := by kernel_rfl
theorem ColG.viewF {H : List Blk} {base : Nat} {v fv : AV} {cols : List Int} {found : List (List Int)} (h : ColG H base v cols fv found) : ∃ cells, aview H fv = some (found.length, cells) := by
  rcases h with ⟨-, -, rfl, rfl⟩ | ⟨t, ver, cells, rfl, h2, h3, h4, h5, h6⟩
  · exact ⟨[], rfl⟩
  · rcases h6 with ⟨rfl, rfl⟩ | ⟨t, ver, cells, rfl, hc⟩
    · exact ⟨[], rfl⟩
    · obtain ⟨cells, h, _⟩ := hc.rd
      exact ⟨cells, h⟩
theorem fiRun_ok (a : List (List Int)) (lim b : Nat) (h10 : 1 ≤ a.length ∧ a.length ≤ 10) (hrow : ∀ r ∈ a, r.length = a.length) (hlim : lim ≤ 100000) (hbb : b ≤ 1000000) :
    ∀ (k : Nat) (H : List Blk) (p : Nat) (cols : List Int) (st : TS), FiH H p a lim b cols st → cols.length + k = a.length → (∀ c ∈ cols, 0 ≤ c ∧ c < (a.length : Int)) → st.found.length < lim → st.spent = false → st.left ≤ b →
    ACalls Try.prog f_spec_l07Find_run [.pc p 0 0] H (fun r H' => r = .tup [] ∧ FiH H' p a lim b cols (trv a a.length lim k cols st) ∧ H.length ≤ H'.length ∧ ∀ j, j < p → H'[j]? = H[j]?) := by
  intro k
  induction k with
  | zero =>
    intro H p cols st ⟨v, fv, hp, hcg⟩ hk hc hf hs hl
    have hpa := fun o => pc_alive (off := o) hp
    have hpl := fun o => pc_ld (off := o) hp
    have hv := hcg.view
    have hplt := (List.getElem?_eq_some_iff.1 hp).1
    refine ACalls.introB s_spec_l07Find_run (by simp) ?_; intro hB hA; unfold c_spec_l07Find_run; simp (config := { maxSteps := 1000000 }) (disch := (first | omega | (simp only [go_sem]; try omega))) only [go_sem, Nat.reduceAdd, Nat.reduceEqDiff, Nat.reduceLeDiff, Nat.reduceMul, Nat.reduceLT, reduceIte, Int.reduceToNat, w64_id, cast_succ]
    repeat (first | (with_reducible first | refine SW.seq ?_ | refine SW.block ?_ | refine SW.rowC ?_ | refine SW.skip ?_ | refine SW.exit ?_ | intro _ | refine And.intro (by omega) ?_) | simp (config := { maxSteps := 1000000 }) (disch := (first | omega | (simp only [go_sem]; try omega))) only [go_sem, Nat.reduceAdd, Nat.reduceEqDiff, Nat.reduceLeDiff, Nat.reduceMul, Nat.reduceLT, reduceIte, Int.reduceToNat, w64_id, cast_succ, hpa, hpl, hv])
    refine SW.condT (show Bv (decide ((cols.length : Int) = a.length)) = Bv true by rw [decide_eq_true (by omega)]) ?_
    repeat (first | (with_reducible first | refine SW.seq ?_ | refine SW.block ?_ | refine SW.rowC ?_ | refine SW.skip ?_ | refine SW.exit ?_ | intro _ | refine And.intro (by omega) ?_) | simp (config := { maxSteps := 1000000 }) (disch := (first | omega | (simp only [go_sem]; try omega))) only [go_sem, Nat.reduceAdd, Nat.reduceEqDiff, Nat.reduceLeDiff, Nat.reduceMul, Nat.reduceLT, reduceIte, Int.reduceToNat, w64_id, cast_succ, hpa, hpl, hv])
    refine FcallW.row ((l00Own_ok H v cols hv (by omega)).mono (fun r H' h => ⟨1, h⟩)) ?_
    intro ver
    have hpa2 := fun o ext => pc_alive (off := o) (get_appU hp ext)
    have hpl2 := fun o ext => pc_ld (off := o) (get_appU hp ext)
    repeat (first | (with_reducible first | refine SW.seq ?_ | refine SW.block ?_ | refine SW.rowC ?_ | refine SW.skip ?_ | refine SW.exit ?_ | intro _ | refine And.intro (by omega) ?_) | simp (config := { maxSteps := 1000000 }) (disch := (first | omega | (simp only [go_sem]; try omega))) only [go_sem, Nat.reduceAdd, Nat.reduceEqDiff, Nat.reduceLeDiff, Nat.reduceMul, Nat.reduceLT, reduceIte, Int.reduceToNat, w64_id, cast_succ, hpa2, hpl2])
    have hne : cols ≠ [] := by rintro rfl; simp at hk; omega
    refine hcg.add (r := H.length) (rv := ver) (rty := 2) hne (by omega) (Nat.le_refl _) (by omega) (fun j b _ hb => get_appU hb _) (by rw [List.getElem?_append_right (Nat.le_refl _), Nat.sub_self]; rfl) ?_
    intro fv' H' g1 g2 g3
    have hp' : H'[p]? = some ⟨0, tyFi, 1, [ilSS a, v, fv, I lim, I ((b - st.left : Nat) : Int), I b, Bv st.spent]⟩ := by rw [g3 p (by omega)]; exact get_appU hp _
    have hst : astore H' [fv'] (.pc p 0 2) = some (H'.set p ⟨0, tyFi, 1, [ilSS a, v, fv', I lim, I ((b - st.left : Nat) : Int), I b, Bv st.spent]⟩) := by rw [pc_st hp' (by simp)]; rfl
    have hpa3 := fun o => pc_alive (off := o) hp'
    have hpl' := (List.getElem?_eq_some_iff.1 hp').1
    repeat (first | (with_reducible first | refine SW.seq ?_ | refine SW.block ?_ | refine SW.rowC ?_ | refine SW.skip ?_ | refine SW.exit ?_ | intro _ | refine And.intro (by omega) ?_) | simp (config := { maxSteps := 1000000 }) (disch := (first | omega | (simp only [go_sem]; try omega))) only [go_sem, Nat.reduceAdd, Nat.reduceEqDiff, Nat.reduceLeDiff, Nat.reduceMul, Nat.reduceLT, reduceIte, Int.reduceToNat, w64_id, cast_succ, hpa3, hst, g1.one.2.1, g1.one.2.2])
    have hlH : H.length ≤ H'.length := by simp at g2; omega
    refine SW.ret ⟨_, rfl, GR.of ⟨rfl, ⟨v, fv', List.getElem?_set_self hpl', g1.same (fun j b hj hb => by rw [List.getElem?_set_ne (by omega)]; exact hb)⟩, by rw [List.length_set]; exact hlH, fun j hj => ?_⟩⟩
    rw [List.getElem?_set_ne (by omega), g3 j (by omega), List.getElem?_append_left (by omega)]
  | succ k ih =>
    intro H p cols st ⟨v, fv, hp, hcg⟩ hk hc hf hs hl
    have hpa := fun o => pc_alive (off := o) hp
    have hpl := fun o => pc_ld (off := o) hp
    have hv := hcg.view
    have hplt := (List.getElem?_eq_some_iff.1 hp).1
    refine ACalls.introB s_spec_l07Find_run (by simp) ?_; intro hB hA; unfold c_spec_l07Find_run; simp (config := { maxSteps := 1000000 }) (disch := (first | omega | (simp only [go_sem]; try omega))) only [go_sem, Nat.reduceAdd, Nat.reduceEqDiff, Nat.reduceLeDiff, Nat.reduceMul, Nat.reduceLT, reduceIte, Int.reduceToNat, w64_id, cast_succ]
    repeat (first | (with_reducible first | refine SW.seq ?_ | refine SW.block ?_ | refine SW.rowC ?_ | refine SW.skip ?_ | refine SW.exit ?_ | intro _ | refine And.intro (by omega) ?_) | simp (config := { maxSteps := 1000000 }) (disch := (first | omega | (simp only [go_sem]; try omega))) only [go_sem, Nat.reduceAdd, Nat.reduceEqDiff, Nat.reduceLeDiff, Nat.reduceMul, Nat.reduceLT, reduceIte, Int.reduceToNat, w64_id, cast_succ, hpa, hpl, hv])
    refine SW.condF (show Bv (decide ((cols.length : Int) = a.length)) = Bv false by rw [decide_eq_false (by omega)]) ?_
    repeat (first | (with_reducible first | refine SW.seq ?_ | refine SW.block ?_ | refine SW.rowC ?_ | refine SW.skip ?_ | refine SW.exit ?_ | intro _ | refine And.intro (by omega) ?_) | simp (config := { maxSteps := 1000000 }) (disch := (first | omega | (simp only [go_sem]; try omega))) only [go_sem, Nat.reduceAdd, Nat.reduceEqDiff, Nat.reduceLeDiff, Nat.reduceMul, Nat.reduceLT, reduceIte, Int.reduceToNat, w64_id, cast_succ, hpa, hpl, hv])
    have hx : cols.length < a.length := by omega
    have hfin : trv a a.length lim (k + 1) cols st = (List.range a.length).foldl (stepT lim (trv a a.length lim k) a cols) st := rfl
    rw [hfin]
    refine SW.loopE (fun E0 H0 m E' H' => ∃ (y : Nat), y ≤ a.length ∧ m = a.length - y ∧ E' = aput E0 4 (I y) ∧ FiH H' p a lim b cols ((List.range y).foldl (stepT lim (trv a a.length lim k) a cols) st) ∧ H.length ≤ H'.length ∧ (∀ j, j < p → H'[j]? = H[j]?)) a.length
      ⟨0, by omega, by omega, rfl, ⟨v, fv, hp, hcg⟩, Nat.le_refl _, fun _ _ => rfl⟩ ?_
    rintro m E' H1 ⟨y, hy, rfl, rfl, hF1, hl1, hfr1⟩
    have hsl : ((List.range y).foldl (stepT lim (trv a a.length lim k) a cols) st).left ≤ b := foldT_inv (P := fun st => st.left ≤ b) (fun _ h => h) (fun c st h _ _ _ => trv_left a _ lim b k c _ (by show st.left - 1 ≤ _; omega)) _ st hl
    have hsf : ((List.range y).foldl (stepT lim (trv a a.length lim k) a cols) st).found.length ≤ lim := foldT_inv (P := fun st => st.found.length ≤ lim) (fun _ h => h) (fun c st h _ h2 _ => trv_found a _ lim k c _ (by show st.found.length < lim; omega)) _ st (by omega)
    have hstop := fold_to (stepT lim (trv a a.length lim k) a cols) st y (a.length - y)
    rw [show y + (a.length - y) = a.length by omega] at hstop
    have hnext := fold_succ (stepT lim (trv a a.length lim k) a cols) st y
    generalize hs1 : (List.range y).foldl (stepT lim (trv a a.length lim k) a cols) st = s1 at *
    have hF := hF1
    obtain ⟨v1, fv1, hp1, hcg1⟩ := hF1
    have hpa1 := fun o => pc_alive (off := o) hp1
    have hpl1 := fun o => pc_ld (off := o) hp1
    have hv1 := hcg1.view
    have hp1l := (List.getElem?_eq_some_iff.1 hp1).1
    simp (config := { maxSteps := 1000000 }) (disch := (first | omega | (simp only [go_sem]; try omega))) only [go_sem, Nat.reduceAdd, Nat.reduceEqDiff, Nat.reduceLeDiff, Nat.reduceMul, Nat.reduceLT, reduceIte, Int.reduceToNat, w64_id, cast_succ]
    repeat (first | (with_reducible first | refine SW.seq ?_ | refine SW.block ?_ | refine SW.rowC ?_ | refine SW.skip ?_ | refine SW.exit ?_ | intro _ | refine And.intro (by omega) ?_) | simp (config := { maxSteps := 1000000 }) (disch := (first | omega | (simp only [go_sem]; try omega))) only [go_sem, Nat.reduceAdd, Nat.reduceEqDiff, Nat.reduceLeDiff, Nat.reduceMul, Nat.reduceLT, reduceIte, Int.reduceToNat, w64_id, cast_succ, hpa1, hpl1, hv1])
    (first | refine SW.condD rfl (fun h2 => ?_) (fun h2 => ?_) | refine SW.condN rfl (fun h2 => ?_) (fun h2 => ?_) | refine SW.condNB rfl (fun h2 => ?_) (fun h2 => ?_) | refine SW.condB rfl (fun h2 => ?_) (fun h2 => ?_))
    · have hyn : y < a.length := by omega
      repeat (first | (with_reducible first | refine SW.seq ?_ | refine SW.block ?_ | refine SW.rowC ?_ | refine SW.skip ?_ | refine SW.exit ?_ | intro _ | refine And.intro (by omega) ?_) | simp (config := { maxSteps := 1000000 }) (disch := (first | omega | (simp only [go_sem]; try omega))) only [go_sem, Nat.reduceAdd, Nat.reduceEqDiff, Nat.reduceLeDiff, Nat.reduceMul, Nat.reduceLT, reduceIte, Int.reduceToNat, w64_id, cast_succ, hpa1, hpl1, hv1])
      obtain ⟨cellsF, hfn⟩ := hcg1.viewF
      refine (fiFree_ok H1 p a lim b cols s1 y hF hrow (by omega) hx hyn hc).mono ?_
      rintro r H1 ⟨rfl, rfl⟩
      cases hbk : blkT a cols y
      · repeat (first | (with_reducible first | refine SW.seq ?_ | refine SW.block ?_ | refine SW.rowC ?_ | refine SW.skip ?_ | refine SW.exit ?_ | intro _ | refine And.intro (by omega) ?_) | simp (config := { maxSteps := 1000000 }) (disch := (first | omega | (simp only [go_sem]; try omega))) only [go_sem, Nat.reduceAdd, Nat.reduceEqDiff, Nat.reduceLeDiff, Nat.reduceMul, Nat.reduceLT, reduceIte, Int.reduceToNat, w64_id, cast_succ])
        refine SW.condF rfl ?_
        by_cases hst : s1.spent = true ∨ s1.found.length = lim
        · rw [hstop (fun z => stepT_stop hst z)]
          cases hsp : s1.spent with
          | true =>
            rw [hsp] at hpl1
            repeat (first | (with_reducible first | refine SW.seq ?_ | refine SW.block ?_ | refine SW.rowC ?_ | refine SW.skip ?_ | refine SW.exit ?_ | intro _ | refine And.intro (by omega) ?_) | simp (config := { maxSteps := 1000000 }) (disch := (first | omega | (simp only [go_sem]; try omega))) only [go_sem, Nat.reduceAdd, Nat.reduceEqDiff, Nat.reduceLeDiff, Nat.reduceMul, Nat.reduceLT, reduceIte, Int.reduceToNat, w64_id, cast_succ, hpa1, hpl1])
            refine SW.condT rfl ?_
            refine SW.ret ⟨_, rfl, GR.of ⟨rfl, hF, hl1, hfr1⟩⟩
          | false =>
            have hfl : s1.found.length = lim := by
              rcases hst with h | h
              · rw [hsp] at h; cases h
              · exact h
            have dl : decide ((s1.found.length : Int) = lim) = true := decide_eq_true (by omega)
            rw [hsp] at hpl1
            repeat (first | (with_reducible first | refine SW.seq ?_ | refine SW.block ?_ | refine SW.rowC ?_ | refine SW.skip ?_ | refine SW.exit ?_ | intro _ | refine And.intro (by omega) ?_) | simp (config := { maxSteps := 1000000 }) (disch := (first | omega | (simp only [go_sem]; try omega))) only [go_sem, Nat.reduceAdd, Nat.reduceEqDiff, Nat.reduceLeDiff, Nat.reduceMul, Nat.reduceLT, reduceIte, Int.reduceToNat, w64_id, cast_succ, hpa1, hpl1, hfn, dl])
            refine SW.condT rfl ?_
            refine SW.ret ⟨_, rfl, GR.of ⟨rfl, hF, hl1, hfr1⟩⟩
        have hsp : s1.spent = false := by
          cases hh : s1.spent with
          | false => rfl
          | true => exact absurd (.inl hh) hst
        have hfl : s1.found.length < lim := by
          have : s1.found.length ≠ lim := fun e => hst (.inr e)
          omega
        have dl : decide ((s1.found.length : Int) = lim) = false := decide_eq_false (by omega)
        have hnb : ¬ blkT a cols y = true := by rw [hbk]; simp
        rw [hsp] at hpl1
        repeat (first | (with_reducible first | refine SW.seq ?_ | refine SW.block ?_ | refine SW.rowC ?_ | refine SW.skip ?_ | refine SW.exit ?_ | intro _ | refine And.intro (by omega) ?_) | simp (config := { maxSteps := 1000000 }) (disch := (first | omega | (simp only [go_sem]; try omega))) only [go_sem, Nat.reduceAdd, Nat.reduceEqDiff, Nat.reduceLeDiff, Nat.reduceMul, Nat.reduceLT, reduceIte, Int.reduceToNat, w64_id, cast_succ, hpa1, hpl1, hfn, dl])
        refine SW.condF rfl ?_
        repeat (first | (with_reducible first | refine SW.seq ?_ | refine SW.block ?_ | refine SW.rowC ?_ | refine SW.skip ?_ | refine SW.exit ?_ | intro _ | refine And.intro (by omega) ?_) | simp (config := { maxSteps := 1000000 }) (disch := (first | omega | (simp only [go_sem]; try omega))) only [go_sem, Nat.reduceAdd, Nat.reduceEqDiff, Nat.reduceLeDiff, Nat.reduceMul, Nat.reduceLT, reduceIte, Int.reduceToNat, w64_id, cast_succ, hpa1, hpl1])
        by_cases hl0 : s1.left = 0
        · have hstep : stepT lim (trv a a.length lim k) a cols s1 y = { s1 with spent := true } := by unfold stepT; rw [if_neg hnb, if_neg hst, if_pos hl0]
          rw [hstep] at hnext
          have hend := fold_to (stepT lim (trv a a.length lim k) a cols) st (y + 1) (a.length - (y + 1))
          rw [show y + 1 + (a.length - (y + 1)) = a.length by omega, hnext] at hend
          rw [hend (fun z => stepT_stop (.inl rfl) z)]
          refine SW.condT (show Bv (decide (((b - s1.left : Nat) : Int) = b)) = Bv true by rw [decide_eq_true (by omega)]) ?_
          have hst6 : astore H1 [Bv true] (.pc p 0 6) = some (H1.set p ⟨0, tyFi, 1, [ilSS a, v1, fv1, I lim, I ((b - s1.left : Nat) : Int), I b, Bv true]⟩) := by rw [pc_st hp1 (by simp)]; rfl
          repeat (first | (with_reducible first | refine SW.seq ?_ | refine SW.block ?_ | refine SW.rowC ?_ | refine SW.skip ?_ | refine SW.exit ?_ | intro _ | refine And.intro (by omega) ?_) | simp (config := { maxSteps := 1000000 }) (disch := (first | omega | (simp only [go_sem]; try omega))) only [go_sem, Nat.reduceAdd, Nat.reduceEqDiff, Nat.reduceLeDiff, Nat.reduceMul, Nat.reduceLT, reduceIte, Int.reduceToNat, w64_id, cast_succ, hpa1, hpl1, hst6])
          refine SW.ret ⟨_, rfl, GR.of ⟨rfl, ⟨v1, fv1, List.getElem?_set_self hp1l, hcg1.same (fun j b hj hb => by rw [List.getElem?_set_ne (by omega)]; exact hb)⟩, by rw [List.length_set]; exact hl1, fun j hj => ?_⟩⟩
          rw [List.getElem?_set_ne (by omega)]; exact hfr1 j hj
        · have hstep : stepT lim (trv a a.length lim k) a cols s1 y = trv a a.length lim k (cols ++ [(y : Int)]) { s1 with left := s1.left - 1 } := by unfold stepT; rw [if_neg hnb, if_neg hst, if_neg hl0]
          refine SW.condF (show Bv (decide (((b - s1.left : Nat) : Int) = b)) = Bv false by rw [decide_eq_false (by omega)]) ?_
          have hn1 : ((b - s1.left : Nat) : Int) + 1 = ((b - (s1.left - 1) : Nat) : Int) := by omega
          have hn2 : w64 (((b - s1.left : Nat) : Int) + 1) = ((b - (s1.left - 1) : Nat) : Int) := by rw [hn1]; exact w64_id (by omega) (by omega)
          have hst4 : astore H1 [I ((b - (s1.left - 1) : Nat) : Int)] (.pc p 0 4) = some (H1.set p ⟨0, tyFi, 1, [ilSS a, v1, fv1, I lim, I ((b - (s1.left - 1) : Nat) : Int), I b, Bv s1.spent]⟩) := by rw [pc_st hp1 (by simp)]; rfl
          have hp2 : (H1.set p ⟨0, tyFi, 1, [ilSS a, v1, fv1, I lim, I ((b - (s1.left - 1) : Nat) : Int), I b, Bv s1.spent]⟩)[p]? = some ⟨0, tyFi, 1, [ilSS a, v1, fv1, I lim, I ((b - (s1.left - 1) : Nat) : Int), I b, Bv s1.spent]⟩ := List.getElem?_set_self hp1l
          have hcg2 : ColG (H1.set p ⟨0, tyFi, 1, [ilSS a, v1, fv1, I lim, I ((b - (s1.left - 1) : Nat) : Int), I b, Bv s1.spent]⟩) (p + 1) v1 cols fv1 s1.found := hcg1.same (fun j b hj hb => by rw [List.getElem?_set_ne (by omega)]; exact hb)
          have hl2 : H.length ≤ (H1.set p ⟨0, tyFi, 1, [ilSS a, v1, fv1, I lim, I ((b - (s1.left - 1) : Nat) : Int), I b, Bv s1.spent]⟩).length := by rw [List.length_set]; exact hl1
          have hfr2 : ∀ j, j < p → (H1.set p ⟨0, tyFi, 1, [ilSS a, v1, fv1, I lim, I ((b - (s1.left - 1) : Nat) : Int), I b, Bv s1.spent]⟩)[j]? = H[j]? := fun j hj => by rw [List.getElem?_set_ne (by omega)]; exact hfr1 j hj
          have qa := fun o => pc_alive (off := o) hp2
          have ql := fun o => pc_ld (off := o) hp2
          repeat (first | (with_reducible first | refine SW.seq ?_ | refine SW.block ?_ | refine SW.rowC ?_ | refine SW.skip ?_ | refine SW.exit ?_ | intro _ | refine And.intro (by omega) ?_) | simp (config := { maxSteps := 1000000 }) (disch := (first | omega | (simp only [go_sem]; try omega))) only [go_sem, Nat.reduceAdd, Nat.reduceEqDiff, Nat.reduceLeDiff, Nat.reduceMul, Nat.reduceLT, reduceIte, Int.reduceToNat, w64_id, cast_succ, hpa1, hpl1, hn1, hn2, hst4])
          generalize H1.set p ⟨0, tyFi, 1, [ilSS a, v1, fv1, I lim, I ((b - (s1.left - 1) : Nat) : Int), I b, Bv s1.spent]⟩ = X at *
          have hv2 := hcg2.view
          simp (config := { maxSteps := 1000000 }) (disch := (first | omega | (simp only [go_sem]; try omega))) only [go_sem, Nat.reduceAdd, Nat.reduceEqDiff, Nat.reduceLeDiff, Nat.reduceMul, Nat.reduceLT, reduceIte, Int.reduceToNat, w64_id, cast_succ, qa, ql]
          repeat (first | (with_reducible first | refine SW.seq ?_ | refine SW.block ?_ | refine SW.rowC ?_ | refine SW.skip ?_ | refine SW.exit ?_ | intro _ | refine And.intro (by omega) ?_) | simp (config := { maxSteps := 1000000 }) (disch := (first | omega | (simp only [go_sem]; try omega))) only [go_sem, Nat.reduceAdd, Nat.reduceEqDiff, Nat.reduceLeDiff, Nat.reduceMul, Nat.reduceLT, reduceIte, Int.reduceToNat, w64_id, cast_succ, qa, ql, hv2])
          refine (hcg2.same (H' := X ++ [⟨0, 2, 1, [I (y : Int)]⟩]) (fun j b _ hb => get_appU hb _)).push (by simp; omega) (by omega) ?_
          intro v2 H2 g1 g2 g3
          have hx2 : X.length ≤ H2.length := by simp at g2; omega
          have hp3 : H2[p]? = some ⟨0, tyFi, 1, [ilSS a, v1, fv1, I lim, I ((b - (s1.left - 1) : Nat) : Int), I b, Bv s1.spent]⟩ := by rw [g3 p (by omega)]; exact get_appU hp2 _
          have hp3l := (List.getElem?_eq_some_iff.1 hp3).1
          have hfr3 : ∀ j, j < p → H2[j]? = X[j]? := fun j hj => by rw [g3 j (by omega), List.getElem?_append_left (by omega)]
          have w1 : astore H2 [v2] (.pc p 0 1) = some (H2.set p ⟨0, tyFi, 1, [ilSS a, v2, fv1, I lim, I ((b - (s1.left - 1) : Nat) : Int), I b, Bv s1.spent]⟩) := by rw [pc_st hp3 (by simp)]; rfl
          have hF3 : FiH (H2.set p ⟨0, tyFi, 1, [ilSS a, v2, fv1, I lim, I ((b - (s1.left - 1) : Nat) : Int), I b, Bv s1.spent]⟩) p a lim b (cols ++ [(y : Int)]) { s1 with left := s1.left - 1 } :=
            ⟨v2, fv1, List.getElem?_set_self hp3l, g1.same (fun j b hj hb => by rw [List.getElem?_set_ne (by omega)]; exact hb)⟩
          have hl3 : X.length ≤ (H2.set p ⟨0, tyFi, 1, [ilSS a, v2, fv1, I lim, I ((b - (s1.left - 1) : Nat) : Int), I b, Bv s1.spent]⟩).length := by rw [List.length_set]; exact hx2
          have hfr4 : ∀ j, j < p → (H2.set p ⟨0, tyFi, 1, [ilSS a, v2, fv1, I lim, I ((b - (s1.left - 1) : Nat) : Int), I b, Bv s1.spent]⟩)[j]? = X[j]? := fun j hj => by rw [List.getElem?_set_ne (by omega)]; exact hfr3 j hj
          have ra := fun o => pc_alive (off := o) hp3
          have rl := fun o => pc_ld (off := o) hp3
          simp (config := { maxSteps := 1000000 }) (disch := (first | omega | (simp only [go_sem]; try omega))) only [go_sem, Nat.reduceAdd, Nat.reduceEqDiff, Nat.reduceLeDiff, Nat.reduceMul, Nat.reduceLT, reduceIte, Int.reduceToNat, w64_id, cast_succ, ra, rl, w1, g1.one.1.1, g1.one.1.2]
          repeat (first | (with_reducible first | refine SW.seq ?_ | refine SW.block ?_ | refine SW.rowC ?_ | refine SW.skip ?_ | refine SW.exit ?_ | intro _ | refine And.intro (by omega) ?_) | simp (config := { maxSteps := 1000000 }) (disch := (first | omega | (simp only [go_sem]; try omega))) only [go_sem, Nat.reduceAdd, Nat.reduceEqDiff, Nat.reduceLeDiff, Nat.reduceMul, Nat.reduceLT, reduceIte, Int.reduceToNat, w64_id, cast_succ, ra, rl, w1, g1.one.1.1, g1.one.1.2])
          generalize H2.set p ⟨0, tyFi, 1, [ilSS a, v2, fv1, I lim, I ((b - (s1.left - 1) : Nat) : Int), I b, Bv s1.spent]⟩ = Y at *
          refine (ih Y p (cols ++ [(y : Int)]) _ hF3 (by simp; omega) (fun c hcm => ?_) hfl hsp (by show s1.left - 1 ≤ b; omega)).mono ?_
          · rcases List.mem_append.1 hcm with h | h
            · exact hc c h
            · rw [List.mem_singleton.1 h]; omega
          rintro r H3 ⟨rfl, ⟨v3, fv3, hp4, hcg3⟩, hl4, hfr5⟩
          have hv3 := hcg3.view
          obtain ⟨t4, ver4, cells4, rfl, hx4, hy4, hcg4⟩ := hcg3.pop
          have hp4l := (List.getElem?_eq_some_iff.1 hp4).1
          have ra3 := fun o => pc_alive (off := o) hp4
          have rl3 := fun o => pc_ld (off := o) hp4
          rw [List.length_append, List.length_singleton] at hv3
          have hsl := fun K => slcNT (K := K) (r := t4) (v := ver4) (l := cols.length + 1) (n := cols.length + 1) (y := (cols.length : Int)) (cells := (cols ++ [(y : Int)]).map I) (by rw [hx4]; rfl) (by omega) (by omega)
          rw [Int.toNat_natCast] at hsl
          rw [← hstep] at hp4 hcg3 hcg4 rl3
          have w2 : astore H3 [.nm t4 ver4 0 cols.length] (.pc p 0 1) = some (H3.set p ⟨0, tyFi, 1, [ilSS a, .nm t4 ver4 0 cols.length, fv3, I lim, I ((b - (stepT lim (trv a a.length lim k) a cols s1 y).left : Nat) : Int), I b, Bv (stepT lim (trv a a.length lim k) a cols s1 y).spent]⟩) := by rw [pc_st hp4 (by simp)]; rfl
          repeat (first | (with_reducible first | refine SW.seq ?_ | refine SW.block ?_ | refine SW.rowC ?_ | refine SW.skip ?_ | refine SW.exit ?_ | intro _ | refine And.intro (by omega) ?_) | simp (config := { maxSteps := 1000000 }) (disch := (first | omega | (simp only [go_sem]; try omega))) only [go_sem, Nat.reduceAdd, Nat.reduceEqDiff, Nat.reduceLeDiff, Nat.reduceMul, Nat.reduceLT, reduceIte, Int.reduceToNat, w64_id, cast_succ, ra3, rl3, hv3, hsl, w2, Option.map_some, Option.map_none])
          refine SLoop.next (a.length - (y + 1)) (by omega) ⟨y + 1, by omega, rfl, by simp [go_sem], ?_, ?_, fun j hj => ?_⟩
          · rw [hnext]
            refine ⟨.nm t4 ver4 0 cols.length, fv3, List.getElem?_set_self hp4l, hcg4.same (fun j b hj hb => by rw [List.getElem?_set_ne (by omega)]; exact hb)⟩
          · rw [List.length_set]; omega
          · rw [List.getElem?_set_ne (by omega), hfr5 j hj, hfr4 j hj, hfr2 j hj]
      · repeat (first | (with_reducible first | refine SW.seq ?_ | refine SW.block ?_ | refine SW.rowC ?_ | refine SW.skip ?_ | refine SW.exit ?_ | intro _ | refine And.intro (by omega) ?_) | simp (config := { maxSteps := 1000000 }) (disch := (first | omega | (simp only [go_sem]; try omega))) only [go_sem, Nat.reduceAdd, Nat.reduceEqDiff, Nat.reduceLeDiff, Nat.reduceMul, Nat.reduceLT, reduceIte, Int.reduceToNat, w64_id, cast_succ])
        refine SW.condT rfl ?_
        repeat (first | (with_reducible first | refine SW.seq ?_ | refine SW.block ?_ | refine SW.rowC ?_ | refine SW.skip ?_ | refine SW.exit ?_ | intro _ | refine And.intro (by omega) ?_) | simp (config := { maxSteps := 1000000 }) (disch := (first | omega | (simp only [go_sem]; try omega))) only [go_sem, Nat.reduceAdd, Nat.reduceEqDiff, Nat.reduceLeDiff, Nat.reduceMul, Nat.reduceLT, reduceIte, Int.reduceToNat, w64_id, cast_succ])
        refine SLoop.next (a.length - (y + 1)) (by omega) ⟨y + 1, by omega, rfl, by simp [go_sem], ?_, hl1, hfr1⟩
        rw [hnext, show stepT lim (trv a a.length lim k) a cols s1 y = s1 by unfold stepT; rw [if_pos hbk]]
        exact hF
    · have : y = a.length := by omega
      subst this
      repeat (first | (with_reducible first | refine SW.seq ?_ | refine SW.block ?_ | refine SW.rowC ?_ | refine SW.skip ?_ | refine SW.exit ?_ | intro _ | refine And.intro (by omega) ?_) | simp (config := { maxSteps := 1000000 }) (disch := (first | omega | (simp only [go_sem]; try omega))) only [go_sem, Nat.reduceAdd, Nat.reduceEqDiff, Nat.reduceLeDiff, Nat.reduceMul, Nat.reduceLT, reduceIte, Int.reduceToNat, w64_id, cast_succ])
      rw [hs1]
      exact ⟨_, rfl, GR.of ⟨rfl, hF, hl1, hfr1⟩⟩
end Go.Proofs.Ytpaagkipnlbibaa
