/- Mates: the program's search. -/
import Derived.Test.YtflnjgeoegofdaaProg
import Derived.KernelRfl
import Derived.Test.YtflnjgeoegofdaazUS
set_option linter.unusedSimpArgs false
set_option linter.unusedVariables false
set_option maxHeartbeats 4000000
set_option maxRecDepth 100000
namespace Go.Proofs.Ytflnjgeoegofdaa
open Go.Av
abbrev f_impl_mates_take : Nat := 22
def c_impl_mates_take : SC :=
 .seq (.reg [
     ⟨(some 10), .mv (.tmp 0), none⟩,
     ⟨(some 11), .nilc (.tmp 10), none⟩,
     ⟨(some 12), .faddr 4 (.tmp 11), none⟩,
     ⟨(some 13), .load 1 false (.tmp 12), none⟩,
     ⟨(some 14), .mv (.tmp 1), none⟩,
     ⟨(some 15), .iaddr 1 (.tmp 13) (.tmp 14), none⟩,
     ⟨(some 16), .load 1 false (.tmp 15), none⟩,
     ⟨(some 17), .mv (.tmp 3), none⟩,
     ⟨(some 18), .mv (.tmp 0), none⟩,
     ⟨(some 19), .nilc (.tmp 18), none⟩,
     ⟨(some 20), .faddr 5 (.tmp 19), none⟩,
     ⟨(some 21), .load 1 false (.tmp 20), none⟩,
     ⟨(some 22), .mv (.tmp 1), none⟩,
     ⟨(some 23), .iaddr 1 (.tmp 21) (.tmp 22), none⟩,
     ⟨(some 24), .load 1 false (.tmp 23), none⟩,
     ⟨(some 25), .mv (.tmp 0), none⟩,
     ⟨(some 26), .nilc (.tmp 25), none⟩,
     ⟨(some 27), .faddr 2 (.tmp 26), none⟩,
     ⟨(some 28), .load 1 false (.tmp 27), none⟩,
     ⟨(some 29), .mv (.tmp 2), none⟩,
     ⟨(some 30), .iaddr 1 (.tmp 28) (.tmp 29), none⟩,
     ⟨(some 31), .load 1 false (.tmp 30), none⟩,
     ⟨(some 32), .mv (.tmp 3), none⟩,
     ⟨(some 33), .iaddr 1 (.tmp 31) (.tmp 32), none⟩,
     ⟨(some 34), .load 1 false (.tmp 33), none⟩,
     ⟨(some 35), .mv (.tmp 4), none⟩,
     ⟨(some 36), .mv (.tmp 4), none⟩,
     ⟨(some 37), .iaddr 1 (.tmp 16) (.tmp 17), none⟩,
     ⟨none, .store 1 (.tmp 37) (.tmp 35), none⟩,
     ⟨(some 38), .iaddr 1 (.tmp 24) (.tmp 34), none⟩,
     ⟨none, .store 1 (.tmp 38) (.tmp 36), none⟩] [0, 1, 2, 3, 4])
 (.seq (.reg [
     ⟨(some 39), .mv (.tmp 0), none⟩,
     ⟨(some 40), .nilc (.tmp 39), none⟩,
     ⟨(some 41), .faddr 3 (.tmp 40), none⟩,
     ⟨(some 42), .load 1 false (.tmp 41), none⟩,
     ⟨(some 43), .mv (.tmp 2), none⟩,
     ⟨(some 44), .iaddr 1 (.tmp 42) (.tmp 43), none⟩,
     ⟨(some 45), .load 1 false (.tmp 44), none⟩,
     ⟨(some 46), .mv (.tmp 3), none⟩,
     ⟨(some 47), .iaddr 1 (.tmp 45) (.tmp 46), none⟩,
     ⟨none, .store 1 (.tmp 47) (.const (.int .i64 (-1))), none⟩] [0, 1, 2, 3, 4])
 (.seq (.reg [
     ⟨(some 48), .mv (.tmp 4), none⟩] [0, 1, 2, 3, 48])
 (.cond (.tmp 48)
  (.reg [
      ⟨(some 49), .mv (.tmp 0), none⟩,
      ⟨(some 50), .nilc (.tmp 49), none⟩,
      ⟨(some 51), .faddr 3 (.tmp 50), none⟩,
      ⟨(some 52), .load 1 false (.tmp 51), none⟩,
      ⟨(some 53), .mv (.tmp 2), none⟩,
      ⟨(some 54), .iaddr 1 (.tmp 52) (.tmp 53), none⟩,
      ⟨(some 55), .load 1 false (.tmp 54), none⟩,
      ⟨(some 56), .mv (.tmp 3), none⟩,
      ⟨(some 57), .mv (.tmp 1), none⟩,
      ⟨(some 58), .iaddr 1 (.tmp 55) (.tmp 56), none⟩,
      ⟨none, .store 1 (.tmp 58) (.tmp 57), none⟩] [])
  (.skip))))
theorem s_impl_mates_take : stripF Try.prog 22 [[0, 1, 2, 3, 4], [0, 1, 2, 3, 4], [0, 1, 2, 3, 48], []] = some (c_impl_mates_take, [], 59) := by kernel_rfl
section
variable {H : List Blk} {N : MaN} {n : Nat} {a b : List (List Int)} {C S : List (List Bool)} {left : Nat} {spent : Bool}
theorem MaH.putC (h : MaH H N n a b C S left spent) {k r : Nat} (hk : k < n) (hr : N.rc[k]? = some r) (y : Nat) (c : Bool) : MaH (H.set r ⟨N.wc, 4, 1, ((C.getD k []).set y c).map Bv⟩) N n a b (setB C k y c) S left spent := by
  obtain ⟨⟨q1, q2, q3⟩, ⟨q4, q5, q6⟩, q7, q8, q9, q10⟩ := MaN.parts h.nd
  have hm := q8 r (List.mem_of_getElem? hr)
  exact ⟨h.nd, by rw [List.getElem?_set_ne hm.1]; exact h.box, h.gb.other hm.2.1, h.gc.set q2 q5 hk hr c, h.gs.other hm.2.2⟩
theorem MaH.putS (h : MaH H N n a b C S left spent) {k r : Nat} (hk : k < n) (hr : N.rs[k]? = some r) (y : Nat) (c : Bool) : MaH (H.set r ⟨N.ws, 4, 1, ((S.getD k []).set y c).map Bv⟩) N n a b C (setB S k y c) left spent := by
  obtain ⟨⟨q1, q2, q3⟩, ⟨q4, q5, q6⟩, q7, q8, q9, q10⟩ := MaN.parts h.nd
  have hm := q9 r (List.mem_of_getElem? hr)
  exact ⟨h.nd, by rw [List.getElem?_set_ne hm.1]; exact h.box, h.gb.other hm.2.1, h.gc.other hm.2.2, h.gs.set q3 q6 hk hr c⟩
theorem MaH.putB (h : MaH H N n a b C S left spent) {k r : Nat} (hk : k < n) (hr : N.rb[k]? = some r) (y : Nat) (c : Int) : MaH (H.set r ⟨N.wb, 2, 1, ((b.getD k []).set y c).map I⟩) N n a (setC b k y c) C S left spent := by
  obtain ⟨⟨q1, q2, q3⟩, ⟨q4, q5, q6⟩, q7, q8, q9, q10⟩ := MaN.parts h.nd
  have hm := q7 r (List.mem_of_getElem? hr)
  exact ⟨h.nd, by rw [List.getElem?_set_ne hm.1]; exact h.box, h.gb.set q1 q4 hk hr c, h.gc.other hm.2.1, h.gs.other hm.2.2⟩
theorem MaH.putX (h : MaH H N n a b C S left spent) (left' : Nat) (spent' : Bool) : MaH (H.set N.p ⟨0, tyMa, 1, [I left', Bv spent', ilSS a, .nm N.tb N.vb 0 n, .nm N.tc N.vc 0 n, .nm N.ts N.vs 0 n]⟩) N n a b C S left' spent' := by
  obtain ⟨⟨q1, q2, q3⟩, ⟨q4, q5, q6⟩, q7, q8, q9, q10⟩ := MaN.parts h.nd
  exact ⟨h.nd, List.getElem?_set_self (List.getElem?_eq_some_iff.1 h.box).1, h.gb.other q10.1, h.gc.other q10.2.1, h.gs.other q10.2.2⟩
end
theorem maTake_ok (H : List Blk) (N : MaN) (n : Nat) (a b : List (List Int)) (C S : List (List Bool)) (left : Nat) (spent : Bool) (h : MaH H N n a b C S left spent) (ha : a.length = n ∧ ∀ r ∈ a, r.length = n) (k x y s : Nat) (hk : k < n) (hx : x < n) (hy : y < n) (hs : cellAt a x y = (s : Int)) (hsn : s < n) (v : Bool) :
    ACalls Try.prog f_impl_mates_take [.pc N.p 0 0, I k, I x, I y, Bv v] H (fun r H' => r = .tup [] ∧ MaH H' N n a (setC b x y (if v = true then (k : Int) else -1)) (setB C k y v) (setB S k s v) left spent ∧ H'.length = H.length ∧ ∀ j, j ∉ N.foot → H'[j]? = H[j]?) := by
  have hpa := fun o => pc_alive (off := o) h.box
  have hpl := fun o => pc_ld (off := o) h.box
  obtain ⟨rc, hrc⟩ := h.gc.get hk
  obtain ⟨rs, hrs⟩ := h.gs.get hk
  obtain ⟨rb, hrb⟩ := h.gb.get hx
  have v1 := h.gc.view
  have v2 := h.gs.view
  have v3 := h.gb.view
  have c1 := GrV.cell (rv := N.wc) (n := n) hrc
  have c2 := GrV.cell (rv := N.ws) (n := n) hrs
  have c3 := GrV.cell (rv := N.wb) (n := n) hrb
  have r1 := h.gc.row hk hrc
  have r2 := h.gs.row hk hrs
  have r3 := h.gb.row hx hrb
  have hal : (a.getD x []).length = n := ha.2 _ (by rw [getD_get (by omega)]; exact List.getElem_mem _)
  have hcv : (a.getD x []).getD y 0 = (s : Int) := hs
  have hla := ha.1
  refine ACalls.introB s_impl_mates_take (by simp) ?_; intro hB hA; unfold c_impl_mates_take; simp (config := { maxSteps := 1000000 }) (disch := (first | omega | (simp only [go_sem]; try omega))) only [go_sem, Nat.reduceAdd, Nat.reduceEqDiff, Nat.reduceLeDiff, Nat.reduceMul, Nat.reduceLT, reduceIte, Int.reduceToNat, w64_id, cast_succ]
  repeat (first | (with_reducible first | refine SW.seq ?_ | refine SW.block ?_ | refine SW.rowC ?_ | refine SW.skip ?_ | refine SW.exit ?_ | intro _ | refine And.intro (by omega) ?_) | simp (config := { maxSteps := 1000000 }) (disch := (first | omega | (simp only [go_sem]; try omega))) only [go_sem, Nat.reduceAdd, Nat.reduceEqDiff, Nat.reduceLeDiff, Nat.reduceMul, Nat.reduceLT, reduceIte, Int.reduceToNat, w64_id, cast_succ, hpa, hpl, v1, v2, v3, c1, c2, c3, r1, r2, r3, hal, hcv, hla])
  have w1 := h.gc.store hk hy hrc v
  have fr1 : ∀ j, j ∉ N.foot → (H.set rc ⟨N.wc, 4, 1, ((C.getD k []).set y v).map Bv⟩)[j]? = H[j]? := fun j hj => List.getElem?_set_ne (by rintro rfl; exact hj (MaN.in_c (List.mem_of_getElem? hrc)))
  have fl1 : (H.set rc ⟨N.wc, 4, 1, ((C.getD k []).set y v).map Bv⟩).length = H.length := List.length_set
  have h1 := h.putC hk hrc y v
  simp (config := { maxSteps := 1000000 }) (disch := (first | omega | (simp only [go_sem]; try omega))) only [go_sem, Nat.reduceAdd, Nat.reduceEqDiff, Nat.reduceLeDiff, Nat.reduceMul, Nat.reduceLT, reduceIte, Int.reduceToNat, w64_id, cast_succ, w1]
  generalize H.set rc ⟨N.wc, 4, 1, ((C.getD k []).set y v).map Bv⟩ = H1 at *
  generalize setB C k y v = C1 at *
  have w2 := h1.gs.store hk hsn hrs v
  have fr2 : ∀ j, j ∉ N.foot → (H1.set rs ⟨N.ws, 4, 1, ((S.getD k []).set s v).map Bv⟩)[j]? = H1[j]? := fun j hj => List.getElem?_set_ne (by rintro rfl; exact hj (MaN.in_s (List.mem_of_getElem? hrs)))
  have fl2 : (H1.set rs ⟨N.ws, 4, 1, ((S.getD k []).set s v).map Bv⟩).length = H1.length := List.length_set
  have h2 := h1.putS hk hrs s v
  have r5 := h1.gs.row hk hrs
  repeat (first | (with_reducible first | refine SW.seq ?_ | refine SW.block ?_ | refine SW.rowC ?_ | refine SW.skip ?_ | refine SW.exit ?_ | intro _ | refine And.intro (by omega) ?_) | simp (config := { maxSteps := 1000000 }) (disch := (first | omega | (simp only [go_sem]; try omega))) only [go_sem, Nat.reduceAdd, Nat.reduceEqDiff, Nat.reduceLeDiff, Nat.reduceMul, Nat.reduceLT, reduceIte, Int.reduceToNat, w64_id, cast_succ, w2, r5])
  generalize H1.set rs ⟨N.ws, 4, 1, ((S.getD k []).set s v).map Bv⟩ = H2 at *
  generalize setB S k s v = S1 at *
  have hpa2 := fun o => pc_alive (off := o) h2.box
  have hpl2 := fun o => pc_ld (off := o) h2.box
  have v4 := h2.gb.view
  have r4 := h2.gb.row hx hrb
  have w3 := h2.gb.store hx hy hrb (-1)
  have fr3 : ∀ j, j ∉ N.foot → (H2.set rb ⟨N.wb, 2, 1, ((b.getD x []).set y (-1)).map I⟩)[j]? = H2[j]? := fun j hj => List.getElem?_set_ne (by rintro rfl; exact hj (MaN.in_b (List.mem_of_getElem? hrb)))
  have fl3 : (H2.set rb ⟨N.wb, 2, 1, ((b.getD x []).set y (-1)).map I⟩).length = H2.length := List.length_set
  have h3 := h2.putB hx hrb y (-1)
  repeat (first | (with_reducible first | refine SW.seq ?_ | refine SW.block ?_ | refine SW.rowC ?_ | refine SW.skip ?_ | refine SW.exit ?_ | intro _ | refine And.intro (by omega) ?_) | simp (config := { maxSteps := 1000000 }) (disch := (first | omega | (simp only [go_sem]; try omega))) only [go_sem, Nat.reduceAdd, Nat.reduceEqDiff, Nat.reduceLeDiff, Nat.reduceMul, Nat.reduceLT, reduceIte, Int.reduceToNat, w64_id, cast_succ, hpa2, hpl2, v4, c3, r4, w3])
  generalize H2.set rb ⟨N.wb, 2, 1, ((b.getD x []).set y (-1)).map I⟩ = H3 at *
  cases v
  · refine SW.condF rfl ?_
    repeat (first | (with_reducible first | refine SW.seq ?_ | refine SW.block ?_ | refine SW.rowC ?_ | refine SW.skip ?_ | refine SW.exit ?_ | intro _ | refine And.intro (by omega) ?_) | simp (config := { maxSteps := 1000000 }) (disch := (first | omega | (simp only [go_sem]; try omega))) only [go_sem, Nat.reduceAdd, Nat.reduceEqDiff, Nat.reduceLeDiff, Nat.reduceMul, Nat.reduceLT, reduceIte, Int.reduceToNat, w64_id, cast_succ])
    exact ⟨_, rfl, GR.of ⟨rfl, h3, by omega, fun j hj => by rw [fr3 j hj, fr2 j hj, fr1 j hj]⟩⟩
  · refine SW.condT rfl ?_
    have hpa3 := fun o => pc_alive (off := o) h3.box
    have hpl3 := fun o => pc_ld (off := o) h3.box
    have v5 := h3.gb.view
    have r5 := h3.gb.row hx hrb
    have w4 := h3.gb.store hx hy hrb (k : Int)
    have fr4 : ∀ j, j ∉ N.foot → (H3.set rb ⟨N.wb, 2, 1, (((setC b x y (-1)).getD x []).set y (k : Int)).map I⟩)[j]? = H3[j]? := fun j hj => List.getElem?_set_ne (by rintro rfl; exact hj (MaN.in_b (List.mem_of_getElem? hrb)))
    have fl4 : (H3.set rb ⟨N.wb, 2, 1, (((setC b x y (-1)).getD x []).set y (k : Int)).map I⟩).length = H3.length := List.length_set
    have h4 := h3.putB hx hrb y (k : Int)
    rw [setC_twice (by rw [h.gb.len.2.1]; exact hx)] at h4
    repeat (first | (with_reducible first | refine SW.seq ?_ | refine SW.block ?_ | refine SW.rowC ?_ | refine SW.skip ?_ | refine SW.exit ?_ | intro _ | refine And.intro (by omega) ?_) | simp (config := { maxSteps := 1000000 }) (disch := (first | omega | (simp only [go_sem]; try omega))) only [go_sem, Nat.reduceAdd, Nat.reduceEqDiff, Nat.reduceLeDiff, Nat.reduceMul, Nat.reduceLT, reduceIte, Int.reduceToNat, w64_id, cast_succ, hpa3, hpl3, v5, c3, r5, w4])
    exact ⟨_, rfl, GR.of ⟨rfl, h4, by omega, fun j hj => by rw [fr4 j hj, fr3 j hj, fr2 j hj, fr1 j hj]⟩⟩
end Go.Proofs.Ytflnjgeoegofdaa
