/- Graphs that are drawn. -/
import Derived.Test.YtdgcgckehihboaaGreatDoorProg
import Derived.KernelRfl
import Derived.Test.YtdgcgckehihboaaGreatDoorzSR
import Derived.Test.YtdgcgckehihboaaGreatDoorzR7
set_option linter.unusedSimpArgs false
set_option linter.unusedVariables false
set_option linter.unusedSectionVars false
set_option maxHeartbeats 4000000
set_option maxRecDepth 100000
namespace Go.Proofs.YtdgcgckehihboaaGreatDoor
variable [Go.Av.DoorC]
open Go.Av
abbrev f_spec_l21DrawSize : Nat := 37
def c_spec_l21DrawSize : SC :=
 .seq (.reg [
     ⟨(some 4), .alloc 27 [(.slice none 0 0), (.slice none 0 0)], none⟩] [0, 1, 4])
 (.seq (.reg [
     ⟨(some 14), .bslice 2 1 0 [] [], none⟩,
     ⟨(some 5), .mv (.tmp 14), none⟩] [0, 1, 4, 5])
 (.seq (.reg [
     ⟨(some 15), .mv (.tmp 0), none⟩,
     ⟨(some 16), .call 34 [(.tmp 15), (.const (.int .i64 3))], none⟩,
     ⟨(some 17), .bin .add (.tmp 16) (.const (.int .i64 1)), none⟩,
     ⟨(some 6), .mv (.tmp 17), none⟩] [0, 1, 4, 5, 6])
 (.seq (.seq (.reg [
     ⟨(some 7), .mv (.const (.int .i64 0)), none⟩] [0, 1, 4, 5, 6, 7])
 (.block 0 (.loop [0, 1, 4, 5, 6, 7]
   (.seq (.seq (.reg [
       ⟨(some 18), .mv (.tmp 7), none⟩,
       ⟨(some 19), .mv (.tmp 1), none⟩,
       ⟨(some 20), .bin .lss (.tmp 18) (.tmp 19), none⟩] [0, 1, 4, 5, 6, 7, 20])
   (.cond (.tmp 20)
    (.skip)
    (.exit 0)))
   (.seq (.block 1 (.reg [
        ⟨(some 23), .mv (.tmp 5), none⟩,
        ⟨(some 24), .mv (.tmp 0), none⟩,
        ⟨(some 25), .mv (.tmp 6), none⟩,
        ⟨(some 26), .call 34 [(.tmp 24), (.tmp 25)], none⟩,
        ⟨(some 27), .bslice 2 1 1 [(.int .i64 0)] [(0, (.tmp 26))], none⟩,
        ⟨(some 28), .app 2 1 8 (.tmp 23) (.tmp 27), none⟩,
        ⟨(some 5), .mv (.tmp 28), none⟩] [0, 1, 4, 5, 6, 7]))
   (.reg [
       ⟨(some 21), .mv (.tmp 7), none⟩,
       ⟨(some 22), .bin .add (.tmp 21) (.const (.int .i64 1)), none⟩,
       ⟨(some 7), .mv (.tmp 22), none⟩] [0, 1, 4, 5, 6, 7]))))))
 (.seq (.reg [
     ⟨(some 29), .mv (.tmp 5), none⟩,
     ⟨(some 30), .build [(.slice none 0 0), (.slice none 0 0)] [(0, 1, (.tmp 29))], none⟩,
     ⟨(some 31), .call 60 [(.tmp 30)], none⟩,
     ⟨(some 8), .mv (.tmp 31), none⟩] [0, 1, 4, 5, 8])
 (.seq (.reg [
     ⟨(some 32), .mv (.tmp 0), none⟩,
     ⟨(some 33), .call 34 [(.tmp 32), (.const (.int .i64 4))], none⟩,
     ⟨(some 9), .mv (.tmp 33), none⟩] [0, 1, 4, 5, 8, 9])
 (.seq (.seq (.reg [
     ⟨(some 10), .mv (.const (.int .i64 0)), none⟩] [0, 1, 4, 5, 8, 9, 10])
 (.block 2 (.loop [0, 1, 4, 5, 8, 9, 10]
   (.seq (.seq (.reg [
       ⟨(some 34), .mv (.tmp 10), none⟩,
       ⟨(some 35), .mv (.tmp 1), none⟩,
       ⟨(some 36), .bin .lss (.tmp 34) (.tmp 35), none⟩] [0, 1, 4, 5, 8, 9, 10, 36])
   (.cond (.tmp 36)
    (.skip)
    (.exit 2)))
   (.seq (.block 3 (.seq (.reg [
        ⟨(some 39), .mv (.tmp 10), none⟩,
        ⟨(some 40), .bin .add (.tmp 39) (.const (.int .i64 1)), none⟩,
        ⟨(some 11), .mv (.tmp 40), none⟩] [0, 1, 4, 5, 8, 9, 10, 11])
    (.block 4 (.loop [0, 1, 4, 5, 8, 9, 10, 11]
      (.seq (.seq (.reg [
          ⟨(some 41), .mv (.tmp 11), none⟩,
          ⟨(some 42), .mv (.tmp 1), none⟩,
          ⟨(some 43), .bin .lss (.tmp 41) (.tmp 42), none⟩] [0, 1, 4, 5, 8, 9, 10, 11, 43])
      (.cond (.tmp 43)
       (.skip)
       (.exit 4)))
      (.seq (.block 5 (.seq (.reg [
           ⟨(some 12), .mv (.const (.bool false)), none⟩] [0, 1, 4, 5, 8, 9, 10, 11])
       (.seq (.seq (.reg [
           ⟨(some 46), .mv (.tmp 9), none⟩] [0, 1, 4, 5, 8, 9, 10, 11, 46])
       (.block 6 (.seq (.reg [
            ⟨(some 51), .bin .eql (.tmp 46) (.const (.int .i64 0)), none⟩,
            ⟨(some 50), .mv (.tmp 51), none⟩] [0, 1, 4, 5, 8, 9, 10, 11, 46, 50])
        (.cond (.tmp 50)
         (.reg [
             ⟨(some 52), .mv (.tmp 11), none⟩,
             ⟨(some 53), .mv (.tmp 10), none⟩,
             ⟨(some 54), .bin .add (.tmp 53) (.const (.int .i64 1)), none⟩,
             ⟨(some 55), .bin .eql (.tmp 52) (.tmp 54), none⟩,
             ⟨(some 56), .mv (.tmp 55), none⟩,
             ⟨(some 57), .mv (.tmp 10), (some (56, false))⟩,
             ⟨(some 58), .bin .eql (.tmp 57) (.const (.int .i64 0)), (some (56, false))⟩,
             ⟨(some 59), .mv (.tmp 58), (some (56, false))⟩,
             ⟨(some 60), .mv (.tmp 11), (some (59, true))⟩,
             ⟨(some 61), .mv (.tmp 1), (some (59, true))⟩,
             ⟨(some 62), .bin .sub (.tmp 61) (.const (.int .i64 1)), (some (59, true))⟩,
             ⟨(some 63), .bin .eql (.tmp 60) (.tmp 62), (some (59, true))⟩,
             ⟨(some 64), .pick (.tmp 59) (.tmp 63) (.const (.bool false)), (some (56, false))⟩,
             ⟨(some 65), .pick (.tmp 56) (.const (.bool true)) (.tmp 64), none⟩,
             ⟨(some 12), .mv (.tmp 65), none⟩] [0, 1, 4, 5, 8, 9, 10, 11, 12])
         (.seq (.reg [
             ⟨(some 67), .bin .eql (.tmp 46) (.const (.int .i64 1)), none⟩,
             ⟨(some 66), .mv (.tmp 67), none⟩] [0, 1, 4, 5, 8, 9, 10, 11, 46, 66])
         (.cond (.tmp 66)
          (.reg [
              ⟨(some 68), .mv (.tmp 0), none⟩,
              ⟨(some 69), .call 34 [(.tmp 68), (.const (.int .i64 3))], none⟩,
              ⟨(some 70), .bin .eql (.tmp 69) (.const (.int .i64 0)), none⟩,
              ⟨(some 12), .mv (.tmp 70), none⟩] [0, 1, 4, 5, 8, 9, 10, 11, 12])
          (.seq (.reg [
              ⟨(some 72), .bin .eql (.tmp 46) (.const (.int .i64 2)), none⟩,
              ⟨(some 71), .mv (.tmp 72), none⟩] [0, 1, 4, 5, 8, 9, 10, 11, 71])
          (.cond (.tmp 71)
           (.reg [
               ⟨(some 73), .mv (.tmp 11), none⟩,
               ⟨(some 74), .mv (.tmp 10), none⟩,
               ⟨(some 75), .bin .sub (.tmp 73) (.tmp 74), none⟩,
               ⟨(some 76), .bin .rem (.tmp 75) (.const (.int .i64 3)), none⟩,
               ⟨(some 77), .bin .eql (.tmp 76) (.const (.int .i64 1)), none⟩,
               ⟨(some 12), .mv (.tmp 77), none⟩] [0, 1, 4, 5, 8, 9, 10, 11, 12])
           (.reg [
               ⟨(some 47), .mv (.tmp 0), none⟩,
               ⟨(some 48), .call 34 [(.tmp 47), (.const (.int .i64 2))], none⟩,
               ⟨(some 49), .bin .eql (.tmp 48) (.const (.int .i64 0)), none⟩,
               ⟨(some 12), .mv (.tmp 49), none⟩] [0, 1, 4, 5, 8, 9, 10, 11, 12])))))))))
       (.reg [
           ⟨(some 78), .mv (.tmp 8), none⟩,
           ⟨(some 79), .mv (.tmp 10), none⟩,
           ⟨(some 80), .iaddr 1 (.tmp 78) (.tmp 79), none⟩,
           ⟨(some 81), .load 1 false (.tmp 80), none⟩,
           ⟨(some 82), .mv (.tmp 11), none⟩,
           ⟨(some 83), .mv (.tmp 12), none⟩,
           ⟨(some 84), .iaddr 1 (.tmp 81) (.tmp 82), none⟩,
           ⟨none, .store 1 (.tmp 84) (.tmp 83), none⟩] [0, 1, 4, 5, 8, 9, 10, 11]))))
      (.reg [
          ⟨(some 44), .mv (.tmp 11), none⟩,
          ⟨(some 45), .bin .add (.tmp 44) (.const (.int .i64 1)), none⟩,
          ⟨(some 11), .mv (.tmp 45), none⟩] [0, 1, 4, 5, 8, 9, 10, 11])))))))
   (.reg [
       ⟨(some 37), .mv (.tmp 10), none⟩,
       ⟨(some 38), .bin .add (.tmp 37) (.const (.int .i64 1)), none⟩,
       ⟨(some 10), .mv (.tmp 38), none⟩] [0, 1, 4, 5, 8, 9, 10]))))))
 (.seq (.reg [
     ⟨(some 85), .mv (.tmp 5), none⟩,
     ⟨(some 86), .mv (.tmp 8), none⟩,
     ⟨(some 87), .call 61 [(.tmp 85), (.tmp 86)], none⟩,
     ⟨(some 13), .alloc 27 [(.slice none 0 0), (.slice none 0 0)], none⟩,
     ⟨none, .store 2 (.tmp 13) (.tmp 87), none⟩] [4, 13])
 (.seq (.seq (.reg [
     ⟨(some 88), .faddr 1 (.tmp 13), none⟩,
     ⟨(some 89), .load 1 false (.tmp 88), none⟩,
     ⟨(some 90), .len (.tmp 89), none⟩,
     ⟨(some 91), .bin .gtr (.tmp 90) (.const (.int .i64 512)), none⟩] [4, 13, 91])
 (.cond (.tmp 91)
  (.reg [
      ⟨(some 92), .faddr 1 (.tmp 13), none⟩,
      ⟨(some 93), .load 1 false (.tmp 92), none⟩,
      ⟨(some 94), .slc 2 (.tmp 93) none (some (.const (.int .i64 512))), none⟩,
      ⟨(some 95), .faddr 1 (.tmp 13), none⟩,
      ⟨none, .store 1 (.tmp 95) (.tmp 94), none⟩] [4, 13])
  (.skip)))
 (.seq (.reg [
     ⟨(some 96), .load 2 true (.tmp 13), none⟩,
     ⟨none, .store 2 (.tmp 4) (.tmp 96), none⟩] [4])
 (.ret))))))))))
theorem s_spec_l21DrawSize : stripF Tryz.prog 37 [[0, 1, 4], [0, 1, 4, 5], [0, 1, 4, 5, 6], [0, 1, 4, 5, 6, 7], [0, 1, 4, 5, 6, 7], [0, 1, 4, 5, 6, 7, 20], [0, 1, 4, 5, 6, 7], [0, 1, 4, 5, 6, 7], [0, 1, 4, 5, 8], [0, 1, 4, 5, 8, 9], [0, 1, 4, 5, 8, 9, 10], [0, 1, 4, 5, 8, 9, 10], [0, 1, 4, 5, 8, 9, 10, 36], [0, 1, 4, 5, 8, 9, 10, 11], [0, 1, 4, 5, 8, 9, 10, 11], [0, 1, 4, 5, 8, 9, 10, 11, 43], [0, 1, 4, 5, 8, 9, 10, 11], [0, 1, 4, 5, 8, 9, 10, 11, 46], [0, 1, 4, 5, 8, 9, 10, 11, 46, 50], [0, 1, 4, 5, 8, 9, 10, 11, 12], [0, 1, 4, 5, 8, 9, 10, 11, 46, 66], [0, 1, 4, 5, 8, 9, 10, 11, 12], [0, 1, 4, 5, 8, 9, 10, 11, 71], [0, 1, 4, 5, 8, 9, 10, 11, 12], [0, 1, 4, 5, 8, 9, 10, 11, 12], [0, 1, 4, 5, 8, 9, 10, 11], [0, 1, 4, 5, 8, 9, 10, 11], [0, 1, 4, 5, 8, 9, 10], [4, 13], [4, 13, 91], [4, 13], [4]] = some (c_spec_l21DrawSize, [.cell 4 2], 97) := by kernel_rfl
structure Dw (H X : List Blk) (p : Nat) (code : AV) (t : Nat) (u : Int) : Prop where
  lt : p < H.length
  ln : H.length ≤ X.length
  fr : ∀ j, j < H.length → X[j]? = (H.set p (srcB code t u))[j]?
section
variable {H X : List Blk} {p t : Nat} {code : AV} {u : Int}
theorem Dw.src (h : Dw H X p code t u) : X[p]? = some (srcB code t u) := (h.fr p h.lt).trans (List.getElem?_set_self h.lt)
theorem Dw.draw (h : Dw H X p code t u) (t' : Nat) (u' : Int) : Dw H (X.set p (srcB code t' u')) p code t' u' := ⟨h.lt, by rw [List.length_set]; exact h.ln, fun j hj => by
  have hl := h.ln
  by_cases e : j = p
  · subst e; rw [List.getElem?_set_self (by omega), List.getElem?_set_self h.lt]
  · rw [List.getElem?_set_ne (Ne.symm e), List.getElem?_set_ne (Ne.symm e), h.fr j hj, List.getElem?_set_ne (Ne.symm e)]⟩
theorem Dw.app (h : Dw H X p code t u) (ext : List Blk) : Dw H (X ++ ext) p code t u := ⟨h.lt, by rw [List.length_append]; have := h.ln; omega, fun j hj => by
  rw [List.getElem?_append_left (by have := h.ln; omega)]; exact h.fr j hj⟩
theorem Dw.set (h : Dw H X p code t u) {j : Nat} (hj : H.length ≤ j) (b : Blk) : Dw H (X.set j b) p code t u := ⟨h.lt, by rw [List.length_set]; exact h.ln, fun i hi => by
  rw [List.getElem?_set_ne (by omega)]; exact h.fr i hi⟩
theorem Dw.like (h : Dw H X p code t u) {Y : List Blk} (hl : H.length ≤ Y.length) (hf : ∀ j, j < H.length → Y[j]? = X[j]?) : Dw H Y p code t u := ⟨h.lt, hl, fun j hj => (hf j hj).trans (h.fr j hj)⟩
theorem Dw.ext (h : Dw H X p code t u) : ∃ ext, X = H.set p (srcB code t u) ++ ext := ext_ofR (by rw [List.length_set]; exact h.ln) (fun j hj => h.fr j (by rwa [List.length_set] at hj))
theorem Dw.start (hp : H[p]? = some (srcB code t u)) : Dw H H p code t u := ⟨(List.getElem?_eq_some_iff.1 hp).1, Nat.le_refl _, fun j _ => by
  by_cases e : j = p
  · subst e; rw [List.getElem?_set_self (List.getElem?_eq_some_iff.1 hp).1]; exact hp
  · rw [List.getElem?_set_ne (Ne.symm e)]⟩
end
theorem appRowB {X : List Blk} {t ver n ty bytes : Nat} {cells : List AV} {c : AV} {K : AV → List Blk → Prop} (hX : X[t]? = some ⟨ver, ty, 1, cells⟩) (hl : cells.length = n) (hn : (n + 1) * bytes ≤ 140737488355328) (hn2 : n + 1 ≤ 140737488355328) (hc : c.cell1 = true) (hk : K (.nm t (ver + 1) 0 (n + 1)) (X.set t ⟨ver + 1, ty, 1, cells ++ [c]⟩)) :
    AppN ty 1 bytes t ver n 1 [c] X K X[t]? := by
  have htl : cells.take (n * 1) = cells := List.take_of_length_le (by omega)
  simp only [AppN, hX]
  refine ⟨trivial, trivial, trivial, by simp [hl], by omega, by omega, ?_⟩
  rw [htl]
  exact hk
theorem slcZ {H : List Blk} {K : AV → Prop} {i ver n sz : Nat} {cells : List AV} {y : Int} (h0 : 0 ≤ y) (hy : y ≤ n) (hs : (H[i]?).map Blk.sz = some sz) : SlcG sz (.nm i ver 0 n) 0 y H K (some (n, cells)) = K (.nm i ver 0 y.toNat) := by
  simp only [SlcG, if_true]
  refine propext ⟨fun h => h.2.2.2.2, fun h => ⟨by omega, h0, hy, ?_, h⟩⟩
  intro i' ver' off len he
  cases he
  exact hs
def DgR (H : List Blk) (p : Nat) (code : AV) (n T : Nat) (r : AV) (H' : List Blk) : Prop :=
  ∃ (u' : Int) (t' i vi j vj k : Nat) (cols : List Int) (fs : List (Int × Int)),
    Dw H H' p code t' u' ∧ r = .agg [.nm i vi 0 n, .nm j vj 0 k] ∧ t' ≤ T ∧ H.length ≤ i ∧ H.length ≤ j ∧ i ≠ j ∧
    H'[i]? = some ⟨vi, 2, 1, cols.map I⟩ ∧ cols.length = n ∧ H'[j]? = some ⟨vj, tyE, 2, flatE fs⟩ ∧ k ≤ fs.length ∧ k ≤ 512
structure Dt (H X : List Blk) (p : Nat) (code : AV) (t : Nat) (u : Int) (n : Nat) (cols : List Int) (tt tv : Nat) (rs : List Nat) (f : Nat → Nat → Bool) : Prop where
  d : Dw H X p code t u
  m0 : X[H.length]? = some ⟨0, tyGr, 1, [nilS, nilS]⟩
  m1 : X[H.length + 1]? = some ⟨n, 2, 1, cols.map I⟩
  gv : GrV Bv tyBB 4 X tt tv 0 n rs (tabB n f)
section
variable {H X : List Blk} {p t n tt tv : Nat} {code : AV} {u : Int} {cols : List Int} {rs : List Nat} {f : Nat → Nat → Bool}
theorem Dt.draw (h : Dt H X p code t u n cols tt tv rs f) (htl : H.length + 2 ≤ tt) (hrl : ∀ r ∈ rs, H.length + 2 ≤ r) (t' : Nat) (u' : Int) : Dt H (X.set p (srcB code t' u')) p code t' u' n cols tt tv rs f := by
  have hlt := h.d.lt
  refine ⟨h.d.draw t' u', by rw [List.getElem?_set_ne (by omega)]; exact h.m0, by rw [List.getElem?_set_ne (by omega)]; exact h.m1, h.gv.other ⟨by omega, fun hm => ?_⟩⟩
  have := hrl p hm; omega
theorem Dt.put (h : Dt H X p code t u n cols tt tv rs f) (hrl : ∀ r ∈ rs, H.length + 2 ≤ r) (hnd : rs.Nodup) (htr : tt ∉ rs) {a b ra : Nat} (ha : a < n) (hb : b < n) (hra : rs[a]? = some ra) (on : Bool) :
    ∃ f', Dt H (X.set ra ⟨0, 4, 1, (((tabB n f).getD a []).set b on).map Bv⟩) p code t u n cols tt tv rs f' := by
  have hr := hrl ra (List.mem_of_getElem? hra)
  have hs := h.gv.set hnd htr ha hra on (y := b)
  have e := tabB_set f ha hb on
  unfold setB at e
  rw [e] at hs
  exact ⟨_, h.d.set (by omega) _, by rw [List.getElem?_set_ne (by omega)]; exact h.m0, by rw [List.getElem?_set_ne (by omega)]; exact h.m1, hs⟩
end
theorem l21DrawSize_ok (H : List Blk) (p : Nat) (code : AV) (ns : List Int) (t : Nat) (u : Int) (n : Nat) (hp : H[p]? = some (srcB code t u)) (hc : CodeOk code ns) (ht : t ≤ 700000000) (hn : n ≤ 64) :
    ACalls Tryz.prog f_spec_l21DrawSize [.pc p 0 0, I n] H (DgR H p code n (t + 20000)) := by
  refine ACalls.introB s_spec_l21DrawSize (by simp) ?_; intro hB hA; unfold c_spec_l21DrawSize; simp (config := { maxSteps := 1000000 }) (disch := (first | omega | (simp only [go_sem]; try omega))) only [go_sem, Nat.reduceAdd, Nat.reduceEqDiff, Nat.reduceLeDiff, Nat.reduceMul, Nat.reduceLT, reduceIte, Int.reduceToNat, w64_id, cast_succ]
  have hd := Dw.start hp
  repeat (first | (with_reducible first | refine SW.seq ?_ | refine SW.block ?_ | refine SW.rowC ?_ | refine SW.skip ?_ | refine SW.exit ?_ | intro _ | refine And.intro (by omega) ?_) | simp (config := { maxSteps := 1000000 }) (disch := (first | omega | (simp only [go_sem]; try omega))) only [go_sem, Nat.reduceAdd, Nat.reduceEqDiff, Nat.reduceLeDiff, Nat.reduceMul, Nat.reduceLT, reduceIte, Int.reduceToNat, w64_id, cast_succ])
  refine (pick_ok _ p code ns t u 3 (hd.app _).src hc (by omega)).mono ?_
  rintro r X ⟨x, u1, t1, rfl, x0, x1, ht1, rfl⟩
  repeat (first | (with_reducible first | refine SW.seq ?_ | refine SW.block ?_ | refine SW.rowC ?_ | refine SW.skip ?_ | refine SW.exit ?_ | intro _ | refine And.intro (by omega) ?_) | simp (config := { maxSteps := 1000000 }) (disch := (first | omega | (simp only [go_sem]; try omega))) only [go_sem, Nat.reduceAdd, Nat.reduceEqDiff, Nat.reduceLeDiff, Nat.reduceMul, Nat.reduceLT, reduceIte, Int.reduceToNat, w64_id, cast_succ])
  have hd1 := (hd.app [(⟨0, tyGr, 1, [nilS, nilS]⟩ : Blk), ⟨0, 2, 1, []⟩]).draw t1 u1
  have m0 : ((H ++ [(⟨0, tyGr, 1, [nilS, nilS]⟩ : Blk), ⟨0, 2, 1, []⟩]).set p (srcB code t1 u1))[H.length]? = some ⟨0, tyGr, 1, [nilS, nilS]⟩ := by rw [List.getElem?_set_ne (by have := hd.lt; omega)]; simp
  have m1 : ((H ++ [(⟨0, tyGr, 1, [nilS, nilS]⟩ : Blk), ⟨0, 2, 1, []⟩]).set p (srcB code t1 u1))[H.length + 1]? = some ⟨0, 2, 1, []⟩ := by rw [List.getElem?_set_ne (by have := hd.lt; omega)]; simp
  have hlt := hd.lt
  refine SW.loopE (fun E0 H0 m E' X => ∃ (v t' : Nat) (u' : Int) (cols : List Int), v ≤ n ∧ m = n - v ∧ cols.length = v ∧ E' = aput (aput E0 7 (I v)) 5 (.nm (H.length + 1) v 0 v) ∧ Dw H X p code t' u' ∧ t' ≤ t + 2 + 2 * v ∧ X[H.length]? = some ⟨0, tyGr, 1, [nilS, nilS]⟩ ∧ X[H.length + 1]? = some ⟨v, 2, 1, cols.map I⟩) n ⟨0, t1, u1, [], by omega, by omega, rfl, rfl, hd1, by omega, m0, m1⟩ ?_
  clear m0 m1 hd1
  rintro m E' X ⟨v, t2, u2, cols, hv, rfl, hcl, rfl, hX, ht2, m0, m1⟩
  simp (config := { maxSteps := 1000000 }) (disch := (first | omega | (simp only [go_sem]; try omega))) only [go_sem, Nat.reduceAdd, Nat.reduceEqDiff, Nat.reduceLeDiff, Nat.reduceMul, Nat.reduceLT, reduceIte, Int.reduceToNat, w64_id, cast_succ]
  repeat (first | (with_reducible first | refine SW.seq ?_ | refine SW.block ?_ | refine SW.rowC ?_ | refine SW.skip ?_ | refine SW.exit ?_ | intro _ | refine And.intro (by omega) ?_) | simp (config := { maxSteps := 1000000 }) (disch := (first | omega | (simp only [go_sem]; try omega))) only [go_sem, Nat.reduceAdd, Nat.reduceEqDiff, Nat.reduceLeDiff, Nat.reduceMul, Nat.reduceLT, reduceIte, Int.reduceToNat, w64_id, cast_succ])
  (first | refine SW.condD rfl (fun h2 => ?_) (fun h2 => ?_) | refine SW.condN rfl (fun h2 => ?_) (fun h2 => ?_) | refine SW.condNB rfl (fun h2 => ?_) (fun h2 => ?_) | refine SW.condB rfl (fun h2 => ?_) (fun h2 => ?_))
  · repeat (first | (with_reducible first | refine SW.seq ?_ | refine SW.block ?_ | refine SW.rowC ?_ | refine SW.skip ?_ | refine SW.exit ?_ | intro _ | refine And.intro (by omega) ?_) | simp (config := { maxSteps := 1000000 }) (disch := (first | omega | (simp only [go_sem]; try omega))) only [go_sem, Nat.reduceAdd, Nat.reduceEqDiff, Nat.reduceLeDiff, Nat.reduceMul, Nat.reduceLT, reduceIte, Int.reduceToNat, w64_id, cast_succ])
    refine (pick_ok _ p code ns t2 u2 (x + 1) hX.src hc (by omega)).mono ?_
    rintro r Y ⟨y, u3, t3, rfl, y0, y1, ht3, rfl⟩
    have hY := hX.draw t3 u3
    have k0 := m0
    have k1 := m1
    rw [← List.getElem?_set_ne (l := X) (i := p) (a := srcB code t3 u3) (by omega)] at k0 k1
    generalize X.set p (srcB code t3 u3) = Y at *
    repeat (first | (with_reducible first | refine SW.seq ?_ | refine SW.block ?_ | refine SW.rowC ?_ | refine SW.skip ?_ | refine SW.exit ?_ | intro _ | refine And.intro (by omega) ?_) | simp (config := { maxSteps := 1000000 }) (disch := (first | omega | (simp only [go_sem]; try omega))) only [go_sem, Nat.reduceAdd, Nat.reduceEqDiff, Nat.reduceLeDiff, Nat.reduceMul, Nat.reduceLT, reduceIte, Int.reduceToNat, w64_id, cast_succ])
    refine appRowB (get_appU k1 _) (by simpa using hcl) (by omega) (by omega) rfl ?_
    repeat (first | (with_reducible first | refine SW.seq ?_ | refine SW.block ?_ | refine SW.rowC ?_ | refine SW.skip ?_ | refine SW.exit ?_ | intro _ | refine And.intro (by omega) ?_) | simp (config := { maxSteps := 1000000 }) (disch := (first | omega | (simp only [go_sem]; try omega))) only [go_sem, Nat.reduceAdd, Nat.reduceEqDiff, Nat.reduceLeDiff, Nat.reduceMul, Nat.reduceLT, reduceIte, Int.reduceToNat, w64_id, cast_succ])
    refine SLoop.next (n - (v + 1)) (by omega) ⟨v + 1, t3, u3, cols ++ [y], by omega, rfl, by simp [hcl], by simp [go_sem], (hY.app _).set (by omega) _, by omega, by rw [List.getElem?_set_ne (by omega)]; exact get_appU k0 _, ?_⟩
    rw [List.getElem?_set_self (by have := (List.getElem?_eq_some_iff.1 k1).1; rw [List.length_append]; omega), List.map_append]
    try rfl
  · have : v = n := by omega
    subst this
    repeat (first | (with_reducible first | refine SW.seq ?_ | refine SW.block ?_ | refine SW.rowC ?_ | refine SW.skip ?_ | refine SW.exit ?_ | intro _ | refine And.intro (by omega) ?_) | simp (config := { maxSteps := 1000000 }) (disch := (first | omega | (simp only [go_sem]; try omega))) only [go_sem, Nat.reduceAdd, Nat.reduceEqDiff, Nat.reduceLeDiff, Nat.reduceMul, Nat.reduceLT, reduceIte, Int.reduceToNat, w64_id, cast_succ])
    have hrd : RdS X (.nm (H.length + 1) v 0 v) cols := by
      have h := view_nm (n := v) m1 (by simpa using hcl)
      unfold RdS
      rw [hcl]; exact h
    have hT := l21Table_ok X (.nm (H.length + 1) v 0 v) nilS cols [] ⟨rfl, rfl⟩ ⟨rfl, rfl⟩ hrd rfl (by omega) (by simp) (by simp)
    rw [hcl] at hT
    refine hT.mono ?_
    rintro r X1 ⟨ext, tt, tv, rs, rfl, rfl, hgv, hnd, htr, htl, hrl⟩
    have hXl : H.length + 2 ≤ X.length := (List.getElem?_eq_some_iff.1 m1).1
    replace htl : H.length + 2 ≤ tt := by omega
    replace hrl : ∀ r ∈ rs, H.length + 2 ≤ r := fun r hr => by have := hrl r hr; omega
    have hD : Dt H (X ++ ext) p code t2 u2 v cols tt tv rs (adjF []) := ⟨hX.app ext, get_appU m0 _, get_appU m1 _, hgv⟩
    clear hgv m0 m1 hX hT hrd hXl
    generalize X ++ ext = Y at *
    repeat (first | (with_reducible first | refine SW.seq ?_ | refine SW.block ?_ | refine SW.rowC ?_ | refine SW.skip ?_ | refine SW.exit ?_ | intro _ | refine And.intro (by omega) ?_) | simp (config := { maxSteps := 1000000 }) (disch := (first | omega | (simp only [go_sem]; try omega))) only [go_sem, Nat.reduceAdd, Nat.reduceEqDiff, Nat.reduceLeDiff, Nat.reduceMul, Nat.reduceLT, reduceIte, Int.reduceToNat, w64_id, cast_succ])
    refine (pick_ok _ p code ns t2 u2 4 hD.d.src hc (by omega)).mono ?_
    rintro r X ⟨y, u3, t3, rfl, y0, y1, ht3, rfl⟩
    replace hD := hD.draw htl hrl t3 u3
    generalize Y.set p (srcB code t3 u3) = X at *
    generalize adjF [] = f at *
    repeat (first | (with_reducible first | refine SW.seq ?_ | refine SW.block ?_ | refine SW.rowC ?_ | refine SW.skip ?_ | refine SW.exit ?_ | intro _ | refine And.intro (by omega) ?_) | simp (config := { maxSteps := 1000000 }) (disch := (first | omega | (simp only [go_sem]; try omega))) only [go_sem, Nat.reduceAdd, Nat.reduceEqDiff, Nat.reduceLeDiff, Nat.reduceMul, Nat.reduceLT, reduceIte, Int.reduceToNat, w64_id, cast_succ])
    refine SW.loopE (fun E0 H0 m E' X => ∃ (a t' : Nat) (u' : Int) (f : Nat → Nat → Bool), a ≤ v ∧ m = v - a ∧ E' = aput E0 10 (I a) ∧ Dt H X p code t' u' v cols tt tv rs f ∧ t' ≤ t + 200 + a * 128) v ⟨0, t3, u3, f, by omega, by omega, rfl, hD, by omega⟩ ?_
    clear hD
    rintro m E' X ⟨a, t4, u4, f, ha, rfl, rfl, hD, ht4⟩
    simp (config := { maxSteps := 1000000 }) (disch := (first | omega | (simp only [go_sem]; try omega))) only [go_sem, Nat.reduceAdd, Nat.reduceEqDiff, Nat.reduceLeDiff, Nat.reduceMul, Nat.reduceLT, reduceIte, Int.reduceToNat, w64_id, cast_succ]
    repeat (first | (with_reducible first | refine SW.seq ?_ | refine SW.block ?_ | refine SW.rowC ?_ | refine SW.skip ?_ | refine SW.exit ?_ | intro _ | refine And.intro (by omega) ?_) | simp (config := { maxSteps := 1000000 }) (disch := (first | omega | (simp only [go_sem]; try omega))) only [go_sem, Nat.reduceAdd, Nat.reduceEqDiff, Nat.reduceLeDiff, Nat.reduceMul, Nat.reduceLT, reduceIte, Int.reduceToNat, w64_id, cast_succ])
    (first | refine SW.condD rfl (fun h3 => ?_) (fun h3 => ?_) | refine SW.condN rfl (fun h3 => ?_) (fun h3 => ?_) | refine SW.condNB rfl (fun h3 => ?_) (fun h3 => ?_) | refine SW.condB rfl (fun h3 => ?_) (fun h3 => ?_))
    · have hav : a < v := by omega
      repeat (first | (with_reducible first | refine SW.seq ?_ | refine SW.block ?_ | refine SW.rowC ?_ | refine SW.skip ?_ | refine SW.exit ?_ | intro _ | refine And.intro (by omega) ?_) | simp (config := { maxSteps := 1000000 }) (disch := (first | omega | (simp only [go_sem]; try omega))) only [go_sem, Nat.reduceAdd, Nat.reduceEqDiff, Nat.reduceLeDiff, Nat.reduceMul, Nat.reduceLT, reduceIte, Int.reduceToNat, w64_id, cast_succ])
      refine SW.loopE (fun E0 H0 m E' X => ∃ (b t' : Nat) (u' : Int) (f : Nat → Nat → Bool), a + 1 ≤ b ∧ b ≤ v ∧ m = v - b ∧ E' = aput E0 11 (I b) ∧ Dt H X p code t' u' v cols tt tv rs f ∧ t' ≤ t + 200 + a * 128 + b * 2) (v - (a + 1)) ⟨a + 1, t4, u4, f, by omega, by omega, rfl, by simp [go_sem], hD, by omega⟩ ?_
      clear hD
      rintro m E' X ⟨b, t5, u5, f, hb1, hb, rfl, rfl, hD, ht5⟩
      simp (config := { maxSteps := 1000000 }) (disch := (first | omega | (simp only [go_sem]; try omega))) only [go_sem, Nat.reduceAdd, Nat.reduceEqDiff, Nat.reduceLeDiff, Nat.reduceMul, Nat.reduceLT, reduceIte, Int.reduceToNat, w64_id, cast_succ]
      repeat (first | (with_reducible first | refine SW.seq ?_ | refine SW.block ?_ | refine SW.rowC ?_ | refine SW.skip ?_ | refine SW.exit ?_ | intro _ | refine And.intro (by omega) ?_) | simp (config := { maxSteps := 1000000 }) (disch := (first | omega | (simp only [go_sem]; try omega))) only [go_sem, Nat.reduceAdd, Nat.reduceEqDiff, Nat.reduceLeDiff, Nat.reduceMul, Nat.reduceLT, reduceIte, Int.reduceToNat, w64_id, cast_succ])
      (first | refine SW.condD rfl (fun h4 => ?_) (fun h4 => ?_) | refine SW.condN rfl (fun h4 => ?_) (fun h4 => ?_) | refine SW.condNB rfl (fun h4 => ?_) (fun h4 => ?_) | refine SW.condB rfl (fun h4 => ?_) (fun h4 => ?_))
      · have hbv : b < v := by omega
        by_cases e0 : y = 0
        · have c0 : decide (y = 0) = true := decide_eq_true e0
          repeat (first | (with_reducible first | refine SW.seq ?_ | refine SW.block ?_ | refine SW.rowC ?_ | refine SW.skip ?_ | refine SW.exit ?_ | intro _ | refine And.intro (by omega) ?_) | simp (config := { maxSteps := 1000000 }) (disch := (first | omega | (simp only [go_sem]; try omega))) only [go_sem, Nat.reduceAdd, Nat.reduceEqDiff, Nat.reduceLeDiff, Nat.reduceMul, Nat.reduceLT, reduceIte, Int.reduceToNat, w64_id, cast_succ, c0])
          refine SW.condT rfl ?_
          repeat (first | (with_reducible first | refine SW.seq ?_ | refine SW.block ?_ | refine SW.rowC ?_ | refine SW.skip ?_ | refine SW.exit ?_ | intro _ | refine And.intro (by omega) ?_) | simp (config := { maxSteps := 1000000 }) (disch := (first | omega | (simp only [go_sem]; try omega))) only [go_sem, Nat.reduceAdd, Nat.reduceEqDiff, Nat.reduceLeDiff, Nat.reduceMul, Nat.reduceLT, reduceIte, Int.reduceToNat, w64_id, cast_succ])
          refine ⟨fun _ => ⟨fun _ => ?_, fun _ => ?_⟩, fun _ => ?_⟩
          · obtain ⟨ra, hra⟩ := hD.gv.get hav
            have ev1 := hD.gv.view
            have ec1 := GrV.cell (rv := 0) (n := v) hra
            have er1 := hD.gv.row hav hra
            have es1 := fun on => hD.gv.store hav hbv hra on
            obtain ⟨f', hD'⟩ := hD.put hrl hnd htr hav hbv hra (decide ((b : Int) = (v : Int) - 1))
            repeat (first | (with_reducible first | refine SW.seq ?_ | refine SW.block ?_ | refine SW.rowC ?_ | refine SW.skip ?_ | refine SW.exit ?_ | intro _ | refine And.intro (by omega) ?_) | simp (config := { maxSteps := 1000000 }) (disch := (first | omega | (simp only [go_sem]; try omega))) only [go_sem, Nat.reduceAdd, Nat.reduceEqDiff, Nat.reduceLeDiff, Nat.reduceMul, Nat.reduceLT, reduceIte, Int.reduceToNat, w64_id, cast_succ, ev1, ec1, er1, es1])
            exact SLoop.next (v - (b + 1)) (by omega) ⟨b + 1, t5, u5, f', by omega, by omega, rfl, by simp [go_sem], hD', by omega⟩
          · obtain ⟨ra, hra⟩ := hD.gv.get hav
            have ev1 := hD.gv.view
            have ec1 := GrV.cell (rv := 0) (n := v) hra
            have er1 := hD.gv.row hav hra
            have es1 := fun on => hD.gv.store hav hbv hra on
            obtain ⟨f', hD'⟩ := hD.put hrl hnd htr hav hbv hra false
            repeat (first | (with_reducible first | refine SW.seq ?_ | refine SW.block ?_ | refine SW.rowC ?_ | refine SW.skip ?_ | refine SW.exit ?_ | intro _ | refine And.intro (by omega) ?_) | simp (config := { maxSteps := 1000000 }) (disch := (first | omega | (simp only [go_sem]; try omega))) only [go_sem, Nat.reduceAdd, Nat.reduceEqDiff, Nat.reduceLeDiff, Nat.reduceMul, Nat.reduceLT, reduceIte, Int.reduceToNat, w64_id, cast_succ, ev1, ec1, er1, es1])
            exact SLoop.next (v - (b + 1)) (by omega) ⟨b + 1, t5, u5, f', by omega, by omega, rfl, by simp [go_sem], hD', by omega⟩
          · obtain ⟨ra, hra⟩ := hD.gv.get hav
            have ev1 := hD.gv.view
            have ec1 := GrV.cell (rv := 0) (n := v) hra
            have er1 := hD.gv.row hav hra
            have es1 := fun on => hD.gv.store hav hbv hra on
            obtain ⟨f', hD'⟩ := hD.put hrl hnd htr hav hbv hra true
            repeat (first | (with_reducible first | refine SW.seq ?_ | refine SW.block ?_ | refine SW.rowC ?_ | refine SW.skip ?_ | refine SW.exit ?_ | intro _ | refine And.intro (by omega) ?_) | simp (config := { maxSteps := 1000000 }) (disch := (first | omega | (simp only [go_sem]; try omega))) only [go_sem, Nat.reduceAdd, Nat.reduceEqDiff, Nat.reduceLeDiff, Nat.reduceMul, Nat.reduceLT, reduceIte, Int.reduceToNat, w64_id, cast_succ, ev1, ec1, er1, es1])
            exact SLoop.next (v - (b + 1)) (by omega) ⟨b + 1, t5, u5, f', by omega, by omega, rfl, by simp [go_sem], hD', by omega⟩
        have c0 : decide (y = 0) = false := decide_eq_false e0
        by_cases e1 : y = 1
        · have c1 : decide (y = 1) = true := decide_eq_true e1
          repeat (first | (with_reducible first | refine SW.seq ?_ | refine SW.block ?_ | refine SW.rowC ?_ | refine SW.skip ?_ | refine SW.exit ?_ | intro _ | refine And.intro (by omega) ?_) | simp (config := { maxSteps := 1000000 }) (disch := (first | omega | (simp only [go_sem]; try omega))) only [go_sem, Nat.reduceAdd, Nat.reduceEqDiff, Nat.reduceLeDiff, Nat.reduceMul, Nat.reduceLT, reduceIte, Int.reduceToNat, w64_id, cast_succ, c0, c1])
          refine SW.condF rfl ?_
          repeat (first | (with_reducible first | refine SW.seq ?_ | refine SW.block ?_ | refine SW.rowC ?_ | refine SW.skip ?_ | refine SW.exit ?_ | intro _ | refine And.intro (by omega) ?_) | simp (config := { maxSteps := 1000000 }) (disch := (first | omega | (simp only [go_sem]; try omega))) only [go_sem, Nat.reduceAdd, Nat.reduceEqDiff, Nat.reduceLeDiff, Nat.reduceMul, Nat.reduceLT, reduceIte, Int.reduceToNat, w64_id, cast_succ, c0, c1])
          refine SW.condT rfl ?_
          repeat (first | (with_reducible first | refine SW.seq ?_ | refine SW.block ?_ | refine SW.rowC ?_ | refine SW.skip ?_ | refine SW.exit ?_ | intro _ | refine And.intro (by omega) ?_) | simp (config := { maxSteps := 1000000 }) (disch := (first | omega | (simp only [go_sem]; try omega))) only [go_sem, Nat.reduceAdd, Nat.reduceEqDiff, Nat.reduceLeDiff, Nat.reduceMul, Nat.reduceLT, reduceIte, Int.reduceToNat, w64_id, cast_succ])
          refine (pick_ok _ p code ns t5 u5 3 hD.d.src hc (by omega)).mono ?_
          rintro r Y ⟨z, u6, t6, rfl, z0, z1, ht6, rfl⟩
          replace hD := hD.draw htl hrl t6 u6
          generalize X.set p (srcB code t6 u6) = Y at *
          repeat (first | (with_reducible first | refine SW.seq ?_ | refine SW.block ?_ | refine SW.rowC ?_ | refine SW.skip ?_ | refine SW.exit ?_ | intro _ | refine And.intro (by omega) ?_) | simp (config := { maxSteps := 1000000 }) (disch := (first | omega | (simp only [go_sem]; try omega))) only [go_sem, Nat.reduceAdd, Nat.reduceEqDiff, Nat.reduceLeDiff, Nat.reduceMul, Nat.reduceLT, reduceIte, Int.reduceToNat, w64_id, cast_succ])
          obtain ⟨ra, hra⟩ := hD.gv.get hav
          have ev1 := hD.gv.view
          have ec1 := GrV.cell (rv := 0) (n := v) hra
          have er1 := hD.gv.row hav hra
          have es1 := fun on => hD.gv.store hav hbv hra on
          obtain ⟨f', hD'⟩ := hD.put hrl hnd htr hav hbv hra (decide (z = 0))
          repeat (first | (with_reducible first | refine SW.seq ?_ | refine SW.block ?_ | refine SW.rowC ?_ | refine SW.skip ?_ | refine SW.exit ?_ | intro _ | refine And.intro (by omega) ?_) | simp (config := { maxSteps := 1000000 }) (disch := (first | omega | (simp only [go_sem]; try omega))) only [go_sem, Nat.reduceAdd, Nat.reduceEqDiff, Nat.reduceLeDiff, Nat.reduceMul, Nat.reduceLT, reduceIte, Int.reduceToNat, w64_id, cast_succ, ev1, ec1, er1, es1])
          exact SLoop.next (v - (b + 1)) (by omega) ⟨b + 1, t6, u6, f', by omega, by omega, rfl, by simp [go_sem], hD', by omega⟩
        have c1 : decide (y = 1) = false := decide_eq_false e1
        by_cases e2 : y = 2
        · have c2 : decide (y = 2) = true := decide_eq_true e2
          repeat (first | (with_reducible first | refine SW.seq ?_ | refine SW.block ?_ | refine SW.rowC ?_ | refine SW.skip ?_ | refine SW.exit ?_ | intro _ | refine And.intro (by omega) ?_) | simp (config := { maxSteps := 1000000 }) (disch := (first | omega | (simp only [go_sem]; try omega))) only [go_sem, Nat.reduceAdd, Nat.reduceEqDiff, Nat.reduceLeDiff, Nat.reduceMul, Nat.reduceLT, reduceIte, Int.reduceToNat, w64_id, cast_succ, c0, c1, c2])
          refine SW.condF rfl ?_
          repeat (first | (with_reducible first | refine SW.seq ?_ | refine SW.block ?_ | refine SW.rowC ?_ | refine SW.skip ?_ | refine SW.exit ?_ | intro _ | refine And.intro (by omega) ?_) | simp (config := { maxSteps := 1000000 }) (disch := (first | omega | (simp only [go_sem]; try omega))) only [go_sem, Nat.reduceAdd, Nat.reduceEqDiff, Nat.reduceLeDiff, Nat.reduceMul, Nat.reduceLT, reduceIte, Int.reduceToNat, w64_id, cast_succ, c0, c1, c2])
          refine SW.condF rfl ?_
          repeat (first | (with_reducible first | refine SW.seq ?_ | refine SW.block ?_ | refine SW.rowC ?_ | refine SW.skip ?_ | refine SW.exit ?_ | intro _ | refine And.intro (by omega) ?_) | simp (config := { maxSteps := 1000000 }) (disch := (first | omega | (simp only [go_sem]; try omega))) only [go_sem, Nat.reduceAdd, Nat.reduceEqDiff, Nat.reduceLeDiff, Nat.reduceMul, Nat.reduceLT, reduceIte, Int.reduceToNat, w64_id, cast_succ, c0, c1, c2])
          refine SW.condT rfl ?_
          repeat (first | (with_reducible first | refine SW.seq ?_ | refine SW.block ?_ | refine SW.rowC ?_ | refine SW.skip ?_ | refine SW.exit ?_ | intro _ | refine And.intro (by omega) ?_) | simp (config := { maxSteps := 1000000 }) (disch := (first | omega | (simp only [go_sem]; try omega))) only [go_sem, Nat.reduceAdd, Nat.reduceEqDiff, Nat.reduceLeDiff, Nat.reduceMul, Nat.reduceLT, reduceIte, Int.reduceToNat, w64_id, cast_succ])
          obtain ⟨ra, hra⟩ := hD.gv.get hav
          have ev1 := hD.gv.view
          have ec1 := GrV.cell (rv := 0) (n := v) hra
          have er1 := hD.gv.row hav hra
          have es1 := fun on => hD.gv.store hav hbv hra on
          obtain ⟨f', hD'⟩ := hD.put hrl hnd htr hav hbv hra (decide (((b : Int) - (a : Int)).tmod 3 = 1))
          repeat (first | (with_reducible first | refine SW.seq ?_ | refine SW.block ?_ | refine SW.rowC ?_ | refine SW.skip ?_ | refine SW.exit ?_ | intro _ | refine And.intro (by omega) ?_) | simp (config := { maxSteps := 1000000 }) (disch := (first | omega | (simp only [go_sem]; try omega))) only [go_sem, Nat.reduceAdd, Nat.reduceEqDiff, Nat.reduceLeDiff, Nat.reduceMul, Nat.reduceLT, reduceIte, Int.reduceToNat, w64_id, cast_succ, ev1, ec1, er1, es1])
          exact SLoop.next (v - (b + 1)) (by omega) ⟨b + 1, t5, u5, f', by omega, by omega, rfl, by simp [go_sem], hD', by omega⟩
        have c2 : decide (y = 2) = false := decide_eq_false e2
        repeat (first | (with_reducible first | refine SW.seq ?_ | refine SW.block ?_ | refine SW.rowC ?_ | refine SW.skip ?_ | refine SW.exit ?_ | intro _ | refine And.intro (by omega) ?_) | simp (config := { maxSteps := 1000000 }) (disch := (first | omega | (simp only [go_sem]; try omega))) only [go_sem, Nat.reduceAdd, Nat.reduceEqDiff, Nat.reduceLeDiff, Nat.reduceMul, Nat.reduceLT, reduceIte, Int.reduceToNat, w64_id, cast_succ, c0, c1, c2])
        refine SW.condF rfl ?_
        repeat (first | (with_reducible first | refine SW.seq ?_ | refine SW.block ?_ | refine SW.rowC ?_ | refine SW.skip ?_ | refine SW.exit ?_ | intro _ | refine And.intro (by omega) ?_) | simp (config := { maxSteps := 1000000 }) (disch := (first | omega | (simp only [go_sem]; try omega))) only [go_sem, Nat.reduceAdd, Nat.reduceEqDiff, Nat.reduceLeDiff, Nat.reduceMul, Nat.reduceLT, reduceIte, Int.reduceToNat, w64_id, cast_succ, c0, c1, c2])
        refine SW.condF rfl ?_
        repeat (first | (with_reducible first | refine SW.seq ?_ | refine SW.block ?_ | refine SW.rowC ?_ | refine SW.skip ?_ | refine SW.exit ?_ | intro _ | refine And.intro (by omega) ?_) | simp (config := { maxSteps := 1000000 }) (disch := (first | omega | (simp only [go_sem]; try omega))) only [go_sem, Nat.reduceAdd, Nat.reduceEqDiff, Nat.reduceLeDiff, Nat.reduceMul, Nat.reduceLT, reduceIte, Int.reduceToNat, w64_id, cast_succ, c0, c1, c2])
        refine SW.condF rfl ?_
        repeat (first | (with_reducible first | refine SW.seq ?_ | refine SW.block ?_ | refine SW.rowC ?_ | refine SW.skip ?_ | refine SW.exit ?_ | intro _ | refine And.intro (by omega) ?_) | simp (config := { maxSteps := 1000000 }) (disch := (first | omega | (simp only [go_sem]; try omega))) only [go_sem, Nat.reduceAdd, Nat.reduceEqDiff, Nat.reduceLeDiff, Nat.reduceMul, Nat.reduceLT, reduceIte, Int.reduceToNat, w64_id, cast_succ])
        refine (pick_ok _ p code ns t5 u5 2 hD.d.src hc (by omega)).mono ?_
        rintro r Y ⟨z, u6, t6, rfl, z0, z1, ht6, rfl⟩
        replace hD := hD.draw htl hrl t6 u6
        generalize X.set p (srcB code t6 u6) = Y at *
        repeat (first | (with_reducible first | refine SW.seq ?_ | refine SW.block ?_ | refine SW.rowC ?_ | refine SW.skip ?_ | refine SW.exit ?_ | intro _ | refine And.intro (by omega) ?_) | simp (config := { maxSteps := 1000000 }) (disch := (first | omega | (simp only [go_sem]; try omega))) only [go_sem, Nat.reduceAdd, Nat.reduceEqDiff, Nat.reduceLeDiff, Nat.reduceMul, Nat.reduceLT, reduceIte, Int.reduceToNat, w64_id, cast_succ])
        obtain ⟨ra, hra⟩ := hD.gv.get hav
        have ev1 := hD.gv.view
        have ec1 := GrV.cell (rv := 0) (n := v) hra
        have er1 := hD.gv.row hav hra
        have es1 := fun on => hD.gv.store hav hbv hra on
        obtain ⟨f', hD'⟩ := hD.put hrl hnd htr hav hbv hra (decide (z = 0))
        repeat (first | (with_reducible first | refine SW.seq ?_ | refine SW.block ?_ | refine SW.rowC ?_ | refine SW.skip ?_ | refine SW.exit ?_ | intro _ | refine And.intro (by omega) ?_) | simp (config := { maxSteps := 1000000 }) (disch := (first | omega | (simp only [go_sem]; try omega))) only [go_sem, Nat.reduceAdd, Nat.reduceEqDiff, Nat.reduceLeDiff, Nat.reduceMul, Nat.reduceLT, reduceIte, Int.reduceToNat, w64_id, cast_succ, ev1, ec1, er1, es1])
        exact SLoop.next (v - (b + 1)) (by omega) ⟨b + 1, t6, u6, f', by omega, by omega, rfl, by simp [go_sem], hD', by omega⟩
      · have : b = v := by omega
        subst this
        repeat (first | (with_reducible first | refine SW.seq ?_ | refine SW.block ?_ | refine SW.rowC ?_ | refine SW.skip ?_ | refine SW.exit ?_ | intro _ | refine And.intro (by omega) ?_) | simp (config := { maxSteps := 1000000 }) (disch := (first | omega | (simp only [go_sem]; try omega))) only [go_sem, Nat.reduceAdd, Nat.reduceEqDiff, Nat.reduceLeDiff, Nat.reduceMul, Nat.reduceLT, reduceIte, Int.reduceToNat, w64_id, cast_succ])
        exact SLoop.next (b - (a + 1)) (by omega) ⟨a + 1, t5, u5, f, by omega, rfl, by simp [go_sem], hD, by omega⟩
    · have : a = v := by omega
      subst this
      repeat (first | (with_reducible first | refine SW.seq ?_ | refine SW.block ?_ | refine SW.rowC ?_ | refine SW.skip ?_ | refine SW.exit ?_ | intro _ | refine And.intro (by omega) ?_) | simp (config := { maxSteps := 1000000 }) (disch := (first | omega | (simp only [go_sem]; try omega))) only [go_sem, Nat.reduceAdd, Nat.reduceEqDiff, Nat.reduceLeDiff, Nat.reduceMul, Nat.reduceLT, reduceIte, Int.reduceToNat, w64_id, cast_succ])
      have hrd : RdS X (.nm (H.length + 1) a 0 a) cols := by
        have h := view_nm (n := a) hD.m1 (by simpa using hcl)
        unfold RdS
        rw [hcl]; exact h
      refine (l21Of_own X _ tt tv rs a cols f hrd hcl (by omega) hD.gv).mono ?_
      rintro r Y ⟨ext, v2, rfl, rfl, q1, q2⟩
      have hel := edT_len a f a
      have hel2 : a * a ≤ 64 * 64 := Nat.mul_le_mul hn hn
      generalize edT a f a = L at *
      have hY := hD.d.app ext
      have m0 := get_appU hD.m0 ext
      have hXl := hD.d.ln
      have hX1 := (List.getElem?_eq_some_iff.1 hD.m1).1
      generalize X ++ ext = Y at *
      have hvw : ∀ ext, aview (Y ++ ext) (.nm (X.length + 2) v2 0 L.length) = some (L.length, flatE L) := fun ext => by
        have how : OwnE (Y ++ ext) (fun _ => True) (.nm (X.length + 2) v2 0 L.length) L := .inl ⟨_, v2, tyE, rfl, trivial, get_appU q2 ext⟩
        exact how.rd
      have hYl := (List.getElem?_eq_some_iff.1 q2).1
      by_cases h512 : L.length ≤ 512
      · have d1 : decide ((512 : Int) < (L.length : Int)) = false := decide_eq_false (by omega)
        repeat (first | (with_reducible first | refine SW.seq ?_ | refine SW.block ?_ | refine SW.rowC ?_ | refine SW.skip ?_ | refine SW.exit ?_ | intro _ | refine And.intro (by omega) ?_) | simp (config := { maxSteps := 1000000 }) (disch := (first | omega | (simp only [go_sem]; try omega))) only [go_sem, Nat.reduceAdd, Nat.reduceEqDiff, Nat.reduceLeDiff, Nat.reduceMul, Nat.reduceLT, reduceIte, Int.reduceToNat, w64_id, cast_succ, hvw, d1])
        refine SW.condF rfl ?_
        repeat (first | (with_reducible first | refine SW.seq ?_ | refine SW.block ?_ | refine SW.rowC ?_ | refine SW.skip ?_ | refine SW.exit ?_ | intro _ | refine And.intro (by omega) ?_) | simp (config := { maxSteps := 1000000 }) (disch := (first | omega | (simp only [go_sem]; try omega))) only [go_sem, Nat.reduceAdd, Nat.reduceEqDiff, Nat.reduceLeDiff, Nat.reduceMul, Nat.reduceLT, reduceIte, Int.reduceToNat, w64_id, cast_succ])
        rw [pc_st (get_appU m0 _) (by simp)]
        repeat (first | (with_reducible first | refine SW.seq ?_ | refine SW.block ?_ | refine SW.rowC ?_ | refine SW.skip ?_ | refine SW.exit ?_ | intro _ | refine And.intro (by omega) ?_) | simp (config := { maxSteps := 1000000 }) (disch := (first | omega | (simp only [go_sem]; try omega))) only [go_sem, Nat.reduceAdd, Nat.reduceEqDiff, Nat.reduceLeDiff, Nat.reduceMul, Nat.reduceLT, reduceIte, Int.reduceToNat, w64_id, cast_succ])
        refine SW.ret ?_
        have c0 : ((Y ++ [(⟨0, tyGr, 1, [.nm (X.length + 1) 1 0 a, .nm (X.length + 2) v2 0 L.length]⟩ : Blk)]).set H.length ⟨0, tyGr, 1, [.nm (X.length + 1) 1 0 a, .nm (X.length + 2) v2 0 L.length]⟩)[H.length]? = some ⟨0, tyGr, 1, [.nm (X.length + 1) 1 0 a, .nm (X.length + 2) v2 0 L.length]⟩ := List.getElem?_set_self (by simp; omega)
        refine FunPost.cell (cs := [.nm (X.length + 1) 1 0 a, .nm (X.length + 2) v2 0 L.length]) (by simp (config := { maxSteps := 1000000 }) (disch := (first | omega | (simp only [go_sem]; try omega))) only [go_sem, Nat.reduceAdd, Nat.reduceEqDiff, Nat.reduceLeDiff, Nat.reduceMul, Nat.reduceLT, reduceIte, Int.reduceToNat, w64_id, cast_succ, pc_lds c0]) (GR.of ⟨u4, t4, X.length + 1, 1, X.length + 2, v2, L.length, cols, L, (hY.app _).set (Nat.le_refl _) _, rfl, by omega, by omega, by omega, by omega, ?_, hcl, ?_, by omega, by omega⟩)
        · rw [List.getElem?_set_ne (by omega)]; exact get_appU q1 _
        · rw [List.getElem?_set_ne (by omega)]; exact get_appU q2 _
      · have d1 : decide ((512 : Int) < (L.length : Int)) = true := decide_eq_true (by omega)
        repeat (first | (with_reducible first | refine SW.seq ?_ | refine SW.block ?_ | refine SW.rowC ?_ | refine SW.skip ?_ | refine SW.exit ?_ | intro _ | refine And.intro (by omega) ?_) | simp (config := { maxSteps := 1000000 }) (disch := (first | omega | (simp only [go_sem]; try omega))) only [go_sem, Nat.reduceAdd, Nat.reduceEqDiff, Nat.reduceLeDiff, Nat.reduceMul, Nat.reduceLT, reduceIte, Int.reduceToNat, w64_id, cast_succ, hvw, d1])
        refine SW.condT rfl ?_
        have hsl : ∀ ext K, SlcG 2 (.nm (X.length + 2) v2 0 L.length) 0 512 (Y ++ ext) K (some (L.length, flatE L)) = K (.nm (X.length + 2) v2 0 512) := fun ext K => slcZ (by omega) (by omega) (by rw [get_appU q2 ext]; rfl)
        repeat (first | (with_reducible first | refine SW.seq ?_ | refine SW.block ?_ | refine SW.rowC ?_ | refine SW.skip ?_ | refine SW.exit ?_ | intro _ | refine And.intro (by omega) ?_) | simp (config := { maxSteps := 1000000 }) (disch := (first | omega | (simp only [go_sem]; try omega))) only [go_sem, Nat.reduceAdd, Nat.reduceEqDiff, Nat.reduceLeDiff, Nat.reduceMul, Nat.reduceLT, reduceIte, Int.reduceToNat, w64_id, cast_succ, hvw, Option.map_some, Option.map_none, hsl])
        rw [pc_st (get_appU m0 _) (by simp)]
        repeat (first | (with_reducible first | refine SW.seq ?_ | refine SW.block ?_ | refine SW.rowC ?_ | refine SW.skip ?_ | refine SW.exit ?_ | intro _ | refine And.intro (by omega) ?_) | simp (config := { maxSteps := 1000000 }) (disch := (first | omega | (simp only [go_sem]; try omega))) only [go_sem, Nat.reduceAdd, Nat.reduceEqDiff, Nat.reduceLeDiff, Nat.reduceMul, Nat.reduceLT, reduceIte, Int.reduceToNat, w64_id, cast_succ])
        refine SW.ret ?_
        have c0 : ((Y ++ [(⟨0, tyGr, 1, [.nm (X.length + 1) 1 0 a, .nm (X.length + 2) v2 0 512]⟩ : Blk)]).set H.length ⟨0, tyGr, 1, [.nm (X.length + 1) 1 0 a, .nm (X.length + 2) v2 0 512]⟩)[H.length]? = some ⟨0, tyGr, 1, [.nm (X.length + 1) 1 0 a, .nm (X.length + 2) v2 0 512]⟩ := List.getElem?_set_self (by simp; omega)
        refine FunPost.cell (cs := [.nm (X.length + 1) 1 0 a, .nm (X.length + 2) v2 0 512]) (by simp (config := { maxSteps := 1000000 }) (disch := (first | omega | (simp only [go_sem]; try omega))) only [go_sem, Nat.reduceAdd, Nat.reduceEqDiff, Nat.reduceLeDiff, Nat.reduceMul, Nat.reduceLT, reduceIte, Int.reduceToNat, w64_id, cast_succ, pc_lds c0]) (GR.of ⟨u4, t4, X.length + 1, 1, X.length + 2, v2, 512, cols, L, (hY.app _).set (Nat.le_refl _) _, rfl, by omega, by omega, by omega, by omega, ?_, hcl, ?_, by omega, by omega⟩)
        · rw [List.getElem?_set_ne (by omega)]; exact get_appU q1 _
        · rw [List.getElem?_set_ne (by omega)]; exact get_appU q2 _
end Go.Proofs.YtdgcgckehihboaaGreatDoor
