/- A graph that is valid, mostly. DOORT -/
import Derived.Test.YtdgcgckehihboaaGreatDoorProg
import Derived.KernelRfl
import Derived.Test.YtdgcgckehihboaaGreatDoorzZR
import Derived.Test.YtdgcgckehihboaaGreatDoorzZE
import Derived.Test.YtdgcgckehihboaaGreatDoorzZD
set_option linter.unusedSimpArgs false
set_option linter.unusedVariables false
set_option linter.unusedSectionVars false
set_option maxHeartbeats 4000000
set_option maxRecDepth 100000
namespace Go.Proofs.YtdgcgckehihboaaGreatDoor
variable [Go.Av.DoorC] [Go.Proofs.YtdgcgckehihboaaGreatDoor.DoorT]
open Go.Av
abbrev f_spec_l21Draw : Nat := 15
def c_spec_l21Draw : SC :=
 .seq (.reg [
     ⟨(some 2), .alloc 27 [(.slice none 0 0), (.slice none 0 0)], none⟩] [0, 2])
 (.seq (.reg [
     ⟨(some 8), .mv (.tmp 0), none⟩,
     ⟨(some 9), .call 34 [(.tmp 8), (.const (.int .i64 9))], none⟩,
     ⟨(some 3), .mv (.tmp 9), none⟩] [0, 2, 3])
 (.seq (.seq (.reg [
     ⟨(some 10), .mv (.tmp 0), none⟩,
     ⟨(some 11), .call 35 [(.tmp 10), (.const (.int .i64 6))], none⟩] [0, 2, 3, 11])
 (.cond (.tmp 11)
  (.reg [
      ⟨(some 12), .mv (.tmp 0), none⟩,
      ⟨(some 13), .bslice 2 1 4 [(.int .i64 0), (.int .i64 0), (.int .i64 0), (.int .i64 0)] [(0, (.const (.int .i64 16))), (1, (.const (.int .i64 24))), (2, (.const (.int .i64 40))), (3, (.const (.int .i64 64)))], none⟩,
      ⟨(some 14), .call 36 [(.tmp 12), (.tmp 13)], none⟩,
      ⟨(some 3), .mv (.tmp 14), none⟩] [0, 2, 3])
  (.skip)))
 (.seq (.reg [
     ⟨(some 15), .mv (.tmp 0), none⟩,
     ⟨(some 16), .mv (.tmp 3), none⟩,
     ⟨(some 17), .call 37 [(.tmp 15), (.tmp 16)], none⟩,
     ⟨(some 4), .alloc 27 [(.slice none 0 0), (.slice none 0 0)], none⟩,
     ⟨none, .store 2 (.tmp 4) (.tmp 17), none⟩] [0, 2, 3, 4])
 (.seq (.seq (.reg [
     ⟨(some 18), .mv (.tmp 0), none⟩,
     ⟨(some 19), .call 34 [(.tmp 18), (.const (.int .i64 12))], none⟩] [0, 2, 3, 4, 19])
 (.block 0 (.seq (.reg [
      ⟨(some 21), .bin .eql (.tmp 19) (.const (.int .i64 0)), none⟩,
      ⟨(some 20), .mv (.tmp 21), none⟩] [0, 2, 3, 4, 19, 20])
  (.cond (.tmp 20)
   (.seq (.reg [
       ⟨(some 22), .mv (.tmp 0), none⟩,
       ⟨(some 23), .mv (.tmp 3), none⟩,
       ⟨(some 24), .bin .add (.tmp 23) (.const (.int .i64 1)), none⟩,
       ⟨(some 25), .call 34 [(.tmp 22), (.tmp 24)], none⟩,
       ⟨(some 5), .mv (.tmp 25), none⟩] [0, 2, 3, 4, 5])
   (.seq (.reg [
       ⟨(some 26), .mv (.tmp 0), none⟩,
       ⟨(some 27), .mv (.tmp 3), none⟩,
       ⟨(some 28), .bin .add (.tmp 27) (.const (.int .i64 2)), none⟩,
       ⟨(some 29), .call 34 [(.tmp 26), (.tmp 28)], none⟩,
       ⟨(some 30), .bin .sub (.tmp 29) (.const (.int .i64 1)), none⟩,
       ⟨(some 6), .mv (.tmp 30), none⟩] [2, 4, 5, 6])
   (.reg [
       ⟨(some 31), .faddr 1 (.tmp 4), none⟩,
       ⟨(some 32), .load 1 false (.tmp 31), none⟩,
       ⟨(some 33), .mv (.tmp 5), none⟩,
       ⟨(some 34), .mv (.tmp 6), none⟩,
       ⟨(some 35), .build [(.int .i64 0), (.int .i64 0)] [(0, 1, (.tmp 33)), (1, 1, (.tmp 34))], none⟩,
       ⟨(some 36), .bslice 49 2 1 [(.int .i64 0), (.int .i64 0)] [(0, (.tmp 35))], none⟩,
       ⟨(some 37), .app 49 2 16 (.tmp 32) (.tmp 36), none⟩,
       ⟨(some 38), .faddr 1 (.tmp 4), none⟩,
       ⟨none, .store 1 (.tmp 38) (.tmp 37), none⟩] [2, 4])))
   (.seq (.reg [
       ⟨(some 40), .bin .eql (.tmp 19) (.const (.int .i64 1)), none⟩,
       ⟨(some 39), .mv (.tmp 40), none⟩] [0, 2, 3, 4, 19, 39])
   (.cond (.tmp 39)
    (.seq (.reg [
        ⟨(some 41), .mv (.tmp 3), none⟩,
        ⟨(some 42), .bin .gtr (.tmp 41) (.const (.int .i64 0)), none⟩] [0, 2, 3, 4, 42])
    (.cond (.tmp 42)
     (.seq (.reg [
         ⟨(some 43), .mv (.tmp 0), none⟩,
         ⟨(some 44), .mv (.tmp 3), none⟩,
         ⟨(some 45), .call 34 [(.tmp 43), (.tmp 44)], none⟩,
         ⟨(some 7), .mv (.tmp 45), none⟩] [0, 2, 4, 7])
     (.mix (.one ⟨(some 48), .mv (.tmp 7), none⟩
      (.one ⟨(some 49), .mv (.tmp 0), none⟩
      (.both (.one ⟨(some 46), .faddr 0 (.tmp 4), none⟩
       (.both (.one ⟨(some 47), .load 1 false (.tmp 46), none⟩
        (.one ⟨(some 50), .bslice 2 1 3 [(.int .i64 0), (.int .i64 0), (.int .i64 0)] [(0, (.const (.int .i64 (-1)))), (1, (.const (.int .i64 63))), (2, (.const (.int .i64 64)))], none⟩
        (.one ⟨(some 51), .call 36 [(.tmp 49), (.tmp 50)], none⟩
        (.one ⟨(some 52), .iaddr 1 (.tmp 47) (.tmp 48), none⟩
        (.one ⟨none, .store 1 (.tmp 52) (.tmp 51), none⟩
        (.done))))))
       (.one ⟨(some 50), .bslice 2 1 3 [(.int .i64 0), (.int .i64 0), (.int .i64 0)] [(0, (.const (.int .i64 (-1)))), (1, (.const (.int .i64 63))), (2, (.const (.int .i64 64)))], none⟩
        (.both (.one ⟨(some 47), .load 1 false (.tmp 46), none⟩
         (.one ⟨(some 51), .call 36 [(.tmp 49), (.tmp 50)], none⟩
         (.one ⟨(some 52), .iaddr 1 (.tmp 47) (.tmp 48), none⟩
         (.one ⟨none, .store 1 (.tmp 52) (.tmp 51), none⟩
         (.done)))))
        (.one ⟨(some 51), .call 36 [(.tmp 49), (.tmp 50)], none⟩
         (.one ⟨(some 47), .load 1 false (.tmp 46), none⟩
         (.one ⟨(some 52), .iaddr 1 (.tmp 47) (.tmp 48), none⟩
         (.one ⟨none, .store 1 (.tmp 52) (.tmp 51), none⟩
         (.done)))))))))
      (.one ⟨(some 50), .bslice 2 1 3 [(.int .i64 0), (.int .i64 0), (.int .i64 0)] [(0, (.const (.int .i64 (-1)))), (1, (.const (.int .i64 63))), (2, (.const (.int .i64 64)))], none⟩
       (.both (.one ⟨(some 46), .faddr 0 (.tmp 4), none⟩
        (.both (.one ⟨(some 47), .load 1 false (.tmp 46), none⟩
         (.one ⟨(some 51), .call 36 [(.tmp 49), (.tmp 50)], none⟩
         (.one ⟨(some 52), .iaddr 1 (.tmp 47) (.tmp 48), none⟩
         (.one ⟨none, .store 1 (.tmp 52) (.tmp 51), none⟩
         (.done)))))
        (.one ⟨(some 51), .call 36 [(.tmp 49), (.tmp 50)], none⟩
         (.one ⟨(some 47), .load 1 false (.tmp 46), none⟩
         (.one ⟨(some 52), .iaddr 1 (.tmp 47) (.tmp 48), none⟩
         (.one ⟨none, .store 1 (.tmp 52) (.tmp 51), none⟩
         (.done)))))))
       (.one ⟨(some 51), .call 36 [(.tmp 49), (.tmp 50)], none⟩
        (.one ⟨(some 46), .faddr 0 (.tmp 4), none⟩
        (.one ⟨(some 47), .load 1 false (.tmp 46), none⟩
        (.one ⟨(some 52), .iaddr 1 (.tmp 47) (.tmp 48), none⟩
        (.one ⟨none, .store 1 (.tmp 52) (.tmp 51), none⟩
        (.done))))))))))) [2, 4]))
     (.skip)))
    (.seq (.reg [
        ⟨(some 54), .bin .eql (.tmp 19) (.const (.int .i64 2)), none⟩,
        ⟨(some 53), .mv (.tmp 54), none⟩] [0, 2, 4, 19, 53])
    (.cond (.tmp 53)
     (.seq (.reg [
         ⟨(some 55), .faddr 1 (.tmp 4), none⟩,
         ⟨(some 56), .load 1 false (.tmp 55), none⟩,
         ⟨(some 57), .len (.tmp 56), none⟩,
         ⟨(some 58), .bin .gtr (.tmp 57) (.const (.int .i64 1)), none⟩] [2, 4, 58])
     (.cond (.tmp 58)
      (.reg [
          ⟨(some 59), .faddr 1 (.tmp 4), none⟩,
          ⟨(some 60), .load 1 false (.tmp 59), none⟩,
          ⟨(some 61), .faddr 1 (.tmp 4), none⟩,
          ⟨(some 62), .load 1 false (.tmp 61), none⟩,
          ⟨(some 63), .iaddr 2 (.tmp 62) (.const (.int .i64 1)), none⟩,
          ⟨(some 64), .load 2 true (.tmp 63), none⟩,
          ⟨(some 65), .iaddr 2 (.tmp 60) (.const (.int .i64 0)), none⟩,
          ⟨none, .store 2 (.tmp 65) (.tmp 64), none⟩] [2, 4])
      (.skip)))
     (.seq (.reg [
         ⟨(some 67), .bin .eql (.tmp 19) (.const (.int .i64 3)), none⟩,
         ⟨(some 66), .mv (.tmp 67), none⟩] [0, 2, 4, 66])
     (.cond (.tmp 66)
      (.seq (.reg [
          ⟨(some 68), .mv (.tmp 0), none⟩,
          ⟨(some 69), .call 35 [(.tmp 68), (.const (.int .i64 3))], none⟩] [2, 4, 69])
      (.cond (.tmp 69)
       (.block 1 (.loop [2, 4]
         (.seq (.seq (.reg [
             ⟨(some 70), .faddr 0 (.tmp 4), none⟩,
             ⟨(some 71), .load 1 false (.tmp 70), none⟩,
             ⟨(some 72), .len (.tmp 71), none⟩,
             ⟨(some 73), .bin .lss (.tmp 72) (.const (.int .i64 65)), none⟩] [2, 4, 73])
         (.cond (.tmp 73)
          (.skip)
          (.exit 1)))
         (.block 2 (.reg [
              ⟨(some 74), .faddr 0 (.tmp 4), none⟩,
              ⟨(some 75), .load 1 false (.tmp 74), none⟩,
              ⟨(some 76), .bslice 2 1 1 [(.int .i64 0)] [(0, (.const (.int .i64 0)))], none⟩,
              ⟨(some 77), .app 2 1 8 (.tmp 75) (.tmp 76), none⟩,
              ⟨(some 78), .faddr 0 (.tmp 4), none⟩,
              ⟨none, .store 1 (.tmp 78) (.tmp 77), none⟩] [2, 4])))))
       (.skip)))
      (.skip)))))))))))
 (.seq (.reg [
     ⟨(some 79), .load 2 true (.tmp 4), none⟩,
     ⟨none, .store 2 (.tmp 2) (.tmp 79), none⟩] [2])
 (.ret))))))
theorem s_spec_l21Draw : stripF Tryz.prog 15 [[0, 2], [0, 2, 3], [0, 2, 3, 11], [0, 2, 3], [0, 2, 3, 4], [0, 2, 3, 4, 19], [0, 2, 3, 4, 19, 20], [0, 2, 3, 4, 5], [2, 4, 5, 6], [2, 4], [0, 2, 3, 4, 19, 39], [0, 2, 3, 4, 42], [0, 2, 4, 7], [2, 4, 1000005], [0, 2, 4, 19, 53], [2, 4, 58], [2, 4], [0, 2, 4, 66], [2, 4, 69], [2, 4], [2, 4, 73], [2, 4], [2]] = some (c_spec_l21Draw, [.cell 2 2], 80) := by kernel_rfl
theorem flatE_take : ∀ (es : List (Int × Int)) (k : Nat), (flatE es).take (k * 2) = flatE (es.take k)
  | [], k => by simp [flatE]
  | e :: es, 0 => by simp [flatE]
  | e :: es, k + 1 => by
    have ih := flatE_take es k
    rw [List.take_succ_cons, Nat.add_mul]
    show (I e.1 :: I e.2 :: flatE es).take (k * 2 + 1 + 1) = I e.1 :: I e.2 :: flatE (es.take k)
    rw [List.take_succ_cons, List.take_succ_cons, ih]
theorem froz_edgesK {H : List Blk} {base r ver ty k : Nat} {es : List (Int × Int)} (hb : base ≤ r) (hr : H[r]? = some ⟨ver, ty, 2, flatE es⟩) (hk : k ≤ es.length) : Froz H base (.nm r ver 0 k) (ilE (es.take k)) := by
  have hc : ((flatE es).drop 0).take (k * 2) = flatE (es.take k) := by rw [List.drop_zero, flatE_take]
  have hl : (es.take k).length = k := by rw [List.length_take]; omega
  unfold ilE
  rw [hl]
  refine .nm r ver 0 k _ _ hb hr rfl (by simp only [hc]) ?_
  intro j c c' h1 h2
  simp only [hc] at h1
  rw [h1] at h2; cases h2
  have hm := List.mem_of_getElem? h1
  rw [flatE_lit] at hm
  obtain ⟨v, _, rfl⟩ := List.mem_map.1 hm
  exact .old _ (.lit _)
structure Gs (H X : List Blk) (p : Nat) (code : AV) (t : Nat) (u : Int) (gb i vi j vj k : Nat) (cols : List Int) (fs : List (Int × Int)) : Prop where
  d : Dw H X p code t u
  m0 : X[H.length]? = some ⟨0, tyGr, 1, [nilS, nilS]⟩
  mg : X[gb]? = some ⟨0, tyGr, 1, [.nm i vi 0 cols.length, .nm j vj 0 k]⟩
  mi : X[i]? = some ⟨vi, 2, 1, cols.map I⟩
  mj : X[j]? = some ⟨vj, tyE, 2, flatE fs⟩
  hk : k ≤ fs.length
  hg : H.length < gb
  hi : H.length < i
  hj : H.length < j
  gi : gb ≠ i
  gj : gb ≠ j
  ij : i ≠ j
theorem Dw.trans {H X Y : List Blk} {p t t' : Nat} {code : AV} {u u' : Int} (h : Dw H X p code t u) (g : Dw X Y p code t' u') : Dw H Y p code t' u' := ⟨h.lt, by have := h.ln; have := g.ln; omega, fun j hj => by
  rw [g.fr j (by have := h.ln; omega)]
  exact (h.draw t' u').fr j hj⟩
theorem Gs.draw {H X : List Blk} {p t : Nat} {code : AV} {u : Int} {gb i vi j vj k : Nat} {cols : List Int} {fs : List (Int × Int)} (h : Gs H X p code t u gb i vi j vj k cols fs) (t' : Nat) (u' : Int) : Gs H (X.set p (srcB code t' u')) p code t' u' gb i vi j vj k cols fs := by
  have hlt := h.d.lt
  have h1 := h.hg
  have h2 := h.hi
  have h3 := h.hj
  exact ⟨h.d.draw t' u', by rw [List.getElem?_set_ne (by omega)]; exact h.m0, by rw [List.getElem?_set_ne (by omega)]; exact h.mg, by rw [List.getElem?_set_ne (by omega)]; exact h.mi, by rw [List.getElem?_set_ne (by omega)]; exact h.mj, h.hk, h1, h2, h3, h.gi, h.gj, h.ij⟩
theorem Gs.app {H X : List Blk} {p t : Nat} {code : AV} {u : Int} {gb i vi j vj k : Nat} {cols : List Int} {fs : List (Int × Int)} (h : Gs H X p code t u gb i vi j vj k cols fs) (ext : List Blk) : Gs H (X ++ ext) p code t u gb i vi j vj k cols fs :=
  ⟨h.d.app ext, get_appU h.m0 _, get_appU h.mg _, get_appU h.mi _, get_appU h.mj _, h.hk, h.hg, h.hi, h.hj, h.gi, h.gj, h.ij⟩
theorem Gs.ev {H X : List Blk} {p t : Nat} {code : AV} {u : Int} {gb i vi j vj k : Nat} {cols : List Int} {fs : List (Int × Int)} (h : Gs H X p code t u gb i vi j vj k cols fs) : aview X (.nm j vj 0 k) = some (k, flatE (fs.take k)) := by
  simp only [aview, h.mj, if_true, List.drop_zero]
  rw [flatE_take]
theorem Gs.cv {H X : List Blk} {p t : Nat} {code : AV} {u : Int} {gb i vi j vj k : Nat} {cols : List Int} {fs : List (Int × Int)} (h : Gs H X p code t u gb i vi j vj k cols fs) : aview X (.nm i vi 0 cols.length) = some (cols.length, cols.map I) := view_nm h.mi (by simp)
theorem Gs.setE {H X : List Blk} {p t : Nat} {code : AV} {u : Int} {gb i vi j vj k : Nat} {cols : List Int} {fs : List (Int × Int)} (h : Gs H X p code t u gb i vi j vj k cols fs) (fs' : List (Int × Int)) (hk : k ≤ fs'.length) : Gs H (X.set j ⟨vj, tyE, 2, flatE fs'⟩) p code t u gb i vi j vj k cols fs' := by
  have h1 := h.hj
  have h2 := h.gj
  have h3 := h.ij
  have hl := (List.getElem?_eq_some_iff.1 h.mj).1
  exact ⟨h.d.set (by omega) _, by rw [List.getElem?_set_ne (by omega)]; exact h.m0, by rw [List.getElem?_set_ne (by omega)]; exact h.mg, by rw [List.getElem?_set_ne (by omega)]; exact h.mi, List.getElem?_set_self hl, hk, h.hg, h.hi, h.hj, h.gi, h.gj, h.ij⟩
theorem appNG {X : List Blk} {t ver n ty sz bytes : Nat} {cells cs : List AV} {K : AV → List Blk → Prop} (hX : X[t]? = some ⟨ver, ty, sz, cells⟩) (hl : n * sz ≤ cells.length) (hn : (n + 1) * bytes ≤ 140737488355328) (hn2 : n + 1 ≤ 140737488355328) (hk : K (.nm t (ver + 1) 0 (n + 1)) (X.set t ⟨ver + 1, ty, sz, cells.take (n * sz) ++ cs⟩)) :
    AppN ty sz bytes t ver n 1 cs X K X[t]? := by
  simp only [AppN, hX]
  exact ⟨trivial, trivial, trivial, hl, hn, hn2, hk⟩
theorem Gs.newE {H X : List Blk} {p t : Nat} {code : AV} {u : Int} {gb i vi j vj k : Nat} {cols : List Int} {fs : List (Int × Int)} (h : Gs H X p code t u gb i vi j vj k cols fs) (v' k' : Nat) (fs' : List (Int × Int)) (hk : k' ≤ fs'.length) : Gs H ((X.set j ⟨v', tyE, 2, flatE fs'⟩).set gb ⟨0, tyGr, 1, [.nm i vi 0 cols.length, .nm j v' 0 k']⟩) p code t u gb i vi j v' k' cols fs' := by
  have h1 := h.hj
  have h2 := h.gj
  have h3 := h.ij
  have h4 := h.hg
  have h5 := h.gi
  have hl := (List.getElem?_eq_some_iff.1 h.mj).1
  have hl2 := (List.getElem?_eq_some_iff.1 h.mg).1
  exact ⟨(h.d.set (by omega) _).set (by omega) _, by rw [List.getElem?_set_ne (by omega), List.getElem?_set_ne (by omega)]; exact h.m0, List.getElem?_set_self (by rw [List.length_set]; exact hl2), by rw [List.getElem?_set_ne (by omega), List.getElem?_set_ne (by omega)]; exact h.mi, by rw [List.getElem?_set_ne (by omega)]; exact List.getElem?_set_self hl, hk, h.hg, h.hi, h.hj, h.gi, h.gj, h.ij⟩
theorem Gs.newC {H X : List Blk} {p t : Nat} {code : AV} {u : Int} {gb i vi j vj k : Nat} {cols : List Int} {fs : List (Int × Int)} (h : Gs H X p code t u gb i vi j vj k cols fs) (v' : Nat) (cols' : List Int) : Gs H ((X.set i ⟨v', 2, 1, cols'.map I⟩).set gb ⟨0, tyGr, 1, [.nm i v' 0 cols'.length, .nm j vj 0 k]⟩) p code t u gb i v' j vj k cols' fs := by
  have h1 := h.hi
  have h2 := h.gj
  have h3 := h.ij
  have h4 := h.hg
  have h5 := h.gi
  have hl := (List.getElem?_eq_some_iff.1 h.mi).1
  have hl2 := (List.getElem?_eq_some_iff.1 h.mg).1
  exact ⟨(h.d.set (by omega) _).set (by omega) _, by rw [List.getElem?_set_ne (by omega), List.getElem?_set_ne (by omega)]; exact h.m0, List.getElem?_set_self (by rw [List.length_set]; exact hl2), by rw [List.getElem?_set_ne (by omega)]; exact List.getElem?_set_self hl, by rw [List.getElem?_set_ne (by omega), List.getElem?_set_ne (by omega)]; exact h.mj, h.hk, h.hg, h.hi, h.hj, h.gi, h.gj, h.ij⟩
theorem Gs.setC {H X : List Blk} {p t : Nat} {code : AV} {u : Int} {gb i vi j vj k : Nat} {cols : List Int} {fs : List (Int × Int)} (h : Gs H X p code t u gb i vi j vj k cols fs) (a : Nat) (z : Int) : Gs H (X.set i ⟨vi, 2, 1, (cols.map I).set a (I z)⟩) p code t u gb i vi j vj k (cols.set a z) fs := by
  have h1 := h.hi
  have h3 := h.ij
  have h5 := h.gi
  have hl := (List.getElem?_eq_some_iff.1 h.mi).1
  exact ⟨h.d.set (by omega) _, by rw [List.getElem?_set_ne (by omega)]; exact h.m0, by rw [List.getElem?_set_ne (by omega), List.length_set]; exact h.mg, by rw [List.map_set]; exact List.getElem?_set_self hl, by rw [List.getElem?_set_ne (by omega)]; exact h.mj, h.hk, h.hg, h.hi, h.hj, h.gi, h.gj, h.ij⟩
theorem Gs.fin {H X : List Blk} {p t : Nat} {code : AV} {u : Int} {gb i vi j vj k : Nat} {cols : List Int} {fs : List (Int × Int)} (h : Gs H X p code t u gb i vi j vj k cols fs) (hB : ∀ t u, HB (H.set p (srcB code t u))) (hc : cols.length ≤ 1000) (hk : k ≤ 1000) (c0 : Blk) :
    GR H (fun r H' => ∃ (u' : Int) (t' : Nat) (cols : List Int) (es : List (Int × Int)), r = .agg [ilS cols, ilE es] ∧ H' = H.set p (srcB code t' u') ∧ cols.length ≤ 1000 ∧ es.length ≤ 1000) (.agg [.nm i vi 0 cols.length, .nm j vj 0 k]) (X.set H.length c0) := by
  have h1 := h.hi
  have h2 := h.hj
  have h3 := h.hk
  have hmi : (X.set H.length c0)[i]? = some ⟨vi, 2, 1, cols.map I⟩ := by rw [List.getElem?_set_ne (by omega)]; exact h.mi
  have hmj : (X.set H.length c0)[j]? = some ⟨vj, tyE, 2, flatE fs⟩ := by rw [List.getElem?_set_ne (by omega)]; exact h.mj
  obtain ⟨ext, he⟩ := (h.d.set (Nat.le_refl _) c0).ext
  rw [he] at hmi hmj ⊢
  refine GR.frozH (H0 := H) (H1 := H.set p (srcB code t u)) (r' := .agg [ilS cols, ilE (fs.take k)]) (by simp) (hB _ _) (froz_agg2 (froz_rowI (by omega) hmi) ?_) ⟨u, t, cols, fs.take k, rfl, rfl, hc, by rw [List.length_take]; omega⟩
  exact froz_edgesK (by omega) hmj h3
theorem l21Draw_ok (H : List Blk) (p : Nat) (code : AV) (ns : List Int) (t : Nat) (u : Int) (hp : H[p]? = some (srcB code t u)) (hc : CodeOk code ns) (hcb : ∀ k, Bel k code) (ht : t ≤ 600000000) :
    ACalls Tryz.prog f_spec_l21Draw [.pc p 0 0] H (fun r H' => ∃ (u' : Int) (t' : Nat) (cols : List Int) (es : List (Int × Int)), r = .agg [ilS cols, ilE es] ∧ H' = H.set p (srcB code t' u') ∧ cols.length ≤ 1000 ∧ es.length ≤ 1000) := by
  refine ACalls.introB s_spec_l21Draw (by simp) ?_; intro hB hA; unfold c_spec_l21Draw; simp (config := { maxSteps := 1000000 }) (disch := (first | omega | (simp only [go_sem]; try omega))) only [go_sem, Nat.reduceAdd, Nat.reduceEqDiff, Nat.reduceLeDiff, Nat.reduceMul, Nat.reduceLT, reduceIte, Int.reduceToNat, w64_id, cast_succ]
  have hd := Dw.start hp
  have hlt := hd.lt
  have hBG := fun t u => HB_set hB (p := p) hcb t u
  repeat (first | (with_reducible first | refine SW.seq ?_ | refine SW.block ?_ | refine SW.rowC ?_ | refine SW.skip ?_ | refine SW.exit ?_ | intro _ | refine And.intro (by omega) ?_) | simp (config := { maxSteps := 1000000 }) (disch := (first | omega | (simp only [go_sem]; try omega))) only [go_sem, Nat.reduceAdd, Nat.reduceEqDiff, Nat.reduceLeDiff, Nat.reduceMul, Nat.reduceLT, reduceIte, Int.reduceToNat, w64_id, cast_succ])
  refine (pick_ok _ p code ns t u 9 (hd.app _).src hc (by omega)).mono ?_
  rintro r X ⟨x, u1, t1, rfl, x0, x1, ht1, rfl⟩
  have hX := (hd.app [(⟨0, tyGr, 1, [nilS, nilS]⟩ : Blk)]).draw t1 u1
  have m0 : ((H ++ [(⟨0, tyGr, 1, [nilS, nilS]⟩ : Blk)]).set p (srcB code t1 u1))[H.length]? = some ⟨0, tyGr, 1, [nilS, nilS]⟩ := by rw [List.getElem?_set_ne (by omega)]; simp
  generalize (H ++ [(⟨0, tyGr, 1, [nilS, nilS]⟩ : Blk)]).set p (srcB code t1 u1) = X at *
  repeat (first | (with_reducible first | refine SW.seq ?_ | refine SW.block ?_ | refine SW.rowC ?_ | refine SW.skip ?_ | refine SW.exit ?_ | intro _ | refine And.intro (by omega) ?_) | simp (config := { maxSteps := 1000000 }) (disch := (first | omega | (simp only [go_sem]; try omega))) only [go_sem, Nat.reduceAdd, Nat.reduceEqDiff, Nat.reduceLeDiff, Nat.reduceMul, Nat.reduceLT, reduceIte, Int.reduceToNat, w64_id, cast_succ])
  refine (one_ok _ p code ns t1 u1 6 hX.src hc (by omega)).mono ?_
  rintro r Y ⟨b, u2, t2, rfl, ht2, rfl⟩
  replace hX := hX.draw t2 u2
  rw [← List.getElem?_set_ne (l := X) (i := p) (a := srcB code t2 u2) (by omega)] at m0
  generalize X.set p (srcB code t2 u2) = Y at *
  repeat (first | (with_reducible first | refine SW.seq ?_ | refine SW.block ?_ | refine SW.rowC ?_ | refine SW.skip ?_ | refine SW.exit ?_ | intro _ | refine And.intro (by omega) ?_) | simp (config := { maxSteps := 1000000 }) (disch := (first | omega | (simp only [go_sem]; try omega))) only [go_sem, Nat.reduceAdd, Nat.reduceEqDiff, Nat.reduceLeDiff, Nat.reduceMul, Nat.reduceLT, reduceIte, Int.reduceToNat, w64_id, cast_succ])
  refine SW.thenZ (fun E' X => ∃ (n t' : Nat) (u' : Int), n ≤ 64 ∧ keep [0, 2, 3] E' = [(0, .pc p 0 0), (2, .pc H.length 0 0), (3, I n)] ∧ Dw H X p code t' u' ∧ X[H.length]? = some ⟨0, tyGr, 1, [nilS, nilS]⟩ ∧ t' ≤ t + 8) ?_ ?_
  · cases b
    · refine SW.condF rfl ?_
      repeat (first | (with_reducible first | refine SW.seq ?_ | refine SW.block ?_ | refine SW.rowC ?_ | refine SW.skip ?_ | refine SW.exit ?_ | intro _ | refine And.intro (by omega) ?_) | simp (config := { maxSteps := 1000000 }) (disch := (first | omega | (simp only [go_sem]; try omega))) only [go_sem, Nat.reduceAdd, Nat.reduceEqDiff, Nat.reduceLeDiff, Nat.reduceMul, Nat.reduceLT, reduceIte, Int.reduceToNat, w64_id, cast_succ])
      exact ⟨x.toNat, t2, u2, by omega, by rw [Int.toNat_of_nonneg x0], hX, m0, by omega⟩
    · refine SW.condT rfl ?_
      have hXl := (List.getElem?_eq_some_iff.1 m0).1
      have ha : ∀ t u, aview ((Y ++ [(⟨0, 2, 1, [I 16, I 24, I 40, I 64]⟩ : Blk)]).set p (srcB code t u)) (.nm Y.length 0 0 4) = some (4, [(16 : Int), 24, 40, 64].map I) := fun t u => by
        simp only [aview]
        rw [List.getElem?_set_ne (by omega), List.getElem?_append_right (Nat.le_refl _), Nat.sub_self]
        rfl
      repeat (first | (with_reducible first | refine SW.seq ?_ | refine SW.block ?_ | refine SW.rowC ?_ | refine SW.skip ?_ | refine SW.exit ?_ | intro _ | refine And.intro (by omega) ?_) | simp (config := { maxSteps := 1000000 }) (disch := (first | omega | (simp only [go_sem]; try omega))) only [go_sem, Nat.reduceAdd, Nat.reduceEqDiff, Nat.reduceLeDiff, Nat.reduceMul, Nat.reduceLT, reduceIte, Int.reduceToNat, w64_id, cast_succ])
      refine (among_ok _ p code ns t2 u2 _ [16, 24, 40, 64] (hX.app _).src hc (by omega) ha (by simp)).mono ?_
      rintro r Z ⟨z, u3, t3, rfl, hz, ht3, rfl⟩
      have hz2 : 0 ≤ z ∧ z ≤ 64 := by simp at hz; omega
      repeat (first | (with_reducible first | refine SW.seq ?_ | refine SW.block ?_ | refine SW.rowC ?_ | refine SW.skip ?_ | refine SW.exit ?_ | intro _ | refine And.intro (by omega) ?_) | simp (config := { maxSteps := 1000000 }) (disch := (first | omega | (simp only [go_sem]; try omega))) only [go_sem, Nat.reduceAdd, Nat.reduceEqDiff, Nat.reduceLeDiff, Nat.reduceMul, Nat.reduceLT, reduceIte, Int.reduceToNat, w64_id, cast_succ])
      exact ⟨z.toNat, t3, u3, by omega, by rw [Int.toNat_of_nonneg hz2.1], (hX.app _).draw t3 u3, by rw [List.getElem?_set_ne (by omega)]; exact get_appU m0 _, by omega⟩
  clear hX m0 ht2 ht1 x0 x1
  rintro E' X ⟨n, t2, u2, hn, hE', hX, m0, ht2⟩
  refine SW.keepZ [0, 2, 3] ?_
  rw [hE']
  repeat (first | (with_reducible first | refine SW.seq ?_ | refine SW.block ?_ | refine SW.rowC ?_ | refine SW.skip ?_ | refine SW.exit ?_ | intro _ | refine And.intro (by omega) ?_) | simp (config := { maxSteps := 1000000 }) (disch := (first | omega | (simp only [go_sem]; try omega))) only [go_sem, Nat.reduceAdd, Nat.reduceEqDiff, Nat.reduceLeDiff, Nat.reduceMul, Nat.reduceLT, reduceIte, Int.reduceToNat, w64_id, cast_succ])
  refine (l21DrawSize_ok X p code ns t2 u2 n hX.src hc (by omega) hn).mono ?_
  rintro r Y ⟨u3, t3, i, vi, j, vj, k, cols, fs, hY0, rfl, ht3, hi, hj, hij, mi, hcl, mj, hk, hk5⟩
  subst hcl
  have hd1 := hX.trans hY0
  have n0 : Y[H.length]? = some ⟨0, tyGr, 1, [nilS, nilS]⟩ := by
    have hl0 := (List.getElem?_eq_some_iff.1 m0).1
    rw [hY0.fr _ hl0, List.getElem?_set_ne (by omega)]; exact m0
  have hXl := (List.getElem?_eq_some_iff.1 m0).1
  have hil := (List.getElem?_eq_some_iff.1 mi).1
  have hjl := (List.getElem?_eq_some_iff.1 mj).1
  have hG : Gs H (Y ++ [(⟨0, tyGr, 1, [.nm i vi 0 cols.length, .nm j vj 0 k]⟩ : Blk)]) p code t3 u3 Y.length i vi j vj k cols fs := ⟨hd1.app _, get_appU n0 _, by simp, get_appU mi _, get_appU mj _, hk, by omega, by omega, by omega, by omega, by omega, hij⟩
  clear n0 m0 hX hY0 mi mj hd1
  repeat (first | (with_reducible first | refine SW.seq ?_ | refine SW.block ?_ | refine SW.rowC ?_ | refine SW.skip ?_ | refine SW.exit ?_ | intro _ | refine And.intro (by omega) ?_) | simp (config := { maxSteps := 1000000 }) (disch := (first | omega | (simp only [go_sem]; try omega))) only [go_sem, Nat.reduceAdd, Nat.reduceEqDiff, Nat.reduceLeDiff, Nat.reduceMul, Nat.reduceLT, reduceIte, Int.reduceToNat, w64_id, cast_succ])
  generalize Y.length = gb at *
  generalize Y ++ [(⟨0, tyGr, 1, [.nm i vi 0 cols.length, .nm j vj 0 k]⟩ : Blk)] = X at *
  refine (pick_ok _ p code ns t3 u3 12 hG.d.src hc (by omega)).mono ?_
  rintro r Y ⟨x, u4, t4, rfl, x0, x1, ht4, rfl⟩
  replace hG := hG.draw t4 u4
  generalize X.set p (srcB code t4 u4) = Y at *
  repeat (first | (with_reducible first | refine SW.seq ?_ | refine SW.block ?_ | refine SW.rowC ?_ | refine SW.skip ?_ | refine SW.exit ?_ | intro _ | refine And.intro (by omega) ?_) | simp (config := { maxSteps := 1000000 }) (disch := (first | omega | (simp only [go_sem]; try omega))) only [go_sem, Nat.reduceAdd, Nat.reduceEqDiff, Nat.reduceLeDiff, Nat.reduceMul, Nat.reduceLT, reduceIte, Int.reduceToNat, w64_id, cast_succ])
  have hkl := hG.hk
  have finA : ∀ {Y : List Blk} {t4 : Nat} {u4 : Int} {i vi j vj k : Nat} {cols : List Int} {fs : List (Int × Int)}, Gs H Y p code t4 u4 gb i vi j vj k cols fs → cols.length ≤ 1000 → k ≤ 1000 →
      FunPost [RV.cell 2 2] H (fun r H' => ∃ (u' : Int) (t' : Nat) (cols : List Int) (es : List (Int × Int)), r = .agg [ilS cols, ilE es] ∧ H' = H.set p (srcB code t' u') ∧ cols.length ≤ 1000 ∧ es.length ≤ 1000) (.ret) [(2, .pc H.length 0 0)] (Y.set H.length ⟨0, tyGr, 1, [.nm i vi 0 cols.length, .nm j vj 0 k]⟩) := fun {Y t4 u4 i vi j vj k cols fs} hG h1 h2 => by
    have hl0 := (List.getElem?_eq_some_iff.1 hG.m0).1
    have c0 : (Y.set H.length ⟨0, tyGr, 1, [.nm i vi 0 cols.length, .nm j vj 0 k]⟩)[H.length]? = some ⟨0, tyGr, 1, [.nm i vi 0 cols.length, .nm j vj 0 k]⟩ := List.getElem?_set_self hl0
    exact FunPost.cell (cs := [.nm i vi 0 cols.length, .nm j vj 0 k]) (by simp (config := { maxSteps := 1000000 }) (disch := (first | omega | (simp only [go_sem]; try omega))) only [go_sem, Nat.reduceAdd, Nat.reduceEqDiff, Nat.reduceLeDiff, Nat.reduceMul, Nat.reduceLT, reduceIte, Int.reduceToNat, w64_id, cast_succ, pc_lds c0]) (hG.fin hBG h1 h2 _)
  by_cases e0 : x = 0
  · rw [decide_eq_true e0]
    refine SW.condT rfl ?_
    repeat (first | (with_reducible first | refine SW.seq ?_ | refine SW.block ?_ | refine SW.rowC ?_ | refine SW.skip ?_ | refine SW.exit ?_ | intro _ | refine And.intro (by omega) ?_) | simp (config := { maxSteps := 1000000 }) (disch := (first | omega | (simp only [go_sem]; try omega))) only [go_sem, Nat.reduceAdd, Nat.reduceEqDiff, Nat.reduceLeDiff, Nat.reduceMul, Nat.reduceLT, reduceIte, Int.reduceToNat, w64_id, cast_succ])
    refine (pick_ok _ p code ns t4 u4 ((cols.length + 1 : Nat) : Int) hG.d.src hc (by omega)).mono ?_
    rintro r X ⟨a, u5, t5, rfl, a0, a1, ht5, rfl⟩
    replace hG := hG.draw t5 u5
    generalize Y.set p (srcB code t5 u5) = X at *
    repeat (first | (with_reducible first | refine SW.seq ?_ | refine SW.block ?_ | refine SW.rowC ?_ | refine SW.skip ?_ | refine SW.exit ?_ | intro _ | refine And.intro (by omega) ?_) | simp (config := { maxSteps := 1000000 }) (disch := (first | omega | (simp only [go_sem]; try omega))) only [go_sem, Nat.reduceAdd, Nat.reduceEqDiff, Nat.reduceLeDiff, Nat.reduceMul, Nat.reduceLT, reduceIte, Int.reduceToNat, w64_id, cast_succ])
    refine (pick_ok _ p code ns t5 u5 ((cols.length + 2 : Nat) : Int) hG.d.src hc (by omega)).mono ?_
    rintro r Y ⟨b, u6, t6, rfl, b0, b1, ht6, rfl⟩
    replace hG := hG.draw t6 u6
    generalize X.set p (srcB code t6 u6) = Y at *
    have nm2 : ∀ (ty : Nat) (a b : AV), NmV 0 0 1 (some ⟨0, ty, 2, [a, b]⟩) = some (1, [a, b]) := fun ty a b => by simp [NmV]
    repeat (first | (with_reducible first | refine SW.seq ?_ | refine SW.block ?_ | refine SW.rowC ?_ | refine SW.skip ?_ | refine SW.exit ?_ | intro _ | refine And.intro (by omega) ?_) | simp (config := { maxSteps := 1000000 }) (disch := (first | omega | (simp only [go_sem]; try omega))) only [go_sem, Nat.reduceAdd, Nat.reduceEqDiff, Nat.reduceLeDiff, Nat.reduceMul, Nat.reduceLT, reduceIte, Int.reduceToNat, w64_id, cast_succ, pc_alive hG.mg, pc_ld hG.mg, nm2])
    refine appNG (get_appU hG.mj _) (by rw [flatE_length]; omega) (by omega) (by omega) ?_
    rw [flatE_take, show flatE (fs.take k) ++ [I a, I (b - 1)] = flatE (fs.take k ++ [(a, b - 1)]) by rw [flatE_snoc]]
    have hZ := (hG.app [(⟨0, tyE, 2, [I a, I (b - 1)]⟩ : Blk)]).newE (vj + 1) (k + 1) (fs.take k ++ [(a, b - 1)]) (by simp; omega)
    have mg2 : ((Y ++ [(⟨0, tyE, 2, [I a, I (b - 1)]⟩ : Blk)]).set j ⟨vj + 1, tyE, 2, flatE (fs.take k ++ [(a, b - 1)])⟩)[gb]? = some ⟨0, tyGr, 1, [.nm i vi 0 cols.length, .nm j vj 0 k]⟩ := by
      rw [List.getElem?_set_ne (Ne.symm hG.gj)]; exact get_appU hG.mg _
    repeat (first | (with_reducible first | refine SW.seq ?_ | refine SW.block ?_ | refine SW.rowC ?_ | refine SW.skip ?_ | refine SW.exit ?_ | intro _ | refine And.intro (by omega) ?_) | simp (config := { maxSteps := 1000000 }) (disch := (first | omega | (simp only [go_sem]; try omega))) only [go_sem, Nat.reduceAdd, Nat.reduceEqDiff, Nat.reduceLeDiff, Nat.reduceMul, Nat.reduceLT, reduceIte, Int.reduceToNat, w64_id, cast_succ, pc_alive mg2, pc_ld mg2])
    rw [pc_st mg2 (by simp)]
    repeat (first | (with_reducible first | refine SW.seq ?_ | refine SW.block ?_ | refine SW.rowC ?_ | refine SW.skip ?_ | refine SW.exit ?_ | intro _ | refine And.intro (by omega) ?_) | simp (config := { maxSteps := 1000000 }) (disch := (first | omega | (simp only [go_sem]; try omega))) only [go_sem, Nat.reduceAdd, Nat.reduceEqDiff, Nat.reduceLeDiff, Nat.reduceMul, Nat.reduceLT, reduceIte, Int.reduceToNat, w64_id, cast_succ])
    repeat (first | (with_reducible first | refine SW.seq ?_ | refine SW.block ?_ | refine SW.rowC ?_ | refine SW.skip ?_ | refine SW.exit ?_ | intro _ | refine And.intro (by omega) ?_) | simp (config := { maxSteps := 1000000 }) (disch := (first | omega | (simp only [go_sem]; try omega))) only [go_sem, Nat.reduceAdd, Nat.reduceEqDiff, Nat.reduceLeDiff, Nat.reduceMul, Nat.reduceLT, reduceIte, Int.reduceToNat, w64_id, cast_succ, pc_lds (hZ).mg, pc_alive (hZ).mg])
    rw [pc_st (hZ).m0 (by simp)]
    repeat (first | (with_reducible first | refine SW.seq ?_ | refine SW.block ?_ | refine SW.rowC ?_ | refine SW.skip ?_ | refine SW.exit ?_ | intro _ | refine And.intro (by omega) ?_) | simp (config := { maxSteps := 1000000 }) (disch := (first | omega | (simp only [go_sem]; try omega))) only [go_sem, Nat.reduceAdd, Nat.reduceEqDiff, Nat.reduceLeDiff, Nat.reduceMul, Nat.reduceLT, reduceIte, Int.reduceToNat, w64_id, cast_succ])
    exact SW.ret (finA (hZ) (by omega) (by omega))
  rw [decide_eq_false e0]
  refine SW.condF rfl ?_
  by_cases e1 : x = 1
  · have c1 := decide_eq_true e1
    repeat (first | (with_reducible first | refine SW.seq ?_ | refine SW.block ?_ | refine SW.rowC ?_ | refine SW.skip ?_ | refine SW.exit ?_ | intro _ | refine And.intro (by omega) ?_) | simp (config := { maxSteps := 1000000 }) (disch := (first | omega | (simp only [go_sem]; try omega))) only [go_sem, Nat.reduceAdd, Nat.reduceEqDiff, Nat.reduceLeDiff, Nat.reduceMul, Nat.reduceLT, reduceIte, Int.reduceToNat, w64_id, cast_succ, c1])
    refine SW.condT rfl ?_
    repeat (first | (with_reducible first | refine SW.seq ?_ | refine SW.block ?_ | refine SW.rowC ?_ | refine SW.skip ?_ | refine SW.exit ?_ | intro _ | refine And.intro (by omega) ?_) | simp (config := { maxSteps := 1000000 }) (disch := (first | omega | (simp only [go_sem]; try omega))) only [go_sem, Nat.reduceAdd, Nat.reduceEqDiff, Nat.reduceLeDiff, Nat.reduceMul, Nat.reduceLT, reduceIte, Int.reduceToNat, w64_id, cast_succ])
    (first | refine SW.condD rfl (fun h2 => ?_) (fun h2 => ?_) | refine SW.condN rfl (fun h2 => ?_) (fun h2 => ?_) | refine SW.condNB rfl (fun h2 => ?_) (fun h2 => ?_) | refine SW.condB rfl (fun h2 => ?_) (fun h2 => ?_))
    · repeat (first | (with_reducible first | refine SW.seq ?_ | refine SW.block ?_ | refine SW.rowC ?_ | refine SW.skip ?_ | refine SW.exit ?_ | intro _ | refine And.intro (by omega) ?_) | simp (config := { maxSteps := 1000000 }) (disch := (first | omega | (simp only [go_sem]; try omega))) only [go_sem, Nat.reduceAdd, Nat.reduceEqDiff, Nat.reduceLeDiff, Nat.reduceMul, Nat.reduceLT, reduceIte, Int.reduceToNat, w64_id, cast_succ])
      refine (pick_ok _ p code ns t4 u4 ((cols.length : Nat) : Int) hG.d.src hc (by omega)).mono ?_
      rintro r X ⟨a, u5, t5, rfl, a0, a1, ht5, rfl⟩
      replace hG := hG.draw t5 u5
      generalize Y.set p (srcB code t5 u5) = X at *
      repeat (first | (with_reducible first | refine SW.seq ?_ | refine SW.block ?_ | refine SW.rowC ?_ | refine SW.skip ?_ | refine SW.exit ?_ | intro _ | refine And.intro (by omega) ?_) | simp (config := { maxSteps := 1000000 }) (disch := (first | omega | (simp only [go_sem]; try omega))) only [go_sem, Nat.reduceAdd, Nat.reduceEqDiff, Nat.reduceLeDiff, Nat.reduceMul, Nat.reduceLT, reduceIte, Int.reduceToNat, w64_id, cast_succ])
      have ha5 : a < cols.length := by omega
      obtain ⟨a, rfl⟩ := Int.eq_ofNat_of_zero_le a0
      replace ha5 : a < cols.length := by omega
      refine SW.mixR (fun E' Z => ∃ (t' : Nat) (u' : Int) (cols' : List Int), keep [2, 4] E' = [(2, .pc H.length 0 0), (4, .pc gb 0 0)] ∧ Gs H Z p code t' u' gb i vi j vj k cols' fs ∧ cols'.length = cols.length ∧ t' ≤ t5 + 2) ?_ ?_
      · have hva := hG.cv
        have hvb := fun ext => (hG.app ext).cv
        have hqa := fun o => pc_alive (off := o) hG.mg
        have hqb := fun o ext => pc_alive (off := o) (hG.app ext).mg
        have hla := fun o => pc_ld (off := o) hG.mg
        have hlb := fun o ext => pc_ld (off := o) (hG.app ext).mg
        simp (config := { maxSteps := 1000000 }) (disch := (first | omega | (simp only [go_sem]; try omega))) only [go_sem, Nat.reduceAdd, Nat.reduceEqDiff, Nat.reduceLeDiff, Nat.reduceMul, Nat.reduceLT, reduceIte, Int.reduceToNat, w64_id, cast_succ, hva, hvb, hqa, hqb, hla, hlb]
        have hva3 : ∀ t u, aview ((X ++ [(⟨0, 2, 1, [I (-1), I 63, I 64]⟩ : Blk)]).set p (srcB code t u)) (.nm X.length 0 0 3) = some (3, [(-1 : Int), 63, 64].map I) := fun t u => by
          have h1 := hG.d.lt
          have h2 := hG.d.ln
          simp only [aview]
          rw [List.getElem?_set_ne (by omega), List.getElem?_append_right (Nat.le_refl _), Nat.sub_self]
          rfl
        repeat' (with_reducible refine And.intro ?_ ?_)
        all_goals
          refine (among_ok _ p code ns t5 u5 _ [-1, 63, 64] (hG.app _).d.src hc (by omega) hva3 (by simp)).mono ?_
          rintro r Z ⟨z, u6, t6, rfl, hz, ht6, rfl⟩
          have hG3 := (hG.app [(⟨0, 2, 1, [I (-1), I 63, I 64]⟩ : Blk)]).draw t6 u6
          generalize (X ++ [(⟨0, 2, 1, [I (-1), I 63, I 64]⟩ : Blk)]).set p (srcB code t6 u6) = Z at *
          have w3 := store_nm (c := I z) (n := cols.length) hG3.mi (i := a) (by simpa using ha5)
          have fin : Gs H (Z.set i ⟨vi, 2, 1, (cols.set a z).map I⟩) p code t6 u6 gb i vi j vj k (cols.set a z) fs := by
            rw [List.map_set]; exact hG3.setC a z
          have v3 := hG3.cv
          have q3 := fun o => pc_alive (off := o) hG3.mg
          have l3 := fun o => pc_ld (off := o) hG3.mg
          simp (config := { maxSteps := 1000000 }) (disch := (first | omega | (simp only [go_sem]; try omega))) only [go_sem, Nat.reduceAdd, Nat.reduceEqDiff, Nat.reduceLeDiff, Nat.reduceMul, Nat.reduceLT, reduceIte, Int.reduceToNat, w64_id, cast_succ, v3, q3, l3, w3]
          exact ⟨t6, u6, _, fin, by simp, by omega⟩
      · rintro E' Z ⟨t6, u6, cols', hE', hZ, hcl', ht6⟩
        rw [hE']
        repeat (first | (with_reducible first | refine SW.seq ?_ | refine SW.block ?_ | refine SW.rowC ?_ | refine SW.skip ?_ | refine SW.exit ?_ | intro _ | refine And.intro (by omega) ?_) | simp (config := { maxSteps := 1000000 }) (disch := (first | omega | (simp only [go_sem]; try omega))) only [go_sem, Nat.reduceAdd, Nat.reduceEqDiff, Nat.reduceLeDiff, Nat.reduceMul, Nat.reduceLT, reduceIte, Int.reduceToNat, w64_id, cast_succ])
        repeat (first | (with_reducible first | refine SW.seq ?_ | refine SW.block ?_ | refine SW.rowC ?_ | refine SW.skip ?_ | refine SW.exit ?_ | intro _ | refine And.intro (by omega) ?_) | simp (config := { maxSteps := 1000000 }) (disch := (first | omega | (simp only [go_sem]; try omega))) only [go_sem, Nat.reduceAdd, Nat.reduceEqDiff, Nat.reduceLeDiff, Nat.reduceMul, Nat.reduceLT, reduceIte, Int.reduceToNat, w64_id, cast_succ, pc_lds (hZ).mg, pc_alive (hZ).mg])
        rw [pc_st (hZ).m0 (by simp)]
        repeat (first | (with_reducible first | refine SW.seq ?_ | refine SW.block ?_ | refine SW.rowC ?_ | refine SW.skip ?_ | refine SW.exit ?_ | intro _ | refine And.intro (by omega) ?_) | simp (config := { maxSteps := 1000000 }) (disch := (first | omega | (simp only [go_sem]; try omega))) only [go_sem, Nat.reduceAdd, Nat.reduceEqDiff, Nat.reduceLeDiff, Nat.reduceMul, Nat.reduceLT, reduceIte, Int.reduceToNat, w64_id, cast_succ])
        exact SW.ret (finA (hZ) (by omega) (by omega))
    · repeat (first | (with_reducible first | refine SW.seq ?_ | refine SW.block ?_ | refine SW.rowC ?_ | refine SW.skip ?_ | refine SW.exit ?_ | intro _ | refine And.intro (by omega) ?_) | simp (config := { maxSteps := 1000000 }) (disch := (first | omega | (simp only [go_sem]; try omega))) only [go_sem, Nat.reduceAdd, Nat.reduceEqDiff, Nat.reduceLeDiff, Nat.reduceMul, Nat.reduceLT, reduceIte, Int.reduceToNat, w64_id, cast_succ])
      repeat (first | (with_reducible first | refine SW.seq ?_ | refine SW.block ?_ | refine SW.rowC ?_ | refine SW.skip ?_ | refine SW.exit ?_ | intro _ | refine And.intro (by omega) ?_) | simp (config := { maxSteps := 1000000 }) (disch := (first | omega | (simp only [go_sem]; try omega))) only [go_sem, Nat.reduceAdd, Nat.reduceEqDiff, Nat.reduceLeDiff, Nat.reduceMul, Nat.reduceLT, reduceIte, Int.reduceToNat, w64_id, cast_succ, pc_lds (hG).mg, pc_alive (hG).mg])
      rw [pc_st (hG).m0 (by simp)]
      repeat (first | (with_reducible first | refine SW.seq ?_ | refine SW.block ?_ | refine SW.rowC ?_ | refine SW.skip ?_ | refine SW.exit ?_ | intro _ | refine And.intro (by omega) ?_) | simp (config := { maxSteps := 1000000 }) (disch := (first | omega | (simp only [go_sem]; try omega))) only [go_sem, Nat.reduceAdd, Nat.reduceEqDiff, Nat.reduceLeDiff, Nat.reduceMul, Nat.reduceLT, reduceIte, Int.reduceToNat, w64_id, cast_succ])
      exact SW.ret (finA (hG) (by omega) (by omega))
  have c1 := decide_eq_false e1
  repeat (first | (with_reducible first | refine SW.seq ?_ | refine SW.block ?_ | refine SW.rowC ?_ | refine SW.skip ?_ | refine SW.exit ?_ | intro _ | refine And.intro (by omega) ?_) | simp (config := { maxSteps := 1000000 }) (disch := (first | omega | (simp only [go_sem]; try omega))) only [go_sem, Nat.reduceAdd, Nat.reduceEqDiff, Nat.reduceLeDiff, Nat.reduceMul, Nat.reduceLT, reduceIte, Int.reduceToNat, w64_id, cast_succ, c1])
  refine SW.condF rfl ?_
  by_cases e2 : x = 2
  · have c2 := decide_eq_true e2
    repeat (first | (with_reducible first | refine SW.seq ?_ | refine SW.block ?_ | refine SW.rowC ?_ | refine SW.skip ?_ | refine SW.exit ?_ | intro _ | refine And.intro (by omega) ?_) | simp (config := { maxSteps := 1000000 }) (disch := (first | omega | (simp only [go_sem]; try omega))) only [go_sem, Nat.reduceAdd, Nat.reduceEqDiff, Nat.reduceLeDiff, Nat.reduceMul, Nat.reduceLT, reduceIte, Int.reduceToNat, w64_id, cast_succ, c2])
    refine SW.condT rfl ?_
    have eva0 := hG.ev
    repeat (first | (with_reducible first | refine SW.seq ?_ | refine SW.block ?_ | refine SW.rowC ?_ | refine SW.skip ?_ | refine SW.exit ?_ | intro _ | refine And.intro (by omega) ?_) | simp (config := { maxSteps := 1000000 }) (disch := (first | omega | (simp only [go_sem]; try omega))) only [go_sem, Nat.reduceAdd, Nat.reduceEqDiff, Nat.reduceLeDiff, Nat.reduceMul, Nat.reduceLT, reduceIte, Int.reduceToNat, w64_id, cast_succ, pc_alive hG.mg, pc_ld hG.mg, eva0])
    (first | refine SW.condD rfl (fun h2 => ?_) (fun h2 => ?_) | refine SW.condN rfl (fun h2 => ?_) (fun h2 => ?_) | refine SW.condNB rfl (fun h2 => ?_) (fun h2 => ?_) | refine SW.condB rfl (fun h2 => ?_) (fun h2 => ?_))
    · obtain ⟨y0, y1, ys, rfl⟩ : ∃ y0 y1 ys, fs = y0 :: y1 :: ys := by
        match fs, hkl with
        | [], h => simp at h; omega
        | [_], h => simp at h; omega
        | a :: b :: c, _ => exact ⟨a, b, c, rfl⟩
      obtain ⟨k2, rfl⟩ : ∃ k2, k = k2 + 2 := ⟨k - 2, by omega⟩
      have l1 : acells Y 2 (.el (.nm j vj 0 (k2 + 2)) 2) = some [I y1.1, I y1.2] := by
        have hrd : RdE Y (.nm j vj 0 (k2 + 2)) ((y0 :: y1 :: ys).take (k2 + 2)) := by
          unfold RdE
          rw [List.length_take, Nat.min_eq_left hkl]; exact eva0
        exact hrd.ld (j := 1) (by simp)
      have w1 : astore Y [I y1.1, I y1.2] (.el (.nm j vj 0 (k2 + 2)) 0) = some (Y.set j ⟨vj, tyE, 2, flatE (y1 :: y1 :: ys)⟩) := by
        simp only [astore, hG.mj]
        rw [if_pos ⟨trivial, by simp [flatE]⟩]
        rfl
      have hG2 : Gs H (Y.set j ⟨vj, tyE, 2, flatE (y1 :: y1 :: ys)⟩) p code t4 u4 gb i vi j vj (k2 + 2) cols (y1 :: y1 :: ys) := hG.setE _ (by simpa using hkl)
      repeat (first | (with_reducible first | refine SW.seq ?_ | refine SW.block ?_ | refine SW.rowC ?_ | refine SW.skip ?_ | refine SW.exit ?_ | intro _ | refine And.intro (by omega) ?_) | simp (config := { maxSteps := 1000000 }) (disch := (first | omega | (simp only [go_sem]; try omega))) only [go_sem, Nat.reduceAdd, Nat.reduceEqDiff, Nat.reduceLeDiff, Nat.reduceMul, Nat.reduceLT, reduceIte, Int.reduceToNat, w64_id, cast_succ, pc_alive hG.mg, pc_ld hG.mg, eva0, l1, w1])
      repeat (first | (with_reducible first | refine SW.seq ?_ | refine SW.block ?_ | refine SW.rowC ?_ | refine SW.skip ?_ | refine SW.exit ?_ | intro _ | refine And.intro (by omega) ?_) | simp (config := { maxSteps := 1000000 }) (disch := (first | omega | (simp only [go_sem]; try omega))) only [go_sem, Nat.reduceAdd, Nat.reduceEqDiff, Nat.reduceLeDiff, Nat.reduceMul, Nat.reduceLT, reduceIte, Int.reduceToNat, w64_id, cast_succ, pc_lds (hG2).mg, pc_alive (hG2).mg])
      rw [pc_st (hG2).m0 (by simp)]
      repeat (first | (with_reducible first | refine SW.seq ?_ | refine SW.block ?_ | refine SW.rowC ?_ | refine SW.skip ?_ | refine SW.exit ?_ | intro _ | refine And.intro (by omega) ?_) | simp (config := { maxSteps := 1000000 }) (disch := (first | omega | (simp only [go_sem]; try omega))) only [go_sem, Nat.reduceAdd, Nat.reduceEqDiff, Nat.reduceLeDiff, Nat.reduceMul, Nat.reduceLT, reduceIte, Int.reduceToNat, w64_id, cast_succ])
      exact SW.ret (finA (hG2) (by omega) (by omega))
    · repeat (first | (with_reducible first | refine SW.seq ?_ | refine SW.block ?_ | refine SW.rowC ?_ | refine SW.skip ?_ | refine SW.exit ?_ | intro _ | refine And.intro (by omega) ?_) | simp (config := { maxSteps := 1000000 }) (disch := (first | omega | (simp only [go_sem]; try omega))) only [go_sem, Nat.reduceAdd, Nat.reduceEqDiff, Nat.reduceLeDiff, Nat.reduceMul, Nat.reduceLT, reduceIte, Int.reduceToNat, w64_id, cast_succ, pc_alive hG.mg, pc_ld hG.mg])
      repeat (first | (with_reducible first | refine SW.seq ?_ | refine SW.block ?_ | refine SW.rowC ?_ | refine SW.skip ?_ | refine SW.exit ?_ | intro _ | refine And.intro (by omega) ?_) | simp (config := { maxSteps := 1000000 }) (disch := (first | omega | (simp only [go_sem]; try omega))) only [go_sem, Nat.reduceAdd, Nat.reduceEqDiff, Nat.reduceLeDiff, Nat.reduceMul, Nat.reduceLT, reduceIte, Int.reduceToNat, w64_id, cast_succ, pc_lds (hG).mg, pc_alive (hG).mg])
      rw [pc_st (hG).m0 (by simp)]
      repeat (first | (with_reducible first | refine SW.seq ?_ | refine SW.block ?_ | refine SW.rowC ?_ | refine SW.skip ?_ | refine SW.exit ?_ | intro _ | refine And.intro (by omega) ?_) | simp (config := { maxSteps := 1000000 }) (disch := (first | omega | (simp only [go_sem]; try omega))) only [go_sem, Nat.reduceAdd, Nat.reduceEqDiff, Nat.reduceLeDiff, Nat.reduceMul, Nat.reduceLT, reduceIte, Int.reduceToNat, w64_id, cast_succ])
      exact SW.ret (finA (hG) (by omega) (by omega))
  have c2 := decide_eq_false e2
  repeat (first | (with_reducible first | refine SW.seq ?_ | refine SW.block ?_ | refine SW.rowC ?_ | refine SW.skip ?_ | refine SW.exit ?_ | intro _ | refine And.intro (by omega) ?_) | simp (config := { maxSteps := 1000000 }) (disch := (first | omega | (simp only [go_sem]; try omega))) only [go_sem, Nat.reduceAdd, Nat.reduceEqDiff, Nat.reduceLeDiff, Nat.reduceMul, Nat.reduceLT, reduceIte, Int.reduceToNat, w64_id, cast_succ, c2])
  refine SW.condF rfl ?_
  by_cases e3 : x = 3
  · have c3 := decide_eq_true e3
    repeat (first | (with_reducible first | refine SW.seq ?_ | refine SW.block ?_ | refine SW.rowC ?_ | refine SW.skip ?_ | refine SW.exit ?_ | intro _ | refine And.intro (by omega) ?_) | simp (config := { maxSteps := 1000000 }) (disch := (first | omega | (simp only [go_sem]; try omega))) only [go_sem, Nat.reduceAdd, Nat.reduceEqDiff, Nat.reduceLeDiff, Nat.reduceMul, Nat.reduceLT, reduceIte, Int.reduceToNat, w64_id, cast_succ, c3])
    refine SW.condT rfl ?_
    repeat (first | (with_reducible first | refine SW.seq ?_ | refine SW.block ?_ | refine SW.rowC ?_ | refine SW.skip ?_ | refine SW.exit ?_ | intro _ | refine And.intro (by omega) ?_) | simp (config := { maxSteps := 1000000 }) (disch := (first | omega | (simp only [go_sem]; try omega))) only [go_sem, Nat.reduceAdd, Nat.reduceEqDiff, Nat.reduceLeDiff, Nat.reduceMul, Nat.reduceLT, reduceIte, Int.reduceToNat, w64_id, cast_succ])
    refine (one_ok _ p code ns t4 u4 3 hG.d.src hc (by omega)).mono ?_
    rintro r X ⟨b, u5, t5, rfl, ht5, rfl⟩
    replace hG := hG.draw t5 u5
    generalize Y.set p (srcB code t5 u5) = X at *
    cases b
    · repeat (first | (with_reducible first | refine SW.seq ?_ | refine SW.block ?_ | refine SW.rowC ?_ | refine SW.skip ?_ | refine SW.exit ?_ | intro _ | refine And.intro (by omega) ?_) | simp (config := { maxSteps := 1000000 }) (disch := (first | omega | (simp only [go_sem]; try omega))) only [go_sem, Nat.reduceAdd, Nat.reduceEqDiff, Nat.reduceLeDiff, Nat.reduceMul, Nat.reduceLT, reduceIte, Int.reduceToNat, w64_id, cast_succ])
      refine SW.condF rfl ?_
      repeat (first | (with_reducible first | refine SW.seq ?_ | refine SW.block ?_ | refine SW.rowC ?_ | refine SW.skip ?_ | refine SW.exit ?_ | intro _ | refine And.intro (by omega) ?_) | simp (config := { maxSteps := 1000000 }) (disch := (first | omega | (simp only [go_sem]; try omega))) only [go_sem, Nat.reduceAdd, Nat.reduceEqDiff, Nat.reduceLeDiff, Nat.reduceMul, Nat.reduceLT, reduceIte, Int.reduceToNat, w64_id, cast_succ, pc_lds (hG).mg, pc_alive (hG).mg])
      rw [pc_st (hG).m0 (by simp)]
      repeat (first | (with_reducible first | refine SW.seq ?_ | refine SW.block ?_ | refine SW.rowC ?_ | refine SW.skip ?_ | refine SW.exit ?_ | intro _ | refine And.intro (by omega) ?_) | simp (config := { maxSteps := 1000000 }) (disch := (first | omega | (simp only [go_sem]; try omega))) only [go_sem, Nat.reduceAdd, Nat.reduceEqDiff, Nat.reduceLeDiff, Nat.reduceMul, Nat.reduceLT, reduceIte, Int.reduceToNat, w64_id, cast_succ])
      exact SW.ret (finA (hG) (by omega) (by omega))
    · repeat (first | (with_reducible first | refine SW.seq ?_ | refine SW.block ?_ | refine SW.rowC ?_ | refine SW.skip ?_ | refine SW.exit ?_ | intro _ | refine And.intro (by omega) ?_) | simp (config := { maxSteps := 1000000 }) (disch := (first | omega | (simp only [go_sem]; try omega))) only [go_sem, Nat.reduceAdd, Nat.reduceEqDiff, Nat.reduceLeDiff, Nat.reduceMul, Nat.reduceLT, reduceIte, Int.reduceToNat, w64_id, cast_succ])
      refine SW.condT rfl ?_
      repeat (first | (with_reducible first | refine SW.seq ?_ | refine SW.block ?_ | refine SW.rowC ?_ | refine SW.skip ?_ | refine SW.exit ?_ | intro _ | refine And.intro (by omega) ?_) | simp (config := { maxSteps := 1000000 }) (disch := (first | omega | (simp only [go_sem]; try omega))) only [go_sem, Nat.reduceAdd, Nat.reduceEqDiff, Nat.reduceLeDiff, Nat.reduceMul, Nat.reduceLT, reduceIte, Int.reduceToNat, w64_id, cast_succ])
      refine SW.loopE (fun E0 H0 m E' Z => ∃ (vi' : Nat) (cols' : List Int), E' = E0 ∧ m = 65 - cols'.length ∧ cols'.length ≤ 65 ∧ Gs H Z p code t5 u5 gb i vi' j vj k cols' fs) (65 - cols.length) ⟨vi, cols, rfl, rfl, by omega, hG⟩ ?_
      rintro m E' Z ⟨vi', cols', rfl, rfl, hc65, hZ⟩
      have hva := hZ.cv
      simp (config := { maxSteps := 1000000 }) (disch := (first | omega | (simp only [go_sem]; try omega))) only [go_sem, Nat.reduceAdd, Nat.reduceEqDiff, Nat.reduceLeDiff, Nat.reduceMul, Nat.reduceLT, reduceIte, Int.reduceToNat, w64_id, cast_succ, pc_alive hZ.mg, pc_ld hZ.mg, hva]
      repeat (first | (with_reducible first | refine SW.seq ?_ | refine SW.block ?_ | refine SW.rowC ?_ | refine SW.skip ?_ | refine SW.exit ?_ | intro _ | refine And.intro (by omega) ?_) | simp (config := { maxSteps := 1000000 }) (disch := (first | omega | (simp only [go_sem]; try omega))) only [go_sem, Nat.reduceAdd, Nat.reduceEqDiff, Nat.reduceLeDiff, Nat.reduceMul, Nat.reduceLT, reduceIte, Int.reduceToNat, w64_id, cast_succ, pc_alive hZ.mg, pc_ld hZ.mg, hva])
      (first | refine SW.condD rfl (fun h2 => ?_) (fun h2 => ?_) | refine SW.condN rfl (fun h2 => ?_) (fun h2 => ?_) | refine SW.condNB rfl (fun h2 => ?_) (fun h2 => ?_) | refine SW.condB rfl (fun h2 => ?_) (fun h2 => ?_))
      · repeat (first | (with_reducible first | refine SW.seq ?_ | refine SW.block ?_ | refine SW.rowC ?_ | refine SW.skip ?_ | refine SW.exit ?_ | intro _ | refine And.intro (by omega) ?_) | simp (config := { maxSteps := 1000000 }) (disch := (first | omega | (simp only [go_sem]; try omega))) only [go_sem, Nat.reduceAdd, Nat.reduceEqDiff, Nat.reduceLeDiff, Nat.reduceMul, Nat.reduceLT, reduceIte, Int.reduceToNat, w64_id, cast_succ, pc_alive hZ.mg, pc_ld hZ.mg])
        refine appNG (get_appU hZ.mi _) (by simp) (by omega) (by omega) ?_
        have hZ2 := (hZ.app [(⟨0, 2, 1, [I 0]⟩ : Blk)]).newC (vi' + 1) (cols' ++ [0])
        have htk : ((cols'.map I).take (cols'.length * 1)) ++ [I 0] = (cols' ++ [0]).map I := by rw [List.take_of_length_le (by simp), List.map_append]; rfl
        rw [htk]
        have mg2 : ((Z ++ [(⟨0, 2, 1, [I 0]⟩ : Blk)]).set i ⟨vi' + 1, 2, 1, (cols' ++ [0]).map I⟩)[gb]? = some ⟨0, tyGr, 1, [.nm i vi' 0 cols'.length, .nm j vj 0 k]⟩ := by
          rw [List.getElem?_set_ne (Ne.symm hZ.gi)]; exact get_appU hZ.mg _
        repeat (first | (with_reducible first | refine SW.seq ?_ | refine SW.block ?_ | refine SW.rowC ?_ | refine SW.skip ?_ | refine SW.exit ?_ | intro _ | refine And.intro (by omega) ?_) | simp (config := { maxSteps := 1000000 }) (disch := (first | omega | (simp only [go_sem]; try omega))) only [go_sem, Nat.reduceAdd, Nat.reduceEqDiff, Nat.reduceLeDiff, Nat.reduceMul, Nat.reduceLT, reduceIte, Int.reduceToNat, w64_id, cast_succ, pc_alive mg2, pc_ld mg2])
        rw [pc_st mg2 (by simp)]
        repeat (first | (with_reducible first | refine SW.seq ?_ | refine SW.block ?_ | refine SW.rowC ?_ | refine SW.skip ?_ | refine SW.exit ?_ | intro _ | refine And.intro (by omega) ?_) | simp (config := { maxSteps := 1000000 }) (disch := (first | omega | (simp only [go_sem]; try omega))) only [go_sem, Nat.reduceAdd, Nat.reduceEqDiff, Nat.reduceLeDiff, Nat.reduceMul, Nat.reduceLT, reduceIte, Int.reduceToNat, w64_id, cast_succ])
        exact SLoop.next (65 - (cols'.length + 1)) (by omega) ⟨vi' + 1, cols' ++ [0], rfl, by simp, by simp; omega, by simpa using hZ2⟩
      · repeat (first | (with_reducible first | refine SW.seq ?_ | refine SW.block ?_ | refine SW.rowC ?_ | refine SW.skip ?_ | refine SW.exit ?_ | intro _ | refine And.intro (by omega) ?_) | simp (config := { maxSteps := 1000000 }) (disch := (first | omega | (simp only [go_sem]; try omega))) only [go_sem, Nat.reduceAdd, Nat.reduceEqDiff, Nat.reduceLeDiff, Nat.reduceMul, Nat.reduceLT, reduceIte, Int.reduceToNat, w64_id, cast_succ])
        repeat (first | (with_reducible first | refine SW.seq ?_ | refine SW.block ?_ | refine SW.rowC ?_ | refine SW.skip ?_ | refine SW.exit ?_ | intro _ | refine And.intro (by omega) ?_) | simp (config := { maxSteps := 1000000 }) (disch := (first | omega | (simp only [go_sem]; try omega))) only [go_sem, Nat.reduceAdd, Nat.reduceEqDiff, Nat.reduceLeDiff, Nat.reduceMul, Nat.reduceLT, reduceIte, Int.reduceToNat, w64_id, cast_succ, pc_lds (hZ).mg, pc_alive (hZ).mg])
        rw [pc_st (hZ).m0 (by simp)]
        repeat (first | (with_reducible first | refine SW.seq ?_ | refine SW.block ?_ | refine SW.rowC ?_ | refine SW.skip ?_ | refine SW.exit ?_ | intro _ | refine And.intro (by omega) ?_) | simp (config := { maxSteps := 1000000 }) (disch := (first | omega | (simp only [go_sem]; try omega))) only [go_sem, Nat.reduceAdd, Nat.reduceEqDiff, Nat.reduceLeDiff, Nat.reduceMul, Nat.reduceLT, reduceIte, Int.reduceToNat, w64_id, cast_succ])
        exact SW.ret (finA (hZ) (by omega) (by omega))
  have c3 := decide_eq_false e3
  repeat (first | (with_reducible first | refine SW.seq ?_ | refine SW.block ?_ | refine SW.rowC ?_ | refine SW.skip ?_ | refine SW.exit ?_ | intro _ | refine And.intro (by omega) ?_) | simp (config := { maxSteps := 1000000 }) (disch := (first | omega | (simp only [go_sem]; try omega))) only [go_sem, Nat.reduceAdd, Nat.reduceEqDiff, Nat.reduceLeDiff, Nat.reduceMul, Nat.reduceLT, reduceIte, Int.reduceToNat, w64_id, cast_succ, c3])
  refine SW.condF rfl ?_
  repeat (first | (with_reducible first | refine SW.seq ?_ | refine SW.block ?_ | refine SW.rowC ?_ | refine SW.skip ?_ | refine SW.exit ?_ | intro _ | refine And.intro (by omega) ?_) | simp (config := { maxSteps := 1000000 }) (disch := (first | omega | (simp only [go_sem]; try omega))) only [go_sem, Nat.reduceAdd, Nat.reduceEqDiff, Nat.reduceLeDiff, Nat.reduceMul, Nat.reduceLT, reduceIte, Int.reduceToNat, w64_id, cast_succ, pc_lds (hG).mg, pc_alive (hG).mg])
  rw [pc_st (hG).m0 (by simp)]
  repeat (first | (with_reducible first | refine SW.seq ?_ | refine SW.block ?_ | refine SW.rowC ?_ | refine SW.skip ?_ | refine SW.exit ?_ | intro _ | refine And.intro (by omega) ?_) | simp (config := { maxSteps := 1000000 }) (disch := (first | omega | (simp only [go_sem]; try omega))) only [go_sem, Nat.reduceAdd, Nat.reduceEqDiff, Nat.reduceLeDiff, Nat.reduceMul, Nat.reduceLT, reduceIte, Int.reduceToNat, w64_id, cast_succ])
  exact SW.ret (finA (hG) (by omega) (by omega))
end Go.Proofs.YtdgcgckehihboaaGreatDoor
