/- Covers drawn. -/
import Derived.Test.YtnlfokkljgbaaaaProg
import Derived.KernelRfl
import Derived.Test.YtnlfokkljgbaaaazLD
import Derived.Test.YtnlfokkljgbaaaazK9
import Derived.Test.YtnlfokkljgbaaaazL5
import Derived.Test.YtnlfokkljgbaaaazK2
set_option linter.unusedSimpArgs false
set_option linter.unusedVariables false
set_option maxHeartbeats 4000000
set_option maxRecDepth 100000
namespace Go.Proofs.Ytnlfokkljgbaaaa
open Go.Av
abbrev f_spec_l24Draw : Nat := 25
def c_spec_l24Draw : SC :=
 .seq (.reg [
     ⟨(some 2), .alloc 34 [(.int .i64 0), (.slice none 0 0)], none⟩] [0, 2])
 (.seq (.seq (.reg [
     ⟨(some 8), .mv (.tmp 0), none⟩,
     ⟨(some 9), .call 21 [(.tmp 8), (.const (.int .i64 6))], none⟩] [0, 2, 9])
 (.block 0 (.seq (.reg [
      ⟨(some 11), .bin .eql (.tmp 9) (.const (.int .i64 0)), none⟩,
      ⟨(some 10), .mv (.tmp 11), none⟩] [0, 2, 9, 10])
  (.cond (.tmp 10)
   (.seq (.reg [
       ⟨(some 12), .mv (.tmp 0), none⟩,
       ⟨(some 13), .bslice 2 1 4 [(.int .i64 0), (.int .i64 0), (.int .i64 0), (.int .i64 0)] [(0, (.const (.int .i64 3))), (1, (.const (.int .i64 6))), (2, (.const (.int .i64 7))), (3, (.const (.int .i64 9)))], none⟩,
       ⟨(some 14), .call 35 [(.tmp 12), (.tmp 13)], none⟩,
       ⟨(some 15), .call 46 [(.tmp 14)], none⟩,
       ⟨none, .store 2 (.tmp 2) (.tmp 15), none⟩] [2])
   (.ret))
   (.seq (.reg [
       ⟨(some 17), .bin .eql (.tmp 9) (.const (.int .i64 1)), none⟩,
       ⟨(some 16), .mv (.tmp 17), none⟩] [0, 2, 16])
   (.cond (.tmp 16)
    (.seq (.reg [
        ⟨(some 18), .mv (.tmp 0), none⟩,
        ⟨(some 19), .call 21 [(.tmp 18), (.const (.int .i64 3))], none⟩,
        ⟨(some 20), .bin .add (.const (.int .i64 1)) (.tmp 19), none⟩,
        ⟨(some 21), .call 47 [(.tmp 20)], none⟩,
        ⟨none, .store 2 (.tmp 2) (.tmp 21), none⟩] [2])
    (.ret))
    (.skip)))))))
 (.seq (.reg [
     ⟨(some 22), .mv (.tmp 0), none⟩,
     ⟨(some 23), .call 21 [(.tmp 22), (.const (.int .i64 9))], none⟩,
     ⟨(some 24), .bin .add (.const (.int .i64 1)) (.tmp 23), none⟩,
     ⟨(some 25), .build [(.int .i64 0), (.slice none 0 0)] [(0, 1, (.tmp 24))], none⟩,
     ⟨(some 3), .alloc 34 [(.int .i64 0), (.slice none 0 0)], none⟩,
     ⟨none, .store 2 (.tmp 3) (.tmp 25), none⟩] [0, 2, 3])
 (.seq (.reg [
     ⟨(some 26), .bslice 2 1 0 [] [], none⟩,
     ⟨(some 4), .mv (.tmp 26), none⟩] [0, 2, 3, 4])
 (.seq (.seq (.reg [
     ⟨(some 5), .mv (.const (.int .i64 0)), none⟩] [0, 2, 3, 4, 5])
 (.block 1 (.loop [0, 2, 3, 4, 5]
   (.seq (.seq (.reg [
       ⟨(some 27), .mv (.tmp 5), none⟩,
       ⟨(some 28), .faddr 0 (.tmp 3), none⟩,
       ⟨(some 29), .load 1 false (.tmp 28), none⟩,
       ⟨(some 30), .bin .lss (.tmp 27) (.tmp 29), none⟩] [0, 2, 3, 4, 5, 30])
   (.cond (.tmp 30)
    (.skip)
    (.exit 1)))
   (.seq (.block 2 (.seq (.reg [
        ⟨(some 33), .mv (.tmp 4), none⟩,
        ⟨(some 34), .mv (.tmp 5), none⟩,
        ⟨(some 35), .bslice 2 1 1 [(.int .i64 0)] [(0, (.tmp 34))], none⟩,
        ⟨(some 36), .app 2 1 8 (.tmp 33) (.tmp 35), none⟩,
        ⟨(some 4), .mv (.tmp 36), none⟩] [0, 2, 3, 4, 5])
    (.seq (.reg [
        ⟨(some 37), .mv (.tmp 0), none⟩,
        ⟨(some 38), .call 19 [(.tmp 37), (.const (.int .i64 3))], none⟩] [0, 2, 3, 4, 5, 38])
    (.cond (.tmp 38)
     (.seq (.reg [
         ⟨(some 39), .faddr 1 (.tmp 3), none⟩,
         ⟨(some 40), .load 1 false (.tmp 39), none⟩,
         ⟨(some 41), .mv (.tmp 4), none⟩,
         ⟨(some 42), .bslice 29 1 1 [(.slice none 0 0)] [(0, (.tmp 41))], none⟩,
         ⟨(some 43), .app 29 1 24 (.tmp 40) (.tmp 42), none⟩,
         ⟨(some 44), .faddr 1 (.tmp 3), none⟩,
         ⟨none, .store 1 (.tmp 44) (.tmp 43), none⟩] [0, 2, 3, 5])
     (.reg [
         ⟨(some 45), .bslice 2 1 0 [] [], none⟩,
         ⟨(some 4), .mv (.tmp 45), none⟩] [0, 2, 3, 4, 5]))
     (.skip)))))
   (.reg [
       ⟨(some 31), .mv (.tmp 5), none⟩,
       ⟨(some 32), .bin .add (.tmp 31) (.const (.int .i64 1)), none⟩,
       ⟨(some 5), .mv (.tmp 32), none⟩] [0, 2, 3, 4, 5]))))))
 (.seq (.seq (.reg [
     ⟨(some 46), .mv (.tmp 4), none⟩,
     ⟨(some 47), .len (.tmp 46), none⟩,
     ⟨(some 48), .bin .gtr (.tmp 47) (.const (.int .i64 0)), none⟩,
     ⟨(some 49), .mv (.tmp 48), none⟩,
     ⟨(some 50), .mv (.tmp 0), (some (49, true))⟩,
     ⟨(some 51), .call 21 [(.tmp 50), (.const (.int .i64 4))], (some (49, true))⟩,
     ⟨(some 52), .bin .gtr (.tmp 51) (.const (.int .i64 0)), (some (49, true))⟩,
     ⟨(some 53), .pick (.tmp 49) (.tmp 52) (.const (.bool false)), none⟩] [0, 2, 3, 4, 53])
 (.cond (.tmp 53)
  (.reg [
      ⟨(some 54), .faddr 1 (.tmp 3), none⟩,
      ⟨(some 55), .load 1 false (.tmp 54), none⟩,
      ⟨(some 56), .mv (.tmp 4), none⟩,
      ⟨(some 57), .bslice 29 1 1 [(.slice none 0 0)] [(0, (.tmp 56))], none⟩,
      ⟨(some 58), .app 29 1 24 (.tmp 55) (.tmp 57), none⟩,
      ⟨(some 59), .faddr 1 (.tmp 3), none⟩,
      ⟨none, .store 1 (.tmp 59) (.tmp 58), none⟩] [0, 2, 3])
  (.skip)))
 (.seq (.mix (.one ⟨(some 62), .mv (.tmp 0), none⟩
  (.one ⟨(some 63), .faddr 0 (.tmp 3), none⟩
  (.one ⟨(some 64), .load 1 false (.tmp 63), none⟩
  (.both (.one ⟨(some 60), .faddr 1 (.tmp 3), none⟩
   (.both (.one ⟨(some 61), .load 1 false (.tmp 60), none⟩
    (.one ⟨(some 65), .call 48 [(.tmp 62), (.tmp 64)], none⟩
    (.one ⟨(some 66), .app 29 1 24 (.tmp 61) (.tmp 65), none⟩
    (.one ⟨(some 67), .faddr 1 (.tmp 3), none⟩
    (.one ⟨none, .store 1 (.tmp 67) (.tmp 66), none⟩
    (.done))))))
   (.one ⟨(some 65), .call 48 [(.tmp 62), (.tmp 64)], none⟩
    (.one ⟨(some 61), .load 1 false (.tmp 60), none⟩
    (.one ⟨(some 66), .app 29 1 24 (.tmp 61) (.tmp 65), none⟩
    (.one ⟨(some 67), .faddr 1 (.tmp 3), none⟩
    (.one ⟨none, .store 1 (.tmp 67) (.tmp 66), none⟩
    (.done))))))))
  (.one ⟨(some 65), .call 48 [(.tmp 62), (.tmp 64)], none⟩
   (.one ⟨(some 60), .faddr 1 (.tmp 3), none⟩
   (.one ⟨(some 61), .load 1 false (.tmp 60), none⟩
   (.one ⟨(some 66), .app 29 1 24 (.tmp 61) (.tmp 65), none⟩
   (.one ⟨(some 67), .faddr 1 (.tmp 3), none⟩
   (.one ⟨none, .store 1 (.tmp 67) (.tmp 66), none⟩
   (.done))))))))))) [0, 2, 3])
 (.seq (.seq (.reg [
     ⟨(some 68), .faddr 1 (.tmp 3), none⟩,
     ⟨(some 69), .load 1 false (.tmp 68), none⟩,
     ⟨(some 70), .len (.tmp 69), none⟩,
     ⟨(some 71), .bin .gtr (.tmp 70) (.const (.int .i64 1)), none⟩] [0, 2, 3, 71])
 (.cond (.tmp 71)
  (.seq (.reg [
      ⟨(some 72), .mv (.tmp 0), none⟩,
      ⟨(some 73), .faddr 1 (.tmp 3), none⟩,
      ⟨(some 74), .load 1 false (.tmp 73), none⟩,
      ⟨(some 75), .len (.tmp 74), none⟩,
      ⟨(some 76), .call 21 [(.tmp 72), (.tmp 75)], none⟩,
      ⟨(some 6), .mv (.tmp 76), none⟩] [2, 3, 6])
  (.seq (.reg [
      ⟨(some 77), .faddr 1 (.tmp 3), none⟩,
      ⟨(some 78), .load 1 false (.tmp 77), none⟩,
      ⟨(some 79), .iaddr 1 (.tmp 78) (.const (.int .i64 0)), none⟩,
      ⟨(some 80), .load 1 false (.tmp 79), none⟩,
      ⟨(some 7), .mv (.tmp 80), none⟩] [2, 3, 6, 7])
  (.seq (.reg [
      ⟨(some 81), .faddr 1 (.tmp 3), none⟩,
      ⟨(some 82), .load 1 false (.tmp 81), none⟩,
      ⟨(some 83), .faddr 1 (.tmp 3), none⟩,
      ⟨(some 84), .load 1 false (.tmp 83), none⟩,
      ⟨(some 85), .mv (.tmp 6), none⟩,
      ⟨(some 86), .iaddr 1 (.tmp 84) (.tmp 85), none⟩,
      ⟨(some 87), .load 1 false (.tmp 86), none⟩,
      ⟨(some 88), .iaddr 1 (.tmp 82) (.const (.int .i64 0)), none⟩,
      ⟨none, .store 1 (.tmp 88) (.tmp 87), none⟩] [2, 3, 6, 7])
  (.reg [
      ⟨(some 89), .faddr 1 (.tmp 3), none⟩,
      ⟨(some 90), .load 1 false (.tmp 89), none⟩,
      ⟨(some 91), .mv (.tmp 6), none⟩,
      ⟨(some 92), .mv (.tmp 7), none⟩,
      ⟨(some 93), .iaddr 1 (.tmp 90) (.tmp 91), none⟩,
      ⟨none, .store 1 (.tmp 93) (.tmp 92), none⟩] [2, 3]))))
  (.skip)))
 (.seq (.reg [
     ⟨(some 94), .load 2 true (.tmp 3), none⟩,
     ⟨none, .store 2 (.tmp 2) (.tmp 94), none⟩] [2])
 (.ret)))))))))
theorem s_spec_l24Draw : stripF Try.prog 25 [[0, 2], [0, 2, 9], [0, 2, 9, 10], [2], [0, 2, 16], [2], [0, 2, 3], [0, 2, 3, 4], [0, 2, 3, 4, 5], [0, 2, 3, 4, 5], [0, 2, 3, 4, 5, 30], [0, 2, 3, 4, 5], [0, 2, 3, 4, 5, 38], [0, 2, 3, 5], [0, 2, 3, 4, 5], [0, 2, 3, 4, 5], [0, 2, 3, 4, 53], [0, 2, 3], [0, 2, 3, 1000005], [0, 2, 3, 71], [2, 3, 6], [2, 3, 6, 7], [2, 3, 6, 7], [2, 3], [2]] = some (c_spec_l24Draw, [.cell 2 2], 95) := by kernel_rfl
theorem getD_getC {A : Type} {l : List A} {j : Nat} {d : A} (h : j < l.length) : l.getD j d = l[j] := by rw [List.getD_eq_getElem?_getD, List.getElem?_eq_getElem h]; rfl
def RowF (H : List Blk) (N : Nat → Prop) (c : AV) (xs : List Int) : Prop := c = ilS xs ∨ (xs = [] ∧ c = nilS) ∨ ∃ r ver, c = .nm r ver 0 xs.length ∧ N r ∧ H[r]? = some ⟨ver, 2, 1, xs.map I⟩
def TabF (H : List Blk) (N : Nat → Prop) (v : AV) (xss : List (List Int)) : Prop :=
  (v = nilS ∧ xss = []) ∨ ∃ t ver cells, v = .nm t ver 0 xss.length ∧ N t ∧ H[t]? = some ⟨ver, tyLL, 1, cells⟩ ∧ cells.length = xss.length ∧ ∀ (j : Nat) (c : AV) (xs : List Int), cells[j]? = some c → xss[j]? = some xs → RowF H N c xs
theorem RowF.one {H : List Blk} {N : Nat → Prop} {c : AV} {xs : List Int} (h : RowF H N c xs) : c.cell1 = true ∧ partsOf c = [c] := by
  rcases h with rfl | ⟨_, rfl⟩ | ⟨r, ver, rfl, _⟩ <;> exact ⟨rfl, rfl⟩
theorem RowF.same {H H' : List Blk} {N N' : Nat → Prop} {c : AV} {xs : List Int} (h : RowF H N c xs) (hN : ∀ r, N r → r < H.length → N' r) (hs : ∀ (j : Nat) (b : Blk), N j → H[j]? = some b → b.ty = 2 → H'[j]? = some b) : RowF H' N' c xs := by
  rcases h with h | h | ⟨r, ver, h1, h2, h3⟩
  · exact .inl h
  · exact .inr (.inl h)
  · exact .inr (.inr ⟨r, ver, h1, hN r h2 (List.getElem?_eq_some_iff.1 h3).1, hs r _ h2 h3 rfl⟩)
theorem TabF.one {H : List Blk} {N : Nat → Prop} {v : AV} {xss : List (List Int)} (h : TabF H N v xss) : v.cell1 = true ∧ partsOf v = [v] := by
  rcases h with ⟨rfl, _⟩ | ⟨t, ver, cells, rfl, _⟩ <;> exact ⟨rfl, rfl⟩
theorem TabF.same {H H' : List Blk} {N N' : Nat → Prop} {v : AV} {xss : List (List Int)} (h : TabF H N v xss) (hN : ∀ r, N r → r < H.length → N' r) (hs : ∀ (j : Nat) (b : Blk), N j → H[j]? = some b → H'[j]? = some b) : TabF H' N' v xss := by
  rcases h with h | ⟨t, ver, cells, h1, h2, h3, h4, h5⟩
  · exact .inl h
  · exact .inr ⟨t, ver, cells, h1, hN t h2 (List.getElem?_eq_some_iff.1 h3).1, hs t _ h2 h3, h4, fun j c xs g1 g2 => (h5 j c xs g1 g2).same hN (fun j b q hb _ => hs j b q hb)⟩
theorem RowF.froz {H : List Blk} {N : Nat → Prop} {b : Nat} {c : AV} {xs : List Int} (h : RowF H N c xs) (hN : ∀ r, N r → b ≤ r) : Froz H b c (ilS xs) := by
  rcases h with rfl | ⟨rfl, rfl⟩ | ⟨r, ver, rfl, h1, h2⟩
  · exact .old _ (by rw [Bel_ilS]; trivial)
  · exact .nil
  · exact froz_rowI (hN r h1) h2
theorem TabF.froz {H : List Blk} {N : Nat → Prop} {b : Nat} {v : AV} {xss : List (List Int)} (h : TabF H N v xss) (hN : ∀ r, N r → b ≤ r) : Froz H b v (ilSS xss) := by
  rcases h with ⟨rfl, rfl⟩ | ⟨t, ver, cells, rfl, h2, h3, h4, h5⟩
  · exact .nil
  · have hc : (cells.drop 0).take (xss.length * 1) = cells := by rw [List.drop_zero, Nat.mul_one]; exact List.take_of_length_le (by omega)
    refine .nm t ver 0 xss.length _ _ (hN t h2) h3 rfl (by simp only [hc, List.length_map]; exact h4.symm) ?_
    intro j c c' g1 g2
    simp only [hc] at g1
    rw [List.getElem?_map] at g2
    cases hx : xss[j]? with
    | none => rw [hx] at g2; simp at g2
    | some x => rw [hx] at g2; simp at g2; rw [← g2]; exact (h5 j c x g1 hx).froz hN
theorem TabF.app {Y : List Blk} {N : Nat → Prop} {v : AV} {xss yss : List (List Int)} {cs : List AV} (h : TabF Y N v xss) (hl : cs.length = yss.length) (hrow : ∀ (j : Nat) (c : AV) (ys : List Int), cs[j]? = some c → yss[j]? = some ys → RowF Y N c ys) (hN : N Y.length) (hlen : xss.length + yss.length ≤ 100000)
    {K : AV → List Blk → Prop} (hk : ∀ v' Z, v'.cell1 = true ∧ partsOf v' = [v'] → Y.length ≤ Z.length → TabF Z N v' (xss ++ yss) → (∀ (j : Nat) (bl : Blk), Y[j]? = some bl → bl.ty ≠ tyLL → Z[j]? = some bl) → (∀ j, ¬ N j → j < Y.length → Z[j]? = Y[j]?) → K v' Z) : AppX tyLL 1 24 Y v K (some (cs.length, cs)) := by
  have hci : cs.all AV.cell1 = true := List.all_eq_true.2 fun c hc => by
    obtain ⟨j, hj, rfl⟩ := List.getElem_of_mem hc
    exact (hrow j _ _ (List.getElem?_eq_getElem hj) (List.getElem?_eq_getElem (by omega))).one.1
  rcases h with ⟨rfl, rfl⟩ | ⟨t, ver, cells, rfl, h2, h3, h4, h5⟩
  · rw [AppX_nil (h1 := by omega) (h2 := hci) (h3 := by simp at hlen; omega) (h4 := by simp at hlen; omega)]
    refine hk _ _ ⟨rfl, rfl⟩ (by simp) (.inr ⟨Y.length, 1, cs, by rw [List.nil_append, hl], hN, by simp, by rw [List.nil_append, hl], fun j c xs g1 g2 => ?_⟩) (fun j bl hj _ => get_appB2 hj _) fun j _ hj => List.getElem?_append_left hj
    exact (hrow j c xs g1 (by rwa [List.nil_append] at g2)).same (fun r hr _ => hr) fun j b _ hb _ => get_appB2 hb _
  · have hlt := (List.getElem?_eq_some_iff.1 h3).1
    have hfr : ∀ (j : Nat) (bl : Blk), Y[j]? = some bl → bl.ty ≠ tyLL → (Y.set t ⟨ver + 1, tyLL, 1, cells ++ cs⟩)[j]? = some bl := fun j bl hj hty => by
      rw [List.getElem?_set_ne (fun e => by subst e; rw [h3] at hj; cases hj; exact hty rfl)]; exact hj
    have hrf : ∀ {c : AV} {xs : List Int}, RowF Y N c xs → RowF (Y.set t ⟨ver + 1, tyLL, 1, cells ++ cs⟩) N c xs := fun h => h.same (fun r hr _ => hr) fun j b _ hb hty => hfr j b hb (by rw [hty]; decide)
    rw [AppX_nm (h1 := by omega) (h2 := hci), h3, AppN_in (h1 := by omega) (h2 := by omega) (h3 := by omega), List.take_of_length_le (by omega)]
    refine hk _ _ ⟨rfl, rfl⟩ (by rw [List.length_set]; exact Nat.le_refl _) (.inr ⟨t, ver + 1, cells ++ cs, by rw [List.length_append, hl], h2, List.getElem?_set_self hlt, by rw [List.length_append, List.length_append]; omega, fun j c xs g1 g2 => ?_⟩) hfr (fun j hj _ => List.getElem?_set_ne (fun e => by subst e; exact hj h2))
    by_cases hj : j < cells.length
    · rw [List.getElem?_append_left hj] at g1
      rw [List.getElem?_append_left (by omega)] at g2
      exact hrf (h5 j c xs g1 g2)
    · rw [List.getElem?_append_right (by omega)] at g1
      rw [List.getElem?_append_right (by omega), ← h4] at g2
      exact hrf (hrow _ c xs g1 g2)
theorem wfOfD {x : Int} (h : -9223372036854775808 ≤ x ∧ x ≤ 9223372036854775807) : (Lit.int .i64 x).wf = true := by
  simp [Lit.wf, IntKind.min, IntKind.max, IntKind.signed, IntKind.bits]
  omega
theorem st_at {A bs : List Blk} {q j ver ty sz off : Nat} {cells cs : List AV} (hq : q = A.length + j) (hb : bs[j]? = some ⟨ver, ty, sz, cells⟩) (hl : off + cs.length ≤ cells.length) : astore (A ++ bs) cs (.pc q ver off) = some (A ++ bs.set j ⟨ver, ty, sz, setMany cells off cs⟩) := by
  subst hq
  rw [astore_own, hb, PcS_some, if_pos hl]
theorem ld_at {A bs : List Blk} {q j ver ty sz off n : Nat} {cells : List AV} (hq : q = A.length + j) (hb : bs[j]? = some ⟨ver, ty, sz, cells⟩) (hl : off + n ≤ cells.length) : acells (A ++ bs) n (.pc q ver off) = some ((cells.drop off).take n) :=
  pc_lds (by rw [hq, List.getElem?_append_right (by omega), Nat.add_sub_cancel_left]; exact hb) hl
structure DrS (H Y : List Blk) (p : Nat) (code : AV) (t : Nat) (u : Int) (i ver : Nat) (s : List Int) (n v : AV) (O : List (List Int)) : Prop where
  src : Y[p]? = some (srcB code t u)
  res : Y[H.length]? = some ⟨0, tyCover, 1, [I 0, nilS]⟩
  box : Y[H.length + 1]? = some ⟨0, tyCover, 1, [n, v]⟩
  set : Y[i]? = some ⟨ver, 2, 1, s.map I⟩
  ib : H.length + 2 ≤ i
  tab : TabF Y (fun r => H.length + 2 ≤ r ∧ r ≠ i) v O
  fr : ∀ j, j < H.length → j ≠ p → Y[j]? = H[j]?
section
variable {H Y : List Blk} {p t t' i ver : Nat} {code n v : AV} {u u' : Int} {s : List Int} {O : List (List Int)}
theorem DrS.src' (h : DrS H Y p code t u i ver s n v O) (hp : p < H.length) : DrS H (Y.set p (srcB code t' u')) p code t' u' i ver s n v O := by
  have hpl := (List.getElem?_eq_some_iff.1 h.src).1
  have g : ∀ j, j ≠ p → (Y.set p (srcB code t' u'))[j]? = Y[j]? := fun j hj => List.getElem?_set_ne (Ne.symm hj)
  have := h.ib
  exact ⟨List.getElem?_set_self hpl, (g _ (by omega)).trans h.res, (g _ (by omega)).trans h.box, (g _ (by omega)).trans h.set, h.ib, h.tab.same (fun r hr _ => hr) (fun j b hj hb => by rw [g j (by omega)]; exact hb), fun j hj hjp => (g j hjp).trans (h.fr j hj hjp)⟩
theorem DrS.grow (h : DrS H Y p code t u i ver s n v O) (ext : List Blk) : DrS H (Y ++ ext) p code t u i ver s n v O :=
  ⟨get_appU h.src ext, get_appU h.res ext, get_appU h.box ext, get_appU h.set ext, h.ib, h.tab.same (fun r hr _ => hr) (fun j b _ hb => get_appU hb ext), fun j hj hjp => by
    have := (List.getElem?_eq_some_iff.1 h.res).1
    rw [List.getElem?_append_left (by omega)]; exact h.fr j hj hjp⟩
theorem DrS.push (h : DrS H Y p code t u i ver s n v O) (hp : p < H.length) (x : Int) : DrS H (Y.set i ⟨ver + 1, 2, 1, s.map I ++ [I x]⟩) p code t u i (ver + 1) (s ++ [x]) n v O := by
  have hil := (List.getElem?_eq_some_iff.1 h.set).1
  have hib := h.ib
  have g : ∀ j, j ≠ i → (Y.set i ⟨ver + 1, 2, 1, s.map I ++ [I x]⟩)[j]? = Y[j]? := fun j hj => List.getElem?_set_ne (Ne.symm hj)
  exact ⟨(g _ (by omega)).trans h.src, (g _ (by omega)).trans h.res, (g _ (by omega)).trans h.box, by rw [List.getElem?_set_self hil]; simp, hib, h.tab.same (fun r hr _ => hr) (fun j b hj hb => by rw [g j hj.2]; exact hb), fun j hj hjp => (g j (by omega)).trans (h.fr j hj hjp)⟩
theorem DrS.pre (h : DrS H Y p code t u i ver s n v O) (hp : p < H.length) : ∃ ext, Y = H.set p (srcB code t u) ++ ext := by
  have hl := (List.getElem?_eq_some_iff.1 h.res).1
  refine ext_ofD (by rw [List.length_set]; omega) fun j hj => ?_
  rw [List.length_set] at hj
  by_cases hjp : j = p
  · subst hjp; rw [List.getElem?_set_self hp]; exact h.src
  · rw [List.getElem?_set_ne (Ne.symm hjp)]; exact h.fr j hj hjp
theorem DrS.put {Z : List Blk} {v' : AV} {O' : List (List Int)} (h : DrS H Y p code t u i ver s n v O) (hp : p < H.length) (hl : Y.length ≤ Z.length) (ht : TabF Z (fun r => H.length + 2 ≤ r) v' O') (hf : ∀ (j : Nat) (bl : Blk), Y[j]? = some bl → bl.ty ≠ tyLL → Z[j]? = some bl) (hf2 : ∀ j, j < H.length → Z[j]? = Y[j]?) :
    DrS H (Z.set (H.length + 1) ⟨0, tyCover, 1, [n, v']⟩ ++ [⟨0, 2, 1, []⟩]) p code t u Z.length 0 [] n v' O' := by
  have hZs := hf _ _ h.src (show tySrc ≠ tyLL by decide)
  have hZr := hf _ _ h.res (show tyCover ≠ tyLL by decide)
  have hZb := hf _ _ h.box (show tyCover ≠ tyLL by decide)
  have hbl := (List.getElem?_eq_some_iff.1 hZb).1
  have g : ∀ j bl, j ≠ H.length + 1 → Z[j]? = some bl → (Z.set (H.length + 1) ⟨0, tyCover, 1, [n, v']⟩ ++ [(⟨0, 2, 1, []⟩ : Blk)])[j]? = some bl := fun j bl hj hb => by
    refine get_appU ?_ _
    rw [List.getElem?_set_ne (Ne.symm hj)]; exact hb
  have hZl : Z.length = (Z.set (H.length + 1) ⟨0, tyCover, 1, [n, v']⟩).length := by simp
  refine ⟨g _ _ (by omega) hZs, g _ _ (by omega) hZr, get_appU (List.getElem?_set_self hbl) _, ?_, by omega, ?_, fun j hj hjp => ?_⟩
  · rw [hZl, List.getElem?_append_right (Nat.le_refl _), Nat.sub_self]; rfl
  · exact ht.same (fun r h1 h2 => ⟨h1, by omega⟩) fun j b hj hb => g j b (by omega) hb
  · rw [List.getElem?_append_left (by rw [List.length_set]; omega), List.getElem?_set_ne (by omega), hf2 j hj]
    exact h.fr j hj hjp
end
theorem appNC {X : List Blk} {t ver : Nat} {s : List Int} {x : Int} {K : AV → List Blk → Prop} (hX : X[t]? = some ⟨ver, 2, 1, s.map I⟩) (hn : s.length ≤ 100000) (hk : K (.nm t (ver + 1) 0 (s.length + 1)) (X.set t ⟨ver + 1, 2, 1, s.map I ++ [I x]⟩)) :
    AppN 2 1 8 t ver s.length 1 [I x] X K X[t]? := by
  have htl : (s.map I).take (s.length * 1) = s.map I := List.take_of_length_le (by simp)
  simp only [AppN, hX]
  refine ⟨trivial, trivial, trivial, by simp, by omega, by omega, ?_⟩
  rw [htl]
  exact hk
theorem TabF.view {H : List Blk} {N : Nat → Prop} {v : AV} {xss : List (List Int)} (h : TabF H N v xss) : ∃ cells, aview H v = some (xss.length, cells) := by
  rcases h with ⟨rfl, rfl⟩ | ⟨t, ver, cells, rfl, _, h3, h4, _⟩
  · exact ⟨[], rfl⟩
  · exact ⟨cells, view_nm h3 h4⟩
theorem RowF.setLL {H : List Blk} {N : Nat → Prop} {c : AV} {xs : List Int} (h : RowF H N c xs) {t ver : Nat} {cells cells' : List AV} (ht : H[t]? = some ⟨ver, tyLL, 1, cells⟩) : RowF (H.set t ⟨ver, tyLL, 1, cells'⟩) N c xs :=
  h.same (fun r hr _ => hr) fun j b _ hb hty => by
    rw [List.getElem?_set_ne (fun e => by subst e; rw [ht] at hb; cases hb; exact absurd hty (show ¬ tyLL = 2 by decide))]; exact hb
structure DrT (H Y : List Blk) (p : Nat) (code : AV) (t : Nat) (u : Int) (n v : AV) (O : List (List Int)) : Prop where
  src : Y[p]? = some (srcB code t u)
  res : Y[H.length]? = some ⟨0, tyCover, 1, [I 0, nilS]⟩
  box : Y[H.length + 1]? = some ⟨0, tyCover, 1, [n, v]⟩
  tab : TabF Y (fun r => H.length + 2 ≤ r) v O
  fr : ∀ j, j < H.length → j ≠ p → Y[j]? = H[j]?
section
variable {H Y : List Blk} {p t t' i ver : Nat} {code n v : AV} {u u' : Int} {s : List Int} {O : List (List Int)}
theorem DrS.toT (h : DrS H Y p code t u i ver s n v O) : DrT H Y p code t u n v O :=
  ⟨h.src, h.res, h.box, h.tab.same (fun r hr _ => hr.1) (fun j b _ hb => hb), h.fr⟩
theorem DrT.src' (h : DrT H Y p code t u n v O) (hp : p < H.length) : DrT H (Y.set p (srcB code t' u')) p code t' u' n v O := by
  have hpl := (List.getElem?_eq_some_iff.1 h.src).1
  have g : ∀ j, j ≠ p → (Y.set p (srcB code t' u'))[j]? = Y[j]? := fun j hj => List.getElem?_set_ne (Ne.symm hj)
  exact ⟨List.getElem?_set_self hpl, (g _ (by omega)).trans h.res, (g _ (by omega)).trans h.box, h.tab.same (fun r hr _ => hr) (fun j b hj hb => by rw [g j (by omega)]; exact hb), fun j hj hjp => (g j hjp).trans (h.fr j hj hjp)⟩
theorem DrT.grow (h : DrT H Y p code t u n v O) (ext : List Blk) : DrT H (Y ++ ext) p code t u n v O :=
  ⟨get_appU h.src ext, get_appU h.res ext, get_appU h.box ext, h.tab.same (fun r hr _ => hr) (fun j b _ hb => get_appU hb ext), fun j hj hjp => by
    have := (List.getElem?_eq_some_iff.1 h.res).1
    rw [List.getElem?_append_left (by omega)]; exact h.fr j hj hjp⟩
theorem DrT.pre (h : DrT H Y p code t u n v O) (hp : p < H.length) : ∃ ext, Y = H.set p (srcB code t u) ++ ext := by
  have hl := (List.getElem?_eq_some_iff.1 h.res).1
  refine ext_ofD (by rw [List.length_set]; omega) fun j hj => ?_
  rw [List.length_set] at hj
  by_cases hjp : j = p
  · subst hjp; rw [List.getElem?_set_self hp]; exact h.src
  · rw [List.getElem?_set_ne (Ne.symm hjp)]; exact h.fr j hj hjp
theorem DrT.put {Z : List Blk} {v' : AV} {O' : List (List Int)} (h : DrT H Y p code t u n v O) (hp : p < H.length) (ht : TabF Z (fun r => H.length + 2 ≤ r) v' O') (hf : ∀ (j : Nat) (bl : Blk), Y[j]? = some bl → bl.ty ≠ tyLL → Z[j]? = some bl) (hf2 : ∀ j, j < H.length → Z[j]? = Y[j]?) :
    DrT H (Z.set (H.length + 1) ⟨0, tyCover, 1, [n, v']⟩) p code t u n v' O' := by
  have hZs := hf _ _ h.src (show tySrc ≠ tyLL by decide)
  have hZr := hf _ _ h.res (show tyCover ≠ tyLL by decide)
  have hZb := hf _ _ h.box (show tyCover ≠ tyLL by decide)
  have hbl := (List.getElem?_eq_some_iff.1 hZb).1
  have g : ∀ j, j ≠ H.length + 1 → (Z.set (H.length + 1) ⟨0, tyCover, 1, [n, v']⟩)[j]? = Z[j]? := fun j hj => List.getElem?_set_ne (Ne.symm hj)
  exact ⟨(g _ (by omega)).trans hZs, (g _ (by omega)).trans hZr, List.getElem?_set_self hbl, ht.same (fun r hr _ => hr) fun j b hj hb => by rw [g j (by omega)]; exact hb, fun j hj hjp => by rw [g j (by omega), hf2 j hj]; exact h.fr j hj hjp⟩
end
def smallD (xss : List (List Int)) : Prop := xss.length ≤ 60000 ∧ ∀ x ∈ xss, ∀ z ∈ x, 0 ≤ z ∧ z ≤ 1000
theorem smallD_wf {xss : List (List Int)} (h : smallD xss) : ∀ x ∈ xss, ∀ z ∈ x, (Lit.int .i64 z).wf = true := fun x hx z hz => by
  have := h.2 x hx z hz
  exact wfOfD (by omega)
theorem l24Draw_ok (H : List Blk) (p : Nat) (code : AV) (ns : List Int) (t : Nat) (u : Int) (hp : H[p]? = some (srcB code t u)) (hc : CodeOk code ns) (hcb : ∀ k, Bel k code) (ht : t ≤ 700000000) :
    ACalls Try.prog f_spec_l24Draw [.pc p 0 0] H (fun r H' => ∃ (n : Int) (O : List (List Int)) (u' : Int) (t' : Nat), r = .agg [I n, ilSS O] ∧ smallD O ∧ H' = H.set p (srcB code t' u')) := by
  have hlt := (List.getElem?_eq_some_iff.1 hp).1
  have hgp : ∀ t u, (H.set p (srcB code t u))[p]? = some (srcB code t u) := fun t u => List.getElem?_set_self hlt
  have hpp : ∀ t u ext, (H.set p (srcB code t u) ++ ext)[p]? = some (srcB code t u) := fun t u ext => (List.getElem?_append_left (by simpa using hlt)).trans (hgp t u)
  have hset : ∀ t u t' u' (ext : List Blk), (H.set p (srcB code t u) ++ ext).set p (srcB code t' u') = H.set p (srcB code t' u') ++ ext := fun t u t' u' ext => by
    rw [List.set_append_left _ _ (by simpa using hlt), List.set_set]
  have hlS : ∀ t u, (H.set p (srcB code t u)).length = H.length := fun t u => List.length_set
  have hself : H = H.set p (srcB code t u) := by
    obtain ⟨g1, g2⟩ := List.getElem?_eq_some_iff.1 hp
    rw [← g2]; exact (List.set_getElem_self g1).symm
  refine ACalls.introB s_spec_l24Draw (by simp) ?_; intro hB hA; unfold c_spec_l24Draw; simp (config := { maxSteps := 1000000 }) (disch := (first | omega | (simp only [go_sem]; try omega))) only [go_sem, Nat.reduceAdd, Nat.reduceEqDiff, Nat.reduceLeDiff, Nat.reduceMul, Nat.reduceLT, reduceIte, Int.reduceToNat, w64_id, cast_succ]
  have hBG := fun t u => HB_set hB (p := p) hcb t u
  repeat (first | (with_reducible first | refine SW.seq ?_ | refine SW.block ?_ | refine SW.rowC ?_ | refine SW.skip ?_ | refine SW.exit ?_ | intro _ | refine And.intro (by omega) ?_) | simp (config := { maxSteps := 1000000 }) (disch := (first | omega | (simp only [go_sem]; try omega))) only [go_sem, Nat.reduceAdd, Nat.reduceEqDiff, Nat.reduceLeDiff, Nat.reduceMul, Nat.reduceLT, reduceIte, Int.reduceToNat, w64_id, cast_succ])
  refine (pick_ok _ p code ns t u 6 (get_appU hp _) hc (by omega)).mono ?_
  rintro r H1 ⟨x, u1, t1, rfl, x0, x1, ht1, rfl⟩
  rw [List.set_append_left _ _ hlt]
  by_cases hx0 : x = 0
  · have d1 : decide (x = 0) = true := decide_eq_true hx0
    repeat (first | (with_reducible first | refine SW.seq ?_ | refine SW.block ?_ | refine SW.rowC ?_ | refine SW.skip ?_ | refine SW.exit ?_ | intro _ | refine And.intro (by omega) ?_) | simp (config := { maxSteps := 1000000 }) (disch := (first | omega | (simp only [go_sem]; try omega))) only [go_sem, Nat.reduceAdd, Nat.reduceEqDiff, Nat.reduceLeDiff, Nat.reduceMul, Nat.reduceLT, reduceIte, Int.reduceToNat, w64_id, cast_succ, d1])
    refine SW.condT rfl ?_
    repeat (first | (with_reducible first | refine SW.seq ?_ | refine SW.block ?_ | refine SW.rowC ?_ | refine SW.skip ?_ | refine SW.exit ?_ | intro _ | refine And.intro (by omega) ?_) | simp (config := { maxSteps := 1000000 }) (disch := (first | omega | (simp only [go_sem]; try omega))) only [go_sem, Nat.reduceAdd, Nat.reduceEqDiff, Nat.reduceLeDiff, Nat.reduceMul, Nat.reduceLT, reduceIte, Int.reduceToNat, w64_id, cast_succ])
    refine (among_new H p code ns t1 u1 [3, 6, 7, 9] hlt hc (by omega) (by simp) [(⟨0, tyCover, 1, [I 0, nilS]⟩ : Blk)]).mono ?_
    rintro r H1 ⟨y, u2, t2, rfl, hy, ht2, rfl⟩
    obtain ⟨m, rfl, hm⟩ : ∃ m : Nat, y = m ∧ (m = 3 ∨ m = 6 ∨ m = 7 ∨ m = 9) := by
      simp at hy
      exact ⟨y.toNat, by omega, by omega⟩
    repeat (first | (with_reducible first | refine SW.seq ?_ | refine SW.block ?_ | refine SW.rowC ?_ | refine SW.skip ?_ | refine SW.exit ?_ | intro _ | refine And.intro (by omega) ?_) | simp (config := { maxSteps := 1000000 }) (disch := (first | omega | (simp only [go_sem]; try omega))) only [go_sem, Nat.reduceAdd, Nat.reduceEqDiff, Nat.reduceLeDiff, Nat.reduceMul, Nat.reduceLT, reduceIte, Int.reduceToNat, w64_id, cast_succ])
    refine (l24Triples_ok _ m (by omega)).mono ?_
    rintro r H1 ⟨rfl, rfl⟩
    have hsm : smallD (ta m m) := by
      rcases hm with rfl | rfl | rfl | rfl <;> (unfold smallD; decide +kernel)
    generalize ta m m = O at *
    have ws : ∀ a b : AV, astore (H.set p (srcB code t2 u2) ++ [(⟨0, tyCover, 1, [I 0, nilS]⟩ : Blk), ⟨0, 2, 1, [I 3, I 6, I 7, I 9]⟩]) [a, b] (.pc H.length 0 0) = some (H.set p (srcB code t2 u2) ++ [⟨0, tyCover, 1, [a, b]⟩, ⟨0, 2, 1, [I 3, I 6, I 7, I 9]⟩]) := fun a b => (st_at (A := H.set p (srcB code t2 u2)) (q := H.length) (j := 0) (ver := 0) (ty := tyCover) (sz := 1) (off := 0) (cells := [I 0, nilS]) (cs := [a, b]) (by rw [hlS]; rfl) rfl (Nat.le_refl 2)).trans rfl
    repeat (first | (with_reducible first | refine SW.seq ?_ | refine SW.block ?_ | refine SW.rowC ?_ | refine SW.skip ?_ | refine SW.exit ?_ | intro _ | refine And.intro (by omega) ?_) | simp (config := { maxSteps := 1000000 }) (disch := (first | omega | (simp only [go_sem]; try omega))) only [go_sem, Nat.reduceAdd, Nat.reduceEqDiff, Nat.reduceLeDiff, Nat.reduceMul, Nat.reduceLT, reduceIte, Int.reduceToNat, w64_id, cast_succ, ws])
    refine SW.ret ?_
    refine FunPost.cell (cs := [I (w64 ((w64 (m * (m - 1) : Int)).tdiv 2)), ilSS O]) (by show acells _ 2 (.pc H.length 0 0) = _; rw [ld_at (A := H.set p (srcB code t2 u2)) (q := H.length) (j := 0) (ver := 0) (ty := tyCover) (sz := 1) (off := 0) (n := 2) (cells := [I (w64 ((w64 (m * (m - 1) : Int)).tdiv 2)), ilSS O]) (by rw [hlS]; rfl) rfl (Nat.le_refl 2)]; rfl) ?_
    exact GR.frozH (H0 := H) (H1 := H.set p (srcB code t2 u2)) (r' := .agg [I (w64 ((w64 (m * (m - 1) : Int)).tdiv 2)), ilSS O]) (hlS _ _) (hBG _ _) (froz_agg2 (froz_I' _) (froz_ilSS _)) ⟨_, O, u2, t2, rfl, hsm, rfl⟩
  have d1 : decide (x = 0) = false := decide_eq_false hx0
  by_cases hx1 : x = 1
  · have d2 : decide (x = 1) = true := decide_eq_true hx1
    repeat (first | (with_reducible first | refine SW.seq ?_ | refine SW.block ?_ | refine SW.rowC ?_ | refine SW.skip ?_ | refine SW.exit ?_ | intro _ | refine And.intro (by omega) ?_) | simp (config := { maxSteps := 1000000 }) (disch := (first | omega | (simp only [go_sem]; try omega))) only [go_sem, Nat.reduceAdd, Nat.reduceEqDiff, Nat.reduceLeDiff, Nat.reduceMul, Nat.reduceLT, reduceIte, Int.reduceToNat, w64_id, cast_succ, d1])
    refine SW.condF rfl ?_
    repeat (first | (with_reducible first | refine SW.seq ?_ | refine SW.block ?_ | refine SW.rowC ?_ | refine SW.skip ?_ | refine SW.exit ?_ | intro _ | refine And.intro (by omega) ?_) | simp (config := { maxSteps := 1000000 }) (disch := (first | omega | (simp only [go_sem]; try omega))) only [go_sem, Nat.reduceAdd, Nat.reduceEqDiff, Nat.reduceLeDiff, Nat.reduceMul, Nat.reduceLT, reduceIte, Int.reduceToNat, w64_id, cast_succ, d2])
    refine SW.condT rfl ?_
    repeat (first | (with_reducible first | refine SW.seq ?_ | refine SW.block ?_ | refine SW.rowC ?_ | refine SW.skip ?_ | refine SW.exit ?_ | intro _ | refine And.intro (by omega) ?_) | simp (config := { maxSteps := 1000000 }) (disch := (first | omega | (simp only [go_sem]; try omega))) only [go_sem, Nat.reduceAdd, Nat.reduceEqDiff, Nat.reduceLeDiff, Nat.reduceMul, Nat.reduceLT, reduceIte, Int.reduceToNat, w64_id, cast_succ])
    refine (pick_ok _ p code ns t1 u1 3 (hpp _ _ _) hc (by omega)).mono ?_
    rintro r H1 ⟨y, u2, t2, rfl, y0, y1, ht2, rfl⟩
    rw [hset]
    obtain ⟨m, rfl⟩ := Int.eq_ofNat_of_zero_le y0
    have hm3 : m ≤ 2 := by omega
    have e1 : (1 : Int) + (m : Int) = ((1 + m : Nat) : Int) := by omega
    repeat (first | (with_reducible first | refine SW.seq ?_ | refine SW.block ?_ | refine SW.rowC ?_ | refine SW.skip ?_ | refine SW.exit ?_ | intro _ | refine And.intro (by omega) ?_) | simp (config := { maxSteps := 1000000 }) (disch := (first | omega | (simp only [go_sem]; try omega))) only [go_sem, Nat.reduceAdd, Nat.reduceEqDiff, Nat.reduceLeDiff, Nat.reduceMul, Nat.reduceLT, reduceIte, Int.reduceToNat, w64_id, cast_succ, e1])
    refine (squares_ok _ (1 + m) (by omega)).mono ?_
    rintro r H1 ⟨rfl, rfl⟩
    have hsm : smallD (sqS (1 + m) (1 + m)) := by
      have : m = 0 ∨ m = 1 ∨ m = 2 := by omega
      rcases this with rfl | rfl | rfl <;> (unfold smallD; decide +kernel)
    generalize sqS (1 + m) (1 + m) = O at *
    have ws : ∀ a b : AV, astore (H.set p (srcB code t2 u2) ++ [(⟨0, tyCover, 1, [I 0, nilS]⟩ : Blk)]) [a, b] (.pc H.length 0 0) = some (H.set p (srcB code t2 u2) ++ [⟨0, tyCover, 1, [a, b]⟩]) := fun a b => (st_at (A := H.set p (srcB code t2 u2)) (q := H.length) (j := 0) (ver := 0) (ty := tyCover) (sz := 1) (off := 0) (cells := [I 0, nilS]) (cs := [a, b]) (by rw [hlS]; rfl) rfl (Nat.le_refl 2)).trans rfl
    repeat (first | (with_reducible first | refine SW.seq ?_ | refine SW.block ?_ | refine SW.rowC ?_ | refine SW.skip ?_ | refine SW.exit ?_ | intro _ | refine And.intro (by omega) ?_) | simp (config := { maxSteps := 1000000 }) (disch := (first | omega | (simp only [go_sem]; try omega))) only [go_sem, Nat.reduceAdd, Nat.reduceEqDiff, Nat.reduceLeDiff, Nat.reduceMul, Nat.reduceLT, reduceIte, Int.reduceToNat, w64_id, cast_succ, ws])
    refine SW.ret ?_
    refine FunPost.cell (cs := [I (w64 (3 * ((1 + m : Nat) : Int) * ((1 + m : Nat) : Int))), ilSS O]) (by show acells _ 2 (.pc H.length 0 0) = _; rw [ld_at (A := H.set p (srcB code t2 u2)) (q := H.length) (j := 0) (ver := 0) (ty := tyCover) (sz := 1) (off := 0) (n := 2) (cells := [I (w64 (3 * ((1 + m : Nat) : Int) * ((1 + m : Nat) : Int))), ilSS O]) (by rw [hlS]; rfl) rfl (Nat.le_refl 2)]; rfl) ?_
    exact GR.frozH (H0 := H) (H1 := H.set p (srcB code t2 u2)) (r' := .agg [I (w64 (3 * ((1 + m : Nat) : Int) * ((1 + m : Nat) : Int))), ilSS O]) (hlS _ _) (hBG _ _) (froz_agg2 (froz_I' _) (froz_ilSS _)) ⟨_, O, u2, t2, rfl, hsm, rfl⟩
  have d2 : decide (x = 1) = false := decide_eq_false hx1
  repeat (first | (with_reducible first | refine SW.seq ?_ | refine SW.block ?_ | refine SW.rowC ?_ | refine SW.skip ?_ | refine SW.exit ?_ | intro _ | refine And.intro (by omega) ?_) | simp (config := { maxSteps := 1000000 }) (disch := (first | omega | (simp only [go_sem]; try omega))) only [go_sem, Nat.reduceAdd, Nat.reduceEqDiff, Nat.reduceLeDiff, Nat.reduceMul, Nat.reduceLT, reduceIte, Int.reduceToNat, w64_id, cast_succ, d1])
  refine SW.condF rfl ?_
  repeat (first | (with_reducible first | refine SW.seq ?_ | refine SW.block ?_ | refine SW.rowC ?_ | refine SW.skip ?_ | refine SW.exit ?_ | intro _ | refine And.intro (by omega) ?_) | simp (config := { maxSteps := 1000000 }) (disch := (first | omega | (simp only [go_sem]; try omega))) only [go_sem, Nat.reduceAdd, Nat.reduceEqDiff, Nat.reduceLeDiff, Nat.reduceMul, Nat.reduceLT, reduceIte, Int.reduceToNat, w64_id, cast_succ, d2])
  refine SW.condF rfl ?_
  repeat (first | (with_reducible first | refine SW.seq ?_ | refine SW.block ?_ | refine SW.rowC ?_ | refine SW.skip ?_ | refine SW.exit ?_ | intro _ | refine And.intro (by omega) ?_) | simp (config := { maxSteps := 1000000 }) (disch := (first | omega | (simp only [go_sem]; try omega))) only [go_sem, Nat.reduceAdd, Nat.reduceEqDiff, Nat.reduceLeDiff, Nat.reduceMul, Nat.reduceLT, reduceIte, Int.reduceToNat, w64_id, cast_succ])
  refine (pick_ok _ p code ns t1 u1 9 (hpp _ _ _) hc (by omega)).mono ?_
  rintro r H1 ⟨y, u2, t2, rfl, y0, y1, ht2, rfl⟩
  rw [hset]
  obtain ⟨m, rfl⟩ := Int.eq_ofNat_of_zero_le y0
  have hm8 : m ≤ 8 := by omega
  have e1 : (1 : Int) + (m : Int) = ((1 + m : Nat) : Int) := by omega
  have ws : ∀ a b : AV, astore (H.set p (srcB code t2 u2) ++ [(⟨0, tyCover, 1, [I 0, nilS]⟩ : Blk), ⟨0, tyCover, 1, [I 0, nilS]⟩]) [a, b] (.pc (H.length + 1) 0 0) = some (H.set p (srcB code t2 u2) ++ [⟨0, tyCover, 1, [I 0, nilS]⟩, ⟨0, tyCover, 1, [a, b]⟩]) := fun a b => (st_at (A := H.set p (srcB code t2 u2)) (q := H.length + 1) (j := 1) (ver := 0) (ty := tyCover) (sz := 1) (off := 0) (cells := [I 0, nilS]) (cs := [a, b]) (by rw [hlS]) rfl (Nat.le_refl 2)).trans rfl
  repeat (first | (with_reducible first | refine SW.seq ?_ | refine SW.block ?_ | refine SW.rowC ?_ | refine SW.skip ?_ | refine SW.exit ?_ | intro _ | refine And.intro (by omega) ?_) | simp (config := { maxSteps := 1000000 }) (disch := (first | omega | (simp only [go_sem]; try omega))) only [go_sem, Nat.reduceAdd, Nat.reduceEqDiff, Nat.reduceLeDiff, Nat.reduceMul, Nat.reduceLT, reduceIte, Int.reduceToNat, w64_id, cast_succ, e1, ws])
  have hd0 : DrS H (H.set p (srcB code t2 u2) ++ [⟨0, tyCover, 1, [I 0, nilS]⟩, ⟨0, tyCover, 1, [I (1 + m : Nat), nilS]⟩, ⟨0, 2, 1, []⟩]) p code t2 u2 (H.length + 2) 0 [] (I (1 + m : Nat)) nilS [] := by
    have g : ∀ (bs : List Blk) (j : Nat), (H.set p (srcB code t2 u2) ++ bs)[H.length + j]? = bs[j]? := fun bs j => by
      rw [List.getElem?_append_right (by rw [hlS]; omega), hlS, Nat.add_sub_cancel_left]
    exact ⟨hpp _ _ _, g _ 0, g _ 1, g _ 2, by omega, .inl ⟨rfl, rfl⟩, fun j hj hjp => by rw [List.getElem?_append_left (by rw [hlS]; exact hj), List.getElem?_set_ne (Ne.symm hjp)]⟩
  refine SW.loopE (fun E0 H0 q E' Y => ∃ (k ver i t' : Nat) (u : Int) (s : List Int) (v : AV) (O : List (List Int)), k ≤ 1 + m ∧ q = 1 + m - k ∧ E' = aput (aput E0 5 (I k)) 4 (.nm i ver 0 s.length) ∧ DrS H Y p code t' u i ver s (I (1 + m : Nat)) v O ∧ (∀ x ∈ O, ∀ z ∈ x, 0 ≤ z ∧ z ≤ 1000) ∧ O.length ≤ k ∧ s.length ≤ k ∧ (∀ z ∈ s, 0 ≤ z ∧ z ≤ 1000) ∧ t' ≤ t2 + 2 * k) (1 + m)
    ⟨0, 0, _, t2, u2, [], nilS, [], by omega, by omega, rfl, hd0, by simp, by simp, by simp, by simp, by omega⟩ ?_
  rintro q E' Y ⟨k, ver, i, t3, u3, s, v, O, hk, rfl, rfl, hd, hO, hOl, hsl, hs, ht3⟩
  have hbx := hd.box
  have pa := fun o ext => pc_alive (off := o) (get_appU hd.box ext)
  have pl := fun o ext => pc_ld (off := o) (get_appU hd.box ext)
  have pa0 := fun o => pc_alive (off := o) hd.box
  have pl0 := fun o => pc_ld (off := o) hd.box
  have hYl := (List.getElem?_eq_some_iff.1 hd.set).1
  simp (config := { maxSteps := 1000000 }) (disch := (first | omega | (simp only [go_sem]; try omega))) only [go_sem, Nat.reduceAdd, Nat.reduceEqDiff, Nat.reduceLeDiff, Nat.reduceMul, Nat.reduceLT, reduceIte, Int.reduceToNat, w64_id, cast_succ]
  by_cases hkm : k < 1 + m
  · have d3 : decide ((k : Int) < ((1 + m : Nat) : Int)) = true := decide_eq_true (by omega)
    repeat (first | (with_reducible first | refine SW.seq ?_ | refine SW.block ?_ | refine SW.rowC ?_ | refine SW.skip ?_ | refine SW.exit ?_ | intro _ | refine And.intro (by omega) ?_) | simp (config := { maxSteps := 1000000 }) (disch := (first | omega | (simp only [go_sem]; try omega))) only [go_sem, Nat.reduceAdd, Nat.reduceEqDiff, Nat.reduceLeDiff, Nat.reduceMul, Nat.reduceLT, reduceIte, Int.reduceToNat, w64_id, cast_succ, pa0, pl0, d3])
    refine SW.condT rfl ?_
    repeat (first | (with_reducible first | refine SW.seq ?_ | refine SW.block ?_ | refine SW.rowC ?_ | refine SW.skip ?_ | refine SW.exit ?_ | intro _ | refine And.intro (by omega) ?_) | simp (config := { maxSteps := 1000000 }) (disch := (first | omega | (simp only [go_sem]; try omega))) only [go_sem, Nat.reduceAdd, Nat.reduceEqDiff, Nat.reduceLeDiff, Nat.reduceMul, Nat.reduceLT, reduceIte, Int.reduceToNat, w64_id, cast_succ])
    have hd1 := hd.grow [(⟨0, 2, 1, [I k]⟩ : Blk)]
    refine appNC hd1.set (by omega) ?_
    have hd2 := hd1.push hlt (k : Int)
    generalize (Y ++ [(⟨0, 2, 1, [I k]⟩ : Blk)]).set i ⟨ver + 1, 2, 1, s.map I ++ [I k]⟩ = Y2 at *
    repeat (first | (with_reducible first | refine SW.seq ?_ | refine SW.block ?_ | refine SW.rowC ?_ | refine SW.skip ?_ | refine SW.exit ?_ | intro _ | refine And.intro (by omega) ?_) | simp (config := { maxSteps := 1000000 }) (disch := (first | omega | (simp only [go_sem]; try omega))) only [go_sem, Nat.reduceAdd, Nat.reduceEqDiff, Nat.reduceLeDiff, Nat.reduceMul, Nat.reduceLT, reduceIte, Int.reduceToNat, w64_id, cast_succ])
    refine (one_ok _ p code ns t3 u3 3 hd2.src hc (by omega)).mono ?_
    rintro r H1 ⟨b, u4, t4, rfl, ht4, rfl⟩
    have hd3 := hd2.src' (t' := t4) (u' := u4) hlt
    generalize Y2.set p (srcB code t4 u4) = Y3 at *
    have hsl2 : (s ++ [(k : Int)]).length = s.length + 1 := by simp
    have hs2 : ∀ z ∈ s ++ [(k : Int)], 0 ≤ z ∧ z ≤ 1000 := fun z hz => by
      rcases List.mem_append.1 hz with h | h
      · exact hs z h
      · rw [List.mem_singleton.1 h]; omega
    cases b
    · repeat (first | (with_reducible first | refine SW.seq ?_ | refine SW.block ?_ | refine SW.rowC ?_ | refine SW.skip ?_ | refine SW.exit ?_ | intro _ | refine And.intro (by omega) ?_) | simp (config := { maxSteps := 1000000 }) (disch := (first | omega | (simp only [go_sem]; try omega))) only [go_sem, Nat.reduceAdd, Nat.reduceEqDiff, Nat.reduceLeDiff, Nat.reduceMul, Nat.reduceLT, reduceIte, Int.reduceToNat, w64_id, cast_succ])
      refine SW.condF rfl ?_
      repeat (first | (with_reducible first | refine SW.seq ?_ | refine SW.block ?_ | refine SW.rowC ?_ | refine SW.skip ?_ | refine SW.exit ?_ | intro _ | refine And.intro (by omega) ?_) | simp (config := { maxSteps := 1000000 }) (disch := (first | omega | (simp only [go_sem]; try omega))) only [go_sem, Nat.reduceAdd, Nat.reduceEqDiff, Nat.reduceLeDiff, Nat.reduceMul, Nat.reduceLT, reduceIte, Int.reduceToNat, w64_id, cast_succ])
      refine SLoop.next (1 + m - (k + 1)) (by omega) ⟨k + 1, ver + 1, i, t4, u4, s ++ [(k : Int)], v, O, by omega, rfl, by rw [hsl2]; simp [go_sem], hd3, hO, by omega, by omega, hs2, by omega⟩
    · have qa := fun o ext => pc_alive (off := o) (get_appU hd3.box ext)
      have ql := fun o ext => pc_ld (off := o) (get_appU hd3.box ext)
      have qa0 := fun o => pc_alive (off := o) hd3.box
      have ql0 := fun o => pc_ld (off := o) hd3.box
      repeat (first | (with_reducible first | refine SW.seq ?_ | refine SW.block ?_ | refine SW.rowC ?_ | refine SW.skip ?_ | refine SW.exit ?_ | intro _ | refine And.intro (by omega) ?_) | simp (config := { maxSteps := 1000000 }) (disch := (first | omega | (simp only [go_sem]; try omega))) only [go_sem, Nat.reduceAdd, Nat.reduceEqDiff, Nat.reduceLeDiff, Nat.reduceMul, Nat.reduceLT, reduceIte, Int.reduceToNat, w64_id, cast_succ])
      refine SW.condT rfl ?_
      repeat (first | (with_reducible first | refine SW.seq ?_ | refine SW.block ?_ | refine SW.rowC ?_ | refine SW.skip ?_ | refine SW.exit ?_ | intro _ | refine And.intro (by omega) ?_) | simp (config := { maxSteps := 1000000 }) (disch := (first | omega | (simp only [go_sem]; try omega))) only [go_sem, Nat.reduceAdd, Nat.reduceEqDiff, Nat.reduceLeDiff, Nat.reduceMul, Nat.reduceLT, reduceIte, Int.reduceToNat, w64_id, cast_succ, qa, ql, qa0, ql0])
      have hdg := hd3.grow [(⟨0, tyLL, 1, [.nm i (ver + 1) 0 (s.length + 1)]⟩ : Blk)]
      refine TabF.app (N := fun r => H.length + 2 ≤ r) (yss := [s ++ [(k : Int)]]) (hdg.tab.same (fun r hr _ => hr.1) (fun j b _ hb => hb)) rfl (fun j c ys g1 g2 => ?_) (by have := hd3.ib; have := (List.getElem?_eq_some_iff.1 hdg.set).1; omega) (by simp; omega) ?_
      · cases j with
        | succ j => simp at g1
        | zero =>
          simp at g1 g2
          subst g1; subst g2
          exact .inr (.inr ⟨i, ver + 1, by simp, hd3.ib, hdg.set⟩)
      intro v' Z c1 hZl hZt hZf hZn
      have hZb := hZf _ _ hdg.box (show tyCover ≠ tyLL by decide)
      have za := fun o => pc_alive (off := o) hZb
      have zw : astore Z [v'] (.pc (H.length + 1) 0 1) = some (Z.set (H.length + 1) ⟨0, tyCover, 1, [I (1 + m : Nat), v']⟩) := by rw [pc_st hZb (by simp)]; rfl
      repeat (first | (with_reducible first | refine SW.seq ?_ | refine SW.block ?_ | refine SW.rowC ?_ | refine SW.skip ?_ | refine SW.exit ?_ | intro _ | refine And.intro (by omega) ?_) | simp (config := { maxSteps := 1000000 }) (disch := (first | omega | (simp only [go_sem]; try omega))) only [go_sem, Nat.reduceAdd, Nat.reduceEqDiff, Nat.reduceLeDiff, Nat.reduceMul, Nat.reduceLT, reduceIte, Int.reduceToNat, w64_id, cast_succ, za, zw, c1.1, c1.2])
      have hd4 := hdg.put hlt hZl hZt hZf (fun j hj => hZn j (by omega) (by have := hd3.ib; have := (List.getElem?_eq_some_iff.1 hdg.set).1; omega))
      refine SLoop.next (1 + m - (k + 1)) (by omega) ⟨k + 1, 0, Z.length, t4, u4, [], v', O ++ [s ++ [(k : Int)]], by omega, rfl, by simp [go_sem], hd4, fun x hx => ?_, by simp; omega, by simp, by simp, by omega⟩
      rcases List.mem_append.1 hx with h | h
      · exact hO x h
      · rw [List.mem_singleton.1 h]; exact hs2
  · have d3 : decide ((k : Int) < ((1 + m : Nat) : Int)) = false := decide_eq_false (by omega)
    have hvs : aview Y (.nm i ver 0 s.length) = some (s.length, s.map I) := view_nm hd.set (by simp)
    repeat (first | (with_reducible first | refine SW.seq ?_ | refine SW.block ?_ | refine SW.rowC ?_ | refine SW.skip ?_ | refine SW.exit ?_ | intro _ | refine And.intro (by omega) ?_) | simp (config := { maxSteps := 1000000 }) (disch := (first | omega | (simp only [go_sem]; try omega))) only [go_sem, Nat.reduceAdd, Nat.reduceEqDiff, Nat.reduceLeDiff, Nat.reduceMul, Nat.reduceLT, reduceIte, Int.reduceToNat, w64_id, cast_succ, pa0, pl0, d3])
    refine SW.condF rfl ?_
    repeat (first | (with_reducible first | refine SW.seq ?_ | refine SW.block ?_ | refine SW.rowC ?_ | refine SW.skip ?_ | refine SW.exit ?_ | intro _ | refine And.intro (by omega) ?_) | simp (config := { maxSteps := 1000000 }) (disch := (first | omega | (simp only [go_sem]; try omega))) only [go_sem, Nat.reduceAdd, Nat.reduceEqDiff, Nat.reduceLeDiff, Nat.reduceMul, Nat.reduceLT, reduceIte, Int.reduceToNat, w64_id, cast_succ, hvs])
    by_cases hs0 : s.length = 0
    · have d4 : decide ((0 : Int) < (s.length : Int)) = false := decide_eq_false (by omega)
      repeat (first | (with_reducible first | refine SW.seq ?_ | refine SW.block ?_ | refine SW.rowC ?_ | refine SW.skip ?_ | refine SW.exit ?_ | intro _ | refine And.intro (by omega) ?_) | simp (config := { maxSteps := 1000000 }) (disch := (first | omega | (simp only [go_sem]; try omega))) only [go_sem, Nat.reduceAdd, Nat.reduceEqDiff, Nat.reduceLeDiff, Nat.reduceMul, Nat.reduceLT, reduceIte, Int.reduceToNat, w64_id, cast_succ, d4])
      refine SW.condF rfl ?_
      repeat (first | (with_reducible first | refine SW.seq ?_ | refine SW.block ?_ | refine SW.rowC ?_ | refine SW.skip ?_ | refine SW.exit ?_ | intro _ | refine And.intro (by omega) ?_) | simp (config := { maxSteps := 1000000 }) (disch := (first | omega | (simp only [go_sem]; try omega))) only [go_sem, Nat.reduceAdd, Nat.reduceEqDiff, Nat.reduceLeDiff, Nat.reduceMul, Nat.reduceLT, reduceIte, Int.reduceToNat, w64_id, cast_succ])
      have hT := hd.toT
      have hT1 : O.length ≤ 20 ∧ t3 ≤ t + 200 := by omega
      have hTO := hO
      refine SW.mixR (fun E' Z => aget E' 0 = .pc p 0 0 ∧ aget E' 2 = .pc H.length 0 0 ∧ aget E' 3 = .pc (H.length + 1) 0 0 ∧ ∃ (t' : Nat) (u' : Int) (v' : AV) (O' : List (List Int)), DrT H Z p code t' u' (I (1 + m : Nat)) v' O' ∧ (∀ x ∈ O', ∀ z ∈ x, 0 ≤ z ∧ z ≤ 1000) ∧ O'.length ≤ 40 ∧ t' ≤ t + 600) ?_ ?_
      · have xa := fun o => pc_alive (off := o) hT.box
        have xl := fun o => pc_ld (off := o) hT.box
        simp (config := { maxSteps := 1000000 }) (disch := (first | omega | (simp only [go_sem]; try omega))) only [go_sem, Nat.reduceAdd, Nat.reduceEqDiff, Nat.reduceLeDiff, Nat.reduceMul, Nat.reduceLT, reduceIte, Int.reduceToNat, w64_id, cast_succ, xa, xl]
        repeat' (with_reducible refine And.intro ?_ ?_)
        all_goals
          refine (l10DrawBlocks_ok _ p code ns t3 u3 ((1 + m : Nat) : Int) hT.src hc hcb (by omega) (by omega)).mono ?_
          rintro r H1 ⟨bl, u5, t5, rfl, hbl, ht5, rfl⟩
          have hT5 := hT.src' (t' := t5) (u' := u5) hlt
          generalize List.set Y p (srcB code t5 u5) = Y5 at *
          have ya := fun o => pc_alive (off := o) hT5.box
          have yl := fun o => pc_ld (off := o) hT5.box
          have h2l := (List.getElem?_eq_some_iff.1 hT5.box).1
          simp (config := { maxSteps := 1000000 }) (disch := (first | omega | (simp only [go_sem]; try omega))) only [go_sem, Nat.reduceAdd, Nat.reduceEqDiff, Nat.reduceLeDiff, Nat.reduceMul, Nat.reduceLT, reduceIte, Int.reduceToNat, w64_id, cast_succ, ya, yl]
          rw [show bl.length = (bl.map ilS).length by simp]
          refine TabF.app (yss := bl) hT5.tab (by simp) (fun j c ys g1 g2 => by
            rw [List.getElem?_map, g2] at g1
            simp at g1
            exact .inl g1.symm) (by omega) (by have := hbl.1; omega) ?_
          intro v' Z c1 hZl hZt hZf hZn
          have hZb := hZf _ _ hT5.box (show tyCover ≠ tyLL by decide)
          have za := fun o => pc_alive (off := o) hZb
          have zw : astore Z [v'] (.pc (H.length + 1) 0 1) = some (Z.set (H.length + 1) ⟨0, tyCover, 1, [I (1 + m : Nat), v']⟩) := by rw [pc_st hZb (by simp)]; rfl
          have fin : ∃ (t' : Nat) (u' : Int) (v2 : AV) (O' : List (List Int)), DrT H (Z.set (H.length + 1) ⟨0, tyCover, 1, [I (1 + m : Nat), v']⟩) p code t' u' (I (1 + m : Nat)) v2 O' ∧ (∀ x ∈ O', ∀ z ∈ x, 0 ≤ z ∧ z ≤ 1000) ∧ O'.length ≤ 40 ∧ t' ≤ t + 600 := by
            refine ⟨t5, u5, v', O ++ bl, hT5.put hlt hZt hZf (fun j hj => hZn j (by omega) (by omega)), fun x hx => ?_, by have := hbl.1; rw [List.length_append]; omega, by omega⟩
            rcases List.mem_append.1 hx with h | h
            · exact hTO x h
            · intro z hz
              have := (hbl.2 x h).2 z hz
              omega
          simp (config := { maxSteps := 1000000 }) (disch := (first | omega | (simp only [go_sem]; try omega))) only [go_sem, Nat.reduceAdd, Nat.reduceEqDiff, Nat.reduceLeDiff, Nat.reduceMul, Nat.reduceLT, reduceIte, Int.reduceToNat, w64_id, cast_succ, za, zw, c1.1, c1.2]
          exact fin
      rintro E2 Z ⟨e0, e2, e3, tz, uz, vz, Oz, hZ, hOz, hOzl, htz⟩
      have xa := fun o => pc_alive (off := o) hZ.box
      have xl := fun o => pc_ld (off := o) hZ.box
      have hzone := hZ.tab.one
      obtain ⟨zc, hzv⟩ := hZ.tab.view
      have hbl2 := (List.getElem?_eq_some_iff.1 hZ.box).1
      have fin : ∀ (W : List Blk) (tw : Nat) (uw : Int) (vw : AV) (Ow : List (List Int)) (E : Env), aget E 2 = .pc H.length 0 0 → DrT H W p code tw uw (I (1 + m : Nat)) vw Ow → (∀ x ∈ Ow, ∀ z ∈ x, 0 ≤ z ∧ z ≤ 1000) → Ow.length ≤ 40 → FunPost [.cell 2 2] H (fun r H' => ∃ (n : Int) (O : List (List Int)) (u' : Int) (t' : Nat), r = .agg [I n, ilSS O] ∧ smallD O ∧ H' = H.set p (srcB code t' u')) .ret E (W.set H.length ⟨0, tyCover, 1, [I (1 + m : Nat), vw]⟩) := by
        intro W tw uw vw Ow E hE hW hOw hOwl
        have hrl := (List.getElem?_eq_some_iff.1 hW.res).1
        refine FunPost.cell (cs := [I (1 + m : Nat), vw]) (by rw [hE, pc_lds (List.getElem?_set_self hrl) (by simp)]; rfl) ?_
        obtain ⟨ext, he⟩ := ext_ofD (H := H.set p (srcB code tw uw)) (H1 := W.set H.length ⟨0, tyCover, 1, [I (1 + m : Nat), vw]⟩) (by rw [List.length_set, List.length_set]; omega) (fun j hj => by
          rw [List.length_set] at hj
          rw [List.getElem?_set_ne (by omega)]
          by_cases hjp : j = p
          · subst hjp; rw [List.getElem?_set_self hlt]; exact hW.src
          · rw [List.getElem?_set_ne (Ne.symm hjp)]; exact hW.fr j hj hjp)
        have hfz : Froz (W.set H.length ⟨0, tyCover, 1, [I (1 + m : Nat), vw]⟩) H.length vw (ilSS Ow) := (hW.tab.same (N' := fun r => H.length + 2 ≤ r) (fun r hr _ => hr) (fun j b hj hb => by rw [List.getElem?_set_ne (by omega)]; exact hb)).froz (fun r hr => by omega)
        rw [he] at hfz ⊢
        exact GR.frozH (H0 := H) (H1 := H.set p (srcB code tw uw)) (r' := .agg [I (1 + m : Nat), ilSS Ow]) (hlS _ _) (hBG _ _) (froz_agg2 (froz_I' _) hfz) ⟨_, Ow, uw, tw, rfl, ⟨by omega, hOw⟩, rfl⟩
      simp (config := { maxSteps := 1000000 }) (disch := (first | omega | (simp only [go_sem]; try omega))) only [go_sem, Nat.reduceAdd, Nat.reduceEqDiff, Nat.reduceLeDiff, Nat.reduceMul, Nat.reduceLT, reduceIte, Int.reduceToNat, w64_id, cast_succ, e0, e2, e3]
      by_cases hz1 : 1 < Oz.length
      · have d5 : decide ((1 : Int) < (Oz.length : Int)) = true := decide_eq_true (by omega)
        repeat (first | (with_reducible first | refine SW.seq ?_ | refine SW.block ?_ | refine SW.rowC ?_ | refine SW.skip ?_ | refine SW.exit ?_ | intro _ | refine And.intro (by omega) ?_) | simp (config := { maxSteps := 1000000 }) (disch := (first | omega | (simp only [go_sem]; try omega))) only [go_sem, Nat.reduceAdd, Nat.reduceEqDiff, Nat.reduceLeDiff, Nat.reduceMul, Nat.reduceLT, reduceIte, Int.reduceToNat, w64_id, cast_succ, xa, xl, hzv, hzone.1, hzone.2, d5])
        refine SW.condT rfl ?_
        repeat (first | (with_reducible first | refine SW.seq ?_ | refine SW.block ?_ | refine SW.rowC ?_ | refine SW.skip ?_ | refine SW.exit ?_ | intro _ | refine And.intro (by omega) ?_) | simp (config := { maxSteps := 1000000 }) (disch := (first | omega | (simp only [go_sem]; try omega))) only [go_sem, Nat.reduceAdd, Nat.reduceEqDiff, Nat.reduceLeDiff, Nat.reduceMul, Nat.reduceLT, reduceIte, Int.reduceToNat, w64_id, cast_succ, xa, xl, hzv, hzone.1, hzone.2])
        refine (pick_ok _ p code ns tz uz Oz.length hZ.src hc (by omega)).mono ?_
        rintro r H1 ⟨y, u6, t6, rfl, y0, y1, ht6, rfl⟩
        have hZ6 := hZ.src' (t' := t6) (u' := u6) hlt
        generalize Z.set p (srcB code t6 u6) = Z6 at *
        obtain ⟨y, rfl⟩ := Int.eq_ofNat_of_zero_le y0
        have hyl : y < Oz.length := by omega
        rcases hZ6.tab with ⟨_, h⟩ | ⟨tt, vv, cs, rfl, g2, g3, g4, g5⟩
        · rw [h] at hz1; simp at hz1
        have sa := fun o => pc_alive (off := o) hZ6.box
        have sl := fun o => pc_ld (off := o) hZ6.box
        have sv : aview Z6 (.nm tt vv 0 Oz.length) = some (Oz.length, cs) := view_nm g3 g4
        obtain ⟨c0, hc0⟩ : ∃ c, cs[0]? = some c := ⟨_, List.getElem?_eq_getElem (by omega)⟩
        obtain ⟨cy, hcy⟩ : ∃ c, cs[y]? = some c := ⟨_, List.getElem?_eq_getElem (by omega)⟩
        have ho0 := g5 0 c0 (Oz.getD 0 []) hc0 (by rw [getD_getC (by omega), List.getElem?_eq_getElem (by omega)])
        have hoy := g5 y cy (Oz.getD y []) hcy (by rw [getD_getC hyl, List.getElem?_eq_getElem hyl])
        have htl := (List.getElem?_eq_some_iff.1 g3).1
        have w0 : astore Z6 [cy] (.el (.nm tt vv 0 Oz.length) 0) = some (Z6.set tt ⟨vv, tyLL, 1, cs.set 0 cy⟩) := store_nm g3 (by omega)
        have w1 : astore (Z6.set tt ⟨vv, tyLL, 1, cs.set 0 cy⟩) [c0] (.el (.nm tt vv 0 Oz.length) y) = some (Z6.set tt ⟨vv, tyLL, 1, (cs.set 0 cy).set y c0⟩) := by
          rw [store_nm (List.getElem?_set_self htl) (by rw [List.length_set]; omega), List.set_set]
        have bx7 : (Z6.set tt ⟨vv, tyLL, 1, cs.set 0 cy⟩)[H.length + 1]? = some ⟨0, tyCover, 1, [I (1 + m : Nat), .nm tt vv 0 Oz.length]⟩ := by rw [List.getElem?_set_ne (by omega)]; exact hZ6.box
        have sa7 := fun o => pc_alive (off := o) bx7
        have sl7 := fun o => pc_ld (off := o) bx7
        have sv7 : aview (Z6.set tt ⟨vv, tyLL, 1, cs.set 0 cy⟩) (.nm tt vv 0 Oz.length) = some (Oz.length, cs.set 0 cy) := view_nm (List.getElem?_set_self htl) (by rw [List.length_set]; exact g4)
        have h8 : DrT H (Z6.set tt ⟨vv, tyLL, 1, (cs.set 0 cy).set y c0⟩) p code t6 u6 (I (1 + m : Nat)) (.nm tt vv 0 Oz.length) ((Oz.set 0 (Oz.getD y [])).set y (Oz.getD 0 [])) := by
          have g : ∀ j, j ≠ tt → (Z6.set tt ⟨vv, tyLL, 1, (cs.set 0 cy).set y c0⟩)[j]? = Z6[j]? := fun j hj => List.getElem?_set_ne (Ne.symm hj)
          refine ⟨(g _ (by omega)).trans hZ6.src, (g _ (by omega)).trans hZ6.res, (g _ (by omega)).trans hZ6.box, .inr ⟨tt, vv, _, by simp, g2, List.getElem?_set_self htl, by simp [g4], fun j c xs q1 q2 => ?_⟩, fun j hj hjp => (g j (by omega)).trans (hZ6.fr j hj hjp)⟩
          by_cases hjy : y = j
          · subst hjy
            rw [List.getElem?_set_self (by rw [List.length_set]; omega)] at q1 q2
            cases q1; cases q2
            exact ho0.setLL g3
          · rw [List.getElem?_set_ne hjy] at q1 q2
            by_cases hj0 : 0 = j
            · subst hj0
              rw [List.getElem?_set_self (by omega)] at q1 q2
              cases q1; cases q2
              exact hoy.setLL g3
            · rw [List.getElem?_set_ne hj0] at q1 q2
              exact (g5 j c xs q1 q2).setLL g3
        have hO8 : ∀ x ∈ (Oz.set 0 (Oz.getD y [])).set y (Oz.getD 0 []), ∀ z ∈ x, 0 ≤ z ∧ z ≤ 1000 := fun x hx => by
          have m0 : Oz.getD 0 [] ∈ Oz := by rw [getD_getC (by omega)]; exact List.getElem_mem _
          have my : Oz.getD y [] ∈ Oz := by rw [getD_getC hyl]; exact List.getElem_mem _
          rcases List.mem_or_eq_of_mem_set hx with hx | rfl
          · rcases List.mem_or_eq_of_mem_set hx with hx | rfl
            · exact hOz x hx
            · exact hOz _ my
          · exact hOz _ m0
        have xls := pc_lds (n := 2) (off := 0) h8.box (by simp)
        have rw1 : astore (Z6.set tt ⟨vv, tyLL, 1, (cs.set 0 cy).set y c0⟩) [I (1 + m : Nat), .nm tt vv 0 Oz.length] (.pc H.length 0 0) = some ((Z6.set tt ⟨vv, tyLL, 1, (cs.set 0 cy).set y c0⟩).set H.length ⟨0, tyCover, 1, [I (1 + m : Nat), .nm tt vv 0 Oz.length]⟩) := by rw [pc_st h8.res (by simp)]; rfl
        have ra := fun o => pc_alive (off := o) h8.res
        have xa8 := fun o => pc_alive (off := o) h8.box
        repeat (first | (with_reducible first | refine SW.seq ?_ | refine SW.block ?_ | refine SW.rowC ?_ | refine SW.skip ?_ | refine SW.exit ?_ | intro _ | refine And.intro (by omega) ?_) | simp (config := { maxSteps := 1000000 }) (disch := (first | omega | (simp only [go_sem]; try omega))) only [go_sem, Nat.reduceAdd, Nat.reduceEqDiff, Nat.reduceLeDiff, Nat.reduceMul, Nat.reduceLT, reduceIte, Int.reduceToNat, w64_id, cast_succ, sa, sl, sv, hc0, hcy, hoy.one.1, hoy.one.2, ho0.one.1, ho0.one.2, w0, sa7, sl7, sv7, w1])
        repeat (first | (with_reducible first | refine SW.seq ?_ | refine SW.block ?_ | refine SW.rowC ?_ | refine SW.skip ?_ | refine SW.exit ?_ | intro _ | refine And.intro (by omega) ?_) | simp (config := { maxSteps := 1000000 }) (disch := (first | omega | (simp only [go_sem]; try omega))) only [go_sem, Nat.reduceAdd, Nat.reduceEqDiff, Nat.reduceLeDiff, Nat.reduceMul, Nat.reduceLT, reduceIte, Int.reduceToNat, w64_id, cast_succ, xls, rw1, ra, xa8])
        refine SW.ret ?_
        exact fin _ t6 u6 _ _ _ rfl h8 hO8 (by simp; omega)
      · have d5 : decide ((1 : Int) < (Oz.length : Int)) = false := decide_eq_false (by omega)
        repeat (first | (with_reducible first | refine SW.seq ?_ | refine SW.block ?_ | refine SW.rowC ?_ | refine SW.skip ?_ | refine SW.exit ?_ | intro _ | refine And.intro (by omega) ?_) | simp (config := { maxSteps := 1000000 }) (disch := (first | omega | (simp only [go_sem]; try omega))) only [go_sem, Nat.reduceAdd, Nat.reduceEqDiff, Nat.reduceLeDiff, Nat.reduceMul, Nat.reduceLT, reduceIte, Int.reduceToNat, w64_id, cast_succ, xa, xl, hzv, hzone.1, hzone.2, d5])
        refine SW.condF rfl ?_
        have xls : acells Z 2 (.pc (H.length + 1) 0 0) = some [I (1 + m : Nat), vz] := pc_lds hZ.box (by simp)
        have rw1 : astore Z [I (1 + m : Nat), vz] (.pc H.length 0 0) = some (Z.set H.length ⟨0, tyCover, 1, [I (1 + m : Nat), vz]⟩) := by rw [pc_st hZ.res (by simp)]; rfl
        have ra := fun o => pc_alive (off := o) hZ.res
        repeat (first | (with_reducible first | refine SW.seq ?_ | refine SW.block ?_ | refine SW.rowC ?_ | refine SW.skip ?_ | refine SW.exit ?_ | intro _ | refine And.intro (by omega) ?_) | simp (config := { maxSteps := 1000000 }) (disch := (first | omega | (simp only [go_sem]; try omega))) only [go_sem, Nat.reduceAdd, Nat.reduceEqDiff, Nat.reduceLeDiff, Nat.reduceMul, Nat.reduceLT, reduceIte, Int.reduceToNat, w64_id, cast_succ, xa, xls, ra, rw1, hzone.1, hzone.2])
        refine SW.ret ?_
        exact fin Z tz uz vz Oz _ rfl hZ hOz hOzl
    · have d4 : decide ((0 : Int) < (s.length : Int)) = true := decide_eq_true (by omega)
      repeat (first | (with_reducible first | refine SW.seq ?_ | refine SW.block ?_ | refine SW.rowC ?_ | refine SW.skip ?_ | refine SW.exit ?_ | intro _ | refine And.intro (by omega) ?_) | simp (config := { maxSteps := 1000000 }) (disch := (first | omega | (simp only [go_sem]; try omega))) only [go_sem, Nat.reduceAdd, Nat.reduceEqDiff, Nat.reduceLeDiff, Nat.reduceMul, Nat.reduceLT, reduceIte, Int.reduceToNat, w64_id, cast_succ, d4])
      refine (pick_ok _ p code ns t3 u3 4 hd.src hc (by omega)).mono ?_
      rintro r H1 ⟨z, u4, t4, rfl, z0, z1, ht4, rfl⟩
      have hd3 := hd.src' (t' := t4) (u' := u4) hlt
      generalize Y.set p (srcB code t4 u4) = Y3 at *
      by_cases hz0 : z = 0
      · have d6 : decide (0 < z) = false := decide_eq_false (by omega)
        repeat (first | (with_reducible first | refine SW.seq ?_ | refine SW.block ?_ | refine SW.rowC ?_ | refine SW.skip ?_ | refine SW.exit ?_ | intro _ | refine And.intro (by omega) ?_) | simp (config := { maxSteps := 1000000 }) (disch := (first | omega | (simp only [go_sem]; try omega))) only [go_sem, Nat.reduceAdd, Nat.reduceEqDiff, Nat.reduceLeDiff, Nat.reduceMul, Nat.reduceLT, reduceIte, Int.reduceToNat, w64_id, cast_succ, d6])
        refine SW.condF rfl ?_
        repeat (first | (with_reducible first | refine SW.seq ?_ | refine SW.block ?_ | refine SW.rowC ?_ | refine SW.skip ?_ | refine SW.exit ?_ | intro _ | refine And.intro (by omega) ?_) | simp (config := { maxSteps := 1000000 }) (disch := (first | omega | (simp only [go_sem]; try omega))) only [go_sem, Nat.reduceAdd, Nat.reduceEqDiff, Nat.reduceLeDiff, Nat.reduceMul, Nat.reduceLT, reduceIte, Int.reduceToNat, w64_id, cast_succ])
        have hT := hd3.toT
        have hT1 : O.length ≤ 20 ∧ t4 ≤ t + 200 := by omega
        have hTO := hO
        refine SW.mixR (fun E' Z => aget E' 0 = .pc p 0 0 ∧ aget E' 2 = .pc H.length 0 0 ∧ aget E' 3 = .pc (H.length + 1) 0 0 ∧ ∃ (t' : Nat) (u' : Int) (v' : AV) (O' : List (List Int)), DrT H Z p code t' u' (I (1 + m : Nat)) v' O' ∧ (∀ x ∈ O', ∀ z ∈ x, 0 ≤ z ∧ z ≤ 1000) ∧ O'.length ≤ 40 ∧ t' ≤ t + 600) ?_ ?_
        · have xa := fun o => pc_alive (off := o) hT.box
          have xl := fun o => pc_ld (off := o) hT.box
          simp (config := { maxSteps := 1000000 }) (disch := (first | omega | (simp only [go_sem]; try omega))) only [go_sem, Nat.reduceAdd, Nat.reduceEqDiff, Nat.reduceLeDiff, Nat.reduceMul, Nat.reduceLT, reduceIte, Int.reduceToNat, w64_id, cast_succ, xa, xl]
          repeat' (with_reducible refine And.intro ?_ ?_)
          all_goals
            refine (l10DrawBlocks_ok _ p code ns t4 u4 ((1 + m : Nat) : Int) hT.src hc hcb (by omega) (by omega)).mono ?_
            rintro r H1 ⟨bl, u5, t5, rfl, hbl, ht5, rfl⟩
            have hT5 := hT.src' (t' := t5) (u' := u5) hlt
            generalize List.set Y3 p (srcB code t5 u5) = Y5 at *
            have ya := fun o => pc_alive (off := o) hT5.box
            have yl := fun o => pc_ld (off := o) hT5.box
            have h2l := (List.getElem?_eq_some_iff.1 hT5.box).1
            simp (config := { maxSteps := 1000000 }) (disch := (first | omega | (simp only [go_sem]; try omega))) only [go_sem, Nat.reduceAdd, Nat.reduceEqDiff, Nat.reduceLeDiff, Nat.reduceMul, Nat.reduceLT, reduceIte, Int.reduceToNat, w64_id, cast_succ, ya, yl]
            rw [show bl.length = (bl.map ilS).length by simp]
            refine TabF.app (yss := bl) hT5.tab (by simp) (fun j c ys g1 g2 => by
              rw [List.getElem?_map, g2] at g1
              simp at g1
              exact .inl g1.symm) (by omega) (by have := hbl.1; omega) ?_
            intro v' Z c1 hZl hZt hZf hZn
            have hZb := hZf _ _ hT5.box (show tyCover ≠ tyLL by decide)
            have za := fun o => pc_alive (off := o) hZb
            have zw : astore Z [v'] (.pc (H.length + 1) 0 1) = some (Z.set (H.length + 1) ⟨0, tyCover, 1, [I (1 + m : Nat), v']⟩) := by rw [pc_st hZb (by simp)]; rfl
            have fin : ∃ (t' : Nat) (u' : Int) (v2 : AV) (O' : List (List Int)), DrT H (Z.set (H.length + 1) ⟨0, tyCover, 1, [I (1 + m : Nat), v']⟩) p code t' u' (I (1 + m : Nat)) v2 O' ∧ (∀ x ∈ O', ∀ z ∈ x, 0 ≤ z ∧ z ≤ 1000) ∧ O'.length ≤ 40 ∧ t' ≤ t + 600 := by
              refine ⟨t5, u5, v', O ++ bl, hT5.put hlt hZt hZf (fun j hj => hZn j (by omega) (by omega)), fun x hx => ?_, by have := hbl.1; rw [List.length_append]; omega, by omega⟩
              rcases List.mem_append.1 hx with h | h
              · exact hTO x h
              · intro z hz
                have := (hbl.2 x h).2 z hz
                omega
            simp (config := { maxSteps := 1000000 }) (disch := (first | omega | (simp only [go_sem]; try omega))) only [go_sem, Nat.reduceAdd, Nat.reduceEqDiff, Nat.reduceLeDiff, Nat.reduceMul, Nat.reduceLT, reduceIte, Int.reduceToNat, w64_id, cast_succ, za, zw, c1.1, c1.2]
            exact fin
        rintro E2 Z ⟨e0, e2, e3, tz, uz, vz, Oz, hZ, hOz, hOzl, htz⟩
        have xa := fun o => pc_alive (off := o) hZ.box
        have xl := fun o => pc_ld (off := o) hZ.box
        have hzone := hZ.tab.one
        obtain ⟨zc, hzv⟩ := hZ.tab.view
        have hbl2 := (List.getElem?_eq_some_iff.1 hZ.box).1
        have fin : ∀ (W : List Blk) (tw : Nat) (uw : Int) (vw : AV) (Ow : List (List Int)) (E : Env), aget E 2 = .pc H.length 0 0 → DrT H W p code tw uw (I (1 + m : Nat)) vw Ow → (∀ x ∈ Ow, ∀ z ∈ x, 0 ≤ z ∧ z ≤ 1000) → Ow.length ≤ 40 → FunPost [.cell 2 2] H (fun r H' => ∃ (n : Int) (O : List (List Int)) (u' : Int) (t' : Nat), r = .agg [I n, ilSS O] ∧ smallD O ∧ H' = H.set p (srcB code t' u')) .ret E (W.set H.length ⟨0, tyCover, 1, [I (1 + m : Nat), vw]⟩) := by
          intro W tw uw vw Ow E hE hW hOw hOwl
          have hrl := (List.getElem?_eq_some_iff.1 hW.res).1
          refine FunPost.cell (cs := [I (1 + m : Nat), vw]) (by rw [hE, pc_lds (List.getElem?_set_self hrl) (by simp)]; rfl) ?_
          obtain ⟨ext, he⟩ := ext_ofD (H := H.set p (srcB code tw uw)) (H1 := W.set H.length ⟨0, tyCover, 1, [I (1 + m : Nat), vw]⟩) (by rw [List.length_set, List.length_set]; omega) (fun j hj => by
            rw [List.length_set] at hj
            rw [List.getElem?_set_ne (by omega)]
            by_cases hjp : j = p
            · subst hjp; rw [List.getElem?_set_self hlt]; exact hW.src
            · rw [List.getElem?_set_ne (Ne.symm hjp)]; exact hW.fr j hj hjp)
          have hfz : Froz (W.set H.length ⟨0, tyCover, 1, [I (1 + m : Nat), vw]⟩) H.length vw (ilSS Ow) := (hW.tab.same (N' := fun r => H.length + 2 ≤ r) (fun r hr _ => hr) (fun j b hj hb => by rw [List.getElem?_set_ne (by omega)]; exact hb)).froz (fun r hr => by omega)
          rw [he] at hfz ⊢
          exact GR.frozH (H0 := H) (H1 := H.set p (srcB code tw uw)) (r' := .agg [I (1 + m : Nat), ilSS Ow]) (hlS _ _) (hBG _ _) (froz_agg2 (froz_I' _) hfz) ⟨_, Ow, uw, tw, rfl, ⟨by omega, hOw⟩, rfl⟩
        simp (config := { maxSteps := 1000000 }) (disch := (first | omega | (simp only [go_sem]; try omega))) only [go_sem, Nat.reduceAdd, Nat.reduceEqDiff, Nat.reduceLeDiff, Nat.reduceMul, Nat.reduceLT, reduceIte, Int.reduceToNat, w64_id, cast_succ, e0, e2, e3]
        by_cases hz1 : 1 < Oz.length
        · have d5 : decide ((1 : Int) < (Oz.length : Int)) = true := decide_eq_true (by omega)
          repeat (first | (with_reducible first | refine SW.seq ?_ | refine SW.block ?_ | refine SW.rowC ?_ | refine SW.skip ?_ | refine SW.exit ?_ | intro _ | refine And.intro (by omega) ?_) | simp (config := { maxSteps := 1000000 }) (disch := (first | omega | (simp only [go_sem]; try omega))) only [go_sem, Nat.reduceAdd, Nat.reduceEqDiff, Nat.reduceLeDiff, Nat.reduceMul, Nat.reduceLT, reduceIte, Int.reduceToNat, w64_id, cast_succ, xa, xl, hzv, hzone.1, hzone.2, d5])
          refine SW.condT rfl ?_
          repeat (first | (with_reducible first | refine SW.seq ?_ | refine SW.block ?_ | refine SW.rowC ?_ | refine SW.skip ?_ | refine SW.exit ?_ | intro _ | refine And.intro (by omega) ?_) | simp (config := { maxSteps := 1000000 }) (disch := (first | omega | (simp only [go_sem]; try omega))) only [go_sem, Nat.reduceAdd, Nat.reduceEqDiff, Nat.reduceLeDiff, Nat.reduceMul, Nat.reduceLT, reduceIte, Int.reduceToNat, w64_id, cast_succ, xa, xl, hzv, hzone.1, hzone.2])
          refine (pick_ok _ p code ns tz uz Oz.length hZ.src hc (by omega)).mono ?_
          rintro r H1 ⟨y, u6, t6, rfl, y0, y1, ht6, rfl⟩
          have hZ6 := hZ.src' (t' := t6) (u' := u6) hlt
          generalize Z.set p (srcB code t6 u6) = Z6 at *
          obtain ⟨y, rfl⟩ := Int.eq_ofNat_of_zero_le y0
          have hyl : y < Oz.length := by omega
          rcases hZ6.tab with ⟨_, h⟩ | ⟨tt, vv, cs, rfl, g2, g3, g4, g5⟩
          · rw [h] at hz1; simp at hz1
          have sa := fun o => pc_alive (off := o) hZ6.box
          have sl := fun o => pc_ld (off := o) hZ6.box
          have sv : aview Z6 (.nm tt vv 0 Oz.length) = some (Oz.length, cs) := view_nm g3 g4
          obtain ⟨c0, hc0⟩ : ∃ c, cs[0]? = some c := ⟨_, List.getElem?_eq_getElem (by omega)⟩
          obtain ⟨cy, hcy⟩ : ∃ c, cs[y]? = some c := ⟨_, List.getElem?_eq_getElem (by omega)⟩
          have ho0 := g5 0 c0 (Oz.getD 0 []) hc0 (by rw [getD_getC (by omega), List.getElem?_eq_getElem (by omega)])
          have hoy := g5 y cy (Oz.getD y []) hcy (by rw [getD_getC hyl, List.getElem?_eq_getElem hyl])
          have htl := (List.getElem?_eq_some_iff.1 g3).1
          have w0 : astore Z6 [cy] (.el (.nm tt vv 0 Oz.length) 0) = some (Z6.set tt ⟨vv, tyLL, 1, cs.set 0 cy⟩) := store_nm g3 (by omega)
          have w1 : astore (Z6.set tt ⟨vv, tyLL, 1, cs.set 0 cy⟩) [c0] (.el (.nm tt vv 0 Oz.length) y) = some (Z6.set tt ⟨vv, tyLL, 1, (cs.set 0 cy).set y c0⟩) := by
            rw [store_nm (List.getElem?_set_self htl) (by rw [List.length_set]; omega), List.set_set]
          have bx7 : (Z6.set tt ⟨vv, tyLL, 1, cs.set 0 cy⟩)[H.length + 1]? = some ⟨0, tyCover, 1, [I (1 + m : Nat), .nm tt vv 0 Oz.length]⟩ := by rw [List.getElem?_set_ne (by omega)]; exact hZ6.box
          have sa7 := fun o => pc_alive (off := o) bx7
          have sl7 := fun o => pc_ld (off := o) bx7
          have sv7 : aview (Z6.set tt ⟨vv, tyLL, 1, cs.set 0 cy⟩) (.nm tt vv 0 Oz.length) = some (Oz.length, cs.set 0 cy) := view_nm (List.getElem?_set_self htl) (by rw [List.length_set]; exact g4)
          have h8 : DrT H (Z6.set tt ⟨vv, tyLL, 1, (cs.set 0 cy).set y c0⟩) p code t6 u6 (I (1 + m : Nat)) (.nm tt vv 0 Oz.length) ((Oz.set 0 (Oz.getD y [])).set y (Oz.getD 0 [])) := by
            have g : ∀ j, j ≠ tt → (Z6.set tt ⟨vv, tyLL, 1, (cs.set 0 cy).set y c0⟩)[j]? = Z6[j]? := fun j hj => List.getElem?_set_ne (Ne.symm hj)
            refine ⟨(g _ (by omega)).trans hZ6.src, (g _ (by omega)).trans hZ6.res, (g _ (by omega)).trans hZ6.box, .inr ⟨tt, vv, _, by simp, g2, List.getElem?_set_self htl, by simp [g4], fun j c xs q1 q2 => ?_⟩, fun j hj hjp => (g j (by omega)).trans (hZ6.fr j hj hjp)⟩
            by_cases hjy : y = j
            · subst hjy
              rw [List.getElem?_set_self (by rw [List.length_set]; omega)] at q1 q2
              cases q1; cases q2
              exact ho0.setLL g3
            · rw [List.getElem?_set_ne hjy] at q1 q2
              by_cases hj0 : 0 = j
              · subst hj0
                rw [List.getElem?_set_self (by omega)] at q1 q2
                cases q1; cases q2
                exact hoy.setLL g3
              · rw [List.getElem?_set_ne hj0] at q1 q2
                exact (g5 j c xs q1 q2).setLL g3
          have hO8 : ∀ x ∈ (Oz.set 0 (Oz.getD y [])).set y (Oz.getD 0 []), ∀ z ∈ x, 0 ≤ z ∧ z ≤ 1000 := fun x hx => by
            have m0 : Oz.getD 0 [] ∈ Oz := by rw [getD_getC (by omega)]; exact List.getElem_mem _
            have my : Oz.getD y [] ∈ Oz := by rw [getD_getC hyl]; exact List.getElem_mem _
            rcases List.mem_or_eq_of_mem_set hx with hx | rfl
            · rcases List.mem_or_eq_of_mem_set hx with hx | rfl
              · exact hOz x hx
              · exact hOz _ my
            · exact hOz _ m0
          have xls := pc_lds (n := 2) (off := 0) h8.box (by simp)
          have rw1 : astore (Z6.set tt ⟨vv, tyLL, 1, (cs.set 0 cy).set y c0⟩) [I (1 + m : Nat), .nm tt vv 0 Oz.length] (.pc H.length 0 0) = some ((Z6.set tt ⟨vv, tyLL, 1, (cs.set 0 cy).set y c0⟩).set H.length ⟨0, tyCover, 1, [I (1 + m : Nat), .nm tt vv 0 Oz.length]⟩) := by rw [pc_st h8.res (by simp)]; rfl
          have ra := fun o => pc_alive (off := o) h8.res
          have xa8 := fun o => pc_alive (off := o) h8.box
          repeat (first | (with_reducible first | refine SW.seq ?_ | refine SW.block ?_ | refine SW.rowC ?_ | refine SW.skip ?_ | refine SW.exit ?_ | intro _ | refine And.intro (by omega) ?_) | simp (config := { maxSteps := 1000000 }) (disch := (first | omega | (simp only [go_sem]; try omega))) only [go_sem, Nat.reduceAdd, Nat.reduceEqDiff, Nat.reduceLeDiff, Nat.reduceMul, Nat.reduceLT, reduceIte, Int.reduceToNat, w64_id, cast_succ, sa, sl, sv, hc0, hcy, hoy.one.1, hoy.one.2, ho0.one.1, ho0.one.2, w0, sa7, sl7, sv7, w1])
          repeat (first | (with_reducible first | refine SW.seq ?_ | refine SW.block ?_ | refine SW.rowC ?_ | refine SW.skip ?_ | refine SW.exit ?_ | intro _ | refine And.intro (by omega) ?_) | simp (config := { maxSteps := 1000000 }) (disch := (first | omega | (simp only [go_sem]; try omega))) only [go_sem, Nat.reduceAdd, Nat.reduceEqDiff, Nat.reduceLeDiff, Nat.reduceMul, Nat.reduceLT, reduceIte, Int.reduceToNat, w64_id, cast_succ, xls, rw1, ra, xa8])
          refine SW.ret ?_
          exact fin _ t6 u6 _ _ _ rfl h8 hO8 (by simp; omega)
        · have d5 : decide ((1 : Int) < (Oz.length : Int)) = false := decide_eq_false (by omega)
          repeat (first | (with_reducible first | refine SW.seq ?_ | refine SW.block ?_ | refine SW.rowC ?_ | refine SW.skip ?_ | refine SW.exit ?_ | intro _ | refine And.intro (by omega) ?_) | simp (config := { maxSteps := 1000000 }) (disch := (first | omega | (simp only [go_sem]; try omega))) only [go_sem, Nat.reduceAdd, Nat.reduceEqDiff, Nat.reduceLeDiff, Nat.reduceMul, Nat.reduceLT, reduceIte, Int.reduceToNat, w64_id, cast_succ, xa, xl, hzv, hzone.1, hzone.2, d5])
          refine SW.condF rfl ?_
          have xls : acells Z 2 (.pc (H.length + 1) 0 0) = some [I (1 + m : Nat), vz] := pc_lds hZ.box (by simp)
          have rw1 : astore Z [I (1 + m : Nat), vz] (.pc H.length 0 0) = some (Z.set H.length ⟨0, tyCover, 1, [I (1 + m : Nat), vz]⟩) := by rw [pc_st hZ.res (by simp)]; rfl
          have ra := fun o => pc_alive (off := o) hZ.res
          repeat (first | (with_reducible first | refine SW.seq ?_ | refine SW.block ?_ | refine SW.rowC ?_ | refine SW.skip ?_ | refine SW.exit ?_ | intro _ | refine And.intro (by omega) ?_) | simp (config := { maxSteps := 1000000 }) (disch := (first | omega | (simp only [go_sem]; try omega))) only [go_sem, Nat.reduceAdd, Nat.reduceEqDiff, Nat.reduceLeDiff, Nat.reduceMul, Nat.reduceLT, reduceIte, Int.reduceToNat, w64_id, cast_succ, xa, xls, ra, rw1, hzone.1, hzone.2])
          refine SW.ret ?_
          exact fin Z tz uz vz Oz _ rfl hZ hOz hOzl
      · have d6 : decide (0 < z) = true := decide_eq_true (by omega)
        have qa := fun o ext => pc_alive (off := o) (get_appU hd3.box ext)
        have ql := fun o ext => pc_ld (off := o) (get_appU hd3.box ext)
        have qa0 := fun o => pc_alive (off := o) hd3.box
        have ql0 := fun o => pc_ld (off := o) hd3.box
        repeat (first | (with_reducible first | refine SW.seq ?_ | refine SW.block ?_ | refine SW.rowC ?_ | refine SW.skip ?_ | refine SW.exit ?_ | intro _ | refine And.intro (by omega) ?_) | simp (config := { maxSteps := 1000000 }) (disch := (first | omega | (simp only [go_sem]; try omega))) only [go_sem, Nat.reduceAdd, Nat.reduceEqDiff, Nat.reduceLeDiff, Nat.reduceMul, Nat.reduceLT, reduceIte, Int.reduceToNat, w64_id, cast_succ, d6])
        refine SW.condT rfl ?_
        repeat (first | (with_reducible first | refine SW.seq ?_ | refine SW.block ?_ | refine SW.rowC ?_ | refine SW.skip ?_ | refine SW.exit ?_ | intro _ | refine And.intro (by omega) ?_) | simp (config := { maxSteps := 1000000 }) (disch := (first | omega | (simp only [go_sem]; try omega))) only [go_sem, Nat.reduceAdd, Nat.reduceEqDiff, Nat.reduceLeDiff, Nat.reduceMul, Nat.reduceLT, reduceIte, Int.reduceToNat, w64_id, cast_succ, qa, ql, qa0, ql0])
        have hdg := hd3.toT.grow [(⟨0, tyLL, 1, [.nm i ver 0 s.length]⟩ : Blk)]
        have hset := get_appU hd3.set [(⟨0, tyLL, 1, [.nm i ver 0 s.length]⟩ : Blk)]
        have hil := (List.getElem?_eq_some_iff.1 hd3.set).1
        refine TabF.app (N := fun r => H.length + 2 ≤ r) (yss := [s]) hdg.tab rfl (fun j c ys g1 g2 => ?_) (by have := hd3.ib; simp; omega) (by simp; omega) ?_
        · cases j with
          | succ j => simp at g1
          | zero =>
            simp at g1 g2
            subst g1; subst g2
            exact .inr (.inr ⟨i, ver, rfl, hd3.ib, hset⟩)
        intro v' Z c1 hZl hZt hZf hZn
        have hZb := hZf _ _ hdg.box (show tyCover ≠ tyLL by decide)
        have za := fun o => pc_alive (off := o) hZb
        have zw : astore Z [v'] (.pc (H.length + 1) 0 1) = some (Z.set (H.length + 1) ⟨0, tyCover, 1, [I (1 + m : Nat), v']⟩) := by rw [pc_st hZb (by simp)]; rfl
        repeat (first | (with_reducible first | refine SW.seq ?_ | refine SW.block ?_ | refine SW.rowC ?_ | refine SW.skip ?_ | refine SW.exit ?_ | intro _ | refine And.intro (by omega) ?_) | simp (config := { maxSteps := 1000000 }) (disch := (first | omega | (simp only [go_sem]; try omega))) only [go_sem, Nat.reduceAdd, Nat.reduceEqDiff, Nat.reduceLeDiff, Nat.reduceMul, Nat.reduceLT, reduceIte, Int.reduceToNat, w64_id, cast_succ, za, zw, c1.1, c1.2])
        have hT := hdg.put hlt hZt hZf (fun j hj => hZn j (by omega) (by have := hd3.ib; simp; omega))
        have hT1 : (O ++ [s]).length ≤ 20 ∧ t4 ≤ t + 200 := by simp; omega
        have hTO : ∀ x ∈ O ++ [s], ∀ z ∈ x, 0 ≤ z ∧ z ≤ 1000 := fun x hx => by
          rcases List.mem_append.1 hx with h | h
          · exact hO x h
          · rw [List.mem_singleton.1 h]; exact hs
        clear hZb za zw hZt hZf hZn hdg
        generalize Z.set (H.length + 1) ⟨0, tyCover, 1, [I (1 + m : Nat), v']⟩ = W at *
        generalize O ++ [s] = Ow at *
        refine SW.mixR (fun E' Z => aget E' 0 = .pc p 0 0 ∧ aget E' 2 = .pc H.length 0 0 ∧ aget E' 3 = .pc (H.length + 1) 0 0 ∧ ∃ (t' : Nat) (u' : Int) (v' : AV) (O' : List (List Int)), DrT H Z p code t' u' (I (1 + m : Nat)) v' O' ∧ (∀ x ∈ O', ∀ z ∈ x, 0 ≤ z ∧ z ≤ 1000) ∧ O'.length ≤ 40 ∧ t' ≤ t + 600) ?_ ?_
        · have xa := fun o => pc_alive (off := o) hT.box
          have xl := fun o => pc_ld (off := o) hT.box
          simp (config := { maxSteps := 1000000 }) (disch := (first | omega | (simp only [go_sem]; try omega))) only [go_sem, Nat.reduceAdd, Nat.reduceEqDiff, Nat.reduceLeDiff, Nat.reduceMul, Nat.reduceLT, reduceIte, Int.reduceToNat, w64_id, cast_succ, xa, xl]
          repeat' (with_reducible refine And.intro ?_ ?_)
          all_goals
            refine (l10DrawBlocks_ok _ p code ns t4 u4 ((1 + m : Nat) : Int) hT.src hc hcb (by omega) (by omega)).mono ?_
            rintro r H1 ⟨bl, u5, t5, rfl, hbl, ht5, rfl⟩
            have hT5 := hT.src' (t' := t5) (u' := u5) hlt
            generalize List.set W p (srcB code t5 u5) = Y5 at *
            have ya := fun o => pc_alive (off := o) hT5.box
            have yl := fun o => pc_ld (off := o) hT5.box
            have h2l := (List.getElem?_eq_some_iff.1 hT5.box).1
            simp (config := { maxSteps := 1000000 }) (disch := (first | omega | (simp only [go_sem]; try omega))) only [go_sem, Nat.reduceAdd, Nat.reduceEqDiff, Nat.reduceLeDiff, Nat.reduceMul, Nat.reduceLT, reduceIte, Int.reduceToNat, w64_id, cast_succ, ya, yl]
            rw [show bl.length = (bl.map ilS).length by simp]
            refine TabF.app (yss := bl) hT5.tab (by simp) (fun j c ys g1 g2 => by
              rw [List.getElem?_map, g2] at g1
              simp at g1
              exact .inl g1.symm) (by omega) (by have := hbl.1; omega) ?_
            intro v' Z c1 hZl hZt hZf hZn
            have hZb := hZf _ _ hT5.box (show tyCover ≠ tyLL by decide)
            have za := fun o => pc_alive (off := o) hZb
            have zw : astore Z [v'] (.pc (H.length + 1) 0 1) = some (Z.set (H.length + 1) ⟨0, tyCover, 1, [I (1 + m : Nat), v']⟩) := by rw [pc_st hZb (by simp)]; rfl
            have fin : ∃ (t' : Nat) (u' : Int) (v2 : AV) (O' : List (List Int)), DrT H (Z.set (H.length + 1) ⟨0, tyCover, 1, [I (1 + m : Nat), v']⟩) p code t' u' (I (1 + m : Nat)) v2 O' ∧ (∀ x ∈ O', ∀ z ∈ x, 0 ≤ z ∧ z ≤ 1000) ∧ O'.length ≤ 40 ∧ t' ≤ t + 600 := by
              refine ⟨t5, u5, v', Ow ++ bl, hT5.put hlt hZt hZf (fun j hj => hZn j (by omega) (by omega)), fun x hx => ?_, by have := hbl.1; rw [List.length_append]; omega, by omega⟩
              rcases List.mem_append.1 hx with h | h
              · exact hTO x h
              · intro z hz
                have := (hbl.2 x h).2 z hz
                omega
            simp (config := { maxSteps := 1000000 }) (disch := (first | omega | (simp only [go_sem]; try omega))) only [go_sem, Nat.reduceAdd, Nat.reduceEqDiff, Nat.reduceLeDiff, Nat.reduceMul, Nat.reduceLT, reduceIte, Int.reduceToNat, w64_id, cast_succ, za, zw, c1.1, c1.2]
            exact fin
        rintro E2 Z ⟨e0, e2, e3, tz, uz, vz, Oz, hZ, hOz, hOzl, htz⟩
        have xa := fun o => pc_alive (off := o) hZ.box
        have xl := fun o => pc_ld (off := o) hZ.box
        have hzone := hZ.tab.one
        obtain ⟨zc, hzv⟩ := hZ.tab.view
        have hbl2 := (List.getElem?_eq_some_iff.1 hZ.box).1
        have fin : ∀ (W : List Blk) (tw : Nat) (uw : Int) (vw : AV) (Ow : List (List Int)) (E : Env), aget E 2 = .pc H.length 0 0 → DrT H W p code tw uw (I (1 + m : Nat)) vw Ow → (∀ x ∈ Ow, ∀ z ∈ x, 0 ≤ z ∧ z ≤ 1000) → Ow.length ≤ 40 → FunPost [.cell 2 2] H (fun r H' => ∃ (n : Int) (O : List (List Int)) (u' : Int) (t' : Nat), r = .agg [I n, ilSS O] ∧ smallD O ∧ H' = H.set p (srcB code t' u')) .ret E (W.set H.length ⟨0, tyCover, 1, [I (1 + m : Nat), vw]⟩) := by
          intro W tw uw vw Ow E hE hW hOw hOwl
          have hrl := (List.getElem?_eq_some_iff.1 hW.res).1
          refine FunPost.cell (cs := [I (1 + m : Nat), vw]) (by rw [hE, pc_lds (List.getElem?_set_self hrl) (by simp)]; rfl) ?_
          obtain ⟨ext, he⟩ := ext_ofD (H := H.set p (srcB code tw uw)) (H1 := W.set H.length ⟨0, tyCover, 1, [I (1 + m : Nat), vw]⟩) (by rw [List.length_set, List.length_set]; omega) (fun j hj => by
            rw [List.length_set] at hj
            rw [List.getElem?_set_ne (by omega)]
            by_cases hjp : j = p
            · subst hjp; rw [List.getElem?_set_self hlt]; exact hW.src
            · rw [List.getElem?_set_ne (Ne.symm hjp)]; exact hW.fr j hj hjp)
          have hfz : Froz (W.set H.length ⟨0, tyCover, 1, [I (1 + m : Nat), vw]⟩) H.length vw (ilSS Ow) := (hW.tab.same (N' := fun r => H.length + 2 ≤ r) (fun r hr _ => hr) (fun j b hj hb => by rw [List.getElem?_set_ne (by omega)]; exact hb)).froz (fun r hr => by omega)
          rw [he] at hfz ⊢
          exact GR.frozH (H0 := H) (H1 := H.set p (srcB code tw uw)) (r' := .agg [I (1 + m : Nat), ilSS Ow]) (hlS _ _) (hBG _ _) (froz_agg2 (froz_I' _) hfz) ⟨_, Ow, uw, tw, rfl, ⟨by omega, hOw⟩, rfl⟩
        simp (config := { maxSteps := 1000000 }) (disch := (first | omega | (simp only [go_sem]; try omega))) only [go_sem, Nat.reduceAdd, Nat.reduceEqDiff, Nat.reduceLeDiff, Nat.reduceMul, Nat.reduceLT, reduceIte, Int.reduceToNat, w64_id, cast_succ, e0, e2, e3]
        by_cases hz1 : 1 < Oz.length
        · have d5 : decide ((1 : Int) < (Oz.length : Int)) = true := decide_eq_true (by omega)
          repeat (first | (with_reducible first | refine SW.seq ?_ | refine SW.block ?_ | refine SW.rowC ?_ | refine SW.skip ?_ | refine SW.exit ?_ | intro _ | refine And.intro (by omega) ?_) | simp (config := { maxSteps := 1000000 }) (disch := (first | omega | (simp only [go_sem]; try omega))) only [go_sem, Nat.reduceAdd, Nat.reduceEqDiff, Nat.reduceLeDiff, Nat.reduceMul, Nat.reduceLT, reduceIte, Int.reduceToNat, w64_id, cast_succ, xa, xl, hzv, hzone.1, hzone.2, d5])
          refine SW.condT rfl ?_
          repeat (first | (with_reducible first | refine SW.seq ?_ | refine SW.block ?_ | refine SW.rowC ?_ | refine SW.skip ?_ | refine SW.exit ?_ | intro _ | refine And.intro (by omega) ?_) | simp (config := { maxSteps := 1000000 }) (disch := (first | omega | (simp only [go_sem]; try omega))) only [go_sem, Nat.reduceAdd, Nat.reduceEqDiff, Nat.reduceLeDiff, Nat.reduceMul, Nat.reduceLT, reduceIte, Int.reduceToNat, w64_id, cast_succ, xa, xl, hzv, hzone.1, hzone.2])
          refine (pick_ok _ p code ns tz uz Oz.length hZ.src hc (by omega)).mono ?_
          rintro r H1 ⟨y, u6, t6, rfl, y0, y1, ht6, rfl⟩
          have hZ6 := hZ.src' (t' := t6) (u' := u6) hlt
          generalize Z.set p (srcB code t6 u6) = Z6 at *
          obtain ⟨y, rfl⟩ := Int.eq_ofNat_of_zero_le y0
          have hyl : y < Oz.length := by omega
          rcases hZ6.tab with ⟨_, h⟩ | ⟨tt, vv, cs, rfl, g2, g3, g4, g5⟩
          · rw [h] at hz1; simp at hz1
          have sa := fun o => pc_alive (off := o) hZ6.box
          have sl := fun o => pc_ld (off := o) hZ6.box
          have sv : aview Z6 (.nm tt vv 0 Oz.length) = some (Oz.length, cs) := view_nm g3 g4
          obtain ⟨c0, hc0⟩ : ∃ c, cs[0]? = some c := ⟨_, List.getElem?_eq_getElem (by omega)⟩
          obtain ⟨cy, hcy⟩ : ∃ c, cs[y]? = some c := ⟨_, List.getElem?_eq_getElem (by omega)⟩
          have ho0 := g5 0 c0 (Oz.getD 0 []) hc0 (by rw [getD_getC (by omega), List.getElem?_eq_getElem (by omega)])
          have hoy := g5 y cy (Oz.getD y []) hcy (by rw [getD_getC hyl, List.getElem?_eq_getElem hyl])
          have htl := (List.getElem?_eq_some_iff.1 g3).1
          have w0 : astore Z6 [cy] (.el (.nm tt vv 0 Oz.length) 0) = some (Z6.set tt ⟨vv, tyLL, 1, cs.set 0 cy⟩) := store_nm g3 (by omega)
          have w1 : astore (Z6.set tt ⟨vv, tyLL, 1, cs.set 0 cy⟩) [c0] (.el (.nm tt vv 0 Oz.length) y) = some (Z6.set tt ⟨vv, tyLL, 1, (cs.set 0 cy).set y c0⟩) := by
            rw [store_nm (List.getElem?_set_self htl) (by rw [List.length_set]; omega), List.set_set]
          have bx7 : (Z6.set tt ⟨vv, tyLL, 1, cs.set 0 cy⟩)[H.length + 1]? = some ⟨0, tyCover, 1, [I (1 + m : Nat), .nm tt vv 0 Oz.length]⟩ := by rw [List.getElem?_set_ne (by omega)]; exact hZ6.box
          have sa7 := fun o => pc_alive (off := o) bx7
          have sl7 := fun o => pc_ld (off := o) bx7
          have sv7 : aview (Z6.set tt ⟨vv, tyLL, 1, cs.set 0 cy⟩) (.nm tt vv 0 Oz.length) = some (Oz.length, cs.set 0 cy) := view_nm (List.getElem?_set_self htl) (by rw [List.length_set]; exact g4)
          have h8 : DrT H (Z6.set tt ⟨vv, tyLL, 1, (cs.set 0 cy).set y c0⟩) p code t6 u6 (I (1 + m : Nat)) (.nm tt vv 0 Oz.length) ((Oz.set 0 (Oz.getD y [])).set y (Oz.getD 0 [])) := by
            have g : ∀ j, j ≠ tt → (Z6.set tt ⟨vv, tyLL, 1, (cs.set 0 cy).set y c0⟩)[j]? = Z6[j]? := fun j hj => List.getElem?_set_ne (Ne.symm hj)
            refine ⟨(g _ (by omega)).trans hZ6.src, (g _ (by omega)).trans hZ6.res, (g _ (by omega)).trans hZ6.box, .inr ⟨tt, vv, _, by simp, g2, List.getElem?_set_self htl, by simp [g4], fun j c xs q1 q2 => ?_⟩, fun j hj hjp => (g j (by omega)).trans (hZ6.fr j hj hjp)⟩
            by_cases hjy : y = j
            · subst hjy
              rw [List.getElem?_set_self (by rw [List.length_set]; omega)] at q1 q2
              cases q1; cases q2
              exact ho0.setLL g3
            · rw [List.getElem?_set_ne hjy] at q1 q2
              by_cases hj0 : 0 = j
              · subst hj0
                rw [List.getElem?_set_self (by omega)] at q1 q2
                cases q1; cases q2
                exact hoy.setLL g3
              · rw [List.getElem?_set_ne hj0] at q1 q2
                exact (g5 j c xs q1 q2).setLL g3
          have hO8 : ∀ x ∈ (Oz.set 0 (Oz.getD y [])).set y (Oz.getD 0 []), ∀ z ∈ x, 0 ≤ z ∧ z ≤ 1000 := fun x hx => by
            have m0 : Oz.getD 0 [] ∈ Oz := by rw [getD_getC (by omega)]; exact List.getElem_mem _
            have my : Oz.getD y [] ∈ Oz := by rw [getD_getC hyl]; exact List.getElem_mem _
            rcases List.mem_or_eq_of_mem_set hx with hx | rfl
            · rcases List.mem_or_eq_of_mem_set hx with hx | rfl
              · exact hOz x hx
              · exact hOz _ my
            · exact hOz _ m0
          have xls := pc_lds (n := 2) (off := 0) h8.box (by simp)
          have rw1 : astore (Z6.set tt ⟨vv, tyLL, 1, (cs.set 0 cy).set y c0⟩) [I (1 + m : Nat), .nm tt vv 0 Oz.length] (.pc H.length 0 0) = some ((Z6.set tt ⟨vv, tyLL, 1, (cs.set 0 cy).set y c0⟩).set H.length ⟨0, tyCover, 1, [I (1 + m : Nat), .nm tt vv 0 Oz.length]⟩) := by rw [pc_st h8.res (by simp)]; rfl
          have ra := fun o => pc_alive (off := o) h8.res
          have xa8 := fun o => pc_alive (off := o) h8.box
          repeat (first | (with_reducible first | refine SW.seq ?_ | refine SW.block ?_ | refine SW.rowC ?_ | refine SW.skip ?_ | refine SW.exit ?_ | intro _ | refine And.intro (by omega) ?_) | simp (config := { maxSteps := 1000000 }) (disch := (first | omega | (simp only [go_sem]; try omega))) only [go_sem, Nat.reduceAdd, Nat.reduceEqDiff, Nat.reduceLeDiff, Nat.reduceMul, Nat.reduceLT, reduceIte, Int.reduceToNat, w64_id, cast_succ, sa, sl, sv, hc0, hcy, hoy.one.1, hoy.one.2, ho0.one.1, ho0.one.2, w0, sa7, sl7, sv7, w1])
          repeat (first | (with_reducible first | refine SW.seq ?_ | refine SW.block ?_ | refine SW.rowC ?_ | refine SW.skip ?_ | refine SW.exit ?_ | intro _ | refine And.intro (by omega) ?_) | simp (config := { maxSteps := 1000000 }) (disch := (first | omega | (simp only [go_sem]; try omega))) only [go_sem, Nat.reduceAdd, Nat.reduceEqDiff, Nat.reduceLeDiff, Nat.reduceMul, Nat.reduceLT, reduceIte, Int.reduceToNat, w64_id, cast_succ, xls, rw1, ra, xa8])
          refine SW.ret ?_
          exact fin _ t6 u6 _ _ _ rfl h8 hO8 (by simp; omega)
        · have d5 : decide ((1 : Int) < (Oz.length : Int)) = false := decide_eq_false (by omega)
          repeat (first | (with_reducible first | refine SW.seq ?_ | refine SW.block ?_ | refine SW.rowC ?_ | refine SW.skip ?_ | refine SW.exit ?_ | intro _ | refine And.intro (by omega) ?_) | simp (config := { maxSteps := 1000000 }) (disch := (first | omega | (simp only [go_sem]; try omega))) only [go_sem, Nat.reduceAdd, Nat.reduceEqDiff, Nat.reduceLeDiff, Nat.reduceMul, Nat.reduceLT, reduceIte, Int.reduceToNat, w64_id, cast_succ, xa, xl, hzv, hzone.1, hzone.2, d5])
          refine SW.condF rfl ?_
          have xls : acells Z 2 (.pc (H.length + 1) 0 0) = some [I (1 + m : Nat), vz] := pc_lds hZ.box (by simp)
          have rw1 : astore Z [I (1 + m : Nat), vz] (.pc H.length 0 0) = some (Z.set H.length ⟨0, tyCover, 1, [I (1 + m : Nat), vz]⟩) := by rw [pc_st hZ.res (by simp)]; rfl
          have ra := fun o => pc_alive (off := o) hZ.res
          repeat (first | (with_reducible first | refine SW.seq ?_ | refine SW.block ?_ | refine SW.rowC ?_ | refine SW.skip ?_ | refine SW.exit ?_ | intro _ | refine And.intro (by omega) ?_) | simp (config := { maxSteps := 1000000 }) (disch := (first | omega | (simp only [go_sem]; try omega))) only [go_sem, Nat.reduceAdd, Nat.reduceEqDiff, Nat.reduceLeDiff, Nat.reduceMul, Nat.reduceLT, reduceIte, Int.reduceToNat, w64_id, cast_succ, xa, xls, ra, rw1, hzone.1, hzone.2])
          refine SW.ret ?_
          exact fin Z tz uz vz Oz _ rfl hZ hOz hOzl
end Go.Proofs.Ytnlfokkljgbaaaa
