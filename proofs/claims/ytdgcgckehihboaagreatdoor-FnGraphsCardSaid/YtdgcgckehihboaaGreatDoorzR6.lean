/- Tables of graphs: the reference. -/
import Derived.Test.YtdgcgckehihboaaGreatDoorProg
import Derived.KernelRfl
import Derived.Test.YtdgcgckehihboaaGreatDoorzR3
import Derived.Test.YtdgcgckehihboaaGreatDoorzGV
set_option linter.unusedSimpArgs false
set_option linter.unusedVariables false
set_option linter.unusedSectionVars false
set_option maxHeartbeats 4000000
set_option maxRecDepth 100000
namespace Go.Proofs.YtdgcgckehihboaaGreatDoor
variable [Go.Av.DoorC]
open Go.Av
abbrev f_spec_l21Table : Nat := 60
def c_spec_l21Table : SC :=
 .seq (.reg [
     ⟨(some 1), .box 27 (.tmp 0), none⟩,
     ⟨(some 2), .mv (.const (.slice none 0 0)), none⟩] [1])
 (.seq (.reg [
     ⟨(some 8), .faddr 0 (.tmp 1), none⟩,
     ⟨(some 9), .load 1 false (.tmp 8), none⟩,
     ⟨(some 10), .len (.tmp 9), none⟩,
     ⟨(some 3), .mv (.tmp 10), none⟩] [1, 3])
 (.seq (.reg [
     ⟨(some 11), .bslice 98 1 0 [] [], none⟩,
     ⟨(some 4), .mv (.tmp 11), none⟩] [1, 3, 4])
 (.seq (.seq (.reg [
     ⟨(some 5), .mv (.const (.int .i64 0)), none⟩] [1, 3, 4, 5])
 (.block 0 (.loop [1, 3, 4, 5]
   (.seq (.seq (.reg [
       ⟨(some 12), .mv (.tmp 5), none⟩,
       ⟨(some 13), .mv (.tmp 3), none⟩,
       ⟨(some 14), .bin .lss (.tmp 12) (.tmp 13), none⟩] [1, 3, 4, 5, 14])
   (.cond (.tmp 14)
    (.skip)
    (.exit 0)))
   (.seq (.block 1 (.reg [
        ⟨(some 17), .mv (.tmp 4), none⟩,
        ⟨(some 18), .mv (.tmp 3), none⟩,
        ⟨(some 19), .mslice 4 1 (.bool false) (.tmp 18) (.tmp 18), none⟩,
        ⟨(some 20), .bslice 98 1 1 [(.slice none 0 0)] [(0, (.tmp 19))], none⟩,
        ⟨(some 21), .app 98 1 24 (.tmp 17) (.tmp 20), none⟩,
        ⟨(some 4), .mv (.tmp 21), none⟩] [1, 3, 4, 5]))
   (.reg [
       ⟨(some 15), .mv (.tmp 5), none⟩,
       ⟨(some 16), .bin .add (.tmp 15) (.const (.int .i64 1)), none⟩,
       ⟨(some 5), .mv (.tmp 16), none⟩] [1, 3, 4, 5]))))))
 (.seq (.seq (.reg [
     ⟨(some 6), .mv (.const (.int .i64 0)), none⟩] [1, 4, 6])
 (.block 2 (.loop [1, 4, 6]
   (.seq (.seq (.reg [
       ⟨(some 22), .mv (.tmp 6), none⟩,
       ⟨(some 23), .faddr 1 (.tmp 1), none⟩,
       ⟨(some 24), .load 1 false (.tmp 23), none⟩,
       ⟨(some 25), .len (.tmp 24), none⟩,
       ⟨(some 26), .bin .lss (.tmp 22) (.tmp 25), none⟩] [1, 4, 6, 26])
   (.cond (.tmp 26)
    (.skip)
    (.exit 2)))
   (.seq (.block 3 (.seq (.reg [
        ⟨(some 29), .faddr 1 (.tmp 1), none⟩,
        ⟨(some 30), .load 1 false (.tmp 29), none⟩,
        ⟨(some 31), .mv (.tmp 6), none⟩,
        ⟨(some 32), .iaddr 2 (.tmp 30) (.tmp 31), none⟩,
        ⟨(some 33), .load 2 true (.tmp 32), none⟩,
        ⟨(some 7), .alloc 49 [(.int .i64 0), (.int .i64 0)], none⟩,
        ⟨none, .store 2 (.tmp 7) (.tmp 33), none⟩] [1, 4, 6, 7])
    (.seq (.reg [
        ⟨(some 34), .mv (.tmp 4), none⟩,
        ⟨(some 35), .faddr 0 (.tmp 7), none⟩,
        ⟨(some 36), .load 1 false (.tmp 35), none⟩,
        ⟨(some 37), .iaddr 1 (.tmp 34) (.tmp 36), none⟩,
        ⟨(some 38), .load 1 false (.tmp 37), none⟩,
        ⟨(some 39), .faddr 1 (.tmp 7), none⟩,
        ⟨(some 40), .load 1 false (.tmp 39), none⟩,
        ⟨(some 41), .iaddr 1 (.tmp 38) (.tmp 40), none⟩,
        ⟨none, .store 1 (.tmp 41) (.const (.bool true)), none⟩] [1, 4, 6, 7])
    (.reg [
        ⟨(some 42), .mv (.tmp 4), none⟩,
        ⟨(some 43), .faddr 1 (.tmp 7), none⟩,
        ⟨(some 44), .load 1 false (.tmp 43), none⟩,
        ⟨(some 45), .iaddr 1 (.tmp 42) (.tmp 44), none⟩,
        ⟨(some 46), .load 1 false (.tmp 45), none⟩,
        ⟨(some 47), .faddr 0 (.tmp 7), none⟩,
        ⟨(some 48), .load 1 false (.tmp 47), none⟩,
        ⟨(some 49), .iaddr 1 (.tmp 46) (.tmp 48), none⟩,
        ⟨none, .store 1 (.tmp 49) (.const (.bool true)), none⟩] [1, 4, 6]))))
   (.reg [
       ⟨(some 27), .mv (.tmp 6), none⟩,
       ⟨(some 28), .bin .add (.tmp 27) (.const (.int .i64 1)), none⟩,
       ⟨(some 6), .mv (.tmp 28), none⟩] [1, 4, 6]))))))
 (.seq (.reg [
     ⟨(some 50), .mv (.tmp 4), none⟩,
     ⟨(some 2), .mv (.tmp 50), none⟩] [2])
 (.ret))))))
theorem s_spec_l21Table : stripF Tryz.prog 60 [[1], [1, 3], [1, 3, 4], [1, 3, 4, 5], [1, 3, 4, 5], [1, 3, 4, 5, 14], [1, 3, 4, 5], [1, 3, 4, 5], [1, 4, 6], [1, 4, 6], [1, 4, 6, 26], [1, 4, 6, 7], [1, 4, 6, 7], [1, 4, 6], [1, 4, 6], [2]] = some (c_spec_l21Table, [.tmp 2], 51) := by kernel_rfl
def adjF (l : List (Int × Int)) (a b : Nat) : Bool := l.any fun e => (decide (e.1 = (a : Int)) && decide (e.2 = (b : Int))) || (decide (e.1 = (b : Int)) && decide (e.2 = (a : Int)))
theorem adjF_snoc (pre : List (Int × Int)) (x y a b : Nat) : adjF (pre ++ [((x : Int), (y : Int))]) a b = (adjF pre a b || ((decide (x = a) && decide (y = b)) || (decide (x = b) && decide (y = a)))) := by
  unfold adjF
  have e : ∀ u v : Nat, decide ((u : Int) = (v : Int)) = decide (u = v) := fun u v => decide_eq_decide.2 (by omega)
  rw [List.any_append]
  simp [e]
theorem tabB_adj {n : Nat} {pre : List (Int × Int)} {x y : Nat} (hx : x < n) (hy : y < n) : setB (setB (tabB n (adjF pre)) x y true) y x true = tabB n (adjF (pre ++ [((x : Int), (y : Int))])) := by
  rw [tabB_set _ hx hy, tabB_set _ hy hx]
  refine tabB_ext fun a b _ _ => ?_
  rw [adjF_snoc]
  by_cases h1 : a = y ∧ b = x
  · rw [if_pos h1, h1.1, h1.2]; simp
  · rw [if_neg h1]
    by_cases h2 : a = x ∧ b = y
    · rw [if_pos h2, h2.1, h2.2]; simp
    · rw [if_neg h2]
      have e1 : (decide (x = a) && decide (y = b)) = false := by
        rw [← Bool.not_eq_true, Bool.and_eq_true, decide_eq_true_eq, decide_eq_true_eq]
        rintro ⟨rfl, rfl⟩; exact h2 ⟨rfl, rfl⟩
      have e2 : (decide (x = b) && decide (y = a)) = false := by
        rw [← Bool.not_eq_true, Bool.and_eq_true, decide_eq_true_eq, decide_eq_true_eq]
        rintro ⟨rfl, rfl⟩; exact h1 ⟨rfl, rfl⟩
      rw [e1, e2, Bool.or_false, Bool.or_false]
theorem tabB_false (n : Nat) : tabB n (adjF []) = List.replicate n (List.replicate n false) := by
  unfold tabB adjF
  simp [List.map_const']
abbrev tyBB : Nat := 98
theorem appRowN {X : List Blk} {t ver n ty : Nat} {cells : List AV} {c : AV} {K : AV → List Blk → Prop} (hX : X[t]? = some ⟨ver, ty, 1, cells⟩) (hl : cells.length = n) (hn : n ≤ 100000) (hc : c.cell1 = true) (hk : K (.nm t (ver + 1) 0 (n + 1)) (X.set t ⟨ver + 1, ty, 1, cells ++ [c]⟩)) :
    AppN ty 1 24 t ver n 1 [c] X K X[t]? := by
  have htl : cells.take (n * 1) = cells := List.take_of_length_le (by omega)
  simp only [AppN, hX]
  refine ⟨trivial, trivial, trivial, by simp [hl], by omega, by omega, ?_⟩
  rw [htl]
  exact hk
def TbR (H : List Blk) (n : Nat) (es : List (Int × Int)) (r : AV) (H' : List Blk) : Prop :=
  ∃ ext t ver rs, H' = H ++ ext ∧ r = .nm t ver 0 n ∧ GrV Bv tyBB 4 H' t ver 0 n rs (tabB n (adjF es)) ∧ rs.Nodup ∧ t ∉ rs ∧ H.length ≤ t ∧ ∀ r ∈ rs, H.length ≤ r
theorem l21Table_ok (H : List Blk) (a c : AV) (cols : List Int) (es : List (Int × Int)) (ca : a.cell1 = true ∧ partsOf a = [a]) (cc : c.cell1 = true ∧ partsOf c = [c]) (ha : RdS H a cols) (hd : RdE H c es) (hn : cols.length ≤ 1000) (hel : es.length ≤ 100000) (he : ∀ e ∈ es, (0 ≤ e.1 ∧ e.1 < cols.length) ∧ 0 ≤ e.2 ∧ e.2 < cols.length) :
    ACalls Tryz.prog f_spec_l21Table [.agg [a, c]] H (TbR H cols.length es) := by
  have hva : ∀ ext, aview (H ++ ext) a = some (cols.length, cols.map I) := fun ext => aview_append ha ext
  have hvc : ∀ ext, aview (H ++ ext) c = some (es.length, flatE es) := fun ext => hd.append ext
  have p1 : partsOf (.agg [a, c]) = [a, c] := by simp [partsOf, ca.2, cc.2]
  generalize hnn : cols.length = n at *
  refine ACalls.introB s_spec_l21Table (by simp) ?_; intro hB hA; unfold c_spec_l21Table; simp (config := { maxSteps := 1000000 }) (disch := (first | omega | (simp only [go_sem]; try omega))) only [go_sem, Nat.reduceAdd, Nat.reduceEqDiff, Nat.reduceLeDiff, Nat.reduceMul, Nat.reduceLT, reduceIte, Int.reduceToNat, w64_id, cast_succ]
  repeat (first | (with_reducible first | refine SW.seq ?_ | refine SW.block ?_ | refine SW.rowC ?_ | refine SW.skip ?_ | refine SW.exit ?_ | intro _ | refine And.intro (by omega) ?_) | simp (config := { maxSteps := 1000000 }) (disch := (first | omega | (simp only [go_sem]; try omega))) only [go_sem, Nat.reduceAdd, Nat.reduceEqDiff, Nat.reduceLeDiff, Nat.reduceMul, Nat.reduceLT, reduceIte, Int.reduceToNat, w64_id, cast_succ, p1, ca.1, cc.1, hva])
  have hp1 : partsOf (.agg [a, c]) = [a, c] := p1
  refine SW.loopE (fun E0 H0 m E' X => ∃ (i : Nat) (rs : List Nat), i ≤ n ∧ m = n - i ∧ E' = aput (aput E0 5 (I i)) 4 (.nm (H.length + 1) i 0 i) ∧ X[H.length]? = some ⟨0, tyGr, 1, [a, c]⟩ ∧ X[H.length + 1]? = some ⟨i, tyBB, 1, rs.map fun r => AV.nm r 0 0 n⟩ ∧ rs.length = i ∧ rs.Nodup ∧ (∀ r ∈ rs, H.length + 2 ≤ r ∧ r < X.length ∧ X[r]? = some ⟨0, 4, 1, (List.replicate n false).map Bv⟩) ∧ H.length + 2 ≤ X.length ∧ ∀ j, j < H.length → X[j]? = H[j]?) n
    ⟨0, [], by omega, by omega, rfl, by simp, by simp, rfl, by simp, by simp, by simp, fun j hj => by rw [List.getElem?_append_left hj]⟩ ?_
  rintro m E' X ⟨i, rs, hi, rfl, rfl, m0, m1, hrl, hrn, hrr, hlX, hfX⟩
  simp (config := { maxSteps := 1000000 }) (disch := (first | omega | (simp only [go_sem]; try omega))) only [go_sem, Nat.reduceAdd, Nat.reduceEqDiff, Nat.reduceLeDiff, Nat.reduceMul, Nat.reduceLT, reduceIte, Int.reduceToNat, w64_id, cast_succ]
  repeat (first | (with_reducible first | refine SW.seq ?_ | refine SW.block ?_ | refine SW.rowC ?_ | refine SW.skip ?_ | refine SW.exit ?_ | intro _ | refine And.intro (by omega) ?_) | simp (config := { maxSteps := 1000000 }) (disch := (first | omega | (simp only [go_sem]; try omega))) only [go_sem, Nat.reduceAdd, Nat.reduceEqDiff, Nat.reduceLeDiff, Nat.reduceMul, Nat.reduceLT, reduceIte, Int.reduceToNat, w64_id, cast_succ])
  (first | refine SW.condD rfl (fun h2 => ?_) (fun h2 => ?_) | refine SW.condN rfl (fun h2 => ?_) (fun h2 => ?_) | refine SW.condNB rfl (fun h2 => ?_) (fun h2 => ?_) | refine SW.condB rfl (fun h2 => ?_) (fun h2 => ?_))
  · have hin : i < n := by omega
    repeat (first | (with_reducible first | refine SW.seq ?_ | refine SW.block ?_ | refine SW.rowC ?_ | refine SW.skip ?_ | refine SW.exit ?_ | intro _ | refine And.intro (by omega) ?_) | simp (config := { maxSteps := 1000000 }) (disch := (first | omega | (simp only [go_sem]; try omega))) only [go_sem, Nat.reduceAdd, Nat.reduceEqDiff, Nat.reduceLeDiff, Nat.reduceMul, Nat.reduceLT, reduceIte, Int.reduceToNat, w64_id, cast_succ])
    have k1 : (X ++ [(⟨0, 4, 1, (List.replicate n false).map Bv⟩ : Blk), ⟨0, tyBB, 1, [.nm X.length 0 0 n]⟩])[H.length + 1]? = some ⟨i, tyBB, 1, rs.map fun r => AV.nm r 0 0 n⟩ := get_appU m1 _
    refine appRowN k1 (by simpa using hrl) (by omega) rfl ?_
    repeat (first | (with_reducible first | refine SW.seq ?_ | refine SW.block ?_ | refine SW.rowC ?_ | refine SW.skip ?_ | refine SW.exit ?_ | intro _ | refine And.intro (by omega) ?_) | simp (config := { maxSteps := 1000000 }) (disch := (first | omega | (simp only [go_sem]; try omega))) only [go_sem, Nat.reduceAdd, Nat.reduceEqDiff, Nat.reduceLeDiff, Nat.reduceMul, Nat.reduceLT, reduceIte, Int.reduceToNat, w64_id, cast_succ])
    refine SLoop.next (n - (i + 1)) (by omega) ⟨i + 1, rs ++ [X.length], by omega, rfl, by simp [go_sem], by rw [List.getElem?_set_ne (by omega)]; exact get_appU m0 _, ?_, by simp [hrl], ?_, ?_, by rw [List.length_set]; simp; omega, fun j hj => ?_⟩
    · rw [List.getElem?_set_self (by simp; omega), List.map_append]; rfl
    · rw [List.nodup_append]
      refine ⟨hrn, by simp, fun r hr r' hr' e => ?_⟩
      rw [List.mem_singleton.1 hr'] at e
      have := (hrr r hr).2.1
      omega
    · intro r hr
      rcases List.mem_append.1 hr with hr | hr
      · obtain ⟨q1, q2, q3⟩ := hrr r hr
        exact ⟨q1, by rw [List.length_set]; simp; omega, by rw [List.getElem?_set_ne (by omega)]; exact get_appU q3 _⟩
      · rw [List.mem_singleton.1 hr]
        exact ⟨hlX, by rw [List.length_set]; simp, by rw [List.getElem?_set_ne (by omega), List.getElem?_append_right (Nat.le_refl _), Nat.sub_self]; rfl⟩
    · rw [List.getElem?_set_ne (by omega), List.getElem?_append_left (by omega)]
      exact hfX j hj
  · have : i = n := by omega
    subst this
    repeat (first | (with_reducible first | refine SW.seq ?_ | refine SW.block ?_ | refine SW.rowC ?_ | refine SW.skip ?_ | refine SW.exit ?_ | intro _ | refine And.intro (by omega) ?_) | simp (config := { maxSteps := 1000000 }) (disch := (first | omega | (simp only [go_sem]; try omega))) only [go_sem, Nat.reduceAdd, Nat.reduceEqDiff, Nat.reduceLeDiff, Nat.reduceMul, Nat.reduceLT, reduceIte, Int.reduceToNat, w64_id, cast_succ])
    have ht : H.length + 1 ∉ rs := fun hm => by have := (hrr _ hm).1; omega
    have hgv : GrV Bv tyBB 4 X (H.length + 1) i 0 i rs (tabB i (adjF [])) := by
      rw [tabB_false]
      refine ⟨m1, ⟨hrl, by simp, fun r hr => by rw [List.eq_of_mem_replicate hr]; simp⟩, fun j r hr => ?_⟩
      have hj : j < i := by have := (List.getElem?_eq_some_iff.1 hr).1; omega
      rw [(hrr r (List.mem_of_getElem? hr)).2.2, getD_get (by simpa using hj)]
      simp
    have hrb : ∀ r ∈ rs, H.length + 2 ≤ r := fun r hr => (hrr r hr).1
    refine SW.loopE (fun E0 H0 m E' Y => ∃ (pre post : List (Int × Int)), es = pre ++ post ∧ m = post.length ∧ E' = aput E0 6 (I pre.length) ∧ Y[H.length]? = some ⟨0, tyGr, 1, [a, c]⟩ ∧ GrV Bv tyBB 4 Y (H.length + 1) i 0 i rs (tabB i (adjF pre)) ∧ H.length + 2 ≤ Y.length ∧ ∀ j, j < H.length → Y[j]? = H[j]?) es.length
      ⟨[], es, rfl, rfl, rfl, m0, hgv, hlX, hfX⟩ ?_
    clear hrr hgv m1 m0 hlX hfX
    rintro m E' Y ⟨pre, post, hq, rfl, rfl, m0, hgv, hlY, hfY⟩
    have ha0 := fun o => pc_alive (off := o) m0
    have hl0 := fun o => pc_ld (off := o) m0
    have hcY : aview Y c = some (es.length, flatE es) := by
      obtain ⟨ext, rfl⟩ := ext_ofR (by omega) hfY
      exact hvc ext
    simp (config := { maxSteps := 1000000 }) (disch := (first | omega | (simp only [go_sem]; try omega))) only [go_sem, Nat.reduceAdd, Nat.reduceEqDiff, Nat.reduceLeDiff, Nat.reduceMul, Nat.reduceLT, reduceIte, Int.reduceToNat, w64_id, cast_succ]
    repeat (first | (with_reducible first | refine SW.seq ?_ | refine SW.block ?_ | refine SW.rowC ?_ | refine SW.skip ?_ | refine SW.exit ?_ | intro _ | refine And.intro (by omega) ?_) | simp (config := { maxSteps := 1000000 }) (disch := (first | omega | (simp only [go_sem]; try omega))) only [go_sem, Nat.reduceAdd, Nat.reduceEqDiff, Nat.reduceLeDiff, Nat.reduceMul, Nat.reduceLT, reduceIte, Int.reduceToNat, w64_id, cast_succ, ha0, hl0, hcY])
    (first | refine SW.condD rfl (fun h3 => ?_) (fun h3 => ?_) | refine SW.condN rfl (fun h3 => ?_) (fun h3 => ?_) | refine SW.condNB rfl (fun h3 => ?_) (fun h3 => ?_) | refine SW.condB rfl (fun h3 => ?_) (fun h3 => ?_))
    · obtain ⟨x, post, rfl, hg, -⟩ := consOf (d := (0, 0)) hq (by omega)
      have hx := he x (by rw [hq]; simp)
      have l1 : acells Y 2 (.el c (pre.length * 2)) = some [I x.1, I x.2] := by
        have := RdE.ld (H := Y) (a := c) (es := es) hcY (j := pre.length) (by omega)
        rwa [hg] at this
      obtain ⟨xa, xb⟩ := x
      simp only at hx l1
      obtain ⟨xa, rfl⟩ := Int.eq_ofNat_of_zero_le hx.1.1
      obtain ⟨xb, rfl⟩ := Int.eq_ofNat_of_zero_le hx.2.1
      have g1 : xa < i := by omega
      have g2 : xb < i := by omega
      obtain ⟨ra, hra⟩ := hgv.get g1
      obtain ⟨rb, hrb2⟩ := hgv.get g2
      have hram := List.mem_of_getElem? hra
      have hrbm := List.mem_of_getElem? hrb2
      have hraY := (List.getElem?_eq_some_iff.1 (hgv.rows _ _ hra)).1
      have hrbY := (List.getElem?_eq_some_iff.1 (hgv.rows _ _ hrb2)).1
      have hra0 := hrb ra hram
      have hrb0 := hrb rb hrbm
      have hgv1 : GrV Bv tyBB 4 (Y ++ [⟨0, tyE, 1, [I (xa : Int), I (xb : Int)]⟩]) (H.length + 1) i 0 i rs (tabB i (adjF pre)) := hgv.same fun j b _ hb => get_appU hb _
      have ev1 := hgv1.view
      have ec1 := GrV.cell (rv := 0) (n := i) hra
      have er1 := hgv1.row g1 hra
      have es1 := hgv1.store g1 g2 hra true
      have hgv2 := hgv1.set hrn ht g1 hra true (y := xb)
      have me : (Y ++ [(⟨0, tyE, 1, [I (xa : Int), I (xb : Int)]⟩ : Blk)])[Y.length]? = some ⟨0, tyE, 1, [I (xa : Int), I (xb : Int)]⟩ := by rw [List.getElem?_append_right (Nat.le_refl _), Nat.sub_self]; rfl
      have hYl : (Y ++ [(⟨0, tyE, 1, [I (xa : Int), I (xb : Int)]⟩ : Blk)]).length = Y.length + 1 := by simp
      repeat (first | (with_reducible first | refine SW.seq ?_ | refine SW.block ?_ | refine SW.rowC ?_ | refine SW.skip ?_ | refine SW.exit ?_ | intro _ | refine And.intro (by omega) ?_) | simp (config := { maxSteps := 1000000 }) (disch := (first | omega | (simp only [go_sem]; try omega))) only [go_sem, Nat.reduceAdd, Nat.reduceEqDiff, Nat.reduceLeDiff, Nat.reduceMul, Nat.reduceLT, reduceIte, Int.reduceToNat, w64_id, cast_succ, ha0, hl0, hcY, l1, ev1, ec1, er1, es1])
      generalize hY1 : Y ++ [(⟨0, tyE, 1, [I (xa : Int), I (xb : Int)]⟩ : Blk)] = Y1 at *
      have me2 : (Y1.set ra ⟨0, 4, 1, (((tabB i (adjF pre)).getD xa []).set xb true).map Bv⟩)[Y.length]? = some ⟨0, tyE, 1, [I (xa : Int), I (xb : Int)]⟩ := by rw [List.getElem?_set_ne (by omega)]; exact me
      have m02 : (Y1.set ra ⟨0, 4, 1, (((tabB i (adjF pre)).getD xa []).set xb true).map Bv⟩)[H.length]? = some ⟨0, tyGr, 1, [a, c]⟩ := by rw [List.getElem?_set_ne (by omega), ← hY1]; exact get_appU m0 _
      have hf2 : ∀ j, j < H.length → (Y1.set ra ⟨0, 4, 1, (((tabB i (adjF pre)).getD xa []).set xb true).map Bv⟩)[j]? = H[j]? := fun j hj => by
        rw [List.getElem?_set_ne (by omega), ← hY1, List.getElem?_append_left (by omega)]; exact hfY j hj
      have hl2 : (Y1.set ra ⟨0, 4, 1, (((tabB i (adjF pre)).getD xa []).set xb true).map Bv⟩).length = Y.length + 1 := by rw [List.length_set]; exact hYl
      have ev2 := hgv2.view
      have ec2 := GrV.cell (rv := 0) (n := i) hrb2
      have er2 := hgv2.row g2 hrb2
      have es2 := hgv2.store g2 g1 hrb2 true
      have hgv3 := hgv2.set hrn ht g2 hrb2 true (y := xa)
      have pa2 := fun o => pc_alive (off := o) me2
      have pl2 := fun o => pc_ld (off := o) me2
      repeat (first | (with_reducible first | refine SW.seq ?_ | refine SW.block ?_ | refine SW.rowC ?_ | refine SW.skip ?_ | refine SW.exit ?_ | intro _ | refine And.intro (by omega) ?_) | simp (config := { maxSteps := 1000000 }) (disch := (first | omega | (simp only [go_sem]; try omega))) only [go_sem, Nat.reduceAdd, Nat.reduceEqDiff, Nat.reduceLeDiff, Nat.reduceMul, Nat.reduceLT, reduceIte, Int.reduceToNat, w64_id, cast_succ, pa2, pl2, ev2, ec2, er2, es2])
      have hfin := tabB_adj (n := i) (pre := pre) g1 g2
      unfold setB at hfin
      rw [hfin] at hgv3
      refine SLoop.next post.length (by simp) ⟨pre ++ [((xa : Int), (xb : Int))], post, by simp [hq], rfl, by simp [go_sem], by rw [List.getElem?_set_ne (by omega)]; exact m02, hgv3, by rw [List.length_set]; omega, fun j hj => by rw [List.getElem?_set_ne (by omega)]; exact hf2 j hj⟩
    · obtain ⟨rfl, rfl⟩ := nilOf hq (by omega)
      repeat (first | (with_reducible first | refine SW.seq ?_ | refine SW.block ?_ | refine SW.rowC ?_ | refine SW.skip ?_ | refine SW.exit ?_ | intro _ | refine And.intro (by omega) ?_) | simp (config := { maxSteps := 1000000 }) (disch := (first | omega | (simp only [go_sem]; try omega))) only [go_sem, Nat.reduceAdd, Nat.reduceEqDiff, Nat.reduceLeDiff, Nat.reduceMul, Nat.reduceLT, reduceIte, Int.reduceToNat, w64_id, cast_succ])
      obtain ⟨ext, rfl⟩ := ext_ofR (by omega) hfY
      refine SW.ret ⟨_, rfl, GR.of ⟨ext, H.length + 1, i, rs, rfl, rfl, hgv, hrn, ht, by omega, fun r hr => by have := hrb r hr; omega⟩⟩
end Go.Proofs.YtdgcgckehihboaaGreatDoor
