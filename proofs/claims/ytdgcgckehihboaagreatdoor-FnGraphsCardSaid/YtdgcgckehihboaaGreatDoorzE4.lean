/- Graphs of designs: the reference. -/
import Derived.Test.YtdgcgckehihboaaGreatDoorzE3
import Derived.Test.YtdgcgckehihboaaGreatDoorzK18
import Derived.Test.YtdgcgckehihboaaGreatDoorzAv17
import Derived.Test.YtdgcgckehihboaaGreatDoorzL1
import Derived.Test.YtdgcgckehihboaaGreatDoorProg
import Derived.KernelRfl
import Derived.Test.YtdgcgckehihboaaGreatDoorzK19
import Derived.Test.YtdgcgckehihboaaGreatDoorzU1
set_option linter.unusedSimpArgs false
set_option linter.unusedVariables false
set_option linter.unusedSectionVars false
set_option maxHeartbeats 4000000
set_option maxRecDepth 100000
namespace Go.Proofs.YtdgcgckehihboaaGreatDoor
variable [Go.Av.DoorC]
open Go.Av
def GrowF (H : List Blk) (base ty sz : Nat) (v : AV) (n : Nat) (cells : List AV) : Prop :=
  (v = nilS ∧ n = 0 ∧ cells = []) ∨ ∃ t ver, v = .nm t ver 0 n ∧ base ≤ t ∧ H[t]? = some ⟨ver, ty, sz, cells⟩ ∧ cells.length = n * sz
theorem GrowF.one {H : List Blk} {base ty sz n : Nat} {v : AV} {cells : List AV} (h : GrowF H base ty sz v n cells) : v.cell1 = true ∧ partsOf v = [v] := by
  rcases h with ⟨rfl, _⟩ | ⟨t, ver, rfl, _⟩ <;> exact ⟨rfl, rfl⟩
theorem GrowF.same {H H' : List Blk} {base ty sz n : Nat} {v : AV} {cells : List AV} (h : GrowF H base ty sz v n cells) (hs : ∀ j b, base ≤ j → H[j]? = some b → H'[j]? = some b) : GrowF H' base ty sz v n cells := by
  rcases h with h | ⟨t, ver, rfl, h1, h2, h3⟩
  · exact .inl h
  · exact .inr ⟨t, ver, rfl, h1, hs t _ h1 h2, h3⟩
theorem GrowF.view {H : List Blk} {base ty sz n : Nat} {v : AV} {cells : List AV} (h : GrowF H base ty sz v n cells) : aview H v = some (n, cells) := by
  rcases h with ⟨rfl, rfl, rfl⟩ | ⟨t, ver, rfl, h1, h2, h3⟩
  · rfl
  · simp only [aview, h2, if_true, List.drop_zero]
    rw [List.take_of_length_le (by omega)]
theorem GrowF.appX {H : List Blk} {base ty sz bytes n : Nat} {v : AV} {cells xs : List AV} (h : GrowF H base ty sz v n cells) (hb : base ≤ H.length) (hx : xs.length = sz) (hc : ∀ c ∈ xs, c.cell1 = true) (hl1 : (n + 1) * bytes ≤ 140737488355328) (hl2 : n + 1 ≤ 140737488355328)
    {K : AV → List Blk → Prop} (hk : ∀ v' H', GrowF H' base ty sz v' (n + 1) (cells ++ xs) → H.length + 1 ≤ H'.length → (∀ j, j < base → H'[j]? = H[j]?) → K v' H') :
    AppX ty sz bytes (H ++ [⟨0, ty, sz, xs⟩]) v K (some (1, xs)) := by
  rcases h with ⟨rfl, rfl, rfl⟩ | ⟨t, ver, rfl, h1, h2, h3⟩
  · simp only [AppX, nilS]
    refine ⟨by omega, hc, by omega, by omega, hk _ _ (.inr ⟨_, 1, rfl, by simp; omega, by simp, by simp; omega⟩) (by simp) (fun j hj => ?_)⟩
    rw [List.getElem?_append_left (by simp; omega), List.getElem?_append_left (by omega)]
  · have htl := (List.getElem?_eq_some_iff.1 h2).1
    simp only [AppX]
    rw [List.getElem?_append_left htl, h2]
    refine ⟨by omega, hc, rfl, rfl, rfl, by simp only; omega, hl1, hl2, hk _ _ (.inr ⟨t, ver + 1, rfl, h1, ?_, ?_⟩) (by simp) (fun j hj => ?_)⟩
    · rw [List.getElem?_set_self (by simp; omega)]
      simp only
      rw [List.take_of_length_le (by omega)]
    · rw [List.length_append, h3, hx, Nat.add_mul, Nat.one_mul]
    · rw [List.getElem?_set_ne (by omega), List.getElem?_append_left (by omega)]
theorem froz_edges {H : List Blk} {base r ver ty : Nat} {es : List (Int × Int)} (hb : base ≤ r) (hr : H[r]? = some ⟨ver, ty, 2, flatE es⟩) : Froz H base (.nm r ver 0 es.length) (ilE es) := by
  have hc : ((flatE es).drop 0).take (es.length * 2) = flatE es := by rw [List.drop_zero]; exact List.take_of_length_le (by rw [flatE_length]; omega)
  refine .nm r ver 0 es.length _ _ hb hr rfl (by simp only [hc]) ?_
  intro j c c' h1 h2
  simp only [hc] at h1
  rw [h1] at h2; cases h2
  have hm := List.mem_of_getElem? h1
  rw [flatE_lit] at hm
  obtain ⟨v, _, rfl⟩ := List.mem_map.1 hm
  exact .old _ (.lit v)
theorem GrowF.frozI {H : List Blk} {base ty n b : Nat} {v : AV} {xs : List Int} (h : GrowF H base ty 1 v n (xs.map I)) (hb : b ≤ base) : Froz H b v (ilS xs) := by
  rcases h with ⟨rfl, rfl, h⟩ | ⟨t, ver, rfl, h1, h2, h3⟩
  · have : xs = [] := by simpa using h
    subst this; exact .nil
  · have : n = xs.length := by simpa using h3.symm
    subst this; exact froz_rowI (by omega) h2
theorem GrowF.frozE {H : List Blk} {base ty n b : Nat} {v : AV} {es : List (Int × Int)} (h : GrowF H base ty 2 v n (flatE es)) (hb : b ≤ base) : Froz H b v (ilE es) := by
  rcases h with ⟨rfl, rfl, h⟩ | ⟨t, ver, rfl, h1, h2, h3⟩
  · have h2 := flatE_length es
    rw [h] at h2
    have : es = [] := List.length_eq_zero_iff.1 (by simp at h2; omega)
    subst this; exact .nil
  · have : n = es.length := by rw [flatE_length] at h3; omega
    subst this; exact froz_edges (by omega) h2
theorem GR.frozP {H0 H1 : List Blk} {R : AV → List Blk → Prop} {r r' : AV} (hp : ∃ ext, H1 = H0 ++ ext) (hf : Froz H1 H0.length r r') (h : R r' H0) : GR H0 R r H1 := by
  obtain ⟨ext, rfl⟩ := hp
  exact GR.froz hf h
def GBx (H : List Blk) (c0 c1 : List AV) (H' : List Blk) : Prop := H'[H.length]? = some ⟨0, tyGr, 1, c0⟩ ∧ H'[H.length + 1]? = some ⟨0, tyGr, 1, c1⟩ ∧ H.length + 2 ≤ H'.length ∧ ∀ j, j < H.length → H'[j]? = H[j]?
theorem GBx.put {H H1 H3 : List Blk} {c0 c1 c2 : List AV} {base : Nat} (h : GBx H c0 c1 H1) (hb : H.length + 2 ≤ base) (hl : H1.length ≤ H3.length) (h3 : ∀ j, j < base → H3[j]? = H1[j]?) : GBx H c0 c2 (H3.set (H.length + 1) ⟨0, tyGr, 1, c2⟩) := by
  obtain ⟨a, b, c, d⟩ := h
  refine ⟨?_, List.getElem?_set_self (by omega), by simp; omega, fun j hj => ?_⟩
  · rw [List.getElem?_set_ne (by omega), h3 _ (by omega)]; exact a
  · rw [List.getElem?_set_ne (by omega), h3 _ (by omega)]; exact d j hj
end Go.Proofs.YtdgcgckehihboaaGreatDoor
namespace Go.Proofs.YtdgcgckehihboaaGreatDoor
variable [Go.Av.DoorC]
open Go.Av
theorem Bel_ilE (b : Nat) (es : List (Int × Int)) : Bel b (ilE es) := by
  refine .il _ _ (fun c hc => ?_)
  rw [flatE_lit] at hc
  obtain ⟨v, _, rfl⟩ := List.mem_map.1 hc
  exact .lit _
end Go.Proofs.YtdgcgckehihboaaGreatDoor
namespace Go.Proofs.YtdgcgckehihboaaGreatDoor
variable [Go.Av.DoorC]
open Go.Av
abbrev f_spec_l21Colors : Nat := 49
def c_spec_l21Colors : SC :=
 .seq (.reg [
     ⟨(some 2), .mv (.const (.bool false)), none⟩] [0])
 (.seq (.seq (.reg [
     ⟨(some 4), .mv (.tmp 0), none⟩,
     ⟨(some 5), .len (.tmp 4), none⟩,
     ⟨(some 6), .bin .gtr (.tmp 5) (.const (.int .i64 64)), none⟩] [0, 6])
 (.cond (.tmp 6)
  (.seq (.reg [
      ⟨(some 2), .mv (.const (.bool false)), none⟩] [2])
  (.ret))
  (.skip)))
 (.seq (.seq (.reg [
     ⟨(some 3), .mv (.const (.int .i64 0)), none⟩] [0, 3])
 (.block 0 (.loop [0, 3]
   (.seq (.seq (.reg [
       ⟨(some 7), .mv (.tmp 3), none⟩,
       ⟨(some 8), .mv (.tmp 0), none⟩,
       ⟨(some 9), .len (.tmp 8), none⟩,
       ⟨(some 10), .bin .lss (.tmp 7) (.tmp 9), none⟩] [0, 3, 10])
   (.cond (.tmp 10)
    (.skip)
    (.exit 0)))
   (.seq (.block 1 (.seq (.reg [
        ⟨(some 13), .mv (.tmp 0), none⟩,
        ⟨(some 14), .mv (.tmp 3), none⟩,
        ⟨(some 15), .iaddr 1 (.tmp 13) (.tmp 14), none⟩,
        ⟨(some 16), .load 1 false (.tmp 15), none⟩,
        ⟨(some 17), .call 50 [(.tmp 16), (.const (.int .i64 0)), (.const (.int .i64 63))], none⟩,
        ⟨(some 18), .un .not (.tmp 17), none⟩] [0, 3, 18])
    (.cond (.tmp 18)
     (.seq (.reg [
         ⟨(some 2), .mv (.const (.bool false)), none⟩] [2])
     (.ret))
     (.skip))))
   (.reg [
       ⟨(some 11), .mv (.tmp 3), none⟩,
       ⟨(some 12), .bin .add (.tmp 11) (.const (.int .i64 1)), none⟩,
       ⟨(some 3), .mv (.tmp 12), none⟩] [0, 3]))))))
 (.seq (.reg [
     ⟨(some 2), .mv (.const (.bool true)), none⟩] [2])
 (.ret))))
theorem s_spec_l21Colors : stripF Tryz.prog 49 [[0], [0, 6], [2], [0, 3], [0, 3], [0, 3, 10], [0, 3, 18], [2], [0, 3], [2]] = some (c_spec_l21Colors, [.tmp 2], 19) := by kernel_rfl
abbrev f_spec_l21Less : Nat := 51
def c_spec_l21Less : SC :=
 .seq (.reg [
     ⟨(some 2), .box 49 (.tmp 0), none⟩,
     ⟨(some 3), .box 49 (.tmp 1), none⟩,
     ⟨(some 4), .mv (.const (.bool false)), none⟩] [2, 3])
 (.seq (.reg [
     ⟨(some 5), .faddr 0 (.tmp 2), none⟩,
     ⟨(some 6), .load 1 false (.tmp 5), none⟩,
     ⟨(some 7), .faddr 0 (.tmp 3), none⟩,
     ⟨(some 8), .load 1 false (.tmp 7), none⟩,
     ⟨(some 9), .bin .lss (.tmp 6) (.tmp 8), none⟩,
     ⟨(some 10), .mv (.tmp 9), none⟩,
     ⟨(some 11), .faddr 0 (.tmp 2), (some (10, false))⟩,
     ⟨(some 12), .load 1 false (.tmp 11), (some (10, false))⟩,
     ⟨(some 13), .faddr 0 (.tmp 3), (some (10, false))⟩,
     ⟨(some 14), .load 1 false (.tmp 13), (some (10, false))⟩,
     ⟨(some 15), .bin .eql (.tmp 12) (.tmp 14), (some (10, false))⟩,
     ⟨(some 16), .mv (.tmp 15), (some (10, false))⟩,
     ⟨(some 17), .faddr 1 (.tmp 2), (some (16, true))⟩,
     ⟨(some 18), .load 1 false (.tmp 17), (some (16, true))⟩,
     ⟨(some 19), .faddr 1 (.tmp 3), (some (16, true))⟩,
     ⟨(some 20), .load 1 false (.tmp 19), (some (16, true))⟩,
     ⟨(some 21), .bin .lss (.tmp 18) (.tmp 20), (some (16, true))⟩,
     ⟨(some 22), .pick (.tmp 16) (.tmp 21) (.const (.bool false)), (some (10, false))⟩,
     ⟨(some 23), .pick (.tmp 10) (.const (.bool true)) (.tmp 22), none⟩,
     ⟨(some 4), .mv (.tmp 23), none⟩] [4])
 (.ret))
theorem s_spec_l21Less : stripF Tryz.prog 51 [[2, 3], [4]] = some (c_spec_l21Less, [.tmp 4], 24) := by kernel_rfl
abbrev f_impl_areColors_c1 : Nat := 57
def c_impl_areColors_c1 : SC :=
 .seq (.reg [
     ⟨(some 2), .mv (.const (.bool false)), none⟩] [0])
 (.seq (.reg [
     ⟨(some 3), .mv (.tmp 0), none⟩,
     ⟨(some 4), .call 58 [(.tmp 3)], none⟩,
     ⟨(some 5), .un .not (.tmp 4), none⟩,
     ⟨(some 2), .mv (.tmp 5), none⟩] [2])
 (.ret))
theorem s_impl_areColors_c1 : stripF Tryz.prog 57 [[0], [2]] = some (c_impl_areColors_c1, [.tmp 2], 6) := by kernel_rfl
abbrev f_impl_isColor : Nat := 58
def c_impl_isColor : SC :=
 .seq (.reg [
     ⟨(some 2), .mv (.const (.bool false)), none⟩] [0])
 (.seq (.reg [
     ⟨(some 3), .mv (.tmp 0), none⟩,
     ⟨(some 4), .call 45 [(.tmp 3), (.const (.int .i64 0)), (.const (.int .i64 63))], none⟩,
     ⟨(some 2), .mv (.tmp 4), none⟩] [2])
 (.ret))
theorem s_impl_isColor : stripF Tryz.prog 58 [[0], [2]] = some (c_impl_isColor, [.tmp 2], 5) := by kernel_rfl
section
variable {H : List Blk}
@[go_sem] theorem cell1_ilE (es : List (Int × Int)) : (ilE es).cell1 = true := rfl
@[go_sem] theorem partsOf_ilE (es : List (Int × Int)) : partsOf (ilE es) = [ilE es] := rfl
@[go_sem] theorem aview_ilE (es : List (Int × Int)) : aview H (ilE es) = some (es.length, flatE es) := rfl
end
def edB (n : Int) (e : Int × Int) : Bool := decide (0 ≤ e.1) && (decide (e.1 < e.2) && decide (e.2 < n))
def edsB (n : Int) (es : List (Int × Int)) : Bool := es.all (edB n) && decide (es.Pairwise fun a b => cmpE a b < 0)
def colsB (cols : List Int) : Bool := decide (cols.length ≤ 64) && cols.all fun c => decide (0 ≤ c) && decide (c ≤ 63)
def grB (cols : List Int) (es : List (Int × Int)) : Bool := edsB cols.length es && (colsB cols && decide (es.length ≤ 512))
theorem asc_snoc {A : Type} {cf : A → A → Int} (h : TotC cf) {l : List A} {x : A} (hl : l.Pairwise fun a b => cf a b < 0) : (l ++ [x]).Pairwise (fun a b => cf a b < 0) ↔ ∀ (y : A), l.getLast? = some y → cf y x < 0 := by
  rw [List.pairwise_append]
  constructor
  · rintro ⟨-, -, h3⟩ y hy
    exact h3 y (List.mem_of_getLast? hy) x (by simp)
  · intro hy
    refine ⟨hl, by simp, fun a ha b hb => ?_⟩
    rw [List.mem_singleton.1 hb]
    rcases nilOrSnoc l with rfl | ⟨l', z, rfl⟩
    · simp at ha
    · have hz := hy z (by simp)
      rcases List.mem_append.1 ha with ha | ha
      · exact h.trans _ _ _ ((List.pairwise_append.1 hl).2.2 a ha z (by simp)) hz
      · rw [List.mem_singleton.1 ha]; exact hz
theorem edsB_snoc (n : Int) (pre : List (Int × Int)) (x : Int × Int) (hp : edsB n pre = true) : edsB n (pre ++ [x]) = (edB n x && (decide (pre.length = 0) || decide (cmpE (pre.getD (pre.length - 1) (0, 0)) x < 0))) := by
  unfold edsB at hp ⊢
  rw [Bool.and_eq_true, decide_eq_true_eq] at hp
  rw [List.all_append, hp.1, Bool.true_and, List.all_cons, List.all_nil, Bool.and_true]
  congr 1
  rw [Bool.eq_iff_iff, decide_eq_true_eq, asc_snoc cmpE_tot hp.2, Bool.or_eq_true, decide_eq_true_eq, decide_eq_true_eq]
  rcases nilOrSnoc pre with rfl | ⟨l', z, rfl⟩
  · simp
  · simp
theorem edsB_pre {n : Int} {pre post : List (Int × Int)} (h : edsB n pre = false) : edsB n (pre ++ post) = false := by
  unfold edsB at h ⊢
  rw [Bool.and_eq_false_iff] at h ⊢
  rcases h with h | h
  · left; rw [List.all_append, h]; rfl
  · right
    rw [decide_eq_false_iff_not] at h ⊢
    intro hh
    exact h (List.pairwise_append.1 hh).1
theorem isColor_call : callable Tryz.prog f_impl_areColors_c1 = true := by kernel_rfl
theorem isColor_fn (n : Int) : PFn Tryz.prog f_impl_isColor [I n] (Bv (decide (0 ≤ n) && decide (n ≤ 63))) := by
  intro H; refine ACalls.introB s_impl_isColor (by simp) ?_; intro hB hA; unfold c_impl_isColor; simp (config := { maxSteps := 1000000 }) (disch := (first | omega | (simp only [go_sem]; try omega))) only [go_sem, Nat.reduceAdd, Nat.reduceEqDiff, Nat.reduceLeDiff, Nat.reduceMul, Nat.reduceLT, reduceIte, Int.reduceToNat, w64_id, cast_succ]
  repeat (first | (with_reducible first | refine SW.seq ?_ | refine SW.block ?_ | refine SW.rowC ?_ | refine SW.skip ?_ | refine SW.exit ?_ | refine PFn.use (within_fn _ _ _) ?_ | refine PFn.useq (within_fn _ _ _) ?_ | intro _ | refine And.intro (by omega) ?_) | simp (config := { maxSteps := 1000000 }) (disch := (first | omega | (simp only [go_sem]; try omega))) only [go_sem, Nat.reduceAdd, Nat.reduceEqDiff, Nat.reduceLeDiff, Nat.reduceMul, Nat.reduceLT, reduceIte, Int.reduceToNat, w64_id, cast_succ])
  refine SW.ret ?_; (try simp only [go_sem]); (first | refine FunPost.one ?_ | refine FunPost.two ?_ | refine FunPost.three ?_); (try simp (config := { maxSteps := 1000000 }) (disch := (first | omega | (simp only [go_sem]; try omega))) only [go_sem, Nat.reduceAdd, Nat.reduceEqDiff, Nat.reduceLeDiff, Nat.reduceMul, Nat.reduceLT, reduceIte, Int.reduceToNat, w64_id, cast_succ]); (first | (with_reducible refine GR.drop ?_ ?_; (simp only [go_sem, and_self, and_true, true_and, implies_true, List.take_succ_cons, List.take_zero])) | refine GR.of ?_); refine ⟨?_, rfl⟩; (try with_reducible rfl)
theorem areColors_c1_fn (n : Int) : PFn Tryz.prog f_impl_areColors_c1 [I n] (Bv (!(decide (0 ≤ n) && decide (n ≤ 63)))) := by
  intro H; refine ACalls.introB s_impl_areColors_c1 (by simp) ?_; intro hB hA; unfold c_impl_areColors_c1; simp (config := { maxSteps := 1000000 }) (disch := (first | omega | (simp only [go_sem]; try omega))) only [go_sem, Nat.reduceAdd, Nat.reduceEqDiff, Nat.reduceLeDiff, Nat.reduceMul, Nat.reduceLT, reduceIte, Int.reduceToNat, w64_id, cast_succ]
  repeat (first | (with_reducible first | refine SW.seq ?_ | refine SW.block ?_ | refine SW.rowC ?_ | refine SW.skip ?_ | refine SW.exit ?_ | refine PFn.use (isColor_fn _) ?_ | refine PFn.useq (isColor_fn _) ?_ | intro _ | refine And.intro (by omega) ?_) | simp (config := { maxSteps := 1000000 }) (disch := (first | omega | (simp only [go_sem]; try omega))) only [go_sem, Nat.reduceAdd, Nat.reduceEqDiff, Nat.reduceLeDiff, Nat.reduceMul, Nat.reduceLT, reduceIte, Int.reduceToNat, w64_id, cast_succ])
  refine SW.ret ?_; (try simp only [go_sem]); (first | refine FunPost.one ?_ | refine FunPost.two ?_ | refine FunPost.three ?_); (try simp (config := { maxSteps := 1000000 }) (disch := (first | omega | (simp only [go_sem]; try omega))) only [go_sem, Nat.reduceAdd, Nat.reduceEqDiff, Nat.reduceLeDiff, Nat.reduceMul, Nat.reduceLT, reduceIte, Int.reduceToNat, w64_id, cast_succ]); (first | (with_reducible refine GR.drop ?_ ?_; (simp only [go_sem, and_self, and_true, true_and, implies_true, List.take_succ_cons, List.take_zero])) | refine GR.of ?_); refine ⟨?_, rfl⟩; (try with_reducible rfl)
theorem l21Colors_fn (cols : List Int) : PFn Tryz.prog f_spec_l21Colors [ilS cols] (Bv (colsB cols)) := by
  unfold colsB
  by_cases h : cols.length ≤ 64
  · rw [decide_eq_true h, Bool.true_and]
    have d1 : decide ((64 : Int) < (cols.length : Int)) = false := decide_eq_false (by omega)
    intro H; refine ACalls.introB s_spec_l21Colors (by simp) ?_; intro hB hA; unfold c_spec_l21Colors; simp (config := { maxSteps := 1000000 }) (disch := (first | omega | (simp only [go_sem]; try omega))) only [go_sem, Nat.reduceAdd, Nat.reduceEqDiff, Nat.reduceLeDiff, Nat.reduceMul, Nat.reduceLT, reduceIte, Int.reduceToNat, w64_id, cast_succ]
    repeat (first | (with_reducible first | refine SW.seq ?_ | refine SW.block ?_ | refine SW.rowC ?_ | refine SW.skip ?_ | refine SW.exit ?_ | intro _ | refine And.intro (by omega) ?_) | simp (config := { maxSteps := 1000000 }) (disch := (first | omega | (simp only [go_sem]; try omega))) only [go_sem, Nat.reduceAdd, Nat.reduceEqDiff, Nat.reduceLeDiff, Nat.reduceMul, Nat.reduceLT, reduceIte, Int.reduceToNat, w64_id, cast_succ, d1])
    refine SW.condF rfl ?_
    repeat (first | (with_reducible first | refine SW.seq ?_ | refine SW.block ?_ | refine SW.rowC ?_ | refine SW.skip ?_ | refine SW.exit ?_ | intro _ | refine And.intro (by omega) ?_) | simp (config := { maxSteps := 1000000 }) (disch := (first | omega | (simp only [go_sem]; try omega))) only [go_sem, Nat.reduceAdd, Nat.reduceEqDiff, Nat.reduceLeDiff, Nat.reduceMul, Nat.reduceLT, reduceIte, Int.reduceToNat, w64_id, cast_succ])
    refine SW.loopE (fun E0 H0 q E' H' => ∃ (pre post : List Int), cols = pre ++ post ∧ q = post.length ∧ E' = aput E0 3 (I pre.length) ∧ H' = H0 ∧ (pre.all fun c => decide (0 ≤ c) && decide (c ≤ 63)) = true) cols.length ⟨[], cols, rfl, rfl, rfl, rfl, rfl⟩ ?_
    rintro q E' H' ⟨pre, post, hq, rfl, rfl, rfl, ha⟩
    simp (config := { maxSteps := 1000000 }) (disch := (first | omega | (simp only [go_sem]; try omega))) only [go_sem, Nat.reduceAdd, Nat.reduceEqDiff, Nat.reduceLeDiff, Nat.reduceMul, Nat.reduceLT, reduceIte, Int.reduceToNat, w64_id, cast_succ]
    repeat (first | (with_reducible first | refine SW.seq ?_ | refine SW.block ?_ | refine SW.rowC ?_ | refine SW.skip ?_ | refine SW.exit ?_ | intro _ | refine And.intro (by omega) ?_) | simp (config := { maxSteps := 1000000 }) (disch := (first | omega | (simp only [go_sem]; try omega))) only [go_sem, Nat.reduceAdd, Nat.reduceEqDiff, Nat.reduceLeDiff, Nat.reduceMul, Nat.reduceLT, reduceIte, Int.reduceToNat, w64_id, cast_succ])
    (first | refine SW.condD rfl (fun h2 => ?_) (fun h2 => ?_) | refine SW.condN rfl (fun h2 => ?_) (fun h2 => ?_) | refine SW.condNB rfl (fun h2 => ?_) (fun h2 => ?_) | refine SW.condB rfl (fun h2 => ?_) (fun h2 => ?_))
    · obtain ⟨x, post, rfl, hg, -⟩ := consOf (d := 0) hq (by omega)
      repeat (first | (with_reducible first | refine SW.seq ?_ | refine SW.block ?_ | refine SW.rowC ?_ | refine SW.skip ?_ | refine SW.exit ?_ | refine PFn.use (l00In_fn _ _ _) ?_ | refine PFn.useq (l00In_fn _ _ _) ?_ | intro _ | refine And.intro (by omega) ?_) | simp (config := { maxSteps := 1000000 }) (disch := (first | omega | (simp only [go_sem]; try omega))) only [go_sem, Nat.reduceAdd, Nat.reduceEqDiff, Nat.reduceLeDiff, Nat.reduceMul, Nat.reduceLT, reduceIte, Int.reduceToNat, w64_id, cast_succ, hg])
      cases hx : (decide (0 ≤ x) && decide (x ≤ 63)) with
      | true =>
        repeat (first | (with_reducible first | refine SW.seq ?_ | refine SW.block ?_ | refine SW.rowC ?_ | refine SW.skip ?_ | refine SW.exit ?_ | intro _ | refine And.intro (by omega) ?_) | simp (config := { maxSteps := 1000000 }) (disch := (first | omega | (simp only [go_sem]; try omega))) only [go_sem, Nat.reduceAdd, Nat.reduceEqDiff, Nat.reduceLeDiff, Nat.reduceMul, Nat.reduceLT, reduceIte, Int.reduceToNat, w64_id, cast_succ])
        refine SW.condF rfl ?_
        repeat (first | (with_reducible first | refine SW.seq ?_ | refine SW.block ?_ | refine SW.rowC ?_ | refine SW.skip ?_ | refine SW.exit ?_ | intro _ | refine And.intro (by omega) ?_) | simp (config := { maxSteps := 1000000 }) (disch := (first | omega | (simp only [go_sem]; try omega))) only [go_sem, Nat.reduceAdd, Nat.reduceEqDiff, Nat.reduceLeDiff, Nat.reduceMul, Nat.reduceLT, reduceIte, Int.reduceToNat, w64_id, cast_succ])
        refine SLoop.next post.length (by simp) ⟨pre ++ [x], post, by simp [hq], rfl, by simp [go_sem], rfl, ?_⟩
        rw [List.all_append, ha, List.all_cons, hx]; rfl
      | false =>
        repeat (first | (with_reducible first | refine SW.seq ?_ | refine SW.block ?_ | refine SW.rowC ?_ | refine SW.skip ?_ | refine SW.exit ?_ | intro _ | refine And.intro (by omega) ?_) | simp (config := { maxSteps := 1000000 }) (disch := (first | omega | (simp only [go_sem]; try omega))) only [go_sem, Nat.reduceAdd, Nat.reduceEqDiff, Nat.reduceLeDiff, Nat.reduceMul, Nat.reduceLT, reduceIte, Int.reduceToNat, w64_id, cast_succ])
        refine SW.condT rfl ?_
        repeat (first | (with_reducible first | refine SW.seq ?_ | refine SW.block ?_ | refine SW.rowC ?_ | refine SW.skip ?_ | refine SW.exit ?_ | intro _ | refine And.intro (by omega) ?_) | simp (config := { maxSteps := 1000000 }) (disch := (first | omega | (simp only [go_sem]; try omega))) only [go_sem, Nat.reduceAdd, Nat.reduceEqDiff, Nat.reduceLeDiff, Nat.reduceMul, Nat.reduceLT, reduceIte, Int.reduceToNat, w64_id, cast_succ])
        refine SW.ret ?_; (try simp only [go_sem]); (first | refine FunPost.one ?_ | refine FunPost.two ?_ | refine FunPost.three ?_); (try simp (config := { maxSteps := 1000000 }) (disch := (first | omega | (simp only [go_sem]; try omega))) only [go_sem, Nat.reduceAdd, Nat.reduceEqDiff, Nat.reduceLeDiff, Nat.reduceMul, Nat.reduceLT, reduceIte, Int.reduceToNat, w64_id, cast_succ]); (first | (with_reducible refine GR.drop ?_ ?_; (simp only [go_sem, and_self, and_true, true_and, implies_true, List.take_succ_cons, List.take_zero])) | refine GR.of ?_); refine ⟨?_, rfl⟩; (try with_reducible rfl)
        rw [hq, List.all_append, List.all_cons, hx]; simp
    · obtain ⟨rfl, rfl⟩ := nilOf hq (by omega)
      repeat (first | (with_reducible first | refine SW.seq ?_ | refine SW.block ?_ | refine SW.rowC ?_ | refine SW.skip ?_ | refine SW.exit ?_ | intro _ | refine And.intro (by omega) ?_) | simp (config := { maxSteps := 1000000 }) (disch := (first | omega | (simp only [go_sem]; try omega))) only [go_sem, Nat.reduceAdd, Nat.reduceEqDiff, Nat.reduceLeDiff, Nat.reduceMul, Nat.reduceLT, reduceIte, Int.reduceToNat, w64_id, cast_succ])
      refine SW.ret ?_; (try simp only [go_sem]); (first | refine FunPost.one ?_ | refine FunPost.two ?_ | refine FunPost.three ?_); (try simp (config := { maxSteps := 1000000 }) (disch := (first | omega | (simp only [go_sem]; try omega))) only [go_sem, Nat.reduceAdd, Nat.reduceEqDiff, Nat.reduceLeDiff, Nat.reduceMul, Nat.reduceLT, reduceIte, Int.reduceToNat, w64_id, cast_succ]); (first | (with_reducible refine GR.drop ?_ ?_; (simp only [go_sem, and_self, and_true, true_and, implies_true, List.take_succ_cons, List.take_zero])) | refine GR.of ?_); refine ⟨?_, rfl⟩; (try with_reducible rfl)
      rw [ha]
  · rw [decide_eq_false h, Bool.false_and]
    have d1 : decide ((64 : Int) < (cols.length : Int)) = true := decide_eq_true (by omega)
    intro H; refine ACalls.introB s_spec_l21Colors (by simp) ?_; intro hB hA; unfold c_spec_l21Colors; simp (config := { maxSteps := 1000000 }) (disch := (first | omega | (simp only [go_sem]; try omega))) only [go_sem, Nat.reduceAdd, Nat.reduceEqDiff, Nat.reduceLeDiff, Nat.reduceMul, Nat.reduceLT, reduceIte, Int.reduceToNat, w64_id, cast_succ]
    repeat (first | (with_reducible first | refine SW.seq ?_ | refine SW.block ?_ | refine SW.rowC ?_ | refine SW.skip ?_ | refine SW.exit ?_ | intro _ | refine And.intro (by omega) ?_) | simp (config := { maxSteps := 1000000 }) (disch := (first | omega | (simp only [go_sem]; try omega))) only [go_sem, Nat.reduceAdd, Nat.reduceEqDiff, Nat.reduceLeDiff, Nat.reduceMul, Nat.reduceLT, reduceIte, Int.reduceToNat, w64_id, cast_succ, d1])
    refine SW.condT rfl ?_
    repeat (first | (with_reducible first | refine SW.seq ?_ | refine SW.block ?_ | refine SW.rowC ?_ | refine SW.skip ?_ | refine SW.exit ?_ | intro _ | refine And.intro (by omega) ?_) | simp (config := { maxSteps := 1000000 }) (disch := (first | omega | (simp only [go_sem]; try omega))) only [go_sem, Nat.reduceAdd, Nat.reduceEqDiff, Nat.reduceLeDiff, Nat.reduceMul, Nat.reduceLT, reduceIte, Int.reduceToNat, w64_id, cast_succ])
    refine SW.ret ?_; (try simp only [go_sem]); (first | refine FunPost.one ?_ | refine FunPost.two ?_ | refine FunPost.three ?_); (try simp (config := { maxSteps := 1000000 }) (disch := (first | omega | (simp only [go_sem]; try omega))) only [go_sem, Nat.reduceAdd, Nat.reduceEqDiff, Nat.reduceLeDiff, Nat.reduceMul, Nat.reduceLT, reduceIte, Int.reduceToNat, w64_id, cast_succ]); (first | (with_reducible refine GR.drop ?_ ?_; (simp only [go_sem, and_self, and_true, true_and, implies_true, List.take_succ_cons, List.take_zero])) | refine GR.of ?_); refine ⟨?_, rfl⟩; (try with_reducible rfl)
theorem cmpE_lt {a b : Int × Int} : cmpE a b < 0 ↔ a.1 < b.1 ∨ (a.1 = b.1 ∧ a.2 < b.2) := by
  unfold cmpE cmpI
  by_cases h1 : a.1 < b.1
  · simp [h1]
  · by_cases h2 : b.1 < a.1
    · simp [h1, h2]; omega
    · have e : a.1 = b.1 := by omega
      simp [e]
      by_cases h3 : a.2 < b.2
      · simp [h3]
      · simp [h3]; split <;> omega
theorem l21Less_fn (a b : Int × Int) : PFn Tryz.prog f_spec_l21Less [agE a, agE b] (Bv (decide (cmpE a b < 0))) := by
  obtain ⟨a1, a2⟩ := a
  obtain ⟨b1, b2⟩ := b
  unfold agE
  have hd : decide (cmpE (a1, a2) (b1, b2) < 0) = (decide (a1 < b1) || (decide (a1 = b1) && decide (a2 < b2))) := by
    rw [Bool.eq_iff_iff]; simp [cmpE_lt]
  rw [hd]
  by_cases h1 : a1 < b1
  · have d1 : decide (a1 < b1) = true := decide_eq_true h1
    intro H; refine ACalls.introB s_spec_l21Less (by simp) ?_; intro hB hA; unfold c_spec_l21Less; simp (config := { maxSteps := 1000000 }) (disch := (first | omega | (simp only [go_sem]; try omega))) only [go_sem, Nat.reduceAdd, Nat.reduceEqDiff, Nat.reduceLeDiff, Nat.reduceMul, Nat.reduceLT, reduceIte, Int.reduceToNat, w64_id, cast_succ]
    repeat (first | (with_reducible first | refine SW.seq ?_ | refine SW.block ?_ | refine SW.rowC ?_ | refine SW.skip ?_ | refine SW.exit ?_ | intro _ | refine And.intro (by omega) ?_) | simp (config := { maxSteps := 1000000 }) (disch := (first | omega | (simp only [go_sem]; try omega))) only [go_sem, Nat.reduceAdd, Nat.reduceEqDiff, Nat.reduceLeDiff, Nat.reduceMul, Nat.reduceLT, reduceIte, Int.reduceToNat, w64_id, cast_succ, d1])
    refine SW.ret ?_; (try simp only [go_sem]); (first | refine FunPost.one ?_ | refine FunPost.two ?_ | refine FunPost.three ?_); (try simp (config := { maxSteps := 1000000 }) (disch := (first | omega | (simp only [go_sem]; try omega))) only [go_sem, Nat.reduceAdd, Nat.reduceEqDiff, Nat.reduceLeDiff, Nat.reduceMul, Nat.reduceLT, reduceIte, Int.reduceToNat, w64_id, cast_succ]); (first | (with_reducible refine GR.drop ?_ ?_; (simp only [go_sem, and_self, and_true, true_and, implies_true, List.take_succ_cons, List.take_zero])) | refine GR.of ?_); refine ⟨?_, rfl⟩; (try with_reducible rfl)
    rfl
  · have d1 : decide (a1 < b1) = false := decide_eq_false h1
    by_cases h2 : a1 = b1
    · have d2 : decide (a1 = b1) = true := decide_eq_true h2
      intro H; refine ACalls.introB s_spec_l21Less (by simp) ?_; intro hB hA; unfold c_spec_l21Less; simp (config := { maxSteps := 1000000 }) (disch := (first | omega | (simp only [go_sem]; try omega))) only [go_sem, Nat.reduceAdd, Nat.reduceEqDiff, Nat.reduceLeDiff, Nat.reduceMul, Nat.reduceLT, reduceIte, Int.reduceToNat, w64_id, cast_succ]
      repeat (first | (with_reducible first | refine SW.seq ?_ | refine SW.block ?_ | refine SW.rowC ?_ | refine SW.skip ?_ | refine SW.exit ?_ | intro _ | refine And.intro (by omega) ?_) | simp (config := { maxSteps := 1000000 }) (disch := (first | omega | (simp only [go_sem]; try omega))) only [go_sem, Nat.reduceAdd, Nat.reduceEqDiff, Nat.reduceLeDiff, Nat.reduceMul, Nat.reduceLT, reduceIte, Int.reduceToNat, w64_id, cast_succ, d1, d2])
      refine SW.ret ?_; (try simp only [go_sem]); (first | refine FunPost.one ?_ | refine FunPost.two ?_ | refine FunPost.three ?_); (try simp (config := { maxSteps := 1000000 }) (disch := (first | omega | (simp only [go_sem]; try omega))) only [go_sem, Nat.reduceAdd, Nat.reduceEqDiff, Nat.reduceLeDiff, Nat.reduceMul, Nat.reduceLT, reduceIte, Int.reduceToNat, w64_id, cast_succ]); (first | (with_reducible refine GR.drop ?_ ?_; (simp only [go_sem, and_self, and_true, true_and, implies_true, List.take_succ_cons, List.take_zero])) | refine GR.of ?_); refine ⟨?_, rfl⟩; (try with_reducible rfl)
      rfl
    · have d2 : decide (a1 = b1) = false := decide_eq_false h2
      intro H; refine ACalls.introB s_spec_l21Less (by simp) ?_; intro hB hA; unfold c_spec_l21Less; simp (config := { maxSteps := 1000000 }) (disch := (first | omega | (simp only [go_sem]; try omega))) only [go_sem, Nat.reduceAdd, Nat.reduceEqDiff, Nat.reduceLeDiff, Nat.reduceMul, Nat.reduceLT, reduceIte, Int.reduceToNat, w64_id, cast_succ]
      repeat (first | (with_reducible first | refine SW.seq ?_ | refine SW.block ?_ | refine SW.rowC ?_ | refine SW.skip ?_ | refine SW.exit ?_ | intro _ | refine And.intro (by omega) ?_) | simp (config := { maxSteps := 1000000 }) (disch := (first | omega | (simp only [go_sem]; try omega))) only [go_sem, Nat.reduceAdd, Nat.reduceEqDiff, Nat.reduceLeDiff, Nat.reduceMul, Nat.reduceLT, reduceIte, Int.reduceToNat, w64_id, cast_succ, d1, d2])
      refine SW.ret ?_; (try simp only [go_sem]); (first | refine FunPost.one ?_ | refine FunPost.two ?_ | refine FunPost.three ?_); (try simp (config := { maxSteps := 1000000 }) (disch := (first | omega | (simp only [go_sem]; try omega))) only [go_sem, Nat.reduceAdd, Nat.reduceEqDiff, Nat.reduceLeDiff, Nat.reduceMul, Nat.reduceLT, reduceIte, Int.reduceToNat, w64_id, cast_succ]); (first | (with_reducible refine GR.drop ?_ ?_; (simp only [go_sem, and_self, and_true, true_and, implies_true, List.take_succ_cons, List.take_zero])) | refine GR.of ?_); refine ⟨?_, rfl⟩; (try with_reducible rfl)
      rfl
end Go.Proofs.YtdgcgckehihboaaGreatDoor
