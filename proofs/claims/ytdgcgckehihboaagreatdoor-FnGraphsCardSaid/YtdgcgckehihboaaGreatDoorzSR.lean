/- The source of choices: what is drawn lies within bounds. -/
import Derived.Test.YtdgcgckehihboaaGreatDoorProg
import Derived.KernelRfl
import Derived.Test.YtdgcgckehihboaaGreatDoorzL1
import Derived.Test.YtdgcgckehihboaaGreatDoorzAv17
set_option linter.unusedSimpArgs false
set_option linter.unusedVariables false
set_option linter.unusedSectionVars false
set_option maxHeartbeats 4000000
set_option maxRecDepth 100000
namespace Go.Proofs.YtdgcgckehihboaaGreatDoor
variable [Go.Av.DoorC]
open Go.Av
abbrev f_spec_l00Src_pick : Nat := 34
def c_spec_l00Src_pick : SC :=
 .seq (.reg [
     ⟨(some 4), .mv (.const (.int .i64 0)), none⟩] [0, 1])
 (.seq (.seq (.reg [
     ⟨(some 6), .mv (.tmp 1), none⟩,
     ⟨(some 7), .bin .leq (.tmp 6) (.const (.int .i64 1)), none⟩] [0, 1, 7])
 (.cond (.tmp 7)
  (.seq (.reg [
      ⟨(some 4), .mv (.const (.int .i64 0)), none⟩] [4])
  (.ret))
  (.skip)))
 (.seq (.reg [
     ⟨(some 8), .mv (.tmp 0), none⟩,
     ⟨(some 9), .call 59 [(.tmp 8)], none⟩,
     ⟨(some 5), .mv (.tmp 9), none⟩] [0, 1, 5])
 (.seq (.seq (.reg [
     ⟨(some 10), .mv (.tmp 1), none⟩,
     ⟨(some 11), .bin .gtr (.tmp 10) (.const (.int .i64 200)), none⟩] [0, 1, 5, 11])
 (.cond (.tmp 11)
  (.reg [
      ⟨(some 12), .mv (.tmp 5), none⟩,
      ⟨(some 13), .bin .mul (.tmp 12) (.const (.int .i64 256)), none⟩,
      ⟨(some 14), .mv (.tmp 0), none⟩,
      ⟨(some 15), .call 59 [(.tmp 14)], none⟩,
      ⟨(some 16), .bin .add (.tmp 13) (.tmp 15), none⟩,
      ⟨(some 5), .mv (.tmp 16), none⟩] [1, 5])
  (.skip)))
 (.seq (.reg [
     ⟨(some 17), .mv (.tmp 5), none⟩,
     ⟨(some 18), .mv (.tmp 1), none⟩,
     ⟨(some 19), .bin .rem (.tmp 17) (.tmp 18), none⟩,
     ⟨(some 4), .mv (.tmp 19), none⟩] [4])
 (.ret)))))
theorem s_spec_l00Src_pick : stripF Tryz.prog 34 [[0, 1], [0, 1, 7], [4], [0, 1, 5], [0, 1, 5, 11], [1, 5], [4]] = some (c_spec_l00Src_pick, [.tmp 4], 20) := by kernel_rfl
abbrev f_spec_l00Src_one : Nat := 35
def c_spec_l00Src_one : SC :=
 .seq (.reg [
     ⟨(some 4), .mv (.const (.bool false)), none⟩] [0, 1])
 (.seq (.reg [
     ⟨(some 5), .mv (.tmp 0), none⟩,
     ⟨(some 6), .mv (.tmp 1), none⟩,
     ⟨(some 7), .call 34 [(.tmp 5), (.tmp 6)], none⟩,
     ⟨(some 8), .bin .eql (.tmp 7) (.const (.int .i64 0)), none⟩,
     ⟨(some 4), .mv (.tmp 8), none⟩] [4])
 (.ret))
theorem s_spec_l00Src_one : stripF Tryz.prog 35 [[0, 1], [4]] = some (c_spec_l00Src_one, [.tmp 4], 9) := by kernel_rfl
abbrev f_spec_l00Src_among : Nat := 36
def c_spec_l00Src_among : SC :=
 .seq (.reg [
     ⟨(some 4), .mv (.const (.int .i64 0)), none⟩] [0, 1])
 (.seq (.reg [
     ⟨(some 5), .mv (.tmp 1), none⟩,
     ⟨(some 6), .mv (.tmp 0), none⟩,
     ⟨(some 7), .mv (.tmp 1), none⟩,
     ⟨(some 8), .len (.tmp 7), none⟩,
     ⟨(some 9), .call 34 [(.tmp 6), (.tmp 8)], none⟩,
     ⟨(some 10), .iaddr 1 (.tmp 5) (.tmp 9), none⟩,
     ⟨(some 11), .load 1 false (.tmp 10), none⟩,
     ⟨(some 4), .mv (.tmp 11), none⟩] [4])
 (.ret))
theorem s_spec_l00Src_among : stripF Tryz.prog 36 [[0, 1], [4]] = some (c_spec_l00Src_among, [.tmp 4], 12) := by kernel_rfl
abbrev f_spec_l00Src_next : Nat := 59
def c_spec_l00Src_next : SC :=
 .seq (.reg [
     ⟨(some 2), .mv (.const (.int .i64 0)), none⟩] [0])
 (.seq (.reg [
     ⟨(some 3), .mv (.const (.int .i64 0)), none⟩] [0, 3])
 (.seq (.seq (.reg [
     ⟨(some 4), .mv (.tmp 0), none⟩,
     ⟨(some 5), .nilc (.tmp 4), none⟩,
     ⟨(some 6), .faddr 1 (.tmp 5), none⟩,
     ⟨(some 7), .load 1 false (.tmp 6), none⟩,
     ⟨(some 8), .mv (.tmp 0), none⟩,
     ⟨(some 9), .nilc (.tmp 8), none⟩,
     ⟨(some 10), .faddr 0 (.tmp 9), none⟩,
     ⟨(some 11), .load 1 false (.tmp 10), none⟩,
     ⟨(some 12), .qlen (.tmp 11), none⟩,
     ⟨(some 13), .bin .lss (.tmp 7) (.tmp 12), none⟩] [0, 3, 13])
 (.cond (.tmp 13)
  (.reg [
      ⟨(some 14), .mv (.tmp 0), none⟩,
      ⟨(some 15), .nilc (.tmp 14), none⟩,
      ⟨(some 16), .faddr 0 (.tmp 15), none⟩,
      ⟨(some 17), .load 1 false (.tmp 16), none⟩,
      ⟨(some 18), .mv (.tmp 0), none⟩,
      ⟨(some 19), .nilc (.tmp 18), none⟩,
      ⟨(some 20), .faddr 1 (.tmp 19), none⟩,
      ⟨(some 21), .load 1 false (.tmp 20), none⟩,
      ⟨(some 22), .iaddr 1 (.tmp 17) (.tmp 21), none⟩,
      ⟨(some 23), .load 1 false (.tmp 22), none⟩,
      ⟨(some 24), .conv .i64 (.tmp 23), none⟩,
      ⟨(some 3), .mv (.tmp 24), none⟩] [0, 3])
  (.skip)))
 (.seq (.reg [
     ⟨(some 25), .mv (.tmp 0), none⟩,
     ⟨(some 26), .nilc (.tmp 25), none⟩,
     ⟨(some 27), .faddr 1 (.tmp 26), none⟩,
     ⟨(some 28), .load 1 false (.tmp 27), none⟩,
     ⟨(some 29), .bin .add (.tmp 28) (.const (.int .i64 1)), none⟩,
     ⟨(some 30), .nilc (.tmp 25), none⟩,
     ⟨(some 31), .faddr 1 (.tmp 30), none⟩,
     ⟨none, .store 1 (.tmp 31) (.tmp 29), none⟩] [0, 3])
 (.seq (.reg [
     ⟨(some 32), .mv (.tmp 0), none⟩,
     ⟨(some 33), .mv (.tmp 0), none⟩,
     ⟨(some 34), .nilc (.tmp 33), none⟩,
     ⟨(some 35), .faddr 2 (.tmp 34), none⟩,
     ⟨(some 36), .load 1 false (.tmp 35), none⟩,
     ⟨(some 37), .bin .mul (.tmp 36) (.const (.int .u64 6364136223846793005)), none⟩,
     ⟨(some 38), .mv (.tmp 3), none⟩,
     ⟨(some 39), .conv .u64 (.tmp 38), none⟩,
     ⟨(some 40), .bin .add (.tmp 37) (.tmp 39), none⟩,
     ⟨(some 41), .bin .add (.tmp 40) (.const (.int .u64 1442695040888963407)), none⟩,
     ⟨(some 42), .nilc (.tmp 32), none⟩,
     ⟨(some 43), .faddr 2 (.tmp 42), none⟩,
     ⟨none, .store 1 (.tmp 43) (.tmp 41), none⟩] [0, 3])
 (.seq (.seq (.reg [
     ⟨(some 44), .mv (.tmp 0), none⟩,
     ⟨(some 45), .nilc (.tmp 44), none⟩,
     ⟨(some 46), .faddr 1 (.tmp 45), none⟩,
     ⟨(some 47), .load 1 false (.tmp 46), none⟩,
     ⟨(some 48), .mv (.tmp 0), none⟩,
     ⟨(some 49), .nilc (.tmp 48), none⟩,
     ⟨(some 50), .faddr 0 (.tmp 49), none⟩,
     ⟨(some 51), .load 1 false (.tmp 50), none⟩,
     ⟨(some 52), .qlen (.tmp 51), none⟩,
     ⟨(some 53), .bin .leq (.tmp 47) (.tmp 52), none⟩] [0, 3, 53])
 (.cond (.tmp 53)
  (.seq (.reg [
      ⟨(some 54), .mv (.tmp 3), none⟩,
      ⟨(some 2), .mv (.tmp 54), none⟩] [2])
  (.ret))
  (.skip)))
 (.seq (.reg [
     ⟨(some 55), .mv (.tmp 0), none⟩,
     ⟨(some 56), .nilc (.tmp 55), none⟩,
     ⟨(some 57), .faddr 2 (.tmp 56), none⟩,
     ⟨(some 58), .load 1 false (.tmp 57), none⟩,
     ⟨(some 59), .bin .shr (.tmp 58) (.const (.int .u64 40)), none⟩,
     ⟨(some 60), .bin .and (.tmp 59) (.const (.int .u64 255)), none⟩,
     ⟨(some 61), .conv .i64 (.tmp 60), none⟩,
     ⟨(some 2), .mv (.tmp 61), none⟩] [2])
 (.ret)))))))
theorem s_spec_l00Src_next : stripF Tryz.prog 59 [[0], [0, 3], [0, 3, 13], [0, 3], [0, 3], [0, 3], [0, 3, 53], [2], [2]] = some (c_spec_l00Src_next, [.tmp 2], 62) := by kernel_rfl
abbrev tySrc : Nat := 68
def U8 (z : Int) : AV := .lit (.int .u8 z)
def U64 (z : Int) : AV := .lit (.int .u64 z)
section
variable {P : Program} {H : List Blk} {Kv : AV → List Blk → Prop} {a b z : Int} {k : Nat}
@[go_sem] theorem ev_u64S (F : Nat → AV) : ev F (.const (.int .u64 z)) = U64 z := (rfl)
@[go_sem] theorem BinW_mulU : BinW .mul (U64 a) (U64 b) H Kv = Kv (U64 (IntKind.u64.wrap (a * b))) H := by simp [BinW, swpBin, U64]
@[go_sem] theorem BinW_addU : BinW .add (U64 a) (U64 b) H Kv = Kv (U64 (IntKind.u64.wrap (a + b))) H := by simp [BinW, swpBin, U64]
@[go_sem] theorem BinW_shrU : BinW .shr (U64 a) (U64 b) H Kv = (0 ≤ b ∧ Kv (U64 (a.fdiv (2 ^ (min b.toNat 64)))) H) := (rfl)
@[go_sem] theorem BinW_andU : BinW .and (U64 a) (U64 b) H Kv = Kv (U64 (IntKind.u64.wrap (BitVec.ofInt 64 a &&& BitVec.ofInt 64 b).toNat)) H := by simp [BinW, swpBin, U64]; rfl
@[go_sem] theorem ConvW_U8 : ConvW .i64 (U8 z) H Kv = Kv (I (w64 z)) H := (rfl)
@[go_sem] theorem ConvW_U64 : ConvW .i64 (U64 z) H Kv = Kv (I (w64 z)) H := (rfl)
@[go_sem] theorem ConvW_IU : ConvW .u64 (I z) H Kv = Kv (U64 (IntKind.u64.wrap z)) H := (rfl)
@[go_sem] theorem cell1_U64 : (U64 z).cell1 = true := rfl
@[go_sem] theorem partsOf_U64 : partsOf (U64 z) = [U64 z] := rfl
@[go_sem] theorem cell1_U8 : (U8 z).cell1 = true := rfl
@[go_sem] theorem partsOf_U8 : partsOf (U8 z) = [U8 z] := rfl
end
theorem and255 (a : Int) : 0 ≤ w64 (IntKind.u64.wrap (BitVec.ofInt 64 a &&& BitVec.ofInt 64 255).toNat) ∧ w64 (IntKind.u64.wrap (BitVec.ofInt 64 a &&& BitVec.ofInt 64 255).toNat) ≤ 255 := by
  have h1 : (BitVec.ofInt 64 a &&& BitVec.ofInt 64 255).toNat ≤ 255 := by
    rw [BitVec.toNat_and]
    exact Nat.le_trans Nat.and_le_right (by decide)
  have h2 : IntKind.u64.wrap ((BitVec.ofInt 64 a &&& BitVec.ofInt 64 255).toNat : Int) = ((BitVec.ofInt 64 a &&& BitVec.ofInt 64 255).toNat : Int) := by
    generalize (BitVec.ofInt 64 a &&& BitVec.ofInt 64 255).toNat = n at h1
    have h3 : IntKind.u64.wrap (n : Int) = (n : Int) % 18446744073709551616 := by simp [IntKind.wrap]; rfl
    rw [h3]; omega
  rw [h2, w64_id (by omega) (by omega)]
  omega
def CodeOk (code : AV) (ns : List Int) : Prop := (∀ H, aview H code = some (ns.length, ns.map U8)) ∧ (∀ z ∈ ns, 0 ≤ z ∧ z < 256) ∧ ns.length ≤ 2000000
def srcB (code : AV) (t : Nat) (u : Int) : Blk := ⟨0, tySrc, 1, [code, I t, U64 u]⟩
theorem next_ok (H : List Blk) (p : Nat) (code : AV) (ns : List Int) (t : Nat) (u : Int) (hp : H[p]? = some (srcB code t u)) (hc : CodeOk code ns) (ht : t ≤ 1000000000) :
    ACalls Tryz.prog f_spec_l00Src_next [.pc p 0 0] H (fun r H' => ∃ x u' : Int, r = I x ∧ 0 ≤ x ∧ x ≤ 255 ∧ H' = H.set p (srcB code (t + 1) u')) := by
  obtain ⟨hv, hns, hnl⟩ := hc
  unfold srcB at *
  have hpa := fun o => pc_alive (off := o) hp
  have hpl := fun o => pc_ld (off := o) hp
  have hlt := (List.getElem?_eq_some_iff.1 hp).1
  refine ACalls.introB s_spec_l00Src_next (by simp) ?_; intro hB hA; unfold c_spec_l00Src_next; simp (config := { maxSteps := 1000000 }) (disch := (first | omega | (simp only [go_sem]; try omega))) only [go_sem, Nat.reduceAdd, Nat.reduceEqDiff, Nat.reduceLeDiff, Nat.reduceMul, Nat.reduceLT, reduceIte, Int.reduceToNat, w64_id, cast_succ]
  refine SW.seq ?_; refine SW.rowC ?_; simp (config := { maxSteps := 1000000 }) (disch := (first | omega | (simp only [go_sem]; try omega))) only [go_sem, Nat.reduceAdd, Nat.reduceEqDiff, Nat.reduceLeDiff, Nat.reduceMul, Nat.reduceLT, reduceIte, Int.reduceToNat, w64_id, cast_succ]
  refine SW.seq ?_; refine SW.rowC ?_; simp (config := { maxSteps := 1000000 }) (disch := (first | omega | (simp only [go_sem]; try omega))) only [go_sem, Nat.reduceAdd, Nat.reduceEqDiff, Nat.reduceLeDiff, Nat.reduceMul, Nat.reduceLT, reduceIte, Int.reduceToNat, w64_id, cast_succ]
  refine SW.seqM (fun E' H' => ∃ b : Int, 0 ≤ b ∧ b ≤ 255 ∧ aget E' 0 = .pc p 0 0 ∧ aget E' 3 = I b ∧ H' = H) ?_ ?_
  · repeat (first | (with_reducible first | refine SW.seq ?_ | refine SW.block ?_ | refine SW.rowC ?_ | refine SW.skip ?_ | refine SW.exit ?_ | intro _ | refine And.intro (by omega) ?_) | simp (config := { maxSteps := 1000000 }) (disch := (first | omega | (simp only [go_sem]; try omega))) only [go_sem, Nat.reduceAdd, Nat.reduceEqDiff, Nat.reduceLeDiff, Nat.reduceMul, Nat.reduceLT, reduceIte, Int.reduceToNat, w64_id, cast_succ, hpa, hpl, hv])
    (first | refine SW.condD rfl (fun h1 => ?_) (fun h1 => ?_) | refine SW.condN rfl (fun h1 => ?_) (fun h1 => ?_) | refine SW.condNB rfl (fun h1 => ?_) (fun h1 => ?_) | refine SW.condB rfl (fun h1 => ?_) (fun h1 => ?_))
    · have hx : t < ns.length := by omega
      have hci : (ns.map U8)[t]? = some (U8 (ns.getD t 0)) := by
        rw [List.getElem?_map, List.getElem?_eq_getElem hx, List.getD_eq_getElem?_getD, List.getElem?_eq_getElem hx]; rfl
      have hz := hns (ns.getD t 0) (by rw [List.getD_eq_getElem?_getD, List.getElem?_eq_getElem hx]; exact List.getElem_mem _)
      generalize ns.getD t 0 = z at *
      repeat (first | (with_reducible first | refine SW.seq ?_ | refine SW.block ?_ | refine SW.rowC ?_ | refine SW.skip ?_ | refine SW.exit ?_ | intro _ | refine And.intro (by omega) ?_) | simp (config := { maxSteps := 1000000 }) (disch := (first | omega | (simp only [go_sem]; try omega))) only [go_sem, Nat.reduceAdd, Nat.reduceEqDiff, Nat.reduceLeDiff, Nat.reduceMul, Nat.reduceLT, reduceIte, Int.reduceToNat, w64_id, cast_succ, hpa, hpl, hv, hci])
      exact ⟨z, hz.1, by omega, rfl⟩
    · repeat (first | (with_reducible first | refine SW.seq ?_ | refine SW.block ?_ | refine SW.rowC ?_ | refine SW.skip ?_ | refine SW.exit ?_ | intro _ | refine And.intro (by omega) ?_) | simp (config := { maxSteps := 1000000 }) (disch := (first | omega | (simp only [go_sem]; try omega))) only [go_sem, Nat.reduceAdd, Nat.reduceEqDiff, Nat.reduceLeDiff, Nat.reduceMul, Nat.reduceLT, reduceIte, Int.reduceToNat, w64_id, cast_succ])
      exact ⟨0, by omega, by omega, rfl⟩
  · rintro E' H' ⟨b, hb0, hb1, e0, e3, rfl⟩
    have hst1 : astore H' [I ((t : Int) + 1)] (.pc p 0 1) = some (H'.set p ⟨0, tySrc, 1, [code, I ((t : Int) + 1), U64 u]⟩) := by rw [pc_st hp (by simp)]; rfl
    have hpa' : ∀ cells off, alive (H'.set p ⟨0, tySrc, 1, cells⟩) (.pc p 0 off) = True := fun cells off => pc_alive (List.getElem?_set_self hlt)
    have hpl' : ∀ cells off, acell1 (H'.set p ⟨0, tySrc, 1, cells⟩) (.pc p 0 off) = cells[off]? := fun cells off => pc_ld (List.getElem?_set_self hlt)
    have hst' : ∀ c0 c1 c2 v : AV, astore (H'.set p ⟨0, tySrc, 1, [c0, c1, c2]⟩) [v] (.pc p 0 2) = some (H'.set p ⟨0, tySrc, 1, [c0, c1, v]⟩) := fun c0 c1 c2 v => by
      rw [pc_st (List.getElem?_set_self hlt) (by simp), List.set_set]; rfl
    have ew : ((t : Int) + 1) = ((t + 1 : Nat) : Int) := by omega
    rw [ew] at hst1
    repeat (first | (with_reducible first | refine SW.seq ?_ | refine SW.block ?_ | refine SW.rowC ?_ | refine SW.skip ?_ | refine SW.exit ?_ | intro _ | refine And.intro (by omega) ?_) | simp (config := { maxSteps := 1000000 }) (disch := (first | omega | (simp only [go_sem]; try omega))) only [go_sem, Nat.reduceAdd, Nat.reduceEqDiff, Nat.reduceLeDiff, Nat.reduceMul, Nat.reduceLT, reduceIte, Int.reduceToNat, w64_id, cast_succ, e0, e3, hpa, hpl, hst1, hpa', hpl', hst', hv])
    generalize IntKind.u64.wrap (IntKind.u64.wrap (IntKind.u64.wrap (u * 6364136223846793005) + IntKind.u64.wrap b) + 1442695040888963407) = u'
    (first | refine SW.condD rfl (fun h2 => ?_) (fun h2 => ?_) | refine SW.condN rfl (fun h2 => ?_) (fun h2 => ?_) | refine SW.condNB rfl (fun h2 => ?_) (fun h2 => ?_) | refine SW.condB rfl (fun h2 => ?_) (fun h2 => ?_))
    · repeat (first | (with_reducible first | refine SW.seq ?_ | refine SW.block ?_ | refine SW.rowC ?_ | refine SW.skip ?_ | refine SW.exit ?_ | intro _ | refine And.intro (by omega) ?_) | simp (config := { maxSteps := 1000000 }) (disch := (first | omega | (simp only [go_sem]; try omega))) only [go_sem, Nat.reduceAdd, Nat.reduceEqDiff, Nat.reduceLeDiff, Nat.reduceMul, Nat.reduceLT, reduceIte, Int.reduceToNat, w64_id, cast_succ])
      refine SW.ret ?_; (try simp only [go_sem]); (first | refine FunPost.one ?_ | refine FunPost.two ?_ | refine FunPost.three ?_); (try simp (config := { maxSteps := 1000000 }) (disch := (first | omega | (simp only [go_sem]; try omega))) only [go_sem, Nat.reduceAdd, Nat.reduceEqDiff, Nat.reduceLeDiff, Nat.reduceMul, Nat.reduceLT, reduceIte, Int.reduceToNat, w64_id, cast_succ])
      exact GR.of ⟨b, u', rfl, hb0, hb1, rfl⟩
    · repeat (first | (with_reducible first | refine SW.seq ?_ | refine SW.block ?_ | refine SW.rowC ?_ | refine SW.skip ?_ | refine SW.exit ?_ | intro _ | refine And.intro (by omega) ?_) | simp (config := { maxSteps := 1000000 }) (disch := (first | omega | (simp only [go_sem]; try omega))) only [go_sem, Nat.reduceAdd, Nat.reduceEqDiff, Nat.reduceLeDiff, Nat.reduceMul, Nat.reduceLT, reduceIte, Int.reduceToNat, w64_id, cast_succ, hpa', hpl'])
      refine SW.ret ?_; (try simp only [go_sem]); (first | refine FunPost.one ?_ | refine FunPost.two ?_ | refine FunPost.three ?_); (try simp (config := { maxSteps := 1000000 }) (disch := (first | omega | (simp only [go_sem]; try omega))) only [go_sem, Nat.reduceAdd, Nat.reduceEqDiff, Nat.reduceLeDiff, Nat.reduceMul, Nat.reduceLT, reduceIte, Int.reduceToNat, w64_id, cast_succ])
      have h3 := and255 (u'.fdiv (2 ^ (min (40 : Int).toNat 64)))
      exact GR.of ⟨_, u', rfl, h3.1, h3.2, rfl⟩
theorem pick_ok (H : List Blk) (p : Nat) (code : AV) (ns : List Int) (t : Nat) (u n : Int) (hp : H[p]? = some (srcB code t u)) (hc : CodeOk code ns) (ht : t ≤ 900000000) :
    ACalls Tryz.prog f_spec_l00Src_pick [.pc p 0 0, I n] H (fun r H' => ∃ (x u' : Int) (t' : Nat), r = I x ∧ 0 ≤ x ∧ (x = 0 ∨ x < n) ∧ t' ≤ t + 2 ∧ H' = H.set p (srcB code t' u')) := by
  have hlt := (List.getElem?_eq_some_iff.1 hp).1
  have hself : H.set p (srcB code t u) = H := by
    obtain ⟨g1, g2⟩ := List.getElem?_eq_some_iff.1 hp
    rw [← g2]; exact List.set_getElem_self g1
  refine ACalls.introB s_spec_l00Src_pick (by simp) ?_; intro hB hA; unfold c_spec_l00Src_pick; simp (config := { maxSteps := 1000000 }) (disch := (first | omega | (simp only [go_sem]; try omega))) only [go_sem, Nat.reduceAdd, Nat.reduceEqDiff, Nat.reduceLeDiff, Nat.reduceMul, Nat.reduceLT, reduceIte, Int.reduceToNat, w64_id, cast_succ]
  repeat (first | (with_reducible first | refine SW.seq ?_ | refine SW.block ?_ | refine SW.rowC ?_ | refine SW.skip ?_ | refine SW.exit ?_ | intro _ | refine And.intro (by omega) ?_) | simp (config := { maxSteps := 1000000 }) (disch := (first | omega | (simp only [go_sem]; try omega))) only [go_sem, Nat.reduceAdd, Nat.reduceEqDiff, Nat.reduceLeDiff, Nat.reduceMul, Nat.reduceLT, reduceIte, Int.reduceToNat, w64_id, cast_succ])
  (first | refine SW.condD rfl (fun h1 => ?_) (fun h1 => ?_) | refine SW.condN rfl (fun h1 => ?_) (fun h1 => ?_) | refine SW.condNB rfl (fun h1 => ?_) (fun h1 => ?_) | refine SW.condB rfl (fun h1 => ?_) (fun h1 => ?_))
  · repeat (first | (with_reducible first | refine SW.seq ?_ | refine SW.block ?_ | refine SW.rowC ?_ | refine SW.skip ?_ | refine SW.exit ?_ | intro _ | refine And.intro (by omega) ?_) | simp (config := { maxSteps := 1000000 }) (disch := (first | omega | (simp only [go_sem]; try omega))) only [go_sem, Nat.reduceAdd, Nat.reduceEqDiff, Nat.reduceLeDiff, Nat.reduceMul, Nat.reduceLT, reduceIte, Int.reduceToNat, w64_id, cast_succ])
    refine SW.ret ?_; (try simp only [go_sem]); (first | refine FunPost.one ?_ | refine FunPost.two ?_ | refine FunPost.three ?_); (try simp (config := { maxSteps := 1000000 }) (disch := (first | omega | (simp only [go_sem]; try omega))) only [go_sem, Nat.reduceAdd, Nat.reduceEqDiff, Nat.reduceLeDiff, Nat.reduceMul, Nat.reduceLT, reduceIte, Int.reduceToNat, w64_id, cast_succ])
    exact GR.of ⟨0, u, t, rfl, by omega, .inl rfl, by omega, hself.symm⟩
  · repeat (first | (with_reducible first | refine SW.seq ?_ | refine SW.block ?_ | refine SW.rowC ?_ | refine SW.skip ?_ | refine SW.exit ?_ | intro _ | refine And.intro (by omega) ?_) | simp (config := { maxSteps := 1000000 }) (disch := (first | omega | (simp only [go_sem]; try omega))) only [go_sem, Nat.reduceAdd, Nat.reduceEqDiff, Nat.reduceLeDiff, Nat.reduceMul, Nat.reduceLT, reduceIte, Int.reduceToNat, w64_id, cast_succ])
    refine (next_ok H p code ns t u hp hc (by omega)).mono ?_
    rintro r H1 ⟨x, u1, rfl, x0, x1, rfl⟩
    repeat (first | (with_reducible first | refine SW.seq ?_ | refine SW.block ?_ | refine SW.rowC ?_ | refine SW.skip ?_ | refine SW.exit ?_ | intro _ | refine And.intro (by omega) ?_) | simp (config := { maxSteps := 1000000 }) (disch := (first | omega | (simp only [go_sem]; try omega))) only [go_sem, Nat.reduceAdd, Nat.reduceEqDiff, Nat.reduceLeDiff, Nat.reduceMul, Nat.reduceLT, reduceIte, Int.reduceToNat, w64_id, cast_succ])
    (first | refine SW.condD rfl (fun h2 => ?_) (fun h2 => ?_) | refine SW.condN rfl (fun h2 => ?_) (fun h2 => ?_) | refine SW.condNB rfl (fun h2 => ?_) (fun h2 => ?_) | refine SW.condB rfl (fun h2 => ?_) (fun h2 => ?_))
    · repeat (first | (with_reducible first | refine SW.seq ?_ | refine SW.block ?_ | refine SW.rowC ?_ | refine SW.skip ?_ | refine SW.exit ?_ | intro _ | refine And.intro (by omega) ?_) | simp (config := { maxSteps := 1000000 }) (disch := (first | omega | (simp only [go_sem]; try omega))) only [go_sem, Nat.reduceAdd, Nat.reduceEqDiff, Nat.reduceLeDiff, Nat.reduceMul, Nat.reduceLT, reduceIte, Int.reduceToNat, w64_id, cast_succ])
      refine (next_ok _ p code ns (t + 1) u1 (List.getElem?_set_self hlt) hc (by omega)).mono ?_
      rintro r H2 ⟨y, u2, rfl, y0, y1, rfl⟩
      rw [List.set_set]
      have hne : ¬ n = 0 := by omega
      repeat (first | (with_reducible first | refine SW.seq ?_ | refine SW.block ?_ | refine SW.rowC ?_ | refine SW.skip ?_ | refine SW.exit ?_ | intro _ | refine And.intro (by omega) ?_) | simp (config := { maxSteps := 1000000 }) (disch := (first | omega | (simp only [go_sem]; try omega))) only [go_sem, Nat.reduceAdd, Nat.reduceEqDiff, Nat.reduceLeDiff, Nat.reduceMul, Nat.reduceLT, reduceIte, Int.reduceToNat, w64_id, cast_succ, hne])
      refine SW.ret ?_; (try simp only [go_sem]); (first | refine FunPost.one ?_ | refine FunPost.two ?_ | refine FunPost.three ?_); (try simp (config := { maxSteps := 1000000 }) (disch := (first | omega | (simp only [go_sem]; try omega))) only [go_sem, Nat.reduceAdd, Nat.reduceEqDiff, Nat.reduceLeDiff, Nat.reduceMul, Nat.reduceLT, reduceIte, Int.reduceToNat, w64_id, cast_succ])
      have h3 : (x * 256 + y).tmod n = (x * 256 + y) % n := Int.tmod_eq_emod_of_nonneg (by omega)
      have h4 := Int.emod_nonneg (x * 256 + y) hne
      have h5 := Int.emod_lt_of_pos (x * 256 + y) (show 0 < n by omega)
      exact GR.of ⟨_, u2, t + 2, rfl, by omega, .inr (by omega), by omega, rfl⟩
    · have hne : ¬ n = 0 := by omega
      repeat (first | (with_reducible first | refine SW.seq ?_ | refine SW.block ?_ | refine SW.rowC ?_ | refine SW.skip ?_ | refine SW.exit ?_ | intro _ | refine And.intro (by omega) ?_) | simp (config := { maxSteps := 1000000 }) (disch := (first | omega | (simp only [go_sem]; try omega))) only [go_sem, Nat.reduceAdd, Nat.reduceEqDiff, Nat.reduceLeDiff, Nat.reduceMul, Nat.reduceLT, reduceIte, Int.reduceToNat, w64_id, cast_succ, hne])
      refine SW.ret ?_; (try simp only [go_sem]); (first | refine FunPost.one ?_ | refine FunPost.two ?_ | refine FunPost.three ?_); (try simp (config := { maxSteps := 1000000 }) (disch := (first | omega | (simp only [go_sem]; try omega))) only [go_sem, Nat.reduceAdd, Nat.reduceEqDiff, Nat.reduceLeDiff, Nat.reduceMul, Nat.reduceLT, reduceIte, Int.reduceToNat, w64_id, cast_succ])
      have h3 : x.tmod n = x % n := Int.tmod_eq_emod_of_nonneg (by omega)
      have h4 := Int.emod_nonneg x hne
      have h5 := Int.emod_lt_of_pos x (show 0 < n by omega)
      exact GR.of ⟨_, u1, t + 1, rfl, by omega, .inr (by omega), by omega, rfl⟩
theorem one_ok (H : List Blk) (p : Nat) (code : AV) (ns : List Int) (t : Nat) (u n : Int) (hp : H[p]? = some (srcB code t u)) (hc : CodeOk code ns) (ht : t ≤ 900000000) :
    ACalls Tryz.prog f_spec_l00Src_one [.pc p 0 0, I n] H (fun r H' => ∃ (b : Bool) (u' : Int) (t' : Nat), r = Bv b ∧ t' ≤ t + 2 ∧ H' = H.set p (srcB code t' u')) := by
  refine ACalls.introB s_spec_l00Src_one (by simp) ?_; intro hB hA; unfold c_spec_l00Src_one; simp (config := { maxSteps := 1000000 }) (disch := (first | omega | (simp only [go_sem]; try omega))) only [go_sem, Nat.reduceAdd, Nat.reduceEqDiff, Nat.reduceLeDiff, Nat.reduceMul, Nat.reduceLT, reduceIte, Int.reduceToNat, w64_id, cast_succ]
  repeat (first | (with_reducible first | refine SW.seq ?_ | refine SW.block ?_ | refine SW.rowC ?_ | refine SW.skip ?_ | refine SW.exit ?_ | intro _ | refine And.intro (by omega) ?_) | simp (config := { maxSteps := 1000000 }) (disch := (first | omega | (simp only [go_sem]; try omega))) only [go_sem, Nat.reduceAdd, Nat.reduceEqDiff, Nat.reduceLeDiff, Nat.reduceMul, Nat.reduceLT, reduceIte, Int.reduceToNat, w64_id, cast_succ])
  refine (pick_ok H p code ns t u n hp hc ht).mono ?_
  rintro r H1 ⟨x, u1, t1, rfl, x0, x1, ht1, rfl⟩
  repeat (first | (with_reducible first | refine SW.seq ?_ | refine SW.block ?_ | refine SW.rowC ?_ | refine SW.skip ?_ | refine SW.exit ?_ | intro _ | refine And.intro (by omega) ?_) | simp (config := { maxSteps := 1000000 }) (disch := (first | omega | (simp only [go_sem]; try omega))) only [go_sem, Nat.reduceAdd, Nat.reduceEqDiff, Nat.reduceLeDiff, Nat.reduceMul, Nat.reduceLT, reduceIte, Int.reduceToNat, w64_id, cast_succ])
  refine SW.ret ?_; (try simp only [go_sem]); (first | refine FunPost.one ?_ | refine FunPost.two ?_ | refine FunPost.three ?_); (try simp (config := { maxSteps := 1000000 }) (disch := (first | omega | (simp only [go_sem]; try omega))) only [go_sem, Nat.reduceAdd, Nat.reduceEqDiff, Nat.reduceLeDiff, Nat.reduceMul, Nat.reduceLT, reduceIte, Int.reduceToNat, w64_id, cast_succ])
  exact GR.of ⟨_, u1, t1, rfl, ht1, rfl⟩
theorem among_ok (H : List Blk) (p : Nat) (code : AV) (ns : List Int) (t : Nat) (u : Int) (a : AV) (l : List Int) (hp : H[p]? = some (srcB code t u)) (hc : CodeOk code ns) (ht : t ≤ 900000000)
    (ha : ∀ t u, aview (H.set p (srcB code t u)) a = some (l.length, l.map I)) (hl : 1 ≤ l.length ∧ l.length ≤ 1000) :
    ACalls Tryz.prog f_spec_l00Src_among [.pc p 0 0, a] H (fun r H' => ∃ (x u' : Int) (t' : Nat), r = I x ∧ x ∈ l ∧ t' ≤ t + 2 ∧ H' = H.set p (srcB code t' u')) := by
  have hself : H.set p (srcB code t u) = H := by
    obtain ⟨g1, g2⟩ := List.getElem?_eq_some_iff.1 hp
    rw [← g2]; exact List.set_getElem_self g1
  have ha0 : aview H a = some (l.length, l.map I) := by rw [← hself]; exact ha t u
  refine ACalls.introB s_spec_l00Src_among (by simp) ?_; intro hB hA; unfold c_spec_l00Src_among; simp (config := { maxSteps := 1000000 }) (disch := (first | omega | (simp only [go_sem]; try omega))) only [go_sem, Nat.reduceAdd, Nat.reduceEqDiff, Nat.reduceLeDiff, Nat.reduceMul, Nat.reduceLT, reduceIte, Int.reduceToNat, w64_id, cast_succ]
  repeat (first | (with_reducible first | refine SW.seq ?_ | refine SW.block ?_ | refine SW.rowC ?_ | refine SW.skip ?_ | refine SW.exit ?_ | intro _ | refine And.intro (by omega) ?_) | simp (config := { maxSteps := 1000000 }) (disch := (first | omega | (simp only [go_sem]; try omega))) only [go_sem, Nat.reduceAdd, Nat.reduceEqDiff, Nat.reduceLeDiff, Nat.reduceMul, Nat.reduceLT, reduceIte, Int.reduceToNat, w64_id, cast_succ, ha0])
  refine (pick_ok H p code ns t u l.length hp hc ht).mono ?_
  rintro r H1 ⟨x, u1, t1, rfl, x0, x1, ht1, rfl⟩
  have ha1 := ha t1 u1
  obtain ⟨X, rfl⟩ := Int.eq_ofNat_of_zero_le x0
  have hX : X < l.length := by omega
  have hci : (l.map I)[X]? = some (I l[X]) := by rw [List.getElem?_map, List.getElem?_eq_getElem hX]; rfl
  repeat (first | (with_reducible first | refine SW.seq ?_ | refine SW.block ?_ | refine SW.rowC ?_ | refine SW.skip ?_ | refine SW.exit ?_ | intro _ | refine And.intro (by omega) ?_) | simp (config := { maxSteps := 1000000 }) (disch := (first | omega | (simp only [go_sem]; try omega))) only [go_sem, Nat.reduceAdd, Nat.reduceEqDiff, Nat.reduceLeDiff, Nat.reduceMul, Nat.reduceLT, reduceIte, Int.reduceToNat, w64_id, cast_succ, ha1, hci])
  refine SW.ret ?_; (try simp only [go_sem]); (first | refine FunPost.one ?_ | refine FunPost.two ?_ | refine FunPost.three ?_); (try simp (config := { maxSteps := 1000000 }) (disch := (first | omega | (simp only [go_sem]; try omega))) only [go_sem, Nat.reduceAdd, Nat.reduceEqDiff, Nat.reduceLeDiff, Nat.reduceMul, Nat.reduceLT, reduceIte, Int.reduceToNat, w64_id, cast_succ])
  exact GR.of ⟨_, u1, t1, rfl, List.getElem_mem hX, ht1, rfl⟩
end Go.Proofs.YtdgcgckehihboaaGreatDoor
namespace Go.Proofs.YtdgcgckehihboaaGreatDoor
variable [Go.Av.DoorC]
open Go.Av
abbrev f_laws_b10Long : Nat := 4
def c_laws_b10Long : SC :=
 .seq (.reg [
     ⟨(some 2), .mv (.const (.bool false)), none⟩] [0])
 (.seq (.reg [
     ⟨(some 3), .mv (.tmp 0), none⟩,
     ⟨(some 4), .len (.tmp 3), none⟩,
     ⟨(some 5), .bin .gtr (.tmp 4) (.const (.int .i64 1048576)), none⟩,
     ⟨(some 2), .mv (.tmp 5), none⟩] [2])
 (.ret))
theorem s_laws_b10Long : stripF Tryz.prog 4 [[0], [2]] = some (c_laws_b10Long, [.tmp 2], 6) := by kernel_rfl
abbrev f_spec_l00From : Nat := 14
def c_spec_l00From : SC :=
 .seq (.reg [
     ⟨(some 2), .mv (.const (.pointer none)), none⟩] [0])
 (.seq (.reg [
     ⟨(some 3), .mv (.tmp 0), none⟩,
     ⟨(some 4), .build [(.slice none 0 0), (.int .i64 0), (.int .u64 0)] [(0, 1, (.tmp 3))], none⟩,
     ⟨(some 5), .box 68 (.tmp 4), none⟩,
     ⟨(some 2), .mv (.tmp 5), none⟩] [2])
 (.ret))
theorem s_spec_l00From : stripF Tryz.prog 14 [[0], [2]] = some (c_spec_l00From, [.tmp 2], 6) := by kernel_rfl
abbrev f_laws_b10At : Nat := 26
def c_laws_b10At : SC :=
 .seq (.reg [
     ⟨(some 6), .mv (.const (.int .i64 0)), none⟩] [0, 1, 2])
 (.seq (.seq (.reg [
     ⟨(some 7), .mv (.tmp 2), none⟩,
     ⟨(some 8), .bin .leq (.tmp 7) (.const (.int .i64 1)), none⟩] [0, 1, 2, 8])
 (.cond (.tmp 8)
  (.seq (.reg [
      ⟨(some 6), .mv (.const (.int .i64 0)), none⟩] [6])
  (.ret))
  (.skip)))
 (.seq (.seq (.reg [
     ⟨(some 9), .mv (.tmp 1), none⟩,
     ⟨(some 10), .mv (.tmp 0), none⟩,
     ⟨(some 11), .len (.tmp 10), none⟩,
     ⟨(some 12), .bin .lss (.tmp 9) (.tmp 11), none⟩] [0, 1, 2, 12])
 (.cond (.tmp 12)
  (.seq (.reg [
      ⟨(some 13), .mv (.tmp 0), none⟩,
      ⟨(some 14), .mv (.tmp 1), none⟩,
      ⟨(some 15), .iaddr 1 (.tmp 13) (.tmp 14), none⟩,
      ⟨(some 16), .load 1 false (.tmp 15), none⟩,
      ⟨(some 17), .conv .i64 (.tmp 16), none⟩,
      ⟨(some 18), .mv (.tmp 2), none⟩,
      ⟨(some 19), .bin .rem (.tmp 17) (.tmp 18), none⟩,
      ⟨(some 6), .mv (.tmp 19), none⟩] [6])
  (.ret))
  (.skip)))
 (.seq (.reg [
     ⟨(some 20), .mv (.tmp 1), none⟩,
     ⟨(some 21), .bin .mul (.tmp 20) (.const (.int .i64 37)), none⟩,
     ⟨(some 22), .bin .add (.tmp 21) (.const (.int .i64 11)), none⟩,
     ⟨(some 23), .mv (.tmp 2), none⟩,
     ⟨(some 24), .bin .rem (.tmp 22) (.tmp 23), none⟩,
     ⟨(some 6), .mv (.tmp 24), none⟩] [6])
 (.ret))))
theorem s_laws_b10At : stripF Tryz.prog 26 [[0, 1, 2], [0, 1, 2, 8], [6], [0, 1, 2, 12], [6], [6]] = some (c_laws_b10At, [.tmp 6], 25) := by kernel_rfl
def ilY (ns : List Int) : AV := .il ns.length (ns.map U8)
theorem codeOk_ilY {ns : List Int} (h : ∀ z ∈ ns, 0 ≤ z ∧ z < 256) (hl : ns.length ≤ 2000000) : CodeOk (ilY ns) ns := ⟨fun _ => rfl, h, hl⟩
theorem Bel_ilY (k : Nat) (ns : List Int) : Bel k (ilY ns) := .il _ _ (by intro c h; obtain ⟨x, _, rfl⟩ := List.mem_map.1 h; exact .lit _)
section
variable {H : List Blk} {i : Nat}
@[go_sem] theorem aview_ilY (ns : List Int) : aview H (ilY ns) = some (ns.length, ns.map U8) := rfl
@[go_sem] theorem getU8 {ns : List Int} (h : i < ns.length) : (ns.map U8)[i]? = some (U8 (ns.getD i 0)) := by simp [List.getElem?_eq_getElem h]
@[go_sem] theorem cell1_ilY (ns : List Int) : (ilY ns).cell1 = true := rfl
@[go_sem] theorem partsOf_ilY (ns : List Int) : partsOf (ilY ns) = [ilY ns] := rfl
end
theorem b10Long_fn (ns : List Int) : PFn Tryz.prog f_laws_b10Long [ilY ns] (Bv (decide ((1048576 : Int) < ns.length))) := by
  intro H; refine ACalls.introB s_laws_b10Long (by simp) ?_; intro hB hA; unfold c_laws_b10Long; simp (config := { maxSteps := 1000000 }) (disch := (first | omega | (simp only [go_sem]; try omega))) only [go_sem, Nat.reduceAdd, Nat.reduceEqDiff, Nat.reduceLeDiff, Nat.reduceMul, Nat.reduceLT, reduceIte, Int.reduceToNat, w64_id, cast_succ]
  repeat (first | (with_reducible first | refine SW.seq ?_ | refine SW.block ?_ | refine SW.rowC ?_ | refine SW.skip ?_ | refine SW.exit ?_ | intro _ | refine And.intro (by omega) ?_) | simp (config := { maxSteps := 1000000 }) (disch := (first | omega | (simp only [go_sem]; try omega))) only [go_sem, Nat.reduceAdd, Nat.reduceEqDiff, Nat.reduceLeDiff, Nat.reduceMul, Nat.reduceLT, reduceIte, Int.reduceToNat, w64_id, cast_succ])
  refine SW.ret ?_; (try simp only [go_sem]); (first | refine FunPost.one ?_ | refine FunPost.two ?_ | refine FunPost.three ?_); (try simp (config := { maxSteps := 1000000 }) (disch := (first | omega | (simp only [go_sem]; try omega))) only [go_sem, Nat.reduceAdd, Nat.reduceEqDiff, Nat.reduceLeDiff, Nat.reduceMul, Nat.reduceLT, reduceIte, Int.reduceToNat, w64_id, cast_succ]); (first | (with_reducible refine GR.drop ?_ ?_; (simp only [go_sem, and_self, and_true, true_and, implies_true, List.take_succ_cons, List.take_zero])) | refine GR.of ?_); refine ⟨?_, rfl⟩; (try with_reducible rfl)
theorem l00From_ok (H : List Blk) (ns : List Int) : ACalls Tryz.prog f_spec_l00From [ilY ns] H (fun r H' => r = .pc H.length 0 0 ∧ H' = H ++ [srcB (ilY ns) 0 0]) := by
  refine ACalls.introB s_spec_l00From (by simp) ?_; intro hB hA; unfold c_spec_l00From; simp (config := { maxSteps := 1000000 }) (disch := (first | omega | (simp only [go_sem]; try omega))) only [go_sem, Nat.reduceAdd, Nat.reduceEqDiff, Nat.reduceLeDiff, Nat.reduceMul, Nat.reduceLT, reduceIte, Int.reduceToNat, w64_id, cast_succ]
  repeat (first | (with_reducible first | refine SW.seq ?_ | refine SW.block ?_ | refine SW.rowC ?_ | refine SW.skip ?_ | refine SW.exit ?_ | intro _ | refine And.intro (by omega) ?_) | simp (config := { maxSteps := 1000000 }) (disch := (first | omega | (simp only [go_sem]; try omega))) only [go_sem, Nat.reduceAdd, Nat.reduceEqDiff, Nat.reduceLeDiff, Nat.reduceMul, Nat.reduceLT, reduceIte, Int.reduceToNat, w64_id, cast_succ])
  refine ⟨rfl, ?_⟩
  refine SW.ret ?_; (try simp only [go_sem]); (first | refine FunPost.one ?_ | refine FunPost.two ?_ | refine FunPost.three ?_); (try simp (config := { maxSteps := 1000000 }) (disch := (first | omega | (simp only [go_sem]; try omega))) only [go_sem, Nat.reduceAdd, Nat.reduceEqDiff, Nat.reduceLeDiff, Nat.reduceMul, Nat.reduceLT, reduceIte, Int.reduceToNat, w64_id, cast_succ])
  exact GR.of ⟨rfl, rfl⟩
theorem HB_set {H : List Blk} (hB : HB H) {p : Nat} {code : AV} (hcb : ∀ k, Bel k code) (t : Nat) (u : Int) : HB (H.set p (srcB code t u)) := fun b hb c hcc => by
  rw [List.length_set]
  rcases List.mem_or_eq_of_mem_set hb with hb | rfl
  · exact hB b hb c hcc
  · unfold srcB at hcc
    simp only [List.mem_cons, List.not_mem_nil, or_false] at hcc
    rcases hcc with rfl | rfl | rfl
    · exact hcb _
    · exact .lit _
    · exact .lit _
theorem b10AtG (H : List Blk) (ns : List Int) (i n : Nat) (hz : ∀ z ∈ ns, 0 ≤ z ∧ z < 256) (hl : ns.length ≤ 2000000) (hi : i ≤ 1000) (h1 : 1 ≤ n) (hn : n ≤ 1000000) :
    ACalls Tryz.prog f_laws_b10At [ilY ns, I i, I n] H (fun r H' => H' = H ∧ ∃ j : Nat, r = I j ∧ j < n) := by
  have fin : ∀ x : Int, 0 ≤ x → ∃ j : Nat, I (x.tmod n) = I j ∧ j < n := fun x h0 => by
    have h3 : x.tmod n = x % n := Int.tmod_eq_emod_of_nonneg h0
    have h4 := Int.emod_nonneg x (show (n : Int) ≠ 0 by omega)
    have h5 := Int.emod_lt_of_pos x (show (0 : Int) < n by omega)
    exact ⟨(x % n).toNat, by rw [h3, Int.toNat_of_nonneg h4], by omega⟩
  have hne : ¬ (n : Int) = 0 := by omega
  refine ACalls.introB s_laws_b10At (by simp) ?_; intro hB hA; unfold c_laws_b10At; simp (config := { maxSteps := 1000000 }) (disch := (first | omega | (simp only [go_sem]; try omega))) only [go_sem, Nat.reduceAdd, Nat.reduceEqDiff, Nat.reduceLeDiff, Nat.reduceMul, Nat.reduceLT, reduceIte, Int.reduceToNat, w64_id, cast_succ]
  repeat (first | (with_reducible first | refine SW.seq ?_ | refine SW.block ?_ | refine SW.rowC ?_ | refine SW.skip ?_ | refine SW.exit ?_ | intro _ | refine And.intro (by omega) ?_) | simp (config := { maxSteps := 1000000 }) (disch := (first | omega | (simp only [go_sem]; try omega))) only [go_sem, Nat.reduceAdd, Nat.reduceEqDiff, Nat.reduceLeDiff, Nat.reduceMul, Nat.reduceLT, reduceIte, Int.reduceToNat, w64_id, cast_succ])
  (first | refine SW.condD rfl (fun h => ?_) (fun h => ?_) | refine SW.condN rfl (fun h => ?_) (fun h => ?_) | refine SW.condNB rfl (fun h => ?_) (fun h => ?_) | refine SW.condB rfl (fun h => ?_) (fun h => ?_))
  · repeat (first | (with_reducible first | refine SW.seq ?_ | refine SW.block ?_ | refine SW.rowC ?_ | refine SW.skip ?_ | refine SW.exit ?_ | intro _ | refine And.intro (by omega) ?_) | simp (config := { maxSteps := 1000000 }) (disch := (first | omega | (simp only [go_sem]; try omega))) only [go_sem, Nat.reduceAdd, Nat.reduceEqDiff, Nat.reduceLeDiff, Nat.reduceMul, Nat.reduceLT, reduceIte, Int.reduceToNat, w64_id, cast_succ])
    refine SW.ret ?_; (try simp only [go_sem]); (first | refine FunPost.one ?_ | refine FunPost.two ?_ | refine FunPost.three ?_); (try simp (config := { maxSteps := 1000000 }) (disch := (first | omega | (simp only [go_sem]; try omega))) only [go_sem, Nat.reduceAdd, Nat.reduceEqDiff, Nat.reduceLeDiff, Nat.reduceMul, Nat.reduceLT, reduceIte, Int.reduceToNat, w64_id, cast_succ])
    exact GR.of ⟨rfl, 0, rfl, by omega⟩
  · repeat (first | (with_reducible first | refine SW.seq ?_ | refine SW.block ?_ | refine SW.rowC ?_ | refine SW.skip ?_ | refine SW.exit ?_ | intro _ | refine And.intro (by omega) ?_) | simp (config := { maxSteps := 1000000 }) (disch := (first | omega | (simp only [go_sem]; try omega))) only [go_sem, Nat.reduceAdd, Nat.reduceEqDiff, Nat.reduceLeDiff, Nat.reduceMul, Nat.reduceLT, reduceIte, Int.reduceToNat, w64_id, cast_succ])
    (first | refine SW.condD rfl (fun h2 => ?_) (fun h2 => ?_) | refine SW.condN rfl (fun h2 => ?_) (fun h2 => ?_) | refine SW.condNB rfl (fun h2 => ?_) (fun h2 => ?_) | refine SW.condB rfl (fun h2 => ?_) (fun h2 => ?_))
    · have hm := hz (ns.getD i 0) (by rw [List.getD_eq_getElem?_getD, List.getElem?_eq_getElem (by omega)]; exact List.getElem_mem _)
      repeat (first | (with_reducible first | refine SW.seq ?_ | refine SW.block ?_ | refine SW.rowC ?_ | refine SW.skip ?_ | refine SW.exit ?_ | intro _ | refine And.intro (by omega) ?_) | simp (config := { maxSteps := 1000000 }) (disch := (first | omega | (simp only [go_sem]; try omega))) only [go_sem, Nat.reduceAdd, Nat.reduceEqDiff, Nat.reduceLeDiff, Nat.reduceMul, Nat.reduceLT, reduceIte, Int.reduceToNat, w64_id, cast_succ, hne])
      refine SW.ret ?_; (try simp only [go_sem]); (first | refine FunPost.one ?_ | refine FunPost.two ?_ | refine FunPost.three ?_); (try simp (config := { maxSteps := 1000000 }) (disch := (first | omega | (simp only [go_sem]; try omega))) only [go_sem, Nat.reduceAdd, Nat.reduceEqDiff, Nat.reduceLeDiff, Nat.reduceMul, Nat.reduceLT, reduceIte, Int.reduceToNat, w64_id, cast_succ])
      exact GR.of ⟨rfl, fin _ (by omega)⟩
    · repeat (first | (with_reducible first | refine SW.seq ?_ | refine SW.block ?_ | refine SW.rowC ?_ | refine SW.skip ?_ | refine SW.exit ?_ | intro _ | refine And.intro (by omega) ?_) | simp (config := { maxSteps := 1000000 }) (disch := (first | omega | (simp only [go_sem]; try omega))) only [go_sem, Nat.reduceAdd, Nat.reduceEqDiff, Nat.reduceLeDiff, Nat.reduceMul, Nat.reduceLT, reduceIte, Int.reduceToNat, w64_id, cast_succ, hne])
      refine SW.ret ?_; (try simp only [go_sem]); (first | refine FunPost.one ?_ | refine FunPost.two ?_ | refine FunPost.three ?_); (try simp (config := { maxSteps := 1000000 }) (disch := (first | omega | (simp only [go_sem]; try omega))) only [go_sem, Nat.reduceAdd, Nat.reduceEqDiff, Nat.reduceLeDiff, Nat.reduceMul, Nat.reduceLT, reduceIte, Int.reduceToNat, w64_id, cast_succ])
      exact GR.of ⟨rfl, fin _ (by omega)⟩
end Go.Proofs.YtdgcgckehihboaaGreatDoor
namespace Go.Proofs.YtdgcgckehihboaaGreatDoor
variable [Go.Av.DoorC]
open Go.Av Go.RowKit
theorem byteBounds {n : Int} (h : (Lit.int .u8 n).wf = true) : 0 ≤ n ∧ n < 256 := by
  simp [Lit.wf, IntKind.min, IntKind.max, IntKind.signed, IntKind.bits] at h
  omega
theorem reads_byte {H : Type} {enc : TypeId × Value → H} {P : Program} {w : World} {held : Bool} {t : TypeId} {fuel : Nat} {cs : List Value} {x : DataW H × List MemPlace} (ht : P.underlying t = some (.int .u8)) (h : DataW.trod enc P w 0 (fun _ => true) held fuel t cs = some x) : ∃ n : Int, Reads w [U8 n] cs ∧ (0 ≤ n ∧ n < 256) := by
  obtain ⟨n, rfl, _, hw⟩ := DataW.trod_int ht h
  exact ⟨n, ⟨Rels.cons (.lit _) (Rels.nil _ _), by simp [U8, AV.cell1, Value.oneCell']⟩, byteBounds hw⟩
theorem reads_bytes {H : Type} {enc : TypeId × Value → H} {P : Program} {w : World} {held : Bool} {t e : TypeId} {fuel : Nat} {cs : List Value} {x : DataW H × List MemPlace} (ht : P.underlying t = some (.slice e)) (hc : 0 < P.cellsOf e) (he : P.underlying e = some (.int .u8)) (h : DataW.trod enc P w 0 (fun _ => true) held fuel t cs = some x) :
    ∃ xs : List Int, Reads w [ilY xs] cs ∧ ∀ n ∈ xs, 0 ≤ n ∧ n < 256 := by
  obtain ⟨ys, h1, h2⟩ := reads_slice (g := fun y => [U8 y]) (Q := fun n => 0 ≤ n ∧ n < 256) ht hc (fun _ _ _ h => reads_byte he h) h
  exact ⟨ys, by rw [flatMap_one] at h1; exact h1, h2⟩
end Go.Proofs.YtdgcgckehihboaaGreatDoor
