/- What all laws with drawn arguments share: the bytes, the source, some numbers. -/
import Derived.Test.YtchehdplcbffmaaProg
import Derived.KernelRfl
import Derived.Test.YtchehdplcbffmaazSR
set_option linter.unusedSimpArgs false
set_option linter.unusedVariables false
set_option maxHeartbeats 4000000
set_option maxRecDepth 100000
namespace Go.Proofs.Ytchehdplcbffmaa
open Go.Av
abbrev f_laws_b10Long : Nat := 8
def c_laws_b10Long : SC :=
 .seq (.reg [
     ⟨(some 2), .mv (.const (.bool false)), none⟩] [0])
 (.seq (.reg [
     ⟨(some 3), .mv (.tmp 0), none⟩,
     ⟨(some 4), .len (.tmp 3), none⟩,
     ⟨(some 5), .bin .gtr (.tmp 4) (.const (.int .i64 1048576)), none⟩,
     ⟨(some 2), .mv (.tmp 5), none⟩] [2])
 (.ret))
theorem s_laws_b10Long : stripF Try.prog 8 [[0], [2]] = some (c_laws_b10Long, [.tmp 2], 6) := by kernel_rfl
abbrev f_laws_b10At : Nat := 13
def c_laws_b10At : SC :=
 .seq (.reg [
     ⟨(some 6), .mv (.const (.int .i64 0)), none⟩] [0, 1, 2])
 (.seq (.seq (.reg [
     ⟨(some 7), .mv (.tmp 2), none⟩,
     ⟨(some 8), .bin .leq (.tmp 7) (.const (.int .i64 1)), none⟩] [0, 1, 2, 8])
 (.cond (.tmp 8)
  (.seq (.reg [
      ⟨(some 6), .mv (.const (.int .i64 0)), none⟩] [6])
  (.ret))
  (.skip)))
 (.seq (.seq (.reg [
     ⟨(some 9), .mv (.tmp 1), none⟩,
     ⟨(some 10), .mv (.tmp 0), none⟩,
     ⟨(some 11), .len (.tmp 10), none⟩,
     ⟨(some 12), .bin .lss (.tmp 9) (.tmp 11), none⟩] [0, 1, 2, 12])
 (.cond (.tmp 12)
  (.seq (.reg [
      ⟨(some 13), .mv (.tmp 0), none⟩,
      ⟨(some 14), .mv (.tmp 1), none⟩,
      ⟨(some 15), .iaddr 1 (.tmp 13) (.tmp 14), none⟩,
      ⟨(some 16), .load 1 false (.tmp 15), none⟩,
      ⟨(some 17), .conv .i64 (.tmp 16), none⟩,
      ⟨(some 18), .mv (.tmp 2), none⟩,
      ⟨(some 19), .bin .rem (.tmp 17) (.tmp 18), none⟩,
      ⟨(some 6), .mv (.tmp 19), none⟩] [6])
  (.ret))
  (.skip)))
 (.seq (.reg [
     ⟨(some 20), .mv (.tmp 1), none⟩,
     ⟨(some 21), .bin .mul (.tmp 20) (.const (.int .i64 37)), none⟩,
     ⟨(some 22), .bin .add (.tmp 21) (.const (.int .i64 11)), none⟩,
     ⟨(some 23), .mv (.tmp 2), none⟩,
     ⟨(some 24), .bin .rem (.tmp 22) (.tmp 23), none⟩,
     ⟨(some 6), .mv (.tmp 24), none⟩] [6])
 (.ret))))
theorem s_laws_b10At : stripF Try.prog 13 [[0, 1, 2], [0, 1, 2, 8], [6], [0, 1, 2, 12], [6], [6]] = some (c_laws_b10At, [.tmp 6], 25) := by kernel_rfl
abbrev f_spec_l00From : Nat := 33
def c_spec_l00From : SC :=
 .seq (.reg [
     ⟨(some 2), .mv (.const (.pointer none)), none⟩] [0])
 (.seq (.reg [
     ⟨(some 3), .mv (.tmp 0), none⟩,
     ⟨(some 4), .build [(.slice none 0 0), (.int .i64 0), (.int .u64 0)] [(0, 1, (.tmp 3))], none⟩,
     ⟨(some 5), .box 97 (.tmp 4), none⟩,
     ⟨(some 2), .mv (.tmp 5), none⟩] [2])
 (.ret))
theorem s_spec_l00From : stripF Try.prog 33 [[0], [2]] = some (c_spec_l00From, [.tmp 2], 6) := by kernel_rfl
def ilY (ns : List Int) : AV := .il ns.length (ns.map U8)
theorem codeOk_ilY {ns : List Int} (h : ∀ z ∈ ns, 0 ≤ z ∧ z < 256) (hl : ns.length ≤ 2000000) : CodeOk (ilY ns) ns := ⟨fun _ => rfl, h, hl⟩
theorem Bel_ilY (k : Nat) (ns : List Int) : Bel k (ilY ns) := .il _ _ (by intro c h; obtain ⟨x, _, rfl⟩ := List.mem_map.1 h; exact .lit _)
section
variable {H : List Blk} {i : Nat}
@[go_sem] theorem aview_ilY (ns : List Int) : aview H (ilY ns) = some (ns.length, ns.map U8) := rfl
@[go_sem] theorem getU8 {ns : List Int} (h : i < ns.length) : (ns.map U8)[i]? = some (U8 (ns.getD i 0)) := by simp [List.getElem?_eq_getElem h]
@[go_sem] theorem cell1_ilY (ns : List Int) : (ilY ns).cell1 = true := rfl
@[go_sem] theorem partsOf_ilY (ns : List Int) : partsOf (ilY ns) = [ilY ns] := rfl
end
theorem b10Long_fn (ns : List Int) : PFn Try.prog f_laws_b10Long [ilY ns] (Bv (decide ((1048576 : Int) < ns.length))) := by
  intro H; refine ACalls.introB s_laws_b10Long (by simp) ?_; intro hB hA; unfold c_laws_b10Long; simp (config := { maxSteps := 1000000 }) (disch := (first | omega | (simp only [go_sem]; try omega))) only [go_sem, Nat.reduceAdd, Nat.reduceEqDiff, Nat.reduceLeDiff, Nat.reduceMul, Nat.reduceLT, reduceIte, Int.reduceToNat, w64_id, cast_succ]
  repeat (first | (with_reducible first | refine SW.seq ?_ | refine SW.block ?_ | refine SW.rowC ?_ | refine SW.skip ?_ | refine SW.exit ?_ | intro _ | refine And.intro (by omega) ?_) | simp (config := { maxSteps := 1000000 }) (disch := (first | omega | (simp only [go_sem]; try omega))) only [go_sem, Nat.reduceAdd, Nat.reduceEqDiff, Nat.reduceLeDiff, Nat.reduceMul, Nat.reduceLT, reduceIte, Int.reduceToNat, w64_id, cast_succ])
  refine SW.ret ?_; (try simp only [go_sem]); (first | refine FunPost.one ?_ | refine FunPost.two ?_ | refine FunPost.three ?_); (try simp (config := { maxSteps := 1000000 }) (disch := (first | omega | (simp only [go_sem]; try omega))) only [go_sem, Nat.reduceAdd, Nat.reduceEqDiff, Nat.reduceLeDiff, Nat.reduceMul, Nat.reduceLT, reduceIte, Int.reduceToNat, w64_id, cast_succ]); (first | (with_reducible refine GR.drop ?_ ?_; (simp only [go_sem, and_self, and_true, true_and, implies_true, List.take_succ_cons, List.take_zero])) | refine GR.of ?_); refine ⟨?_, rfl⟩; (try with_reducible rfl)
theorem l00From_ok (H : List Blk) (ns : List Int) : ACalls Try.prog f_spec_l00From [ilY ns] H (fun r H' => r = .pc H.length 0 0 ∧ H' = H ++ [srcB (ilY ns) 0 0]) := by
  refine ACalls.introB s_spec_l00From (by simp) ?_; intro hB hA; unfold c_spec_l00From; simp (config := { maxSteps := 1000000 }) (disch := (first | omega | (simp only [go_sem]; try omega))) only [go_sem, Nat.reduceAdd, Nat.reduceEqDiff, Nat.reduceLeDiff, Nat.reduceMul, Nat.reduceLT, reduceIte, Int.reduceToNat, w64_id, cast_succ]
  repeat (first | (with_reducible first | refine SW.seq ?_ | refine SW.block ?_ | refine SW.rowC ?_ | refine SW.skip ?_ | refine SW.exit ?_ | intro _ | refine And.intro (by omega) ?_) | simp (config := { maxSteps := 1000000 }) (disch := (first | omega | (simp only [go_sem]; try omega))) only [go_sem, Nat.reduceAdd, Nat.reduceEqDiff, Nat.reduceLeDiff, Nat.reduceMul, Nat.reduceLT, reduceIte, Int.reduceToNat, w64_id, cast_succ])
  refine ⟨rfl, ?_⟩
  refine SW.ret ?_; (try simp only [go_sem]); (first | refine FunPost.one ?_ | refine FunPost.two ?_ | refine FunPost.three ?_); (try simp (config := { maxSteps := 1000000 }) (disch := (first | omega | (simp only [go_sem]; try omega))) only [go_sem, Nat.reduceAdd, Nat.reduceEqDiff, Nat.reduceLeDiff, Nat.reduceMul, Nat.reduceLT, reduceIte, Int.reduceToNat, w64_id, cast_succ])
  exact GR.of ⟨rfl, rfl⟩
theorem among_new (H : List Blk) (p : Nat) (code : AV) (ns : List Int) (t : Nat) (u : Int) (l : List Int) (hlt : p < H.length) (hc : CodeOk code ns) (ht : t ≤ 900000000) (hl : 1 ≤ l.length ∧ l.length ≤ 1000) (ext : List Blk) :
    ACalls Try.prog f_spec_l00Src_among [.pc p 0 0, .nm (H.length + ext.length) 0 0 l.length] (H.set p (srcB code t u) ++ (ext ++ [⟨0, 2, 1, l.map I⟩])) (fun r H' => ∃ (x u' : Int) (t' : Nat), r = I x ∧ x ∈ l ∧ t' ≤ t + 2 ∧ H' = H.set p (srcB code t' u') ++ (ext ++ [⟨0, 2, 1, l.map I⟩])) := by
  have hset : ∀ t' u', (H.set p (srcB code t u) ++ (ext ++ [(⟨0, 2, 1, l.map I⟩ : Blk)])).set p (srcB code t' u') = H.set p (srcB code t' u') ++ (ext ++ [(⟨0, 2, 1, l.map I⟩ : Blk)]) := fun t' u' => by
    rw [List.set_append_left _ _ (by simpa using hlt), List.set_set]
  refine (among_ok _ p code ns t u _ l (by rw [List.getElem?_append_left (by simpa using hlt)]; exact List.getElem?_set_self hlt) hc ht (fun t u => ?_) hl).mono ?_
  · rw [hset]
    simp only [aview]
    rw [List.getElem?_append_right (by simp), List.getElem?_append_right (by simp)]
    simp
    exact List.take_of_length_le (by simp)
  · rintro r H1 ⟨x, u1, t1, rfl, hx, ht1, rfl⟩
    exact ⟨x, u1, t1, rfl, hx, ht1, hset _ _⟩
theorem HB_set {H : List Blk} (hB : HB H) {p : Nat} {code : AV} (hcb : ∀ k, Bel k code) (t : Nat) (u : Int) : HB (H.set p (srcB code t u)) := fun b hb c hcc => by
  rw [List.length_set]
  rcases List.mem_or_eq_of_mem_set hb with hb | rfl
  · exact hB b hb c hcc
  · unfold srcB at hcc
    simp only [List.mem_cons, List.not_mem_nil, or_false] at hcc
    rcases hcc with rfl | rfl | rfl
    · exact hcb _
    · exact .lit _
    · exact .lit _
theorem b10AtG (H : List Blk) (ns : List Int) (i n : Nat) (hz : ∀ z ∈ ns, 0 ≤ z ∧ z < 256) (hl : ns.length ≤ 2000000) (hi : i ≤ 1000) (h1 : 1 ≤ n) (hn : n ≤ 1000000) :
    ACalls Try.prog f_laws_b10At [ilY ns, I i, I n] H (fun r H' => H' = H ∧ ∃ j : Nat, r = I j ∧ j < n) := by
  have fin : ∀ x : Int, 0 ≤ x → ∃ j : Nat, I (x.tmod n) = I j ∧ j < n := fun x h0 => by
    have h3 : x.tmod n = x % n := Int.tmod_eq_emod_of_nonneg h0
    have h4 := Int.emod_nonneg x (show (n : Int) ≠ 0 by omega)
    have h5 := Int.emod_lt_of_pos x (show (0 : Int) < n by omega)
    exact ⟨(x % n).toNat, by rw [h3, Int.toNat_of_nonneg h4], by omega⟩
  have hne : ¬ (n : Int) = 0 := by omega
  refine ACalls.introB s_laws_b10At (by simp) ?_; intro hB hA; unfold c_laws_b10At; simp (config := { maxSteps := 1000000 }) (disch := (first | omega | (simp only [go_sem]; try omega))) only [go_sem, Nat.reduceAdd, Nat.reduceEqDiff, Nat.reduceLeDiff, Nat.reduceMul, Nat.reduceLT, reduceIte, Int.reduceToNat, w64_id, cast_succ]
  repeat (first | (with_reducible first | refine SW.seq ?_ | refine SW.block ?_ | refine SW.rowC ?_ | refine SW.skip ?_ | refine SW.exit ?_ | intro _ | refine And.intro (by omega) ?_) | simp (config := { maxSteps := 1000000 }) (disch := (first | omega | (simp only [go_sem]; try omega))) only [go_sem, Nat.reduceAdd, Nat.reduceEqDiff, Nat.reduceLeDiff, Nat.reduceMul, Nat.reduceLT, reduceIte, Int.reduceToNat, w64_id, cast_succ])
  (first | refine SW.condD rfl (fun h => ?_) (fun h => ?_) | refine SW.condN rfl (fun h => ?_) (fun h => ?_) | refine SW.condNB rfl (fun h => ?_) (fun h => ?_) | refine SW.condB rfl (fun h => ?_) (fun h => ?_))
  · repeat (first | (with_reducible first | refine SW.seq ?_ | refine SW.block ?_ | refine SW.rowC ?_ | refine SW.skip ?_ | refine SW.exit ?_ | intro _ | refine And.intro (by omega) ?_) | simp (config := { maxSteps := 1000000 }) (disch := (first | omega | (simp only [go_sem]; try omega))) only [go_sem, Nat.reduceAdd, Nat.reduceEqDiff, Nat.reduceLeDiff, Nat.reduceMul, Nat.reduceLT, reduceIte, Int.reduceToNat, w64_id, cast_succ])
    refine SW.ret ?_; (try simp only [go_sem]); (first | refine FunPost.one ?_ | refine FunPost.two ?_ | refine FunPost.three ?_); (try simp (config := { maxSteps := 1000000 }) (disch := (first | omega | (simp only [go_sem]; try omega))) only [go_sem, Nat.reduceAdd, Nat.reduceEqDiff, Nat.reduceLeDiff, Nat.reduceMul, Nat.reduceLT, reduceIte, Int.reduceToNat, w64_id, cast_succ])
    exact GR.of ⟨rfl, 0, rfl, by omega⟩
  · repeat (first | (with_reducible first | refine SW.seq ?_ | refine SW.block ?_ | refine SW.rowC ?_ | refine SW.skip ?_ | refine SW.exit ?_ | intro _ | refine And.intro (by omega) ?_) | simp (config := { maxSteps := 1000000 }) (disch := (first | omega | (simp only [go_sem]; try omega))) only [go_sem, Nat.reduceAdd, Nat.reduceEqDiff, Nat.reduceLeDiff, Nat.reduceMul, Nat.reduceLT, reduceIte, Int.reduceToNat, w64_id, cast_succ])
    (first | refine SW.condD rfl (fun h2 => ?_) (fun h2 => ?_) | refine SW.condN rfl (fun h2 => ?_) (fun h2 => ?_) | refine SW.condNB rfl (fun h2 => ?_) (fun h2 => ?_) | refine SW.condB rfl (fun h2 => ?_) (fun h2 => ?_))
    · have hm := hz (ns.getD i 0) (by rw [List.getD_eq_getElem?_getD, List.getElem?_eq_getElem (by omega)]; exact List.getElem_mem _)
      repeat (first | (with_reducible first | refine SW.seq ?_ | refine SW.block ?_ | refine SW.rowC ?_ | refine SW.skip ?_ | refine SW.exit ?_ | intro _ | refine And.intro (by omega) ?_) | simp (config := { maxSteps := 1000000 }) (disch := (first | omega | (simp only [go_sem]; try omega))) only [go_sem, Nat.reduceAdd, Nat.reduceEqDiff, Nat.reduceLeDiff, Nat.reduceMul, Nat.reduceLT, reduceIte, Int.reduceToNat, w64_id, cast_succ, hne])
      refine SW.ret ?_; (try simp only [go_sem]); (first | refine FunPost.one ?_ | refine FunPost.two ?_ | refine FunPost.three ?_); (try simp (config := { maxSteps := 1000000 }) (disch := (first | omega | (simp only [go_sem]; try omega))) only [go_sem, Nat.reduceAdd, Nat.reduceEqDiff, Nat.reduceLeDiff, Nat.reduceMul, Nat.reduceLT, reduceIte, Int.reduceToNat, w64_id, cast_succ])
      exact GR.of ⟨rfl, fin _ (by omega)⟩
    · repeat (first | (with_reducible first | refine SW.seq ?_ | refine SW.block ?_ | refine SW.rowC ?_ | refine SW.skip ?_ | refine SW.exit ?_ | intro _ | refine And.intro (by omega) ?_) | simp (config := { maxSteps := 1000000 }) (disch := (first | omega | (simp only [go_sem]; try omega))) only [go_sem, Nat.reduceAdd, Nat.reduceEqDiff, Nat.reduceLeDiff, Nat.reduceMul, Nat.reduceLT, reduceIte, Int.reduceToNat, w64_id, cast_succ, hne])
      refine SW.ret ?_; (try simp only [go_sem]); (first | refine FunPost.one ?_ | refine FunPost.two ?_ | refine FunPost.three ?_); (try simp (config := { maxSteps := 1000000 }) (disch := (first | omega | (simp only [go_sem]; try omega))) only [go_sem, Nat.reduceAdd, Nat.reduceEqDiff, Nat.reduceLeDiff, Nat.reduceMul, Nat.reduceLT, reduceIte, Int.reduceToNat, w64_id, cast_succ])
      exact GR.of ⟨rfl, fin _ (by omega)⟩
end Go.Proofs.Ytchehdplcbffmaa
