/- Graphs of designs: the law. -/
import Derived.Test.YtonfknfphdeenaaProg
import Derived.KernelRfl
import Derived.Test.YtonfknfphdeenaaE5
set_option linter.unusedSimpArgs false
set_option linter.unusedVariables false
set_option maxHeartbeats 4000000
set_option maxRecDepth 100000
namespace Go.Proofs.Ytonfknfphdeenaa
open Go.Av

/-! The abstract code of functions, printed by program and tied to the program by the kernel. -/
/-- loop.example/g00920/laws.FnExactDesignGraph -/
abbrev f_laws_FnExactDesignGraph : Nat := 5
def c_laws_FnExactDesignGraph : SC :=
 .seq (.reg [
     ⟨(some 1), .box 33 (.tmp 0), none⟩,
     ⟨(some 2), .mv (.const (.bool false)), none⟩] [1])
 (.seq (.reg [
     ⟨(some 3), .mv (.const (.int .i64 1048576)), none⟩] [1, 3])
 (.seq (.reg [
     ⟨(some 14), .load 2 true (.tmp 1), none⟩,
     ⟨(some 15), .mv (.tmp 3), none⟩,
     ⟨(some 16), .call 18 [(.tmp 14), (.tmp 15)], none⟩,
     ⟨(some 3), .mv (.tmp 16), none⟩] [1, 3])
 (.seq (.seq (.reg [
     ⟨(some 17), .mv (.tmp 3), none⟩,
     ⟨(some 18), .bin .lss (.tmp 17) (.const (.int .i64 0)), none⟩] [1, 18])
 (.cond (.tmp 18)
  (.seq (.reg [
      ⟨(some 2), .mv (.const (.bool true)), none⟩] [2])
  (.ret))
  (.skip)))
 (.seq (.reg [
     ⟨(some 20), .load 2 true (.tmp 1), none⟩,
     ⟨(some 21), .call 20 [(.tmp 20)], none⟩,
     ⟨(some 22), .call 19 [(.tmp 21)], none⟩,
     ⟨(some 19), .mv (.tmp 22), none⟩,
     ⟨(some 23), .ext (.tmp 19) 0, none⟩,
     ⟨(some 24), .ext (.tmp 19) 1, none⟩,
     ⟨(some 4), .alloc 38 [(.slice none 0 0), (.slice none 0 0)], none⟩,
     ⟨none, .store 2 (.tmp 4) (.tmp 23), none⟩,
     ⟨(some 5), .mv (.tmp 24), none⟩] [1, 4, 5])
 (.seq (.reg [
     ⟨(some 25), .load 2 true (.tmp 1), none⟩,
     ⟨(some 26), .call 20 [(.tmp 25)], none⟩,
     ⟨(some 6), .alloc 41 [(.int .i64 0), (.slice none 0 0)], none⟩,
     ⟨none, .store 2 (.tmp 6) (.tmp 26), none⟩] [1, 4, 5, 6])
 (.seq (.reg [
     ⟨(some 28), .load 2 true (.tmp 6), none⟩,
     ⟨(some 29), .call 21 [(.tmp 28)], none⟩,
     ⟨(some 27), .mv (.tmp 29), none⟩,
     ⟨(some 30), .ext (.tmp 27) 0, none⟩,
     ⟨(some 31), .ext (.tmp 27) 1, none⟩,
     ⟨(some 7), .alloc 38 [(.slice none 0 0), (.slice none 0 0)], none⟩,
     ⟨none, .store 2 (.tmp 7) (.tmp 30), none⟩,
     ⟨(some 8), .mv (.tmp 31), none⟩] [1, 4, 5, 6, 7, 8])
 (.seq (.seq (.reg [
     ⟨(some 32), .load 2 true (.tmp 7), none⟩,
     ⟨(some 33), .load 2 true (.tmp 4), none⟩,
     ⟨(some 34), .call 22 [(.tmp 32), (.tmp 33)], none⟩,
     ⟨(some 35), .un .not (.tmp 34), none⟩,
     ⟨(some 36), .mv (.tmp 35), none⟩,
     ⟨(some 37), .mv (.tmp 8), (some (36, false))⟩,
     ⟨(some 38), .mv (.tmp 5), (some (36, false))⟩,
     ⟨(some 39), .bin .neq (.tmp 37) (.tmp 38), (some (36, false))⟩,
     ⟨(some 40), .pick (.tmp 36) (.const (.bool true)) (.tmp 39), none⟩] [1, 4, 5, 6, 7, 8, 40])
 (.cond (.tmp 40)
  (.seq (.reg [
      ⟨(some 2), .mv (.const (.bool false)), none⟩] [2])
  (.ret))
  (.skip)))
 (.seq (.seq (.reg [
     ⟨(some 41), .load 2 true (.tmp 6), none⟩,
     ⟨(some 42), .load 2 true (.tmp 1), none⟩,
     ⟨(some 43), .qcall 20 [(.tmp 42)], none⟩,
     ⟨(some 44), .qcall 23 [(.tmp 41), (.tmp 43)], none⟩,
     ⟨(some 45), .un .not (.tmp 44), none⟩] [1, 4, 5, 6, 7, 8, 45])
 (.cond (.tmp 45)
  (.seq (.reg [
      ⟨(some 2), .mv (.const (.bool false)), none⟩] [2])
  (.ret))
  (.skip)))
 (.seq (.reg [
     ⟨(some 9), .mv (.const (.int .i64 1)), none⟩] [1, 4, 5, 6, 7, 8, 9])
 (.seq (.reg [
     ⟨(some 46), .load 2 true (.tmp 6), none⟩,
     ⟨(some 47), .mv (.tmp 9), none⟩,
     ⟨(some 48), .call 24 [(.tmp 46), (.tmp 47)], none⟩,
     ⟨(some 9), .mv (.tmp 48), none⟩] [1, 4, 5, 7, 8, 9])
 (.seq (.seq (.reg [
     ⟨(some 49), .mv (.tmp 9), none⟩,
     ⟨(some 50), .bin .lss (.tmp 49) (.const (.int .i64 0)), none⟩,
     ⟨(some 51), .mv (.tmp 50), none⟩,
     ⟨(some 52), .load 2 true (.tmp 7), (some (51, false))⟩,
     ⟨(some 53), .load 2 true (.tmp 4), (some (51, false))⟩,
     ⟨(some 54), .call 22 [(.tmp 52), (.tmp 53)], (some (51, false))⟩,
     ⟨(some 55), .un .not (.tmp 54), (some (51, false))⟩,
     ⟨(some 56), .pick (.tmp 51) (.const (.bool true)) (.tmp 55), none⟩,
     ⟨(some 57), .mv (.tmp 56), none⟩,
     ⟨(some 58), .mv (.tmp 8), (some (57, false))⟩,
     ⟨(some 59), .mv (.tmp 5), (some (57, false))⟩,
     ⟨(some 60), .bin .neq (.tmp 58) (.tmp 59), (some (57, false))⟩,
     ⟨(some 61), .pick (.tmp 57) (.const (.bool true)) (.tmp 60), none⟩] [1, 4, 5, 7, 61])
 (.cond (.tmp 61)
  (.seq (.reg [
      ⟨(some 2), .mv (.const (.bool false)), none⟩] [2])
  (.ret))
  (.skip)))
 (.seq (.reg [
     ⟨(some 10), .mv (.const (.int .i64 1)), none⟩] [1, 4, 5, 7, 10])
 (.seq (.reg [
     ⟨(some 62), .load 2 true (.tmp 7), none⟩,
     ⟨(some 63), .mv (.tmp 10), none⟩,
     ⟨(some 64), .call 25 [(.tmp 62), (.tmp 63)], none⟩,
     ⟨(some 10), .mv (.tmp 64), none⟩] [1, 4, 5, 7, 10])
 (.seq (.reg [
     ⟨(some 11), .mv (.const (.int .i64 1)), none⟩] [1, 4, 5, 7, 10, 11])
 (.seq (.reg [
     ⟨(some 65), .load 2 true (.tmp 7), none⟩,
     ⟨(some 66), .mv (.tmp 11), none⟩,
     ⟨(some 67), .call 26 [(.tmp 65), (.tmp 66)], none⟩,
     ⟨(some 11), .mv (.tmp 67), none⟩] [1, 4, 5, 7, 10, 11])
 (.seq (.seq (.reg [
     ⟨(some 68), .mv (.tmp 11), none⟩,
     ⟨(some 69), .bin .lss (.tmp 68) (.const (.int .i64 0)), none⟩] [1, 4, 5, 7, 10, 11, 69])
 (.cond (.tmp 69)
  (.seq (.reg [
      ⟨(some 2), .mv (.const (.bool false)), none⟩] [2])
  (.ret))
  (.skip)))
 (.seq (.seq (.reg [
     ⟨(some 70), .mv (.tmp 11), none⟩,
     ⟨(some 71), .mv (.tmp 10), none⟩,
     ⟨(some 72), .bin .neq (.tmp 70) (.tmp 71), none⟩] [1, 4, 5, 7, 10, 72])
 (.cond (.tmp 72)
  (.seq (.reg [
      ⟨(some 2), .mv (.const (.bool false)), none⟩] [2])
  (.ret))
  (.skip)))
 (.seq (.reg [
     ⟨(some 74), .load 2 true (.tmp 1), none⟩,
     ⟨(some 75), .call 20 [(.tmp 74)], none⟩,
     ⟨(some 76), .call 21 [(.tmp 75)], none⟩,
     ⟨(some 73), .mv (.tmp 76), none⟩,
     ⟨(some 77), .ext (.tmp 73) 0, none⟩,
     ⟨(some 78), .ext (.tmp 73) 1, none⟩,
     ⟨(some 12), .alloc 38 [(.slice none 0 0), (.slice none 0 0)], none⟩,
     ⟨none, .store 2 (.tmp 12) (.tmp 77), none⟩,
     ⟨(some 13), .mv (.tmp 78), none⟩] [4, 5, 7, 10, 12, 13])
 (.seq (.seq (.reg [
     ⟨(some 79), .load 2 true (.tmp 12), none⟩,
     ⟨(some 80), .load 2 true (.tmp 4), none⟩,
     ⟨(some 81), .call 22 [(.tmp 79), (.tmp 80)], none⟩,
     ⟨(some 82), .un .not (.tmp 81), none⟩,
     ⟨(some 83), .mv (.tmp 82), none⟩,
     ⟨(some 84), .mv (.tmp 13), (some (83, false))⟩,
     ⟨(some 85), .mv (.tmp 5), (some (83, false))⟩,
     ⟨(some 86), .bin .neq (.tmp 84) (.tmp 85), (some (83, false))⟩,
     ⟨(some 87), .pick (.tmp 83) (.const (.bool true)) (.tmp 86), none⟩] [7, 10, 87])
 (.cond (.tmp 87)
  (.seq (.reg [
      ⟨(some 2), .mv (.const (.bool false)), none⟩] [2])
  (.ret))
  (.skip)))
 (.seq (.reg [
     ⟨(some 11), .mv (.const (.int .i64 1)), none⟩] [7, 10, 11])
 (.seq (.reg [
     ⟨(some 88), .load 2 true (.tmp 7), none⟩,
     ⟨(some 89), .mv (.tmp 11), none⟩,
     ⟨(some 90), .call 26 [(.tmp 88), (.tmp 89)], none⟩,
     ⟨(some 11), .mv (.tmp 90), none⟩] [10, 11])
 (.seq (.seq (.reg [
     ⟨(some 91), .mv (.tmp 11), none⟩,
     ⟨(some 92), .bin .lss (.tmp 91) (.const (.int .i64 0)), none⟩] [10, 11, 92])
 (.cond (.tmp 92)
  (.seq (.reg [
      ⟨(some 2), .mv (.const (.bool false)), none⟩] [2])
  (.ret))
  (.skip)))
 (.seq (.seq (.reg [
     ⟨(some 93), .mv (.tmp 11), none⟩,
     ⟨(some 94), .mv (.tmp 10), none⟩,
     ⟨(some 95), .bin .neq (.tmp 93) (.tmp 94), none⟩] [95])
 (.cond (.tmp 95)
  (.seq (.reg [
      ⟨(some 2), .mv (.const (.bool false)), none⟩] [2])
  (.ret))
  (.skip)))
 (.seq (.reg [
     ⟨(some 2), .mv (.const (.bool true)), none⟩] [2])
 (.ret)))))))))))))))))))))))))
theorem s_laws_FnExactDesignGraph : stripF Try.prog 5 [[1], [1, 3], [1, 3], [1, 18], [2], [1, 4, 5], [1, 4, 5, 6], [1, 4, 5, 6, 7, 8], [1, 4, 5, 6, 7, 8, 40], [2], [1, 4, 5, 6, 7, 8, 45], [2], [1, 4, 5, 6, 7, 8, 9], [1, 4, 5, 7, 8, 9], [1, 4, 5, 7, 61], [2], [1, 4, 5, 7, 10], [1, 4, 5, 7, 10], [1, 4, 5, 7, 10, 11], [1, 4, 5, 7, 10, 11], [1, 4, 5, 7, 10, 11, 69], [2], [1, 4, 5, 7, 10, 72], [2], [4, 5, 7, 10, 12, 13], [7, 10, 87], [2], [7, 10, 11], [10, 11], [10, 11, 92], [2], [95], [2], [2]] = some (c_laws_FnExactDesignGraph, [.tmp 2], 96) := by kernel_rfl


theorem OwnS.oneG {H : List Blk} {N : Nat → Prop} {t : Nat} {c : AV} {xs : List Int} (h : OwnS H N t c xs) : c.cell1 = true ∧ partsOf c = [c] := by
  rcases h with ⟨r, ver, ty, rfl, _⟩ | ⟨_, rfl | rfl⟩ <;> exact ⟨rfl, rfl⟩
theorem OwnS.appG {H : List Blk} {N : Nat → Prop} {t : Nat} {c : AV} {xs : List Int} (h : OwnS H N t c xs) (ext : List Blk) : OwnS (H ++ ext) N t c xs :=
  h.same (fun j b _ _ hb => by rw [List.getElem?_append_left (List.getElem?_eq_some_iff.1 hb).1]; exact hb)
theorem OwnE.ov {H : List Blk} {N : Nat → Prop} {c : AV} {es : List (Int × Int)} (h : OwnE H N c es) : OV c := by
  rcases h with ⟨r, ver, ty, rfl, _⟩ | ⟨_, rfl | rfl⟩
  · exact .nm _ _ _ _
  · exact .lit _
  · exact .nil
theorem flatE_vals (es : List (Int × Int)) : flatE es = (es.flatMap fun e => [e.1, e.2]).map I := by
  induction es with
  | nil => rfl
  | cons e es ih => simp only [List.flatMap_cons, List.map_append, ← ih]; rfl
theorem OwnE.sh {H H0 : List Blk} {N N' : Nat → Prop} {c : AV} {es : List (Int × Int)} (h : OwnE H0 N c es) (hN : ∀ i, N i → N' (H.length + i)) : OwnE (H ++ H0.map (shB H.length)) N' (Go.Av.sh H.length c) es := by
  rcases h with ⟨r, ver, ty, rfl, h1, h3⟩ | ⟨rfl, rfl | rfl⟩
  · refine .inl ⟨H.length + r, ver, ty, sh_nm _ _ _ _ _, hN _ h1, ?_⟩
    rw [hget, List.getElem?_map, h3]
    simp only [Option.map_some]
    rw [flatE_vals, shB_cells (ov_I _), sh_I]
  · exact .inr ⟨rfl, .inl (sh_nil _)⟩
  · exact .inr ⟨rfl, .inr (sh_il _ _ _)⟩

theorem gr_lend {H : List Blk} {f : Nat} {args args' : List AV} {V : (List Int × List (Int × Int)) × Int} (h : ACalls Try.prog f args' [] (GrR [] V)) (hf : Frozs H args args') :
    ACalls Try.prog f args H (GrR H V) := by
  refine (h.lend hf ?_).mono ?_
  · rintro r H0 ⟨ext, v, u, q, rfl, rfl, _, _, ho, hu⟩
    refine .tup _ (fun c hc => ?_)
    simp only [List.mem_cons, List.not_mem_nil, or_false] at hc
    rcases hc with rfl | rfl
    · refine .agg _ (fun c hc => ?_)
      simp only [List.mem_cons, List.not_mem_nil, or_false] at hc
      rcases hc with rfl | rfl
      · exact ho.ov
      · exact hu.ov
    · exact .I _
  · rintro r H' ⟨r0, H0, ⟨ext, v, u, q, rfl, rfl, h1, h2, ho, hu⟩, rfl, rfl⟩
    refine ⟨_, sh H.length v, sh H.length u, H.length + q, rfl, ?_, by omega, ?_, ?_, hu.sh (H := H) (N' := Btw (H.length + q) (H ++ _).length) (fun i hi => ?_)⟩
    · simp [sh_tup, sh_agg, sh_In]
    · simp at h2 ⊢; omega
    · have := ho.sh (H := H) (N' := Btw H.length (H.length + q)) (fun i hi => by unfold Btw at hi ⊢; simp at hi ⊢; omega)
      simpa using this
    · unfold Btw at hi ⊢
      simp at hi ⊢; omega

theorem dgV_len (n : Int) (xss : List (List Int)) : (dgV n xss).1.1.length ≤ 64 ∧ (dgV n xss).1.2.length ≤ 512 := by
  unfold dgV
  split
  · unfold grV
    split
    · simp
    · rename_i h
      have e1 : (twoC n.toNat xss.length).length = n.toNat + xss.length := by simp [twoC, tab]
      have e2 := sortU_len (cf := cmpE) (edI n.toNat xss)
      simp only
      omega
  · simp

theorem lawDesignGraph_ok (H : List Blk) (n : Int) (xss : List (List Int)) (hx : ∀ xs ∈ xss, ∀ x ∈ xs, (Lit.int .i64 x).wf = true) : ACalls Try.prog f_laws_FnExactDesignGraph [.agg [I n, ilSS xss]] H (fun r _ => r = Bv true) := by
  have hs := specDesignGraph_fn n xss hx
  have hi := fun H => implDesignGraph_ok H n xss
  have hi2 := fun H args hf => gr_lend (H := H) (args := args) (implDesignGraph_ok [] n xss) hf
  have hlen := dgV_len n xss
  generalize dgV n xss = V at *
  obtain ⟨⟨cols, es⟩, code⟩ := V
  simp only at hs hlen
  obtain ⟨hlc, hle⟩ := hlen
  refine ACalls.introB s_laws_FnExactDesignGraph (by simp) ?_; intro hB hA; unfold c_laws_FnExactDesignGraph; simp (config := { maxSteps := 1000000 }) (disch := (first | omega | (simp only [go_sem]; try omega))) only [go_sem, Nat.reduceAdd, Nat.reduceEqDiff, Nat.reduceLeDiff, Nat.reduceMul, Nat.reduceLT, reduceIte, Int.reduceToNat, w64_id, cast_succ]
  repeat (first | (with_reducible first | refine SW.seq ?_ | refine SW.block ?_ | refine SW.rowC ?_ | refine SW.skip ?_ | refine SW.exit ?_ | intro _ | refine And.intro (by omega) ?_) | simp (config := { maxSteps := 1000000 }) (disch := (first | omega | (simp only [go_sem]; try omega))) only [go_sem, Nat.reduceAdd, Nat.reduceEqDiff, Nat.reduceLeDiff, Nat.reduceMul, Nat.reduceLT, reduceIte, Int.reduceToNat, w64_id, cast_succ])
  refine (szDesign_okE _ n _ xss _ rfl (rd_ilSS _ _) (by omega) (by omega)).mono ?_
  rintro r H' ⟨⟨z, rfl, g1, g2, g3⟩, rfl⟩
  repeat (first | (with_reducible first | refine SW.seq ?_ | refine SW.block ?_ | refine SW.rowC ?_ | refine SW.skip ?_ | refine SW.exit ?_ | intro _ | refine And.intro (by omega) ?_) | simp (config := { maxSteps := 1000000 }) (disch := (first | omega | (simp only [go_sem]; try omega))) only [go_sem, Nat.reduceAdd, Nat.reduceEqDiff, Nat.reduceLeDiff, Nat.reduceMul, Nat.reduceLT, reduceIte, Int.reduceToNat, w64_id, cast_succ])
  (first | refine SW.condD rfl (fun h2 => ?_) (fun h2 => ?_) | refine SW.condN rfl (fun h2 => ?_) (fun h2 => ?_) | refine SW.condNB rfl (fun h2 => ?_) (fun h2 => ?_) | refine SW.condB rfl (fun h2 => ?_) (fun h2 => ?_))
  · repeat (first | (with_reducible first | refine SW.seq ?_ | refine SW.block ?_ | refine SW.rowC ?_ | refine SW.skip ?_ | refine SW.exit ?_ | intro _ | refine And.intro (by omega) ?_) | simp (config := { maxSteps := 1000000 }) (disch := (first | omega | (simp only [go_sem]; try omega))) only [go_sem, Nat.reduceAdd, Nat.reduceEqDiff, Nat.reduceLeDiff, Nat.reduceMul, Nat.reduceLT, reduceIte, Int.reduceToNat, w64_id, cast_succ])
    refine SW.ret ?_; (try simp only [go_sem]); (first | refine FunPost.one ?_ | refine FunPost.two ?_ | refine FunPost.three ?_); (try simp (config := { maxSteps := 1000000 }) (disch := (first | omega | (simp only [go_sem]; try omega))) only [go_sem, Nat.reduceAdd, Nat.reduceEqDiff, Nat.reduceLeDiff, Nat.reduceMul, Nat.reduceLT, reduceIte, Int.reduceToNat, w64_id, cast_succ])
    exact GR.of rfl
  have hsx := small_rows (by omega) (g3 (by omega)) (by omega)
  have t1 := toDesign_fnE n xss hsx.1 hsx.2
  have htot : total xss ≤ 1073741824 := by have := g3 (by omega); omega
  repeat (first | (with_reducible first | refine SW.seq ?_ | refine SW.block ?_ | refine SW.rowC ?_ | refine SW.skip ?_ | refine SW.exit ?_ | intro _ | refine And.intro (by omega) ?_) | simp (config := { maxSteps := 1000000 }) (disch := (first | omega | (simp only [go_sem]; try omega))) only [go_sem, Nat.reduceAdd, Nat.reduceEqDiff, Nat.reduceLeDiff, Nat.reduceMul, Nat.reduceLT, reduceIte, Int.reduceToNat, w64_id, cast_succ])
  refine ACalls.fn (t1 _) ?_
  have hcE : (ilE es).cell1 = true := rfl
  have hpE : partsOf (ilE es) = [ilE es] := rfl
  repeat (first | (with_reducible first | refine SW.seq ?_ | refine SW.block ?_ | refine SW.rowC ?_ | refine SW.skip ?_ | refine SW.exit ?_ | refine PFn.use (hs) ?_ | refine PFn.useq (hs) ?_ | intro _ | refine And.intro (by omega) ?_) | simp (config := { maxSteps := 1000000 }) (disch := (first | omega | (simp only [go_sem]; try omega))) only [go_sem, Nat.reduceAdd, Nat.reduceEqDiff, Nat.reduceLeDiff, Nat.reduceMul, Nat.reduceLT, reduceIte, Int.reduceToNat, w64_id, cast_succ, hcE, hpE])
  refine (toDesign_ok _ n _ xss rfl (rd_ilSS _ _) hsx.1 hsx.2).mono ?_
  rintro r H1 ⟨ext, v, hH1, rfl, own⟩
  have e0 : (H ++ [(⟨0, 33, 1, [I n, ilSS xss]⟩ : Blk), ⟨0, tyGr, 1, [ilS cols, ilE es]⟩])[H.length]? = some ⟨0, 33, 1, [I n, ilSS xss]⟩ := by simp
  have e1 : (H ++ [(⟨0, 33, 1, [I n, ilSS xss]⟩ : Blk), ⟨0, tyGr, 1, [ilS cols, ilE es]⟩])[H.length + 1]? = some ⟨0, tyGr, 1, [ilS cols, ilE es]⟩ := by simp
  have pa := get_appB2 e0 ext
  have pw := get_appB2 e1 ext
  rw [← hH1] at pa pw
  have hb : (H ++ [(⟨0, 33, 1, [I n, ilSS xss]⟩ : Blk), ⟨0, tyGr, 1, [ilS cols, ilE es]⟩]).length = H.length + 2 := by simp
  rw [hb] at own
  have hlt : H.length + 1 < H1.length := (List.getElem?_eq_some_iff.1 pw).1
  clear hH1 hb e0 e1
  repeat (first | (with_reducible first | refine SW.seq ?_ | refine SW.block ?_ | refine SW.rowC ?_ | refine SW.skip ?_ | refine SW.exit ?_ | intro _ | refine And.intro (by omega) ?_) | simp (config := { maxSteps := 1000000 }) (disch := (first | omega | (simp only [go_sem]; try omega))) only [go_sem, Nat.reduceAdd, Nat.reduceEqDiff, Nat.reduceLeDiff, Nat.reduceMul, Nat.reduceLT, reduceIte, Int.reduceToNat, w64_id, cast_succ, own.one.1, own.one.2])
  have px := (show (H1 ++ [(⟨0, 41, 1, [I n, v]⟩ : Blk)])[H1.length]? = some ⟨0, 41, 1, [I n, v]⟩ by simp)
  replace pa := get_appB2 pa [(⟨0, 41, 1, [I n, v]⟩ : Blk)]
  replace pw := get_appB2 pw [(⟨0, 41, 1, [I n, v]⟩ : Blk)]
  replace own := own.append [(⟨0, 41, 1, [I n, v]⟩ : Blk)]
  generalize hg : H1.length = g at *
  have hl2 : (H1 ++ [(⟨0, 41, 1, [I n, v]⟩ : Blk)]).length = g + 1 := by simp [hg]
  generalize H1 ++ [(⟨0, 41, 1, [I n, v]⟩ : Blk)] = H2 at *
  have pxl : acells H2 2 (.pc g 0 0) = some [I n, v] := pc_lds px (by simp)
  repeat (first | (with_reducible first | refine SW.seq ?_ | refine SW.block ?_ | refine SW.rowC ?_ | refine SW.skip ?_ | refine SW.exit ?_ | intro _ | refine And.intro (by omega) ?_) | simp (config := { maxSteps := 1000000 }) (disch := (first | omega | (simp only [go_sem]; try omega))) only [go_sem, Nat.reduceAdd, Nat.reduceEqDiff, Nat.reduceLeDiff, Nat.reduceMul, Nat.reduceLT, reduceIte, Int.reduceToNat, w64_id, cast_succ, pc_alive px, pxl, own.one.1, own.one.2])
  refine (hi2 _ _ (.cons (froz_agg2 (froz_I' _) (own.froz (fun r _ => Nat.zero_le _))) .nil)).mono ?_
  rintro r H3 ⟨ext2, gv, gu, q, hH3, rfl, q1, q2, hc, he⟩
  replace pa := get_appB2 pa ext2
  replace pw := get_appB2 pw ext2
  replace px := get_appB2 px ext2
  replace own := own.append ext2
  replace hc : OwnS H3 (Btw H2.length q) H3.length gv cols := hc
  replace he : OwnE H3 (Btw q H3.length) gu es := he
  have hl3 : H2.length ≤ H3.length := by rw [hH3]; simp
  rw [← hH3] at pa pw px own
  clear hH3 pxl
  repeat (first | (with_reducible first | refine SW.seq ?_ | refine SW.block ?_ | refine SW.rowC ?_ | refine SW.skip ?_ | refine SW.exit ?_ | intro _ | refine And.intro (by omega) ?_) | simp (config := { maxSteps := 1000000 }) (disch := (first | omega | (simp only [go_sem]; try omega))) only [go_sem, Nat.reduceAdd, Nat.reduceEqDiff, Nat.reduceLeDiff, Nat.reduceMul, Nat.reduceLT, reduceIte, Int.reduceToNat, w64_id, cast_succ, hc.oneG.1, hc.oneG.2, he.one.1, he.one.2])
  have pg := (show (H3 ++ [(⟨0, tyGr, 1, [gv, gu]⟩ : Blk)])[H3.length]? = some ⟨0, tyGr, 1, [gv, gu]⟩ by simp)
  replace pa := get_appB2 pa [(⟨0, tyGr, 1, [gv, gu]⟩ : Blk)]
  replace pw := get_appB2 pw [(⟨0, tyGr, 1, [gv, gu]⟩ : Blk)]
  replace px := get_appB2 px [(⟨0, tyGr, 1, [gv, gu]⟩ : Blk)]
  replace own := own.append [(⟨0, tyGr, 1, [gv, gu]⟩ : Blk)]
  replace hc := hc.appG [(⟨0, tyGr, 1, [gv, gu]⟩ : Blk)]
  replace he := he.append [(⟨0, tyGr, 1, [gv, gu]⟩ : Blk)]
  generalize hgg : H3.length = gg at *
  generalize H3 ++ [(⟨0, tyGr, 1, [gv, gu]⟩ : Blk)] = H4 at *
  have hgl : gg < H4.length := (List.getElem?_eq_some_iff.1 pg).1
  have pgl : acells H4 2 (.pc gg 0 0) = some [gv, gu] := pc_lds pg (by simp)
  have pwl : acells H4 2 (.pc (H.length + 1) 0 0) = some [ilS cols, ilE es] := pc_lds pw (by simp)
  repeat (first | (with_reducible first | refine SW.seq ?_ | refine SW.block ?_ | refine SW.rowC ?_ | refine SW.skip ?_ | refine SW.exit ?_ | intro _ | refine And.intro (by omega) ?_) | simp (config := { maxSteps := 1000000 }) (disch := (first | omega | (simp only [go_sem]; try omega))) only [go_sem, Nat.reduceAdd, Nat.reduceEqDiff, Nat.reduceLeDiff, Nat.reduceMul, Nat.reduceLT, reduceIte, Int.reduceToNat, w64_id, cast_succ, pc_alive pw, pc_alive pg, pwl, pgl])
  refine ACalls.fn (eqGraph_ok _ gv (ilS cols) gu (ilE es) cols cols es es hc.oneG.1 rfl he.one.1 rfl hc.rd (rd_ilS _ _) he.rd (rd_ilE _ _) (by omega)) ?_
  rw [show (decide (cols = cols) && decide (es = es)) = true by simp]
  repeat (first | (with_reducible first | refine SW.seq ?_ | refine SW.block ?_ | refine SW.rowC ?_ | refine SW.skip ?_ | refine SW.exit ?_ | intro _ | refine And.intro (by omega) ?_) | simp (config := { maxSteps := 1000000 }) (disch := (first | omega | (simp only [go_sem]; try omega))) only [go_sem, Nat.reduceAdd, Nat.reduceEqDiff, Nat.reduceLeDiff, Nat.reduceMul, Nat.reduceLT, reduceIte, Int.reduceToNat, w64_id, cast_succ])
  refine SW.condF rfl ?_
  have pxl : acells H4 2 (.pc g 0 0) = some [I n, v] := pc_lds px (by simp)
  have pal : acells H4 2 (.pc H.length 0 0) = some [I n, ilSS xss] := pc_lds pa (by simp)
  repeat (first | (with_reducible first | refine SW.seq ?_ | refine SW.block ?_ | refine SW.rowC ?_ | refine SW.skip ?_ | refine SW.exit ?_ | refine PFn.use (t1) ?_ | refine PFn.useq (t1) ?_ | intro _ | refine And.intro (by omega) ?_) | simp (config := { maxSteps := 1000000 }) (disch := (first | omega | (simp only [go_sem]; try omega))) only [go_sem, Nat.reduceAdd, Nat.reduceEqDiff, Nat.reduceLeDiff, Nat.reduceMul, Nat.reduceLT, reduceIte, Int.reduceToNat, w64_id, cast_succ, pc_alive px, pc_alive pa, pxl, pal])
  refine QcallW.of (fun ext => eqDesign_ok _ n n v (ilSS xss) xss xss own.one.1 rfl (own.append ext).rd (rd_ilSS _ _)) ?_
  rw [show (decide (n = n) && decide (xss = xss)) = true by simp]
  repeat (first | (with_reducible first | refine SW.seq ?_ | refine SW.block ?_ | refine SW.rowC ?_ | refine SW.skip ?_ | refine SW.exit ?_ | intro _ | refine And.intro (by omega) ?_) | simp (config := { maxSteps := 1000000 }) (disch := (first | omega | (simp only [go_sem]; try omega))) only [go_sem, Nat.reduceAdd, Nat.reduceEqDiff, Nat.reduceLeDiff, Nat.reduceMul, Nat.reduceLT, reduceIte, Int.reduceToNat, w64_id, cast_succ])
  refine SW.condF rfl ?_
  repeat (first | (with_reducible first | refine SW.seq ?_ | refine SW.block ?_ | refine SW.rowC ?_ | refine SW.skip ?_ | refine SW.exit ?_ | intro _ | refine And.intro (by omega) ?_) | simp (config := { maxSteps := 1000000 }) (disch := (first | omega | (simp only [go_sem]; try omega))) only [go_sem, Nat.reduceAdd, Nat.reduceEqDiff, Nat.reduceLeDiff, Nat.reduceMul, Nat.reduceLT, reduceIte, Int.reduceToNat, w64_id, cast_succ, pc_alive px, pxl, own.one.1, own.one.2])
  refine (markDesign_ok _ _ n 1 v xss own.one.1 own (by omega) (by omega)).mono ?_
  rintro r H5 ⟨rfl, -, m1, m2⟩
  have hlt5 : ∀ j b, H4[j]? = some b → j < H4.length := fun j b h => (List.getElem?_eq_some_iff.1 h).1
  replace pw := (m2 (H.length + 1) (by unfold Btw; omega) (by omega)).trans pw
  replace pg := (m2 gg (by unfold Btw; omega) (by omega)).trans pg
  replace pa := (m2 H.length (by unfold Btw; omega) (by omega)).trans pa
  replace hc := hc.same (H' := H5) (fun j b hj _ hb => by rw [m2 j (by unfold Btw at hj ⊢; omega) (hlt5 j b hb)]; exact hb)
  replace he := he.same (H' := H5) (fun j b hj hb => by rw [m2 j (by unfold Btw at hj ⊢; omega) (hlt5 j b hb)]; exact hb)
  clear own px pxl pal pwl pgl
  have pgl : acells H5 2 (.pc gg 0 0) = some [gv, gu] := pc_lds pg (by simp)
  have pwl : acells H5 2 (.pc (H.length + 1) 0 0) = some [ilS cols, ilE es] := pc_lds pw (by simp)
  have hneg1 : decide ((1 : Int) + total xss < 0) = false := decide_eq_false (by omega)
  repeat (first | (with_reducible first | refine SW.seq ?_ | refine SW.block ?_ | refine SW.rowC ?_ | refine SW.skip ?_ | refine SW.exit ?_ | intro _ | refine And.intro (by omega) ?_) | simp (config := { maxSteps := 1000000 }) (disch := (first | omega | (simp only [go_sem]; try omega))) only [go_sem, Nat.reduceAdd, Nat.reduceEqDiff, Nat.reduceLeDiff, Nat.reduceMul, Nat.reduceLT, reduceIte, Int.reduceToNat, w64_id, cast_succ, hneg1, pc_alive pw, pc_alive pg, pwl, pgl])
  refine ACalls.fn (eqGraph_ok _ gv (ilS cols) gu (ilE es) cols cols es es hc.oneG.1 rfl he.one.1 rfl hc.rd (rd_ilS _ _) he.rd (rd_ilE _ _) (by omega)) ?_
  rw [show (decide (cols = cols) && decide (es = es)) = true by simp]
  repeat (first | (with_reducible first | refine SW.seq ?_ | refine SW.block ?_ | refine SW.rowC ?_ | refine SW.skip ?_ | refine SW.exit ?_ | intro _ | refine And.intro (by omega) ?_) | simp (config := { maxSteps := 1000000 }) (disch := (first | omega | (simp only [go_sem]; try omega))) only [go_sem, Nat.reduceAdd, Nat.reduceEqDiff, Nat.reduceLeDiff, Nat.reduceMul, Nat.reduceLT, reduceIte, Int.reduceToNat, w64_id, cast_succ])
  refine SW.condF rfl ?_
  repeat (first | (with_reducible first | refine SW.seq ?_ | refine SW.block ?_ | refine SW.rowC ?_ | refine SW.skip ?_ | refine SW.exit ?_ | intro _ | refine And.intro (by omega) ?_) | simp (config := { maxSteps := 1000000 }) (disch := (first | omega | (simp only [go_sem]; try omega))) only [go_sem, Nat.reduceAdd, Nat.reduceEqDiff, Nat.reduceLeDiff, Nat.reduceMul, Nat.reduceLT, reduceIte, Int.reduceToNat, w64_id, cast_succ, pc_alive pg, pgl, hc.oneG.1, hc.oneG.2, he.one.1, he.one.2])
  refine (markGraph_ok _ _ _ _ 1 gv gu cols es hc.oneG.1 he.one.1 hc he (fun j hj => by unfold Btw at hj ⊢; omega) (by unfold Btw; omega) (by omega) (by omega) (by omega) (by omega)).mono ?_
  rintro r H7 ⟨rfl, hc7, he7, p1, p2⟩
  have hlt7 : ∀ j b, H5[j]? = some b → j < H5.length := fun j b h => (List.getElem?_eq_some_iff.1 h).1
  replace pw := (p2 (H.length + 1) (by unfold Btw; omega) (by unfold Btw; omega) (hlt7 _ _ pw)).trans pw
  replace pg := (p2 gg (by unfold Btw; omega) (by unfold Btw; omega) (hlt7 _ _ pg)).trans pg
  replace pa := (p2 H.length (by unfold Btw; omega) (by unfold Btw; omega) (hlt7 _ _ pa)).trans pa
  clear hc he pgl pwl
  have pgl : acells H7 2 (.pc gg 0 0) = some [gv, gu] := pc_lds pg (by simp)
  repeat (first | (with_reducible first | refine SW.seq ?_ | refine SW.block ?_ | refine SW.rowC ?_ | refine SW.skip ?_ | refine SW.exit ?_ | intro _ | refine And.intro (by omega) ?_) | simp (config := { maxSteps := 1000000 }) (disch := (first | omega | (simp only [go_sem]; try omega))) only [go_sem, Nat.reduceAdd, Nat.reduceEqDiff, Nat.reduceLeDiff, Nat.reduceMul, Nat.reduceLT, reduceIte, Int.reduceToNat, w64_id, cast_succ, pc_alive pg, pgl, hc7.oneG.1, hc7.oneG.2, he7.one.1, he7.one.2])
  refine ACalls.fn (heldGraph_ok _ 1 gv gu cols.length es.length hc7.oneG.1 he7.one.1 hc7.rd he7.rd (by omega) (by omega) (by omega) (by omega)) ?_
  have hneg2 : decide ((1 : Int) + cols.length + 2 * es.length < 0) = false := decide_eq_false (by omega)
  repeat (first | (with_reducible first | refine SW.seq ?_ | refine SW.block ?_ | refine SW.rowC ?_ | refine SW.skip ?_ | refine SW.exit ?_ | intro _ | refine And.intro (by omega) ?_) | simp (config := { maxSteps := 1000000 }) (disch := (first | omega | (simp only [go_sem]; try omega))) only [go_sem, Nat.reduceAdd, Nat.reduceEqDiff, Nat.reduceLeDiff, Nat.reduceMul, Nat.reduceLT, reduceIte, Int.reduceToNat, w64_id, cast_succ, hneg2])
  refine SW.condF rfl ?_
  repeat (first | (with_reducible first | refine SW.seq ?_ | refine SW.block ?_ | refine SW.rowC ?_ | refine SW.skip ?_ | refine SW.exit ?_ | intro _ | refine And.intro (by omega) ?_) | simp (config := { maxSteps := 1000000 }) (disch := (first | omega | (simp only [go_sem]; try omega))) only [go_sem, Nat.reduceAdd, Nat.reduceEqDiff, Nat.reduceLeDiff, Nat.reduceMul, Nat.reduceLT, reduceIte, Int.reduceToNat, w64_id, cast_succ])
  refine SW.condF rfl ?_
  repeat (first | (with_reducible first | refine SW.seq ?_ | refine SW.block ?_ | refine SW.rowC ?_ | refine SW.skip ?_ | refine SW.exit ?_ | refine PFn.use (t1) ?_ | refine PFn.useq (t1) ?_ | intro _ | refine And.intro (by omega) ?_) | simp (config := { maxSteps := 1000000 }) (disch := (first | omega | (simp only [go_sem]; try omega))) only [go_sem, Nat.reduceAdd, Nat.reduceEqDiff, Nat.reduceLeDiff, Nat.reduceMul, Nat.reduceLT, reduceIte, Int.reduceToNat, w64_id, cast_succ, pc_alive pa, show acells H7 2 (.pc H.length 0 0) = some [I n, ilSS xss] from pc_lds pa (by simp)])
  refine (hi _).mono ?_
  rintro r H9 ⟨ext3, hv, hw, q5, rfl, rfl, q6, q7, hc9, he9⟩
  replace hc9 : OwnS (H7 ++ ext3) (Btw H7.length q5) (H7 ++ ext3).length hv cols := hc9
  replace he9 : OwnE (H7 ++ ext3) (Btw q5 (H7 ++ ext3).length) hw es := he9
  have e9 : H7 ++ (ext3 ++ [(⟨0, tyGr, 1, [hv, hw]⟩ : Blk)]) = H7 ++ ext3 ++ [(⟨0, tyGr, 1, [hv, hw]⟩ : Blk)] := by simp
  replace pw := get_appB2 (get_appB2 pw ext3) [(⟨0, tyGr, 1, [hv, hw]⟩ : Blk)]
  replace pg := get_appB2 (get_appB2 pg ext3) [(⟨0, tyGr, 1, [hv, hw]⟩ : Blk)]
  replace hc7 := (hc7.appG ext3).appG [(⟨0, tyGr, 1, [hv, hw]⟩ : Blk)]
  replace he7 := (he7.append ext3).append [(⟨0, tyGr, 1, [hv, hw]⟩ : Blk)]
  have hc10 := hc9.appG [(⟨0, tyGr, 1, [hv, hw]⟩ : Blk)]
  have he10 := he9.append [(⟨0, tyGr, 1, [hv, hw]⟩ : Blk)]
  have ph : (H7 ++ ext3 ++ [(⟨0, tyGr, 1, [hv, hw]⟩ : Blk)])[H7.length + ext3.length]? = some ⟨0, tyGr, 1, [hv, hw]⟩ := by rw [List.getElem?_append_right (by simp)]; simp
  rw [← e9] at pw pg hc7 he7 hc10 he10 ph
  clear pgl e9
  repeat (first | (with_reducible first | refine SW.seq ?_ | refine SW.block ?_ | refine SW.rowC ?_ | refine SW.skip ?_ | refine SW.exit ?_ | intro _ | refine And.intro (by omega) ?_) | simp (config := { maxSteps := 1000000 }) (disch := (first | omega | (simp only [go_sem]; try omega))) only [go_sem, Nat.reduceAdd, Nat.reduceEqDiff, Nat.reduceLeDiff, Nat.reduceMul, Nat.reduceLT, reduceIte, Int.reduceToNat, w64_id, cast_succ, hc9.oneG.1, hc9.oneG.2, he9.one.1, he9.one.2])
  generalize H7 ++ (ext3 ++ [(⟨0, tyGr, 1, [hv, hw]⟩ : Blk)]) = H10 at *
  have pwl : acells H10 2 (.pc (H.length + 1) 0 0) = some [ilS cols, ilE es] := pc_lds pw (by simp)
  have phl : acells H10 2 (.pc (H7.length + ext3.length) 0 0) = some [hv, hw] := pc_lds ph (by simp)
  have pgl : acells H10 2 (.pc gg 0 0) = some [gv, gu] := pc_lds pg (by simp)
  repeat (first | (with_reducible first | refine SW.seq ?_ | refine SW.block ?_ | refine SW.rowC ?_ | refine SW.skip ?_ | refine SW.exit ?_ | intro _ | refine And.intro (by omega) ?_) | simp (config := { maxSteps := 1000000 }) (disch := (first | omega | (simp only [go_sem]; try omega))) only [go_sem, Nat.reduceAdd, Nat.reduceEqDiff, Nat.reduceLeDiff, Nat.reduceMul, Nat.reduceLT, reduceIte, Int.reduceToNat, w64_id, cast_succ, pwl, phl, pc_alive pw, pc_alive ph])
  refine ACalls.fn (eqGraph_ok _ hv (ilS cols) hw (ilE es) cols cols es es hc10.oneG.1 rfl he10.one.1 rfl hc10.rd (rd_ilS _ _) he10.rd (rd_ilE _ _) (by omega)) ?_
  rw [show (decide (cols = cols) && decide (es = es)) = true by simp]
  repeat (first | (with_reducible first | refine SW.seq ?_ | refine SW.block ?_ | refine SW.rowC ?_ | refine SW.skip ?_ | refine SW.exit ?_ | intro _ | refine And.intro (by omega) ?_) | simp (config := { maxSteps := 1000000 }) (disch := (first | omega | (simp only [go_sem]; try omega))) only [go_sem, Nat.reduceAdd, Nat.reduceEqDiff, Nat.reduceLeDiff, Nat.reduceMul, Nat.reduceLT, reduceIte, Int.reduceToNat, w64_id, cast_succ])
  refine SW.condF rfl ?_
  repeat (first | (with_reducible first | refine SW.seq ?_ | refine SW.block ?_ | refine SW.rowC ?_ | refine SW.skip ?_ | refine SW.exit ?_ | intro _ | refine And.intro (by omega) ?_) | simp (config := { maxSteps := 1000000 }) (disch := (first | omega | (simp only [go_sem]; try omega))) only [go_sem, Nat.reduceAdd, Nat.reduceEqDiff, Nat.reduceLeDiff, Nat.reduceMul, Nat.reduceLT, reduceIte, Int.reduceToNat, w64_id, cast_succ, pgl, pc_alive pg])
  refine ACalls.fn (heldGraph_ok _ 1 gv gu cols.length es.length hc7.oneG.1 he7.one.1 hc7.rd he7.rd (by omega) (by omega) (by omega) (by omega)) ?_
  repeat (first | (with_reducible first | refine SW.seq ?_ | refine SW.block ?_ | refine SW.rowC ?_ | refine SW.skip ?_ | refine SW.exit ?_ | intro _ | refine And.intro (by omega) ?_) | simp (config := { maxSteps := 1000000 }) (disch := (first | omega | (simp only [go_sem]; try omega))) only [go_sem, Nat.reduceAdd, Nat.reduceEqDiff, Nat.reduceLeDiff, Nat.reduceMul, Nat.reduceLT, reduceIte, Int.reduceToNat, w64_id, cast_succ, hneg2])
  refine SW.condF rfl ?_
  repeat (first | (with_reducible first | refine SW.seq ?_ | refine SW.block ?_ | refine SW.rowC ?_ | refine SW.skip ?_ | refine SW.exit ?_ | intro _ | refine And.intro (by omega) ?_) | simp (config := { maxSteps := 1000000 }) (disch := (first | omega | (simp only [go_sem]; try omega))) only [go_sem, Nat.reduceAdd, Nat.reduceEqDiff, Nat.reduceLeDiff, Nat.reduceMul, Nat.reduceLT, reduceIte, Int.reduceToNat, w64_id, cast_succ])
  refine SW.condF rfl ?_
  repeat (first | (with_reducible first | refine SW.seq ?_ | refine SW.block ?_ | refine SW.rowC ?_ | refine SW.skip ?_ | refine SW.exit ?_ | intro _ | refine And.intro (by omega) ?_) | simp (config := { maxSteps := 1000000 }) (disch := (first | omega | (simp only [go_sem]; try omega))) only [go_sem, Nat.reduceAdd, Nat.reduceEqDiff, Nat.reduceLeDiff, Nat.reduceMul, Nat.reduceLT, reduceIte, Int.reduceToNat, w64_id, cast_succ])
  refine SW.ret ?_; (try simp only [go_sem]); (first | refine FunPost.one ?_ | refine FunPost.two ?_ | refine FunPost.three ?_); (try simp (config := { maxSteps := 1000000 }) (disch := (first | omega | (simp only [go_sem]; try omega))) only [go_sem, Nat.reduceAdd, Nat.reduceEqDiff, Nat.reduceLeDiff, Nat.reduceMul, Nat.reduceLT, reduceIte, Int.reduceToNat, w64_id, cast_succ])
  exact GR.of rfl
end Go.Proofs.Ytonfknfphdeenaa
