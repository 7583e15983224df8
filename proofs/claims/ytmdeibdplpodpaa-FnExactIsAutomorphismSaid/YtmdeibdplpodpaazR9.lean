/- Automorphisms of graphs: the reference. -/
import Derived.Test.YtmdeibdplpodpaaProg
import Derived.KernelRfl
import Derived.Test.YtmdeibdplpodpaazR8
set_option linter.unusedSimpArgs false
set_option linter.unusedVariables false
set_option maxHeartbeats 4000000
set_option maxRecDepth 100000
namespace Go.Proofs.Ytmdeibdplpodpaa
open Go.Av
abbrev f_spec_IsAutomorphism : Nat := 7
def c_spec_IsAutomorphism : SC :=
 .seq (.reg [
     ⟨(some 2), .box 30 (.tmp 0), none⟩,
     ⟨(some 4), .mv (.const (.bool false)), none⟩] [1, 2])
 (.seq (.reg [
     ⟨(some 5), .load 2 true (.tmp 2), none⟩,
     ⟨(some 6), .qcall 25 [(.tmp 5)], none⟩,
     ⟨(some 7), .mv (.tmp 6), none⟩,
     ⟨(some 8), .mv (.tmp 1), (some (7, true))⟩,
     ⟨(some 9), .faddr 0 (.tmp 2), (some (7, true))⟩,
     ⟨(some 10), .load 1 false (.tmp 9), (some (7, true))⟩,
     ⟨(some 11), .qlen (.tmp 10), (some (7, true))⟩,
     ⟨(some 12), .qcall 26 [(.tmp 8), (.tmp 11)], (some (7, true))⟩,
     ⟨(some 13), .pick (.tmp 7) (.tmp 12) (.const (.bool false)), none⟩,
     ⟨(some 14), .mv (.tmp 13), none⟩,
     ⟨(some 15), .load 2 true (.tmp 2), (some (14, true))⟩,
     ⟨(some 16), .mv (.tmp 1), (some (14, true))⟩,
     ⟨(some 17), .qcall 28 [(.tmp 15), (.tmp 16)], (some (14, true))⟩,
     ⟨(some 18), .load 2 true (.tmp 2), (some (14, true))⟩,
     ⟨(some 19), .qcall 27 [(.tmp 17), (.tmp 18)], (some (14, true))⟩,
     ⟨(some 20), .pick (.tmp 14) (.tmp 19) (.const (.bool false)), none⟩,
     ⟨(some 4), .mv (.tmp 20), none⟩] [4])
 (.ret))
theorem s_spec_IsAutomorphism : stripF Try.prog 7 [[1, 2], [4]] = some (c_spec_IsAutomorphism, [.tmp 4], 21) := by kernel_rfl
theorem edT_mem {n : Nat} {f : Nat → Nat → Bool} {e : Int × Int} : e ∈ edT n f n ↔ ∃ a b : Nat, a < b ∧ b < n ∧ f a b = true ∧ e = ((a : Int), (b : Int)) := by
  unfold edT edR
  rw [List.mem_flatMap]
  constructor
  · rintro ⟨a, ha, he⟩
    obtain ⟨b, hb, rfl⟩ := List.mem_map.1 he
    obtain ⟨hb1, hb2⟩ := List.mem_filter.1 hb
    rw [List.mem_range'_1] at hb1
    exact ⟨a, b, by omega, by omega, hb2, rfl⟩
  · rintro ⟨a, b, h1, h2, h3, rfl⟩
    refine ⟨a, List.mem_range.2 (by omega), List.mem_map.2 ⟨b, List.mem_filter.2 ⟨?_, h3⟩, rfl⟩⟩
    rw [List.mem_range'_1]; omega
theorem edT_asc (n : Nat) (f : Nat → Nat → Bool) : Asc cmpE (edT n f n) := by
  unfold Asc edT
  rw [List.pairwise_flatMap]
  refine ⟨fun a _ => ?_, ?_⟩
  · unfold edR
    rw [List.pairwise_map]
    exact ((List.pairwise_lt_range' (s := a + 1) (n := n - (a + 1))).filter _).imp (fun h => cmpE_lt2 (by omega))
  · refine List.pairwise_lt_range.imp ?_
    intro x y hxy a ha b hb
    obtain ⟨i, _, rfl⟩ := List.mem_map.1 ha
    obtain ⟨j, _, rfl⟩ := List.mem_map.1 hb
    exact cmpE_lt1 (by omega)
theorem edT_is {n : Nat} {l : List (Int × Int)} (h : ∀ e ∈ l, ∃ x y : Nat, e = ((x : Int), (y : Int)) ∧ x < n ∧ y < n ∧ x ≠ y) : edT n (adjF l) n = sortU cmpE (l.map ordE) := by
  refine asc_uniq cmpE_tot (edT_asc _ _) (sortU_asc cmpE_tot _) fun e => ?_
  rw [sortU_mem cmpE_tot, edT_mem, List.mem_map]
  constructor
  · rintro ⟨a, b, h1, h2, h3, rfl⟩
    unfold adjF at h3
    obtain ⟨e, he, h4⟩ := List.any_eq_true.1 h3
    refine ⟨e, he, ?_⟩
    rw [Bool.or_eq_true, Bool.and_eq_true, Bool.and_eq_true] at h4
    simp only [decide_eq_true_eq] at h4
    unfold ordE
    rw [Prod.mk.injEq]
    omega
  · rintro ⟨e, he, rfl⟩
    obtain ⟨x, y, rfl, hx, hy, hxy⟩ := h e he
    have hm : adjF l (min x y) (max x y) = true := by
      unfold adjF
      refine List.any_eq_true.2 ⟨_, he, ?_⟩
      rw [Bool.or_eq_true, Bool.and_eq_true, Bool.and_eq_true]
      simp only [decide_eq_true_eq]
      omega
    refine ⟨min x y, max x y, by omega, by omega, hm, ?_⟩
    unfold ordE
    rw [Prod.mk.injEq]
    simp only
    omega
theorem specAut_fn (cols : List Int) (es : List (Int × Int)) (p : List Int) (hl : p.length ≤ 2000000) : PFn Try.prog f_spec_IsAutomorphism [.agg [ilS cols, ilE es], ilS p] (Bv (autB cols es p)) := by
  have hv := l21Ok_fn cols es
  unfold autB
  cases hg : grB cols es
  · rw [hg] at hv
    intro H; refine ACalls.introB s_spec_IsAutomorphism (by simp) ?_; intro hB hA; unfold c_spec_IsAutomorphism; simp (config := { maxSteps := 1000000 }) (disch := (first | omega | (simp only [go_sem]; try omega))) only [go_sem, Nat.reduceAdd, Nat.reduceEqDiff, Nat.reduceLeDiff, Nat.reduceMul, Nat.reduceLT, reduceIte, Int.reduceToNat, w64_id, cast_succ]
    repeat (first | (with_reducible first | refine SW.seq ?_ | refine SW.block ?_ | refine SW.rowC ?_ | refine SW.skip ?_ | refine SW.exit ?_ | refine PFn.use (hv) ?_ | refine PFn.useq (hv) ?_ | intro _ | refine And.intro (by omega) ?_) | simp (config := { maxSteps := 1000000 }) (disch := (first | omega | (simp only [go_sem]; try omega))) only [go_sem, Nat.reduceAdd, Nat.reduceEqDiff, Nat.reduceLeDiff, Nat.reduceMul, Nat.reduceLT, reduceIte, Int.reduceToNat, w64_id, cast_succ])
    refine SW.ret ?_; (try simp only [go_sem]); (first | refine FunPost.one ?_ | refine FunPost.two ?_ | refine FunPost.three ?_); (try simp (config := { maxSteps := 1000000 }) (disch := (first | omega | (simp only [go_sem]; try omega))) only [go_sem, Nat.reduceAdd, Nat.reduceEqDiff, Nat.reduceLeDiff, Nat.reduceMul, Nat.reduceLT, reduceIte, Int.reduceToNat, w64_id, cast_succ]); (first | (with_reducible refine GR.drop ?_ ?_; (simp only [go_sem, and_self, and_true, true_and, implies_true, List.take_succ_cons, List.take_zero])) | refine GR.of ?_); refine ⟨?_, rfl⟩; (try with_reducible rfl)
  rw [hg] at hv
  have hgf : cols.length ≤ 64 ∧ es.length ≤ 512 ∧ ∀ e ∈ es, 0 ≤ e.1 ∧ e.1 < e.2 ∧ e.2 < cols.length := by
    unfold grB edsB colsB edB at hg
    simp only [Bool.and_eq_true, decide_eq_true_eq, List.all_eq_true] at hg
    exact ⟨hg.2.1.1, hg.2.2, fun e he => hg.1.1 e he⟩
  have ho := l21Perm_fn p cols.length hl (by omega)
  cases hp : ordB cols.length p
  · rw [hp] at ho
    intro H; refine ACalls.introB s_spec_IsAutomorphism (by simp) ?_; intro hB hA; unfold c_spec_IsAutomorphism; simp (config := { maxSteps := 1000000 }) (disch := (first | omega | (simp only [go_sem]; try omega))) only [go_sem, Nat.reduceAdd, Nat.reduceEqDiff, Nat.reduceLeDiff, Nat.reduceMul, Nat.reduceLT, reduceIte, Int.reduceToNat, w64_id, cast_succ]
    repeat (first | (with_reducible first | refine SW.seq ?_ | refine SW.block ?_ | refine SW.rowC ?_ | refine SW.skip ?_ | refine SW.exit ?_ | refine PFn.use (hv) ?_ | refine PFn.useq (hv) ?_ | refine PFn.use (ho) ?_ | refine PFn.useq (ho) ?_ | intro _ | refine And.intro (by omega) ?_) | simp (config := { maxSteps := 1000000 }) (disch := (first | omega | (simp only [go_sem]; try omega))) only [go_sem, Nat.reduceAdd, Nat.reduceEqDiff, Nat.reduceLeDiff, Nat.reduceMul, Nat.reduceLT, reduceIte, Int.reduceToNat, w64_id, cast_succ])
    refine SW.ret ?_; (try simp only [go_sem]); (first | refine FunPost.one ?_ | refine FunPost.two ?_ | refine FunPost.three ?_); (try simp (config := { maxSteps := 1000000 }) (disch := (first | omega | (simp only [go_sem]; try omega))) only [go_sem, Nat.reduceAdd, Nat.reduceEqDiff, Nat.reduceLeDiff, Nat.reduceMul, Nat.reduceLT, reduceIte, Int.reduceToNat, w64_id, cast_succ]); (first | (with_reducible refine GR.drop ?_ ?_; (simp only [go_sem, and_self, and_true, true_and, implies_true, List.take_succ_cons, List.take_zero])) | refine GR.of ?_); refine ⟨?_, rfl⟩; (try with_reducible rfl)
  rw [hp] at ho
  have hr := l21Relabel_fn cols p es hg hp
  have hs := l21Same_fn (relC cols p cols.length) cols (edT cols.length (adjF (es.map (relE p))) cols.length) es
  have he : edT cols.length (adjF (es.map (relE p))) cols.length = sortU cmpE (es.map fun e => ordE (relE p e)) := by
    rw [show (es.map fun e => ordE (relE p e)) = (es.map (relE p)).map ordE by rw [List.map_map]; rfl]
    refine edT_is fun e hem => ?_
    obtain ⟨e, hem2, rfl⟩ := List.mem_map.1 hem
    have hx := hgf.2.2 e hem2
    obtain ⟨xa, xb⟩ := e
    simp only at hx
    obtain ⟨xa, rfl⟩ := Int.eq_ofNat_of_zero_le hx.1
    obtain ⟨xb, rfl⟩ := Int.eq_ofNat_of_zero_le (show 0 ≤ xb by omega)
    unfold ordB at hp
    rw [decide_eq_true_eq] at hp
    obtain ⟨hpl, hpr, hpn⟩ := hp
    have hcn : ∀ v, v < cols.length → ∃ k : Nat, p.getD v 0 = k ∧ k < cols.length := fun v hv => by
      have := hpr (p.getD v 0) (by rw [getD_get (by omega)]; exact List.getElem_mem _)
      obtain ⟨k, hk⟩ := Int.eq_ofNat_of_zero_le this.1
      exact ⟨k, hk, by omega⟩
    obtain ⟨x, y, h1, h2, h3, h4, h5⟩ := relE_nat hcn (a := xa) (b := xb) (by omega) (by omega)
    refine ⟨x, y, h1, h2, h3, fun e => ?_⟩
    have := perm_inj hpn (a := xa) (b := xb) (by omega) (by omega) (by rw [h4, h5, e])
    omega
  rw [he] at hs hr
  have hbe := fun b => Bel_ilE b es
  intro H; refine ACalls.introB s_spec_IsAutomorphism (by simp) ?_; intro hB hA; unfold c_spec_IsAutomorphism; simp (config := { maxSteps := 1000000 }) (disch := (first | omega | (simp only [go_sem]; try omega))) only [go_sem, Nat.reduceAdd, Nat.reduceEqDiff, Nat.reduceLeDiff, Nat.reduceMul, Nat.reduceLT, reduceIte, Int.reduceToNat, w64_id, cast_succ]
  repeat (first | (with_reducible first | refine SW.seq ?_ | refine SW.block ?_ | refine SW.rowC ?_ | refine SW.skip ?_ | refine SW.exit ?_ | refine PFn.use (hv) ?_ | refine PFn.useq (hv) ?_ | refine PFn.use (ho) ?_ | refine PFn.useq (ho) ?_ | refine PFn.use (hr) ?_ | refine PFn.useq (hr) ?_ | refine PFn.use (hs) ?_ | refine PFn.useq (hs) ?_ | intro _ | refine And.intro (by omega) ?_) | simp (config := { maxSteps := 1000000 }) (disch := (first | omega | (simp only [go_sem]; try omega))) only [go_sem, Nat.reduceAdd, Nat.reduceEqDiff, Nat.reduceLeDiff, Nat.reduceMul, Nat.reduceLT, reduceIte, Int.reduceToNat, w64_id, cast_succ])
  refine SW.ret ?_; (try simp only [go_sem]); (first | refine FunPost.one ?_ | refine FunPost.two ?_ | refine FunPost.three ?_); (try simp (config := { maxSteps := 1000000 }) (disch := (first | omega | (simp only [go_sem]; try omega))) only [go_sem, Nat.reduceAdd, Nat.reduceEqDiff, Nat.reduceLeDiff, Nat.reduceMul, Nat.reduceLT, reduceIte, Int.reduceToNat, w64_id, cast_succ]); (first | (with_reducible refine GR.drop ?_ ?_; (simp only [go_sem, and_self, and_true, true_and, implies_true, List.take_succ_cons, List.take_zero])) | refine GR.of ?_); refine ⟨?_, rfl⟩; (try with_reducible rfl)
end Go.Proofs.Ytmdeibdplpodpaa
