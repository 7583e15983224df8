/- Designs with other names for their points. -/
import Derived.Test.YtnlfokkljgbaaaaProg
import Derived.KernelRfl
import Derived.Test.YtnlfokkljgbaaaazFQ
import Derived.Test.YtnlfokkljgbaaaazDP
import Derived.Test.YtnlfokkljgbaaaazSR
import Derived.Test.YtnlfokkljgbaaaazSB
set_option linter.unusedSimpArgs false
set_option linter.unusedVariables false
set_option maxHeartbeats 4000000
set_option maxRecDepth 100000
namespace Go.Proofs.Ytnlfokkljgbaaaa
open Go.Av
abbrev f_spec_l10Image : Nat := 38
def c_spec_l10Image : SC :=
 .seq (.reg [
     ⟨(some 4), .alloc 26 [(.int .i64 0), (.slice none 0 0)], none⟩] [0, 1, 4])
 (.seq (.reg [
     ⟨(some 7), .bslice 29 1 0 [] [], none⟩,
     ⟨(some 5), .mv (.tmp 7), none⟩] [0, 1, 4, 5])
 (.seq (.seq (.reg [
     ⟨(some 6), .mv (.const (.int .i64 0)), none⟩] [0, 1, 4, 5, 6])
 (.block 0 (.loop [0, 1, 4, 5, 6]
   (.seq (.seq (.reg [
       ⟨(some 8), .mv (.tmp 6), none⟩,
       ⟨(some 9), .mv (.tmp 0), none⟩,
       ⟨(some 10), .nilc (.tmp 9), none⟩,
       ⟨(some 11), .faddr 1 (.tmp 10), none⟩,
       ⟨(some 12), .load 1 false (.tmp 11), none⟩,
       ⟨(some 13), .len (.tmp 12), none⟩,
       ⟨(some 14), .bin .lss (.tmp 8) (.tmp 13), none⟩] [0, 1, 4, 5, 6, 14])
   (.cond (.tmp 14)
    (.skip)
    (.exit 0)))
   (.seq (.block 1 (.reg [
        ⟨(some 17), .mv (.tmp 5), none⟩,
        ⟨(some 18), .mv (.tmp 1), none⟩,
        ⟨(some 19), .mv (.tmp 0), none⟩,
        ⟨(some 20), .nilc (.tmp 19), none⟩,
        ⟨(some 21), .faddr 1 (.tmp 20), none⟩,
        ⟨(some 22), .load 1 false (.tmp 21), none⟩,
        ⟨(some 23), .mv (.tmp 6), none⟩,
        ⟨(some 24), .iaddr 1 (.tmp 22) (.tmp 23), none⟩,
        ⟨(some 25), .load 1 false (.tmp 24), none⟩,
        ⟨(some 26), .call 63 [(.tmp 18), (.tmp 25)], none⟩,
        ⟨(some 27), .bslice 29 1 1 [(.slice none 0 0)] [(0, (.tmp 26))], none⟩,
        ⟨(some 28), .app 29 1 24 (.tmp 17) (.tmp 27), none⟩,
        ⟨(some 5), .mv (.tmp 28), none⟩] [0, 1, 4, 5, 6]))
   (.reg [
       ⟨(some 15), .mv (.tmp 6), none⟩,
       ⟨(some 16), .bin .add (.tmp 15) (.const (.int .i64 1)), none⟩,
       ⟨(some 6), .mv (.tmp 16), none⟩] [0, 1, 4, 5, 6]))))))
 (.seq (.reg [
     ⟨(some 29), .mv (.tmp 0), none⟩,
     ⟨(some 30), .nilc (.tmp 29), none⟩,
     ⟨(some 31), .faddr 0 (.tmp 30), none⟩,
     ⟨(some 32), .load 1 false (.tmp 31), none⟩,
     ⟨(some 33), .mv (.tmp 5), none⟩,
     ⟨(some 34), .qcall 61 [(.tmp 33)], none⟩,
     ⟨(some 35), .build [(.int .i64 0), (.slice none 0 0)] [(0, 1, (.tmp 32)), (1, 1, (.tmp 34))], none⟩,
     ⟨none, .store 2 (.tmp 4) (.tmp 35), none⟩] [4])
 (.ret))))
theorem s_spec_l10Image : stripF Try.prog 38 [[0, 1, 4], [0, 1, 4, 5], [0, 1, 4, 5, 6], [0, 1, 4, 5, 6], [0, 1, 4, 5, 6, 14], [0, 1, 4, 5, 6], [0, 1, 4, 5, 6], [4]] = some (c_spec_l10Image, [.cell 4 2], 36) := by kernel_rfl
abbrev f_spec_l04Image : Nat := 63
def c_spec_l04Image : SC :=
 .seq (.reg [
     ⟨(some 4), .mv (.const (.slice none 0 0)), none⟩] [0, 1])
 (.seq (.reg [
     ⟨(some 7), .bslice 2 1 0 [] [], none⟩,
     ⟨(some 5), .mv (.tmp 7), none⟩] [0, 1, 5])
 (.seq (.seq (.reg [
     ⟨(some 6), .mv (.const (.int .i64 0)), none⟩] [0, 1, 5, 6])
 (.block 0 (.loop [0, 1, 5, 6]
   (.seq (.seq (.reg [
       ⟨(some 8), .mv (.tmp 6), none⟩,
       ⟨(some 9), .mv (.tmp 1), none⟩,
       ⟨(some 10), .len (.tmp 9), none⟩,
       ⟨(some 11), .bin .lss (.tmp 8) (.tmp 10), none⟩] [0, 1, 5, 6, 11])
   (.cond (.tmp 11)
    (.skip)
    (.exit 0)))
   (.seq (.block 1 (.reg [
        ⟨(some 14), .mv (.tmp 5), none⟩,
        ⟨(some 15), .mv (.tmp 0), none⟩,
        ⟨(some 16), .mv (.tmp 1), none⟩,
        ⟨(some 17), .mv (.tmp 6), none⟩,
        ⟨(some 18), .iaddr 1 (.tmp 16) (.tmp 17), none⟩,
        ⟨(some 19), .load 1 false (.tmp 18), none⟩,
        ⟨(some 20), .iaddr 1 (.tmp 15) (.tmp 19), none⟩,
        ⟨(some 21), .load 1 false (.tmp 20), none⟩,
        ⟨(some 22), .call 74 [(.tmp 14), (.tmp 21)], none⟩,
        ⟨(some 5), .mv (.tmp 22), none⟩] [0, 1, 5, 6]))
   (.reg [
       ⟨(some 12), .mv (.tmp 6), none⟩,
       ⟨(some 13), .bin .add (.tmp 12) (.const (.int .i64 1)), none⟩,
       ⟨(some 6), .mv (.tmp 13), none⟩] [0, 1, 5, 6]))))))
 (.seq (.reg [
     ⟨(some 23), .mv (.tmp 5), none⟩,
     ⟨(some 4), .mv (.tmp 23), none⟩] [4])
 (.ret))))
theorem s_spec_l04Image : stripF Try.prog 63 [[0, 1], [0, 1, 5], [0, 1, 5, 6], [0, 1, 5, 6], [0, 1, 5, 6, 11], [0, 1, 5, 6], [0, 1, 5, 6], [4]] = some (c_spec_l04Image, [.tmp 4], 24) := by kernel_rfl
def imP (p b : List Int) : List Int := b.foldl (fun a y => putL (p.getD y.toNat 0) a) []
theorem imP_snoc (p b : List Int) (y : Int) : imP p (b ++ [y]) = putL (p.getD y.toNat 0) (imP p b) := by unfold imP; rw [List.foldl_append]; rfl
theorem imA_len (p : List Int) : ∀ b a : List Int, (b.foldl (fun a y => putL (p.getD y.toNat 0) a) a).length ≤ a.length + b.length
  | [], a => Nat.le_refl _
  | y :: b, a => by
    rw [List.foldl_cons]
    have h1 := imA_len p b (putL (p.getD y.toNat 0) a)
    have h2 := putL_len (p.getD y.toNat 0) a
    rw [List.length_cons]; omega
theorem imP_len (p b : List Int) : (imP p b).length ≤ b.length := by
  have := imA_len p b []
  unfold imP
  rw [List.length_nil, Nat.zero_add] at this
  exact this
theorem imA_mem (p : List Int) {n : Int} (hp : ∀ z ∈ p, 0 ≤ z ∧ z < n) : ∀ b a : List Int, (∀ y ∈ b, 0 ≤ y ∧ y < p.length) → (∀ z ∈ a, 0 ≤ z ∧ z < n) → ∀ z ∈ b.foldl (fun a y => putL (p.getD y.toNat 0) a) a, 0 ≤ z ∧ z < n
  | [], a, _, ha => ha
  | y :: b, a, hb, ha => by
    rw [List.foldl_cons]
    refine imA_mem p hp b _ (fun y hy => hb y (List.mem_cons_of_mem _ hy)) fun z hz => ?_
    rcases (putL_mem _ _ _).1 hz with h | rfl
    · exact ha z h
    · have hy := hb y List.mem_cons_self
      refine hp _ ?_
      rw [getD_getC (show y.toNat < p.length by omega)]
      exact List.getElem_mem _
theorem imP_mem (p : List Int) {n : Int} (hp : ∀ z ∈ p, 0 ≤ z ∧ z < n) (b : List Int) (hb : ∀ y ∈ b, 0 ≤ y ∧ y < p.length) : ∀ z ∈ imP p b, 0 ≤ z ∧ z < n := imA_mem p hp b [] hb (by simp)
theorem l04ImageP_fn (p b : List Int) (hl : b.length ≤ 64) (hpl : p.length ≤ 64) (hb : ∀ y ∈ b, 0 ≤ y ∧ y < p.length) : PFn Try.prog f_spec_l04Image [ilS p, ilS b] (ilS (imP p b)) := by
  intro H; refine ACalls.introB s_spec_l04Image (by simp) ?_; intro hB hA; unfold c_spec_l04Image; simp (config := { maxSteps := 1000000 }) (disch := (first | omega | (simp only [go_sem]; try omega))) only [go_sem, Nat.reduceAdd, Nat.reduceEqDiff, Nat.reduceLeDiff, Nat.reduceMul, Nat.reduceLT, reduceIte, Int.reduceToNat, w64_id, cast_succ]
  repeat (first | (with_reducible first | refine SW.seq ?_ | refine SW.block ?_ | refine SW.rowC ?_ | refine SW.skip ?_ | refine SW.exit ?_ | intro _ | refine And.intro (by omega) ?_) | simp (config := { maxSteps := 1000000 }) (disch := (first | omega | (simp only [go_sem]; try omega))) only [go_sem, Nat.reduceAdd, Nat.reduceEqDiff, Nat.reduceLeDiff, Nat.reduceMul, Nat.reduceLT, reduceIte, Int.reduceToNat, w64_id, cast_succ])
  refine SW.froz (E' := [(0, ilS p), (1, ilS b), (5, ilS []), (6, I 0)]) hB (by simp) (.cons _ (ren_ilS _) (.cons _ (ren_ilS _) (.cons _ ?_ (.cons _ (ren_I _) .nil)))) ?_
  · have := ren_rowI (H := H ++ [(⟨0, 2, 1, [].map I⟩ : Blk)]) (k := H.length) (js := []) (r := H.length) (ver := 0) (ty := 2) (xs := []) (by simp) (by simp) (by simp)
    exact this
  refine SW.loopE (fun E0 H0 q E' H' => ∃ (pre post : List Int), b = pre ++ post ∧ q = post.length ∧ E' = aput (aput E0 6 (I pre.length)) 5 (ilS (imP p pre)) ∧ H' = H0) b.length ⟨[], b, rfl, rfl, rfl, rfl⟩ ?_
  rintro q E' H' ⟨pre, post, hpp, rfl, rfl, rfl⟩
  have hpl : pre.length ≤ 64 := by rw [hpp] at hl; simp at hl; omega
  have hil := imP_len p pre
  simp (config := { maxSteps := 1000000 }) (disch := (first | omega | (simp only [go_sem]; try omega))) only [go_sem, Nat.reduceAdd, Nat.reduceEqDiff, Nat.reduceLeDiff, Nat.reduceMul, Nat.reduceLT, reduceIte, Int.reduceToNat, w64_id, cast_succ]
  repeat (first | (with_reducible first | refine SW.seq ?_ | refine SW.block ?_ | refine SW.rowC ?_ | refine SW.skip ?_ | refine SW.exit ?_ | intro _ | refine And.intro (by omega) ?_) | simp (config := { maxSteps := 1000000 }) (disch := (first | omega | (simp only [go_sem]; try omega))) only [go_sem, Nat.reduceAdd, Nat.reduceEqDiff, Nat.reduceLeDiff, Nat.reduceMul, Nat.reduceLT, reduceIte, Int.reduceToNat, w64_id, cast_succ])
  (first | refine SW.condD rfl (fun h => ?_) (fun h => ?_) | refine SW.condN rfl (fun h => ?_) (fun h => ?_) | refine SW.condNB rfl (fun h => ?_) (fun h => ?_) | refine SW.condB rfl (fun h => ?_) (fun h => ?_))
  · obtain ⟨y, post, rfl, hg, -⟩ := consOf (d := 0) hpp (by omega)
    have hy := hb y (by rw [hpp]; simp)
    have hsn := imP_snoc p pre y
    have hpt := (l00Put_new (imP p pre) (p.getD y.toNat 0) (by omega)).pfn
    repeat (first | (with_reducible first | refine SW.seq ?_ | refine SW.block ?_ | refine SW.rowC ?_ | refine SW.skip ?_ | refine SW.exit ?_ | refine PFn.use (hpt) ?_ | refine PFn.useq (hpt) ?_ | intro _ | refine And.intro (by omega) ?_) | simp (config := { maxSteps := 1000000 }) (disch := (first | omega | (simp only [go_sem]; try omega))) only [go_sem, Nat.reduceAdd, Nat.reduceEqDiff, Nat.reduceLeDiff, Nat.reduceMul, Nat.reduceLT, reduceIte, Int.reduceToNat, w64_id, cast_succ, hg])
    refine SLoop.next post.length (by simp) ⟨pre ++ [y], post, by simp [hpp], rfl, ?_, rfl⟩
    rw [hsn]; simp [go_sem]
  · obtain ⟨rfl, rfl⟩ := nilOf hpp (by omega)
    repeat (first | (with_reducible first | refine SW.seq ?_ | refine SW.block ?_ | refine SW.rowC ?_ | refine SW.skip ?_ | refine SW.exit ?_ | intro _ | refine And.intro (by omega) ?_) | simp (config := { maxSteps := 1000000 }) (disch := (first | omega | (simp only [go_sem]; try omega))) only [go_sem, Nat.reduceAdd, Nat.reduceEqDiff, Nat.reduceLeDiff, Nat.reduceMul, Nat.reduceLT, reduceIte, Int.reduceToNat, w64_id, cast_succ])
    refine SW.ret ?_; (try simp only [go_sem]); (first | refine FunPost.one ?_ | refine FunPost.two ?_ | refine FunPost.three ?_); (try simp (config := { maxSteps := 1000000 }) (disch := (first | omega | (simp only [go_sem]; try omega))) only [go_sem, Nat.reduceAdd, Nat.reduceEqDiff, Nat.reduceLeDiff, Nat.reduceMul, Nat.reduceLT, reduceIte, Int.reduceToNat, w64_id, cast_succ]); (first | (with_reducible refine GR.drop ?_ ?_; (simp only [go_sem, and_self, and_true, true_and, implies_true, List.take_succ_cons, List.take_zero])) | refine GR.of ?_); refine ⟨?_, rfl⟩; (try with_reducible rfl)
theorem l10ImageP_ok (H : List Blk) (t : Nat) (v : Int) (bs : List (List Int)) (p : List Int) (hl : bs.length ≤ 64) (hpl : p.length ≤ 64) (hb : ∀ b ∈ bs, b.length ≤ 64 ∧ ∀ y ∈ b, 0 ≤ y ∧ y < p.length) (ht : H[t]? = some ⟨0, tyDz, 1, [I v, ilSS bs]⟩) :
    ACalls Try.prog f_spec_l10Image [.pc t 0 0, ilS p] H (fun r H' => r = .agg [I v, ilSS (sortD cmpL (bs.map (imP p)))] ∧ H' = H) := by
  have hpa := fun (ext : List Blk) (o : Nat) => pc_alive (off := o) (get_appB2 ht ext)
  have hpl := fun (ext : List Blk) (o : Nat) => pc_ld (off := o) (get_appB2 ht ext)
  have hso := fun H a ha => l10SortF_ok H a (bs.map (imP p)) ha (by rw [List.length_map]; omega) (fun x hx => by obtain ⟨b, hb2, rfl⟩ := List.mem_map.1 hx; have := imP_len p b; have := (hb b hb2).1; omega)
  refine ACalls.introB s_spec_l10Image (by simp) ?_; intro hB hA; unfold c_spec_l10Image; simp (config := { maxSteps := 1000000 }) (disch := (first | omega | (simp only [go_sem]; try omega))) only [go_sem, Nat.reduceAdd, Nat.reduceEqDiff, Nat.reduceLeDiff, Nat.reduceMul, Nat.reduceLT, reduceIte, Int.reduceToNat, w64_id, cast_succ]
  repeat (first | (with_reducible first | refine SW.seq ?_ | refine SW.block ?_ | refine SW.rowC ?_ | refine SW.skip ?_ | refine SW.exit ?_ | intro _ | refine And.intro (by omega) ?_) | simp (config := { maxSteps := 1000000 }) (disch := (first | omega | (simp only [go_sem]; try omega))) only [go_sem, Nat.reduceAdd, Nat.reduceEqDiff, Nat.reduceLeDiff, Nat.reduceMul, Nat.reduceLT, reduceIte, Int.reduceToNat, w64_id, cast_succ, hpa, hpl])
  have htl := (List.getElem?_eq_some_iff.1 ht).1
  refine SW.loopE (fun E0 H0 q E' H' => ∃ (pre post : List (List Int)) (ver : Nat), bs = pre ++ post ∧ q = post.length ∧ E' = aput (aput E0 6 (I pre.length)) 5 (.nm (H.length + 1) ver 0 (pre.map (imP p)).length) ∧ H' = H ++ [⟨0, tyDz, 1, [I 0, nilS]⟩, ⟨ver, tyLL, 1, (pre.map (imP p)).map ilS⟩]) bs.length ⟨[], bs, 0, rfl, rfl, rfl, rfl⟩ ?_
  rintro q E' H' ⟨pre, post, ver, hpp, rfl, rfl, rfl⟩
  have hpl2 : pre.length ≤ 128 := by rw [hpp] at hl; simp at hl; omega
  have hml : (pre.map (imP p)).length = pre.length := by simp
  have hms : ∀ y, (pre ++ [y]).map (imP p) = pre.map (imP p) ++ [imP p y] := fun y => by simp
  generalize hM : pre.map (imP p) = M at *
  simp (config := { maxSteps := 1000000 }) (disch := (first | omega | (simp only [go_sem]; try omega))) only [go_sem, Nat.reduceAdd, Nat.reduceEqDiff, Nat.reduceLeDiff, Nat.reduceMul, Nat.reduceLT, reduceIte, Int.reduceToNat, w64_id, cast_succ]
  repeat (first | (with_reducible first | refine SW.seq ?_ | refine SW.block ?_ | refine SW.rowC ?_ | refine SW.skip ?_ | refine SW.exit ?_ | intro _ | refine And.intro (by omega) ?_) | simp (config := { maxSteps := 1000000 }) (disch := (first | omega | (simp only [go_sem]; try omega))) only [go_sem, Nat.reduceAdd, Nat.reduceEqDiff, Nat.reduceLeDiff, Nat.reduceMul, Nat.reduceLT, reduceIte, Int.reduceToNat, w64_id, cast_succ, hpa, hpl])
  (first | refine SW.condD rfl (fun h2 => ?_) (fun h2 => ?_) | refine SW.condN rfl (fun h2 => ?_) (fun h2 => ?_) | refine SW.condNB rfl (fun h2 => ?_) (fun h2 => ?_) | refine SW.condB rfl (fun h2 => ?_) (fun h2 => ?_))
  · obtain ⟨y, post, rfl, hg, -⟩ := consOf (d := []) hpp (by omega)
    have hy := hb y (by rw [hpp]; simp)
    have htl2 : (M.map ilS).take M.length = M.map ilS := List.take_of_length_le (by simp)
    repeat (first | (with_reducible first | refine SW.seq ?_ | refine SW.block ?_ | refine SW.rowC ?_ | refine SW.skip ?_ | refine SW.exit ?_ | refine PFn.use (l04ImageP_fn p y hy.1 (by assumption) hy.2) ?_ | refine PFn.useq (l04ImageP_fn p y hy.1 (by assumption) hy.2) ?_ | intro _ | refine And.intro (by omega) ?_) | simp (config := { maxSteps := 1000000 }) (disch := (first | omega | (simp only [go_sem]; try omega))) only [go_sem, Nat.reduceAdd, Nat.reduceEqDiff, Nat.reduceLeDiff, Nat.reduceMul, Nat.reduceLT, reduceIte, Int.reduceToNat, w64_id, cast_succ, hpa, hpl, hg, htl2])
    refine SLoop.nextT 2 post.length hB (by omega) (by simp) (by simp) ?_ ?_ ⟨pre ++ [y], post, ver + 1, by simp [hpp], rfl, ?_, ?_⟩
    · (simp only [go_sem, Nat.reduceAdd, Nat.reduceEqDiff, reduceIte, go_sem, and_self, and_true, true_and, implies_true, List.take_succ_cons, List.take_zero, and_true, true_and]; try omega)
    · (simp only [go_sem, Nat.reduceAdd, Nat.reduceEqDiff, reduceIte, go_sem, and_self, and_true, true_and, implies_true, List.take_succ_cons, List.take_zero, and_true, true_and]; try omega)
    · simp [go_sem, hml]
    · rw [hms]; simp
  · obtain ⟨rfl, rfl⟩ := nilOf hpp (by omega)
    rw [hM] at hso
    repeat (first | (with_reducible first | refine SW.seq ?_ | refine SW.block ?_ | refine SW.rowC ?_ | refine SW.skip ?_ | refine SW.exit ?_ | intro _ | refine And.intro (by omega) ?_) | simp (config := { maxSteps := 1000000 }) (disch := (first | omega | (simp only [go_sem]; try omega))) only [go_sem, Nat.reduceAdd, Nat.reduceEqDiff, Nat.reduceLeDiff, Nat.reduceMul, Nat.reduceLT, reduceIte, Int.reduceToNat, w64_id, cast_succ, hpa, hpl])
    have hvw : aview (H ++ [⟨0, tyDz, 1, [I 0, nilS]⟩, ⟨ver, tyLL, 1, M.map ilS⟩]) (.nm (H.length + 1) ver 0 M.length) = some (M.length, M.map ilS) := view_nm (ty := tyLL) (by simp) (by simp)
    refine QcallW.of (fun ext => hso _ _ (aview_append hvw ext)) ?_
    repeat (first | (with_reducible first | refine SW.seq ?_ | refine SW.block ?_ | refine SW.rowC ?_ | refine SW.skip ?_ | refine SW.exit ?_ | intro _ | refine And.intro (by omega) ?_) | simp (config := { maxSteps := 1000000 }) (disch := (first | omega | (simp only [go_sem]; try omega))) only [go_sem, Nat.reduceAdd, Nat.reduceEqDiff, Nat.reduceLeDiff, Nat.reduceMul, Nat.reduceLT, reduceIte, Int.reduceToNat, w64_id, cast_succ, hpa, hpl])
    refine SW.ret ?_
    refine FunPost.cell (cs := [I v, ilSS (sortD cmpL M)]) (by simp (config := { maxSteps := 1000000 }) (disch := (first | omega | (simp only [go_sem]; try omega))) only [go_sem, Nat.reduceAdd, Nat.reduceEqDiff, Nat.reduceLeDiff, Nat.reduceMul, Nat.reduceLT, reduceIte, Int.reduceToNat, w64_id, cast_succ]) ?_
    refine GR.drop ?_ ?_
    · (simp only [go_sem, Nat.reduceAdd, Nat.reduceEqDiff, reduceIte, go_sem, and_self, and_true, true_and, implies_true, List.take_succ_cons, List.take_zero, and_true, true_and]; try omega)
    · exact ⟨by rw [hM], rfl⟩
end Go.Proofs.Ytnlfokkljgbaaaa
namespace Go.Proofs.Ytnlfokkljgbaaaa
open Go.Av
abbrev f_spec_l12Draw : Nat := 20
def c_spec_l12Draw : SC :=
 .seq (.reg [
     ⟨(some 2), .alloc 26 [(.int .i64 0), (.slice none 0 0)], none⟩] [0, 2])
 (.seq (.reg [
     ⟨(some 6), .mv (.tmp 0), none⟩,
     ⟨(some 7), .bslice 2 1 6 [(.int .i64 0), (.int .i64 0), (.int .i64 0), (.int .i64 0), (.int .i64 0), (.int .i64 0)] [(0, (.const (.int .i64 2))), (1, (.const (.int .i64 3))), (2, (.const (.int .i64 2))), (3, (.const (.int .i64 3))), (4, (.const (.int .i64 4))), (5, (.const (.int .i64 5)))], none⟩,
     ⟨(some 8), .call 35 [(.tmp 6), (.tmp 7)], none⟩,
     ⟨(some 3), .mv (.tmp 8), none⟩] [0, 2, 3])
 (.seq (.reg [
     ⟨(some 9), .mv (.tmp 3), none⟩,
     ⟨(some 10), .call 36 [(.tmp 9)], none⟩,
     ⟨(some 4), .alloc 26 [(.int .i64 0), (.slice none 0 0)], none⟩,
     ⟨none, .store 2 (.tmp 4) (.tmp 10), none⟩] [0, 2, 3, 4])
 (.seq (.seq (.reg [
     ⟨(some 11), .mv (.tmp 0), none⟩,
     ⟨(some 12), .call 21 [(.tmp 11), (.const (.int .i64 5))], none⟩] [0, 2, 3, 4, 12])
 (.block 0 (.seq (.reg [
      ⟨(some 14), .bin .eql (.tmp 12) (.const (.int .i64 0)), none⟩,
      ⟨(some 13), .mv (.tmp 14), none⟩] [0, 2, 3, 4, 12, 13])
  (.cond (.tmp 13)
   (.reg [
       ⟨(some 15), .mv (.tmp 3), none⟩,
       ⟨(some 16), .call 37 [(.tmp 15)], none⟩,
       ⟨none, .store 2 (.tmp 4) (.tmp 16), none⟩] [0, 2, 4])
   (.seq (.reg [
       ⟨(some 18), .bin .eql (.tmp 12) (.const (.int .i64 1)), none⟩,
       ⟨(some 17), .mv (.tmp 18), none⟩] [0, 2, 4, 17])
   (.cond (.tmp 17)
    (.seq (.reg [
        ⟨(some 19), .mv (.tmp 0), none⟩,
        ⟨(some 20), .call 22 [(.tmp 19)], none⟩,
        ⟨none, .store 2 (.tmp 2) (.tmp 20), none⟩] [2])
    (.ret))
    (.skip)))))))
 (.seq (.seq (.reg [
     ⟨(some 21), .mv (.tmp 0), none⟩,
     ⟨(some 22), .call 19 [(.tmp 21), (.const (.int .i64 2))], none⟩] [0, 2, 4, 22])
 (.cond (.tmp 22)
  (.reg [
      ⟨(some 23), .mv (.tmp 0), none⟩,
      ⟨(some 24), .faddr 0 (.tmp 4), none⟩,
      ⟨(some 25), .load 1 false (.tmp 24), none⟩,
      ⟨(some 26), .call 39 [(.tmp 23), (.tmp 25)], none⟩,
      ⟨(some 27), .call 38 [(.tmp 4), (.tmp 26)], none⟩,
      ⟨none, .store 2 (.tmp 4) (.tmp 27), none⟩] [0, 2, 4])
  (.skip)))
 (.seq (.seq (.reg [
     ⟨(some 28), .mv (.tmp 0), none⟩,
     ⟨(some 29), .call 19 [(.tmp 28), (.const (.int .i64 8))], none⟩] [0, 2, 4, 29])
 (.cond (.tmp 29)
  (.seq (.reg [
      ⟨(some 30), .mv (.tmp 0), none⟩,
      ⟨(some 31), .faddr 1 (.tmp 4), none⟩,
      ⟨(some 32), .load 1 false (.tmp 31), none⟩,
      ⟨(some 33), .len (.tmp 32), none⟩,
      ⟨(some 34), .call 21 [(.tmp 30), (.tmp 33)], none⟩,
      ⟨(some 5), .mv (.tmp 34), none⟩] [2, 4, 5])
  (.mix (.one ⟨(some 36), .faddr 1 (.tmp 4), none⟩
   (.one ⟨(some 37), .load 1 false (.tmp 36), none⟩
   (.one ⟨(some 38), .mv (.tmp 5), none⟩
   (.one ⟨(some 39), .slc 1 (.tmp 37) none (some (.tmp 38)), none⟩
   (.one ⟨(some 43), .mv (.tmp 5), none⟩
   (.one ⟨(some 44), .bin .add (.tmp 43) (.const (.int .i64 1)), none⟩
   (.both (.one ⟨(some 35), .bslice 29 1 0 [] [], none⟩
    (.both (.one ⟨(some 40), .app 29 1 24 (.tmp 35) (.tmp 39), none⟩
     (.one ⟨(some 41), .faddr 1 (.tmp 4), none⟩
     (.one ⟨(some 42), .load 1 false (.tmp 41), none⟩
     (.one ⟨(some 45), .slc 1 (.tmp 42) (some (.tmp 44)) none, none⟩
     (.one ⟨(some 46), .app 29 1 24 (.tmp 40) (.tmp 45), none⟩
     (.one ⟨(some 47), .faddr 1 (.tmp 4), none⟩
     (.one ⟨none, .store 1 (.tmp 47) (.tmp 46), none⟩
     (.done))))))))
    (.one ⟨(some 41), .faddr 1 (.tmp 4), none⟩
     (.both (.one ⟨(some 40), .app 29 1 24 (.tmp 35) (.tmp 39), none⟩
      (.one ⟨(some 42), .load 1 false (.tmp 41), none⟩
      (.one ⟨(some 45), .slc 1 (.tmp 42) (some (.tmp 44)) none, none⟩
      (.one ⟨(some 46), .app 29 1 24 (.tmp 40) (.tmp 45), none⟩
      (.one ⟨(some 47), .faddr 1 (.tmp 4), none⟩
      (.one ⟨none, .store 1 (.tmp 47) (.tmp 46), none⟩
      (.done)))))))
     (.one ⟨(some 42), .load 1 false (.tmp 41), none⟩
      (.both (.one ⟨(some 40), .app 29 1 24 (.tmp 35) (.tmp 39), none⟩
       (.one ⟨(some 45), .slc 1 (.tmp 42) (some (.tmp 44)) none, none⟩
       (.one ⟨(some 46), .app 29 1 24 (.tmp 40) (.tmp 45), none⟩
       (.one ⟨(some 47), .faddr 1 (.tmp 4), none⟩
       (.one ⟨none, .store 1 (.tmp 47) (.tmp 46), none⟩
       (.done))))))
      (.one ⟨(some 45), .slc 1 (.tmp 42) (some (.tmp 44)) none, none⟩
       (.one ⟨(some 40), .app 29 1 24 (.tmp 35) (.tmp 39), none⟩
       (.one ⟨(some 46), .app 29 1 24 (.tmp 40) (.tmp 45), none⟩
       (.one ⟨(some 47), .faddr 1 (.tmp 4), none⟩
       (.one ⟨none, .store 1 (.tmp 47) (.tmp 46), none⟩
       (.done))))))))))))
   (.one ⟨(some 41), .faddr 1 (.tmp 4), none⟩
    (.both (.one ⟨(some 35), .bslice 29 1 0 [] [], none⟩
     (.both (.one ⟨(some 40), .app 29 1 24 (.tmp 35) (.tmp 39), none⟩
      (.one ⟨(some 42), .load 1 false (.tmp 41), none⟩
      (.one ⟨(some 45), .slc 1 (.tmp 42) (some (.tmp 44)) none, none⟩
      (.one ⟨(some 46), .app 29 1 24 (.tmp 40) (.tmp 45), none⟩
      (.one ⟨(some 47), .faddr 1 (.tmp 4), none⟩
      (.one ⟨none, .store 1 (.tmp 47) (.tmp 46), none⟩
      (.done)))))))
     (.one ⟨(some 42), .load 1 false (.tmp 41), none⟩
      (.both (.one ⟨(some 40), .app 29 1 24 (.tmp 35) (.tmp 39), none⟩
       (.one ⟨(some 45), .slc 1 (.tmp 42) (some (.tmp 44)) none, none⟩
       (.one ⟨(some 46), .app 29 1 24 (.tmp 40) (.tmp 45), none⟩
       (.one ⟨(some 47), .faddr 1 (.tmp 4), none⟩
       (.one ⟨none, .store 1 (.tmp 47) (.tmp 46), none⟩
       (.done))))))
      (.one ⟨(some 45), .slc 1 (.tmp 42) (some (.tmp 44)) none, none⟩
       (.one ⟨(some 40), .app 29 1 24 (.tmp 35) (.tmp 39), none⟩
       (.one ⟨(some 46), .app 29 1 24 (.tmp 40) (.tmp 45), none⟩
       (.one ⟨(some 47), .faddr 1 (.tmp 4), none⟩
       (.one ⟨none, .store 1 (.tmp 47) (.tmp 46), none⟩
       (.done))))))))))
    (.one ⟨(some 42), .load 1 false (.tmp 41), none⟩
     (.both (.one ⟨(some 35), .bslice 29 1 0 [] [], none⟩
      (.both (.one ⟨(some 40), .app 29 1 24 (.tmp 35) (.tmp 39), none⟩
       (.one ⟨(some 45), .slc 1 (.tmp 42) (some (.tmp 44)) none, none⟩
       (.one ⟨(some 46), .app 29 1 24 (.tmp 40) (.tmp 45), none⟩
       (.one ⟨(some 47), .faddr 1 (.tmp 4), none⟩
       (.one ⟨none, .store 1 (.tmp 47) (.tmp 46), none⟩
       (.done))))))
      (.one ⟨(some 45), .slc 1 (.tmp 42) (some (.tmp 44)) none, none⟩
       (.one ⟨(some 40), .app 29 1 24 (.tmp 35) (.tmp 39), none⟩
       (.one ⟨(some 46), .app 29 1 24 (.tmp 40) (.tmp 45), none⟩
       (.one ⟨(some 47), .faddr 1 (.tmp 4), none⟩
       (.one ⟨none, .store 1 (.tmp 47) (.tmp 46), none⟩
       (.done))))))))
     (.one ⟨(some 45), .slc 1 (.tmp 42) (some (.tmp 44)) none, none⟩
      (.one ⟨(some 35), .bslice 29 1 0 [] [], none⟩
      (.one ⟨(some 40), .app 29 1 24 (.tmp 35) (.tmp 39), none⟩
      (.one ⟨(some 46), .app 29 1 24 (.tmp 40) (.tmp 45), none⟩
      (.one ⟨(some 47), .faddr 1 (.tmp 4), none⟩
      (.one ⟨none, .store 1 (.tmp 47) (.tmp 46), none⟩
      (.done)))))))))))))))))) [2, 4]))
  (.skip)))
 (.seq (.reg [
     ⟨(some 48), .load 2 true (.tmp 4), none⟩,
     ⟨none, .store 2 (.tmp 2) (.tmp 48), none⟩] [2])
 (.ret)))))))
theorem s_spec_l12Draw : stripF Try.prog 20 [[0, 2], [0, 2, 3], [0, 2, 3, 4], [0, 2, 3, 4, 12], [0, 2, 3, 4, 12, 13], [0, 2, 4], [0, 2, 4, 17], [2], [0, 2, 4, 22], [0, 2, 4], [0, 2, 4, 29], [2, 4, 5], [2, 4], [2]] = some (c_spec_l12Draw, [.cell 2 2], 49) := by kernel_rfl
def DrF (H : List Blk) (p : Nat) (code : AV) (t : Nat) (r : AV) (H' : List Blk) : Prop :=
  ∃ (v : Int) (xss : List (List Int)) (u' : Int) (t' : Nat), r = .agg [I v, ilSS xss] ∧ H' = H.set p (srcB code t' u') ∧ (0 ≤ v ∧ v ≤ 1000) ∧ smX xss ∧ t' ≤ t
structure PvS (H Y : List Blk) (p : Nat) (code : AV) (t : Nat) (u : Int) (v : Int) (bv : AV) : Prop where
  src : Y[p]? = some (srcB code t u)
  res : Y[H.length]? = some ⟨0, tyDz, 1, [I 0, nilS]⟩
  box : Y[H.length + 2]? = some ⟨0, tyDz, 1, [I v, bv]⟩
  fr : ∀ j, j < H.length → j ≠ p → Y[j]? = H[j]?
section
variable {H Y : List Blk} {p t t' : Nat} {code bv : AV} {u u' v : Int}
theorem PvS.src' (h : PvS H Y p code t u v bv) (hp : p < H.length) : PvS H (Y.set p (srcB code t' u')) p code t' u' v bv := by
  have hpl := (List.getElem?_eq_some_iff.1 h.src).1
  have g : ∀ j, j ≠ p → (Y.set p (srcB code t' u'))[j]? = Y[j]? := fun j hj => List.getElem?_set_ne (Ne.symm hj)
  exact ⟨List.getElem?_set_self hpl, (g _ (by omega)).trans h.res, (g _ (by omega)).trans h.box, fun j hj hjp => (g j hjp).trans (h.fr j hj hjp)⟩
theorem PvS.grow (h : PvS H Y p code t u v bv) (ext : List Blk) : PvS H (Y ++ ext) p code t u v bv :=
  ⟨get_appU h.src ext, get_appU h.res ext, get_appU h.box ext, fun j hj hjp => by
    have := (List.getElem?_eq_some_iff.1 h.res).1
    rw [List.getElem?_append_left (by omega)]; exact h.fr j hj hjp⟩
theorem PvS.put {v2 : Int} {bv2 : AV} (h : PvS H Y p code t u v bv) (hp : p < H.length) : PvS H (Y.set (H.length + 2) ⟨0, tyDz, 1, [I v2, bv2]⟩) p code t u v2 bv2 := by
  have hbl := (List.getElem?_eq_some_iff.1 h.box).1
  have g : ∀ j, j ≠ H.length + 2 → (Y.set (H.length + 2) ⟨0, tyDz, 1, [I v2, bv2]⟩)[j]? = Y[j]? := fun j hj => List.getElem?_set_ne (Ne.symm hj)
  exact ⟨(g _ (by omega)).trans h.src, (g _ (by omega)).trans h.res, List.getElem?_set_self hbl, fun j hj hjp => (g j (by omega)).trans (h.fr j hj hjp)⟩
theorem PvS.fin {a : AV} {w : Int} {xss : List (List Int)} {tb : Nat} (h : PvS H Y p code t u v bv) (hB : HB (H.set p (srcB code t u))) (hp : p < H.length) (ha : Froz (Y.set H.length ⟨0, tyDz, 1, [I w, a]⟩) H.length a (ilSS xss)) (hw : 0 ≤ w ∧ w ≤ 1000) (hs : smX xss) (ht : t ≤ tb) :
    GR H (DrF H p code tb) (.agg [I w, a]) (Y.set H.length ⟨0, tyDz, 1, [I w, a]⟩) := by
  have hrl := (List.getElem?_eq_some_iff.1 h.res).1
  obtain ⟨ext, he⟩ := ext_ofD (H := H.set p (srcB code t u)) (H1 := Y.set H.length ⟨0, tyDz, 1, [I w, a]⟩) (by rw [List.length_set, List.length_set]; omega) (fun j hj => by
    rw [List.length_set] at hj
    rw [List.getElem?_set_ne (by omega)]
    by_cases hjp : j = p
    · subst hjp; rw [List.getElem?_set_self hp]; exact h.src
    · rw [List.getElem?_set_ne (Ne.symm hjp)]; exact h.fr j hj hjp)
  rw [he] at ha ⊢
  exact GR.frozH (H0 := H) (H1 := H.set p (srcB code t u)) (r' := .agg [I w, ilSS xss]) List.length_set hB (froz_agg2 (froz_I' _) ha) ⟨w, xss, u, t, rfl, rfl, hw, hs, ht⟩
end
theorem plX_sm {v : Int} {xss : List (List Int)} (h : PlX v xss) : smX xss :=
  ⟨by have := h.2.2.2.1; omega, fun x hx => ⟨by have := (h.2.2.2.2 x hx).1; omega, fun z hz => by have := (h.2.2.2.2 x hx).2 z hz; have := h.2.1; omega⟩⟩
theorem l12Draw_ok (H : List Blk) (p : Nat) (code : AV) (ns : List Int) (t : Nat) (u : Int) (hp : H[p]? = some (srcB code t u)) (hc : CodeOk code ns) (hcb : ∀ k, Bel k code) (ht : t ≤ 400000000) :
    ACalls Try.prog f_spec_l12Draw [.pc p 0 0] H (DrF H p code (t + 1000)) := by
  have hlt := (List.getElem?_eq_some_iff.1 hp).1
  have hlS : ∀ t u, (H.set p (srcB code t u)).length = H.length := fun t u => List.length_set
  have hset : ∀ t u t' u' (ext : List Blk), (H.set p (srcB code t u) ++ ext).set p (srcB code t' u') = H.set p (srcB code t' u') ++ ext := fun t u t' u' ext => by
    rw [List.set_append_left _ _ (by simpa using hlt), List.set_set]
  have hpp : ∀ t u ext, (H.set p (srcB code t u) ++ ext)[p]? = some (srcB code t u) := fun t u ext => (List.getElem?_append_left (by simpa using hlt)).trans (List.getElem?_set_self hlt)
  have hset0 : ∀ t' u' (ext : List Blk), (H ++ ext).set p (srcB code t' u') = H.set p (srcB code t' u') ++ ext := fun t' u' ext => List.set_append_left _ _ hlt
  refine ACalls.introB s_spec_l12Draw (by simp) ?_; intro hB hA; unfold c_spec_l12Draw; simp (config := { maxSteps := 1000000 }) (disch := (first | omega | (simp only [go_sem]; try omega))) only [go_sem, Nat.reduceAdd, Nat.reduceEqDiff, Nat.reduceLeDiff, Nat.reduceMul, Nat.reduceLT, reduceIte, Int.reduceToNat, w64_id, cast_succ]
  have hBG := fun t u => HB_set hB (p := p) hcb t u
  repeat (first | (with_reducible first | refine SW.seq ?_ | refine SW.block ?_ | refine SW.rowC ?_ | refine SW.skip ?_ | refine SW.exit ?_ | intro _ | refine And.intro (by omega) ?_) | simp (config := { maxSteps := 1000000 }) (disch := (first | omega | (simp only [go_sem]; try omega))) only [go_sem, Nat.reduceAdd, Nat.reduceEqDiff, Nat.reduceLeDiff, Nat.reduceMul, Nat.reduceLT, reduceIte, Int.reduceToNat, w64_id, cast_succ])
  have hlit : ∀ t u, aview (List.set (H ++ [(⟨0, tyDz, 1, [I 0, nilS]⟩ : Blk), ⟨0, 2, 1, [I 2, I 3, I 2, I 3, I 4, I 5]⟩]) p (srcB code t u)) (.nm (H.length + 1) 0 0 6) = some (([2, 3, 2, 3, 4, 5] : List Int).length, ([2, 3, 2, 3, 4, 5] : List Int).map I) := fun t u => view_nm (ver := 0) (ty := 2) (by rw [hset0, List.getElem?_append_right (by rw [hlS]; omega), hlS, show H.length + 1 - H.length = 1 by omega]; rfl) rfl
  refine (among_ok _ p code ns t u (.nm (H.length + 1) 0 0 6) [2, 3, 2, 3, 4, 5] (get_appU hp _) hc (by omega) hlit (by simp)).mono ?_
  rintro r H1 ⟨z, u1, t1, rfl, hz, ht1, rfl⟩
  rw [hset0]
  obtain ⟨q, rfl, hq2, hq5⟩ : ∃ q : Nat, z = (q : Int) ∧ 2 ≤ q ∧ q ≤ 5 := by
    simp at hz
    exact ⟨z.toNat, by omega, by omega, by omega⟩
  clear hlit hz
  repeat (first | (with_reducible first | refine SW.seq ?_ | refine SW.block ?_ | refine SW.rowC ?_ | refine SW.skip ?_ | refine SW.exit ?_ | intro _ | refine And.intro (by omega) ?_) | simp (config := { maxSteps := 1000000 }) (disch := (first | omega | (simp only [go_sem]; try omega))) only [go_sem, Nat.reduceAdd, Nat.reduceEqDiff, Nat.reduceLeDiff, Nat.reduceMul, Nat.reduceLT, reduceIte, Int.reduceToNat, w64_id, cast_succ])
  refine (l12Plane_ok _ q hq2 hq5).mono ?_
  rintro r H1 ⟨v, xss, rfl, hpx, rfl⟩
  repeat (first | (with_reducible first | refine SW.seq ?_ | refine SW.block ?_ | refine SW.rowC ?_ | refine SW.skip ?_ | refine SW.exit ?_ | intro _ | refine And.intro (by omega) ?_) | simp (config := { maxSteps := 1000000 }) (disch := (first | omega | (simp only [go_sem]; try omega))) only [go_sem, Nat.reduceAdd, Nat.reduceEqDiff, Nat.reduceLeDiff, Nat.reduceMul, Nat.reduceLT, reduceIte, Int.reduceToNat, w64_id, cast_succ])
  have hd0 : PvS H (H.set p (srcB code t1 u1) ++ [(⟨0, tyDz, 1, [I 0, nilS]⟩ : Blk), ⟨0, 2, 1, [I 2, I 3, I 2, I 3, I 4, I 5]⟩, ⟨0, tyDz, 1, [I 0, nilS]⟩]) p code t1 u1 0 nilS :=
    ⟨hpp _ _ _, by rw [List.getElem?_append_right (by rw [hlS]; omega), hlS, Nat.sub_self]; rfl, by rw [List.getElem?_append_right (by rw [hlS]; omega), hlS, Nat.add_sub_cancel_left]; rfl, fun j hj hjp => by rw [List.getElem?_append_left (by rw [hlS]; exact hj), List.getElem?_set_ne (Ne.symm hjp)]⟩
  have hws : ∀ a b : AV, astore (H.set p (srcB code t1 u1) ++ [(⟨0, tyDz, 1, [I 0, nilS]⟩ : Blk), ⟨0, 2, 1, [I 2, I 3, I 2, I 3, I 4, I 5]⟩, ⟨0, tyDz, 1, [I 0, nilS]⟩]) [a, b] (.pc (H.length + 2) 0 0) = some ((H.set p (srcB code t1 u1) ++ [(⟨0, tyDz, 1, [I 0, nilS]⟩ : Blk), ⟨0, 2, 1, [I 2, I 3, I 2, I 3, I 4, I 5]⟩, ⟨0, tyDz, 1, [I 0, nilS]⟩]).set (H.length + 2) ⟨0, tyDz, 1, [a, b]⟩) := fun a b => by rw [pc_st hd0.box (by simp)]; rfl
  have hd1 := hd0.put (v2 := v) (bv2 := ilSS xss) hlt
  generalize H.set p (srcB code t1 u1) ++ [(⟨0, tyDz, 1, [I 0, nilS]⟩ : Blk), ⟨0, 2, 1, [I 2, I 3, I 2, I 3, I 4, I 5]⟩, ⟨0, tyDz, 1, [I 0, nilS]⟩] = Y0 at *
  rw [hws]
  clear hws hd0
  generalize Y0.set (H.length + 2) ⟨0, tyDz, 1, [I v, ilSS xss]⟩ = Y1 at *
  repeat (first | (with_reducible first | refine SW.seq ?_ | refine SW.block ?_ | refine SW.rowC ?_ | refine SW.skip ?_ | refine SW.exit ?_ | intro _ | refine And.intro (by omega) ?_) | simp (config := { maxSteps := 1000000 }) (disch := (first | omega | (simp only [go_sem]; try omega))) only [go_sem, Nat.reduceAdd, Nat.reduceEqDiff, Nat.reduceLeDiff, Nat.reduceMul, Nat.reduceLT, reduceIte, Int.reduceToNat, w64_id, cast_succ])
  refine (pick_ok _ p code ns t1 u1 5 hd1.src hc (by omega)).mono ?_
  rintro r H1 ⟨x, u2, t2, rfl, x0, x1, ht2, rfl⟩
  have hd2 := hd1.src' (t' := t2) (u' := u2) hlt
  generalize Y1.set p (srcB code t2 u2) = Y at *
  simp (config := { maxSteps := 1000000 }) (disch := (first | omega | (simp only [go_sem]; try omega))) only [go_sem, Nat.reduceAdd, Nat.reduceEqDiff, Nat.reduceLeDiff, Nat.reduceMul, Nat.reduceLT, reduceIte, Int.reduceToNat, w64_id, cast_succ]
  refine SW.mono (Q := fun s E' Z => match s with | .nrm => aget E' 0 = .pc p 0 0 ∧ aget E' 2 = .pc H.length 0 0 ∧ aget E' 4 = .pc (H.length + 2) 0 0 ∧ ∃ (t3 : Nat) (u3 : Int) (v : Int) (xss : List (List Int)), PvS H Z p code t3 u3 v (ilSS xss) ∧ PlX v xss ∧ t3 ≤ t + 10 | s => FunPost [.cell 2 2] H (DrF H p code (t + 1000)) s E' Z) ?_ ?_
  rotate_left
  · by_cases hx0 : x = 0
    · have d0 : decide (x = 0) = true := decide_eq_true hx0
      repeat (first | (with_reducible first | refine SW.seq ?_ | refine SW.block ?_ | refine SW.rowC ?_ | refine SW.skip ?_ | refine SW.exit ?_ | intro _ | refine And.intro (by omega) ?_) | simp (config := { maxSteps := 1000000 }) (disch := (first | omega | (simp only [go_sem]; try omega))) only [go_sem, Nat.reduceAdd, Nat.reduceEqDiff, Nat.reduceLeDiff, Nat.reduceMul, Nat.reduceLT, reduceIte, Int.reduceToNat, w64_id, cast_succ, d0])
      refine SW.condT rfl ?_
      repeat (first | (with_reducible first | refine SW.seq ?_ | refine SW.block ?_ | refine SW.rowC ?_ | refine SW.skip ?_ | refine SW.exit ?_ | intro _ | refine And.intro (by omega) ?_) | simp (config := { maxSteps := 1000000 }) (disch := (first | omega | (simp only [go_sem]; try omega))) only [go_sem, Nat.reduceAdd, Nat.reduceEqDiff, Nat.reduceLeDiff, Nat.reduceMul, Nat.reduceLT, reduceIte, Int.reduceToNat, w64_id, cast_succ])
      refine (l12Space_ok _ q hq2 hq5).mono ?_
      rintro r Y ⟨v2, yss, rfl, hpy, rfl⟩
      have zw : astore Y [I v2, ilSS yss] (.pc (H.length + 2) 0 0) = some (Y.set (H.length + 2) ⟨0, tyDz, 1, [I v2, ilSS yss]⟩) := by rw [pc_st hd2.box (by simp)]; rfl
      have za := fun o => pc_alive (off := o) hd2.box
      repeat (first | (with_reducible first | refine SW.seq ?_ | refine SW.block ?_ | refine SW.rowC ?_ | refine SW.skip ?_ | refine SW.exit ?_ | intro _ | refine And.intro (by omega) ?_) | simp (config := { maxSteps := 1000000 }) (disch := (first | omega | (simp only [go_sem]; try omega))) only [go_sem, Nat.reduceAdd, Nat.reduceEqDiff, Nat.reduceLeDiff, Nat.reduceMul, Nat.reduceLT, reduceIte, Int.reduceToNat, w64_id, cast_succ, zw, za])
      exact ⟨_, _, _, _, hd2.put hlt, hpy, by omega⟩
    by_cases hx1 : x = 1
    · have d0 : decide (x = 0) = false := decide_eq_false hx0
      have d1 : decide (x = 1) = true := decide_eq_true hx1
      repeat (first | (with_reducible first | refine SW.seq ?_ | refine SW.block ?_ | refine SW.rowC ?_ | refine SW.skip ?_ | refine SW.exit ?_ | intro _ | refine And.intro (by omega) ?_) | simp (config := { maxSteps := 1000000 }) (disch := (first | omega | (simp only [go_sem]; try omega))) only [go_sem, Nat.reduceAdd, Nat.reduceEqDiff, Nat.reduceLeDiff, Nat.reduceMul, Nat.reduceLT, reduceIte, Int.reduceToNat, w64_id, cast_succ, d0])
      refine SW.condF rfl ?_
      repeat (first | (with_reducible first | refine SW.seq ?_ | refine SW.block ?_ | refine SW.rowC ?_ | refine SW.skip ?_ | refine SW.exit ?_ | intro _ | refine And.intro (by omega) ?_) | simp (config := { maxSteps := 1000000 }) (disch := (first | omega | (simp only [go_sem]; try omega))) only [go_sem, Nat.reduceAdd, Nat.reduceEqDiff, Nat.reduceLeDiff, Nat.reduceMul, Nat.reduceLT, reduceIte, Int.reduceToNat, w64_id, cast_succ, d1])
      refine SW.condT rfl ?_
      repeat (first | (with_reducible first | refine SW.seq ?_ | refine SW.block ?_ | refine SW.rowC ?_ | refine SW.skip ?_ | refine SW.exit ?_ | intro _ | refine And.intro (by omega) ?_) | simp (config := { maxSteps := 1000000 }) (disch := (first | omega | (simp only [go_sem]; try omega))) only [go_sem, Nat.reduceAdd, Nat.reduceEqDiff, Nat.reduceLeDiff, Nat.reduceMul, Nat.reduceLT, reduceIte, Int.reduceToNat, w64_id, cast_succ])
      refine (l10Bent_ok _ p code ns t2 u2 hd2.src hc hcb (by omega)).mono ?_
      rintro r Z ⟨w, yss, u3, t3, bv, ext, rfl, rfl, htb, hwb, hsm, ht3, hyl⟩
      have hYl := (List.getElem?_eq_some_iff.1 hd2.res).1
      have hd3 := (hd2.src' (t' := t3) (u' := u3) hlt).grow ext
      generalize Y.set p (srcB code t3 u3) ++ ext = Z at *
      have hone := htb.one
      have rw1 : ∀ a b : AV, astore Z [a, b] (.pc H.length 0 0) = some (List.set Z H.length ⟨0, tyDz, 1, [a, b]⟩) := fun a b => by rw [pc_st hd3.res (by simp)]; rfl
      have ra := fun o => pc_alive (off := o) hd3.res
      repeat (first | (with_reducible first | refine SW.seq ?_ | refine SW.block ?_ | refine SW.rowC ?_ | refine SW.skip ?_ | refine SW.exit ?_ | intro _ | refine And.intro (by omega) ?_) | simp (config := { maxSteps := 1000000 }) (disch := (first | omega | (simp only [go_sem]; try omega))) only [go_sem, Nat.reduceAdd, Nat.reduceEqDiff, Nat.reduceLeDiff, Nat.reduceMul, Nat.reduceLT, reduceIte, Int.reduceToNat, w64_id, cast_succ, rw1, ra, hone.1, hone.2])
      refine SW.ret ?_
      refine FunPost.cell (cs := [I w, bv]) ?_ ?_
      · show acells _ 2 (.pc H.length 0 0) = _
        rw [pc_lds (List.getElem?_set_self (List.getElem?_eq_some_iff.1 hd3.res).1) (by simp)]; rfl
      exact hd3.fin (hBG _ _) hlt (((htb.setD hd3.res rfl).froz (fun r hr => by omega))) hwb hsm (by omega)
    · have d0 : decide (x = 0) = false := decide_eq_false hx0
      have d1 : decide (x = 1) = false := decide_eq_false hx1
      repeat (first | (with_reducible first | refine SW.seq ?_ | refine SW.block ?_ | refine SW.rowC ?_ | refine SW.skip ?_ | refine SW.exit ?_ | intro _ | refine And.intro (by omega) ?_) | simp (config := { maxSteps := 1000000 }) (disch := (first | omega | (simp only [go_sem]; try omega))) only [go_sem, Nat.reduceAdd, Nat.reduceEqDiff, Nat.reduceLeDiff, Nat.reduceMul, Nat.reduceLT, reduceIte, Int.reduceToNat, w64_id, cast_succ, d0])
      refine SW.condF rfl ?_
      repeat (first | (with_reducible first | refine SW.seq ?_ | refine SW.block ?_ | refine SW.rowC ?_ | refine SW.skip ?_ | refine SW.exit ?_ | intro _ | refine And.intro (by omega) ?_) | simp (config := { maxSteps := 1000000 }) (disch := (first | omega | (simp only [go_sem]; try omega))) only [go_sem, Nat.reduceAdd, Nat.reduceEqDiff, Nat.reduceLeDiff, Nat.reduceMul, Nat.reduceLT, reduceIte, Int.reduceToNat, w64_id, cast_succ, d1])
      refine SW.condF rfl ?_
      repeat (first | (with_reducible first | refine SW.seq ?_ | refine SW.block ?_ | refine SW.rowC ?_ | refine SW.skip ?_ | refine SW.exit ?_ | intro _ | refine And.intro (by omega) ?_) | simp (config := { maxSteps := 1000000 }) (disch := (first | omega | (simp only [go_sem]; try omega))) only [go_sem, Nat.reduceAdd, Nat.reduceEqDiff, Nat.reduceLeDiff, Nat.reduceMul, Nat.reduceLT, reduceIte, Int.reduceToNat, w64_id, cast_succ])
      exact ⟨_, _, _, _, hd2, hpx, by omega⟩
  · intro s E' Z h
    cases s with
    | nrm =>
      obtain ⟨e0, e2, e4, t3, u3, v, xss, hd3, hpx, ht3⟩ := h
      show Av.SW _ _ _ _ _ _ _
      repeat (first | (with_reducible first | refine SW.seq ?_ | refine SW.block ?_ | refine SW.rowC ?_ | refine SW.skip ?_ | refine SW.exit ?_ | intro _ | refine And.intro (by omega) ?_) | simp (config := { maxSteps := 1000000 }) (disch := (first | omega | (simp only [go_sem]; try omega))) only [go_sem, Nat.reduceAdd, Nat.reduceEqDiff, Nat.reduceLeDiff, Nat.reduceMul, Nat.reduceLT, reduceIte, Int.reduceToNat, w64_id, cast_succ, e0, e2, e4])
      refine (one_ok _ p code ns t3 u3 2 hd3.src hc (by omega)).mono ?_
      rintro r _ ⟨b1, u4, t4, rfl, ht4, rfl⟩
      have hd4 := hd3.src' (t' := t4) (u' := u4) hlt
      generalize Z.set p (srcB code t4 u4) = Z4 at *
      simp (config := { maxSteps := 1000000 }) (disch := (first | omega | (simp only [go_sem]; try omega))) only [go_sem, Nat.reduceAdd, Nat.reduceEqDiff, Nat.reduceLeDiff, Nat.reduceMul, Nat.reduceLT, reduceIte, Int.reduceToNat, w64_id, cast_succ, e0, e2, e4]
      refine SW.mono (Q := fun s E' Z => match s with | .nrm => aget E' 0 = .pc p 0 0 ∧ aget E' 2 = .pc H.length 0 0 ∧ aget E' 4 = .pc (H.length + 2) 0 0 ∧ ∃ (t3 : Nat) (u3 : Int) (v : Int) (xss : List (List Int)), PvS H Z p code t3 u3 v (ilSS xss) ∧ PlX v xss ∧ t3 ≤ t + 100 | s => FunPost [.cell 2 2] H (DrF H p code (t + 1000)) s E' Z) ?_ ?_
      rotate_left
      · cases b1 with
        | true =>
          refine SW.condT rfl ?_
          have xa := fun o => pc_alive (off := o) hd4.box
          have xl := fun o => pc_ld (off := o) hd4.box
          obtain ⟨n, rfl⟩ := Int.eq_ofNat_of_zero_le (show 0 ≤ v by have := hpx.1; omega)
          have hn := hpx.1
          have hn2 := hpx.2.1
          repeat (first | (with_reducible first | refine SW.seq ?_ | refine SW.block ?_ | refine SW.rowC ?_ | refine SW.skip ?_ | refine SW.exit ?_ | intro _ | refine And.intro (by omega) ?_) | simp (config := { maxSteps := 1000000 }) (disch := (first | omega | (simp only [go_sem]; try omega))) only [go_sem, Nat.reduceAdd, Nat.reduceEqDiff, Nat.reduceLeDiff, Nat.reduceMul, Nat.reduceLT, reduceIte, Int.reduceToNat, w64_id, cast_succ, xa, xl])
          refine (l04DrawPerm_ok _ p code ns t4 u4 n hd4.src hc hcb (by omega) (by omega) (by omega)).mono ?_
          rintro r _ ⟨P, u5, t5, rfl, hP, ht5, rfl⟩
          have hd5 := hd4.src' (t' := t5) (u' := u5) hlt
          generalize Z4.set p (srcB code t5 u5) = Z5 at *
          have xa5 := fun o => pc_alive (off := o) hd5.box
          have xl5 := fun o => pc_ld (off := o) hd5.box
          have zw : ∀ a b : AV, astore Z5 [a, b] (.pc (H.length + 2) 0 0) = some (Z5.set (H.length + 2) ⟨0, tyDz, 1, [a, b]⟩) := fun a b => by rw [pc_st hd5.box (by simp)]; rfl
          have hPl : P.length = n := hP.1
          have hxs : ∀ b ∈ xss, b.length ≤ 64 ∧ ∀ y ∈ b, 0 ≤ y ∧ y < P.length := fun b hb => by
            have h := hpx.2.2.2.2 b hb
            exact ⟨by omega, fun y hy => by have := h.2 y hy; omega⟩
          have him := l10ImageP_ok Z5 (H.length + 2) (n : Int) xss P (by have := hpx.2.2.2.1; omega) (by omega) hxs hd5.box
          repeat (first | (with_reducible first | refine SW.seq ?_ | refine SW.block ?_ | refine SW.rowC ?_ | refine SW.skip ?_ | refine SW.exit ?_ | intro _ | refine And.intro (by omega) ?_) | simp (config := { maxSteps := 1000000 }) (disch := (first | omega | (simp only [go_sem]; try omega))) only [go_sem, Nat.reduceAdd, Nat.reduceEqDiff, Nat.reduceLeDiff, Nat.reduceMul, Nat.reduceLT, reduceIte, Int.reduceToNat, w64_id, cast_succ, xa5, xl5])
          refine ACalls.fn him ?_
          have hsp := (sortD_fact cmpL_tot (xss.map (imP P))).1
          have hsl : (sortD cmpL (xss.map (imP P))).length = xss.length := hsp.length_eq.trans (by simp)
          have hpy : PlX (n : Int) (sortD cmpL (xss.map (imP P))) := ⟨by omega, by omega, by rw [hsl]; exact hpx.2.2.1, by rw [hsl]; exact hpx.2.2.2.1, fun x hx => by
            obtain ⟨b, hb, rfl⟩ := List.mem_map.1 (hsp.mem_iff.1 hx)
            have h1 := imP_len P b
            have h2 := (hpx.2.2.2.2 b hb).1
            exact ⟨by omega, imP_mem P hP.2.2 b (hxs b hb).2⟩⟩
          generalize sortD cmpL (xss.map (imP P)) = S at *
          repeat (first | (with_reducible first | refine SW.seq ?_ | refine SW.block ?_ | refine SW.rowC ?_ | refine SW.skip ?_ | refine SW.exit ?_ | intro _ | refine And.intro (by omega) ?_) | simp (config := { maxSteps := 1000000 }) (disch := (first | omega | (simp only [go_sem]; try omega))) only [go_sem, Nat.reduceAdd, Nat.reduceEqDiff, Nat.reduceLeDiff, Nat.reduceMul, Nat.reduceLT, reduceIte, Int.reduceToNat, w64_id, cast_succ, zw, xa5])
          exact ⟨_, _, _, _, hd5.put hlt, hpy, by omega⟩
        | false =>
          refine SW.condF rfl ?_
          repeat (first | (with_reducible first | refine SW.seq ?_ | refine SW.block ?_ | refine SW.rowC ?_ | refine SW.skip ?_ | refine SW.exit ?_ | intro _ | refine And.intro (by omega) ?_) | simp (config := { maxSteps := 1000000 }) (disch := (first | omega | (simp only [go_sem]; try omega))) only [go_sem, Nat.reduceAdd, Nat.reduceEqDiff, Nat.reduceLeDiff, Nat.reduceMul, Nat.reduceLT, reduceIte, Int.reduceToNat, w64_id, cast_succ])
          exact ⟨_, _, _, _, hd4, hpx, by omega⟩
      · intro s E' Z h
        cases s with
        | nrm =>
          clear hd4 hd3 hpx
          obtain ⟨e0, e2, e4, t3, u3, v, xss, hd3, hpx, ht3⟩ := h
          show Av.SW _ _ _ _ _ _ _
          repeat (first | (with_reducible first | refine SW.seq ?_ | refine SW.block ?_ | refine SW.rowC ?_ | refine SW.skip ?_ | refine SW.exit ?_ | intro _ | refine And.intro (by omega) ?_) | simp (config := { maxSteps := 1000000 }) (disch := (first | omega | (simp only [go_sem]; try omega))) only [go_sem, Nat.reduceAdd, Nat.reduceEqDiff, Nat.reduceLeDiff, Nat.reduceMul, Nat.reduceLT, reduceIte, Int.reduceToNat, w64_id, cast_succ, e0, e2, e4])
          refine (one_ok _ p code ns t3 u3 8 hd3.src hc (by omega)).mono ?_
          rintro r _ ⟨b2, u4, t4, rfl, ht4, rfl⟩
          have hd4 := hd3.src' (t' := t4) (u' := u4) hlt
          generalize Z.set p (srcB code t4 u4) = Z4 at *
          have xa := fun o => pc_alive (off := o) hd4.box
          have xl := fun o => pc_ld (off := o) hd4.box
          cases b2 with
          | true =>
            simp (config := { maxSteps := 1000000 }) (disch := (first | omega | (simp only [go_sem]; try omega))) only [go_sem, Nat.reduceAdd, Nat.reduceEqDiff, Nat.reduceLeDiff, Nat.reduceMul, Nat.reduceLT, reduceIte, Int.reduceToNat, w64_id, cast_succ, e0, e2, e4]
            refine SW.condT rfl ?_
            repeat (first | (with_reducible first | refine SW.seq ?_ | refine SW.block ?_ | refine SW.rowC ?_ | refine SW.skip ?_ | refine SW.exit ?_ | intro _ | refine And.intro (by omega) ?_) | simp (config := { maxSteps := 1000000 }) (disch := (first | omega | (simp only [go_sem]; try omega))) only [go_sem, Nat.reduceAdd, Nat.reduceEqDiff, Nat.reduceLeDiff, Nat.reduceMul, Nat.reduceLT, reduceIte, Int.reduceToNat, w64_id, cast_succ, xa, xl])
            refine (pick_ok _ p code ns t4 u4 xss.length hd4.src hc (by omega)).mono ?_
            rintro r _ ⟨y, u5, t5, rfl, y0, y1, ht5, rfl⟩
            have hd5 := hd4.src' (t' := t5) (u' := u5) hlt
            generalize Z4.set p (srcB code t5 u5) = Z5 at *
            obtain ⟨y, rfl⟩ := Int.eq_ofNat_of_zero_le y0
            have hx1 := hpx.2.2.1
            have hyl : y < xss.length := by omega
            have xa5 := fun o => pc_alive (off := o) hd5.box
            have xl5 := fun o => pc_ld (off := o) hd5.box
            have xa5e := fun o e => pc_alive (off := o) (get_appU hd5.box e)
            have xl5e := fun o e => pc_ld (off := o) (get_appU hd5.box e)
            have e1 : (y : Int) + 1 = ((y + 1 : Nat) : Int) := by omega
            simp (config := { maxSteps := 1000000 }) (disch := (first | omega | (simp only [go_sem]; try omega))) only [go_sem, Nat.reduceAdd, Nat.reduceEqDiff, Nat.reduceLeDiff, Nat.reduceMul, Nat.reduceLT, reduceIte, Int.reduceToNat, w64_id, cast_succ]
            refine SW.mixR (fun E' Z => aget E' 2 = .pc H.length 0 0 ∧ aget E' 4 = .pc (H.length + 2) 0 0 ∧ ∃ (a : AV) (yss : List (List Int)), PvS H Z p code t5 u5 v a ∧ TabF Z (fun r => H.length + 3 ≤ r) a yss ∧ smX yss) ?_ ?_
            · have htk : (xss.take y).length = y := by rw [List.length_take]; omega
              have hdk : (xss.drop (y + 1)).take (xss.length - (y + 1)) = xss.drop (y + 1) := List.take_of_length_le (by rw [List.length_drop]; omega)
              have hdl : (xss.drop (y + 1)).length = xss.length - (y + 1) := List.length_drop
              have hx31 := hpx.2.2.2.1
              have zw : ∀ (b : Blk) (a : AV), astore (Z5 ++ [b]) [a] (.pc (H.length + 2) 0 1) = some ((Z5 ++ [b]).set (H.length + 2) ⟨0, tyDz, 1, [I v, a]⟩) := fun b a => by rw [pc_st (get_appU hd5.box [b]) (by simp)]; rfl
              have hcl : (xss.take y ++ xss.drop (y + 1)).length = y + (xss.length - (y + 1)) := by rw [List.length_append, htk, hdl]
              have hcs : List.take y (List.map ilS (List.take y xss)) ++ List.map ilS (List.drop (y + 1) xss) = (xss.take y ++ xss.drop (y + 1)).map ilS := by rw [List.map_append, List.take_of_length_le (by simp; omega)]
              have hZr := (List.getElem?_eq_some_iff.1 hd5.box).1
              have hsm : smX (xss.take y ++ xss.drop (y + 1)) := ⟨by omega, fun x hx => by
                have hm : x ∈ xss := by
                  rcases List.mem_append.1 hx with h | h
                  · exact List.mem_of_mem_take h
                  · exact List.mem_of_mem_drop h
                exact (plX_sm hpx).2 x hm⟩
              have fin : ∃ (a : AV) (yss : List (List Int)), PvS H ((Z5 ++ [(⟨2, tyLL, 1, (xss.take y ++ xss.drop (y + 1)).map ilS⟩ : Blk)]).set (H.length + 2) ⟨0, tyDz, 1, [I v, .nm Z5.length 2 0 (y + (xss.length - (y + 1)))]⟩) p code t5 u5 v a ∧ TabF ((Z5 ++ [(⟨2, tyLL, 1, (xss.take y ++ xss.drop (y + 1)).map ilS⟩ : Blk)]).set (H.length + 2) ⟨0, tyDz, 1, [I v, .nm Z5.length 2 0 (y + (xss.length - (y + 1)))]⟩) (fun r => H.length + 3 ≤ r) a yss ∧ smX yss := by
                refine ⟨_, _, (hd5.grow _).put hlt, ?_, hsm⟩
                rw [← hcl]
                refine tabF_lit ?_ (by omega)
                rw [List.getElem?_set_ne (by omega), List.getElem?_append_right (Nat.le_refl _), Nat.sub_self]; rfl
              simp (config := { maxSteps := 1000000 }) (disch := (first | omega | (simp only [go_sem]; try omega))) only [go_sem, Nat.reduceAdd, Nat.reduceEqDiff, Nat.reduceLeDiff, Nat.reduceMul, Nat.reduceLT, reduceIte, Int.reduceToNat, w64_id, cast_succ, xa5, xl5, xa5e, xl5e, e1, htk, hdk, hdl, Option.map_some, Option.map_none, slcLS, List.drop_zero, Int.toNat_natCast, Nat.sub_zero, Int.toNat_zero]
              repeat' (with_reducible refine And.intro ?_ ?_)
              all_goals
                rw [hcs]
                simp (config := { maxSteps := 1000000 }) (disch := (first | omega | (simp only [go_sem]; try omega))) only [go_sem, Nat.reduceAdd, Nat.reduceEqDiff, Nat.reduceLeDiff, Nat.reduceMul, Nat.reduceLT, reduceIte, Int.reduceToNat, w64_id, cast_succ, zw]
                exact fin
            · rintro E' Z6 ⟨e2, e4, a, yss, hd6, hty, hsy⟩
              show Av.SW _ _ _ _ _ _ _
              have hone := hty.one
              have xls : acells Z6 2 (.pc (H.length + 2) 0 0) = some [I v, a] := pc_lds hd6.box (by simp)
              have rw1 : ∀ a b : AV, astore Z6 [a, b] (.pc H.length 0 0) = some (List.set Z6 H.length ⟨0, tyDz, 1, [a, b]⟩) := fun a b => by rw [pc_st hd6.res (by simp)]; rfl
              have ra := fun o => pc_alive (off := o) hd6.res
              have xa6 := fun o => pc_alive (off := o) hd6.box
              simp (config := { maxSteps := 1000000 }) (disch := (first | omega | (simp only [go_sem]; try omega))) only [go_sem, Nat.reduceAdd, Nat.reduceEqDiff, Nat.reduceLeDiff, Nat.reduceMul, Nat.reduceLT, reduceIte, Int.reduceToNat, w64_id, cast_succ, e2, e4]
              repeat (first | (with_reducible first | refine SW.seq ?_ | refine SW.block ?_ | refine SW.rowC ?_ | refine SW.skip ?_ | refine SW.exit ?_ | intro _ | refine And.intro (by omega) ?_) | simp (config := { maxSteps := 1000000 }) (disch := (first | omega | (simp only [go_sem]; try omega))) only [go_sem, Nat.reduceAdd, Nat.reduceEqDiff, Nat.reduceLeDiff, Nat.reduceMul, Nat.reduceLT, reduceIte, Int.reduceToNat, w64_id, cast_succ, xls, rw1, ra, xa6, hone.1, hone.2])
              refine SW.ret ?_
              refine FunPost.cell (cs := [I v, a]) ?_ ?_
              · show acells _ 2 (.pc H.length 0 0) = _
                rw [pc_lds (List.getElem?_set_self (List.getElem?_eq_some_iff.1 hd6.res).1) (by simp)]; rfl
              exact hd6.fin (hBG _ _) hlt (((hty.setD hd6.res rfl).froz (fun r hr => by omega))) (by have := hpx.1; have := hpx.2.1; omega) hsy (by omega)
          | false =>
            simp (config := { maxSteps := 1000000 }) (disch := (first | omega | (simp only [go_sem]; try omega))) only [go_sem, Nat.reduceAdd, Nat.reduceEqDiff, Nat.reduceLeDiff, Nat.reduceMul, Nat.reduceLT, reduceIte, Int.reduceToNat, w64_id, cast_succ, e0, e2, e4]
            refine SW.condF rfl ?_
            have xls : acells Z4 2 (.pc (H.length + 2) 0 0) = some [I v, ilSS xss] := pc_lds hd4.box (by simp)
            have rw1 : ∀ a b : AV, astore Z4 [a, b] (.pc H.length 0 0) = some (List.set Z4 H.length ⟨0, tyDz, 1, [a, b]⟩) := fun a b => by rw [pc_st hd4.res (by simp)]; rfl
            have ra := fun o => pc_alive (off := o) hd4.res
            repeat (first | (with_reducible first | refine SW.seq ?_ | refine SW.block ?_ | refine SW.rowC ?_ | refine SW.skip ?_ | refine SW.exit ?_ | intro _ | refine And.intro (by omega) ?_) | simp (config := { maxSteps := 1000000 }) (disch := (first | omega | (simp only [go_sem]; try omega))) only [go_sem, Nat.reduceAdd, Nat.reduceEqDiff, Nat.reduceLeDiff, Nat.reduceMul, Nat.reduceLT, reduceIte, Int.reduceToNat, w64_id, cast_succ, xa, xl, xls, rw1, ra])
            refine SW.ret ?_
            refine FunPost.cell (cs := [I v, ilSS xss]) ?_ ?_
            · show acells _ 2 (.pc H.length 0 0) = _
              rw [pc_lds (List.getElem?_set_self (List.getElem?_eq_some_iff.1 hd4.res).1) (by simp)]; rfl
            exact hd4.fin (hBG _ _) hlt (.old _ (by rw [Bel_ilSS]; trivial)) (by have := hpx.1; have := hpx.2.1; omega) (plX_sm hpx) (by omega)
        | _ => exact h
    | _ => exact h
end Go.Proofs.Ytnlfokkljgbaaaa
namespace Go.Proofs.Ytnlfokkljgbaaaa
open Go.Av
abbrev f_spec_DrawLambdasOf : Nat := 6
def c_spec_DrawLambdasOf : SC :=
 .seq (.reg [
     ⟨(some 2), .alloc 26 [(.int .i64 0), (.slice none 0 0)], none⟩,
     ⟨(some 3), .mv (.const (.int .i64 0)), none⟩] [0, 2])
 (.seq (.reg [
     ⟨(some 7), .mv (.tmp 0), none⟩,
     ⟨(some 8), .call 18 [(.tmp 7)], none⟩,
     ⟨(some 4), .mv (.tmp 8), none⟩] [2, 4])
 (.seq (.seq (.reg [
     ⟨(some 9), .mv (.tmp 4), none⟩,
     ⟨(some 10), .call 19 [(.tmp 9), (.const (.int .i64 2))], none⟩] [2, 4, 10])
 (.cond (.tmp 10)
  (.seq (.reg [
      ⟨(some 11), .mv (.tmp 4), none⟩,
      ⟨(some 12), .call 20 [(.tmp 11)], none⟩,
      ⟨(some 5), .alloc 26 [(.int .i64 0), (.slice none 0 0)], none⟩,
      ⟨none, .store 2 (.tmp 5) (.tmp 12), none⟩] [2, 4, 5])
  (.seq (.mix (.one ⟨(some 14), .mv (.tmp 4), none⟩
   (.both (.one ⟨(some 13), .load 2 true (.tmp 5), none⟩
    (.one ⟨(some 15), .call 21 [(.tmp 14), (.const (.int .i64 6))], none⟩
    (.one ⟨(some 16), .bin .sub (.tmp 15) (.const (.int .i64 1)), none⟩
    (.one ⟨none, .store 2 (.tmp 2) (.tmp 13), none⟩
    (.one ⟨(some 3), .mv (.tmp 16), none⟩
    (.done))))))
   (.one ⟨(some 15), .call 21 [(.tmp 14), (.const (.int .i64 6))], none⟩
    (.one ⟨(some 13), .load 2 true (.tmp 5), none⟩
    (.one ⟨(some 16), .bin .sub (.tmp 15) (.const (.int .i64 1)), none⟩
    (.one ⟨none, .store 2 (.tmp 2) (.tmp 13), none⟩
    (.one ⟨(some 3), .mv (.tmp 16), none⟩
    (.done)))))))) [2, 3])
  (.ret)))
  (.skip)))
 (.seq (.reg [
     ⟨(some 17), .mv (.tmp 4), none⟩,
     ⟨(some 18), .call 22 [(.tmp 17)], none⟩,
     ⟨(some 6), .alloc 26 [(.int .i64 0), (.slice none 0 0)], none⟩,
     ⟨none, .store 2 (.tmp 6) (.tmp 18), none⟩] [2, 4, 6])
 (.seq (.mix (.one ⟨(some 20), .mv (.tmp 4), none⟩
  (.both (.one ⟨(some 19), .load 2 true (.tmp 6), none⟩
   (.one ⟨(some 21), .call 21 [(.tmp 20), (.const (.int .i64 6))], none⟩
   (.one ⟨(some 22), .bin .sub (.tmp 21) (.const (.int .i64 1)), none⟩
   (.one ⟨none, .store 2 (.tmp 2) (.tmp 19), none⟩
   (.one ⟨(some 3), .mv (.tmp 22), none⟩
   (.done))))))
  (.one ⟨(some 21), .call 21 [(.tmp 20), (.const (.int .i64 6))], none⟩
   (.one ⟨(some 19), .load 2 true (.tmp 6), none⟩
   (.one ⟨(some 22), .bin .sub (.tmp 21) (.const (.int .i64 1)), none⟩
   (.one ⟨none, .store 2 (.tmp 2) (.tmp 19), none⟩
   (.one ⟨(some 3), .mv (.tmp 22), none⟩
   (.done)))))))) [2, 3])
 (.ret)))))
theorem s_spec_DrawLambdasOf : stripF Try.prog 6 [[0, 2], [2, 4], [2, 4, 10], [2, 4, 5], [2, 3, 1000002], [2, 4, 6], [2, 3, 1000002]] = some (c_spec_DrawLambdasOf, [.cell 2 2, .tmp 3], 23) := by kernel_rfl
structure DlS (H Y : List Blk) (code : AV) (t : Nat) (u : Int) (q : Nat) (v : Int) (c bv : AV) (xss : List (List Int)) : Prop where
  src : Y[H.length + 1]? = some (srcB code t u)
  res : Y[H.length]? = some ⟨0, tyDz, 1, [I 0, nilS]⟩
  box : Y[q]? = some ⟨0, tyDz, 1, [I v, c]⟩
  tab : TabF Y (fun r => H.length + 2 ≤ r) bv xss
  qn : H.length + 2 ≤ q
  fr : ∀ j, j < H.length → Y[j]? = H[j]?
section
variable {H Y : List Blk} {t t' q : Nat} {code c bv : AV} {u u' v : Int} {xss : List (List Int)}
theorem DlS.src' (h : DlS H Y code t u q v c bv xss) : DlS H (Y.set (H.length + 1) (srcB code t' u')) code t' u' q v c bv xss := by
  have hpl := (List.getElem?_eq_some_iff.1 h.src).1
  have g : ∀ j, j ≠ H.length + 1 → (Y.set (H.length + 1) (srcB code t' u'))[j]? = Y[j]? := fun j hj => List.getElem?_set_ne (Ne.symm hj)
  have := h.qn
  exact ⟨List.getElem?_set_self hpl, (g _ (by omega)).trans h.res, (g _ (by omega)).trans h.box, h.tab.same (fun r hr _ => hr) (fun j b hj hb => by rw [g j (by omega)]; exact hb), h.qn, fun j hj => (g j (by omega)).trans (h.fr j hj)⟩
theorem DlS.put (h : DlS H Y code t u q v c bv xss) {k : Blk} (hk : k.ty = tyDz) : (Y.set H.length k)[H.length]? = some k ∧ TabF (Y.set H.length k) (fun r => H.length + 2 ≤ r) bv xss ∧ H.length ≤ Y.length ∧ ∀ j, j < H.length → (Y.set H.length k)[j]? = H[j]? := by
  have hrl := (List.getElem?_eq_some_iff.1 h.res).1
  exact ⟨List.getElem?_set_self hrl, h.tab.setD h.res hk, by omega, fun j hj => by rw [List.getElem?_set_ne (by omega)]; exact h.fr j hj⟩
end
theorem DrawLambdas_ok (H : List Blk) (ns : List Int) (hz : ∀ z ∈ ns, 0 ≤ z ∧ z < 256) (hl : ns.length ≤ 2000000) :
    ACalls Try.prog f_spec_DrawLambdasOf [ilY ns] H (fun r H' => H' = H ∧ ∃ (v t : Int) (xss : List (List Int)), r = .tup [.agg [I v, ilSS xss], I t] ∧ smX xss) := by
  have hbn := fun k => Bel_ilY k ns
  refine ACalls.introB s_spec_DrawLambdasOf (by simp) ?_; intro hB hA; unfold c_spec_DrawLambdasOf; simp (config := { maxSteps := 1000000 }) (disch := (first | omega | (simp only [go_sem]; try omega))) only [go_sem, Nat.reduceAdd, Nat.reduceEqDiff, Nat.reduceLeDiff, Nat.reduceMul, Nat.reduceLT, reduceIte, Int.reduceToNat, w64_id, cast_succ]
  repeat (first | (with_reducible first | refine SW.seq ?_ | refine SW.block ?_ | refine SW.rowC ?_ | refine SW.skip ?_ | refine SW.exit ?_ | intro _ | refine And.intro (by omega) ?_) | simp (config := { maxSteps := 1000000 }) (disch := (first | omega | (simp only [go_sem]; try omega))) only [go_sem, Nat.reduceAdd, Nat.reduceEqDiff, Nat.reduceLeDiff, Nat.reduceMul, Nat.reduceLT, reduceIte, Int.reduceToNat, w64_id, cast_succ])
  refine (l00From_ok _ ns).mono ?_
  rintro r H1 ⟨rfl, rfl⟩
  have hs1 : ∀ (b : Blk) t u (e : List Blk), (H ++ ([b, srcB (ilY ns) 0 0] ++ e)).set (H.length + 1) (srcB (ilY ns) t u) = H ++ (b :: srcB (ilY ns) t u :: e) := fun b t u e => by
    rw [List.set_append_right _ _ (by omega), Nat.add_sub_cancel_left]; rfl
  have hs2 : ∀ (b : Blk) t u t' u' (e : List Blk), (H ++ (b :: srcB (ilY ns) t u :: e)).set (H.length + 1) (srcB (ilY ns) t' u') = H ++ (b :: srcB (ilY ns) t' u' :: e) := fun b t u t' u' e => by
    rw [List.set_append_right _ _ (by omega), Nat.add_sub_cancel_left]; rfl
  have hp1 : ∀ (b : Blk) t u (e : List Blk), (H ++ (b :: srcB (ilY ns) t u :: e))[H.length + 1]? = some (srcB (ilY ns) t u) := fun b t u e => by
    rw [List.getElem?_append_right (by omega), Nat.add_sub_cancel_left]; rfl
  repeat (first | (with_reducible first | refine SW.seq ?_ | refine SW.block ?_ | refine SW.rowC ?_ | refine SW.skip ?_ | refine SW.exit ?_ | intro _ | refine And.intro (by omega) ?_) | simp (config := { maxSteps := 1000000 }) (disch := (first | omega | (simp only [go_sem]; try omega))) only [go_sem, Nat.reduceAdd, Nat.reduceEqDiff, Nat.reduceLeDiff, Nat.reduceMul, Nat.reduceLT, reduceIte, Int.reduceToNat, w64_id, cast_succ])
  refine (one_ok _ (H.length + 1) (ilY ns) ns 0 0 2 (hp1 _ _ _ []) (codeOk_ilY hz hl) (by omega)).mono ?_
  rintro r H1 ⟨b, u1, t1, rfl, ht1, rfl⟩
  rw [hs2]
  repeat (first | (with_reducible first | refine SW.seq ?_ | refine SW.block ?_ | refine SW.rowC ?_ | refine SW.skip ?_ | refine SW.exit ?_ | intro _ | refine And.intro (by omega) ?_) | simp (config := { maxSteps := 1000000 }) (disch := (first | omega | (simp only [go_sem]; try omega))) only [go_sem, Nat.reduceAdd, Nat.reduceEqDiff, Nat.reduceLeDiff, Nat.reduceMul, Nat.reduceLT, reduceIte, Int.reduceToNat, w64_id, cast_succ])
  cases b with
  | true =>
    refine SW.condT rfl ?_
    repeat (first | (with_reducible first | refine SW.seq ?_ | refine SW.block ?_ | refine SW.rowC ?_ | refine SW.skip ?_ | refine SW.exit ?_ | intro _ | refine And.intro (by omega) ?_) | simp (config := { maxSteps := 1000000 }) (disch := (first | omega | (simp only [go_sem]; try omega))) only [go_sem, Nat.reduceAdd, Nat.reduceEqDiff, Nat.reduceLeDiff, Nat.reduceMul, Nat.reduceLT, reduceIte, Int.reduceToNat, w64_id, cast_succ])
    refine (l12Draw_ok _ (H.length + 1) (ilY ns) ns t1 u1 (hp1 _ _ _ []) (codeOk_ilY hz hl) hbn (by omega)).mono ?_
    rintro r H1 ⟨v, xss, u2, t2, rfl, rfl, hv, hsm, ht2⟩
    rw [hs2]
    repeat (first | (with_reducible first | refine SW.seq ?_ | refine SW.block ?_ | refine SW.rowC ?_ | refine SW.skip ?_ | refine SW.exit ?_ | intro _ | refine And.intro (by omega) ?_) | simp (config := { maxSteps := 1000000 }) (disch := (first | omega | (simp only [go_sem]; try omega))) only [go_sem, Nat.reduceAdd, Nat.reduceEqDiff, Nat.reduceLeDiff, Nat.reduceMul, Nat.reduceLT, reduceIte, Int.reduceToNat, w64_id, cast_succ])
    refine SW.mixR (fun E' Z => ∃ (k u' : Int) (t' : Nat), keep [2, 3] E' = [(2, .pc H.length 0 0), (3, I k)] ∧ Z = H ++ [⟨0, tyDz, 1, [I v, ilSS xss]⟩, srcB (ilY ns) t' u', ⟨0, tyDz, 1, [I v, ilSS xss]⟩]) ?_ ?_
    · simp (config := { maxSteps := 1000000 }) (disch := (first | omega | (simp only [go_sem]; try omega))) only [go_sem, Nat.reduceAdd, Nat.reduceEqDiff, Nat.reduceLeDiff, Nat.reduceMul, Nat.reduceLT, reduceIte, Int.reduceToNat, w64_id, cast_succ]
      repeat' (with_reducible refine And.intro ?_ ?_)
      all_goals
        refine (pick_ok _ (H.length + 1) (ilY ns) ns t2 u2 6 (hp1 _ _ _ _) (codeOk_ilY hz hl) (by omega)).mono ?_
        rintro r H1 ⟨k, u3, t3, rfl, k0, k1, ht3, rfl⟩
        rw [hs2]
        simp (config := { maxSteps := 1000000 }) (disch := (first | omega | (simp only [go_sem]; try omega))) only [go_sem, Nat.reduceAdd, Nat.reduceEqDiff, Nat.reduceLeDiff, Nat.reduceMul, Nat.reduceLT, reduceIte, Int.reduceToNat, w64_id, cast_succ]
        exact ⟨_, u3, t3, rfl, rfl⟩
    · rintro E2 H2 ⟨k, u', t', hk, rfl⟩
      rw [hk]
      repeat (first | (with_reducible first | refine SW.seq ?_ | refine SW.block ?_ | refine SW.rowC ?_ | refine SW.skip ?_ | refine SW.exit ?_ | intro _ | refine And.intro (by omega) ?_) | simp (config := { maxSteps := 1000000 }) (disch := (first | omega | (simp only [go_sem]; try omega))) only [go_sem, Nat.reduceAdd, Nat.reduceEqDiff, Nat.reduceLeDiff, Nat.reduceMul, Nat.reduceLT, reduceIte, Int.reduceToNat, w64_id, cast_succ])
      refine SW.ret ?_
      refine FunPost.cell_tmp (cs := [I v, ilSS xss]) (by simp (config := { maxSteps := 1000000 }) (disch := (first | omega | (simp only [go_sem]; try omega))) only [go_sem, Nat.reduceAdd, Nat.reduceEqDiff, Nat.reduceLeDiff, Nat.reduceMul, Nat.reduceLT, reduceIte, Int.reduceToNat, w64_id, cast_succ]) ?_
      exact GR.froz (r' := .tup [.agg [I v, ilSS xss], I k]) (froz_tup2 (froz_agg2 (froz_I' _) (froz_ilSS _)) (froz_I' _)) ⟨rfl, v, k, xss, rfl, hsm⟩
  | false =>
    refine SW.condF rfl ?_
    repeat (first | (with_reducible first | refine SW.seq ?_ | refine SW.block ?_ | refine SW.rowC ?_ | refine SW.skip ?_ | refine SW.exit ?_ | intro _ | refine And.intro (by omega) ?_) | simp (config := { maxSteps := 1000000 }) (disch := (first | omega | (simp only [go_sem]; try omega))) only [go_sem, Nat.reduceAdd, Nat.reduceEqDiff, Nat.reduceLeDiff, Nat.reduceMul, Nat.reduceLT, reduceIte, Int.reduceToNat, w64_id, cast_succ])
    refine (l10Bent_ok _ (H.length + 1) (ilY ns) ns t1 u1 (hp1 _ _ _ []) (codeOk_ilY hz hl) hbn (by omega)).mono ?_
    rintro r H1 ⟨v, xss, u2, t2, bv, ext, rfl, rfl, htb, hv, hsm, ht2, hxl⟩
    rw [hs2] at htb ⊢
    have hone := htb.one
    repeat (first | (with_reducible first | refine SW.seq ?_ | refine SW.block ?_ | refine SW.rowC ?_ | refine SW.skip ?_ | refine SW.exit ?_ | intro _ | refine And.intro (by omega) ?_) | simp (config := { maxSteps := 1000000 }) (disch := (first | omega | (simp only [go_sem]; try omega))) only [go_sem, Nat.reduceAdd, Nat.reduceEqDiff, Nat.reduceLeDiff, Nat.reduceMul, Nat.reduceLT, reduceIte, Int.reduceToNat, w64_id, cast_succ, hone.1, hone.2])
    obtain ⟨q, hq⟩ : ∃ q, q = H.length + (ext.length + 1 + 1) := ⟨_, rfl⟩
    have hd0 : DlS H (H ++ ((⟨0, tyDz, 1, [I 0, nilS]⟩ : Blk) :: srcB (ilY ns) t2 u2 :: (ext ++ [(⟨0, tyDz, 1, [I v, bv]⟩ : Blk)]))) (ilY ns) t2 u2 q v bv bv xss := by
      have hg0 : ∀ (bs : List Blk) (j : Nat), (H ++ bs)[H.length + j]? = bs[j]? := fun bs j => by rw [List.getElem?_append_right (by omega), Nat.add_sub_cancel_left]
      refine ⟨hg0 _ 1, hg0 _ 0, ?_, ?_, by omega, fun j hj => by rw [List.getElem?_append_left hj]⟩
      · rw [hq, hg0, List.getElem?_cons_succ, List.getElem?_cons_succ, List.getElem?_append_right (Nat.le_refl _), Nat.sub_self]; rfl
      · refine htb.same (fun r hr _ => by simpa using hr) fun j b _ hb => ?_
        have := get_appU hb [(⟨0, tyDz, 1, [I v, bv]⟩ : Blk)]
        simpa using this
    rw [← hq]
    generalize H ++ ((⟨0, tyDz, 1, [I 0, nilS]⟩ : Blk) :: srcB (ilY ns) t2 u2 :: (ext ++ [(⟨0, tyDz, 1, [I v, bv]⟩ : Blk)])) = Y at *
    refine SW.mixR (fun E' Z => ∃ (k : Int), keep [2, 3] E' = [(2, .pc H.length 0 0), (3, I k)] ∧ Z[H.length]? = some ⟨0, tyDz, 1, [I v, bv]⟩ ∧ TabF Z (fun r => H.length + 2 ≤ r) bv xss ∧ H.length ≤ Z.length ∧ ∀ j, j < H.length → Z[j]? = H[j]?) ?_ ?_
    · have xa := fun o => pc_alive (off := o) hd0.box
      have xls : acells Y 2 (.pc q 0 0) = some [I v, bv] := pc_lds hd0.box (by simp)
      simp (config := { maxSteps := 1000000 }) (disch := (first | omega | (simp only [go_sem]; try omega))) only [go_sem, Nat.reduceAdd, Nat.reduceEqDiff, Nat.reduceLeDiff, Nat.reduceMul, Nat.reduceLT, reduceIte, Int.reduceToNat, w64_id, cast_succ, xa, xls, hone.1, hone.2]
      repeat' (with_reducible refine And.intro ?_ ?_)
      all_goals
        refine (pick_ok _ (H.length + 1) (ilY ns) ns t2 u2 6 hd0.src (codeOk_ilY hz hl) (by omega)).mono ?_
        rintro r H1 ⟨k, u3, t3, rfl, k0, k1, ht3, rfl⟩
        have hd1 := hd0.src' (t' := t3) (u' := u3)
        generalize List.set Y (H.length + 1) (srcB (ilY ns) t3 u3) = Z at *
        have xa := fun o => pc_alive (off := o) hd1.box
        have xls : acells Z 2 (.pc q 0 0) = some [I v, bv] := pc_lds hd1.box (by simp)
        have rw1 : astore Z [I v, bv] (.pc H.length 0 0) = some (List.set Z H.length ⟨0, tyDz, 1, [I v, bv]⟩) := by rw [pc_st hd1.res (by simp)]; rfl
        simp (config := { maxSteps := 1000000 }) (disch := (first | omega | (simp only [go_sem]; try omega))) only [go_sem, Nat.reduceAdd, Nat.reduceEqDiff, Nat.reduceLeDiff, Nat.reduceMul, Nat.reduceLT, reduceIte, Int.reduceToNat, w64_id, cast_succ, xa, xls, rw1, hone.1, hone.2]
        exact ⟨_, rfl, hd1.put rfl⟩
    · rintro E2 H2 ⟨k, hk, hr, ht, hll, hf⟩
      rw [hk]
      repeat (first | (with_reducible first | refine SW.seq ?_ | refine SW.block ?_ | refine SW.rowC ?_ | refine SW.skip ?_ | refine SW.exit ?_ | intro _ | refine And.intro (by omega) ?_) | simp (config := { maxSteps := 1000000 }) (disch := (first | omega | (simp only [go_sem]; try omega))) only [go_sem, Nat.reduceAdd, Nat.reduceEqDiff, Nat.reduceLeDiff, Nat.reduceMul, Nat.reduceLT, reduceIte, Int.reduceToNat, w64_id, cast_succ])
      refine SW.ret ?_
      refine FunPost.cell_tmp (cs := [I v, bv]) ?_ ?_
      · show acells _ 2 (.pc H.length 0 0) = _
        rw [pc_lds hr (by simp)]; rfl
      obtain ⟨ext, he⟩ := ext_ofD (H := H) (H1 := H2) hll hf
      subst he
      exact GR.froz (r' := .tup [.agg [I v, ilSS xss], I k]) (froz_tup2 (froz_agg2 (froz_I' _) (ht.froz (fun r hr => by omega))) (froz_I' _)) ⟨rfl, v, k, xss, rfl, hsm⟩
end Go.Proofs.Ytnlfokkljgbaaaa
