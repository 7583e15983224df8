/- Exact covers: the reference's search. -/
import Derived.Test.YtpaagkipnlbibaaProg
import Derived.KernelRfl
import Derived.Test.YtpaagkipnlbibaazCI
set_option linter.unusedSimpArgs false
set_option linter.unusedVariables false
set_option maxHeartbeats 4000000
set_option maxRecDepth 100000
namespace Go.Proofs.Ytpaagkipnlbibaa
open Go.Av
abbrev f_spec_l24Search_visit : Nat := 91
def c_spec_l24Search_visit : SC :=
 .seq (.reg [
     ⟨(some 2), .mv (.const (.bool false)), none⟩] [0])
 (.seq (.reg [
     ⟨(some 6), .mv (.tmp 0), none⟩,
     ⟨(some 7), .nilc (.tmp 6), none⟩,
     ⟨(some 8), .faddr 6 (.tmp 7), none⟩,
     ⟨(some 9), .load 1 false (.tmp 8), none⟩,
     ⟨(some 10), .bin .add (.tmp 9) (.const (.int .i64 1)), none⟩,
     ⟨(some 11), .nilc (.tmp 6), none⟩,
     ⟨(some 12), .faddr 6 (.tmp 11), none⟩,
     ⟨none, .store 1 (.tmp 12) (.tmp 10), none⟩] [0])
 (.seq (.seq (.reg [
     ⟨(some 13), .mv (.tmp 0), none⟩,
     ⟨(some 14), .nilc (.tmp 13), none⟩,
     ⟨(some 15), .faddr 6 (.tmp 14), none⟩,
     ⟨(some 16), .load 1 false (.tmp 15), none⟩,
     ⟨(some 17), .mv (.tmp 0), none⟩,
     ⟨(some 18), .nilc (.tmp 17), none⟩,
     ⟨(some 19), .faddr 7 (.tmp 18), none⟩,
     ⟨(some 20), .load 1 false (.tmp 19), none⟩,
     ⟨(some 21), .bin .gtr (.tmp 16) (.tmp 20), none⟩] [0, 21])
 (.cond (.tmp 21)
  (.seq (.reg [
      ⟨(some 2), .mv (.const (.bool false)), none⟩] [2])
  (.ret))
  (.skip)))
 (.seq (.reg [
     ⟨(some 22), .mv (.tmp 0), none⟩,
     ⟨(some 23), .call 121 [(.tmp 22)], none⟩,
     ⟨(some 3), .mv (.tmp 23), none⟩] [0, 3])
 (.seq (.seq (.reg [
     ⟨(some 24), .mv (.tmp 3), none⟩,
     ⟨(some 25), .bin .lss (.tmp 24) (.const (.int .i64 0)), none⟩] [0, 3, 25])
 (.cond (.tmp 25)
  (.seq (.reg [
      ⟨(some 26), .mv (.tmp 0), none⟩,
      ⟨(some 27), .nilc (.tmp 26), none⟩,
      ⟨(some 28), .faddr 5 (.tmp 27), none⟩,
      ⟨(some 29), .load 1 false (.tmp 28), none⟩,
      ⟨(some 30), .bin .add (.tmp 29) (.const (.int .i64 1)), none⟩,
      ⟨(some 31), .nilc (.tmp 26), none⟩,
      ⟨(some 32), .faddr 5 (.tmp 31), none⟩,
      ⟨none, .store 1 (.tmp 32) (.tmp 30), none⟩] [0])
  (.seq (.seq (.reg [
      ⟨(some 33), .mv (.tmp 0), none⟩,
      ⟨(some 34), .nilc (.tmp 33), none⟩,
      ⟨(some 35), .faddr 8 (.tmp 34), none⟩,
      ⟨(some 36), .load 1 false (.tmp 35), none⟩,
      ⟨(some 37), .bin .gtr (.tmp 36) (.const (.int .i64 0)), none⟩] [0, 37])
  (.cond (.tmp 37)
   (.mix (.one ⟨(some 38), .mv (.tmp 0), none⟩
    (.one ⟨(some 39), .mv (.tmp 0), none⟩
    (.one ⟨(some 43), .mv (.tmp 0), none⟩
    (.one ⟨(some 44), .nilc (.tmp 43), none⟩
    (.one ⟨(some 45), .faddr 3 (.tmp 44), none⟩
    (.one ⟨(some 46), .load 1 false (.tmp 45), none⟩
    (.both (.one ⟨(some 40), .nilc (.tmp 39), none⟩
     (.both (.one ⟨(some 41), .faddr 4 (.tmp 40), none⟩
      (.both (.one ⟨(some 42), .load 1 false (.tmp 41), none⟩
       (.one ⟨(some 47), .call 122 [(.tmp 46)], none⟩
       (.one ⟨(some 48), .bslice 29 1 1 [(.slice none 0 0)] [(0, (.tmp 47))], none⟩
       (.one ⟨(some 49), .app 29 1 24 (.tmp 42) (.tmp 48), none⟩
       (.one ⟨(some 50), .nilc (.tmp 38), none⟩
       (.one ⟨(some 51), .faddr 4 (.tmp 50), none⟩
       (.one ⟨none, .store 1 (.tmp 51) (.tmp 49), none⟩
       (.done))))))))
      (.one ⟨(some 47), .call 122 [(.tmp 46)], none⟩
       (.one ⟨(some 42), .load 1 false (.tmp 41), none⟩
       (.one ⟨(some 48), .bslice 29 1 1 [(.slice none 0 0)] [(0, (.tmp 47))], none⟩
       (.one ⟨(some 49), .app 29 1 24 (.tmp 42) (.tmp 48), none⟩
       (.one ⟨(some 50), .nilc (.tmp 38), none⟩
       (.one ⟨(some 51), .faddr 4 (.tmp 50), none⟩
       (.one ⟨none, .store 1 (.tmp 51) (.tmp 49), none⟩
       (.done))))))))))
     (.one ⟨(some 47), .call 122 [(.tmp 46)], none⟩
      (.one ⟨(some 41), .faddr 4 (.tmp 40), none⟩
      (.one ⟨(some 42), .load 1 false (.tmp 41), none⟩
      (.one ⟨(some 48), .bslice 29 1 1 [(.slice none 0 0)] [(0, (.tmp 47))], none⟩
      (.one ⟨(some 49), .app 29 1 24 (.tmp 42) (.tmp 48), none⟩
      (.one ⟨(some 50), .nilc (.tmp 38), none⟩
      (.one ⟨(some 51), .faddr 4 (.tmp 50), none⟩
      (.one ⟨none, .store 1 (.tmp 51) (.tmp 49), none⟩
      (.done)))))))))))
    (.one ⟨(some 47), .call 122 [(.tmp 46)], none⟩
     (.one ⟨(some 40), .nilc (.tmp 39), none⟩
     (.one ⟨(some 41), .faddr 4 (.tmp 40), none⟩
     (.one ⟨(some 42), .load 1 false (.tmp 41), none⟩
     (.one ⟨(some 48), .bslice 29 1 1 [(.slice none 0 0)] [(0, (.tmp 47))], none⟩
     (.one ⟨(some 49), .app 29 1 24 (.tmp 42) (.tmp 48), none⟩
     (.one ⟨(some 50), .nilc (.tmp 38), none⟩
     (.one ⟨(some 51), .faddr 4 (.tmp 50), none⟩
     (.one ⟨none, .store 1 (.tmp 51) (.tmp 49), none⟩
     (.done))))))))))))))))) [0])
   (.skip)))
  (.seq (.reg [
      ⟨(some 52), .mv (.tmp 0), none⟩,
      ⟨(some 53), .nilc (.tmp 52), none⟩,
      ⟨(some 54), .faddr 8 (.tmp 53), none⟩,
      ⟨(some 55), .load 1 false (.tmp 54), none⟩,
      ⟨(some 56), .bin .eql (.tmp 55) (.const (.int .i64 0)), none⟩,
      ⟨(some 57), .mv (.tmp 56), none⟩,
      ⟨(some 58), .mv (.tmp 0), (some (57, false))⟩,
      ⟨(some 59), .nilc (.tmp 58), (some (57, false))⟩,
      ⟨(some 60), .faddr 5 (.tmp 59), (some (57, false))⟩,
      ⟨(some 61), .load 1 false (.tmp 60), (some (57, false))⟩,
      ⟨(some 62), .mv (.tmp 0), (some (57, false))⟩,
      ⟨(some 63), .nilc (.tmp 62), (some (57, false))⟩,
      ⟨(some 64), .faddr 8 (.tmp 63), (some (57, false))⟩,
      ⟨(some 65), .load 1 false (.tmp 64), (some (57, false))⟩,
      ⟨(some 66), .bin .lss (.tmp 61) (.tmp 65), (some (57, false))⟩,
      ⟨(some 67), .pick (.tmp 57) (.const (.bool true)) (.tmp 66), none⟩,
      ⟨(some 2), .mv (.tmp 67), none⟩] [2])
  (.ret))))
  (.skip)))
 (.seq (.seq (.reg [
     ⟨(some 4), .mv (.const (.int .i64 0)), none⟩] [0, 3, 4])
 (.block 0 (.loop [0, 3, 4]
   (.seq (.seq (.reg [
       ⟨(some 68), .mv (.tmp 4), none⟩,
       ⟨(some 69), .mv (.tmp 0), none⟩,
       ⟨(some 70), .nilc (.tmp 69), none⟩,
       ⟨(some 71), .faddr 0 (.tmp 70), none⟩,
       ⟨(some 72), .load 1 false (.tmp 71), none⟩,
       ⟨(some 73), .nilc (.tmp 72), none⟩,
       ⟨(some 74), .faddr 1 (.tmp 73), none⟩,
       ⟨(some 75), .load 1 false (.tmp 74), none⟩,
       ⟨(some 76), .len (.tmp 75), none⟩,
       ⟨(some 77), .bin .lss (.tmp 68) (.tmp 76), none⟩] [0, 3, 4, 77])
   (.cond (.tmp 77)
    (.skip)
    (.exit 0)))
   (.seq (.block 1 (.seq (.seq (.reg [
        ⟨(some 80), .mv (.tmp 0), none⟩,
        ⟨(some 81), .nilc (.tmp 80), none⟩,
        ⟨(some 82), .faddr 2 (.tmp 81), none⟩,
        ⟨(some 83), .load 1 false (.tmp 82), none⟩,
        ⟨(some 84), .mv (.tmp 4), none⟩,
        ⟨(some 85), .iaddr 1 (.tmp 83) (.tmp 84), none⟩,
        ⟨(some 86), .load 1 false (.tmp 85), none⟩,
        ⟨(some 87), .bin .neq (.tmp 86) (.const (.int .i64 0)), none⟩,
        ⟨(some 88), .mv (.tmp 87), none⟩,
        ⟨(some 89), .mv (.tmp 0), (some (88, false))⟩,
        ⟨(some 90), .nilc (.tmp 89), (some (88, false))⟩,
        ⟨(some 91), .faddr 0 (.tmp 90), (some (88, false))⟩,
        ⟨(some 92), .load 1 false (.tmp 91), (some (88, false))⟩,
        ⟨(some 93), .nilc (.tmp 92), (some (88, false))⟩,
        ⟨(some 94), .faddr 1 (.tmp 93), (some (88, false))⟩,
        ⟨(some 95), .load 1 false (.tmp 94), (some (88, false))⟩,
        ⟨(some 96), .mv (.tmp 4), (some (88, false))⟩,
        ⟨(some 97), .iaddr 1 (.tmp 95) (.tmp 96), (some (88, false))⟩,
        ⟨(some 98), .load 1 false (.tmp 97), (some (88, false))⟩,
        ⟨(some 99), .mv (.tmp 3), (some (88, false))⟩,
        ⟨(some 100), .call 116 [(.tmp 98), (.tmp 99)], (some (88, false))⟩,
        ⟨(some 101), .un .not (.tmp 100), (some (88, false))⟩,
        ⟨(some 102), .pick (.tmp 88) (.const (.bool true)) (.tmp 101), none⟩] [0, 3, 4, 102])
    (.cond (.tmp 102)
     (.exit 1)
     (.skip)))
    (.seq (.reg [
        ⟨(some 103), .mv (.tmp 0), none⟩,
        ⟨(some 104), .mv (.tmp 4), none⟩,
        ⟨(some 105), .call 123 [(.tmp 103), (.tmp 104), (.const (.int .i64 1))], none⟩] [0, 3, 4])
    (.seq (.reg [
        ⟨(some 106), .mv (.tmp 0), none⟩,
        ⟨(some 107), .mv (.tmp 0), none⟩,
        ⟨(some 108), .nilc (.tmp 107), none⟩,
        ⟨(some 109), .faddr 3 (.tmp 108), none⟩,
        ⟨(some 110), .load 1 false (.tmp 109), none⟩,
        ⟨(some 111), .mv (.tmp 4), none⟩,
        ⟨(some 112), .bslice 2 1 1 [(.int .i64 0)] [(0, (.tmp 111))], none⟩,
        ⟨(some 113), .app 2 1 8 (.tmp 110) (.tmp 112), none⟩,
        ⟨(some 114), .nilc (.tmp 106), none⟩,
        ⟨(some 115), .faddr 3 (.tmp 114), none⟩,
        ⟨none, .store 1 (.tmp 115) (.tmp 113), none⟩] [0, 3, 4])
    (.seq (.reg [
        ⟨(some 116), .mv (.tmp 0), none⟩,
        ⟨(some 117), .call 91 [(.tmp 116)], none⟩,
        ⟨(some 5), .mv (.tmp 117), none⟩] [0, 3, 4, 5])
    (.seq (.reg [
        ⟨(some 118), .mv (.tmp 0), none⟩,
        ⟨(some 119), .mv (.tmp 0), none⟩,
        ⟨(some 120), .nilc (.tmp 119), none⟩,
        ⟨(some 121), .faddr 3 (.tmp 120), none⟩,
        ⟨(some 122), .load 1 false (.tmp 121), none⟩,
        ⟨(some 123), .mv (.tmp 0), none⟩,
        ⟨(some 124), .nilc (.tmp 123), none⟩,
        ⟨(some 125), .faddr 3 (.tmp 124), none⟩,
        ⟨(some 126), .load 1 false (.tmp 125), none⟩,
        ⟨(some 127), .qlen (.tmp 126), none⟩,
        ⟨(some 128), .bin .sub (.tmp 127) (.const (.int .i64 1)), none⟩,
        ⟨(some 129), .slc 1 (.tmp 122) none (some (.tmp 128)), none⟩,
        ⟨(some 130), .nilc (.tmp 118), none⟩,
        ⟨(some 131), .faddr 3 (.tmp 130), none⟩,
        ⟨none, .store 1 (.tmp 131) (.tmp 129), none⟩] [0, 3, 4, 5])
    (.seq (.reg [
        ⟨(some 132), .mv (.tmp 0), none⟩,
        ⟨(some 133), .mv (.tmp 4), none⟩,
        ⟨(some 134), .call 123 [(.tmp 132), (.tmp 133), (.const (.int .i64 (-1)))], none⟩] [0, 3, 4, 5])
    (.seq (.reg [
        ⟨(some 135), .mv (.tmp 5), none⟩,
        ⟨(some 136), .un .not (.tmp 135), none⟩] [0, 3, 4, 136])
    (.cond (.tmp 136)
     (.seq (.reg [
         ⟨(some 2), .mv (.const (.bool false)), none⟩] [2])
     (.ret))
     (.skip))))))))))
   (.reg [
       ⟨(some 78), .mv (.tmp 4), none⟩,
       ⟨(some 79), .bin .add (.tmp 78) (.const (.int .i64 1)), none⟩,
       ⟨(some 4), .mv (.tmp 79), none⟩] [0, 3, 4]))))))
 (.seq (.reg [
     ⟨(some 2), .mv (.const (.bool true)), none⟩] [2])
 (.ret)))))))
theorem s_spec_l24Search_visit : stripF Try.prog 91 [[0], [0], [0, 21], [2], [0, 3], [0, 3, 25], [0], [0, 37], [0, 1000009], [2], [0, 3, 4], [0, 3, 4], [0, 3, 4, 77], [0, 3, 4, 102], [0, 3, 4], [0, 3, 4], [0, 3, 4, 5], [0, 3, 4, 5], [0, 3, 4, 5], [0, 3, 4, 136], [2], [0, 3, 4], [2]] = some (c_spec_l24Search_visit, [.tmp 2], 137) := by kernel_rfl
def runC (O : List (List Int)) (n : Nat) (one : Bool) (d : Nat) (ch : List Int) (x : Int) (s0 : VS) (i : Nat) : VS :=
  (((List.range i).filter (pickC O (itemsOf O ch) x)).map fun (i : Nat) => (i : Int)).foldl (fun st k => vst O n one d (ch ++ [k]) st) s0
theorem runC_skip {O : List (List Int)} {n : Nat} {one : Bool} {d : Nat} {ch : List Int} {x : Int} {s0 : VS} {i : Nat} (h : pickC O (itemsOf O ch) x i = false) : runC O n one d ch x s0 (i + 1) = runC O n one d ch x s0 i := by
  unfold runC
  rw [List.range_succ, List.filter_append, List.filter_cons_of_neg (by rw [h]; simp)]
  simp
theorem runC_take {O : List (List Int)} {n : Nat} {one : Bool} {d : Nat} {ch : List Int} {x : Int} {s0 : VS} {i : Nat} (h : pickC O (itemsOf O ch) x i = true) : runC O n one d ch x s0 (i + 1) = vst O n one d (ch ++ [(i : Int)]) (runC O n one d ch x s0 i) := by
  unfold runC
  rw [List.range_succ, List.filter_append, List.filter_cons_of_pos h, List.map_append, List.foldl_append]
  rfl
theorem runC_stop {O : List (List Int)} {n : Nat} {one : Bool} {d : Nat} {ch : List Int} {x : Int} {s0 : VS} {i : Nat} (h : (runC O n one d ch x s0 i).spent = true) : ∀ k, runC O n one d ch x s0 (i + k) = runC O n one d ch x s0 i
  | 0 => rfl
  | k + 1 => by
    have ih := runC_stop h k
    rw [← Nat.add_assoc]
    cases hp : pickC O (itemsOf O ch) x (i + k)
    · rw [runC_skip hp, ih]
    · rw [runC_take hp, ih, vst_stop (.inl h)]
theorem runC_inv {O : List (List Int)} {n : Nat} {one : Bool} {d : Nat} {ch : List Int} {x : Int} {s0 : VS} : ∀ i, (runC O n one d ch x s0 i).left ≤ s0.left ∧ (runC O n one d ch x s0 i).found.length + (runC O n one d ch x s0 i).left ≤ s0.found.length + s0.left
  | 0 => ⟨Nat.le_refl _, Nat.le_refl _⟩
  | i + 1 => by
    have ih := runC_inv (O := O) (n := n) (one := one) (d := d) (ch := ch) (x := x) (s0 := s0) i
    cases hp : pickC O (itemsOf O ch) x i
    · rw [runC_skip hp]; exact ih
    · rw [runC_take hp]
      have q1 := vst_left (O := O) (n := n) (one := one) d (ch ++ [(i : Int)]) (runC O n one d ch x s0 i)
      have q2 := vst_found (O := O) (n := n) (one := one) d (ch ++ [(i : Int)]) (runC O n one d ch x s0 i)
      exact ⟨by omega, by omega⟩
def nodC (b : Nat) (st : VS) : Int := if st.spent = true then (b : Int) + 1 else ((b - st.left : Nat) : Int)
def SpR (H : List Blk) (p pc n : Nat) (O : List (List Int)) (b : Nat) (ch : List Int) (st : VS) (r : AV) (H' : List Blk) : Prop :=
  r = Bv (!st.spent) ∧ (∃ v, SpH H' p pc n O (marks n (itemsOf O ch)) (offL O ch) v (st.found.length : Int) (nodC b st) b ∧ ColG H' (p + 3) v ch nilS []) ∧ H.length ≤ H'.length ∧ ∀ j, j < p → H'[j]? = H[j]?
theorem bst_none {O : List (List Int)} {D : List Int} {n : Nat} (h : (marks n D).contains false = false) : bstI O D n = none := by
  cases hb : bstI O D n with
  | none => rfl
  | some y =>
    have h3 := bst_some (O := O) (D := D) (List.range n) none (fun _ h => by cases h) y hb
    have h4 : y ∈ List.range n := by
      rcases h3.2 with g | g
      · cases g
      · exact g
    have : (marks n D).contains false = true := by
      rw [List.contains_iff_mem]
      exact List.mem_map.2 ⟨y, h4, h3.1⟩
    rw [h] at this; cases this
theorem spVisit_ok (n : Nat) (O : List (List Int)) (b : Nat) (hcov : coverOk (n : Int) O = true) (hb0 : b ≤ 20000) :
    ∀ (d : Nat) (H : List Blk) (p pc : Nat) (ch : List Int) (st : VS) (v : AV), SpH H p pc n O (marks n (itemsOf O ch)) (offL O ch) v (st.found.length : Int) ((b - st.left : Nat) : Int) b → ColG H (p + 3) v ch nilS [] → ChOk O n ch → d + ch.length = n + 1 → st.left ≤ b → st.found.length + st.left ≤ 20000 → st.spent = false →
    ACalls Try.prog f_spec_l24Search_visit [.pc p 0 0] H (SpR H p pc n O b ch (vst O n false d ch st)) := by
  have hcf := coverOk_facts hcov
  have n64 : n ≤ 64 := by omega
  have n1 : 1 ≤ n := by omega
  have hOl := hcf.2.2.1
  have hO : ∀ o ∈ O, ∀ x ∈ o, 0 ≤ x ∧ x < (n : Int) := fun o ho => (hcf.2.2.2 o ho).1
  intro d
  induction d with
  | zero =>
    intro H p pc ch st v h hcg hch hd
    have := hch.short
    omega
  | succ d ih =>
    intro H p pc ch st v h hcg hch hd hl hfl hsp
    have hpa := fun o => pc_alive (off := o) h.box
    have hpl := fun o => pc_ld (off := o) h.box
    have hv := hcg.view
    have hplt := (List.getElem?_eq_some_iff.1 h.box).1
    have hlen := h.lens
    have hn1 : w64 (((b - st.left : Nat) : Int) + 1) = ((b - st.left + 1 : Nat) : Int) := by rw [show ((b - st.left : Nat) : Int) + 1 = ((b - st.left + 1 : Nat) : Int) by omega]; exact w64_id (by omega) (by omega)
    have w0 : astore H [I ((b - st.left + 1 : Nat) : Int)] (.pc p 0 6) = some (H.set p (spB p pc n O.length v (st.found.length : Int) ((b - st.left + 1 : Nat) : Int) b)) := by rw [pc_st h.box (by simp)]; rfl
    have h1 := h.setB v (st.found.length : Int) ((b - st.left + 1 : Nat) : Int)
    have hcg1 : ColG (H.set p (spB p pc n O.length v (st.found.length : Int) ((b - st.left + 1 : Nat) : Int) b)) (p + 3) v ch nilS [] := hcg.same fun j b hj hb => by rw [List.getElem?_set_ne (by omega)]; exact hb
    have hl1 : (H.set p (spB p pc n O.length v (st.found.length : Int) ((b - st.left + 1 : Nat) : Int) b)).length = H.length := List.length_set
    have hf1 : ∀ j, j < p → (H.set p (spB p pc n O.length v (st.found.length : Int) ((b - st.left + 1 : Nat) : Int) b))[j]? = H[j]? := fun j hj => by rw [List.getElem?_set_ne (by omega)]
    refine ACalls.introB s_spec_l24Search_visit (by simp) ?_; intro hB hA; unfold c_spec_l24Search_visit; simp (config := { maxSteps := 1000000 }) (disch := (first | omega | (simp only [go_sem]; try omega))) only [go_sem, Nat.reduceAdd, Nat.reduceEqDiff, Nat.reduceLeDiff, Nat.reduceMul, Nat.reduceLT, reduceIte, Int.reduceToNat, w64_id, cast_succ]
    repeat (first | (with_reducible first | refine SW.seq ?_ | refine SW.block ?_ | refine SW.rowC ?_ | refine SW.skip ?_ | refine SW.exit ?_ | intro _ | refine And.intro (by omega) ?_) | simp (config := { maxSteps := 1000000 }) (disch := (first | omega | (simp only [go_sem]; try omega))) only [go_sem, Nat.reduceAdd, Nat.reduceEqDiff, Nat.reduceLeDiff, Nat.reduceMul, Nat.reduceLT, reduceIte, Int.reduceToNat, w64_id, cast_succ, hpa, hpl, hn1, w0])
    generalize H.set p (spB p pc n O.length v (st.found.length : Int) ((b - st.left + 1 : Nat) : Int) b) = X at *
    have hpa1 := fun o => pc_alive (off := o) h1.box
    have hpl1 := fun o => pc_ld (off := o) h1.box
    by_cases hl0 : st.left = 0
    · have d1 : decide ((b : Int) < ((b - st.left + 1 : Nat) : Int)) = true := decide_eq_true (by omega)
      have e : vst O n false (d + 1) ch st = { st with spent := true } := by
        show (if st.spent = true ∨ (false = true ∧ st.found ≠ []) then st else if st.left = 0 then { st with spent := true } else _) = _
        rw [if_neg (by rw [hsp]; simp), if_pos hl0]
      rw [e]
      repeat (first | (with_reducible first | refine SW.seq ?_ | refine SW.block ?_ | refine SW.rowC ?_ | refine SW.skip ?_ | refine SW.exit ?_ | intro _ | refine And.intro (by omega) ?_) | simp (config := { maxSteps := 1000000 }) (disch := (first | omega | (simp only [go_sem]; try omega))) only [go_sem, Nat.reduceAdd, Nat.reduceEqDiff, Nat.reduceLeDiff, Nat.reduceMul, Nat.reduceLT, reduceIte, Int.reduceToNat, w64_id, cast_succ, hpa1, hpl1, d1])
      refine SW.condT rfl ?_
      repeat (first | (with_reducible first | refine SW.seq ?_ | refine SW.block ?_ | refine SW.rowC ?_ | refine SW.skip ?_ | refine SW.exit ?_ | intro _ | refine And.intro (by omega) ?_) | simp (config := { maxSteps := 1000000 }) (disch := (first | omega | (simp only [go_sem]; try omega))) only [go_sem, Nat.reduceAdd, Nat.reduceEqDiff, Nat.reduceLeDiff, Nat.reduceMul, Nat.reduceLT, reduceIte, Int.reduceToNat, w64_id, cast_succ])
      refine SW.ret ⟨_, rfl, GR.of ⟨rfl, ⟨v, ?_, hcg1⟩, by omega, hf1⟩⟩
      have : nodC b { st with spent := true } = ((b - st.left + 1 : Nat) : Int) := by
        show (b : Int) + 1 = _; omega
      rw [this]; exact h1
    · have d1 : decide ((b : Int) < ((b - st.left + 1 : Nat) : Int)) = false := decide_eq_false (by omega)
      have hvst : vst O n false (d + 1) ch st = if (marks n (itemsOf O ch)).contains false = false then ⟨st.left - 1, false, st.found ++ [isort ch]⟩ else
          (chs O (itemsOf O ch) n).foldl (fun st k => vst O n false d (ch ++ [k]) st) ⟨st.left - 1, false, st.found⟩ := by
        show (if st.spent = true ∨ (false = true ∧ st.found ≠ []) then st else if st.left = 0 then { st with spent := true } else
          if (marks n (itemsOf O ch)).contains false = false then ⟨st.left - 1, st.spent, st.found ++ [isort ch]⟩ else
            (chs O (itemsOf O ch) n).foldl (fun st k => vst O n false d (ch ++ [k]) st) { st with left := st.left - 1 }) = _
        rw [if_neg (by rw [hsp]; simp), if_neg hl0, hsp]
      rw [hvst]
      repeat (first | (with_reducible first | refine SW.seq ?_ | refine SW.block ?_ | refine SW.rowC ?_ | refine SW.skip ?_ | refine SW.exit ?_ | intro _ | refine And.intro (by omega) ?_) | simp (config := { maxSteps := 1000000 }) (disch := (first | omega | (simp only [go_sem]; try omega))) only [go_sem, Nat.reduceAdd, Nat.reduceEqDiff, Nat.reduceLeDiff, Nat.reduceMul, Nat.reduceLT, reduceIte, Int.reduceToNat, w64_id, cast_succ, hpa1, hpl1, d1])
      refine SW.condF rfl ?_
      repeat (first | (with_reducible first | refine SW.seq ?_ | refine SW.block ?_ | refine SW.rowC ?_ | refine SW.skip ?_ | refine SW.exit ?_ | intro _ | refine And.intro (by omega) ?_) | simp (config := { maxSteps := 1000000 }) (disch := (first | omega | (simp only [go_sem]; try omega))) only [go_sem, Nat.reduceAdd, Nat.reduceEqDiff, Nat.reduceLeDiff, Nat.reduceMul, Nat.reduceLT, reduceIte, Int.reduceToNat, w64_id, cast_succ])
      refine (spBest_ok h1 n64 hOl).mono ?_
      rintro r X ⟨rfl, rfl⟩
      have hnd : ((b - st.left + 1 : Nat) : Int) = ((b - (st.left - 1) : Nat) : Int) := by omega
      rw [hnd] at h1
      cases hcv : (marks n (itemsOf O ch)).contains false
      · rw [if_pos rfl, bst_none hcv]
        have d2 : decide (outA none < 0) = true := rfl
        have hc1 : w64 ((st.found.length : Int) + 1) = ((st.found.length + 1 : Nat) : Int) := by rw [show (st.found.length : Int) + 1 = ((st.found.length + 1 : Nat) : Int) by omega]; exact w64_id (by omega) (by omega)
        have w1 : astore X [I ((st.found.length + 1 : Nat) : Int)] (.pc p 0 5) = some (X.set p (spB p pc n O.length v ((st.found.length + 1 : Nat) : Int) ((b - (st.left - 1) : Nat) : Int) b)) := by rw [pc_st h1.box (by simp)]; rfl
        have hpl2 := fun o => pc_ld (off := o) h1.box
        have h2 := h1.setB v ((st.found.length + 1 : Nat) : Int) ((b - (st.left - 1) : Nat) : Int)
        have hcg2 : ColG (X.set p (spB p pc n O.length v ((st.found.length + 1 : Nat) : Int) ((b - (st.left - 1) : Nat) : Int) b)) (p + 3) v ch nilS [] := hcg1.same fun j b hj hb => by rw [List.getElem?_set_ne (by omega)]; exact hb
        have hl2 : (X.set p (spB p pc n O.length v ((st.found.length + 1 : Nat) : Int) ((b - (st.left - 1) : Nat) : Int) b)).length = X.length := List.length_set
        have hf2 : ∀ j, j < p → (X.set p (spB p pc n O.length v ((st.found.length + 1 : Nat) : Int) ((b - (st.left - 1) : Nat) : Int) b))[j]? = X[j]? := fun j hj => by rw [List.getElem?_set_ne (by omega)]
        repeat (first | (with_reducible first | refine SW.seq ?_ | refine SW.block ?_ | refine SW.rowC ?_ | refine SW.skip ?_ | refine SW.exit ?_ | intro _ | refine And.intro (by omega) ?_) | simp (config := { maxSteps := 1000000 }) (disch := (first | omega | (simp only [go_sem]; try omega))) only [go_sem, Nat.reduceAdd, Nat.reduceEqDiff, Nat.reduceLeDiff, Nat.reduceMul, Nat.reduceLT, reduceIte, Int.reduceToNat, w64_id, cast_succ, d2])
        refine SW.condT rfl ?_
        repeat (first | (with_reducible first | refine SW.seq ?_ | refine SW.block ?_ | refine SW.rowC ?_ | refine SW.skip ?_ | refine SW.exit ?_ | intro _ | refine And.intro (by omega) ?_) | simp (config := { maxSteps := 1000000 }) (disch := (first | omega | (simp only [go_sem]; try omega))) only [go_sem, Nat.reduceAdd, Nat.reduceEqDiff, Nat.reduceLeDiff, Nat.reduceMul, Nat.reduceLT, reduceIte, Int.reduceToNat, w64_id, cast_succ, hpa1, hpl2, hc1, w1])
        generalize X.set p (spB p pc n O.length v ((st.found.length + 1 : Nat) : Int) ((b - (st.left - 1) : Nat) : Int) b) = Y at *
        have hpa3 := fun o => pc_alive (off := o) h2.box
        have hpl3 := fun o => pc_ld (off := o) h2.box
        have d3 : decide ((0 : Int) < 0) = false := rfl
        have d4 : decide ((0 : Int) = 0) = true := rfl
        repeat (first | (with_reducible first | refine SW.seq ?_ | refine SW.block ?_ | refine SW.rowC ?_ | refine SW.skip ?_ | refine SW.exit ?_ | intro _ | refine And.intro (by omega) ?_) | simp (config := { maxSteps := 1000000 }) (disch := (first | omega | (simp only [go_sem]; try omega))) only [go_sem, Nat.reduceAdd, Nat.reduceEqDiff, Nat.reduceLeDiff, Nat.reduceMul, Nat.reduceLT, reduceIte, Int.reduceToNat, w64_id, cast_succ, hpa3, hpl3, d3, d4])
        refine SW.condF rfl ?_
        repeat (first | (with_reducible first | refine SW.seq ?_ | refine SW.block ?_ | refine SW.rowC ?_ | refine SW.skip ?_ | refine SW.exit ?_ | intro _ | refine And.intro (by omega) ?_) | simp (config := { maxSteps := 1000000 }) (disch := (first | omega | (simp only [go_sem]; try omega))) only [go_sem, Nat.reduceAdd, Nat.reduceEqDiff, Nat.reduceLeDiff, Nat.reduceMul, Nat.reduceLT, reduceIte, Int.reduceToNat, w64_id, cast_succ, hpa3, hpl3, d3, d4])
        have hfl2 : ((st.found ++ [isort ch]).length : Int) = ((st.found.length + 1 : Nat) : Int) := by rw [List.length_append, List.length_singleton]
        refine SW.ret ⟨_, rfl, GR.of ⟨rfl, ⟨v, ?_, hcg2⟩, by omega, fun j hj => by rw [hf2 j hj, hf1 j hj]⟩⟩
        rw [hfl2]
        exact h2
      · rw [if_neg (by simp)]
        obtain ⟨x0, hx0, hxd, hbst, hchs⟩ := chs_item (O := O) (D := itemsOf O ch) hcv
        rw [hbst, hchs, chL_range]
        have d2 : decide (outA (some x0) < 0) = false := decide_eq_false (by show ¬ ((x0 : Int) < 0); omega)
        repeat (first | (with_reducible first | refine SW.seq ?_ | refine SW.block ?_ | refine SW.rowC ?_ | refine SW.skip ?_ | refine SW.exit ?_ | intro _ | refine And.intro (by omega) ?_) | simp (config := { maxSteps := 1000000 }) (disch := (first | omega | (simp only [go_sem]; try omega))) only [go_sem, Nat.reduceAdd, Nat.reduceEqDiff, Nat.reduceLeDiff, Nat.reduceMul, Nat.reduceLT, reduceIte, Int.reduceToNat, w64_id, cast_succ, d2])
        refine SW.condF rfl ?_
        repeat (first | (with_reducible first | refine SW.seq ?_ | refine SW.block ?_ | refine SW.rowC ?_ | refine SW.skip ?_ | refine SW.exit ?_ | intro _ | refine And.intro (by omega) ?_) | simp (config := { maxSteps := 1000000 }) (disch := (first | omega | (simp only [go_sem]; try omega))) only [go_sem, Nat.reduceAdd, Nat.reduceEqDiff, Nat.reduceLeDiff, Nat.reduceMul, Nat.reduceLT, reduceIte, Int.reduceToNat, w64_id, cast_succ])
        have hrun : (((List.range O.length).filter (pickC O (itemsOf O ch) (x0 : Int))).map fun (i : Nat) => (i : Int)).foldl (fun st k => vst O n false d (ch ++ [k]) st) ⟨st.left - 1, false, st.found⟩ = runC O n false d ch (x0 : Int) ⟨st.left - 1, false, st.found⟩ O.length := rfl
        rw [hrun]
        refine SW.loopE (fun E0 H0 m E' H' => ∃ (i : Nat), i ≤ O.length ∧ m = O.length - i ∧ E' = aput E0 4 (I i) ∧ (runC O n false d ch (x0 : Int) ⟨st.left - 1, false, st.found⟩ i).spent = false ∧ (∃ v, SpH H' p pc n O (marks n (itemsOf O ch)) (offL O ch) v ((runC O n false d ch (x0 : Int) ⟨st.left - 1, false, st.found⟩ i).found.length : Int) ((b - (runC O n false d ch (x0 : Int) ⟨st.left - 1, false, st.found⟩ i).left : Nat) : Int) b ∧ ColG H' (p + 3) v ch nilS []) ∧ H.length ≤ H'.length ∧ ∀ j, j < p → H'[j]? = H[j]?) O.length
          ⟨0, by omega, by omega, rfl, rfl, ⟨v, h1, hcg1⟩, by omega, hf1⟩ ?_
        rintro m E' X2 ⟨i, hi, rfl, rfl, hs1, ⟨v2, h2, hcg2⟩, hl2, hf2⟩
        have hinv := runC_inv (O := O) (n := n) (one := false) (d := d) (ch := ch) (x := (x0 : Int)) (s0 := ⟨st.left - 1, false, st.found⟩) i
        have hskip := runC_skip (O := O) (n := n) (one := false) (d := d) (ch := ch) (x := (x0 : Int)) (s0 := ⟨st.left - 1, false, st.found⟩) (i := i)
        have htake := runC_take (O := O) (n := n) (one := false) (d := d) (ch := ch) (x := (x0 : Int)) (s0 := ⟨st.left - 1, false, st.found⟩) (i := i)
        have hstop := runC_stop (O := O) (n := n) (one := false) (d := d) (ch := ch) (x := (x0 : Int)) (s0 := ⟨st.left - 1, false, st.found⟩) (i := i + 1)
        simp only at hinv
        generalize hsd : runC O n false d ch (x0 : Int) ⟨st.left - 1, false, st.found⟩ i = s1 at *
        have hpa2 := fun o => pc_alive (off := o) h2.box
        have hpl2 := fun o => pc_ld (off := o) h2.box
        have hca2 := fun o => pc_alive (off := o) h2.cov
        have hcl2 := fun o => pc_ld (off := o) h2.cov
        have hvo := view_nm (n := O.length) h2.off (by rw [List.length_map, h2.ol])
        simp (config := { maxSteps := 1000000 }) (disch := (first | omega | (simp only [go_sem]; try omega))) only [go_sem, Nat.reduceAdd, Nat.reduceEqDiff, Nat.reduceLeDiff, Nat.reduceMul, Nat.reduceLT, reduceIte, Int.reduceToNat, w64_id, cast_succ]
        repeat (first | (with_reducible first | refine SW.seq ?_ | refine SW.block ?_ | refine SW.rowC ?_ | refine SW.skip ?_ | refine SW.exit ?_ | intro _ | refine And.intro (by omega) ?_) | simp (config := { maxSteps := 1000000 }) (disch := (first | omega | (simp only [go_sem]; try omega))) only [go_sem, Nat.reduceAdd, Nat.reduceEqDiff, Nat.reduceLeDiff, Nat.reduceMul, Nat.reduceLT, reduceIte, Int.reduceToNat, w64_id, cast_succ, hpa2, hpl2, hca2, hcl2])
        (first | refine SW.condD rfl (fun h3 => ?_) (fun h3 => ?_) | refine SW.condN rfl (fun h3 => ?_) (fun h3 => ?_) | refine SW.condNB rfl (fun h3 => ?_) (fun h3 => ?_) | refine SW.condB rfl (fun h3 => ?_) (fun h3 => ?_))
        · have hin : i < O.length := by omega
          have hgo : ((offL O ch).map I)[i]? = some (I ((ch.countP (meetC O i) : Nat) : Int)) := by
            rw [List.getElem?_map, List.getElem?_eq_getElem (by rw [offL_len]; exact hin), ← getD_get (d := 0) (by rw [offL_len]; exact hin), offL_get hin]; rfl
          have hhas := l00Has_fn (O.getD i []) (x0 : Int)
          have hax : outA (some x0) = (x0 : Int) := rfl
          have cont : pickC O (itemsOf O ch) (x0 : Int) i = false → ∃ i2 : Nat, i2 ≤ O.length ∧ O.length - (i + 1) = O.length - i2 ∧ i2 = i + 1 ∧ (runC O n false d ch (x0 : Int) ⟨st.left - 1, false, st.found⟩ i2).spent = false ∧ (∃ v, SpH X2 p pc n O (marks n (itemsOf O ch)) (offL O ch) v ((runC O n false d ch (x0 : Int) ⟨st.left - 1, false, st.found⟩ i2).found.length : Int) ((b - (runC O n false d ch (x0 : Int) ⟨st.left - 1, false, st.found⟩ i2).left : Nat) : Int) b ∧ ColG X2 (p + 3) v ch nilS []) := fun hpk =>
            ⟨i + 1, by omega, rfl, rfl, by rw [hskip hpk]; exact hs1, v2, by rw [hskip hpk]; exact h2, hcg2⟩
          by_cases hz : ch.countP (meetC O i) = 0
          · have hop := off_zero.1 hz
            have d5 : decide (((ch.countP (meetC O i) : Nat) : Int) = 0) = true := decide_eq_true (by omega)
            cases hhs : (O.getD i []).contains (x0 : Int)
            · rw [hhs] at hhas
              repeat (first | (with_reducible first | refine SW.seq ?_ | refine SW.block ?_ | refine SW.rowC ?_ | refine SW.skip ?_ | refine SW.exit ?_ | refine PFn.use (hhas) ?_ | refine PFn.useq (hhas) ?_ | intro _ | refine And.intro (by omega) ?_) | simp (config := { maxSteps := 1000000 }) (disch := (first | omega | (simp only [go_sem]; try omega))) only [go_sem, Nat.reduceAdd, Nat.reduceEqDiff, Nat.reduceLeDiff, Nat.reduceMul, Nat.reduceLT, reduceIte, Int.reduceToNat, w64_id, cast_succ, hpa2, hpl2, hca2, hcl2, hvo, hgo, d5, hax])
              refine SW.condT rfl ?_
              repeat (first | (with_reducible first | refine SW.seq ?_ | refine SW.block ?_ | refine SW.rowC ?_ | refine SW.skip ?_ | refine SW.exit ?_ | intro _ | refine And.intro (by omega) ?_) | simp (config := { maxSteps := 1000000 }) (disch := (first | omega | (simp only [go_sem]; try omega))) only [go_sem, Nat.reduceAdd, Nat.reduceEqDiff, Nat.reduceLeDiff, Nat.reduceMul, Nat.reduceLT, reduceIte, Int.reduceToNat, w64_id, cast_succ])
              obtain ⟨i2, q1, q2, rfl, q3, q4⟩ := cont (by unfold pickC; rw [hhs]; rfl)
              exact SLoop.next (O.length - (i + 1)) (by omega) ⟨i + 1, q1, q2, by simp [go_sem], q3, q4, hl2, hf2⟩
            · rw [hhs] at hhas
              have hpk : pickC O (itemsOf O ch) (x0 : Int) i = true := by unfold pickC; rw [hhs, hop]; rfl
              repeat (first | (with_reducible first | refine SW.seq ?_ | refine SW.block ?_ | refine SW.rowC ?_ | refine SW.skip ?_ | refine SW.exit ?_ | refine PFn.use (hhas) ?_ | refine PFn.useq (hhas) ?_ | intro _ | refine And.intro (by omega) ?_) | simp (config := { maxSteps := 1000000 }) (disch := (first | omega | (simp only [go_sem]; try omega))) only [go_sem, Nat.reduceAdd, Nat.reduceEqDiff, Nat.reduceLeDiff, Nat.reduceMul, Nat.reduceLT, reduceIte, Int.reduceToNat, w64_id, cast_succ, hpa2, hpl2, hca2, hcl2, hvo, hgo, d5, hax])
              refine SW.condF rfl ?_
              repeat (first | (with_reducible first | refine SW.seq ?_ | refine SW.block ?_ | refine SW.rowC ?_ | refine SW.skip ?_ | refine SW.exit ?_ | intro _ | refine And.intro (by omega) ?_) | simp (config := { maxSteps := 1000000 }) (disch := (first | omega | (simp only [go_sem]; try omega))) only [go_sem, Nat.reduceAdd, Nat.reduceEqDiff, Nat.reduceLeDiff, Nat.reduceMul, Nat.reduceLT, reduceIte, Int.reduceToNat, w64_id, cast_succ])
              have hmem : (i : Int) ∈ chL O (itemsOf O ch) (x0 : Int) := by
                rw [chL_range]
                exact List.mem_map.2 ⟨i, List.mem_filter.2 ⟨List.mem_range.2 hin, hpk⟩, rfl⟩
              have hch2 := hch.snoc hcov hmem
              have hsh := hch.short
              have hor : ∀ x ∈ offL O ch, 0 ≤ x ∧ x ≤ 1000 := fun x hx => by
                obtain ⟨j, _, rfl⟩ := List.mem_map.1 hx
                have : ch.countP (meetC O j) ≤ ch.length := List.countP_le_length
                omega
              have hor2 : ∀ x ∈ offL O (ch ++ [(i : Int)]), 0 ≤ x ∧ x ≤ 1000 := fun x hx => by
                obtain ⟨j, _, rfl⟩ := List.mem_map.1 hx
                have : (ch ++ [(i : Int)]).countP (meetC O j) ≤ (ch ++ [(i : Int)]).length := List.countP_le_length
                rw [List.length_append, List.length_singleton] at this
                omega
              have hom : ∀ x ∈ O.getD i [], 0 ≤ x ∧ x < (n : Int) := hO _ (by rw [getD_get hin]; exact List.getElem_mem _)
              have hod : ∀ x ∈ O.getD i [], (itemsOf O ch).contains x = false := fun x hx => by
                unfold opI at hop
                rw [Int.toNat_natCast, Bool.not_eq_true', List.any_eq_false] at hop
                exact Bool.not_eq_true _ ▸ hop x hx
              refine (spMark_ok h2 hO hor hin 1 (by omega) hOl).mono ?_
              rintro r X3 ⟨rfl, h3', hl3', hf3'⟩
              rw [show decide ((0 : Int) < 1) = true from rfl, setAll_push n _ _ (fun x hx => (hom x hx).1), offBy_push] at h3'
              have h3 : SpH X3 p pc n O (marks n (itemsOf O (ch ++ [(i : Int)]))) (offL O (ch ++ [(i : Int)])) v2 (s1.found.length : Int) ((b - s1.left : Nat) : Int) b := by
                rw [itemsOf_snoc, Int.toNat_natCast]; exact h3'
              clear h3'
              have hcg3 : ColG X3 (p + 3) v2 ch nilS [] := hcg2.same fun j b hj hb => by rw [hf3' j (by omega) (by omega)]; exact hb
              have hf3 : ∀ j, j < p → X3[j]? = H[j]? := fun j hj => by rw [hf3' j (by omega) (by omega)]; exact hf2 j hj
              have hlen3 := h3.lens
              have hpa3 := fun o => pc_alive (off := o) h3.box
              have hpl3 := fun o => pc_ld (off := o) h3.box
              have hv3 := hcg3.view
              simp (config := { maxSteps := 1000000 }) (disch := (first | omega | (simp only [go_sem]; try omega))) only [go_sem, Nat.reduceAdd, Nat.reduceEqDiff, Nat.reduceLeDiff, Nat.reduceMul, Nat.reduceLT, reduceIte, Int.reduceToNat, w64_id, cast_succ]
              repeat (first | (with_reducible first | refine SW.seq ?_ | refine SW.block ?_ | refine SW.rowC ?_ | refine SW.skip ?_ | refine SW.exit ?_ | intro _ | refine And.intro (by omega) ?_) | simp (config := { maxSteps := 1000000 }) (disch := (first | omega | (simp only [go_sem]; try omega))) only [go_sem, Nat.reduceAdd, Nat.reduceEqDiff, Nat.reduceLeDiff, Nat.reduceMul, Nat.reduceLT, reduceIte, Int.reduceToNat, w64_id, cast_succ, hpa3, hpl3, hv3])
              refine (hcg3.same (H' := X3 ++ [⟨0, 2, 1, [I (i : Int)]⟩]) (fun j b _ hb => get_appU hb _)).push (by simp; omega) (by omega) ?_
              intro v4 X4 g1 g2 g3
              have hx4 : X3.length ≤ X4.length := by simp at g2; omega
              have h4 : SpH X4 p pc n O (marks n (itemsOf O (ch ++ [(i : Int)]))) (offL O (ch ++ [(i : Int)])) v2 (s1.found.length : Int) ((b - s1.left : Nat) : Int) b := h3.same fun j hj => by rw [g3 j (by omega), List.getElem?_append_left (by omega)]
              have w1 : astore X4 [v4] (.pc p 0 3) = some (X4.set p (spB p pc n O.length v4 (s1.found.length : Int) ((b - s1.left : Nat) : Int) b)) := by rw [pc_st h4.box (by simp)]; rfl
              have h5 := h4.setB v4 (s1.found.length : Int) ((b - s1.left : Nat) : Int)
              have hcg5 : ColG (X4.set p (spB p pc n O.length v4 (s1.found.length : Int) ((b - s1.left : Nat) : Int) b)) (p + 3) v4 (ch ++ [(i : Int)]) nilS [] := g1.same fun j b hj hb => by rw [List.getElem?_set_ne (by omega)]; exact hb
              have hl5 : H.length ≤ (X4.set p (spB p pc n O.length v4 (s1.found.length : Int) ((b - s1.left : Nat) : Int) b)).length := by rw [List.length_set]; omega
              have hfr5 : ∀ j, j < p → (X4.set p (spB p pc n O.length v4 (s1.found.length : Int) ((b - s1.left : Nat) : Int) b))[j]? = H[j]? := fun j hj => by
                rw [List.getElem?_set_ne (by omega), g3 j (by omega), List.getElem?_append_left (by omega)]; exact hf3 j hj
              have ra := fun o => pc_alive (off := o) h4.box
              have rl := fun o => pc_ld (off := o) h4.box
              simp (config := { maxSteps := 1000000 }) (disch := (first | omega | (simp only [go_sem]; try omega))) only [go_sem, Nat.reduceAdd, Nat.reduceEqDiff, Nat.reduceLeDiff, Nat.reduceMul, Nat.reduceLT, reduceIte, Int.reduceToNat, w64_id, cast_succ, ra, rl, w1, g1.one.1.1, g1.one.1.2]
              repeat (first | (with_reducible first | refine SW.seq ?_ | refine SW.block ?_ | refine SW.rowC ?_ | refine SW.skip ?_ | refine SW.exit ?_ | intro _ | refine And.intro (by omega) ?_) | simp (config := { maxSteps := 1000000 }) (disch := (first | omega | (simp only [go_sem]; try omega))) only [go_sem, Nat.reduceAdd, Nat.reduceEqDiff, Nat.reduceLeDiff, Nat.reduceMul, Nat.reduceLT, reduceIte, Int.reduceToNat, w64_id, cast_succ, ra, rl, w1, g1.one.1.1, g1.one.1.2])
              generalize X4.set p (spB p pc n O.length v4 (s1.found.length : Int) ((b - s1.left : Nat) : Int) b) = X5 at *
              refine (ih X5 p pc (ch ++ [(i : Int)]) s1 v4 h5 hcg5 hch2 (by simp; omega) (by omega) (by omega) hs1).mono ?_
              rintro r X6 ⟨rfl, ⟨v6, h6, hcg6⟩, hl6, hfr6⟩
              rw [← htake hpk] at h6 ⊢
              generalize hs6 : runC O n false d ch (x0 : Int) ⟨st.left - 1, false, st.found⟩ (i + 1) = s6 at *
              have hv6 := hcg6.view
              obtain ⟨t4, ver4, cells4, rfl, hx4', hy4, hcg7⟩ := hcg6.pop
              have ra6 := fun o => pc_alive (off := o) h6.box
              have rl6 := fun o => pc_ld (off := o) h6.box
              rw [List.length_append, List.length_singleton] at hv6
              have hsl := fun K => slcNT (K := K) (r := t4) (v := ver4) (l := ch.length + 1) (n := ch.length + 1) (y := (ch.length : Int)) (cells := (ch ++ [(i : Int)]).map I) (by rw [hx4']; rfl) (by omega) (by omega)
              rw [Int.toNat_natCast] at hsl
              have w2 : astore X6 [.nm t4 ver4 0 ch.length] (.pc p 0 3) = some (X6.set p (spB p pc n O.length (.nm t4 ver4 0 ch.length) (s6.found.length : Int) (nodC b s6) b)) := by rw [pc_st h6.box (by simp)]; rfl
              have h7 := h6.setB (.nm t4 ver4 0 ch.length) (s6.found.length : Int) (nodC b s6)
              have hcg8 : ColG (X6.set p (spB p pc n O.length (.nm t4 ver4 0 ch.length) (s6.found.length : Int) (nodC b s6) b)) (p + 3) (.nm t4 ver4 0 ch.length) ch nilS [] := hcg7.same fun j b hj hb => by rw [List.getElem?_set_ne (by omega)]; exact hb
              have hl8 : H.length ≤ (X6.set p (spB p pc n O.length (.nm t4 ver4 0 ch.length) (s6.found.length : Int) (nodC b s6) b)).length := by rw [List.length_set]; omega
              have hfr8 : ∀ j, j < p → (X6.set p (spB p pc n O.length (.nm t4 ver4 0 ch.length) (s6.found.length : Int) (nodC b s6) b))[j]? = H[j]? := fun j hj => by
                rw [List.getElem?_set_ne (by omega), hfr6 j hj]; exact hfr5 j hj
              have hsub : ((ch.length + 1 : Nat) : Int) - 1 = (ch.length : Int) := by omega
              repeat (first | (with_reducible first | refine SW.seq ?_ | refine SW.block ?_ | refine SW.rowC ?_ | refine SW.skip ?_ | refine SW.exit ?_ | intro _ | refine And.intro (by omega) ?_) | simp (config := { maxSteps := 1000000 }) (disch := (first | omega | (simp only [go_sem]; try omega))) only [go_sem, Nat.reduceAdd, Nat.reduceEqDiff, Nat.reduceLeDiff, Nat.reduceMul, Nat.reduceLT, reduceIte, Int.reduceToNat, w64_id, cast_succ, ra6, rl6, hv6, hsl, w2, hsub, Option.map_some, Option.map_none])
              generalize X6.set p (spB p pc n O.length (.nm t4 ver4 0 ch.length) (s6.found.length : Int) (nodC b s6) b) = X7 at *
              refine (spMark_ok h7 hO hor2 hin (-1) (by omega) hOl).mono ?_
              rintro r X8 ⟨rfl, h8', hl8', hf8'⟩
              rw [show decide ((0 : Int) < -1) = false from rfl, itemsOf_snoc, Int.toNat_natCast, setAll_pop (fun x hx => (hom x hx).1) hod, offBy_pop] at h8'
              have hcg9 : ColG X8 (p + 3) (.nm t4 ver4 0 ch.length) ch nilS [] := hcg8.same fun j b hj hb => by rw [hf8' j (by omega) (by omega)]; exact hb
              have hf9 : ∀ j, j < p → X8[j]? = H[j]? := fun j hj => by rw [hf8' j (by omega) (by omega)]; exact hfr8 j hj
              cases hs7 : s6.spent
              · repeat (first | (with_reducible first | refine SW.seq ?_ | refine SW.block ?_ | refine SW.rowC ?_ | refine SW.skip ?_ | refine SW.exit ?_ | intro _ | refine And.intro (by omega) ?_) | simp (config := { maxSteps := 1000000 }) (disch := (first | omega | (simp only [go_sem]; try omega))) only [go_sem, Nat.reduceAdd, Nat.reduceEqDiff, Nat.reduceLeDiff, Nat.reduceMul, Nat.reduceLT, reduceIte, Int.reduceToNat, w64_id, cast_succ])
                refine SW.condF rfl ?_
                repeat (first | (with_reducible first | refine SW.seq ?_ | refine SW.block ?_ | refine SW.rowC ?_ | refine SW.skip ?_ | refine SW.exit ?_ | intro _ | refine And.intro (by omega) ?_) | simp (config := { maxSteps := 1000000 }) (disch := (first | omega | (simp only [go_sem]; try omega))) only [go_sem, Nat.reduceAdd, Nat.reduceEqDiff, Nat.reduceLeDiff, Nat.reduceMul, Nat.reduceLT, reduceIte, Int.reduceToNat, w64_id, cast_succ])
                refine SLoop.next (O.length - (i + 1)) (by omega) ⟨i + 1, by omega, rfl, by simp [go_sem], by rw [hs6]; exact hs7, ⟨_, ?_, hcg9⟩, by omega, hf9⟩
                rw [hs6]
                have : nodC b s6 = ((b - s6.left : Nat) : Int) := by unfold nodC; rw [if_neg (by rw [hs7]; simp)]
                rw [← this]; exact h8'
              · repeat (first | (with_reducible first | refine SW.seq ?_ | refine SW.block ?_ | refine SW.rowC ?_ | refine SW.skip ?_ | refine SW.exit ?_ | intro _ | refine And.intro (by omega) ?_) | simp (config := { maxSteps := 1000000 }) (disch := (first | omega | (simp only [go_sem]; try omega))) only [go_sem, Nat.reduceAdd, Nat.reduceEqDiff, Nat.reduceLeDiff, Nat.reduceMul, Nat.reduceLT, reduceIte, Int.reduceToNat, w64_id, cast_succ])
                refine SW.condT rfl ?_
                repeat (first | (with_reducible first | refine SW.seq ?_ | refine SW.block ?_ | refine SW.rowC ?_ | refine SW.skip ?_ | refine SW.exit ?_ | intro _ | refine And.intro (by omega) ?_) | simp (config := { maxSteps := 1000000 }) (disch := (first | omega | (simp only [go_sem]; try omega))) only [go_sem, Nat.reduceAdd, Nat.reduceEqDiff, Nat.reduceLeDiff, Nat.reduceMul, Nat.reduceLT, reduceIte, Int.reduceToNat, w64_id, cast_succ])
                have hfin := hstop hs7 (O.length - (i + 1))
                rw [show i + 1 + (O.length - (i + 1)) = O.length by omega] at hfin
                rw [hfin]
                refine SW.ret ⟨_, rfl, GR.of ⟨by rw [hs7]; rfl, ⟨_, h8', hcg9⟩, by omega, hf9⟩⟩
          · have hop : ¬ opI O (itemsOf O ch) (i : Int) = true := fun hh => hz (off_zero.2 hh)
            have d5 : decide (((ch.countP (meetC O i) : Nat) : Int) = 0) = false := decide_eq_false (by omega)
            repeat (first | (with_reducible first | refine SW.seq ?_ | refine SW.block ?_ | refine SW.rowC ?_ | refine SW.skip ?_ | refine SW.exit ?_ | intro _ | refine And.intro (by omega) ?_) | simp (config := { maxSteps := 1000000 }) (disch := (first | omega | (simp only [go_sem]; try omega))) only [go_sem, Nat.reduceAdd, Nat.reduceEqDiff, Nat.reduceLeDiff, Nat.reduceMul, Nat.reduceLT, reduceIte, Int.reduceToNat, w64_id, cast_succ, hpa2, hpl2, hca2, hcl2, hvo, hgo, d5])
            refine SW.condT rfl ?_
            repeat (first | (with_reducible first | refine SW.seq ?_ | refine SW.block ?_ | refine SW.rowC ?_ | refine SW.skip ?_ | refine SW.exit ?_ | intro _ | refine And.intro (by omega) ?_) | simp (config := { maxSteps := 1000000 }) (disch := (first | omega | (simp only [go_sem]; try omega))) only [go_sem, Nat.reduceAdd, Nat.reduceEqDiff, Nat.reduceLeDiff, Nat.reduceMul, Nat.reduceLT, reduceIte, Int.reduceToNat, w64_id, cast_succ])
            obtain ⟨i2, q1, q2, rfl, q3, q4⟩ := cont (by unfold pickC; rw [Bool.and_eq_false_iff]; exact .inr (by simpa using hop))
            exact SLoop.next (O.length - (i + 1)) (by omega) ⟨i + 1, q1, q2, by simp [go_sem], q3, q4, hl2, hf2⟩
        · have : i = O.length := by omega
          subst this
          repeat (first | (with_reducible first | refine SW.seq ?_ | refine SW.block ?_ | refine SW.rowC ?_ | refine SW.skip ?_ | refine SW.exit ?_ | intro _ | refine And.intro (by omega) ?_) | simp (config := { maxSteps := 1000000 }) (disch := (first | omega | (simp only [go_sem]; try omega))) only [go_sem, Nat.reduceAdd, Nat.reduceEqDiff, Nat.reduceLeDiff, Nat.reduceMul, Nat.reduceLT, reduceIte, Int.reduceToNat, w64_id, cast_succ])
          rw [hsd]
          refine SW.ret ⟨_, rfl, GR.of ⟨by rw [hs1]; rfl, ⟨v2, ?_, hcg2⟩, hl2, hf2⟩⟩
          unfold nodC
          rw [if_neg (by rw [hs1]; simp)]
          exact h2
end Go.Proofs.Ytpaagkipnlbibaa
