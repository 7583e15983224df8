/- Graphs generated: plain mathematics. -/
import Derived.Test.YtmdeibdplpodpaaGreatzHA
import Derived.Test.YtmdeibdplpodpaaGreatzZ4
import Derived.Test.YtmdeibdplpodpaaGreatProg
import Derived.KernelRfl
set_option linter.unusedSimpArgs false
set_option linter.unusedVariables false
set_option maxHeartbeats 4000000
set_option maxRecDepth 100000
namespace Go.Proofs.YtmdeibdplpodpaaGreat
open Go.Av
def gEd (bs : List (List Int)) : List (Int × Int) := bs.map fun b => (b.getD 0 0, b.getD 1 0)
theorem gEd_len (bs : List (List Int)) : (gEd bs).length = bs.length := by simp [gEd]
def gOf (n : Nat) (bs : List (List Int)) : Gr := (List.replicate n 0, gEd bs)
def gAll (n : Nat) (s : Int) (j : Nat) : List Gr := (List.range j).flatMap fun i => (genN n 2 s i).map (gOf n)
theorem gAll_succ (n : Nat) (s : Int) (j : Nat) : gAll n s (j + 1) = gAll n s j ++ (genN n 2 s j).map (gOf n) := by
  unfold gAll; rw [List.range_succ, List.flatMap_append]; simp
theorem nodup_sub_lenH {A : Type} : ∀ {l m : List A}, l.Nodup → (∀ x ∈ l, x ∈ m) → l.length ≤ m.length
  | [], _, _, _ => Nat.zero_le _
  | a :: l, m, hn, hs => by
    rw [List.nodup_cons] at hn
    obtain ⟨s, t, rfl⟩ := List.append_of_mem (hs a (by simp))
    have := nodup_sub_lenH (l := l) (m := s ++ t) hn.2 (fun x hx => by
      have h1 := hs x (by simp [hx])
      rcases List.mem_append.1 h1 with h1 | h1
      · exact List.mem_append_left _ h1
      · rcases List.mem_cons.1 h1 with rfl | h1
        · exact absurd hx hn.1
        · exact List.mem_append_right _ h1)
    simp at this ⊢; omega
theorem pack_len {v k j : Nat} {bs : List (List Int)} (h : packOk v k j bs) : j ≤ ch v k := by
  obtain ⟨h1, h2, h3⟩ := h
  have := nodup_sub_lenH (l := bs) (m := subsN v k) (h2.nodup cmpL_tot) (fun y hy => subsL_all v 0 k y (h3 y hy).1 (by rw [Int.zero_add]; exact (h3 y hy).2))
  unfold subsN at this
  rw [subsL_len] at this
  omega
theorem ch5 : ∀ n, n ≤ 5 → ch n 2 ≤ 10 := by decide
theorem genN_stop {n j : Nat} {s : Int} (h1 : 1 ≤ n) (h5 : n ≤ 5) (hj : 11 ≤ j) : genN n 2 s j = [] := by
  refine List.eq_nil_iff_forall_not_mem.2 fun bs hb => ?_
  have := pack_len ((genN_ok (k := 2) (s := s) h1 (by omega) j).2 bs hb)
  have := ch5 n h5
  omega
theorem genN_nil {n : Nat} {s : Int} {j : Nat} (h : genN n 2 s j = []) : ∀ d, genN n 2 s (j + d) = []
  | 0 => h
  | d + 1 => by
    show genS n 2 s (genN n 2 s (j + d)) = []
    rw [genN_nil h d]; rfl
theorem gAll_end {n : Nat} {s : Int} {j : Nat} (h : genN n 2 s j = []) : ∀ d, gAll n s (j + d) = gAll n s j
  | 0 => rfl
  | d + 1 => by
    rw [show j + (d + 1) = (j + d) + 1 by omega, gAll_succ, genN_nil h d, gAll_end h d]; simp
theorem flatMap_congrH {A B : Type} {f g : A → List B} : ∀ {l : List A}, (∀ x ∈ l, f x = g x) → l.flatMap f = l.flatMap g
  | [], _ => rfl
  | x :: r, h => by
    rw [List.flatMap_cons, List.flatMap_cons, h x (by simp), flatMap_congrH (fun y hy => h y (List.mem_cons_of_mem _ hy))]
theorem any_congrH {A : Type} {f g : A → Bool} : ∀ {l : List A}, (∀ x ∈ l, f x = g x) → l.any f = l.any g
  | [], _ => rfl
  | x :: r, h => by
    rw [List.any_cons, List.any_cons, h x (by simp), any_congrH (fun y hy => h y (List.mem_cons_of_mem _ hy))]
theorem comm_pair {n : Nat} {b set : List Int} (hb : b.length = 2 ∧ asc 0 ((n : Int) - 1) b = true) (hset : set.length = 2 ∧ asc 0 ((n : Int) - 1) set = true) (hne : b ≠ set) : comm b set ≤ 1 := by
  obtain ⟨h1, h2⟩ := hb
  obtain ⟨h3, h4⟩ := hset
  match b, set, h1, h3 with
  | [p, q], [a, c], _, _ =>
    simp only [asc, Bool.and_eq_true, decide_eq_true_eq] at h2 h4
    unfold comm
    rw [List.countP_cons, List.countP_cons, List.countP_nil]
    by_cases hp : [a, c].contains p = true
    · by_cases hq : [a, c].contains q = true
      · exfalso
        simp only [List.contains_cons, List.contains_nil, Bool.or_false, Bool.or_eq_true, beq_iff_eq] at hp hq
        have e1 : p = a := by omega
        have e2 : q = c := by omega
        exact hne (by rw [e1, e2])
      · rw [if_neg hq]; split <;> omega
    · rw [if_neg hp]; split <;> omega
theorem fit_pair {n : Nat} {bs : List (List Int)} {set : List Int} {s : Int} (hs : 1 ≤ s) (hb : ∀ b ∈ bs, b.length = 2 ∧ asc 0 ((n : Int) - 1) b = true) (hset : set.length = 2 ∧ asc 0 ((n : Int) - 1) set = true) :
    fitB bs s set = !bs.any fun b => decide (b = set) := by
  unfold fitB
  congr 1
  refine any_congrH fun b hm => ?_
  by_cases h : b = set
  · rw [decide_eq_true h]; rfl
  · have := comm_pair (hb b hm) hset h
    rw [decide_eq_false h, decide_eq_false (show ¬ s < (comm b set : Int) by omega)]; rfl
theorem exts_pair {n : Nat} {bs : List (List Int)} {s : Int} (hs : 1 ≤ s) (hb : ∀ b ∈ bs, b.length = 2 ∧ asc 0 ((n : Int) - 1) b = true) : exts n bs 2 s = exts n bs 2 1 := by
  unfold exts
  refine List.filter_congr fun set hm => ?_
  have h := subsL_mem n 0 2 set hm
  rw [Int.zero_add] at h
  rw [fit_pair hs hb h, fit_pair (by omega) hb h]
theorem genS_pair {n j : Nat} {s : Int} (hs : 1 ≤ s) {L : List (List (List Int))} (hL : ∀ bs ∈ L, packOk n 2 j bs) : genS n 2 s L = genS n 2 1 L := by
  unfold genS growL
  congr 1
  refine flatMap_congrH fun bs hm => ?_
  unfold grow1
  rw [exts_pair hs (hL bs hm).2.2]
theorem genN_pair {n : Nat} {s : Int} (h1 : 1 ≤ n) (h5 : n ≤ 5) (hs : 1 ≤ s) : ∀ j, genN n 2 s j = genN n 2 1 j
  | 0 => rfl
  | j + 1 => by
    show genS n 2 s (genN n 2 s j) = genS n 2 1 (genN n 2 1 j)
    rw [genN_pair h1 h5 hs j, genS_pair hs (genN_ok (k := 2) (s := 1) h1 (by omega) j).2]
theorem gAll_pair {n : Nat} {s : Int} (h1 : 1 ≤ n) (h5 : n ≤ 5) (hs : 1 ≤ s) (j : Nat) : gAll n s j = gAll n 1 j := by
  unfold gAll
  refine flatMap_congrH fun i _ => ?_
  rw [genN_pair h1 h5 hs]
theorem gAll_len {n : Nat} {s : Int} (h1 : 1 ≤ n) (h5 : n ≤ 5) : ∀ j, (gAll n s j).length ≤ j * 1048576
  | 0 => by simp [gAll]
  | j + 1 => by
    obtain ⟨ga, go⟩ := genN_ok (k := 2) (s := s) h1 (by omega) j
    have := pack_count (by omega) (by omega) ga go
    have := gAll_len (s := s) h1 h5 j
    rw [gAll_succ, List.length_append, List.length_map]; omega
theorem gAll_ok {n : Nat} {s : Int} (h1 : 1 ≤ n) (h5 : n ≤ 5) {j : Nat} {g : Gr} (hg : g ∈ gAll n s j) : g.1.length = n ∧ g.2.length ≤ 10 := by
  unfold gAll at hg
  obtain ⟨i, _, hi⟩ := List.mem_flatMap.1 hg
  obtain ⟨bs, hb, rfl⟩ := List.mem_map.1 hi
  have h := (genN_ok (k := 2) (s := s) h1 (by omega) i).2 bs hb
  have h2 := pack_len h
  have h3 := ch5 n h5
  unfold gOf gEd
  simp
  have := h.1
  omega
theorem sizeG_le : ∀ {gs : List Gr} {m : Nat}, (∀ g ∈ gs, g.1.length + 2 * g.2.length ≤ m) → sizeG gs ≤ gs.length * m
  | [], _, _ => by simp [sizeG]
  | g :: r, m, h => by
    have h1 := h g (by simp)
    have h2 := sizeG_le (gs := r) (m := m) (fun x hx => h x (List.mem_cons_of_mem _ hx))
    simp only [sizeG, List.length_cons, Nat.add_mul]; omega
def ggV (n : Int) : List Gr := if 1 ≤ n ∧ n ≤ 5 then gAll n.toNat 1 11 else []
def ggC (n : Int) : Int := if 1 ≤ n ∧ n ≤ 5 then 0 else 2
theorem ggV_ok (n : Int) : okG (ggV n) ∧ (ggV n).length ≤ 11534336 ∧ sizeG (ggV n) ≤ 400000000 := by
  unfold ggV
  by_cases h : 1 ≤ n ∧ n ≤ 5
  · rw [if_pos h]
    have hl := gAll_len (n := n.toNat) (s := 1) (by omega) (by omega) 11
    have ho : ∀ g ∈ gAll n.toNat 1 11, g.1.length = n.toNat ∧ g.2.length ≤ 10 := fun g hg => gAll_ok (by omega) (by omega) hg
    have hs := sizeG_le (gs := gAll n.toNat 1 11) (m := 25) (fun g hg => by have := ho g hg; omega)
    exact ⟨fun g hg => by have := ho g hg; omega, by omega, by omega⟩
  · rw [if_neg h]
    exact ⟨fun g hg => by simp at hg, by simp, by simp [sizeG]⟩
end Go.Proofs.YtmdeibdplpodpaaGreat
namespace Go.Proofs.YtmdeibdplpodpaaGreat
open Go.Av
abbrev f_impl_GenerateGraphs : Nat := 15
def c_impl_GenerateGraphs : SC :=
 .seq (.reg [
     ⟨(some 2), .mv (.const (.slice none 0 0)), none⟩,
     ⟨(some 3), .mv (.const (.int .i64 0)), none⟩] [0])
 (.seq (.seq (.reg [
     ⟨(some 11), .mv (.tmp 0), none⟩,
     ⟨(some 12), .call 46 [(.tmp 11), (.const (.int .i64 1)), (.const (.int .i64 5))], none⟩,
     ⟨(some 13), .un .not (.tmp 12), none⟩] [0, 13])
 (.cond (.tmp 13)
  (.seq (.reg [
      ⟨(some 2), .mv (.const (.slice none 0 0)), none⟩,
      ⟨(some 3), .mv (.const (.int .i64 2)), none⟩] [2, 3])
  (.ret))
  (.skip)))
 (.seq (.reg [
     ⟨(some 4), .mv (.const (.slice none 0 0)), none⟩] [0, 4])
 (.seq (.seq (.reg [
     ⟨(some 14), .bslice 25 1 1 [(.slice none 0 0)] [(0, (.const (.slice none 0 0)))], none⟩,
     ⟨(some 5), .mv (.tmp 14), none⟩] [0, 4, 5])
 (.block 0 (.loop [0, 4, 5]
   (.seq (.seq (.reg [
       ⟨(some 15), .mv (.tmp 5), none⟩,
       ⟨(some 16), .len (.tmp 15), none⟩,
       ⟨(some 17), .bin .gtr (.tmp 16) (.const (.int .i64 0)), none⟩] [0, 4, 5, 17])
   (.cond (.tmp 17)
    (.skip)
    (.exit 0)))
   (.seq (.block 1 (.seq (.reg [
        ⟨(some 22), .mv (.tmp 5), none⟩,
        ⟨(some 23), .len (.tmp 22), none⟩,
        ⟨(some 24), .mv (.const (.int .i64 0)), none⟩] [0, 4, 5, 22, 23, 24])
    (.block 2 (.loop [0, 4, 5, 22, 23, 24]
      (.seq (.reg [
          ⟨(some 25), .bin .lss (.tmp 24) (.tmp 23), none⟩] [0, 4, 5, 22, 23, 24, 25])
      (.seq (.cond (.tmp 25)
       (.skip)
       (.exit 2))
      (.seq (.block 3 (.seq (.reg [
           ⟨(some 26), .iaddr 1 (.tmp 22) (.tmp 24), none⟩,
           ⟨(some 27), .load 1 false (.tmp 26), none⟩,
           ⟨(some 7), .mv (.tmp 27), none⟩] [0, 4, 5, 7, 22, 23, 24])
       (.seq (.reg [
           ⟨(some 28), .mv (.tmp 0), none⟩,
           ⟨(some 29), .mslice 2 8 (.int .i64 0) (.tmp 28) (.tmp 28), none⟩,
           ⟨(some 30), .build [(.slice none 0 0), (.slice none 0 0)] [(0, 1, (.tmp 29))], none⟩,
           ⟨(some 8), .alloc 31 [(.slice none 0 0), (.slice none 0 0)], none⟩,
           ⟨none, .store 2 (.tmp 8) (.tmp 30), none⟩] [0, 4, 5, 7, 8, 22, 23, 24])
       (.seq (.seq (.reg [
           ⟨(some 31), .mv (.tmp 7), none⟩,
           ⟨(some 32), .len (.tmp 31), none⟩,
           ⟨(some 33), .mv (.const (.int .i64 0)), none⟩] [0, 4, 5, 8, 22, 23, 24, 31, 32, 33])
       (.block 4 (.loop [0, 4, 5, 8, 22, 23, 24, 31, 32, 33]
         (.seq (.reg [
             ⟨(some 34), .bin .lss (.tmp 33) (.tmp 32), none⟩] [0, 4, 5, 8, 22, 23, 24, 31, 32, 33, 34])
         (.seq (.cond (.tmp 34)
          (.skip)
          (.exit 4))
         (.seq (.block 5 (.seq (.reg [
              ⟨(some 35), .iaddr 1 (.tmp 31) (.tmp 33), none⟩,
              ⟨(some 36), .load 1 false (.tmp 35), none⟩,
              ⟨(some 10), .mv (.tmp 36), none⟩] [0, 4, 5, 8, 10, 22, 23, 24, 31, 32, 33])
          (.reg [
              ⟨(some 37), .faddr 1 (.tmp 8), none⟩,
              ⟨(some 38), .load 1 false (.tmp 37), none⟩,
              ⟨(some 39), .mv (.tmp 10), none⟩,
              ⟨(some 40), .iaddr 1 (.tmp 39) (.const (.int .i64 0)), none⟩,
              ⟨(some 41), .load 1 false (.tmp 40), none⟩,
              ⟨(some 42), .mv (.tmp 10), none⟩,
              ⟨(some 43), .iaddr 1 (.tmp 42) (.const (.int .i64 1)), none⟩,
              ⟨(some 44), .load 1 false (.tmp 43), none⟩,
              ⟨(some 45), .build [(.int .i64 0), (.int .i64 0)] [(0, 1, (.tmp 41)), (1, 1, (.tmp 44))], none⟩,
              ⟨(some 46), .bslice 72 2 1 [(.int .i64 0), (.int .i64 0)] [(0, (.tmp 45))], none⟩,
              ⟨(some 47), .app 72 2 16 (.tmp 38) (.tmp 46), none⟩,
              ⟨(some 48), .faddr 1 (.tmp 8), none⟩,
              ⟨none, .store 1 (.tmp 48) (.tmp 47), none⟩] [0, 4, 5, 8, 22, 23, 24, 31, 32, 33])))
         (.reg [
             ⟨(some 49), .bin .add (.tmp 33) (.const (.int .i64 1)), none⟩,
             ⟨(some 33), .mv (.tmp 49), none⟩] [0, 4, 5, 8, 22, 23, 24, 31, 32, 33])))))))
       (.reg [
           ⟨(some 50), .mv (.tmp 4), none⟩,
           ⟨(some 51), .load 2 true (.tmp 8), none⟩,
           ⟨(some 52), .bslice 31 2 1 [(.slice none 0 0), (.slice none 0 0)] [(0, (.tmp 51))], none⟩,
           ⟨(some 53), .app 31 2 48 (.tmp 50) (.tmp 52), none⟩,
           ⟨(some 4), .mv (.tmp 53), none⟩] [0, 4, 5, 22, 23, 24])))))
      (.reg [
          ⟨(some 54), .bin .add (.tmp 24) (.const (.int .i64 1)), none⟩,
          ⟨(some 24), .mv (.tmp 54), none⟩] [0, 4, 5, 22, 23, 24]))))))))
   (.reg [
       ⟨(some 18), .mv (.tmp 0), none⟩,
       ⟨(some 19), .mv (.tmp 5), none⟩,
       ⟨(some 20), .mv (.tmp 0), none⟩,
       ⟨(some 21), .call 47 [(.tmp 18), (.tmp 19), (.const (.int .i64 2)), (.tmp 20)], none⟩,
       ⟨(some 5), .mv (.tmp 21), none⟩] [0, 4, 5]))))))
 (.seq (.reg [
     ⟨(some 55), .mv (.tmp 4), none⟩,
     ⟨(some 2), .mv (.tmp 55), none⟩,
     ⟨(some 3), .mv (.const (.int .i64 0)), none⟩] [2, 3])
 (.ret)))))
theorem s_impl_GenerateGraphs : stripF Tryz.prog 15 [[0], [0, 13], [2, 3], [0, 4], [0, 4, 5], [0, 4, 5], [0, 4, 5, 17], [0, 4, 5, 22, 23, 24], [0, 4, 5, 22, 23, 24], [0, 4, 5, 22, 23, 24, 25], [0, 4, 5, 7, 22, 23, 24], [0, 4, 5, 7, 8, 22, 23, 24], [0, 4, 5, 8, 22, 23, 24, 31, 32, 33], [0, 4, 5, 8, 22, 23, 24, 31, 32, 33], [0, 4, 5, 8, 22, 23, 24, 31, 32, 33, 34], [0, 4, 5, 8, 10, 22, 23, 24, 31, 32, 33], [0, 4, 5, 8, 22, 23, 24, 31, 32, 33], [0, 4, 5, 8, 22, 23, 24, 31, 32, 33], [0, 4, 5, 22, 23, 24], [0, 4, 5, 22, 23, 24], [0, 4, 5], [2, 3]] = some (c_impl_GenerateGraphs, [.tmp 2, .tmp 3], 56) := by kernel_rfl
def OwnG (H : List Blk) (N : Nat → Prop) (a : AV) (gs : List Gr) : Prop := (∃ t ver ty cells M, a = .nm t ver 0 gs.length ∧ OwnGC H N M t ver ty cells gs) ∨ (gs = [] ∧ a = nilS)
def RowE (H : List Blk) (b : Nat) (c : AV) (es : List (Int × Int)) : Prop := (∃ r v, c = .nm r v 0 es.length ∧ b ≤ r ∧ H[r]? = some ⟨v, tyE, 2, flatE es⟩) ∨ (es = [] ∧ c = nilS)
theorem RowE.app {Y : List Blk} {b bytes : Nat} {c : AV} {es : List (Int × Int)} (h : RowE Y b c es) (hbY : b ≤ Y.length) (hr : es.length + 1 ≤ 100000) (hby : bytes ≤ 100) (x y : Int) {K : AV → List Blk → Prop}
    (hk : ∀ v Z, v.cell1 = true ∧ partsOf v = [v] → Y.length ≤ Z.length → RowE Z b v (es ++ [(x, y)]) → (∀ j, j < b → Z[j]? = Y[j]?) → K v Z) : AppX tyE 2 bytes Y c K (some (1, [I x, I y])) := by
  have hci : ([I x, I y] : List AV).all AV.cell1 = true := rfl
  have hmul : ∀ m : Nat, m ≤ 100000 → m * bytes ≤ 140737488355328 := fun m hm => Nat.le_trans (Nat.mul_le_mul hm hby) (by omega)
  have hfl : flatE (es ++ [(x, y)]) = flatE es ++ [I x, I y] := by simp [flatE]
  rcases h with ⟨r, v, rfl, o1, o2⟩ | ⟨rfl, rfl⟩
  · have hYl := (List.getElem?_eq_some_iff.1 o2).1
    rw [AppX_nm (h1 := rfl) (h2 := hci), o2, AppN_in (h1 := by rw [flatE_length]; omega) (h2 := hmul _ hr) (h3 := by omega), List.take_of_length_le (by rw [flatE_length]; omega)]
    refine hk _ _ ⟨rfl, rfl⟩ (by rw [List.length_set]; exact Nat.le_refl _) (.inl ⟨r, v + 1, by simp, o1, ?_⟩) (fun j hj => by rw [List.getElem?_set_ne (by omega)])
    rw [List.getElem?_set_self hYl, hfl]
  · rw [AppX_nil (h1 := rfl) (h2 := hci) (h3 := hmul 1 (by omega)) (h4 := by omega)]
    refine hk _ _ ⟨rfl, rfl⟩ (by simp) (.inl ⟨Y.length, 1, rfl, hbY, by simp [flatE]⟩) (fun j hj => by rw [List.getElem?_append_left (by omega)])
theorem appNG {X : List Blk} {t ver n ty sz bytes : Nat} {cells xs : List AV} {K : AV → List Blk → Prop} (hX : X[t]? = some ⟨ver, ty, sz, cells⟩) (hl : cells.length = n * sz) (hn : n ≤ 1000000000) (hby : bytes ≤ 100) (hk : K (.nm t (ver + 1) 0 (n + 1)) (X.set t ⟨ver + 1, ty, sz, cells ++ xs⟩)) :
    AppN ty sz bytes t ver n 1 xs X K X[t]? := by
  have htl : cells.take (n * sz) = cells := List.take_of_length_le (by omega)
  have hmul : (n + 1) * bytes ≤ 1000000001 * 100 := Nat.mul_le_mul (by omega) hby
  simp only [AppN, hX]
  refine ⟨trivial, trivial, trivial, by omega, by omega, by omega, ?_⟩
  rw [htl]
  exact hk
theorem RowE.same {H H' : List Blk} {b : Nat} {c : AV} {es : List (Int × Int)} (h : RowE H b c es) (hs : ∀ j bl, b ≤ j → H[j]? = some bl → H'[j]? = some bl) : RowE H' b c es :=
  h.elim (fun ⟨r, v, e, o1, o2⟩ => .inl ⟨r, v, e, o1, hs _ _ o1 o2⟩) .inr
theorem RowE.ownE {H : List Blk} {b : Nat} {c : AV} {es : List (Int × Int)} (h : RowE H b c es) : OwnE H (Fr b) c es :=
  h.elim (fun ⟨r, v, e, o1, o2⟩ => .inl ⟨r, v, tyE, e, o1, o2⟩) (fun ⟨e1, e2⟩ => .inr ⟨e1, .inl e2⟩)
theorem implGenGr_ok (n : Int) : ∀ H, ACalls Tryz.prog f_impl_GenerateGraphs [I n] H fun r H' => ∃ ext v, H' = H ++ ext ∧ r = .tup [v, I (ggC n)] ∧ OwnG H' (Btw H.length H'.length) v (ggV n) := by
  have hwi := within_fn n 1 5
  intro H
  unfold ggV ggC
  by_cases hn : 1 ≤ n ∧ n ≤ 5
  rotate_left
  · rw [show (decide (1 ≤ n) && decide (n ≤ 5)) = false by rw [Bool.and_eq_false_iff, decide_eq_false_iff_not, decide_eq_false_iff_not]; omega] at hwi
    rw [if_neg hn, if_neg hn]
    refine ACalls.introB s_impl_GenerateGraphs (by simp) ?_; intro hB hA; unfold c_impl_GenerateGraphs; simp (config := { maxSteps := 1000000 }) (disch := (first | omega | (simp only [go_sem]; try omega))) only [go_sem, Nat.reduceAdd, Nat.reduceEqDiff, Nat.reduceLeDiff, Nat.reduceMul, Nat.reduceLT, reduceIte, Int.reduceToNat, w64_id, cast_succ]
    repeat (first | (with_reducible first | refine SW.seq ?_ | refine SW.block ?_ | refine SW.rowC ?_ | refine SW.skip ?_ | refine SW.exit ?_ | refine PFn.use (hwi) ?_ | refine PFn.useq (hwi) ?_ | intro _ | refine And.intro (by omega) ?_) | simp (config := { maxSteps := 1000000 }) (disch := (first | omega | (simp only [go_sem]; try omega))) only [go_sem, Nat.reduceAdd, Nat.reduceEqDiff, Nat.reduceLeDiff, Nat.reduceMul, Nat.reduceLT, reduceIte, Int.reduceToNat, w64_id, cast_succ])
    refine SW.condT rfl ?_
    repeat (first | (with_reducible first | refine SW.seq ?_ | refine SW.block ?_ | refine SW.rowC ?_ | refine SW.skip ?_ | refine SW.exit ?_ | intro _ | refine And.intro (by omega) ?_) | simp (config := { maxSteps := 1000000 }) (disch := (first | omega | (simp only [go_sem]; try omega))) only [go_sem, Nat.reduceAdd, Nat.reduceEqDiff, Nat.reduceLeDiff, Nat.reduceMul, Nat.reduceLT, reduceIte, Int.reduceToNat, w64_id, cast_succ])
    refine SW.ret ?_; (try simp only [go_sem]); (first | refine FunPost.one ?_ | refine FunPost.two ?_ | refine FunPost.three ?_); (try simp (config := { maxSteps := 1000000 }) (disch := (first | omega | (simp only [go_sem]; try omega))) only [go_sem, Nat.reduceAdd, Nat.reduceEqDiff, Nat.reduceLeDiff, Nat.reduceMul, Nat.reduceLT, reduceIte, Int.reduceToNat, w64_id, cast_succ])
    exact GR.of ⟨[], _, by simp, rfl, .inr ⟨rfl, rfl⟩⟩
  rw [show (decide (1 ≤ n) && decide (n ≤ 5)) = true by rw [Bool.and_eq_true, decide_eq_true_eq, decide_eq_true_eq]; exact hn] at hwi
  rw [if_pos hn, if_pos hn]
  obtain ⟨n, rfl⟩ := Int.eq_ofNat_of_zero_le (show 0 ≤ n by omega)
  rw [Int.toNat_natCast]
  have h1 : 1 ≤ n := by omega
  have h5 : n ≤ 5 := by omega
  refine ACalls.introB s_impl_GenerateGraphs (by simp) ?_; intro hB hA; unfold c_impl_GenerateGraphs; simp (config := { maxSteps := 1000000 }) (disch := (first | omega | (simp only [go_sem]; try omega))) only [go_sem, Nat.reduceAdd, Nat.reduceEqDiff, Nat.reduceLeDiff, Nat.reduceMul, Nat.reduceLT, reduceIte, Int.reduceToNat, w64_id, cast_succ]
  repeat (first | (with_reducible first | refine SW.seq ?_ | refine SW.block ?_ | refine SW.rowC ?_ | refine SW.skip ?_ | refine SW.exit ?_ | refine PFn.use (hwi) ?_ | refine PFn.useq (hwi) ?_ | intro _ | refine And.intro (by omega) ?_) | simp (config := { maxSteps := 1000000 }) (disch := (first | omega | (simp only [go_sem]; try omega))) only [go_sem, Nat.reduceAdd, Nat.reduceEqDiff, Nat.reduceLeDiff, Nat.reduceMul, Nat.reduceLT, reduceIte, Int.reduceToNat, w64_id, cast_succ])
  refine SW.condF rfl ?_
  repeat (first | (with_reducible first | refine SW.seq ?_ | refine SW.block ?_ | refine SW.rowC ?_ | refine SW.skip ?_ | refine SW.exit ?_ | intro _ | refine And.intro (by omega) ?_) | simp (config := { maxSteps := 1000000 }) (disch := (first | omega | (simp only [go_sem]; try omega))) only [go_sem, Nat.reduceAdd, Nat.reduceEqDiff, Nat.reduceLeDiff, Nat.reduceMul, Nat.reduceLT, reduceIte, Int.reduceToNat, w64_id, cast_succ])
  refine SW.ghost (Gh.name 4 31 2 rfl) ?_
  simp (config := { maxSteps := 1000000 }) (disch := (first | omega | (simp only [go_sem]; try omega))) only [go_sem, Nat.reduceAdd, Nat.reduceEqDiff, Nat.reduceLeDiff, Nat.reduceMul, Nat.reduceLT, reduceIte, Int.reduceToNat, w64_id, cast_succ]
  have own0 : OwnX (H ++ [(⟨0, 25, 1, [nilS]⟩ : Blk), ⟨0, tyGr, 2, []⟩]) (fun r => H.length ≤ r ∧ r ≠ H.length + 1) (.nm H.length 0 0 1) [[]] := by
    refine .inl ⟨H.length, 0, 25, [nilS], fun j r => False, rfl, ⟨by omega, by omega⟩, by simp, rfl, ?_, by simp, by simp⟩
    intro j c xs g1 g2
    cases j with
    | succ j => simp at g1
    | zero =>
      simp at g1 g2
      subst g1; subst g2
      exact .inr ⟨rfl, .inl rfl⟩
  refine SW.loopE (fun E0 H0 q E' X => ∃ (j : Nat) (w : AV) (ver : Nat) (cells : List AV) (M : Nat → Nat → Prop), j ≤ 11 ∧ q = 11 - j ∧ E' = aput (aput E0 5 w) 4 (.nm (H.length + 1) ver 0 (gAll n n j).length) ∧ OwnX X (fun r => H.length ≤ r ∧ r ≠ H.length + 1) w (genN n 2 n j) ∧ OwnGC X (Btw H.length X.length) M (H.length + 1) ver tyGr cells (gAll n n j) ∧ ∀ i, i < H.length → X[i]? = H[i]?) 11
    ⟨0, _, 0, [], fun _ _ => False, by omega, by omega, rfl, own0, ⟨⟨by omega, by simp⟩, by simp, rfl, fun j hj => by simp [gAll] at hj, fun j r h => h.elim, fun i j r h => h.elim⟩, fun i hi => by rw [List.getElem?_append_left hi]⟩ ?_
  rintro q E' X ⟨j, w, ver, cells, M, hj, rfl, rfl, ow, og, hXf⟩
  obtain ⟨ga, go⟩ := genN_ok (v := n) (k := 2) (s := n) h1 (by omega) j
  have gc := pack_count (by omega) (by omega) ga go
  have gs : genN n 2 n (j + 1) = genS n 2 n (genN n 2 n j) := rfl
  have gn := gAll_succ n n j
  have gl := gAll_len (s := n) h1 h5 j
  obtain ⟨wc, vw, wl, wrd⟩ := ow.rd
  have hone := ow.one
  by_cases hz : genN n 2 n j = []
  · have hend := gAll_end hz (11 - j)
    rw [show j + (11 - j) = 11 by omega, gAll_pair h1 h5 (by omega)] at hend
    rw [hz] at vw
    simp (config := { maxSteps := 1000000 }) (disch := (first | omega | (simp only [go_sem]; try omega))) only [go_sem, Nat.reduceAdd, Nat.reduceEqDiff, Nat.reduceLeDiff, Nat.reduceMul, Nat.reduceLT, reduceIte, Int.reduceToNat, w64_id, cast_succ]
    repeat (first | (with_reducible first | refine SW.seq ?_ | refine SW.block ?_ | refine SW.rowC ?_ | refine SW.skip ?_ | refine SW.exit ?_ | intro _ | refine And.intro (by omega) ?_) | simp (config := { maxSteps := 1000000 }) (disch := (first | omega | (simp only [go_sem]; try omega))) only [go_sem, Nat.reduceAdd, Nat.reduceEqDiff, Nat.reduceLeDiff, Nat.reduceMul, Nat.reduceLT, reduceIte, Int.reduceToNat, w64_id, cast_succ, vw])
    refine SW.condF rfl ?_
    repeat (first | (with_reducible first | refine SW.seq ?_ | refine SW.block ?_ | refine SW.rowC ?_ | refine SW.skip ?_ | refine SW.exit ?_ | intro _ | refine And.intro (by omega) ?_) | simp (config := { maxSteps := 1000000 }) (disch := (first | omega | (simp only [go_sem]; try omega))) only [go_sem, Nat.reduceAdd, Nat.reduceEqDiff, Nat.reduceLeDiff, Nat.reduceMul, Nat.reduceLT, reduceIte, Int.reduceToNat, w64_id, cast_succ])
    refine SW.ret ?_; (try simp only [go_sem]); (first | refine FunPost.one ?_ | refine FunPost.two ?_ | refine FunPost.three ?_); (try simp (config := { maxSteps := 1000000 }) (disch := (first | omega | (simp only [go_sem]; try omega))) only [go_sem, Nat.reduceAdd, Nat.reduceEqDiff, Nat.reduceLeDiff, Nat.reduceMul, Nat.reduceLT, reduceIte, Int.reduceToNat, w64_id, cast_succ])
    obtain ⟨ext, he⟩ := prefix_of (H := H) (H' := X) (by have := (List.getElem?_eq_some_iff.1 og.tb).1; omega) hXf
    rw [hend]
    exact GR.of ⟨ext, _, he, rfl, .inl ⟨_, _, _, _, _, rfl, og⟩⟩
  · have hjs : j ≤ 10 := by
      by_cases h : j ≤ 10
      · exact h
      · exact absurd (genN_stop h1 h5 (by omega)) hz
    have hlp : 0 < (genN n 2 n j).length := List.length_pos_iff.2 hz
    generalize genN n 2 n j = L at *
    generalize gAll n n j = G at *
    have d1 : decide ((0 : Int) < (L.length : Int)) = true := decide_eq_true (by omega)
    simp (config := { maxSteps := 1000000 }) (disch := (first | omega | (simp only [go_sem]; try omega))) only [go_sem, Nat.reduceAdd, Nat.reduceEqDiff, Nat.reduceLeDiff, Nat.reduceMul, Nat.reduceLT, reduceIte, Int.reduceToNat, w64_id, cast_succ]
    repeat (first | (with_reducible first | refine SW.seq ?_ | refine SW.block ?_ | refine SW.rowC ?_ | refine SW.skip ?_ | refine SW.exit ?_ | intro _ | refine And.intro (by omega) ?_) | simp (config := { maxSteps := 1000000 }) (disch := (first | omega | (simp only [go_sem]; try omega))) only [go_sem, Nat.reduceAdd, Nat.reduceEqDiff, Nat.reduceLeDiff, Nat.reduceMul, Nat.reduceLT, reduceIte, Int.reduceToNat, w64_id, cast_succ, vw, d1])
    refine SW.condT rfl ?_
    repeat (first | (with_reducible first | refine SW.seq ?_ | refine SW.block ?_ | refine SW.rowC ?_ | refine SW.skip ?_ | refine SW.exit ?_ | intro _ | refine And.intro (by omega) ?_) | simp (config := { maxSteps := 1000000 }) (disch := (first | omega | (simp only [go_sem]; try omega))) only [go_sem, Nat.reduceAdd, Nat.reduceEqDiff, Nat.reduceLeDiff, Nat.reduceMul, Nat.reduceLT, reduceIte, Int.reduceToNat, w64_id, cast_succ, vw])
    have hXl := (List.getElem?_eq_some_iff.1 og.tb).1
    refine SW.loopE (fun E0 H0 q E' Y => ∃ (i : Nat) (ver' : Nat) (cells' : List AV) (M' : Nat → Nat → Prop), i ≤ L.length ∧ q = L.length - i ∧ E' = aput (aput E0 24 (I i)) 4 (.nm (H.length + 1) ver' 0 (G ++ (L.take i).map (gOf n)).length) ∧ OwnGC Y (Btw H.length Y.length) M' (H.length + 1) ver' tyGr cells' (G ++ (L.take i).map (gOf n)) ∧ X.length ≤ Y.length ∧ ∀ r, r < X.length → r ≠ H.length + 1 → Y[r]? = X[r]?) L.length
      ⟨0, ver, cells, M, by omega, by omega, by simp [go_sem], by simpa using og, Nat.le_refl _, fun _ _ _ => rfl⟩ ?_
    rintro q E' Y ⟨i, ver', cells', M', hi, rfl, rfl, oy, hYl, hYf⟩
    have owy := ow.same (H' := Y) (fun r b hr hb => by rw [hYf r (List.getElem?_eq_some_iff.1 hb).1 hr.2]; exact hb)
    obtain ⟨yc, vy, yl, yrd⟩ := owy.rd
    have honey := owy.one
    have hts : ∀ h : i < L.length, G ++ (L.take (i + 1)).map (gOf n) = (G ++ (L.take i).map (gOf n)) ++ [gOf n (L.getD i [])] := fun h => by
      rw [List.take_add_one, List.getElem?_eq_getElem h, List.map_append, getD_get h, List.append_assoc]; rfl
    have hgl : (G ++ (L.take i).map (gOf n)).length ≤ 12 * 1048576 := by rw [List.length_append, List.length_map, List.length_take]; omega
    by_cases hiL : i < L.length
    · have d2 : decide ((i : Int) < (L.length : Int)) = true := decide_eq_true (by omega)
      have hts := hts hiL
      generalize hGi : G ++ (L.take i).map (gOf n) = Gi at *
      obtain ⟨c, hc⟩ : ∃ c, yc[i]? = some c := ⟨_, List.getElem?_eq_getElem (by omega)⟩
      obtain ⟨bc, vb, bl, brd⟩ := yrd i c (L.getD i []) hc (by rw [getD_get hiL, List.getElem?_eq_getElem hiL])
      have hbs := go (L.getD i []) (by rw [getD_get hiL]; exact List.getElem_mem _)
      generalize L.getD i [] = bs at *
      simp (config := { maxSteps := 1000000 }) (disch := (first | omega | (simp only [go_sem]; try omega))) only [go_sem, Nat.reduceAdd, Nat.reduceEqDiff, Nat.reduceLeDiff, Nat.reduceMul, Nat.reduceLT, reduceIte, Int.reduceToNat, w64_id, cast_succ]
      repeat (first | (with_reducible first | refine SW.seq ?_ | refine SW.block ?_ | refine SW.rowC ?_ | refine SW.skip ?_ | refine SW.exit ?_ | intro _ | refine And.intro (by omega) ?_) | simp (config := { maxSteps := 1000000 }) (disch := (first | omega | (simp only [go_sem]; try omega))) only [go_sem, Nat.reduceAdd, Nat.reduceEqDiff, Nat.reduceLeDiff, Nat.reduceMul, Nat.reduceLT, reduceIte, Int.reduceToNat, w64_id, cast_succ, d2, vy])
      refine SW.condT rfl ?_
      have hvb : ∀ ext, aview (Y ++ ext) c = some (bs.length, bc) := fun ext => aview_append vb ext
      repeat (first | (with_reducible first | refine SW.seq ?_ | refine SW.block ?_ | refine SW.rowC ?_ | refine SW.skip ?_ | refine SW.exit ?_ | intro _ | refine And.intro (by omega) ?_) | simp (config := { maxSteps := 1000000 }) (disch := (first | omega | (simp only [go_sem]; try omega))) only [go_sem, Nat.reduceAdd, Nat.reduceEqDiff, Nat.reduceLeDiff, Nat.reduceMul, Nat.reduceLT, reduceIte, Int.reduceToNat, w64_id, cast_succ, vy, hc, hvb])
      refine SW.loopE (fun E0 H0 q E' Z => ∃ (k : Nat) (v : AV), k ≤ bs.length ∧ q = bs.length - k ∧ E' = aput E0 33 (I k) ∧ Z[Y.length]? = some ⟨0, 2, 1, (List.replicate n 0).map I⟩ ∧ Z[Y.length + 1]? = some ⟨0, tyGr, 1, [.nm Y.length 0 0 n, v]⟩ ∧ RowE Z (Y.length + 2) v (gEd (bs.take k)) ∧ ∀ j, j < Y.length → Z[j]? = Y[j]?) bs.length
        ⟨0, nilS, by omega, by omega, rfl, by simp, by simp, .inr ⟨rfl, rfl⟩, fun j hj => by rw [List.getElem?_append_left hj]⟩ ?_
      rintro q E' Z ⟨k, v, hk, rfl, rfl, hZ0, hZ1, hZr, hZf⟩
      have hZl := (List.getElem?_eq_some_iff.1 hZ1).1
      have hpx : ∀ a x ext, aview Y a = some x → aview (Z ++ ext) a = some x := fun a x ext h => by
        obtain ⟨e, he⟩ := prefix_of (H := Y) (H' := Z) (by omega) hZf
        rw [he, List.append_assoc]; exact aview_append h _
      have hpx0 : ∀ a x, aview Y a = some x → aview Z a = some x := fun a x h => by have := hpx a x [] h; rwa [List.append_nil] at this
      by_cases hkb : k < bs.length
      · have d3 : decide ((k : Int) < (bs.length : Int)) = true := decide_eq_true (by omega)
        obtain ⟨cb, hcb⟩ : ∃ cb, bc[k]? = some cb := ⟨_, List.getElem?_eq_getElem (by omega)⟩
        have hcr : RdS Y cb (bs.getD k []) := brd k cb _ hcb (by rw [getD_get hkb, List.getElem?_eq_getElem hkb])
        obtain ⟨p, q, hpq⟩ : ∃ p q, bs.getD k [] = [p, q] := by
          have h2 := (hbs.2.2 (bs.getD k []) (by rw [getD_get hkb]; exact List.getElem_mem _)).1
          match bs.getD k [], h2 with
          | [p, q], _ => exact ⟨p, q, rfl⟩
        rw [hpq] at hcr
        have hcz : ∀ ext, aview (Z ++ ext) cb = some (2, [I p, I q]) := fun ext => hpx cb _ ext hcr
        have hcz0 : aview Z cb = some (2, [I p, I q]) := hpx0 cb _ hcr
        have hbz0 : aview Z c = some (bs.length, bc) := hpx0 c _ vb
        have pa := fun o ext => pc_alive (off := o) (get_appU hZ1 ext)
        have pl := fun o ext => pc_ld (off := o) (get_appU hZ1 ext)
        have pa0 := fun o => pc_alive (off := o) hZ1
        have pl0 := fun o => pc_ld (off := o) hZ1
        simp (config := { maxSteps := 1000000 }) (disch := (first | omega | (simp only [go_sem]; try omega))) only [go_sem, Nat.reduceAdd, Nat.reduceEqDiff, Nat.reduceLeDiff, Nat.reduceMul, Nat.reduceLT, reduceIte, Int.reduceToNat, w64_id, cast_succ]
        repeat (first | (with_reducible first | refine SW.seq ?_ | refine SW.block ?_ | refine SW.rowC ?_ | refine SW.skip ?_ | refine SW.exit ?_ | intro _ | refine And.intro (by omega) ?_) | simp (config := { maxSteps := 1000000 }) (disch := (first | omega | (simp only [go_sem]; try omega))) only [go_sem, Nat.reduceAdd, Nat.reduceEqDiff, Nat.reduceLeDiff, Nat.reduceMul, Nat.reduceLT, reduceIte, Int.reduceToNat, w64_id, cast_succ, d3])
        refine SW.condT rfl ?_
        repeat (first | (with_reducible first | refine SW.seq ?_ | refine SW.block ?_ | refine SW.rowC ?_ | refine SW.skip ?_ | refine SW.exit ?_ | intro _ | refine And.intro (by omega) ?_) | simp (config := { maxSteps := 1000000 }) (disch := (first | omega | (simp only [go_sem]; try omega))) only [go_sem, Nat.reduceAdd, Nat.reduceEqDiff, Nat.reduceLeDiff, Nat.reduceMul, Nat.reduceLT, reduceIte, Int.reduceToNat, w64_id, cast_succ, hbz0, hcb, hcz, hcz0, pa, pl, pa0, pl0])
        have hkl : (gEd (bs.take k)).length + 1 ≤ 100000 := by
          have := hbs.1
          have := pack_len hbs
          have := ch5 n h5
          rw [gEd_len, List.length_take]; omega
        refine RowE.app (Y := Z ++ [(⟨0, tyE, 2, [I p, I q]⟩ : Blk)]) (hZr.same (fun j bl _ hb => get_appB2 hb _)) (by simp; omega) hkl (by omega) p q ?_
        intro v' Z' c1 hl' hr' hf'
        have hZ1' : Z'[Y.length + 1]? = some ⟨0, tyGr, 1, [.nm Y.length 0 0 n, v]⟩ := (hf' _ (by omega)).trans (get_appB2 hZ1 _)
        have hl1' := (List.getElem?_eq_some_iff.1 hZ1').1
        have pa1 := fun o => pc_alive (off := o) hZ1'
        have w1 : astore Z' [v'] (.pc (Y.length + 1) 0 1) = some (Z'.set (Y.length + 1) ⟨0, tyGr, 1, [.nm Y.length 0 0 n, v']⟩) := by rw [pc_st hZ1' (by simp)]; rfl
        repeat (first | (with_reducible first | refine SW.seq ?_ | refine SW.block ?_ | refine SW.rowC ?_ | refine SW.skip ?_ | refine SW.exit ?_ | intro _ | refine And.intro (by omega) ?_) | simp (config := { maxSteps := 1000000 }) (disch := (first | omega | (simp only [go_sem]; try omega))) only [go_sem, Nat.reduceAdd, Nat.reduceEqDiff, Nat.reduceLeDiff, Nat.reduceMul, Nat.reduceLT, reduceIte, Int.reduceToNat, w64_id, cast_succ, pa1, w1, c1.1, c1.2])
        have hte : gEd (bs.take (k + 1)) = gEd (bs.take k) ++ [(p, q)] := by
          rw [List.take_add_one, List.getElem?_eq_getElem hkb]
          rw [getD_get hkb] at hpq
          rw [hpq]; simp [gEd]
        refine SLoop.next (bs.length - (k + 1)) (by omega) ⟨k + 1, v', by omega, rfl, by simp [go_sem], ?_, List.getElem?_set_self hl1', ?_, fun j hj => ?_⟩
        · rw [List.getElem?_set_ne (by omega), hf' _ (by omega)]; exact get_appB2 hZ0 _
        · rw [hte]
          exact hr'.same (fun j bl hj hb => by rw [List.getElem?_set_ne (by omega)]; exact hb)
        · rw [List.getElem?_set_ne (by omega), hf' _ (by omega), List.getElem?_append_left (by omega)]; exact hZf j hj
      · have d3 : decide ((k : Int) < (bs.length : Int)) = false := decide_eq_false (by omega)
        have : k = bs.length := by omega
        subst this
        rw [List.take_length] at hZr
        have pa0 := fun o => pc_alive (off := o) hZ1
        have pl0 : acells Z 2 (.pc (Y.length + 1) 0 0) = some [.nm Y.length 0 0 n, v] := pc_lds hZ1 (by simp)
        have hve := hZr.ownE.one
        simp (config := { maxSteps := 1000000 }) (disch := (first | omega | (simp only [go_sem]; try omega))) only [go_sem, Nat.reduceAdd, Nat.reduceEqDiff, Nat.reduceLeDiff, Nat.reduceMul, Nat.reduceLT, reduceIte, Int.reduceToNat, w64_id, cast_succ]
        repeat (first | (with_reducible first | refine SW.seq ?_ | refine SW.block ?_ | refine SW.rowC ?_ | refine SW.skip ?_ | refine SW.exit ?_ | intro _ | refine And.intro (by omega) ?_) | simp (config := { maxSteps := 1000000 }) (disch := (first | omega | (simp only [go_sem]; try omega))) only [go_sem, Nat.reduceAdd, Nat.reduceEqDiff, Nat.reduceLeDiff, Nat.reduceMul, Nat.reduceLT, reduceIte, Int.reduceToNat, w64_id, cast_succ, d3])
        refine SW.condF rfl ?_
        repeat (first | (with_reducible first | refine SW.seq ?_ | refine SW.block ?_ | refine SW.rowC ?_ | refine SW.skip ?_ | refine SW.exit ?_ | intro _ | refine And.intro (by omega) ?_) | simp (config := { maxSteps := 1000000 }) (disch := (first | omega | (simp only [go_sem]; try omega))) only [go_sem, Nat.reduceAdd, Nat.reduceEqDiff, Nat.reduceLeDiff, Nat.reduceMul, Nat.reduceLT, reduceIte, Int.reduceToNat, w64_id, cast_succ, pa0, pl0, hve.1, hve.2])
        change AppX tyGr 2 48 _ _ _ (some (1, [AV.nm Y.length 0 0 n, v]))
        have hlt : H.length + 1 < Y.length := (List.getElem?_eq_some_iff.1 oy.tb).1
        have hZt : Z[H.length + 1]? = some ⟨ver', tyGr, 2, cells'⟩ := (hZf _ hlt).trans oy.tb
        rw [AppX_nm (h1 := rfl) (h2 := by simp only [List.all_cons, List.all_nil, hve.1, Bool.and_true]; rfl)]
        refine appNG (get_appB2 hZt _) (by rw [oy.len]; omega) (by omega) (by omega) ?_
        repeat (first | (with_reducible first | refine SW.seq ?_ | refine SW.block ?_ | refine SW.rowC ?_ | refine SW.skip ?_ | refine SW.exit ?_ | intro _ | refine And.intro (by omega) ?_) | simp (config := { maxSteps := 1000000 }) (disch := (first | omega | (simp only [go_sem]; try omega))) only [go_sem, Nat.reduceAdd, Nat.reduceEqDiff, Nat.reduceLeDiff, Nat.reduceMul, Nat.reduceLT, reduceIte, Int.reduceToNat, w64_id, cast_succ])
        have ou : OwnS (Z ++ [(⟨0, tyGr, 2, [AV.nm Y.length 0 0 n, v]⟩ : Blk)]) (fun r => r = Y.length) (H.length + 1) (.nm Y.length 0 0 n) (gOf n bs).1 := .inl ⟨Y.length, 0, 2, by simp [gOf], rfl, by omega, get_appB2 hZ0 _⟩
        have ov : OwnE (Z ++ [(⟨0, tyGr, 2, [AV.nm Y.length 0 0 n, v]⟩ : Blk)]) (fun r => Y.length + 2 ≤ r ∧ r < Z.length) v (gOf n bs).2 := (hZr.ownE.weak (N' := fun r => Y.length + 2 ≤ r ∧ r < Z.length) (fun r h1 h2 => ⟨h1, h2⟩)).append _
        have hml : ∀ j r, M' j r → r < Y.length := fun j r q => (oy.own j r q).1.2
        obtain ⟨M2, o2⟩ := oy.put (Z := Z ++ [(⟨0, tyGr, 2, [AV.nm Y.length 0 0 n, v]⟩ : Blk)]) (N' := Btw H.length (Z.length + 1)) (fun r hr => ⟨hr.1, by have := hr.2; omega⟩) (fun j b hj hb => by
          have := hj.2
          rw [List.getElem?_append_left (by omega), hZf j this]; exact hb) ou ov
          (fun r hr => ⟨⟨by omega, by omega⟩, by omega, fun j q => by have := hml j r q; omega⟩) (fun r hr => ⟨⟨by omega, by omega⟩, by omega, fun j q => by have := hml j r q; omega⟩) (fun r h1 h2 => by omega)
        rw [← hts] at o2
        have hl3 : G.length + (L.take (i + 1)).length = Gi.length + 1 := by
          have := congrArg List.length hts
          rw [List.length_append, List.length_map, List.length_append] at this
          exact this
        refine SLoop.next (L.length - (i + 1)) (by omega) ⟨i + 1, ver' + 1, _, M2, by omega, rfl, ?_, by rw [List.length_set, List.length_append]; exact o2, by rw [List.length_set, List.length_append]; omega, fun r h1 h2 => ?_⟩
        · rw [hl3]; simp [go_sem]
        · rw [List.getElem?_set_ne (by omega), List.getElem?_append_left (by omega), hZf r (by omega)]; exact hYf r h1 h2
    · have d2 : decide ((i : Int) < (L.length : Int)) = false := decide_eq_false (by omega)
      have : i = L.length := by omega
      subst this
      rw [List.take_length] at oy ⊢
      simp (config := { maxSteps := 1000000 }) (disch := (first | omega | (simp only [go_sem]; try omega))) only [go_sem, Nat.reduceAdd, Nat.reduceEqDiff, Nat.reduceLeDiff, Nat.reduceMul, Nat.reduceLT, reduceIte, Int.reduceToNat, w64_id, cast_succ]
      repeat (first | (with_reducible first | refine SW.seq ?_ | refine SW.block ?_ | refine SW.rowC ?_ | refine SW.skip ?_ | refine SW.exit ?_ | intro _ | refine And.intro (by omega) ?_) | simp (config := { maxSteps := 1000000 }) (disch := (first | omega | (simp only [go_sem]; try omega))) only [go_sem, Nat.reduceAdd, Nat.reduceEqDiff, Nat.reduceLeDiff, Nat.reduceMul, Nat.reduceLT, reduceIte, Int.reduceToNat, w64_id, cast_succ, d2])
      refine SW.condF rfl ?_
      repeat (first | (with_reducible first | refine SW.seq ?_ | refine SW.block ?_ | refine SW.rowC ?_ | refine SW.skip ?_ | refine SW.exit ?_ | intro _ | refine And.intro (by omega) ?_) | simp (config := { maxSteps := 1000000 }) (disch := (first | omega | (simp only [go_sem]; try omega))) only [go_sem, Nat.reduceAdd, Nat.reduceEqDiff, Nat.reduceLeDiff, Nat.reduceMul, Nat.reduceLT, reduceIte, Int.reduceToNat, w64_id, cast_succ])
      refine ((extended_own n 2 n L j h1 (by omega) (by omega) (by omega) go gc).lend (.cons (froz_I' _) (.cons (owy.froz (fun r _ => Nat.zero_le _)) (.cons (froz_I' _) (.cons (froz_I' _) .nil))))).mono ?_
      rintro r Z ⟨ext, hZ, oz⟩
      have hlt : H.length + 1 < Y.length := (List.getElem?_eq_some_iff.1 oy.tb).1
      have hl2 : Y.length ≤ Z.length := by rw [hZ]; simp
      have hZf : ∀ i, i < Y.length → Z[i]? = Y[i]? := fun i hi => by rw [hZ, List.getElem?_append_left hi]
      repeat (first | (with_reducible first | refine SW.seq ?_ | refine SW.block ?_ | refine SW.rowC ?_ | refine SW.skip ?_ | refine SW.exit ?_ | intro _ | refine And.intro (by omega) ?_) | simp (config := { maxSteps := 1000000 }) (disch := (first | omega | (simp only [go_sem]; try omega))) only [go_sem, Nat.reduceAdd, Nat.reduceEqDiff, Nat.reduceLeDiff, Nat.reduceMul, Nat.reduceLT, reduceIte, Int.reduceToNat, w64_id, cast_succ, oz.one.1, oz.one.2])
      refine SLoop.next (11 - (j + 1)) (by omega) ⟨j + 1, r, ver', cells', M', by omega, rfl, by rw [gn]; simp [go_sem], ?_, ?_, fun i hi => ?_⟩
      · rw [gs]; exact oz.weak (fun r h1 h2 => ⟨by have := h1.1; omega, by have := h1.1; omega⟩)
      · rw [gn]
        exact (oy.same (H' := Z) (fun r b hr hb => by rw [hZf r hr.2]; exact hb)).mono (fun r hr => ⟨hr.1, by have := hr.2; omega⟩)
      · rw [hZf i (by omega), hYf i (by omega) (by omega)]; exact hXf i hi
end Go.Proofs.YtmdeibdplpodpaaGreat
