/- Graphs of designs: the reference. -/
import Derived.Test.YtonfknfphdeenaaProg
import Derived.KernelRfl
import Derived.Test.YtonfknfphdeenaaE3
import Derived.Test.YtonfknfphdeenaaK18
set_option linter.unusedSimpArgs false
set_option linter.unusedVariables false
set_option maxHeartbeats 4000000
set_option maxRecDepth 100000
namespace Go.Proofs.Ytonfknfphdeenaa
open Go.Av

/-! The abstract code of functions, printed by program and tied to the program by the kernel. -/
/-- loop.example/g00920/spec.l23Graph -/
abbrev f_spec_l23Graph : Nat := 56
def c_spec_l23Graph : SC :=
 .seq (.reg [
     ⟨(some 2), .alloc 38 [(.slice none 0 0), (.slice none 0 0)], none⟩,
     ⟨(some 3), .mv (.const (.int .i64 0)), none⟩] [0, 2])
 (.seq (.reg [
     ⟨(some 10), .mv (.tmp 0), none⟩,
     ⟨(some 11), .nilc (.tmp 10), none⟩,
     ⟨(some 12), .faddr 0 (.tmp 11), none⟩,
     ⟨(some 13), .load 1 false (.tmp 12), none⟩,
     ⟨(some 4), .mv (.tmp 13), none⟩] [0, 2, 4])
 (.seq (.seq (.reg [
     ⟨(some 14), .mv (.tmp 4), none⟩,
     ⟨(some 15), .mv (.tmp 0), none⟩,
     ⟨(some 16), .nilc (.tmp 15), none⟩,
     ⟨(some 17), .faddr 1 (.tmp 16), none⟩,
     ⟨(some 18), .load 1 false (.tmp 17), none⟩,
     ⟨(some 19), .len (.tmp 18), none⟩,
     ⟨(some 20), .bin .add (.tmp 14) (.tmp 19), none⟩,
     ⟨(some 21), .bin .gtr (.tmp 20) (.const (.int .i64 64)), none⟩] [0, 2, 4, 21])
 (.cond (.tmp 21)
  (.seq (.reg [
      ⟨(some 22), .build [(.slice none 0 0), (.slice none 0 0)] [], none⟩,
      ⟨none, .store 2 (.tmp 2) (.tmp 22), none⟩,
      ⟨(some 3), .mv (.const (.int .i64 5)), none⟩] [2, 3])
  (.ret))
  (.skip)))
 (.seq (.reg [
     ⟨(some 23), .build [(.slice none 0 0), (.slice none 0 0)] [], none⟩,
     ⟨(some 5), .alloc 38 [(.slice none 0 0), (.slice none 0 0)], none⟩,
     ⟨none, .store 2 (.tmp 5) (.tmp 23), none⟩] [0, 2, 4, 5])
 (.seq (.seq (.reg [
     ⟨(some 6), .mv (.const (.int .i64 0)), none⟩] [0, 2, 4, 5, 6])
 (.block 0 (.loop [0, 2, 4, 5, 6]
   (.seq (.seq (.reg [
       ⟨(some 24), .mv (.tmp 6), none⟩,
       ⟨(some 25), .mv (.tmp 4), none⟩,
       ⟨(some 26), .bin .lss (.tmp 24) (.tmp 25), none⟩] [0, 2, 4, 5, 6, 26])
   (.cond (.tmp 26)
    (.skip)
    (.exit 0)))
   (.seq (.block 1 (.reg [
        ⟨(some 29), .faddr 0 (.tmp 5), none⟩,
        ⟨(some 30), .load 1 false (.tmp 29), none⟩,
        ⟨(some 31), .bslice 2 1 1 [(.int .i64 0)] [(0, (.const (.int .i64 0)))], none⟩,
        ⟨(some 32), .app 2 1 8 (.tmp 30) (.tmp 31), none⟩,
        ⟨(some 33), .faddr 0 (.tmp 5), none⟩,
        ⟨none, .store 1 (.tmp 33) (.tmp 32), none⟩] [0, 2, 4, 5, 6]))
   (.reg [
       ⟨(some 27), .mv (.tmp 6), none⟩,
       ⟨(some 28), .bin .add (.tmp 27) (.const (.int .i64 1)), none⟩,
       ⟨(some 6), .mv (.tmp 28), none⟩] [0, 2, 4, 5, 6]))))))
 (.seq (.seq (.reg [
     ⟨(some 7), .mv (.const (.int .i64 0)), none⟩] [0, 2, 4, 5, 7])
 (.block 2 (.loop [0, 2, 4, 5, 7]
   (.seq (.seq (.reg [
       ⟨(some 34), .mv (.tmp 7), none⟩,
       ⟨(some 35), .mv (.tmp 0), none⟩,
       ⟨(some 36), .nilc (.tmp 35), none⟩,
       ⟨(some 37), .faddr 1 (.tmp 36), none⟩,
       ⟨(some 38), .load 1 false (.tmp 37), none⟩,
       ⟨(some 39), .len (.tmp 38), none⟩,
       ⟨(some 40), .bin .lss (.tmp 34) (.tmp 39), none⟩] [0, 2, 4, 5, 7, 40])
   (.cond (.tmp 40)
    (.skip)
    (.exit 2)))
   (.seq (.block 3 (.reg [
        ⟨(some 43), .faddr 0 (.tmp 5), none⟩,
        ⟨(some 44), .load 1 false (.tmp 43), none⟩,
        ⟨(some 45), .bslice 2 1 1 [(.int .i64 0)] [(0, (.const (.int .i64 1)))], none⟩,
        ⟨(some 46), .app 2 1 8 (.tmp 44) (.tmp 45), none⟩,
        ⟨(some 47), .faddr 0 (.tmp 5), none⟩,
        ⟨none, .store 1 (.tmp 47) (.tmp 46), none⟩] [0, 2, 4, 5, 7]))
   (.reg [
       ⟨(some 41), .mv (.tmp 7), none⟩,
       ⟨(some 42), .bin .add (.tmp 41) (.const (.int .i64 1)), none⟩,
       ⟨(some 7), .mv (.tmp 42), none⟩] [0, 2, 4, 5, 7]))))))
 (.seq (.seq (.reg [
     ⟨(some 8), .mv (.const (.int .i64 0)), none⟩] [0, 2, 4, 5, 8])
 (.block 4 (.loop [0, 2, 4, 5, 8]
   (.seq (.seq (.reg [
       ⟨(some 48), .mv (.tmp 8), none⟩,
       ⟨(some 49), .mv (.tmp 4), none⟩,
       ⟨(some 50), .bin .lss (.tmp 48) (.tmp 49), none⟩] [0, 2, 4, 5, 8, 50])
   (.cond (.tmp 50)
    (.skip)
    (.exit 4)))
   (.seq (.block 5 (.seq (.reg [
        ⟨(some 9), .mv (.const (.int .i64 0)), none⟩] [0, 2, 4, 5, 8, 9])
    (.block 6 (.loop [0, 2, 4, 5, 8, 9]
      (.seq (.seq (.reg [
          ⟨(some 53), .mv (.tmp 9), none⟩,
          ⟨(some 54), .mv (.tmp 0), none⟩,
          ⟨(some 55), .nilc (.tmp 54), none⟩,
          ⟨(some 56), .faddr 1 (.tmp 55), none⟩,
          ⟨(some 57), .load 1 false (.tmp 56), none⟩,
          ⟨(some 58), .len (.tmp 57), none⟩,
          ⟨(some 59), .bin .lss (.tmp 53) (.tmp 58), none⟩] [0, 2, 4, 5, 8, 9, 59])
      (.cond (.tmp 59)
       (.skip)
       (.exit 6)))
      (.seq (.block 7 (.seq (.reg [
           ⟨(some 62), .mv (.tmp 0), none⟩,
           ⟨(some 63), .nilc (.tmp 62), none⟩,
           ⟨(some 64), .faddr 1 (.tmp 63), none⟩,
           ⟨(some 65), .load 1 false (.tmp 64), none⟩,
           ⟨(some 66), .mv (.tmp 9), none⟩,
           ⟨(some 67), .iaddr 1 (.tmp 65) (.tmp 66), none⟩,
           ⟨(some 68), .load 1 false (.tmp 67), none⟩,
           ⟨(some 69), .mv (.tmp 8), none⟩,
           ⟨(some 70), .call 102 [(.tmp 68), (.tmp 69)], none⟩] [0, 2, 4, 5, 8, 9, 70])
       (.cond (.tmp 70)
        (.reg [
            ⟨(some 71), .faddr 1 (.tmp 5), none⟩,
            ⟨(some 72), .load 1 false (.tmp 71), none⟩,
            ⟨(some 73), .mv (.tmp 8), none⟩,
            ⟨(some 74), .mv (.tmp 4), none⟩,
            ⟨(some 75), .mv (.tmp 9), none⟩,
            ⟨(some 76), .bin .add (.tmp 74) (.tmp 75), none⟩,
            ⟨(some 77), .build [(.int .i64 0), (.int .i64 0)] [(0, 1, (.tmp 73)), (1, 1, (.tmp 76))], none⟩,
            ⟨(some 78), .bslice 93 2 1 [(.int .i64 0), (.int .i64 0)] [(0, (.tmp 77))], none⟩,
            ⟨(some 79), .app 93 2 16 (.tmp 72) (.tmp 78), none⟩,
            ⟨(some 80), .faddr 1 (.tmp 5), none⟩,
            ⟨none, .store 1 (.tmp 80) (.tmp 79), none⟩] [0, 2, 4, 5, 8, 9])
        (.skip))))
      (.reg [
          ⟨(some 60), .mv (.tmp 9), none⟩,
          ⟨(some 61), .bin .add (.tmp 60) (.const (.int .i64 1)), none⟩,
          ⟨(some 9), .mv (.tmp 61), none⟩] [0, 2, 4, 5, 8, 9])))))))
   (.reg [
       ⟨(some 51), .mv (.tmp 8), none⟩,
       ⟨(some 52), .bin .add (.tmp 51) (.const (.int .i64 1)), none⟩,
       ⟨(some 8), .mv (.tmp 52), none⟩] [0, 2, 4, 5, 8]))))))
 (.seq (.seq (.reg [
     ⟨(some 81), .faddr 1 (.tmp 5), none⟩,
     ⟨(some 82), .load 1 false (.tmp 81), none⟩,
     ⟨(some 83), .len (.tmp 82), none⟩,
     ⟨(some 84), .bin .gtr (.tmp 83) (.const (.int .i64 512)), none⟩] [2, 5, 84])
 (.cond (.tmp 84)
  (.seq (.reg [
      ⟨(some 85), .build [(.slice none 0 0), (.slice none 0 0)] [], none⟩,
      ⟨none, .store 2 (.tmp 2) (.tmp 85), none⟩,
      ⟨(some 3), .mv (.const (.int .i64 5)), none⟩] [2, 3])
  (.ret))
  (.skip)))
 (.seq (.reg [
     ⟨(some 86), .load 2 true (.tmp 5), none⟩,
     ⟨none, .store 2 (.tmp 2) (.tmp 86), none⟩,
     ⟨(some 3), .mv (.const (.int .i64 0)), none⟩] [2, 3])
 (.ret)))))))))
theorem s_spec_l23Graph : stripF Try.prog 56 [[0, 2], [0, 2, 4], [0, 2, 4, 21], [2, 3], [0, 2, 4, 5], [0, 2, 4, 5, 6], [0, 2, 4, 5, 6], [0, 2, 4, 5, 6, 26], [0, 2, 4, 5, 6], [0, 2, 4, 5, 6], [0, 2, 4, 5, 7], [0, 2, 4, 5, 7], [0, 2, 4, 5, 7, 40], [0, 2, 4, 5, 7], [0, 2, 4, 5, 7], [0, 2, 4, 5, 8], [0, 2, 4, 5, 8], [0, 2, 4, 5, 8, 50], [0, 2, 4, 5, 8, 9], [0, 2, 4, 5, 8, 9], [0, 2, 4, 5, 8, 9, 59], [0, 2, 4, 5, 8, 9, 70], [0, 2, 4, 5, 8, 9], [0, 2, 4, 5, 8, 9], [0, 2, 4, 5, 8], [2, 5, 84], [2, 3], [2, 3]] = some (c_spec_l23Graph, [.cell 2 2, .tmp 3], 87) := by kernel_rfl


/-- A row that grows, of elements of sz cells. -/
def GrowF (H : List Blk) (base ty sz : Nat) (v : AV) (n : Nat) (cells : List AV) : Prop :=
  (v = nilS ∧ n = 0 ∧ cells = []) ∨ ∃ t ver, v = .nm t ver 0 n ∧ base ≤ t ∧ H[t]? = some ⟨ver, ty, sz, cells⟩ ∧ cells.length = n * sz
theorem GrowF.one {H : List Blk} {base ty sz n : Nat} {v : AV} {cells : List AV} (h : GrowF H base ty sz v n cells) : v.cell1 = true ∧ partsOf v = [v] := by
  rcases h with ⟨rfl, _⟩ | ⟨t, ver, rfl, _⟩ <;> exact ⟨rfl, rfl⟩
theorem GrowF.same {H H' : List Blk} {base ty sz n : Nat} {v : AV} {cells : List AV} (h : GrowF H base ty sz v n cells) (hs : ∀ j b, base ≤ j → H[j]? = some b → H'[j]? = some b) : GrowF H' base ty sz v n cells := by
  rcases h with h | ⟨t, ver, rfl, h1, h2, h3⟩
  · exact .inl h
  · exact .inr ⟨t, ver, rfl, h1, hs t _ h1 h2, h3⟩
theorem GrowF.view {H : List Blk} {base ty sz n : Nat} {v : AV} {cells : List AV} (h : GrowF H base ty sz v n cells) : aview H v = some (n, cells) := by
  rcases h with ⟨rfl, rfl, rfl⟩ | ⟨t, ver, rfl, h1, h2, h3⟩
  · rfl
  · simp only [aview, h2, if_true, List.drop_zero]
    rw [List.take_of_length_le (by omega)]
theorem GrowF.appX {H : List Blk} {base ty sz bytes n : Nat} {v : AV} {cells xs : List AV} (h : GrowF H base ty sz v n cells) (hb : base ≤ H.length) (hx : xs.length = sz) (hc : ∀ c ∈ xs, c.cell1 = true) (hl1 : (n + 1) * bytes ≤ 140737488355328) (hl2 : n + 1 ≤ 140737488355328)
    {K : AV → List Blk → Prop} (hk : ∀ v' H', GrowF H' base ty sz v' (n + 1) (cells ++ xs) → H.length + 1 ≤ H'.length → (∀ j, j < base → H'[j]? = H[j]?) → K v' H') :
    AppX ty sz bytes (H ++ [⟨0, ty, sz, xs⟩]) v K (some (1, xs)) := by
  rcases h with ⟨rfl, rfl, rfl⟩ | ⟨t, ver, rfl, h1, h2, h3⟩
  · simp only [AppX, nilS]
    refine ⟨by omega, hc, by omega, by omega, hk _ _ (.inr ⟨_, 1, rfl, by simp; omega, by simp, by simp; omega⟩) (by simp) (fun j hj => ?_)⟩
    rw [List.getElem?_append_left (by simp; omega), List.getElem?_append_left (by omega)]
  · have htl := (List.getElem?_eq_some_iff.1 h2).1
    simp only [AppX]
    rw [List.getElem?_append_left htl, h2]
    refine ⟨by omega, hc, rfl, rfl, rfl, by simp only; omega, hl1, hl2, hk _ _ (.inr ⟨t, ver + 1, rfl, h1, ?_, ?_⟩) (by simp) (fun j hj => ?_)⟩
    · rw [List.getElem?_set_self (by simp; omega)]
      simp only
      rw [List.take_of_length_le (by omega)]
    · rw [List.length_append, h3, hx, Nat.add_mul, Nat.one_mul]
    · rw [List.getElem?_set_ne (by omega), List.getElem?_append_left (by omega)]

theorem froz_edges {H : List Blk} {base r ver ty : Nat} {es : List (Int × Int)} (hb : base ≤ r) (hr : H[r]? = some ⟨ver, ty, 2, flatE es⟩) : Froz H base (.nm r ver 0 es.length) (ilE es) := by
  have hc : ((flatE es).drop 0).take (es.length * 2) = flatE es := by rw [List.drop_zero]; exact List.take_of_length_le (by rw [flatE_length]; omega)
  refine .nm r ver 0 es.length _ _ hb hr rfl (by simp only [hc]) ?_
  intro j c c' h1 h2
  simp only [hc] at h1
  rw [h1] at h2; cases h2
  have hm := List.mem_of_getElem? h1
  rw [flatE_lit] at hm
  obtain ⟨v, _, rfl⟩ := List.mem_map.1 hm
  exact .old _ (.lit v)
theorem GrowF.frozI {H : List Blk} {base ty n b : Nat} {v : AV} {xs : List Int} (h : GrowF H base ty 1 v n (xs.map I)) (hb : b ≤ base) : Froz H b v (ilS xs) := by
  rcases h with ⟨rfl, rfl, h⟩ | ⟨t, ver, rfl, h1, h2, h3⟩
  · have : xs = [] := by simpa using h
    subst this; exact .nil
  · have : n = xs.length := by simpa using h3.symm
    subst this; exact froz_rowI (by omega) h2
theorem GrowF.frozE {H : List Blk} {base ty n b : Nat} {v : AV} {es : List (Int × Int)} (h : GrowF H base ty 2 v n (flatE es)) (hb : b ≤ base) : Froz H b v (ilE es) := by
  rcases h with ⟨rfl, rfl, h⟩ | ⟨t, ver, rfl, h1, h2, h3⟩
  · have h2 := flatE_length es
    rw [h] at h2
    have : es = [] := List.length_eq_zero_iff.1 (by simp at h2; omega)
    subst this; exact .nil
  · have : n = es.length := by rw [flatE_length] at h3; omega
    subst this; exact froz_edges (by omega) h2
theorem insU_permE {A : Type} {cf : A → A → Int} (h : TotC cf) (x : A) : ∀ l : List A, x ∉ l → (insU cf x l).Perm (x :: l)
  | [], _ => .refl _
  | z :: r, hx => by
    unfold insU
    simp only [List.mem_cons, not_or] at hx
    split
    · split
      · exact .refl _
      · exact absurd ((h.eq0 z x).1 (by omega)) (Ne.symm hx.1)
    · exact ((insU_permE h x r hx.2).cons z).trans (.swap _ _ _)
theorem sortU_permE {A : Type} {cf : A → A → Int} (h : TotC cf) {l : List A} (hn : l.Nodup) : (sortU cf l).Perm l := by
  rw [← List.reverse_reverse l] at hn ⊢
  revert hn
  induction l.reverse with
  | nil => intro _; exact .refl _
  | cons x r ih =>
    intro hn
    rw [List.reverse_cons] at hn ⊢
    rw [sortU_snoc]
    have h1 := List.nodup_append.1 hn
    have hx : x ∉ sortU cf r.reverse := by
      rw [sortU_mem h]
      intro hm
      exact h1.2.2 x hm x (by simp) rfl
    exact (insU_permE h x _ hx).trans (((ih h1.1).cons x).trans (List.perm_append_singleton x _).symm)
theorem GR.frozP {H0 H1 : List Blk} {R : AV → List Blk → Prop} {r r' : AV} (hp : ∃ ext, H1 = H0 ++ ext) (hf : Froz H1 H0.length r r') (h : R r' H0) : GR H0 R r H1 := by
  obtain ⟨ext, rfl⟩ := hp
  exact GR.froz hf h

/-- The edges in order. -/
def edRow (n : Nat) (xss : List (List Int)) (x i : Nat) : List (Int × Int) := ((List.range i).filter fun i => (xss.getD i []).contains (x : Int)).map fun (i : Nat) => ((x : Int), (n : Int) + (i : Int))
def edX (n : Nat) (xss : List (List Int)) (x : Nat) : List (Int × Int) := (List.range x).flatMap fun x => edRow n xss x xss.length
theorem edRow_succ (n : Nat) (xss : List (List Int)) (x i : Nat) : edRow n xss x (i + 1) = edRow n xss x i ++ (if (xss.getD i []).contains (x : Int) = true then [((x : Int), (n : Int) + (i : Int))] else []) := by
  unfold edRow
  rw [List.range_succ, List.filter_append, List.map_append]
  congr 1
  by_cases h : (xss.getD i []).contains (x : Int) = true
  · rw [if_pos h, List.filter_cons_of_pos (by exact h)]; rfl
  · rw [if_neg h, List.filter_cons_of_neg (by exact h)]; rfl
theorem edRow_len (n : Nat) (xss : List (List Int)) (x i : Nat) : (edRow n xss x i).length ≤ i := by
  unfold edRow; rw [List.length_map]; exact Nat.le_trans (List.length_filter_le _ _) (by simp)
theorem edX_succ (n : Nat) (xss : List (List Int)) (x : Nat) : edX n xss (x + 1) = edX n xss x ++ edRow n xss x xss.length := by
  unfold edX; rw [List.range_succ, List.flatMap_append]; simp
theorem edX_len (n : Nat) (xss : List (List Int)) (x : Nat) : (edX n xss x).length ≤ x * xss.length := by
  induction x with
  | zero => simp [edX]
  | succ x ih =>
    rw [edX_succ, List.length_append, Nat.succ_mul]
    have := edRow_len n xss x xss.length
    omega
theorem edRow_mem {n : Nat} {xss : List (List Int)} {x i : Nat} {e : Int × Int} : e ∈ edRow n xss x i ↔ ∃ j : Nat, j < i ∧ (x : Int) ∈ xss.getD j [] ∧ e = ((x : Int), (n : Int) + (j : Int)) := by
  unfold edRow
  rw [List.mem_map]
  constructor
  · rintro ⟨j, hj, rfl⟩
    rw [List.mem_filter, List.mem_range] at hj
    exact ⟨j, hj.1, by simpa using hj.2, rfl⟩
  · rintro ⟨j, h1, h2, rfl⟩
    exact ⟨j, List.mem_filter.2 ⟨List.mem_range.2 h1, by simpa using h2⟩, rfl⟩
theorem cmpE_lt1 {a b c d : Int} (h : a < c) : cmpE (a, b) (c, d) < 0 := by
  unfold cmpE cmpI
  simp only
  rw [if_pos h, if_neg (by omega)]; omega
theorem cmpE_lt2 {a b d : Int} (h : b < d) : cmpE (a, b) (a, d) < 0 := by
  have e : cmpI a a = 0 := (cmpI_totE.eq0 a a).2 rfl
  show (if cmpI a a = 0 then cmpI b d else cmpI a a) < 0
  rw [if_pos e]
  unfold cmpI
  rw [if_pos h]; omega
theorem edX_is {n : Nat} {xss : List (List Int)} (hx : ∀ xs ∈ xss, asc 0 ((n : Int) - 1) xs = true) : edX n xss n = sortU cmpE (edI n xss) := by
  refine asc_uniq cmpE_tot ?_ (sortU_asc cmpE_tot _) (fun e => ?_)
  · unfold Asc edX
    rw [List.pairwise_flatMap]
    refine ⟨fun x _ => ?_, ?_⟩
    · unfold edRow
      rw [List.pairwise_map]
      exact (List.pairwise_lt_range.filter _).imp (fun h => cmpE_lt2 (by omega))
    · refine List.pairwise_lt_range.imp ?_
      intro x y hxy a ha b hb
      obtain ⟨i, _, _, rfl⟩ := edRow_mem.1 ha
      obtain ⟨j, _, _, rfl⟩ := edRow_mem.1 hb
      exact cmpE_lt1 (by omega)
  · rw [sortU_mem cmpE_tot, edI_mem]
    unfold edX
    rw [List.mem_flatMap]
    constructor
    · rintro ⟨x, hxn, he⟩
      obtain ⟨j, h1, h2, rfl⟩ := edRow_mem.1 he
      refine ⟨j, xss.getD j [], ?_, h2, rfl⟩
      rw [List.getD_eq_getElem?_getD, List.getElem?_eq_getElem h1]; rfl
    · rintro ⟨k, y, hk, h1, h2⟩
      have hkl := (List.getElem?_eq_some_iff.1 hk).1
      have hm := asc_mem (hx y (List.mem_of_getElem? hk)) _ h1
      obtain ⟨a, b⟩ := e
      simp only at h1 h2 hm
      obtain ⟨x, rfl⟩ := Int.eq_ofNat_of_zero_le hm.1
      refine ⟨x, List.mem_range.2 (by omega), edRow_mem.2 ⟨k, hkl, ?_, by rw [h2]⟩⟩
      rw [List.getD_eq_getElem?_getD, hk]; exact h1

/-- The result's cell, the graph's cell, the rest of the memory. -/
def GBx (H : List Blk) (c0 c1 : List AV) (H' : List Blk) : Prop := H'[H.length]? = some ⟨0, tyGr, 1, c0⟩ ∧ H'[H.length + 1]? = some ⟨0, tyGr, 1, c1⟩ ∧ H.length + 2 ≤ H'.length ∧ ∀ j, j < H.length → H'[j]? = H[j]?
theorem GBx.put {H H1 H3 : List Blk} {c0 c1 c2 : List AV} {base : Nat} (h : GBx H c0 c1 H1) (hb : H.length + 2 ≤ base) (hl : H1.length ≤ H3.length) (h3 : ∀ j, j < base → H3[j]? = H1[j]?) : GBx H c0 c2 (H3.set (H.length + 1) ⟨0, tyGr, 1, c2⟩) := by
  obtain ⟨a, b, c, d⟩ := h
  refine ⟨?_, List.getElem?_set_self (by omega), by simp; omega, fun j hj => ?_⟩
  · rw [List.getElem?_set_ne (by omega), h3 _ (by omega)]; exact a
  · rw [List.getElem?_set_ne (by omega), h3 _ (by omega)]; exact d j hj

theorem l23Graph_ok (H : List Blk) (p : Nat) (n : Nat) (xss : List (List Int)) (hn1 : 1 ≤ n) (hn : n ≤ 32) (hl : xss.length ≤ 128) (hx : ∀ xs ∈ xss, asc 0 ((n : Int) - 1) xs = true) (hp : H[p]? = some ⟨0, 41, 1, [I n, ilSS xss]⟩) :
    ACalls Try.prog f_spec_l23Graph [.pc p 0 0] H (fun r H' => r = .tup [.agg [ilS (grV n xss).1.1, ilE (grV n xss).1.2], I (grV n xss).2] ∧ H' = H) := by
  have hpl : p < H.length := (List.getElem?_eq_some_iff.1 hp).1
  have ha := fun l (o : Nat) => pc_alive (off := o) (get_appU hp l)
  have hld := fun l (o : Nat) => pc_ld (off := o) (get_appU hp l)
  have ha0 := fun (o : Nat) => pc_alive (off := o) hp
  have hld0 := fun (o : Nat) => pc_ld (off := o) hp
  by_cases hbig : n + xss.length > 64
  · have hV : grV n xss = (([], []), 5) := by unfold grV; rw [if_pos (.inl hbig)]
    rw [hV]
    have d1 : decide ((64 : Int) < (n : Int) + (xss.length : Int)) = true := decide_eq_true (by omega)
    refine ACalls.introB s_spec_l23Graph (by simp) ?_; intro hB hA; unfold c_spec_l23Graph; simp (config := { maxSteps := 1000000 }) (disch := (first | omega | (simp only [go_sem]; try omega))) only [go_sem, Nat.reduceAdd, Nat.reduceEqDiff, Nat.reduceLeDiff, Nat.reduceMul, Nat.reduceLT, reduceIte, Int.reduceToNat, w64_id, cast_succ]
    repeat (first | (with_reducible first | refine SW.seq ?_ | refine SW.block ?_ | refine SW.rowC ?_ | refine SW.skip ?_ | refine SW.exit ?_ | intro _ | refine And.intro (by omega) ?_) | simp (config := { maxSteps := 1000000 }) (disch := (first | omega | (simp only [go_sem]; try omega))) only [go_sem, Nat.reduceAdd, Nat.reduceEqDiff, Nat.reduceLeDiff, Nat.reduceMul, Nat.reduceLT, reduceIte, Int.reduceToNat, w64_id, cast_succ, ha, hld, ha0, hld0, d1])
    refine SW.condT rfl ?_
    repeat (first | (with_reducible first | refine SW.seq ?_ | refine SW.block ?_ | refine SW.rowC ?_ | refine SW.skip ?_ | refine SW.exit ?_ | intro _ | refine And.intro (by omega) ?_) | simp (config := { maxSteps := 1000000 }) (disch := (first | omega | (simp only [go_sem]; try omega))) only [go_sem, Nat.reduceAdd, Nat.reduceEqDiff, Nat.reduceLeDiff, Nat.reduceMul, Nat.reduceLT, reduceIte, Int.reduceToNat, w64_id, cast_succ])
    refine SW.ret ?_
    refine FunPost.cell_tmp (cs := [nilS, nilS]) (by simp (config := { maxSteps := 1000000 }) (disch := (first | omega | (simp only [go_sem]; try omega))) only [go_sem, Nat.reduceAdd, Nat.reduceEqDiff, Nat.reduceLeDiff, Nat.reduceMul, Nat.reduceLT, reduceIte, Int.reduceToNat, w64_id, cast_succ]) ?_
    exact GR.froz (r' := .tup [.agg [ilS [], ilE []], I 5]) (froz_tup2 (froz_agg2 .nil .nil) (froz_I' _)) ⟨rfl, rfl⟩
  · have d1 : decide ((64 : Int) < (n : Int) + (xss.length : Int)) = false := decide_eq_false (by omega)
    refine ACalls.introB s_spec_l23Graph (by simp) ?_; intro hB hA; unfold c_spec_l23Graph; simp (config := { maxSteps := 1000000 }) (disch := (first | omega | (simp only [go_sem]; try omega))) only [go_sem, Nat.reduceAdd, Nat.reduceEqDiff, Nat.reduceLeDiff, Nat.reduceMul, Nat.reduceLT, reduceIte, Int.reduceToNat, w64_id, cast_succ]
    repeat (first | (with_reducible first | refine SW.seq ?_ | refine SW.block ?_ | refine SW.rowC ?_ | refine SW.skip ?_ | refine SW.exit ?_ | intro _ | refine And.intro (by omega) ?_) | simp (config := { maxSteps := 1000000 }) (disch := (first | omega | (simp only [go_sem]; try omega))) only [go_sem, Nat.reduceAdd, Nat.reduceEqDiff, Nat.reduceLeDiff, Nat.reduceMul, Nat.reduceLT, reduceIte, Int.reduceToNat, w64_id, cast_succ, ha, hld, ha0, hld0, d1])
    refine SW.condF rfl ?_
    repeat (first | (with_reducible first | refine SW.seq ?_ | refine SW.block ?_ | refine SW.rowC ?_ | refine SW.skip ?_ | refine SW.exit ?_ | intro _ | refine And.intro (by omega) ?_) | simp (config := { maxSteps := 1000000 }) (disch := (first | omega | (simp only [go_sem]; try omega))) only [go_sem, Nat.reduceAdd, Nat.reduceEqDiff, Nat.reduceLeDiff, Nat.reduceMul, Nat.reduceLT, reduceIte, Int.reduceToNat, w64_id, cast_succ, ha, hld])
    refine SW.loopE (fun E0 H0 q E' H' => ∃ (x : Nat) (cv : AV), x ≤ n ∧ q = n - x ∧ E' = aput E0 6 (I x) ∧ GBx H [nilS, nilS] [cv, nilS] H' ∧ GrowF H' (H.length + 2) 2 1 cv x ((List.replicate x (0 : Int)).map I)) n ⟨0, nilS, by omega, by omega, rfl, ⟨by simp, by simp, by simp, fun j hj => by rw [List.getElem?_append_left hj]⟩, .inl ⟨rfl, rfl, rfl⟩⟩ ?_
    rintro q E' H1 ⟨x, cv, hxn, rfl, rfl, ⟨b0, b1, b2, b3⟩, hg⟩
    simp (config := { maxSteps := 1000000 }) (disch := (first | omega | (simp only [go_sem]; try omega))) only [go_sem, Nat.reduceAdd, Nat.reduceEqDiff, Nat.reduceLeDiff, Nat.reduceMul, Nat.reduceLT, reduceIte, Int.reduceToNat, w64_id, cast_succ]
    repeat (first | (with_reducible first | refine SW.seq ?_ | refine SW.block ?_ | refine SW.rowC ?_ | refine SW.skip ?_ | refine SW.exit ?_ | intro _ | refine And.intro (by omega) ?_) | simp (config := { maxSteps := 1000000 }) (disch := (first | omega | (simp only [go_sem]; try omega))) only [go_sem, Nat.reduceAdd, Nat.reduceEqDiff, Nat.reduceLeDiff, Nat.reduceMul, Nat.reduceLT, reduceIte, Int.reduceToNat, w64_id, cast_succ])
    (first | refine SW.condD rfl (fun h1 => ?_) (fun h1 => ?_) | refine SW.condN rfl (fun h1 => ?_) (fun h1 => ?_) | refine SW.condNB rfl (fun h1 => ?_) (fun h1 => ?_) | refine SW.condB rfl (fun h1 => ?_) (fun h1 => ?_))
    · repeat (first | (with_reducible first | refine SW.seq ?_ | refine SW.block ?_ | refine SW.rowC ?_ | refine SW.skip ?_ | refine SW.exit ?_ | intro _ | refine And.intro (by omega) ?_) | simp (config := { maxSteps := 1000000 }) (disch := (first | omega | (simp only [go_sem]; try omega))) only [go_sem, Nat.reduceAdd, Nat.reduceEqDiff, Nat.reduceLeDiff, Nat.reduceMul, Nat.reduceLT, reduceIte, Int.reduceToNat, w64_id, cast_succ, pc_alive b1, pc_ld b1])
      refine GrowF.appX hg b2 rfl (by simp [AV.cell1]; rfl) (by omega) (by omega) ?_
      intro v3 H3 d1 d2 d3
      have e1 : H3[H.length + 1]? = some ⟨0, tyGr, 1, [cv, nilS]⟩ := by rw [d3 _ (by omega)]; exact b1
      repeat (first | (with_reducible first | refine SW.seq ?_ | refine SW.block ?_ | refine SW.rowC ?_ | refine SW.skip ?_ | refine SW.exit ?_ | intro _ | refine And.intro (by omega) ?_) | simp (config := { maxSteps := 1000000 }) (disch := (first | omega | (simp only [go_sem]; try omega))) only [go_sem, Nat.reduceAdd, Nat.reduceEqDiff, Nat.reduceLeDiff, Nat.reduceMul, Nat.reduceLT, reduceIte, Int.reduceToNat, w64_id, cast_succ, pc_alive e1, pc_ld e1, d1.one.1, d1.one.2])
      rw [pc_st e1 (by simp)]
      repeat (first | (with_reducible first | refine SW.seq ?_ | refine SW.block ?_ | refine SW.rowC ?_ | refine SW.skip ?_ | refine SW.exit ?_ | intro _ | refine And.intro (by omega) ?_) | simp (config := { maxSteps := 1000000 }) (disch := (first | omega | (simp only [go_sem]; try omega))) only [go_sem, Nat.reduceAdd, Nat.reduceEqDiff, Nat.reduceLeDiff, Nat.reduceMul, Nat.reduceLT, reduceIte, Int.reduceToNat, w64_id, cast_succ])
      refine SLoop.next (n - (x + 1)) (by omega) ⟨x + 1, v3, by omega, rfl, by simp [go_sem], ?_, ?_⟩
      · exact GBx.put ⟨b0, b1, b2, b3⟩ (Nat.le_refl _) (by omega) d3
      · rw [List.replicate_succ', List.map_append]
        exact d1.same (fun j b h1 h2 => by rw [List.getElem?_set_ne (by omega)]; exact h2)
    · have : x = n := by omega
      subst this
      have hm0 : (List.replicate x (0 : Int)).map I = ((List.replicate x (0 : Int)) ++ List.replicate 0 (1 : Int)).map I := by simp
      rw [hm0] at hg
      repeat (first | (with_reducible first | refine SW.seq ?_ | refine SW.block ?_ | refine SW.rowC ?_ | refine SW.skip ?_ | refine SW.exit ?_ | intro _ | refine And.intro (by omega) ?_) | simp (config := { maxSteps := 1000000 }) (disch := (first | omega | (simp only [go_sem]; try omega))) only [go_sem, Nat.reduceAdd, Nat.reduceEqDiff, Nat.reduceLeDiff, Nat.reduceMul, Nat.reduceLT, reduceIte, Int.reduceToNat, w64_id, cast_succ])
      refine SW.loopE (fun E0 H0 q E' H' => ∃ (i : Nat) (cv : AV), i ≤ xss.length ∧ q = xss.length - i ∧ E' = aput E0 7 (I i) ∧ GBx H [nilS, nilS] [cv, nilS] H' ∧ GrowF H' (H.length + 2) 2 1 cv (x + i) (((List.replicate x (0 : Int)) ++ List.replicate i (1 : Int)).map I)) xss.length ⟨0, cv, by omega, by omega, rfl, ⟨b0, b1, b2, b3⟩, hg⟩ ?_
      clear hg b0 b1 b2 b3 hm0
      rintro q E' H1 ⟨i, cv, hil, rfl, rfl, ⟨b0, b1, b2, b3⟩, hg⟩
      have pd : H1[p]? = some ⟨0, 41, 1, [I x, ilSS xss]⟩ := by rw [b3 p hpl]; exact hp
      have pda := fun (o : Nat) => pc_alive (off := o) pd
      have pdl := fun (o : Nat) => pc_ld (off := o) pd
      simp (config := { maxSteps := 1000000 }) (disch := (first | omega | (simp only [go_sem]; try omega))) only [go_sem, Nat.reduceAdd, Nat.reduceEqDiff, Nat.reduceLeDiff, Nat.reduceMul, Nat.reduceLT, reduceIte, Int.reduceToNat, w64_id, cast_succ]
      repeat (first | (with_reducible first | refine SW.seq ?_ | refine SW.block ?_ | refine SW.rowC ?_ | refine SW.skip ?_ | refine SW.exit ?_ | intro _ | refine And.intro (by omega) ?_) | simp (config := { maxSteps := 1000000 }) (disch := (first | omega | (simp only [go_sem]; try omega))) only [go_sem, Nat.reduceAdd, Nat.reduceEqDiff, Nat.reduceLeDiff, Nat.reduceMul, Nat.reduceLT, reduceIte, Int.reduceToNat, w64_id, cast_succ, pda, pdl])
      (first | refine SW.condD rfl (fun h2 => ?_) (fun h2 => ?_) | refine SW.condN rfl (fun h2 => ?_) (fun h2 => ?_) | refine SW.condNB rfl (fun h2 => ?_) (fun h2 => ?_) | refine SW.condB rfl (fun h2 => ?_) (fun h2 => ?_))
      · repeat (first | (with_reducible first | refine SW.seq ?_ | refine SW.block ?_ | refine SW.rowC ?_ | refine SW.skip ?_ | refine SW.exit ?_ | intro _ | refine And.intro (by omega) ?_) | simp (config := { maxSteps := 1000000 }) (disch := (first | omega | (simp only [go_sem]; try omega))) only [go_sem, Nat.reduceAdd, Nat.reduceEqDiff, Nat.reduceLeDiff, Nat.reduceMul, Nat.reduceLT, reduceIte, Int.reduceToNat, w64_id, cast_succ, pc_alive b1, pc_ld b1])
        refine GrowF.appX hg b2 rfl (by simp [AV.cell1]; rfl) (by omega) (by omega) ?_
        intro v3 H3 d1 d2 d3
        have e1 : H3[H.length + 1]? = some ⟨0, tyGr, 1, [cv, nilS]⟩ := by rw [d3 _ (by omega)]; exact b1
        repeat (first | (with_reducible first | refine SW.seq ?_ | refine SW.block ?_ | refine SW.rowC ?_ | refine SW.skip ?_ | refine SW.exit ?_ | intro _ | refine And.intro (by omega) ?_) | simp (config := { maxSteps := 1000000 }) (disch := (first | omega | (simp only [go_sem]; try omega))) only [go_sem, Nat.reduceAdd, Nat.reduceEqDiff, Nat.reduceLeDiff, Nat.reduceMul, Nat.reduceLT, reduceIte, Int.reduceToNat, w64_id, cast_succ, pc_alive e1, pc_ld e1, d1.one.1, d1.one.2])
        rw [pc_st e1 (by simp)]
        repeat (first | (with_reducible first | refine SW.seq ?_ | refine SW.block ?_ | refine SW.rowC ?_ | refine SW.skip ?_ | refine SW.exit ?_ | intro _ | refine And.intro (by omega) ?_) | simp (config := { maxSteps := 1000000 }) (disch := (first | omega | (simp only [go_sem]; try omega))) only [go_sem, Nat.reduceAdd, Nat.reduceEqDiff, Nat.reduceLeDiff, Nat.reduceMul, Nat.reduceLT, reduceIte, Int.reduceToNat, w64_id, cast_succ])
        refine SLoop.next (xss.length - (i + 1)) (by omega) ⟨i + 1, v3, by omega, rfl, by simp [go_sem], ?_, ?_⟩
        · exact GBx.put ⟨b0, b1, b2, b3⟩ (Nat.le_refl _) (by omega) d3
        · rw [List.replicate_succ', ← List.append_assoc, List.map_append]
          exact d1.same (fun j b h1 h2 => by rw [List.getElem?_set_ne (by omega)]; exact h2)
      · have : i = xss.length := by omega
        subst this
        have hC : List.replicate x (0 : Int) ++ List.replicate xss.length 1 = twoC x xss.length := by
          unfold twoC tab
          apply List.ext_getElem
          · simp
          · intro j g1 g2
            simp only [List.getElem_append, List.getElem_replicate, List.length_replicate, List.getElem_map, List.getElem_range]
            by_cases hj : j < x
            · rw [dif_pos hj, if_neg (by omega)]
            · rw [dif_neg hj, if_pos (by omega)]
        rw [hC] at hg
        generalize hCg : twoC x xss.length = C at *
        have hCl : C.length = x + xss.length := by rw [← hCg]; simp [twoC, tab]
        repeat (first | (with_reducible first | refine SW.seq ?_ | refine SW.block ?_ | refine SW.rowC ?_ | refine SW.skip ?_ | refine SW.exit ?_ | intro _ | refine And.intro (by omega) ?_) | simp (config := { maxSteps := 1000000 }) (disch := (first | omega | (simp only [go_sem]; try omega))) only [go_sem, Nat.reduceAdd, Nat.reduceEqDiff, Nat.reduceLeDiff, Nat.reduceMul, Nat.reduceLT, reduceIte, Int.reduceToNat, w64_id, cast_succ])
        refine SW.loopE (fun E0 H0 q E' H' => ∃ (y : Nat) (ev : AV), y ≤ x ∧ q = x - y ∧ E' = aput E0 8 (I y) ∧ GBx H [nilS, nilS] [cv, ev] H' ∧ GrowF H' H1.length tyE 2 ev (edX x xss y).length (flatE (edX x xss y)) ∧ H1.length ≤ H'.length ∧ ∀ j, H.length + 2 ≤ j → j < H1.length → H'[j]? = H1[j]?) x ⟨0, nilS, by omega, by omega, rfl, ⟨b0, b1, b2, b3⟩, .inl ⟨rfl, rfl, rfl⟩, Nat.le_refl _, fun _ _ _ => rfl⟩ ?_
        clear b0 b1 b3
        rintro q E' H2 ⟨y, ev, hyx, rfl, rfl, hgb, hge, hl2, hk2⟩
        simp (config := { maxSteps := 1000000 }) (disch := (first | omega | (simp only [go_sem]; try omega))) only [go_sem, Nat.reduceAdd, Nat.reduceEqDiff, Nat.reduceLeDiff, Nat.reduceMul, Nat.reduceLT, reduceIte, Int.reduceToNat, w64_id, cast_succ]
        repeat (first | (with_reducible first | refine SW.seq ?_ | refine SW.block ?_ | refine SW.rowC ?_ | refine SW.skip ?_ | refine SW.exit ?_ | intro _ | refine And.intro (by omega) ?_) | simp (config := { maxSteps := 1000000 }) (disch := (first | omega | (simp only [go_sem]; try omega))) only [go_sem, Nat.reduceAdd, Nat.reduceEqDiff, Nat.reduceLeDiff, Nat.reduceMul, Nat.reduceLT, reduceIte, Int.reduceToNat, w64_id, cast_succ])
        (first | refine SW.condD rfl (fun h3 => ?_) (fun h3 => ?_) | refine SW.condN rfl (fun h3 => ?_) (fun h3 => ?_) | refine SW.condNB rfl (fun h3 => ?_) (fun h3 => ?_) | refine SW.condB rfl (fun h3 => ?_) (fun h3 => ?_))
        · repeat (first | (with_reducible first | refine SW.seq ?_ | refine SW.block ?_ | refine SW.rowC ?_ | refine SW.skip ?_ | refine SW.exit ?_ | intro _ | refine And.intro (by omega) ?_) | simp (config := { maxSteps := 1000000 }) (disch := (first | omega | (simp only [go_sem]; try omega))) only [go_sem, Nat.reduceAdd, Nat.reduceEqDiff, Nat.reduceLeDiff, Nat.reduceMul, Nat.reduceLT, reduceIte, Int.reduceToNat, w64_id, cast_succ])
          refine SW.loopE (fun E0 H0 q E' H' => ∃ (i : Nat) (ev : AV), i ≤ xss.length ∧ q = xss.length - i ∧ E' = aput E0 9 (I i) ∧ GBx H [nilS, nilS] [cv, ev] H' ∧ GrowF H' H1.length tyE 2 ev (edX x xss y ++ edRow x xss y i).length (flatE (edX x xss y ++ edRow x xss y i)) ∧ H1.length ≤ H'.length ∧ ∀ j, H.length + 2 ≤ j → j < H1.length → H'[j]? = H1[j]?) xss.length ⟨0, ev, by omega, by omega, rfl, hgb, by simpa [edRow] using hge, hl2, hk2⟩ ?_
          clear hgb hge hl2 hk2
          rintro q E' H2 ⟨i, ev, hil, rfl, rfl, ⟨b0, b1, b2', b3⟩, hge, hl2, hk2⟩
          have pd : H2[p]? = some ⟨0, 41, 1, [I x, ilSS xss]⟩ := by rw [b3 p hpl]; exact hp
          have pda := fun (o : Nat) => pc_alive (off := o) pd
          have pdl := fun (o : Nat) => pc_ld (off := o) pd
          have hes := edRow_succ x xss y i
          have hel1 := edX_len x xss y
          have hel2 := edRow_len x xss y i
          have hel3 : y * xss.length ≤ 32 * 128 := Nat.mul_le_mul (by omega) hl
          simp (config := { maxSteps := 1000000 }) (disch := (first | omega | (simp only [go_sem]; try omega))) only [go_sem, Nat.reduceAdd, Nat.reduceEqDiff, Nat.reduceLeDiff, Nat.reduceMul, Nat.reduceLT, reduceIte, Int.reduceToNat, w64_id, cast_succ]
          repeat (first | (with_reducible first | refine SW.seq ?_ | refine SW.block ?_ | refine SW.rowC ?_ | refine SW.skip ?_ | refine SW.exit ?_ | intro _ | refine And.intro (by omega) ?_) | simp (config := { maxSteps := 1000000 }) (disch := (first | omega | (simp only [go_sem]; try omega))) only [go_sem, Nat.reduceAdd, Nat.reduceEqDiff, Nat.reduceLeDiff, Nat.reduceMul, Nat.reduceLT, reduceIte, Int.reduceToNat, w64_id, cast_succ, pda, pdl])
          (first | refine SW.condD rfl (fun h4 => ?_) (fun h4 => ?_) | refine SW.condN rfl (fun h4 => ?_) (fun h4 => ?_) | refine SW.condNB rfl (fun h4 => ?_) (fun h4 => ?_) | refine SW.condB rfl (fun h4 => ?_) (fun h4 => ?_))
          · repeat (first | (with_reducible first | refine SW.seq ?_ | refine SW.block ?_ | refine SW.rowC ?_ | refine SW.skip ?_ | refine SW.exit ?_ | refine PFn.use (l00Has_fn _ _) ?_ | refine PFn.useq (l00Has_fn _ _) ?_ | intro _ | refine And.intro (by omega) ?_) | simp (config := { maxSteps := 1000000 }) (disch := (first | omega | (simp only [go_sem]; try omega))) only [go_sem, Nat.reduceAdd, Nat.reduceEqDiff, Nat.reduceLeDiff, Nat.reduceMul, Nat.reduceLT, reduceIte, Int.reduceToNat, w64_id, cast_succ, pda, pdl])
            by_cases hc : (xss.getD i []).contains (y : Int) = true
            · rw [if_pos hc] at hes
              have nm2 : ∀ (ty : Nat) (a b : AV), NmV 0 0 1 (some ⟨0, ty, 2, [a, b]⟩) = some (1, [a, b]) := fun ty a b => by simp [NmV]
              rw [hc]
              refine SW.condT rfl ?_
              repeat (first | (with_reducible first | refine SW.seq ?_ | refine SW.block ?_ | refine SW.rowC ?_ | refine SW.skip ?_ | refine SW.exit ?_ | intro _ | refine And.intro (by omega) ?_) | simp (config := { maxSteps := 1000000 }) (disch := (first | omega | (simp only [go_sem]; try omega))) only [go_sem, Nat.reduceAdd, Nat.reduceEqDiff, Nat.reduceLeDiff, Nat.reduceMul, Nat.reduceLT, reduceIte, Int.reduceToNat, w64_id, cast_succ, pc_alive b1, pc_ld b1, nm2])
              refine GrowF.appX hge hl2 rfl (by simp [AV.cell1]; exact ⟨rfl, rfl⟩) (by simp; omega) (by simp; omega) ?_
              intro v3 H3 d1 d2 d3
              have e1 : H3[H.length + 1]? = some ⟨0, tyGr, 1, [cv, ev]⟩ := by rw [d3 _ (by omega)]; exact b1
              repeat (first | (with_reducible first | refine SW.seq ?_ | refine SW.block ?_ | refine SW.rowC ?_ | refine SW.skip ?_ | refine SW.exit ?_ | intro _ | refine And.intro (by omega) ?_) | simp (config := { maxSteps := 1000000 }) (disch := (first | omega | (simp only [go_sem]; try omega))) only [go_sem, Nat.reduceAdd, Nat.reduceEqDiff, Nat.reduceLeDiff, Nat.reduceMul, Nat.reduceLT, reduceIte, Int.reduceToNat, w64_id, cast_succ, pc_alive e1, pc_ld e1, d1.one.1, d1.one.2])
              rw [pc_st e1 (by simp)]
              repeat (first | (with_reducible first | refine SW.seq ?_ | refine SW.block ?_ | refine SW.rowC ?_ | refine SW.skip ?_ | refine SW.exit ?_ | intro _ | refine And.intro (by omega) ?_) | simp (config := { maxSteps := 1000000 }) (disch := (first | omega | (simp only [go_sem]; try omega))) only [go_sem, Nat.reduceAdd, Nat.reduceEqDiff, Nat.reduceLeDiff, Nat.reduceMul, Nat.reduceLT, reduceIte, Int.reduceToNat, w64_id, cast_succ])
              refine SLoop.next (xss.length - (i + 1)) (by omega) ⟨i + 1, v3, by omega, rfl, by simp [go_sem], ?_, ?_, by simp; omega, ?_⟩
              · exact GBx.put (base := H1.length) ⟨b0, b1, b2', b3⟩ b2 (by omega) (fun j hj => d3 j hj)
              · rw [hes, ← List.append_assoc, flatE_snoc]
                have e := d1.same (H' := H3.set (H.length + 1) ⟨0, tyGr, 1, [cv, v3]⟩) (fun j b h1 h2 => by rw [List.getElem?_set_ne (by omega)]; exact h2)
                simpa [Nat.add_assoc] using e
              · intro j hj1 hj2
                rw [List.getElem?_set_ne (by omega), d3 _ hj2]; exact hk2 j hj1 hj2
            · rw [if_neg hc] at hes
              rw [Bool.not_eq_true] at hc
              rw [hc]
              refine SW.condF rfl ?_
              repeat (first | (with_reducible first | refine SW.seq ?_ | refine SW.block ?_ | refine SW.rowC ?_ | refine SW.skip ?_ | refine SW.exit ?_ | intro _ | refine And.intro (by omega) ?_) | simp (config := { maxSteps := 1000000 }) (disch := (first | omega | (simp only [go_sem]; try omega))) only [go_sem, Nat.reduceAdd, Nat.reduceEqDiff, Nat.reduceLeDiff, Nat.reduceMul, Nat.reduceLT, reduceIte, Int.reduceToNat, w64_id, cast_succ])
              refine SLoop.next (xss.length - (i + 1)) (by omega) ⟨i + 1, ev, by omega, rfl, by simp [go_sem], ⟨b0, b1, b2', b3⟩, ?_, hl2, hk2⟩
              rw [hes, List.append_nil]; simpa using hge
          · have : i = xss.length := by omega
            subst this
            repeat (first | (with_reducible first | refine SW.seq ?_ | refine SW.block ?_ | refine SW.rowC ?_ | refine SW.skip ?_ | refine SW.exit ?_ | intro _ | refine And.intro (by omega) ?_) | simp (config := { maxSteps := 1000000 }) (disch := (first | omega | (simp only [go_sem]; try omega))) only [go_sem, Nat.reduceAdd, Nat.reduceEqDiff, Nat.reduceLeDiff, Nat.reduceMul, Nat.reduceLT, reduceIte, Int.reduceToNat, w64_id, cast_succ])
            refine SLoop.next (x - (y + 1)) (by omega) ⟨y + 1, ev, by omega, rfl, by simp [go_sem], ⟨b0, b1, b2', b3⟩, by rw [edX_succ]; exact hge, hl2, hk2⟩
        · have : y = x := by omega
          subst this
          obtain ⟨b0, b1, b2', b3⟩ := hgb
          have hvw := hge.view
          repeat (first | (with_reducible first | refine SW.seq ?_ | refine SW.block ?_ | refine SW.rowC ?_ | refine SW.skip ?_ | refine SW.exit ?_ | intro _ | refine And.intro (by omega) ?_) | simp (config := { maxSteps := 1000000 }) (disch := (first | omega | (simp only [go_sem]; try omega))) only [go_sem, Nat.reduceAdd, Nat.reduceEqDiff, Nat.reduceLeDiff, Nat.reduceMul, Nat.reduceLT, reduceIte, Int.reduceToNat, w64_id, cast_succ, pc_alive b1, pc_ld b1, hvw])
          have hEs := edX_is hx
          have hEl : (edX y xss y).length = (edI y xss).length := by
            rw [hEs]
            exact (sortU_permE cmpE_tot (edI_nodup (fun x h => asc_nodupA (hx x h)))).length_eq
          by_cases h512 : (edX y xss y).length > 512
          · have d2 : decide ((512 : Int) < ((edX y xss y).length : Int)) = true := decide_eq_true (by omega)
            have hV : grV y xss = (([], []), 5) := by unfold grV; rw [if_pos (.inr (by rw [← hEl]; exact h512))]
            rw [hV, d2]
            refine SW.condT rfl ?_
            repeat (first | (with_reducible first | refine SW.seq ?_ | refine SW.block ?_ | refine SW.rowC ?_ | refine SW.skip ?_ | refine SW.exit ?_ | intro _ | refine And.intro (by omega) ?_) | simp (config := { maxSteps := 1000000 }) (disch := (first | omega | (simp only [go_sem]; try omega))) only [go_sem, Nat.reduceAdd, Nat.reduceEqDiff, Nat.reduceLeDiff, Nat.reduceMul, Nat.reduceLT, reduceIte, Int.reduceToNat, w64_id, cast_succ])
            rw [pc_st b0 (by simp)]
            repeat (first | (with_reducible first | refine SW.seq ?_ | refine SW.block ?_ | refine SW.rowC ?_ | refine SW.skip ?_ | refine SW.exit ?_ | intro _ | refine And.intro (by omega) ?_) | simp (config := { maxSteps := 1000000 }) (disch := (first | omega | (simp only [go_sem]; try omega))) only [go_sem, Nat.reduceAdd, Nat.reduceEqDiff, Nat.reduceLeDiff, Nat.reduceMul, Nat.reduceLT, reduceIte, Int.reduceToNat, w64_id, cast_succ])
            refine SW.ret ?_
            have c0 : (H2.set H.length ⟨0, tyGr, 1, [nilS, nilS]⟩)[H.length]? = some ⟨0, tyGr, 1, [nilS, nilS]⟩ := List.getElem?_set_self (by omega)
            refine FunPost.cell_tmp (cs := [nilS, nilS]) (by simp (config := { maxSteps := 1000000 }) (disch := (first | omega | (simp only [go_sem]; try omega))) only [go_sem, Nat.reduceAdd, Nat.reduceEqDiff, Nat.reduceLeDiff, Nat.reduceMul, Nat.reduceLT, reduceIte, Int.reduceToNat, w64_id, cast_succ, pc_lds c0]) ?_
            exact GR.frozP (prefix_of (by simp; omega) (fun j hj => by rw [List.getElem?_set_ne (by omega)]; exact b3 j hj)) (r' := .tup [.agg [ilS [], ilE []], I 5]) (froz_tup2 (froz_agg2 .nil .nil) (froz_I' _)) ⟨rfl, rfl⟩
          · have d2 : decide ((512 : Int) < ((edX y xss y).length : Int)) = false := decide_eq_false (by omega)
            have hV : grV y xss = ((C, edX y xss y), 0) := by unfold grV; rw [if_neg (by rw [← hEl]; omega), hCg, hEs]
            rw [hV, d2]
            refine SW.condF rfl ?_
            repeat (first | (with_reducible first | refine SW.seq ?_ | refine SW.block ?_ | refine SW.rowC ?_ | refine SW.skip ?_ | refine SW.exit ?_ | intro _ | refine And.intro (by omega) ?_) | simp (config := { maxSteps := 1000000 }) (disch := (first | omega | (simp only [go_sem]; try omega))) only [go_sem, Nat.reduceAdd, Nat.reduceEqDiff, Nat.reduceLeDiff, Nat.reduceMul, Nat.reduceLT, reduceIte, Int.reduceToNat, w64_id, cast_succ, pc_lds b1, hg.one.1, hg.one.2, hge.one.1, hge.one.2])
            rw [pc_st b0 (by simp)]
            repeat (first | (with_reducible first | refine SW.seq ?_ | refine SW.block ?_ | refine SW.rowC ?_ | refine SW.skip ?_ | refine SW.exit ?_ | intro _ | refine And.intro (by omega) ?_) | simp (config := { maxSteps := 1000000 }) (disch := (first | omega | (simp only [go_sem]; try omega))) only [go_sem, Nat.reduceAdd, Nat.reduceEqDiff, Nat.reduceLeDiff, Nat.reduceMul, Nat.reduceLT, reduceIte, Int.reduceToNat, w64_id, cast_succ])
            refine SW.ret ?_
            have c0 : (H2.set H.length ⟨0, tyGr, 1, [cv, ev]⟩)[H.length]? = some ⟨0, tyGr, 1, [cv, ev]⟩ := List.getElem?_set_self (by omega)
            refine FunPost.cell_tmp (cs := [cv, ev]) (by simp (config := { maxSteps := 1000000 }) (disch := (first | omega | (simp only [go_sem]; try omega))) only [go_sem, Nat.reduceAdd, Nat.reduceEqDiff, Nat.reduceLeDiff, Nat.reduceMul, Nat.reduceLT, reduceIte, Int.reduceToNat, w64_id, cast_succ, pc_lds c0]) ?_
            refine GR.frozP (prefix_of (by simp; omega) (fun j hj => by rw [List.getElem?_set_ne (by omega)]; exact b3 j hj)) (r' := .tup [.agg [ilS C, ilE (edX y xss y)], I 0]) (froz_tup2 (froz_agg2 ?_ ?_) (froz_I' _)) ⟨rfl, rfl⟩
            · exact (hg.same (fun j b h1 h2 => by rw [List.getElem?_set_ne (by omega), hk2 j h1 (List.getElem?_eq_some_iff.1 h2).1]; exact h2)).frozI (by omega)
            · exact (hge.same (fun j b h1 h2 => by rw [List.getElem?_set_ne (by omega)]; exact h2)).frozE (by omega)
end Go.Proofs.Ytonfknfphdeenaa
