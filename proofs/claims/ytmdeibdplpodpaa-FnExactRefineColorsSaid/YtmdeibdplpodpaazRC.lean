/- Neighbor lists of graphs. -/
import Derived.Test.YtmdeibdplpodpaaProg
import Derived.KernelRfl
import Derived.Test.YtmdeibdplpodpaazRA
import Derived.Test.YtmdeibdplpodpaazSZ
set_option linter.unusedSimpArgs false
set_option linter.unusedVariables false
set_option maxHeartbeats 4000000
set_option maxRecDepth 100000
namespace Go.Proofs.Ytmdeibdplpodpaa
open Go.Av
abbrev f_impl_neighborLists : Nat := 40
def c_impl_neighborLists : SC :=
 .seq (.reg [
     ⟨(some 1), .box 30 (.tmp 0), none⟩,
     ⟨(some 2), .mv (.const (.slice none 0 0)), none⟩] [1])
 (.seq (.reg [
     ⟨(some 8), .faddr 0 (.tmp 1), none⟩,
     ⟨(some 9), .load 1 false (.tmp 8), none⟩,
     ⟨(some 10), .len (.tmp 9), none⟩,
     ⟨(some 11), .mslice 22 24 (.slice none 0 0) (.tmp 10) (.tmp 10), none⟩,
     ⟨(some 3), .mv (.tmp 11), none⟩] [1, 3])
 (.seq (.seq (.reg [
     ⟨(some 12), .faddr 1 (.tmp 1), none⟩,
     ⟨(some 13), .load 1 false (.tmp 12), none⟩,
     ⟨(some 14), .len (.tmp 13), none⟩,
     ⟨(some 15), .mv (.const (.int .i64 0)), none⟩] [3, 13, 14, 15])
 (.block 0 (.loop [3, 13, 14, 15]
   (.seq (.reg [
       ⟨(some 16), .bin .lss (.tmp 15) (.tmp 14), none⟩] [3, 13, 14, 15, 16])
   (.seq (.cond (.tmp 16)
    (.skip)
    (.exit 0))
   (.seq (.block 1 (.seq (.reg [
        ⟨(some 17), .iaddr 2 (.tmp 13) (.tmp 15), none⟩,
        ⟨(some 18), .load 2 true (.tmp 17), none⟩,
        ⟨(some 5), .alloc 61 [(.int .i64 0), (.int .i64 0)], none⟩,
        ⟨none, .store 2 (.tmp 5) (.tmp 18), none⟩] [3, 5, 13, 14, 15])
    (.seq (.mix (.one ⟨(some 19), .mv (.tmp 3), none⟩
     (.one ⟨(some 22), .mv (.tmp 3), none⟩
     (.one ⟨(some 23), .faddr 0 (.tmp 5), none⟩
     (.one ⟨(some 24), .load 1 false (.tmp 23), none⟩
     (.one ⟨(some 25), .iaddr 1 (.tmp 22) (.tmp 24), none⟩
     (.one ⟨(some 26), .load 1 false (.tmp 25), none⟩
     (.one ⟨(some 27), .faddr 1 (.tmp 5), none⟩
     (.one ⟨(some 28), .load 1 false (.tmp 27), none⟩
     (.both (.one ⟨(some 20), .faddr 0 (.tmp 5), none⟩
      (.both (.one ⟨(some 21), .load 1 false (.tmp 20), none⟩
       (.one ⟨(some 29), .bslice 2 1 1 [(.int .i64 0)] [(0, (.tmp 28))], none⟩
       (.one ⟨(some 30), .app 2 1 8 (.tmp 26) (.tmp 29), none⟩
       (.one ⟨(some 31), .iaddr 1 (.tmp 19) (.tmp 21), none⟩
       (.one ⟨none, .store 1 (.tmp 31) (.tmp 30), none⟩
       (.done))))))
      (.one ⟨(some 29), .bslice 2 1 1 [(.int .i64 0)] [(0, (.tmp 28))], none⟩
       (.both (.one ⟨(some 21), .load 1 false (.tmp 20), none⟩
        (.one ⟨(some 30), .app 2 1 8 (.tmp 26) (.tmp 29), none⟩
        (.one ⟨(some 31), .iaddr 1 (.tmp 19) (.tmp 21), none⟩
        (.one ⟨none, .store 1 (.tmp 31) (.tmp 30), none⟩
        (.done)))))
       (.one ⟨(some 30), .app 2 1 8 (.tmp 26) (.tmp 29), none⟩
        (.one ⟨(some 21), .load 1 false (.tmp 20), none⟩
        (.one ⟨(some 31), .iaddr 1 (.tmp 19) (.tmp 21), none⟩
        (.one ⟨none, .store 1 (.tmp 31) (.tmp 30), none⟩
        (.done)))))))))
     (.one ⟨(some 29), .bslice 2 1 1 [(.int .i64 0)] [(0, (.tmp 28))], none⟩
      (.both (.one ⟨(some 20), .faddr 0 (.tmp 5), none⟩
       (.both (.one ⟨(some 21), .load 1 false (.tmp 20), none⟩
        (.one ⟨(some 30), .app 2 1 8 (.tmp 26) (.tmp 29), none⟩
        (.one ⟨(some 31), .iaddr 1 (.tmp 19) (.tmp 21), none⟩
        (.one ⟨none, .store 1 (.tmp 31) (.tmp 30), none⟩
        (.done)))))
       (.one ⟨(some 30), .app 2 1 8 (.tmp 26) (.tmp 29), none⟩
        (.one ⟨(some 21), .load 1 false (.tmp 20), none⟩
        (.one ⟨(some 31), .iaddr 1 (.tmp 19) (.tmp 21), none⟩
        (.one ⟨none, .store 1 (.tmp 31) (.tmp 30), none⟩
        (.done)))))))
      (.one ⟨(some 30), .app 2 1 8 (.tmp 26) (.tmp 29), none⟩
       (.one ⟨(some 20), .faddr 0 (.tmp 5), none⟩
       (.one ⟨(some 21), .load 1 false (.tmp 20), none⟩
       (.one ⟨(some 31), .iaddr 1 (.tmp 19) (.tmp 21), none⟩
       (.one ⟨none, .store 1 (.tmp 31) (.tmp 30), none⟩
       (.done))))))))))))))))) [3, 5, 13, 14, 15])
    (.mix (.one ⟨(some 32), .mv (.tmp 3), none⟩
     (.one ⟨(some 35), .mv (.tmp 3), none⟩
     (.one ⟨(some 36), .faddr 1 (.tmp 5), none⟩
     (.one ⟨(some 37), .load 1 false (.tmp 36), none⟩
     (.one ⟨(some 38), .iaddr 1 (.tmp 35) (.tmp 37), none⟩
     (.one ⟨(some 39), .load 1 false (.tmp 38), none⟩
     (.one ⟨(some 40), .faddr 0 (.tmp 5), none⟩
     (.one ⟨(some 41), .load 1 false (.tmp 40), none⟩
     (.both (.one ⟨(some 33), .faddr 1 (.tmp 5), none⟩
      (.both (.one ⟨(some 34), .load 1 false (.tmp 33), none⟩
       (.one ⟨(some 42), .bslice 2 1 1 [(.int .i64 0)] [(0, (.tmp 41))], none⟩
       (.one ⟨(some 43), .app 2 1 8 (.tmp 39) (.tmp 42), none⟩
       (.one ⟨(some 44), .iaddr 1 (.tmp 32) (.tmp 34), none⟩
       (.one ⟨none, .store 1 (.tmp 44) (.tmp 43), none⟩
       (.done))))))
      (.one ⟨(some 42), .bslice 2 1 1 [(.int .i64 0)] [(0, (.tmp 41))], none⟩
       (.both (.one ⟨(some 34), .load 1 false (.tmp 33), none⟩
        (.one ⟨(some 43), .app 2 1 8 (.tmp 39) (.tmp 42), none⟩
        (.one ⟨(some 44), .iaddr 1 (.tmp 32) (.tmp 34), none⟩
        (.one ⟨none, .store 1 (.tmp 44) (.tmp 43), none⟩
        (.done)))))
       (.one ⟨(some 43), .app 2 1 8 (.tmp 39) (.tmp 42), none⟩
        (.one ⟨(some 34), .load 1 false (.tmp 33), none⟩
        (.one ⟨(some 44), .iaddr 1 (.tmp 32) (.tmp 34), none⟩
        (.one ⟨none, .store 1 (.tmp 44) (.tmp 43), none⟩
        (.done)))))))))
     (.one ⟨(some 42), .bslice 2 1 1 [(.int .i64 0)] [(0, (.tmp 41))], none⟩
      (.both (.one ⟨(some 33), .faddr 1 (.tmp 5), none⟩
       (.both (.one ⟨(some 34), .load 1 false (.tmp 33), none⟩
        (.one ⟨(some 43), .app 2 1 8 (.tmp 39) (.tmp 42), none⟩
        (.one ⟨(some 44), .iaddr 1 (.tmp 32) (.tmp 34), none⟩
        (.one ⟨none, .store 1 (.tmp 44) (.tmp 43), none⟩
        (.done)))))
       (.one ⟨(some 43), .app 2 1 8 (.tmp 39) (.tmp 42), none⟩
        (.one ⟨(some 34), .load 1 false (.tmp 33), none⟩
        (.one ⟨(some 44), .iaddr 1 (.tmp 32) (.tmp 34), none⟩
        (.one ⟨none, .store 1 (.tmp 44) (.tmp 43), none⟩
        (.done)))))))
      (.one ⟨(some 43), .app 2 1 8 (.tmp 39) (.tmp 42), none⟩
       (.one ⟨(some 33), .faddr 1 (.tmp 5), none⟩
       (.one ⟨(some 34), .load 1 false (.tmp 33), none⟩
       (.one ⟨(some 44), .iaddr 1 (.tmp 32) (.tmp 34), none⟩
       (.one ⟨none, .store 1 (.tmp 44) (.tmp 43), none⟩
       (.done))))))))))))))))) [3, 13, 14, 15]))))
   (.reg [
       ⟨(some 45), .bin .add (.tmp 15) (.const (.int .i64 1)), none⟩,
       ⟨(some 15), .mv (.tmp 45), none⟩] [3, 13, 14, 15])))))))
 (.seq (.seq (.reg [
     ⟨(some 46), .mv (.tmp 3), none⟩,
     ⟨(some 47), .len (.tmp 46), none⟩,
     ⟨(some 48), .mv (.const (.int .i64 0)), none⟩] [3, 46, 47, 48])
 (.block 2 (.loop [3, 46, 47, 48]
   (.seq (.reg [
       ⟨(some 49), .bin .lss (.tmp 48) (.tmp 47), none⟩] [3, 46, 47, 48, 49])
   (.seq (.cond (.tmp 49)
    (.skip)
    (.exit 2))
   (.seq (.block 3 (.seq (.reg [
        ⟨(some 50), .iaddr 1 (.tmp 46) (.tmp 48), none⟩,
        ⟨(some 51), .load 1 false (.tmp 50), none⟩,
        ⟨(some 7), .mv (.tmp 51), none⟩] [3, 7, 46, 47, 48])
    (.reg [
        ⟨(some 52), .mv (.tmp 7), none⟩,
        ⟨(some 53), .call 62 [(.tmp 52)], none⟩] [3, 46, 47, 48])))
   (.reg [
       ⟨(some 54), .bin .add (.tmp 48) (.const (.int .i64 1)), none⟩,
       ⟨(some 48), .mv (.tmp 54), none⟩] [3, 46, 47, 48])))))))
 (.seq (.reg [
     ⟨(some 55), .mv (.tmp 3), none⟩,
     ⟨(some 2), .mv (.tmp 55), none⟩] [2])
 (.ret)))))
theorem s_impl_neighborLists : stripF Try.prog 40 [[1], [1, 3], [3, 13, 14, 15], [3, 13, 14, 15], [3, 13, 14, 15, 16], [3, 5, 13, 14, 15], [3, 5, 13, 14, 15], [3, 13, 14, 15], [3, 13, 14, 15], [3, 46, 47, 48], [3, 46, 47, 48], [3, 46, 47, 48, 49], [3, 7, 46, 47, 48], [3, 46, 47, 48], [3, 46, 47, 48], [2]] = some (c_impl_neighborLists, [.tmp 2], 56) := by kernel_rfl
def nbr (es : List (Int × Int)) (b : Nat) : List Int := es.flatMap fun e => (if e.1 = (b : Int) then [e.2] else []) ++ (if e.2 = (b : Int) then [e.1] else [])
def nbrT (n : Nat) (es : List (Int × Int)) : List (List Int) := (List.range n).map (nbr es)
theorem nbrT_len (n : Nat) (es : List (Int × Int)) : (nbrT n es).length = n := by simp [nbrT]
theorem nbrT_nil (n : Nat) : nbrT n [] = List.replicate n [] := by
  refine List.eq_replicate_iff.2 ⟨nbrT_len _ _, fun b hb => ?_⟩
  obtain ⟨k, _, rfl⟩ := List.mem_map.1 hb
  rfl
theorem nbr_len (es : List (Int × Int)) (b : Nat) : (nbr es b).length ≤ 2 * es.length := by
  unfold nbr
  induction es with
  | nil => simp
  | cons e r ih =>
    rw [List.flatMap_cons, List.length_append, List.length_append, List.length_cons]
    have h1 : (if e.1 = (b : Int) then [e.2] else []).length ≤ 1 := by split <;> simp
    have h2 : (if e.2 = (b : Int) then [e.1] else []).length ≤ 1 := by split <;> simp
    omega
def RowG (H : List Blk) (b t : Nat) (c : AV) (xs : List Int) : Prop := (∃ r v, c = .nm r v 0 xs.length ∧ b ≤ r ∧ r ≠ t ∧ H[r]? = some ⟨v, 2, 1, xs.map I⟩) ∨ (xs = [] ∧ c = nilS)
structure GroT (H : List Blk) (b t : Nat) (cells : List AV) (T : List (List Int)) : Prop where
  bt : b ≤ t
  tb : H[t]? = some ⟨0, tyLL, 1, cells⟩
  len : cells.length = T.length
  row : ∀ (j : Nat) (c : AV) (xs : List Int), cells[j]? = some c → T[j]? = some xs → RowG H b t c xs
  ne : ∀ (i j r v o l v' o' l' : Nat), i ≠ j → cells[i]? = some (.nm r v o l) → cells[j]? ≠ some (.nm r v' o' l')
theorem GroT.replicate {X : List Blk} {b t n : Nat} (hN : b ≤ t) (h : X[t]? = some ⟨0, tyLL, 1, List.replicate n nilS⟩) : GroT X b t (List.replicate n nilS) (List.replicate n []) := by
  refine ⟨hN, h, by simp, ?_, ?_⟩
  · intro j c xs h1 h2
    rw [List.eq_of_mem_replicate (List.mem_of_getElem? h1), List.eq_of_mem_replicate (List.mem_of_getElem? h2)]
    exact .inr ⟨rfl, rfl⟩
  · intro i j r v o l v' o' l' _ h1
    have := List.eq_of_mem_replicate (List.mem_of_getElem? h1)
    cases this
theorem GroT.same {H H' : List Blk} {b t : Nat} {cells : List AV} {T : List (List Int)} (h : GroT H b t cells T) (hs : ∀ j bl, b ≤ j → H[j]? = some bl → H'[j]? = some bl) : GroT H' b t cells T :=
  ⟨h.bt, hs _ _ h.bt h.tb, h.len, fun j c xs g1 g2 => (h.row j c xs g1 g2).elim (fun ⟨r, v, e, o1, o2, o3⟩ => .inl ⟨r, v, e, o1, o2, hs _ _ o1 o3⟩) .inr, h.ne⟩
theorem GroT.own {H : List Blk} {b t : Nat} {cells : List AV} {T : List (List Int)} (h : GroT H b t cells T) : OwnC H (Fr b) t 0 tyLL cells T :=
  ⟨h.bt, h.tb, h.len, fun j c xs g1 g2 => (h.row j c xs g1 g2).elim (fun ⟨r, v, e, o1, o2, o3⟩ => .inl ⟨r, v, _, e, o1, o2, o3⟩) (fun ⟨e1, e2⟩ => .inr ⟨e1, .inl e2⟩), h.ne⟩
def addR (T : List (List Int)) (a : Nat) (y : Int) : List (List Int) := T.set a (T.getD a [] ++ [y])
theorem GroT.put {X Z : List Blk} {b t a r w : Nat} {cells : List AV} {T : List (List Int)} {c : AV} (h : GroT X b t cells T) (ha : cells[a]? = some c) (ys : List Int) (hb : b ≤ r) (hrt : r ≠ t)
    (hd : ∀ j v' o' l', j ≠ a → cells[j]? ≠ some (.nm r v' o' l')) (hZ : Z[r]? = some ⟨w, 2, 1, ys.map I⟩) (hfr : ∀ j bl, j ≠ r → X[j]? = some bl → Z[j]? = some bl) :
    GroT (Z.set t ⟨0, tyLL, 1, cells.set a (.nm r w 0 ys.length)⟩) b t (cells.set a (.nm r w 0 ys.length)) (T.set a ys) := by
  have hal : a < cells.length := (List.getElem?_eq_some_iff.1 ha).1
  have haT : a < T.length := by rw [← h.len]; exact hal
  have hZt := hfr _ _ (Ne.symm hrt) h.tb
  refine ⟨h.bt, List.getElem?_set_self (List.getElem?_eq_some_iff.1 hZt).1, by simp [h.len], ?_, ?_⟩
  · intro j c' xs g1 g2
    by_cases hj : j = a
    · subst hj
      rw [List.getElem?_set_self hal] at g1
      rw [List.getElem?_set_self haT] at g2
      cases g1; cases g2
      exact .inl ⟨r, w, rfl, hb, hrt, by rw [List.getElem?_set_ne (Ne.symm hrt)]; exact hZ⟩
    · rw [List.getElem?_set_ne (Ne.symm hj)] at g1 g2
      rcases h.row j c' xs g1 g2 with ⟨r', v', rfl, o1, o2, o3⟩ | hh
      · exact .inl ⟨r', v', rfl, o1, o2, by rw [List.getElem?_set_ne (Ne.symm o2)]; exact hfr r' _ (fun e => by subst e; exact hd j _ _ _ hj g1) o3⟩
      · exact .inr hh
  · intro i j r1 v o l v' o' l' hij g1 g2
    by_cases hi : i = a
    · subst hi
      rw [List.getElem?_set_self hal] at g1
      rw [List.getElem?_set_ne hij] at g2
      simp only [Option.some.injEq, AV.nm.injEq] at g1
      rw [← g1.1] at g2
      exact hd j _ _ _ (Ne.symm hij) g2
    · rw [List.getElem?_set_ne (Ne.symm hi)] at g1
      by_cases hj : j = a
      · subst hj
        rw [List.getElem?_set_self hal] at g2
        simp only [Option.some.injEq, AV.nm.injEq] at g2
        rw [← g2.1] at g1
        exact hd i _ _ _ hij g1
      · rw [List.getElem?_set_ne (Ne.symm hj)] at g2
        exact h.ne _ _ _ _ _ _ _ _ _ hij g1 g2
theorem GroT.app {X Y : List Blk} {b t a : Nat} {cells : List AV} {T : List (List Int)} {c : AV} (h : GroT X b t cells T) (hXl : X.length ≤ Y.length) (hXY : ∀ (j : Nat) (bl : Blk), X[j]? = some bl → Y[j]? = some bl) (ha : cells[a]? = some c) (hr : (T.getD a []).length + 1 ≤ 100000) (x : Int) {K : AV → List Blk → Prop}
    (hk : ∀ v Z, v.cell1 = true ∧ partsOf v = [v] → Y.length ≤ Z.length → Z[t]? = some ⟨0, tyLL, 1, cells⟩ → GroT (Z.set t ⟨0, tyLL, 1, cells.set a v⟩) b t (cells.set a v) (addR T a x) → (∀ j : Nat, j < b ∨ X.length ≤ j → j < Y.length → Z[j]? = Y[j]?) → (∀ (j : Nat) (bl : Blk), Y[j]? = some bl → bl.ty ≠ 2 → Z[j]? = some bl) → K v Z) :
    AppX 2 1 8 Y c K (some (1, [I x])) := by
  have hal : a < cells.length := (List.getElem?_eq_some_iff.1 ha).1
  have haT : a < T.length := by rw [← h.len]; exact hal
  have hta : T[a]? = some (T.getD a []) := by rw [List.getD_eq_getElem?_getD, List.getElem?_eq_getElem haT]; rfl
  have hci : ([I x] : List AV).all AV.cell1 = true := rfl
  have htY := hXY _ _ h.tb
  have htX := (List.getElem?_eq_some_iff.1 h.tb).1
  have hnm : ∀ (j r v o l : Nat), cells[j]? = some (AV.nm r v o l) → r < X.length := fun j r v o l hj => h.own.nm_lt hj
  rcases h.row a c _ ha hta with ⟨r, v, rfl, o1, o2, o3⟩ | ⟨e1, rfl⟩
  · have hYr := hXY _ _ o3
    have hYl := (List.getElem?_eq_some_iff.1 hYr).1
    have htk : ((T.getD a []).map I).take ((T.getD a []).length * 1) = (T.getD a []).map I := List.take_of_length_le (by simp)
    rw [AppX_nm _ _ _ _ _ _ _ _ _ _ rfl hci, hYr, AppN_in _ _ _ _ _ _ _ _ _ _ _ (by simp) (by omega) (by omega), htk]
    refine hk _ _ ⟨rfl, rfl⟩ (by rw [List.length_set]; exact Nat.le_refl _) (by rw [List.getElem?_set_ne o2]; exact htY) ?_ (fun j hj hl => ?_) (fun j bl hj ht => ?_)
    · have := h.put (Z := Y.set r ⟨v + 1, 2, 1, (T.getD a []).map I ++ [I x]⟩) (w := v + 1) ha (T.getD a [] ++ [x]) o1 o2 (fun j v' o' l' hj g => h.ne _ _ _ _ _ _ _ _ _ hj g ha) (by rw [List.getElem?_set_self hYl]; simp) (fun j bl hj hb => by rw [List.getElem?_set_ne (Ne.symm hj)]; exact hXY _ _ hb)
      simpa [addR] using this
    · have hrX := (List.getElem?_eq_some_iff.1 o3).1
      rw [List.getElem?_set_ne (by omega)]
    · rw [List.getElem?_set_ne (fun e => by subst e; rw [hYr] at hj; cases hj; exact ht rfl)]; exact hj
  · rw [AppX_nil _ _ _ _ _ _ _ rfl hci (by omega) (by omega)]
    refine hk _ _ ⟨rfl, rfl⟩ (by simp) (by rw [List.getElem?_append_left (by omega)]; exact htY) ?_ (fun j hj hl => by rw [List.getElem?_append_left hl]) (fun j bl hj _ => get_appB2 hj _)
    have hbX := h.bt
    have := h.put (Z := Y ++ [⟨1, 2, 1, [I x]⟩]) (r := Y.length) (w := 1) ha (T.getD a [] ++ [x]) (by omega) (by omega) (fun j v' o' l' hj g => by have := hnm _ _ _ _ _ g; omega) (by rw [e1]; simp) (fun j bl hj hb => by rw [List.getElem?_append_left (List.getElem?_eq_some_iff.1 (hXY _ _ hb)).1]; exact hXY _ _ hb)
    rw [e1] at this
    unfold addR
    rw [e1]
    exact this
theorem GroT.upd {X : List Blk} {b t a r v : Nat} {cells : List AV} {T : List (List Int)} {xs ys : List Int} (h : GroT X b t cells T) (ha : cells[a]? = some (.nm r v 0 xs.length)) (hr : X[r]? = some ⟨v, 2, 1, xs.map I⟩) (hrt : r ≠ t) (hb : b ≤ r) (hl : ys.length = xs.length) :
    GroT (X.set r ⟨v, 2, 1, ys.map I⟩) b t cells (T.set a ys) := by
  have hal : a < cells.length := (List.getElem?_eq_some_iff.1 ha).1
  have hrl := (List.getElem?_eq_some_iff.1 hr).1
  refine ⟨h.bt, by rw [List.getElem?_set_ne hrt]; exact h.tb, by rw [List.length_set, h.len], fun j c zs g1 g2 => ?_, h.ne⟩
  by_cases hj : j = a
  · subst hj
    rw [ha] at g1
    rw [List.getElem?_set_self (by rw [← h.len]; exact hal)] at g2
    cases g1; cases g2
    exact .inl ⟨r, v, by rw [hl], hb, hrt, List.getElem?_set_self hrl⟩
  · rw [List.getElem?_set_ne (Ne.symm hj)] at g2
    rcases h.row j c zs g1 g2 with ⟨r', v', rfl, o1, o2, o3⟩ | hh
    · refine .inl ⟨r', v', rfl, o1, o2, ?_⟩
      rw [List.getElem?_set_ne (fun e => by subst e; exact h.ne _ _ _ _ _ _ _ _ _ hj g1 ha)]; exact o3
    · exact .inr hh
theorem sortINil_ok {P : Program} {f : FuncId} (hn : SortsIN P f) (H : List Blk) : ACalls P f [nilS] H (fun r H' => r = .tup [] ∧ H' = H) := by
  intro B W0 F m w vs hr hsim
  obtain ⟨v0, vs0, rfl, r0, hr⟩ := hr.inv_cons
  obtain rfl := hr.inv_nil
  have e1 := r0.lit_inv
  subst e1
  refine (hn none 0 w).mono ?_
  rintro e w' ⟨rfl, rfl⟩
  exact ⟨F, m, H, .tup [], .tuple #[], rfl, FLe.refl _, MLe.refl _, .tup [] [] rfl (fun j c v h => by simp at h), hsim, rfl, rfl⟩
theorem nbrT_snoc (n : Nat) (es : List (Int × Int)) {a b : Nat} (ha : a < n) (hb : b < n) : nbrT n (es ++ [((a : Int), (b : Int))]) = addR (addR (nbrT n es) a b) b a := by
  have g : ∀ k, k < n → (nbrT n es)[k]? = some (nbr es k) := fun k hk => by unfold nbrT; rw [List.getElem?_map, List.getElem?_range hk]; rfl
  have gd : ∀ k, k < n → (nbrT n es).getD k [] = nbr es k := fun k hk => by rw [List.getD_eq_getElem?_getD, g k hk]; rfl
  have hl := nbrT_len n es
  refine List.ext_getElem? fun k => ?_
  by_cases hk : k < n
  · have e1 : (nbrT n (es ++ [((a : Int), (b : Int))]))[k]? = some (nbr es k ++ ((if (a : Int) = (k : Int) then [(b : Int)] else []) ++ (if (b : Int) = (k : Int) then [(a : Int)] else []))) := by
      unfold nbrT
      rw [List.getElem?_map, List.getElem?_range hk]
      simp [nbr]
    have e2 : ∀ j, j < n → (addR (nbrT n es) a b)[j]? = some (nbr es j ++ (if (a : Int) = (j : Int) then [(b : Int)] else [])) := fun j hj => by
      unfold addR
      rw [List.getElem?_set, hl, gd a ha]
      by_cases h : a = j
      · subst h; rw [if_pos rfl, if_pos hj, if_pos rfl]
      · rw [if_neg h, g j hj, if_neg (by omega), List.append_nil]
    rw [e1, show addR (addR (nbrT n es) a b) b a = (addR (nbrT n es) a b).set b ((addR (nbrT n es) a b).getD b [] ++ [(a : Int)]) from rfl]
    by_cases h : b = k
    · subst h
      rw [List.getElem?_set_self (by unfold addR; rw [List.length_set, hl]; exact hk), List.getD_eq_getElem?_getD, e2 b hk, if_pos rfl, ← List.append_assoc]
      rfl
    · rw [List.getElem?_set_ne h, e2 k hk, if_neg (show ¬ (b : Int) = (k : Int) by omega), List.append_nil]
  · rw [List.getElem?_eq_none (by rw [nbrT_len]; omega), List.getElem?_eq_none (by unfold addR; rw [List.length_set, List.length_set, hl]; omega)]
def sortT (T : List (List Int)) (k : Nat) : List (List Int) := (List.range T.length).map fun (j : Nat) => if j < k then isort (T.getD j []) else T.getD j []
theorem sortT_len (T : List (List Int)) (k : Nat) : (sortT T k).length = T.length := by simp [sortT]
theorem sortT_get (T : List (List Int)) (k : Nat) {j : Nat} (hj : j < T.length) : (sortT T k)[j]? = some (if j < k then isort (T.getD j []) else T.getD j []) := by
  unfold sortT
  rw [List.getElem?_map, List.getElem?_range hj]
  rfl
theorem sortT_zero (T : List (List Int)) : sortT T 0 = T := by
  refine List.ext_getElem? fun j => ?_
  by_cases hj : j < T.length
  · rw [sortT_get T _ hj, if_neg (by omega), getD_get hj]
    exact (List.getElem?_eq_getElem hj).symm
  · rw [List.getElem?_eq_none (by rw [sortT_len]; omega), List.getElem?_eq_none (by omega)]
theorem sortT_all (T : List (List Int)) : sortT T T.length = T.map isort := by
  refine List.ext_getElem? fun j => ?_
  by_cases hj : j < T.length
  · rw [sortT_get T _ hj, if_pos hj, getD_get hj, List.getElem?_map, List.getElem?_eq_getElem hj]
    rfl
  · rw [List.getElem?_eq_none (by rw [sortT_len]; omega), List.getElem?_eq_none (by rw [List.length_map]; omega)]
theorem sortT_set {T : List (List Int)} {k : Nat} (h : k < T.length) : (sortT T k).set k (isort (T.getD k [])) = sortT T (k + 1) := by
  refine List.ext_getElem? fun j => ?_
  by_cases hj : j < T.length
  · rw [sortT_get T _ hj, List.getElem?_set, sortT_len]
    by_cases e : k = j
    · subst e
      rw [if_pos rfl, if_pos hj, if_pos (by omega)]
    · rw [if_neg e, sortT_get T _ hj]
      by_cases h2 : j < k
      · rw [if_pos h2, if_pos (by omega)]
      · rw [if_neg h2, if_neg (by omega)]
  · rw [List.getElem?_eq_none (by rw [List.length_set, sortT_len]; omega), List.getElem?_eq_none (by rw [sortT_len]; omega)]
theorem set_same {α : Type} {l : List α} {k : Nat} {x : α} (h : l[k]? = some x) : l.set k x = l := by
  refine List.ext_getElem? fun j => ?_
  rw [List.getElem?_set]
  split
  · rename_i e; subst e
    rw [if_pos (List.getElem?_eq_some_iff.1 h).1, h]
  · rfl
theorem neighborLists_ok (H : List Blk) (cols : List Int) (es : List (Int × Int)) (hn : cols.length ≤ 64) (hel : es.length ≤ 512) (he : ∀ e ∈ es, (0 ≤ e.1 ∧ e.1 < cols.length) ∧ 0 ≤ e.2 ∧ e.2 < cols.length) :
    ACalls Try.prog f_impl_neighborLists [.agg [ilS cols, ilE es]] H (fun r H' => ∃ ext cells, r = .nm (H.length + 1) 0 0 cols.length ∧ H' = H ++ ext ∧ GroT H' (H.length + 1) (H.length + 1) cells ((nbrT cols.length es).map isort)) := by
  generalize hnn : cols.length = n at *
  refine ACalls.introB s_impl_neighborLists (by simp) ?_; intro hB hA; unfold c_impl_neighborLists; simp (config := { maxSteps := 1000000 }) (disch := (first | omega | (simp only [go_sem]; try omega))) only [go_sem, Nat.reduceAdd, Nat.reduceEqDiff, Nat.reduceLeDiff, Nat.reduceMul, Nat.reduceLT, reduceIte, Int.reduceToNat, w64_id, cast_succ]
  repeat (first | (with_reducible first | refine SW.seq ?_ | refine SW.block ?_ | refine SW.rowC ?_ | refine SW.skip ?_ | refine SW.exit ?_ | intro _ | refine And.intro (by omega) ?_) | simp (config := { maxSteps := 1000000 }) (disch := (first | omega | (simp only [go_sem]; try omega))) only [go_sem, Nat.reduceAdd, Nat.reduceEqDiff, Nat.reduceLeDiff, Nat.reduceMul, Nat.reduceLT, reduceIte, Int.reduceToNat, w64_id, cast_succ, hnn])
  refine SW.loopE (fun E0 H0 m E' X => ∃ (i : Nat) (cells : List AV), i ≤ es.length ∧ m = es.length - i ∧ E' = aput E0 15 (I i) ∧ X[H.length]? = some ⟨0, tyGr, 1, [ilS cols, ilE es]⟩ ∧ GroT X (H.length + 1) (H.length + 1) cells (nbrT n (es.take i)) ∧ ∀ j, j < H.length → X[j]? = H[j]?) es.length
    ⟨0, List.replicate n nilS, by omega, by omega, rfl, by simp, ?_, fun j hj => by rw [List.getElem?_append_left hj]⟩ ?_
  · rw [List.take_zero, nbrT_nil]
    refine GroT.replicate (Nat.le_refl _) ?_
    simp
  rintro m E' X ⟨i, cells, hi, rfl, rfl, m0, hO, hfX⟩
  have vt : ∀ ext, aview (X ++ ext) (.nm (H.length + 1) 0 0 n) = some (n, cells) := fun ext => by
    have := (get_appB2 hO.tb ext)
    have h3 := hO.len
    rw [nbrT_len] at h3
    exact view_nm this h3
  have ha0 := fun o => pc_alive (off := o) m0
  have hl0 := fun o => pc_ld (off := o) m0
  have hls0 := fun l (hl : 0 + l ≤ 2) => pc_lds (off := 0) (n := l) m0 (by simpa using hl)
  simp (config := { maxSteps := 1000000 }) (disch := (first | omega | (simp only [go_sem]; try omega))) only [go_sem, Nat.reduceAdd, Nat.reduceEqDiff, Nat.reduceLeDiff, Nat.reduceMul, Nat.reduceLT, reduceIte, Int.reduceToNat, w64_id, cast_succ]
  repeat (first | (with_reducible first | refine SW.seq ?_ | refine SW.block ?_ | refine SW.rowC ?_ | refine SW.skip ?_ | refine SW.exit ?_ | intro _ | refine And.intro (by omega) ?_) | simp (config := { maxSteps := 1000000 }) (disch := (first | omega | (simp only [go_sem]; try omega))) only [go_sem, Nat.reduceAdd, Nat.reduceEqDiff, Nat.reduceLeDiff, Nat.reduceMul, Nat.reduceLT, reduceIte, Int.reduceToNat, w64_id, cast_succ, ha0, hl0])
  (first | refine SW.condD rfl (fun h2 => ?_) (fun h2 => ?_) | refine SW.condN rfl (fun h2 => ?_) (fun h2 => ?_) | refine SW.condNB rfl (fun h2 => ?_) (fun h2 => ?_) | refine SW.condB rfl (fun h2 => ?_) (fun h2 => ?_))
  · have hin : i < es.length := by omega
    have hmem : es.getD i (0, 0) ∈ es := by rw [getD_get hin]; exact List.getElem_mem _
    obtain ⟨⟨p1, p2⟩, p3, p4⟩ := he _ hmem
    have l1 : ∀ Y, acells Y 2 (.el (ilE es) (i * 2)) = some [I (es.getD i (0, 0)).1, I (es.getD i (0, 0)).2] := fun Y => (rd_ilE Y es).ld hin
    have htk : es.take (i + 1) = es.take i ++ [es.getD i (0, 0)] := by rw [List.take_succ_eq_append_getElem hin, getD_get hin]
    generalize es.getD i (0, 0) = e at *
    obtain ⟨x, y⟩ := e
    obtain ⟨a, rfl⟩ : ∃ a : Nat, x = a := ⟨x.toNat, by simp at p1; omega⟩
    obtain ⟨b, rfl⟩ : ∃ b : Nat, y = b := ⟨y.toNat, by simp at p3; omega⟩
    replace p2 : a < n := by simpa using p2
    replace p4 : b < n := by simpa using p4
    repeat (first | (with_reducible first | refine SW.seq ?_ | refine SW.block ?_ | refine SW.rowC ?_ | refine SW.skip ?_ | refine SW.exit ?_ | intro _ | refine And.intro (by omega) ?_) | simp (config := { maxSteps := 1000000 }) (disch := (first | omega | (simp only [go_sem]; try omega))) only [go_sem, Nat.reduceAdd, Nat.reduceEqDiff, Nat.reduceLeDiff, Nat.reduceMul, Nat.reduceLT, reduceIte, Int.reduceToNat, w64_id, cast_succ, l1, vt])
    have hXl := (List.getElem?_eq_some_iff.1 hO.tb).1
    have hcl : cells.length = n := by have := hO.len; rwa [nbrT_len] at this
    refine SW.mixR (fun E' Y => keep [3, 5, 13, 14, 15] E' = [(3, AV.nm (H.length + 1) 0 0 n), (5, .pc X.length 0 0), (13, ilE es), (14, I es.length), (15, I i)] ∧ ∃ cells', GroT Y (H.length + 1) (H.length + 1) cells' (addR (nbrT n (es.take i)) a b) ∧ Y[X.length]? = some ⟨0, tyE, 1, [I a, I b]⟩ ∧ X.length < Y.length ∧ Y[H.length]? = X[H.length]? ∧ ∀ j, j < H.length → Y[j]? = X[j]?) ?_ ?_
    · have hb0 : ∀ ext, (X ++ ⟨0, tyE, 1, [I (a : Int), I (b : Int)]⟩ :: ext)[X.length]? = some ⟨0, tyE, 1, [I (a : Int), I (b : Int)]⟩ := fun ext => by rw [List.getElem?_append_right (Nat.le_refl _), Nat.sub_self]; rfl
      have qa := fun o ext => pc_alive (off := o) (hb0 ext)
      have ql := fun o ext => pc_ld (off := o) (hb0 ext)
      obtain ⟨c, hca⟩ : ∃ c, cells[a]? = some c := ⟨_, List.getElem?_eq_getElem (by omega)⟩
      have hTa : (nbrT n (es.take i)).getD a [] = nbr (es.take i) a := by unfold nbrT; rw [List.getD_eq_getElem?_getD, List.getElem?_map, List.getElem?_range p2]; rfl
      simp (config := { maxSteps := 1000000 }) (disch := (first | omega | (simp only [go_sem]; try omega))) only [go_sem, Nat.reduceAdd, Nat.reduceEqDiff, Nat.reduceLeDiff, Nat.reduceMul, Nat.reduceLT, reduceIte, Int.reduceToNat, w64_id, cast_succ, qa, ql, vt, hca]
      repeat' (with_reducible refine And.intro ?_ ?_)
      all_goals
        refine hO.app (by simp) (fun j bl hb => get_appB2 hb _) hca (by rw [hTa]; have := nbr_len (es.take i) a; simp at this; omega) (b : Int) ?_
        intro v Z c1 hZl hZt hG hfr hft
        have hZl2 : X.length + 1 < Z.length := by simp at hZl; omega
        have hZb : Z[X.length]? = some ⟨0, tyE, 1, [I a, I b]⟩ := by rw [hfr X.length (.inr (Nat.le_refl _)) (by simp)]; simp
        have za := fun o => pc_alive (off := o) hZb
        have zl := fun o => pc_ld (off := o) hZb
        have zv : aview Z (.nm (H.length + 1) 0 0 n) = some (n, cells) := view_nm hZt hcl
        have zw : astore Z [v] (.el (.nm (H.length + 1) 0 0 n) a) = some (Z.set (H.length + 1) ⟨0, tyLL, 1, cells.set a v⟩) := by rw [store_nm hZt (by omega)]
        have fin : ∃ cells', GroT (Z.set (H.length + 1) ⟨0, tyLL, 1, cells.set a v⟩) (H.length + 1) (H.length + 1) cells' (addR (nbrT n (es.take i)) a b) ∧ (Z.set (H.length + 1) ⟨0, tyLL, 1, cells.set a v⟩)[X.length]? = some ⟨0, tyE, 1, [I a, I b]⟩ ∧ X.length < Z.length ∧ (Z.set (H.length + 1) ⟨0, tyLL, 1, cells.set a v⟩)[H.length]? = X[H.length]? ∧ ∀ j, j < H.length → (Z.set (H.length + 1) ⟨0, tyLL, 1, cells.set a v⟩)[j]? = X[j]? := by
          refine ⟨_, hG, by rw [List.getElem?_set_ne (by omega)]; exact hZb, by omega, ?_, fun j hj => ?_⟩
          · rw [List.getElem?_set_ne (by omega), hfr _ (.inl (by omega)) (by simp; omega), List.getElem?_append_left (by omega)]
          · rw [List.getElem?_set_ne (by omega), hfr _ (.inl (by omega)) (by simp; omega), List.getElem?_append_left (by omega)]
        simp (config := { maxSteps := 1000000 }) (disch := (first | omega | (simp only [go_sem]; try omega))) only [go_sem, Nat.reduceAdd, Nat.reduceEqDiff, Nat.reduceLeDiff, Nat.reduceMul, Nat.reduceLT, reduceIte, Int.reduceToNat, w64_id, cast_succ, za, zl, zv, zw, c1.1, c1.2]
        exact fin
    rintro E' Y ⟨hE, cells', hO', hYb, hYl, hY0, hYf⟩
    rw [hE]
    have hT1 : ((addR (nbrT n (es.take i)) a b).getD b []).length ≤ 5000 := by
      unfold addR
      rw [List.getD_eq_getElem?_getD, List.getElem?_set]
      have q1 := nbr_len (es.take i) a
      have q2 := nbr_len (es.take i) b
      simp at q1 q2
      split
      · split
        · simp only [Option.getD_some, List.length_append, List.length_cons, List.length_nil]
          rw [show (nbrT n (es.take i)).getD a [] = nbr (es.take i) a by unfold nbrT; rw [List.getD_eq_getElem?_getD, List.getElem?_map, List.getElem?_range p2]; rfl]
          omega
        · simp
      · rw [show (nbrT n (es.take i))[b]? = some (nbr (es.take i) b) by unfold nbrT; rw [List.getElem?_map, List.getElem?_range p4]; rfl]
        simp; omega
    have hTn : addR (addR (nbrT n (es.take i)) a b) b a = nbrT n (es.take (i + 1)) := by
      rw [htk]; exact (nbrT_snoc n _ p2 p4).symm
    have hTl : (addR (nbrT n (es.take i)) a b).length = n := by unfold addR; rw [List.length_set, nbrT_len]
    have hcl' : cells'.length = n := by rw [hO'.len, hTl]
    have vt' : ∀ ext, aview (Y ++ ext) (.nm (H.length + 1) 0 0 n) = some (n, cells') := fun ext => view_nm (get_appB2 hO'.tb ext) hcl'
    have vt'0 : aview Y (.nm (H.length + 1) 0 0 n) = some (n, cells') := view_nm hO'.tb hcl'
    have hYl1 := (List.getElem?_eq_some_iff.1 hO'.tb).1
    generalize hTT : addR (nbrT n (es.take i)) a b = T at *
    repeat (first | (with_reducible first | refine SW.seq ?_ | refine SW.block ?_ | refine SW.rowC ?_ | refine SW.skip ?_ | refine SW.exit ?_ | intro _ | refine And.intro (by omega) ?_) | simp (config := { maxSteps := 1000000 }) (disch := (first | omega | (simp only [go_sem]; try omega))) only [go_sem, Nat.reduceAdd, Nat.reduceEqDiff, Nat.reduceLeDiff, Nat.reduceMul, Nat.reduceLT, reduceIte, Int.reduceToNat, w64_id, cast_succ])
    refine SW.mixR (fun E' Z => aget E' 3 = AV.nm (H.length + 1) 0 0 n ∧ aget E' 13 = ilE es ∧ aget E' 14 = I es.length ∧ aget E' 15 = I i ∧ ∃ cells2, GroT Z (H.length + 1) (H.length + 1) cells2 (addR T b a) ∧ X.length < Z.length ∧ Z[H.length]? = X[H.length]? ∧ ∀ j, j < H.length → Z[j]? = X[j]?) ?_ ?_
    · have qa := fun o ext => pc_alive (off := o) (get_appU hYb ext)
      have ql := fun o ext => pc_ld (off := o) (get_appU hYb ext)
      have qa0 := fun o => pc_alive (off := o) hYb
      have ql0 := fun o => pc_ld (off := o) hYb
      obtain ⟨c, hca⟩ : ∃ c, cells'[b]? = some c := ⟨_, List.getElem?_eq_getElem (by omega)⟩
      simp (config := { maxSteps := 1000000 }) (disch := (first | omega | (simp only [go_sem]; try omega))) only [go_sem, Nat.reduceAdd, Nat.reduceEqDiff, Nat.reduceLeDiff, Nat.reduceMul, Nat.reduceLT, reduceIte, Int.reduceToNat, w64_id, cast_succ, qa, ql, qa0, ql0, vt', vt'0, hca]
      repeat' (with_reducible refine And.intro ?_ ?_)
      all_goals
        refine hO'.app (by simp) (fun j bl hb => get_appB2 hb _) hca (by omega) (a : Int) ?_
        intro v Z c1 hZl hZt hG hfr hft
        have hZl2 : Y.length < Z.length := by simp at hZl; omega
        have zv : aview Z (.nm (H.length + 1) 0 0 n) = some (n, cells') := view_nm hZt hcl'
        have hZb := hft _ _ (get_appU hYb [(⟨0, 2, 1, [I (a : Int)]⟩ : Blk)]) (show tyE ≠ 2 by decide)
        have za := fun o => pc_alive (off := o) hZb
        have zl := fun o => pc_ld (off := o) hZb
        have zw : astore Z [v] (.el (.nm (H.length + 1) 0 0 n) b) = some (Z.set (H.length + 1) ⟨0, tyLL, 1, cells'.set b v⟩) := by rw [store_nm hZt (by omega)]
        have fin : ∃ cells2, GroT (Z.set (H.length + 1) ⟨0, tyLL, 1, cells'.set b v⟩) (H.length + 1) (H.length + 1) cells2 (addR T b a) ∧ X.length < Z.length ∧ (Z.set (H.length + 1) ⟨0, tyLL, 1, cells'.set b v⟩)[H.length]? = X[H.length]? ∧ ∀ j, j < H.length → (Z.set (H.length + 1) ⟨0, tyLL, 1, cells'.set b v⟩)[j]? = X[j]? := by
          refine ⟨_, hG, by omega, ?_, fun j hj => ?_⟩
          · rw [List.getElem?_set_ne (by omega), hfr _ (.inl (by omega)) (by simp; omega), List.getElem?_append_left (by omega)]; exact hY0
          · rw [List.getElem?_set_ne (by omega), hfr _ (.inl (by omega)) (by simp; omega), List.getElem?_append_left (by omega)]; exact hYf j hj
        simp (config := { maxSteps := 1000000 }) (disch := (first | omega | (simp only [go_sem]; try omega))) only [go_sem, Nat.reduceAdd, Nat.reduceEqDiff, Nat.reduceLeDiff, Nat.reduceMul, Nat.reduceLT, reduceIte, Int.reduceToNat, w64_id, cast_succ, za, zl, zv, zw, c1.1, c1.2]
        exact fin
    rintro E2 Z ⟨e3, e13, e14, e15, cells2, hO2, hZl, hZ0, hZf⟩
    simp (config := { maxSteps := 1000000 }) (disch := (first | omega | (simp only [go_sem]; try omega))) only [go_sem, Nat.reduceAdd, Nat.reduceEqDiff, Nat.reduceLeDiff, Nat.reduceMul, Nat.reduceLT, reduceIte, Int.reduceToNat, w64_id, cast_succ, e3, e13, e14, e15]
    repeat (first | (with_reducible first | refine SW.seq ?_ | refine SW.block ?_ | refine SW.rowC ?_ | refine SW.skip ?_ | refine SW.exit ?_ | intro _ | refine And.intro (by omega) ?_) | simp (config := { maxSteps := 1000000 }) (disch := (first | omega | (simp only [go_sem]; try omega))) only [go_sem, Nat.reduceAdd, Nat.reduceEqDiff, Nat.reduceLeDiff, Nat.reduceMul, Nat.reduceLT, reduceIte, Int.reduceToNat, w64_id, cast_succ])
    exact SLoop.next (es.length - (i + 1)) (by omega) ⟨i + 1, cells2, by omega, rfl, rfl, hZ0.trans m0, hTn ▸ hO2, fun j hj => (hZf j hj).trans (hfX j hj)⟩
  · have : i = es.length := by omega
    subst this
    rw [List.take_length] at hO
    have vt0 := vt []
    rw [List.append_nil] at vt0
    clear vt
    repeat (first | (with_reducible first | refine SW.seq ?_ | refine SW.block ?_ | refine SW.rowC ?_ | refine SW.skip ?_ | refine SW.exit ?_ | intro _ | refine And.intro (by omega) ?_) | simp (config := { maxSteps := 1000000 }) (disch := (first | omega | (simp only [go_sem]; try omega))) only [go_sem, Nat.reduceAdd, Nat.reduceEqDiff, Nat.reduceLeDiff, Nat.reduceMul, Nat.reduceLT, reduceIte, Int.reduceToNat, w64_id, cast_succ, vt0])
    have hTl := nbrT_len n es
    have hTb : ∀ xs ∈ nbrT n es, xs.length ≤ 2000 := fun xs hx => by
      obtain ⟨k, _, rfl⟩ := List.mem_map.1 hx
      have := nbr_len es k; omega
    generalize nbrT n es = T at *
    have hXl := (List.getElem?_eq_some_iff.1 hO.tb).1
    have hcl : cells.length = n := by rw [hO.len, hTl]
    clear vt0 ha0 hl0 hls0 m0
    refine SW.loopE (fun E0 H0 m E' Y => ∃ k : Nat, k ≤ n ∧ m = n - k ∧ E' = aput E0 48 (I k) ∧ GroT Y (H.length + 1) (H.length + 1) cells (sortT T k) ∧ Y.length = X.length ∧ ∀ j, j < H.length + 1 → Y[j]? = X[j]?) n
      ⟨0, by omega, by omega, rfl, by rw [sortT_zero]; exact hO, rfl, fun _ _ => rfl⟩ ?_
    rintro m E' Y ⟨k, hk, rfl, rfl, hG, hYl, hYf⟩
    have vt : aview Y (.nm (H.length + 1) 0 0 n) = some (n, cells) := view_nm hG.tb hcl
    simp (config := { maxSteps := 1000000 }) (disch := (first | omega | (simp only [go_sem]; try omega))) only [go_sem, Nat.reduceAdd, Nat.reduceEqDiff, Nat.reduceLeDiff, Nat.reduceMul, Nat.reduceLT, reduceIte, Int.reduceToNat, w64_id, cast_succ]
    repeat (first | (with_reducible first | refine SW.seq ?_ | refine SW.block ?_ | refine SW.rowC ?_ | refine SW.skip ?_ | refine SW.exit ?_ | intro _ | refine And.intro (by omega) ?_) | simp (config := { maxSteps := 1000000 }) (disch := (first | omega | (simp only [go_sem]; try omega))) only [go_sem, Nat.reduceAdd, Nat.reduceEqDiff, Nat.reduceLeDiff, Nat.reduceMul, Nat.reduceLT, reduceIte, Int.reduceToNat, w64_id, cast_succ, vt])
    (first | refine SW.condD rfl (fun h3 => ?_) (fun h3 => ?_) | refine SW.condN rfl (fun h3 => ?_) (fun h3 => ?_) | refine SW.condNB rfl (fun h3 => ?_) (fun h3 => ?_) | refine SW.condB rfl (fun h3 => ?_) (fun h3 => ?_))
    · have hkn : k < n := by omega
      obtain ⟨c, hca⟩ : ∃ c, cells[k]? = some c := ⟨_, List.getElem?_eq_getElem (by omega)⟩
      have hsk := sortT_get T k (j := k) (by omega)
      rw [if_neg (by omega)] at hsk
      have hmm : (T.getD k []).length ≤ 2000 := hTb _ (by rw [getD_get (by omega)]; exact List.getElem_mem _)
      rcases hG.row k c _ hca hsk with ⟨r, v, rfl, o1, o2, o3⟩ | ⟨e1, rfl⟩
      · repeat (first | (with_reducible first | refine SW.seq ?_ | refine SW.block ?_ | refine SW.rowC ?_ | refine SW.skip ?_ | refine SW.exit ?_ | intro _ | refine And.intro (by omega) ?_) | simp (config := { maxSteps := 1000000 }) (disch := (first | omega | (simp only [go_sem]; try omega))) only [go_sem, Nat.reduceAdd, Nat.reduceEqDiff, Nat.reduceLeDiff, Nat.reduceMul, Nat.reduceLT, reduceIte, Int.reduceToNat, w64_id, cast_succ, vt, hca])
        refine (sortI_ok sortL_p sortL_n _ r v 2 (T.getD k []) o3 (by omega)).mono ?_
        rintro r' Z ⟨rfl, rfl⟩
        repeat (first | (with_reducible first | refine SW.seq ?_ | refine SW.block ?_ | refine SW.rowC ?_ | refine SW.skip ?_ | refine SW.exit ?_ | intro _ | refine And.intro (by omega) ?_) | simp (config := { maxSteps := 1000000 }) (disch := (first | omega | (simp only [go_sem]; try omega))) only [go_sem, Nat.reduceAdd, Nat.reduceEqDiff, Nat.reduceLeDiff, Nat.reduceMul, Nat.reduceLT, reduceIte, Int.reduceToNat, w64_id, cast_succ])
        refine SLoop.next (n - (k + 1)) (by omega) ⟨k + 1, by omega, rfl, by simp [go_sem], ?_, by rw [List.length_set]; exact hYl, fun j hj => ?_⟩
        · have := hG.upd hca o3 o2 o1 (isort_length (T.getD k []))
          rw [sortT_set (by omega)] at this
          exact this
        · rw [List.getElem?_set_ne (by omega)]; exact hYf j hj
      · repeat (first | (with_reducible first | refine SW.seq ?_ | refine SW.block ?_ | refine SW.rowC ?_ | refine SW.skip ?_ | refine SW.exit ?_ | intro _ | refine And.intro (by omega) ?_) | simp (config := { maxSteps := 1000000 }) (disch := (first | omega | (simp only [go_sem]; try omega))) only [go_sem, Nat.reduceAdd, Nat.reduceEqDiff, Nat.reduceLeDiff, Nat.reduceMul, Nat.reduceLT, reduceIte, Int.reduceToNat, w64_id, cast_succ, vt, hca])
        refine (sortINil_ok sortL_n _).mono ?_
        rintro r' Z ⟨rfl, rfl⟩
        repeat (first | (with_reducible first | refine SW.seq ?_ | refine SW.block ?_ | refine SW.rowC ?_ | refine SW.skip ?_ | refine SW.exit ?_ | intro _ | refine And.intro (by omega) ?_) | simp (config := { maxSteps := 1000000 }) (disch := (first | omega | (simp only [go_sem]; try omega))) only [go_sem, Nat.reduceAdd, Nat.reduceEqDiff, Nat.reduceLeDiff, Nat.reduceMul, Nat.reduceLT, reduceIte, Int.reduceToNat, w64_id, cast_succ])
        refine SLoop.next (n - (k + 1)) (by omega) ⟨k + 1, by omega, rfl, by simp [go_sem], ?_, hYl, hYf⟩
        have h0 : isort (T.getD k []) = T.getD k [] := by rw [e1]; exact List.eq_nil_of_length_eq_zero (isort_length [])
        have := sortT_set (T := T) (k := k) (by omega)
        rw [h0] at this
        rw [← this, set_same hsk]
        exact hG
    · have : k = n := by omega
      subst this
      rw [show sortT T k = T.map isort from hTl ▸ sortT_all T] at hG
      repeat (first | (with_reducible first | refine SW.seq ?_ | refine SW.block ?_ | refine SW.rowC ?_ | refine SW.skip ?_ | refine SW.exit ?_ | intro _ | refine And.intro (by omega) ?_) | simp (config := { maxSteps := 1000000 }) (disch := (first | omega | (simp only [go_sem]; try omega))) only [go_sem, Nat.reduceAdd, Nat.reduceEqDiff, Nat.reduceLeDiff, Nat.reduceMul, Nat.reduceLT, reduceIte, Int.reduceToNat, w64_id, cast_succ])
      obtain ⟨ext, he⟩ := ext_ofR (H := H) (H1 := Y) (by omega) (fun j hj => (hYf j (by omega)).trans (hfX j hj))
      refine SW.ret ?_; (try simp only [go_sem]); (first | refine FunPost.one ?_ | refine FunPost.two ?_ | refine FunPost.three ?_); (try simp (config := { maxSteps := 1000000 }) (disch := (first | omega | (simp only [go_sem]; try omega))) only [go_sem, Nat.reduceAdd, Nat.reduceEqDiff, Nat.reduceLeDiff, Nat.reduceMul, Nat.reduceLT, reduceIte, Int.reduceToNat, w64_id, cast_succ])
      exact GR.of ⟨ext, cells, rfl, he, hG⟩
end Go.Proofs.Ytmdeibdplpodpaa
