/- Graphs of designs: the reference. -/
import Derived.Test.YtdgcgckehihboaaDoorE3
import Derived.Test.YtdgcgckehihboaaDoorK18
set_option linter.unusedSimpArgs false
set_option linter.unusedVariables false
set_option maxHeartbeats 4000000
set_option maxRecDepth 100000
namespace Go.Proofs.YtdgcgckehihboaaDoor
open Go.Av

/-- A row that grows, of elements of sz cells. -/
def GrowF (H : List Blk) (base ty sz : Nat) (v : AV) (n : Nat) (cells : List AV) : Prop :=
  (v = nilS ∧ n = 0 ∧ cells = []) ∨ ∃ t ver, v = .nm t ver 0 n ∧ base ≤ t ∧ H[t]? = some ⟨ver, ty, sz, cells⟩ ∧ cells.length = n * sz
theorem GrowF.one {H : List Blk} {base ty sz n : Nat} {v : AV} {cells : List AV} (h : GrowF H base ty sz v n cells) : v.cell1 = true ∧ partsOf v = [v] := by
  rcases h with ⟨rfl, _⟩ | ⟨t, ver, rfl, _⟩ <;> exact ⟨rfl, rfl⟩
theorem GrowF.same {H H' : List Blk} {base ty sz n : Nat} {v : AV} {cells : List AV} (h : GrowF H base ty sz v n cells) (hs : ∀ j b, base ≤ j → H[j]? = some b → H'[j]? = some b) : GrowF H' base ty sz v n cells := by
  rcases h with h | ⟨t, ver, rfl, h1, h2, h3⟩
  · exact .inl h
  · exact .inr ⟨t, ver, rfl, h1, hs t _ h1 h2, h3⟩
theorem GrowF.view {H : List Blk} {base ty sz n : Nat} {v : AV} {cells : List AV} (h : GrowF H base ty sz v n cells) : aview H v = some (n, cells) := by
  rcases h with ⟨rfl, rfl, rfl⟩ | ⟨t, ver, rfl, h1, h2, h3⟩
  · rfl
  · simp only [aview, h2, if_true, List.drop_zero]
    rw [List.take_of_length_le (by omega)]
theorem GrowF.appX {H : List Blk} {base ty sz bytes n : Nat} {v : AV} {cells xs : List AV} (h : GrowF H base ty sz v n cells) (hb : base ≤ H.length) (hx : xs.length = sz) (hc : ∀ c ∈ xs, c.cell1 = true) (hl1 : (n + 1) * bytes ≤ 140737488355328) (hl2 : n + 1 ≤ 140737488355328)
    {K : AV → List Blk → Prop} (hk : ∀ v' H', GrowF H' base ty sz v' (n + 1) (cells ++ xs) → H.length + 1 ≤ H'.length → (∀ j, j < base → H'[j]? = H[j]?) → K v' H') :
    AppX ty sz bytes (H ++ [⟨0, ty, sz, xs⟩]) v K (some (1, xs)) := by
  rcases h with ⟨rfl, rfl, rfl⟩ | ⟨t, ver, rfl, h1, h2, h3⟩
  · simp only [AppX, nilS]
    refine ⟨by omega, hc, by omega, by omega, hk _ _ (.inr ⟨_, 1, rfl, by simp; omega, by simp, by simp; omega⟩) (by simp) (fun j hj => ?_)⟩
    rw [List.getElem?_append_left (by simp; omega), List.getElem?_append_left (by omega)]
  · have htl := (List.getElem?_eq_some_iff.1 h2).1
    simp only [AppX]
    rw [List.getElem?_append_left htl, h2]
    refine ⟨by omega, hc, rfl, rfl, rfl, by simp only; omega, hl1, hl2, hk _ _ (.inr ⟨t, ver + 1, rfl, h1, ?_, ?_⟩) (by simp) (fun j hj => ?_)⟩
    · rw [List.getElem?_set_self (by simp; omega)]
      simp only
      rw [List.take_of_length_le (by omega)]
    · rw [List.length_append, h3, hx, Nat.add_mul, Nat.one_mul]
    · rw [List.getElem?_set_ne (by omega), List.getElem?_append_left (by omega)]

theorem froz_edges {H : List Blk} {base r ver ty : Nat} {es : List (Int × Int)} (hb : base ≤ r) (hr : H[r]? = some ⟨ver, ty, 2, flatE es⟩) : Froz H base (.nm r ver 0 es.length) (ilE es) := by
  have hc : ((flatE es).drop 0).take (es.length * 2) = flatE es := by rw [List.drop_zero]; exact List.take_of_length_le (by rw [flatE_length]; omega)
  refine .nm r ver 0 es.length _ _ hb hr rfl (by simp only [hc]) ?_
  intro j c c' h1 h2
  simp only [hc] at h1
  rw [h1] at h2; cases h2
  have hm := List.mem_of_getElem? h1
  rw [flatE_lit] at hm
  obtain ⟨v, _, rfl⟩ := List.mem_map.1 hm
  exact .old _ (.lit v)
theorem GrowF.frozI {H : List Blk} {base ty n b : Nat} {v : AV} {xs : List Int} (h : GrowF H base ty 1 v n (xs.map I)) (hb : b ≤ base) : Froz H b v (ilS xs) := by
  rcases h with ⟨rfl, rfl, h⟩ | ⟨t, ver, rfl, h1, h2, h3⟩
  · have : xs = [] := by simpa using h
    subst this; exact .nil
  · have : n = xs.length := by simpa using h3.symm
    subst this; exact froz_rowI (by omega) h2
theorem GrowF.frozE {H : List Blk} {base ty n b : Nat} {v : AV} {es : List (Int × Int)} (h : GrowF H base ty 2 v n (flatE es)) (hb : b ≤ base) : Froz H b v (ilE es) := by
  rcases h with ⟨rfl, rfl, h⟩ | ⟨t, ver, rfl, h1, h2, h3⟩
  · have h2 := flatE_length es
    rw [h] at h2
    have : es = [] := List.length_eq_zero_iff.1 (by simp at h2; omega)
    subst this; exact .nil
  · have : n = es.length := by rw [flatE_length] at h3; omega
    subst this; exact froz_edges (by omega) h2
theorem insU_permE {A : Type} {cf : A → A → Int} (h : TotC cf) (x : A) : ∀ l : List A, x ∉ l → (insU cf x l).Perm (x :: l)
  | [], _ => .refl _
  | z :: r, hx => by
    unfold insU
    simp only [List.mem_cons, not_or] at hx
    split
    · split
      · exact .refl _
      · exact absurd ((h.eq0 z x).1 (by omega)) (Ne.symm hx.1)
    · exact ((insU_permE h x r hx.2).cons z).trans (.swap _ _ _)
theorem sortU_permE {A : Type} {cf : A → A → Int} (h : TotC cf) {l : List A} (hn : l.Nodup) : (sortU cf l).Perm l := by
  rw [← List.reverse_reverse l] at hn ⊢
  revert hn
  induction l.reverse with
  | nil => intro _; exact .refl _
  | cons x r ih =>
    intro hn
    rw [List.reverse_cons] at hn ⊢
    rw [sortU_snoc]
    have h1 := List.nodup_append.1 hn
    have hx : x ∉ sortU cf r.reverse := by
      rw [sortU_mem h]
      intro hm
      exact h1.2.2 x hm x (by simp) rfl
    exact (insU_permE h x _ hx).trans (((ih h1.1).cons x).trans (List.perm_append_singleton x _).symm)
theorem GR.frozP {H0 H1 : List Blk} {R : AV → List Blk → Prop} {r r' : AV} (hp : ∃ ext, H1 = H0 ++ ext) (hf : Froz H1 H0.length r r') (h : R r' H0) : GR H0 R r H1 := by
  obtain ⟨ext, rfl⟩ := hp
  exact GR.froz hf h

/-- The edges in order. -/
def edRow (n : Nat) (xss : List (List Int)) (x i : Nat) : List (Int × Int) := ((List.range i).filter fun i => (xss.getD i []).contains (x : Int)).map fun (i : Nat) => ((x : Int), (n : Int) + (i : Int))
def edX (n : Nat) (xss : List (List Int)) (x : Nat) : List (Int × Int) := (List.range x).flatMap fun x => edRow n xss x xss.length
theorem edRow_succ (n : Nat) (xss : List (List Int)) (x i : Nat) : edRow n xss x (i + 1) = edRow n xss x i ++ (if (xss.getD i []).contains (x : Int) = true then [((x : Int), (n : Int) + (i : Int))] else []) := by
  unfold edRow
  rw [List.range_succ, List.filter_append, List.map_append]
  congr 1
  by_cases h : (xss.getD i []).contains (x : Int) = true
  · rw [if_pos h, List.filter_cons_of_pos (by exact h)]; rfl
  · rw [if_neg h, List.filter_cons_of_neg (by exact h)]; rfl
theorem edRow_len (n : Nat) (xss : List (List Int)) (x i : Nat) : (edRow n xss x i).length ≤ i := by
  unfold edRow; rw [List.length_map]; exact Nat.le_trans (List.length_filter_le _ _) (by simp)
theorem edX_succ (n : Nat) (xss : List (List Int)) (x : Nat) : edX n xss (x + 1) = edX n xss x ++ edRow n xss x xss.length := by
  unfold edX; rw [List.range_succ, List.flatMap_append]; simp
theorem edX_len (n : Nat) (xss : List (List Int)) (x : Nat) : (edX n xss x).length ≤ x * xss.length := by
  induction x with
  | zero => simp [edX]
  | succ x ih =>
    rw [edX_succ, List.length_append, Nat.succ_mul]
    have := edRow_len n xss x xss.length
    omega
theorem edRow_mem {n : Nat} {xss : List (List Int)} {x i : Nat} {e : Int × Int} : e ∈ edRow n xss x i ↔ ∃ j : Nat, j < i ∧ (x : Int) ∈ xss.getD j [] ∧ e = ((x : Int), (n : Int) + (j : Int)) := by
  unfold edRow
  rw [List.mem_map]
  constructor
  · rintro ⟨j, hj, rfl⟩
    rw [List.mem_filter, List.mem_range] at hj
    exact ⟨j, hj.1, by simpa using hj.2, rfl⟩
  · rintro ⟨j, h1, h2, rfl⟩
    exact ⟨j, List.mem_filter.2 ⟨List.mem_range.2 h1, by simpa using h2⟩, rfl⟩
theorem cmpE_lt1 {a b c d : Int} (h : a < c) : cmpE (a, b) (c, d) < 0 := by
  unfold cmpE cmpI
  simp only
  rw [if_pos h, if_neg (by omega)]; omega
theorem cmpE_lt2 {a b d : Int} (h : b < d) : cmpE (a, b) (a, d) < 0 := by
  have e : cmpI a a = 0 := (cmpI_totE.eq0 a a).2 rfl
  show (if cmpI a a = 0 then cmpI b d else cmpI a a) < 0
  rw [if_pos e]
  unfold cmpI
  rw [if_pos h]; omega
theorem edX_is {n : Nat} {xss : List (List Int)} (hx : ∀ xs ∈ xss, asc 0 ((n : Int) - 1) xs = true) : edX n xss n = sortU cmpE (edI n xss) := by
  refine asc_uniq cmpE_tot ?_ (sortU_asc cmpE_tot _) (fun e => ?_)
  · unfold Asc edX
    rw [List.pairwise_flatMap]
    refine ⟨fun x _ => ?_, ?_⟩
    · unfold edRow
      rw [List.pairwise_map]
      exact (List.pairwise_lt_range.filter _).imp (fun h => cmpE_lt2 (by omega))
    · refine List.pairwise_lt_range.imp ?_
      intro x y hxy a ha b hb
      obtain ⟨i, _, _, rfl⟩ := edRow_mem.1 ha
      obtain ⟨j, _, _, rfl⟩ := edRow_mem.1 hb
      exact cmpE_lt1 (by omega)
  · rw [sortU_mem cmpE_tot, edI_mem]
    unfold edX
    rw [List.mem_flatMap]
    constructor
    · rintro ⟨x, hxn, he⟩
      obtain ⟨j, h1, h2, rfl⟩ := edRow_mem.1 he
      refine ⟨j, xss.getD j [], ?_, h2, rfl⟩
      rw [List.getD_eq_getElem?_getD, List.getElem?_eq_getElem h1]; rfl
    · rintro ⟨k, y, hk, h1, h2⟩
      have hkl := (List.getElem?_eq_some_iff.1 hk).1
      have hm := asc_mem (hx y (List.mem_of_getElem? hk)) _ h1
      obtain ⟨a, b⟩ := e
      simp only at h1 h2 hm
      obtain ⟨x, rfl⟩ := Int.eq_ofNat_of_zero_le hm.1
      refine ⟨x, List.mem_range.2 (by omega), edRow_mem.2 ⟨k, hkl, ?_, by rw [h2]⟩⟩
      rw [List.getD_eq_getElem?_getD, hk]; exact h1

/-- The result's cell, the graph's cell, the rest of the memory. -/
def GBx (H : List Blk) (c0 c1 : List AV) (H' : List Blk) : Prop := H'[H.length]? = some ⟨0, tyGr, 1, c0⟩ ∧ H'[H.length + 1]? = some ⟨0, tyGr, 1, c1⟩ ∧ H.length + 2 ≤ H'.length ∧ ∀ j, j < H.length → H'[j]? = H[j]?
theorem GBx.put {H H1 H3 : List Blk} {c0 c1 c2 : List AV} {base : Nat} (h : GBx H c0 c1 H1) (hb : H.length + 2 ≤ base) (hl : H1.length ≤ H3.length) (h3 : ∀ j, j < base → H3[j]? = H1[j]?) : GBx H c0 c2 (H3.set (H.length + 1) ⟨0, tyGr, 1, c2⟩) := by
  obtain ⟨a, b, c, d⟩ := h
  refine ⟨?_, List.getElem?_set_self (by omega), by simp; omega, fun j hj => ?_⟩
  · rw [List.getElem?_set_ne (by omega), h3 _ (by omega)]; exact a
  · rw [List.getElem?_set_ne (by omega), h3 _ (by omega)]; exact d j hj

end Go.Proofs.YtdgcgckehihboaaDoor
