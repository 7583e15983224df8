/- Pairs of points: how many blocks hold them. -/
import Derived.Test.YtdgcgckehihboaaDoorK19
import Derived.Test.YtdgcgckehihboaaDoorK10
set_option linter.unusedSimpArgs false
set_option linter.unusedVariables false
set_option maxHeartbeats 4000000
set_option maxRecDepth 100000
namespace Go.Proofs.YtdgcgckehihboaaDoor
open Go.Av

/-- A call that returns a new list, as the next block. -/
def NewS (P : Program) (f : FuncId) (args : List AV) (xs : List Int) : Prop :=
  ∀ H, ACalls P f args H fun r H' => r = .nm H.length 0 0 xs.length ∧ H' = H ++ [⟨0, 2, 1, xs.map I⟩]
theorem NewS.newL {P : Program} {f : FuncId} {args : List AV} {xs : List Int} (h : NewS P f args xs) : NewL P f args xs := by
  intro H
  refine (h H).mono ?_
  rintro r H' ⟨rfl, rfl⟩
  exact newL_of (k := H.length) (ver := 0) (ty := 2) (xs := xs) (ext := [⟨0, 2, 1, xs.map I⟩]) (Nat.le_refl _) (by simp)
theorem NewS.pfn {P : Program} {f : FuncId} {args : List AV} {xs : List Int} (h : NewS P f args xs) : PFn P f args (ilS xs) := h.newL.pfn
/-- One list is kept, as the next block. -/
theorem GR.oneS {H0 ext : List Blk} {i ver : Nat} {xs : List Int} (hi : H0.length ≤ i) (h : (H0 ++ ext)[i]? = some ⟨ver, 2, 1, xs.map I⟩) :
    GR H0 (fun r H' => r = .nm H0.length 0 0 xs.length ∧ H' = H0 ++ [⟨0, 2, 1, xs.map I⟩]) (.nm i ver 0 xs.length) (H0 ++ ext) := by
  refine GR.ren (js := [some i]) (H2 := [⟨0, 2, 1, xs.map I⟩]) ⟨rfl, ?_, ?_, ?_⟩ (.nm 0 i ver 0 xs.length _ rfl h rfl) ⟨rfl, rfl⟩
  · intro p q j hp hq
    have h1 := (List.getElem?_eq_some_iff.1 hp).1
    have h2 := (List.getElem?_eq_some_iff.1 hq).1
    simp at h1 h2; omega
  · intro p j nb hp hn
    have h1 := (List.getElem?_eq_some_iff.1 hp).1
    have : p = 0 := by simp at h1; omega
    subst this
    simp at hp hn
    subst hp; subst hn
    refine ⟨_, hi, h, by simp, rfl, rfl, rfl, Nat.le_refl _, fun i c' hc => ⟨c', hc, ?_⟩⟩
    obtain ⟨x, _, rfl⟩ := List.mem_map.1 (List.mem_of_getElem? hc)
    exact ren_I x
  · intro p nb hp
    have h1 := (List.getElem?_eq_some_iff.1 hp).1
    have : p = 0 := by simp at h1; omega
    subst this
    simp at hp

/-! ### A square filled by a function value -/
def sqF (n : Nat) (f : Nat → Nat → Int) (x : Nat) : List (List Int) := (List.range x).map fun x => tab n (f x)
theorem sqF_succ (n : Nat) (f : Nat → Nat → Int) (x : Nat) : sqF n f (x + 1) = sqF n f x ++ [tab n (f x)] := by simp [sqF, List.range_succ]
theorem sqF_length (n : Nat) (f : Nat → Nat → Int) (x : Nat) : (sqF n f x).length = x := by simp [sqF]
theorem sqF_getD (n : Nat) (f : Nat → Nat → Int) {m x : Nat} (h : x < m) : (sqF n f m).getD x [] = tab n (f x) := by simp [sqF, h]
theorem tab_succ (n : Nat) (f : Nat → Int) : tab (n + 1) f = tab n f ++ [f n] := by simp [tab, List.range_succ]
theorem sqB_snoc (v w k : Nat) (xss : List (List Int)) (xs : List Int) : sqB v w k (xss ++ [xs]) = ⟨v, 22, 1, nmsV w (k + 1) xss ++ [.nm (k + 1 + xss.length) w 0 xs.length]⟩ :: (rowsV w xss ++ [⟨w, 2, 1, xs.map I⟩]) := by
  simp [sqB, nmsV_app, rowsV]
theorem getAt {L : List Blk} {j : Nat} (h : L.length = j) (b : Blk) (r : List Blk) : (L ++ b :: r)[j]? = some b := by subst h; simp
theorem setAt {L : List Blk} {j : Nat} (h : L.length = j) (b c : Blk) (r : List Blk) : (L ++ b :: r).set j c = L ++ c :: r := by subst h; simp

/-! ### Pairs -/
def pairsB : List Int → List (Int × Int)
  | [] => []
  | x :: r => r.map (fun y => (x, y)) ++ pairsB r
def pcount (xss : List (List Int)) (a b : Nat) : Int := (xss.countP fun s => s.contains (a : Int) && s.contains (b : Int) : Nat)
def pairsL (n : Nat) (xss : List (List Int)) : List Int := (List.range n).flatMap fun a => (tab n fun b => pcount xss a b).drop (a + 1)

theorem pairsB_len : ∀ s : List Int, (pairsB s).length ≤ s.length * s.length
  | [] => by simp [pairsB]
  | x :: r => by
    have := pairsB_len r
    simp only [pairsB, List.length_append, List.length_map, List.length_cons, Nat.add_mul, Nat.mul_add]
    omega
theorem asc_nodupA : ∀ {l : List Int} {lo hi : Int}, asc lo hi l = true → l.Nodup
  | [], _, _, _ => List.nodup_nil
  | x :: l, lo, hi, h => by
    simp only [asc, Bool.and_eq_true, decide_eq_true_eq] at h
    refine List.nodup_cons.2 ⟨fun hx => ?_, asc_nodupA h.2⟩
    have := asc_mem h.2 x hx; omega
theorem count_pair (a b : Int) : ∀ r : List Int, (r.map fun y => (a, y)).count (a, b) = r.count b
  | [] => rfl
  | y :: r => by
    rw [List.map_cons, List.count_cons, List.count_cons, count_pair a b r]
    by_cases h : y = b
    · subst h; simp
    · simp [h]
theorem pairsB_mem : ∀ {s : List Int} {lo hi : Int}, asc lo hi s = true → ∀ p ∈ pairsB s, lo ≤ p.1 ∧ p.1 < p.2 ∧ p.2 ≤ hi
  | [], _, _, _, p, h => by simp [pairsB] at h
  | x :: r, lo, hi, ha, p, h => by
    have hm := asc_mem ha
    simp only [asc, Bool.and_eq_true, decide_eq_true_eq] at ha
    simp only [pairsB, List.mem_append, List.mem_map] at h
    rcases h with ⟨y, hy, rfl⟩ | h
    · have h1 := asc_mem ha.2 y hy
      exact ⟨ha.1.1, by show x < y; omega, h1.2⟩
    · have := pairsB_mem ha.2 p h; omega
theorem count_pairsB : ∀ {s : List Int} {lo hi : Int}, asc lo hi s = true → ∀ a b : Int, a < b → (pairsB s).count (a, b) = if s.contains a && s.contains b then 1 else 0
  | [], _, _, _, a, b, h => by simp [pairsB]
  | x :: r, lo, hi, ha, a, b, h => by
    have ha' := ha
    simp only [asc, Bool.and_eq_true, decide_eq_true_eq] at ha
    have ih := count_pairsB ha.2 a b h
    have hr := asc_mem ha.2
    have hnd := asc_nodupA ha.2
    rw [pairsB, List.count_append, ih]
    by_cases hax : a = x
    · subst hax
      have h1 := count_pair a b r
      have h2 : r.contains a = false := by
        rw [Bool.eq_false_iff, ne_eq, List.contains_iff_mem]
        intro hm; have := hr a hm; omega
      rw [h1, h2]
      have hab : ¬ b = a := by omega
      by_cases hb : b ∈ r
      · have h5 := List.nodup_iff_count.1 hnd b
        have h6 := List.count_pos_iff.2 hb
        rw [show r.count b = 1 by omega]; simp [hb]
      · rw [List.count_eq_zero.2 hb]; simp [hb, hab]
    · have h1 : (r.map fun y => (x, y)).count (a, b) = 0 := by
        rw [List.count_eq_zero]
        intro hm
        obtain ⟨y, _, hy⟩ := List.mem_map.1 hm
        cases hy; exact hax rfl
      rw [h1, Nat.zero_add]
      by_cases hbx : b = x
      · have h2 : r.contains a = false := by
          rw [Bool.eq_false_iff, ne_eq, List.contains_iff_mem]
          intro hm; have := hr a hm; omega
        have h3 : (x :: r).contains a = false := by
          rw [List.contains_cons, h2]; simp [hax]
        rw [h2, h3]; simp
      · simp [hax, hbx]
/-- How often each pair stands in a list. -/
def cnt2 (n : Nat) (l : List (Int × Int)) : List (List Int) := sqF n (fun x y => (l.count ((x : Int), (y : Int)) : Int)) n
theorem cnt2_nil (n : Nat) : sqF n (fun _ _ => 0) n = cnt2 n [] := rfl
theorem cnt2_set (n : Nat) (l : List (Int × Int)) (x y : Nat) (hx : x < n) (hy : y < n) : (cnt2 n l).set x (((cnt2 n l).getD x []).set y ((l.count ((x : Int), (y : Int)) + 1 : Nat) : Int)) = cnt2 n (l ++ [((x : Int), (y : Int))]) := by
  unfold cnt2
  rw [sqF_getD n _ hx, tab_set]
  unfold sqF
  apply List.ext_getElem
  · simp
  · intro i h1 h2
    simp only [List.getElem_set, List.getElem_map, List.getElem_range]
    split
    · rename_i hi
      subst hi
      refine tab_congr fun j hj => ?_
      by_cases hjy : j = y
      · subst hjy; simp [List.count_append]
      · have hc : ¬ (y : Int) = j := by omega
        simp [hjy, List.count_append, List.count_singleton, hc]
    · rename_i hi
      refine tab_congr fun j hj => ?_
      have hc : ¬ (x : Int) = i := by omega
      simp [List.count_append, List.count_singleton, hc]
theorem cnt2_length (n : Nat) (l : List (Int × Int)) : (cnt2 n l).length = n := sqF_length _ _ _
theorem cnt2_row (n : Nat) (l : List (Int × Int)) {x : Nat} (hx : x < n) : (cnt2 n l).getD x [] = tab n fun y => (l.count ((x : Int), (y : Int)) : Int) := sqF_getD n _ hx
theorem tab_drop {n : Nat} {f g : Nat → Int} {k : Nat} (h : ∀ j, k ≤ j → j < n → f j = g j) : (tab n f).drop k = (tab n g).drop k := by
  apply List.ext_getElem
  · simp [tab_length]
  · intro i h1 h2
    simp [tab_length] at h1
    simp [tab, List.getElem_drop]
    exact h _ (by omega) (by omega)
theorem cnt2_pairs (n : Nat) {hi : Int} (xss : List (List Int)) (h : ∀ s ∈ xss, asc 0 hi s = true) : ((List.range n).flatMap fun a => ((cnt2 n (xss.flatMap pairsB)).getD a []).drop (a + 1)) = pairsL n xss := by
  unfold pairsL
  simp only [List.flatMap_def]
  congr 1
  refine List.map_congr_left fun a ha => ?_
  rw [cnt2_row n _ (List.mem_range.1 ha)]
  refine tab_drop fun b hb _ => ?_
  unfold pcount
  congr 1
  clear ha
  induction xss with
  | nil => rfl
  | cons s r ih =>
    rw [List.map_cons, List.flatten_cons, List.count_append, List.countP_cons, ih (fun s hs => h s (by simp [hs])), count_pairsB (h s (by simp)) a b (by omega)]
    omega
end Go.Proofs.YtdgcgckehihboaaDoor
