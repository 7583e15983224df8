/- The abstract layer, part 16: a law's arguments, read. -/
import Derived.Test.YtonfknfphdeenaaAv15
import Derived.ChangeShapes
import Derived.Deep.Slices
import Derived.Carry
set_option linter.unusedSimpArgs false
set_option linter.unusedVariables false
set_option maxHeartbeats 4000000
set_option maxRecDepth 100000
namespace Go.Av
open Go.RowKit Go.ChangeShapes Go.WideShapes

theorem ACalls.afn {P : Program} {f : FuncId} {args : List AV} {H : List Blk} {v : AV} {K : AV → List Blk → Prop} (h : AFn P f args H v) (hk : K v H) : ACalls P f args H K :=
  ACalls.fn (by simpa using h []) hk

/-- The memory at the call's begin, as frozen cells. -/
def F0 (w : World) : Fz := fun b o v => w.cell? ⟨b, o, none⟩ = some v ∧ v.oneCell' = true

theorem Sim.startF (w : World) : Sim w.heap.size w (F0 w) [] [] w :=
  ⟨rfl, Blw.refl _ _, Nat.le_refl _, fun _ _ _ h => h, fun _ _ _ _ _ h => by simp at h, fun _ _ _ _ _ h => by simp at h, fun _ _ _ h => by simp at h⟩

theorem ACalls.topF {P : Program} {f : FuncId} {args : List AV} {w : World} {b : Bool} (h : ACalls P f args [] fun r _ => r = Bv b) (vs : List Value) (hr : Rels (F0 w) [] args vs) :
    Calls P f vs.toArray w fun e w' => e = .returned (.bool b) ∧ RowKit.Below w.heap.size w w' := by
  refine (h w.heap.size w (F0 w) [] w vs hr (Sim.startF w)).mono ?_
  rintro e w' ⟨F', m', H', r, v, rfl, _, _, hrel, hs, rfl⟩
  exact ⟨by rw [hrel.lit_inv], hs.below.toB⟩

/-- The cells read as these. -/
def Reads (w : World) (as : List AV) (cs : List Value) : Prop := Rels (F0 w) [] as cs ∧ ∀ a ∈ as, a.cell1 = true

theorem Addr.add_add' (a : Addr) (x y : Nat) : (a.add x).add y = a.add (x + y) := by
  unfold Addr.add
  by_cases hx : x = 0
  · subst hx; simp
  · by_cases hy : y = 0
    · subst hy; simp
    · simp [hx, hy, show x + y ≠ 0 by omega, Nat.add_assoc]

section
variable {H : Type} {enc : TypeId × Value → H} {P : Program} {w : World} {held : Bool} {t e : TypeId} {fuel : Nat} {cs : List Value} {x : DataW H × List MemPlace}

theorem reads_int (ht : P.underlying t = some (.int .i64)) (h : DataW.trod enc P w 0 (fun _ => true) held fuel t cs = some x) : ∃ n : Int, Reads w [I n] cs ∧ (Lit.int .i64 n).wf = true := by
  obtain ⟨n, rfl, _, hw⟩ := DataW.trod_int ht h
  exact ⟨n, ⟨Rels.cons (.lit _) (Rels.nil _ _), by simp [I, AV.cell1, Value.oneCell']⟩, hw⟩

theorem reads_bool (ht : P.underlying t = some .bool) (h : DataW.trod enc P w 0 (fun _ => true) held fuel t cs = some x) : ∃ b : Bool, Reads w [Bv b] cs := by
  obtain ⟨b, rfl, _⟩ := DataW.trod_bool ht h
  exact ⟨b, ⟨Rels.cons (.lit _) (Rels.nil _ _), by simp [Bv, AV.cell1, Value.oneCell']⟩⟩

theorem Reads.append {as bs : List AV} {us vs : List Value} (h : Reads w as us) (h' : Reads w bs vs) : Reads w (as ++ bs) (us ++ vs) :=
  ⟨h.1.append h'.1, fun a ha => by
    rcases List.mem_append.1 ha with ha | ha
    · exact h.2 a ha
    · exact h'.2 a ha⟩

theorem Reads.one {as : List AV} (h : Reads w as cs) : ∀ (j : Nat) (v : Value), cs[j]? = some v → v.oneCell' = true := by
  intro j v hj
  have hlt : j < as.length := by rw [h.1.1]; exact (List.getElem?_eq_some_iff.1 hj).1
  exact (h.1.2 j _ v (List.getElem?_eq_getElem hlt) hj).cell1 (h.2 _ (List.getElem_mem hlt))

theorem reads_slice {α : Type} {g : α → List AV} {Q : α → Prop} (ht : P.underlying t = some (.slice e)) (hc : 0 < P.cellsOf e)
    (hel : ∀ (fuel : Nat) (cs : List Value) (x : DataW H × List MemPlace), DataW.trod enc P w 0 (fun _ => true) held fuel e cs = some x → ∃ y, Reads w (g y) cs ∧ Q y)
    (h : DataW.trod enc P w 0 (fun _ => true) held fuel t cs = some x) : ∃ ys : List α, Reads w [.il ys.length (ys.flatMap g)] cs ∧ ∀ y ∈ ys, Q y := by
  rcases Go.Deep.open_slice ht h with ⟨rfl, _⟩ | ⟨a, len, cap, m, n, D, Pl, rfl, _, hl, hm, hmm, _, hx⟩
  · exact ⟨[], ⟨Rels.cons .il0 (Rels.nil _ _), by simp [AV.cell1]⟩, by simp⟩
  simp only [if_true] at hmm
  subst hmm
  have key : ∀ k, k ≤ len → ∃ (ys : List α) (vs : List Value), ys.length = k ∧ vs.length = k * P.cellsOf e ∧ Reads w (ys.flatMap g) vs ∧ (∀ (j : Nat) (v : Value), vs[j]? = some v → w.cell? (a.add j) = some v) ∧ ∀ y ∈ ys, Q y := by
    intro k
    induction k with
    | zero => intro _; exact ⟨[], [], rfl, by simp, ⟨Rels.nil _ _, by simp⟩, by simp, by simp⟩
    | succ k ih =>
      intro hk
      obtain ⟨ys, vs, h1, h2, h3, h4, h5⟩ := ih (by omega)
      obtain ⟨cs', g1, g2⟩ := hx k (by omega)
      obtain ⟨y, g3, g4⟩ := hel _ _ _ g2
      obtain ⟨_, g5, g6⟩ := World.cells?_some g1
      refine ⟨ys ++ [y], vs ++ cs', by simp [h1], by rw [List.length_append, h2, g5, Nat.succ_mul], ?_, ?_, ?_⟩
      · rw [List.flatMap_append]; simpa using h3.append g3
      · intro j v hj
        by_cases hjl : j < vs.length
        · rw [List.getElem?_append_left hjl] at hj; exact h4 j v hj
        · rw [List.getElem?_append_right (by omega)] at hj
          have hlt := (List.getElem?_eq_some_iff.1 hj).1
          have := g6 (j - vs.length) (by omega)
          rw [Addr.add_add'] at this
          rw [show k * P.cellsOf e + (j - vs.length) = j by omega] at this
          rw [this]; exact hj
      · intro z hz
        rcases List.mem_append.1 hz with hz | hz
        · exact h5 z hz
        · rw [List.mem_singleton.1 hz]; exact g4
  obtain ⟨ys, vs, h1, h2, h3, h4, h5⟩ := key len (Nat.le_refl _)
  refine ⟨ys, ⟨Rels.cons ?_ (Rels.nil _ _), by simp [AV.cell1]⟩, h5⟩
  by_cases hcap : m = 0
  · subst hcap
    have hl0 : len = 0 := by omega
    subst hl0
    have : ys = [] := List.eq_nil_of_length_eq_zero h1
    subst this
    exact .il1 a
  · have hsp : a.spot = none := by
      obtain ⟨cs', g1, _⟩ := hx 0 (by omega)
      obtain ⟨_, g5, g6⟩ := World.cells?_some g1
      have := g6 0 (by omega)
      rw [Addr.add_add', Nat.zero_mul] at this
      rw [List.getElem?_eq_getElem (by omega)] at this
      simp only [Addr.add, Nat.add_zero, if_true] at this
      unfold World.cell? at this
      split at this
      · split at this
        · simp at this
        · simpa using ‹¬ a.spot.isSome = true›
      · simp at this
    obtain ⟨b, o, sp⟩ := a
    simp only at hsp
    subst hsp
    rw [← h1] at hl ⊢
    refine .il _ _ b o _ vs hl hm h3.1.1 (fun j v hj => ⟨?_, h3.one j v hj⟩) h3.1.2
    rw [← Addr.add_none]; exact h4 j v hj

theorem flatMap_one {α : Type} (f : α → AV) (l : List α) : (l.flatMap fun y => [f y]) = l.map f := by
  induction l with
  | nil => rfl
  | cons a l ih => simp [ih]

/-- A slice of integers. -/
theorem reads_ints (ht : P.underlying t = some (.slice e)) (hc : 0 < P.cellsOf e) (he : P.underlying e = some (.int .i64)) (h : DataW.trod enc P w 0 (fun _ => true) held fuel t cs = some x) :
    ∃ xs : List Int, Reads w [.il xs.length (xs.map I)] cs ∧ ∀ n ∈ xs, (Lit.int .i64 n).wf = true := by
  obtain ⟨ys, h1, h2⟩ := reads_slice (g := fun y => [I y]) (Q := fun n => (Lit.int .i64 n).wf = true) ht hc (fun _ _ _ h => reads_int he h) h
  exact ⟨ys, by rw [flatMap_one] at h1; exact h1, h2⟩

/-- A slice of slices of integers. -/
theorem reads_intss {q : TypeId} (ht : P.underlying t = some (.slice e)) (hc : 0 < P.cellsOf e) (he : P.underlying e = some (.slice q)) (hcq : 0 < P.cellsOf q) (hq : P.underlying q = some (.int .i64)) (h : DataW.trod enc P w 0 (fun _ => true) held fuel t cs = some x) :
    ∃ xss : List (List Int), Reads w [.il xss.length (xss.map fun xs => .il xs.length (xs.map I))] cs ∧ ∀ xs ∈ xss, ∀ n ∈ xs, (Lit.int .i64 n).wf = true := by
  obtain ⟨ys, h1, h2⟩ := reads_slice (g := fun (xs : List Int) => [.il xs.length (xs.map I)]) (Q := fun (xs : List Int) => ∀ n ∈ xs, (Lit.int .i64 n).wf = true) ht hc (fun _ _ _ h => reads_ints he hcq hq h) h
  exact ⟨ys, by rw [flatMap_one] at h1; exact h1, h2⟩

/-- A struct of two fields. -/
theorem reads_struct2 {f0 f1 : Field} {as bs : List AV} (hl : cs.length = P.cellsOf t) (h0 : f0.offset = 0) (h1 : f1.offset = P.cellsOf f0.type) (h2 : P.cellsOf t = P.cellsOf f0.type + P.cellsOf f1.type)
    (ha : Reads w as ((cs.drop f0.offset).take (P.cellsOf f0.type))) (hb : Reads w bs ((cs.drop f1.offset).take (P.cellsOf f1.type))) : Reads w (as ++ bs) cs := by
  have := ha.append hb
  rw [h0, h1, List.drop_zero] at this
  have e : cs.take (P.cellsOf f0.type) ++ (cs.drop (P.cellsOf f0.type)).take (P.cellsOf f1.type) = cs := by
    rw [List.take_of_length_le (l := cs.drop _) (by simp; omega), List.take_append_drop]
  rwa [e] at this

theorem reads_struct3 {f0 f1 f2 : Field} {as bs ds : List AV} (hl : cs.length = P.cellsOf t) (h0 : f0.offset = 0) (h1 : f1.offset = P.cellsOf f0.type) (h2 : f2.offset = P.cellsOf f0.type + P.cellsOf f1.type) (h3 : P.cellsOf t = P.cellsOf f0.type + P.cellsOf f1.type + P.cellsOf f2.type)
    (ha : Reads w as ((cs.drop f0.offset).take (P.cellsOf f0.type))) (hb : Reads w bs ((cs.drop f1.offset).take (P.cellsOf f1.type))) (hd : Reads w ds ((cs.drop f2.offset).take (P.cellsOf f2.type))) : Reads w (as ++ (bs ++ ds)) cs := by
  have := ha.append (hb.append hd)
  rw [h0, h1, h2, List.drop_zero] at this
  have e : cs.take (P.cellsOf f0.type) ++ ((cs.drop (P.cellsOf f0.type)).take (P.cellsOf f1.type) ++ (cs.drop (P.cellsOf f0.type + P.cellsOf f1.type)).take (P.cellsOf f2.type)) = cs := by
    rw [List.take_of_length_le (l := cs.drop (P.cellsOf f0.type + P.cellsOf f1.type)) (by simp; omega), ← List.drop_drop, List.take_append_drop, List.take_append_drop]
  rwa [e] at this

/-- A value of one cell that reads so. -/
theorem Reads.rel1 {a : AV} {v : Value} (h : Reads w [a] v.cells.toList) (hv : v.oneCell' = true) : Rel (F0 w) [] a v := by
  have : v.cells.toList = [v] := by cases v <;> simp_all [Value.cells, Value.oneCell']
  rw [this] at h
  exact h.1.2 0 a v rfl rfl
theorem Reads.relagg {as : List AV} {arr : Array Value} (h : Reads w as (Value.agg arr).cells.toList) : Rel (F0 w) [] (.agg as) (.agg arr) := by
  have := Rel.agg (F := F0 w) (m := []) as arr.toList h.1.1 h.1.2
  simpa using this

/-- Behind the call the arguments read as before it. -/
theorem trodAll_below (hl : laidOutB P = true) {W W' : World} (hb : Below W.heap.size W W') : ∀ {ts : List TypeId} {vs : List Value} {ds : List (DataW H)} {ps : List MemPlace}, (∀ t ∈ ts, P.readableRec t = true ∧ t < P.types.size) →
    DataW.TrodAll enc P W 0 (fun _ => true) true ts vs ds ps → (∀ x ∈ ps, x.block < W.heap.size) → DataW.TrodAll enc P W' 0 (fun b => decide (b < W.heap.size)) true ts vs ds ps
  | [], _, _, _, _, h, _ => by
    obtain ⟨rfl, rfl, rfl⟩ := trodAll_nil h
    exact rfl
  | t :: ts, _, _, _, hr, h, hlt => by
    obtain ⟨v, vs', d, ds', p, q, rfl, rfl, rfl, h1, h2⟩ := trodAll_cons h
    refine ⟨p, q, ?_, trodAll_below hl hb (fun t ht => hr t (List.mem_cons_of_mem _ ht)) h2 (fun x hx => hlt x (List.mem_append_right _ hx)), rfl⟩
    have := hr t List.mem_cons_self
    exact Below.trod hl this.1 this.2 h1 hb (fun x hx => hlt x (List.mem_append_left _ hx))
end
end Go.Av
