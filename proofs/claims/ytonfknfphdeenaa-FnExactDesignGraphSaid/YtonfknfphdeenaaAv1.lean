/- The abstract layer, part 1: abstract values, their relation to values and worlds, and how it is kept. -/
import Derived.WalkKit
import Derived.Below
import Derived.Orders
import Derived.Laws.AppendOwn
import Derived.Laws.AppendOwnNone
import Derived.Laws.MakeOwn
set_option linter.unusedSimpArgs false
set_option linter.unusedVariables false
set_option maxHeartbeats 4000000
set_option maxRecDepth 100000
namespace Go.Av
open Go.RowKit

/-- Abstract values. `il len cells`: a slice whose cells are never written again. `nm i ver off len`: a slice over the named block i at version ver. `pc`: a pointer to a cell of a named block. `el s k`: a pointer to cell k of slice s. -/
inductive AV where
  | lit (v : Value)
  | il (len : Nat) (cells : List AV)
  | nm (i ver off len : Nat)
  | pc (i ver off : Nat)
  | el (s : AV) (k : Nat)
  | agg (cs : List AV)
  | tup (cs : List AV)
  | fn (f : FuncId) (cs : List AV)
  | junk

instance : Inhabited AV := ⟨.junk⟩

/-- What is known of a name: its block (none: no block yet), the block's size, and the version. -/
structure Ent where
  blk : Option Nat
  size : Nat
  ty : Nat
  sz : Nat
  ver : Nat

/-- The abstract content of a named block. -/
structure Blk where
  ver : Nat
  ty : Nat
  sz : Nat
  cells : List AV

abbrev Fz := Nat → Nat → Value → Prop

def FLe (F F' : Fz) : Prop := ∀ b o v, F b o v → F' b o v
def MLe (m m' : List Ent) : Prop := ∀ (i : Nat) (e : Ent), m[i]? = some e → ∃ e' : Ent, m'[i]? = some e' ∧ (e' = e ∨ e.ver < e'.ver)

theorem FLe.refl (F : Fz) : FLe F F := fun _ _ _ h => h
theorem FLe.trans {F G K : Fz} (h : FLe F G) (k : FLe G K) : FLe F K := fun b o v x => k b o v (h b o v x)
theorem MLe.refl (m : List Ent) : MLe m m := fun _ e h => ⟨e, h, .inl rfl⟩
theorem MLe.trans {a b c : List Ent} (h : MLe a b) (k : MLe b c) : MLe a c := by
  intro i e he
  obtain ⟨e1, h1, r1⟩ := h i e he
  obtain ⟨e2, h2, r2⟩ := k i e1 h1
  refine ⟨e2, h2, ?_⟩
  rcases r1 with rfl | r1 <;> rcases r2 with rfl | r2
  · exact .inl rfl
  · exact .inr r2
  · exact .inr r1
  · exact .inr (Nat.lt_trans r1 r2)
theorem MLe.ver {a b : List Ent} (h : MLe a b) {i : Nat} {e e' : Ent} (he : a[i]? = some e) (he' : b[i]? = some e') (hv : e.ver = e'.ver) : e' = e := by
  obtain ⟨e1, h1, r⟩ := h i e he
  rw [he'] at h1; cases h1
  rcases r with r | r
  · exact r
  · omega
theorem MLe.append (m ext : List Ent) : MLe m (m ++ ext) := by
  intro i e he
  have hlt : i < m.length := (List.getElem?_eq_some_iff.1 he).1
  exact ⟨e, by rw [List.getElem?_append_left hlt]; exact he, .inl rfl⟩
theorem MLe.set {m : List Ent} {i : Nat} {e e' : Ent} (he : m[i]? = some e) (h : e' = e ∨ e.ver < e'.ver) : MLe m (m.set i e') := by
  intro j x hx
  by_cases hij : i = j
  · subst hij
    rw [he] at hx; cases hx
    have hlt : i < m.length := (List.getElem?_eq_some_iff.1 he).1
    exact ⟨e', by simp [List.getElem?_set_self hlt], h⟩
  · exact ⟨x, by rw [List.getElem?_set_ne hij]; exact hx, .inl rfl⟩
theorem MLe.take {m0 m : List Ent} (h : MLe m0 m) {k : Nat} (hk : m0.length ≤ k) : MLe m0 (m.take k) := by
  intro i e he
  obtain ⟨e', h1, r⟩ := h i e he
  have hlt : i < m0.length := (List.getElem?_eq_some_iff.1 he).1
  exact ⟨e', by rw [List.getElem?_take_of_lt (by omega)]; exact h1, r⟩

/-- What a named slice looks like while its version is the newest. -/
def NmOk (e : Ent) (off len : Nat) (v : Value) : Prop :=
  ∃ cap, len ≤ cap ∧ cap ≤ maxLen ∧
    ((∃ b, e.blk = some b ∧ v = .slice (some ⟨b, off, none⟩) len cap ∧ off + cap * e.sz = e.size) ∨ (e.blk = none ∧ (∃ q, v = .slice q 0 0) ∧ len = 0 ∧ off = 0))

inductive Rel (F : Fz) (m : List Ent) : AV → Value → Prop
  | lit (v : Value) : Rel F m (.lit v) v
  | junk (v : Value) : Rel F m .junk v
  | il0 : Rel F m (.il 0 []) (.slice none 0 0)
  | il1 (ad : Addr) : Rel F m (.il 0 []) (.slice (some ad) 0 0)
  | il (len : Nat) (cells : List AV) (b o cap : Nat) (vs : List Value) (h1 : len ≤ cap) (h2 : cap ≤ maxLen) (h3 : cells.length = vs.length) (h4 : ∀ (j : Nat) (v : Value), vs[j]? = some v → F b (o + j) v)
      (h5 : ∀ (j : Nat) (c : AV) (v : Value), cells[j]? = some c → vs[j]? = some v → Rel F m c v) : Rel F m (.il len cells) (.slice (some ⟨b, o, none⟩) len cap)
  | nm (i ver off len : Nat) (e : Ent) (a : Option Addr) (n cap : Nat) (h1 : m[i]? = some e) (h2 : ver ≤ e.ver) (h3 : ver = e.ver → NmOk e off len (.slice a n cap)) : Rel F m (.nm i ver off len) (.slice a n cap)
  | pc (i ver off : Nat) (e : Ent) (p : Option Addr) (h1 : m[i]? = some e) (h2 : ver ≤ e.ver) (h3 : ver = e.ver → ∃ b, e.blk = some b ∧ p = some ⟨b, off, none⟩) : Rel F m (.pc i ver off) (.pointer p)
  | el (s : AV) (k : Nat) (sv : Value) (p : Option Addr) (h1 : Rel F m s sv) (h2 : ∀ a len cap, sv = .slice (some a) len cap → p = some (a.add k)) : Rel F m (.el s k) (.pointer p)
  | agg (cs : List AV) (vs : List Value) (h1 : cs.length = vs.length) (h2 : ∀ (j : Nat) (c : AV) (v : Value), cs[j]? = some c → vs[j]? = some v → Rel F m c v) : Rel F m (.agg cs) (.agg vs.toArray)
  | tup (cs : List AV) (vs : List Value) (h1 : cs.length = vs.length) (h2 : ∀ (j : Nat) (c : AV) (v : Value), cs[j]? = some c → vs[j]? = some v → Rel F m c v) : Rel F m (.tup cs) (.tuple vs.toArray)
  | fn (f : FuncId) (cs : List AV) (vs : List Value) (h1 : cs.length = vs.length) (h2 : ∀ (j : Nat) (c : AV) (v : Value), cs[j]? = some c → vs[j]? = some v → Rel F m c v) : Rel F m (.fn f cs) (.func (.func f) #[] vs.toArray)

def Rels (F : Fz) (m : List Ent) (cs : List AV) (vs : List Value) : Prop := cs.length = vs.length ∧ ∀ (j : Nat) (c : AV) (v : Value), cs[j]? = some c → vs[j]? = some v → Rel F m c v

theorem Rel.mono {F F' : Fz} {m m' : List Ent} {c : AV} {v : Value} (h : Rel F m c v) (hF : FLe F F') (hm : MLe m m') : Rel F' m' c v := by
  induction h with
  | lit v => exact .lit v
  | junk v => exact .junk v
  | il0 => exact .il0
  | il1 ad => exact .il1 ad
  | il len cells b o cap vs h1 h2 h3 h4 _ ih => exact .il len cells b o cap vs h1 h2 h3 (fun j v hj => hF _ _ _ (h4 j v hj)) ih
  | nm i ver off len e a n cap h1 h2 h3 =>
    obtain ⟨e', he', r⟩ := hm i e h1
    refine .nm i ver off len e' a n cap he' ?_ ?_
    · rcases r with rfl | r <;> omega
    · intro hv
      rcases r with rfl | r
      · exact h3 hv
      · omega
  | pc i ver off e p h1 h2 h3 =>
    obtain ⟨e', he', r⟩ := hm i e h1
    refine .pc i ver off e' p he' ?_ ?_
    · rcases r with rfl | r <;> omega
    · intro hv
      rcases r with rfl | r
      · exact h3 hv
      · omega
  | el s k sv p _ h2 ih => exact .el s k sv p ih h2
  | agg cs vs h1 _ ih => exact .agg cs vs h1 ih
  | tup cs vs h1 _ ih => exact .tup cs vs h1 ih
  | fn f cs vs h1 _ ih => exact .fn f cs vs h1 ih

theorem Rels.mono {F F' : Fz} {m m' : List Ent} {cs : List AV} {vs : List Value} (h : Rels F m cs vs) (hF : FLe F F') (hm : MLe m m') : Rels F' m' cs vs :=
  ⟨h.1, fun j c v h1 h2 => (h.2 j c v h1 h2).mono hF hm⟩

theorem Rels.nil (F : Fz) (m : List Ent) : Rels F m [] [] := ⟨rfl, fun j c v h => by simp at h⟩
theorem Rels.cons {F : Fz} {m : List Ent} {c : AV} {v : Value} {cs : List AV} {vs : List Value} (h : Rel F m c v) (hs : Rels F m cs vs) : Rels F m (c :: cs) (v :: vs) := by
  refine ⟨by simp [hs.1], ?_⟩
  intro j c' v' h1 h2
  cases j with
  | zero => simp at h1 h2; subst h1; subst h2; exact h
  | succ j => simp at h1 h2; exact hs.2 j c' v' h1 h2
theorem Rels.inv_cons {F : Fz} {m : List Ent} {c : AV} {cs : List AV} {vs : List Value} (h : Rels F m (c :: cs) vs) : ∃ v vs', vs = v :: vs' ∧ Rel F m c v ∧ Rels F m cs vs' := by
  cases vs with
  | nil => have := h.1; simp at this
  | cons v vs =>
    refine ⟨v, vs, rfl, h.2 0 c v (by simp) (by simp), by have := h.1; simpa using this, ?_⟩
    intro j c' v' h1 h2
    exact h.2 (j + 1) c' v' (by simpa using h1) (by simpa using h2)
theorem Rels.inv_nil {F : Fz} {m : List Ent} {vs : List Value} (h : Rels F m [] vs) : vs = [] := by
  have := h.1; cases vs <;> simp_all
theorem Rels.append {F : Fz} {m : List Ent} {cs ds : List AV} {vs us : List Value} (h : Rels F m cs vs) (k : Rels F m ds us) : Rels F m (cs ++ ds) (vs ++ us) := by
  refine ⟨by simp [h.1, k.1], ?_⟩
  intro j c v h1 h2
  by_cases hj : j < cs.length
  · rw [List.getElem?_append_left hj] at h1
    rw [List.getElem?_append_left (by rw [← h.1]; exact hj)] at h2
    exact h.2 j c v h1 h2
  · rw [List.getElem?_append_right (by omega)] at h1
    rw [List.getElem?_append_right (by rw [← h.1]; omega), ← h.1] at h2
    exact k.2 _ c v h1 h2
theorem Rels.take {F : Fz} {m : List Ent} {cs : List AV} {vs : List Value} (h : Rels F m cs vs) (n : Nat) : Rels F m (cs.take n) (vs.take n) := by
  refine ⟨by simp [h.1], ?_⟩
  intro j c v h1 h2
  rw [List.getElem?_take] at h1 h2
  split at h1 <;> simp_all
  exact h.2 j c v h1 h2
theorem Rels.drop {F : Fz} {m : List Ent} {cs : List AV} {vs : List Value} (h : Rels F m cs vs) (n : Nat) : Rels F m (cs.drop n) (vs.drop n) := by
  refine ⟨by simp [h.1], ?_⟩
  intro j c v h1 h2
  rw [List.getElem?_drop] at h1 h2
  exact h.2 _ c v h1 h2
theorem Rels.lits (F : Fz) (m : List Ent) (vs : List Value) : Rels F m (vs.map .lit) vs := by
  refine ⟨by simp, ?_⟩
  intro j c v h1 h2
  rw [List.getElem?_map, h2] at h1
  simp at h1; subst h1; exact .lit v
theorem Rels.set {F : Fz} {m : List Ent} {cs : List AV} {vs : List Value} (h : Rels F m cs vs) (n : Nat) {c : AV} {v : Value} (hc : Rel F m c v) : Rels F m (cs.set n c) (vs.set n v) := by
  refine ⟨by simp [h.1], ?_⟩
  intro j c' v' h1 h2
  rw [List.getElem?_set] at h1 h2
  by_cases hj : n = j
  · subst hj
    simp only [if_true] at h1 h2
    split at h1 <;> simp_all
  · simp only [hj, if_false] at h1 h2
    exact h.2 j c' v' h1 h2

/-- One cell of memory holds such a value. -/
def AV.cell1 : AV → Bool
  | .lit v => v.oneCell'
  | .junk | .agg _ | .tup _ => false
  | _ => true

theorem Rel.cell1 {F : Fz} {m : List Ent} {c : AV} {v : Value} (h : Rel F m c v) (hc : c.cell1 = true) : v.oneCell' = true := by
  cases h <;> first | exact hc | rfl | (simp [AV.cell1] at hc)

/-- The block behind a name. -/
def BlkOk (B : Nat) (F : Fz) (m : List Ent) (w : World) (e : Ent) (k : Blk) : Prop :=
  e.ver = k.ver ∧ e.ty = k.ty ∧ e.sz = k.sz ∧ (e.blk = none → k.cells = [] ∧ e.size = 0) ∧
  ∀ b, e.blk = some b → B ≤ b ∧ ∃ arr : Array Value, w.heap[b]? = some (.cells arr e.ty (0, 0)) ∧ arr.size = e.size ∧ k.cells.length ≤ e.size ∧
    (∀ (j : Nat) (c : AV) (v : Value), k.cells[j]? = some c → arr[j]? = some v → Rel F m c v) ∧ (∀ (j : Nat) (v : Value), arr[j]? = some v → v.oneCell' = true)

theorem BlkOk.mono {B : Nat} {F F' : Fz} {m m' : List Ent} {w w' : World} {e : Ent} {k : Blk} (h : BlkOk B F m w e k) (hF : FLe F F') (hm : MLe m m')
    (hw : ∀ b, e.blk = some b → w'.heap[b]? = w.heap[b]?) : BlkOk B F' m' w' e k := by
  obtain ⟨h1, h2, h3, h4, h5⟩ := h
  refine ⟨h1, h2, h3, h4, fun b hb => ?_⟩
  obtain ⟨hB, arr, ha, hs, hl, hr, ho⟩ := h5 b hb
  exact ⟨hB, arr, by rw [hw b hb]; exact ha, hs, hl, fun j c v x y => (hr j c v x y).mono hF hm, ho⟩

/-- Below block B the world is as it was; no order that was drawn is taken back. -/
structure Blw (B : Nat) (w w' : World) : Prop where
  os : w'.os = w.os
  tape : w'.tape = w.tape
  output : w'.output = w.output
  size : w.heap.size ≤ w'.heap.size
  block : ∀ k, k < B → w'.heap[k]? = w.heap[k]?
  drawn : w.drawn ≤ w'.drawn
theorem Blw.toB {B : Nat} {w w' : World} (h : Blw B w w') : RowKit.Below B w w' := ⟨h.os, h.tape, h.output, h.size, h.block⟩
theorem Blw.of {B : Nat} {w w' : World} (h : RowKit.Below B w w') (hd : w.drawn ≤ w'.drawn) : Blw B w w' := ⟨h.os, h.tape, h.output, h.size, h.block, hd⟩
theorem Blw.refl (B : Nat) (w : World) : Blw B w w := .of (RowKit.Below.refl B w) (Nat.le_refl _)
theorem Blw.trans {B : Nat} {a b c : World} (h : Blw B a b) (k : Blw B b c) : Blw B a c := .of (h.toB.trans k.toB) (Nat.le_trans h.drawn k.drawn)
theorem Blw.mono {B B' : Nat} {w w' : World} (h : Blw B w w') (hB : B' ≤ B) : Blw B' w w' := .of (h.toB.mono hB) h.drawn
theorem Blw.drew {B : Nat} {a w : World} (h : Blw B a w) : Blw B a w.drew := .of h.toB.drew (Nat.le_trans h.drawn (Nat.le_succ _))
theorem Blw.alloc {B : Nat} {a w : World} (h : Blw B a w) (hB : B ≤ w.heap.size) (o : Obj) : Blw B a (w.alloc o) := .of (h.toB.alloc hB o) h.drawn
theorem Blw.setCell {B : Nat} {a w : World} (h : Blw B a w) {p : Addr} (hp : B ≤ p.block) (u : Value) : Blw B a (w.setCell p u) := .of (h.toB.setCell hp u) h.drawn
theorem Blw.cell {B : Nat} {w w' : World} (h : Blw B w w') {p : Addr} (hp : p.block < B) : w'.cell? p = w.cell? p := h.toB.cell hp

structure Sim (B : Nat) (W0 : World) (F : Fz) (m : List Ent) (H : List Blk) (w : World) : Prop where
  len : m.length = H.length
  below : Blw B W0 w
  base : B ≤ w.heap.size
  fz : ∀ b o v, F b o v → w.cell? ⟨b, o, none⟩ = some v ∧ v.oneCell' = true
  apart : ∀ (i : Nat) (e : Ent) (b o : Nat) (v : Value), m[i]? = some e → e.blk = some b → ¬ F b o v
  dist : ∀ (i j : Nat) (e e' : Ent) (b : Nat), m[i]? = some e → m[j]? = some e' → e.blk = some b → e'.blk = some b → i = j
  blk : ∀ (i : Nat) (e : Ent) (k : Blk), m[i]? = some e → H[i]? = some k → BlkOk B F m w e k

section
variable {B : Nat} {W0 : World} {F : Fz} {m : List Ent} {H : List Blk} {w : World}

theorem Sim.get (h : Sim B W0 F m H w) {i : Nat} {k : Blk} (hk : H[i]? = some k) : ∃ e, m[i]? = some e ∧ BlkOk B F m w e k := by
  have hlt : i < H.length := (List.getElem?_eq_some_iff.1 hk).1
  have hlt' : i < m.length := by rw [h.len]; exact hlt
  exact ⟨m[i], List.getElem?_eq_getElem hlt', h.blk i _ k (List.getElem?_eq_getElem hlt') hk⟩

theorem Sim.getm (h : Sim B W0 F m H w) {i : Nat} {e : Ent} (he : m[i]? = some e) : ∃ k, H[i]? = some k ∧ BlkOk B F m w e k := by
  have hlt : i < m.length := (List.getElem?_eq_some_iff.1 he).1
  have hlt' : i < H.length := by rw [← h.len]; exact hlt
  exact ⟨H[i], List.getElem?_eq_getElem hlt', h.blk i e _ he (List.getElem?_eq_getElem hlt')⟩

theorem Sim.blk_lt (h : Sim B W0 F m H w) {i : Nat} {e : Ent} {b : Nat} (he : m[i]? = some e) (hb : e.blk = some b) : b < w.heap.size := by
  obtain ⟨k, _, hok⟩ := h.getm he
  obtain ⟨_, arr, ha, _⟩ := hok.2.2.2.2 b hb
  exact (Array.getElem?_eq_some_iff.1 ha).1

theorem Sim.fz_lt (h : Sim B W0 F m H w) {b o : Nat} {v : Value} (hf : F b o v) : b < w.heap.size :=
  World.block_lt_of_cell? w ⟨b, o, none⟩ (h.fz b o v hf).1

/-- A world in which all that was there is as it was. -/
theorem Sim.world (h : Sim B W0 F m H w) {w' : World} (hw : Blw w.heap.size w w') : Sim B W0 F m H w' where
  len := h.len
  below := h.below.trans (hw.mono h.base)
  base := Nat.le_trans h.base hw.size
  fz b o v hf := by
    have := h.fz b o v hf
    refine ⟨?_, this.2⟩
    rw [hw.cell (p := ⟨b, o, none⟩) (h.fz_lt hf)]; exact this.1
  apart := h.apart
  dist := h.dist
  blk i e k he hk := (h.blk i e k he hk).mono (FLe.refl _) (MLe.refl _) (fun b hb => hw.block b (h.blk_lt he hb))

theorem Sim.drew (h : Sim B W0 F m H w) : Sim B W0 F m H w.drew := h.world ((Blw.refl _ _).drew)

/-- A new named block. -/
theorem Sim.push (h : Sim B W0 F m H w) (arr : Array Value) (ty sz : Nat) (cells : List AV) (hl : cells.length ≤ arr.size)
    (hr : ∀ (j : Nat) (c : AV) (v : Value), cells[j]? = some c → arr[j]? = some v → Rel F m c v) (ho : ∀ (j : Nat) (v : Value), arr[j]? = some v → v.oneCell' = true) :
    Sim B W0 F (m ++ [⟨some w.heap.size, arr.size, ty, sz, 0⟩]) (H ++ [⟨0, ty, sz, cells⟩]) (w.alloc (.cells arr ty)) := by
  have hb : Blw w.heap.size w (w.alloc (.cells arr ty)) := (Blw.refl _ _).alloc (Nat.le_refl _) _
  have h1 := h.world hb
  have hm := MLe.append m [⟨some w.heap.size, arr.size, ty, sz, 0⟩]
  refine ⟨by simp [h.len], h1.below, h1.base, h1.fz, ?_, ?_, ?_⟩
  · intro i e b o v he hbk hf
    have hlt := h.fz_lt hf
    rw [List.getElem?_append] at he
    split at he
    · exact h.apart i e b o v he hbk hf
    · have : e = ⟨some w.heap.size, arr.size, ty, sz, 0⟩ := by
        rcases hi : i - m.length with _ | n
        · simp [hi] at he; exact he.symm
        · simp [hi] at he
      subst this
      simp at hbk; omega
  · intro i j e e' b he he' hbk hbk'
    rw [List.getElem?_append] at he he'
    have last : ∀ (n : Nat) (x : Ent), [(⟨some w.heap.size, arr.size, ty, sz, 0⟩ : Ent)][n]? = some x → n = 0 ∧ x = ⟨some w.heap.size, arr.size, ty, sz, 0⟩ := by
      intro n x hx
      rcases n with _ | n
      · simp at hx; exact ⟨rfl, hx.symm⟩
      · simp at hx
    split at he
    · split at he'
      · exact h.dist i j e e' b he he' hbk hbk'
      · obtain ⟨_, rfl⟩ := last _ _ he'
        have := h.blk_lt he hbk
        simp at hbk'; omega
    · obtain ⟨z, rfl⟩ := last _ _ he
      split at he'
      · have := h.blk_lt he' hbk'
        simp at hbk; omega
      · obtain ⟨z', rfl⟩ := last _ _ he'
        rename_i g1 g2
        omega
  · intro i e k he hk
    by_cases hi : i < m.length
    · rw [List.getElem?_append_left hi] at he
      rw [List.getElem?_append_left (by rw [← h.len]; exact hi)] at hk
      exact (h.blk i e k he hk).mono (FLe.refl _) hm (fun b hbk => hb.block b (h.blk_lt he hbk))
    · have hi' : i = m.length := by
        have := (List.getElem?_eq_some_iff.1 he).1
        simp at this; omega
      subst hi'
      rw [List.getElem?_append_right (Nat.le_refl _)] at he
      rw [h.len, List.getElem?_append_right (Nat.le_refl _)] at hk
      simp at he hk
      subst he; subst hk
      refine ⟨rfl, rfl, rfl, (by simp), ?_⟩
      intro b hbk
      simp at hbk; subst hbk
      refine ⟨h.base, arr, heap_alloc_new w _, rfl, hl, fun j c v x y => (hr j c v x y).mono (FLe.refl _) hm, ho⟩

/-- A name without a block: a nil slice that is to be appended to. -/
theorem Sim.pushNil (h : Sim B W0 F m H w) (ty sz : Nat) : Sim B W0 F (m ++ [⟨none, 0, ty, sz, 0⟩]) (H ++ [⟨0, ty, sz, []⟩]) w := by
  have hm := MLe.append m [⟨none, 0, ty, sz, 0⟩]
  have last : ∀ (n : Nat) (x : Ent), [(⟨none, 0, ty, sz, 0⟩ : Ent)][n]? = some x → x = ⟨none, 0, ty, sz, 0⟩ := by
    intro n x hx
    rcases n with _ | n
    · simp at hx; exact hx.symm
    · simp at hx
  refine ⟨by simp [h.len], h.below, h.base, h.fz, ?_, ?_, ?_⟩
  · intro i e b o v he hbk hf
    rw [List.getElem?_append] at he
    split at he
    · exact h.apart i e b o v he hbk hf
    · have := last _ _ he; subst this; simp at hbk
  · intro i j e e' b he he' hbk hbk'
    rw [List.getElem?_append] at he he'
    split at he
    · split at he'
      · exact h.dist i j e e' b he he' hbk hbk'
      · have := last _ _ he'; subst this; simp at hbk'
    · have := last _ _ he; subst this; simp at hbk
  · intro i e k he hk
    by_cases hi : i < m.length
    · rw [List.getElem?_append_left hi] at he
      rw [List.getElem?_append_left (by rw [← h.len]; exact hi)] at hk
      exact (h.blk i e k he hk).mono (FLe.refl _) hm (fun _ _ => rfl)
    · have hi' : i = m.length := by
        have := (List.getElem?_eq_some_iff.1 he).1
        simp at this; omega
      subst hi'
      rw [List.getElem?_append_right (Nat.le_refl _)] at he
      rw [h.len, List.getElem?_append_right (Nat.le_refl _)] at hk
      simp at he hk
      subst he; subst hk
      exact ⟨rfl, rfl, rfl, fun _ => ⟨rfl, rfl⟩, fun b hbk => by simp at hbk⟩

/-- One name's block has turned, or has moved to a new block. -/
theorem Sim.update (h : Sim B W0 F m H w) {i : Nat} {e : Ent} (hi : m[i]? = some e) (e' : Ent) (k' : Blk) {w' : World} (hver : e' = e ∨ e.ver < e'.ver)
    (hb : Blw B w w') (hold : ∀ b, e.blk ≠ some b → b < w.heap.size → w'.heap[b]? = w.heap[b]?)
    (hblk : ∀ b', e'.blk = some b' → e.blk = some b' ∨ w.heap.size ≤ b') (hok : BlkOk B F (m.set i e') w' e' k') : Sim B W0 F (m.set i e') (H.set i k') w' := by
  have hm : MLe m (m.set i e') := MLe.set hi hver
  have hlt : i < m.length := (List.getElem?_eq_some_iff.1 hi).1
  refine ⟨by simp [h.len], h.below.trans hb, Nat.le_trans h.base hb.size, ?_, ?_, ?_, ?_⟩
  · intro b o v hf
    have hne : e.blk ≠ some b := fun x => h.apart i e b o v hi x hf
    have := h.fz b o v hf
    refine ⟨?_, this.2⟩
    rw [World.cell?_of_block (w := w) (w' := w') (a := ⟨b, o, none⟩) (hold b hne (h.fz_lt hf))]; exact this.1
  · intro j x b o v hj hbk hf
    by_cases hij : i = j
    · subst hij
      rw [List.getElem?_set_self hlt] at hj
      cases hj
      rcases hblk b hbk with h1 | h1
      · exact h.apart i e b o v hi h1 hf
      · have := h.fz_lt hf; omega
    · rw [List.getElem?_set_ne hij] at hj
      exact h.apart j x b o v hj hbk hf
  · intro j l x y b hj hl hbj hbl
    by_cases hij : i = j
    · by_cases hil : i = l
      · omega
      · subst hij
        rw [List.getElem?_set_self hlt] at hj
        rw [List.getElem?_set_ne hil] at hl
        cases hj
        rcases hblk b hbj with h1 | h1
        · exact h.dist i l e y b hi hl h1 hbl
        · have := h.blk_lt hl hbl; omega
    · by_cases hil : i = l
      · subst hil
        rw [List.getElem?_set_self hlt] at hl
        rw [List.getElem?_set_ne hij] at hj
        cases hl
        rcases hblk b hbl with h1 | h1
        · exact h.dist j i x e b hj hi hbj h1
        · have := h.blk_lt hj hbj; omega
      · rw [List.getElem?_set_ne hij] at hj
        rw [List.getElem?_set_ne hil] at hl
        exact h.dist j l x y b hj hl hbj hbl
  · intro j x k hj hk
    by_cases hij : i = j
    · subst hij
      rw [List.getElem?_set_self hlt] at hj
      rw [List.getElem?_set_self (by rw [← h.len]; exact hlt)] at hk
      cases hj; cases hk
      exact hok
    · rw [List.getElem?_set_ne hij] at hj hk
      refine (h.blk j x k hj hk).mono (FLe.refl _) hm (fun b hbk => hold b ?_ (h.blk_lt hj hbk))
      intro hx
      exact hij (h.dist i j e x b hi hj hx hbk)
end
end Go.Av
