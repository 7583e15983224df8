/- The abstract layer, part 1: abstract values, their relation to values and worlds, and how it is kept. The abstract layer, part 2: reading and writing abstract memory, and that worlds follow. The abstract layer, part 3: operations, their abstract weakest precondition. The abstract layer, part 4: each operation follows its abstract weakest precondition. The abstract layer, part 5: operations that make memory; calls. -/
import Derived.WalkKit
import Derived.Lib.ItoaNum
import Derived.KernelRfl
import Derived.Test.YtdgcgckehihboaaGreatDoorProg
import Derived.Below
import Derived.Orders
import Derived.Laws.AppendOwn
import Derived.Laws.AppendOwnNone
import Derived.Laws.MakeOwn
import Derived.Laws.StructEq
import Derived.MapKept
import Derived.ChangeKeysEq
import Derived.Laws.BytesString
set_option linter.unusedSimpArgs false
set_option linter.unusedVariables false
set_option linter.unusedSectionVars false
set_option maxHeartbeats 4000000
set_option maxRecDepth 100000
namespace Go.Av
open Go.RowKit
inductive AV where
  | lit (v : Value)
  | il (len : Nat) (cells : List AV)
  | nm (i ver off len : Nat)
  | pc (i ver off : Nat)
  | mp (i ver : Nat)
  | el (s : AV) (k : Nat)
  | agg (cs : List AV)
  | tup (cs : List AV)
  | fn (f : FuncId) (cs : List AV)
  | junk
instance : Inhabited AV := ⟨.junk⟩
structure Ent where
  blk : Option Nat
  size : Nat
  ty : Nat
  sz : Nat
  ver : Nat
structure Blk where
  ver : Nat
  ty : Nat
  sz : Nat
  cells : List AV
abbrev Fz := Nat → Nat → Value → Prop
def FLe (F F' : Fz) : Prop := ∀ b o v, F b o v → F' b o v
def MLe (m m' : List Ent) : Prop := ∀ (i : Nat) (e : Ent), m[i]? = some e → ∃ e' : Ent, m'[i]? = some e' ∧ (e' = e ∨ e.ver < e'.ver)
theorem FLe.refl (F : Fz) : FLe F F := fun _ _ _ h => h
theorem FLe.trans {F G K : Fz} (h : FLe F G) (k : FLe G K) : FLe F K := fun b o v x => k b o v (h b o v x)
theorem MLe.refl (m : List Ent) : MLe m m := fun _ e h => ⟨e, h, .inl rfl⟩
theorem MLe.trans {a b c : List Ent} (h : MLe a b) (k : MLe b c) : MLe a c := by
  intro i e he
  obtain ⟨e1, h1, r1⟩ := h i e he
  obtain ⟨e2, h2, r2⟩ := k i e1 h1
  refine ⟨e2, h2, ?_⟩
  rcases r1 with rfl | r1 <;> rcases r2 with rfl | r2
  · exact .inl rfl
  · exact .inr r2
  · exact .inr r1
  · exact .inr (Nat.lt_trans r1 r2)
theorem MLe.ver {a b : List Ent} (h : MLe a b) {i : Nat} {e e' : Ent} (he : a[i]? = some e) (he' : b[i]? = some e') (hv : e.ver = e'.ver) : e' = e := by
  obtain ⟨e1, h1, r⟩ := h i e he
  rw [he'] at h1; cases h1
  rcases r with r | r
  · exact r
  · omega
theorem MLe.append (m ext : List Ent) : MLe m (m ++ ext) := by
  intro i e he
  have hlt : i < m.length := (List.getElem?_eq_some_iff.1 he).1
  exact ⟨e, by rw [List.getElem?_append_left hlt]; exact he, .inl rfl⟩
theorem MLe.set {m : List Ent} {i : Nat} {e e' : Ent} (he : m[i]? = some e) (h : e' = e ∨ e.ver < e'.ver) : MLe m (m.set i e') := by
  intro j x hx
  by_cases hij : i = j
  · subst hij
    rw [he] at hx; cases hx
    have hlt : i < m.length := (List.getElem?_eq_some_iff.1 he).1
    exact ⟨e', by simp [List.getElem?_set_self hlt], h⟩
  · exact ⟨x, by rw [List.getElem?_set_ne hij]; exact hx, .inl rfl⟩
theorem MLe.take {m0 m : List Ent} (h : MLe m0 m) {k : Nat} (hk : m0.length ≤ k) : MLe m0 (m.take k) := by
  intro i e he
  obtain ⟨e', h1, r⟩ := h i e he
  have hlt : i < m0.length := (List.getElem?_eq_some_iff.1 he).1
  exact ⟨e', by rw [List.getElem?_take_of_lt (by omega)]; exact h1, r⟩
def NmOk (e : Ent) (off len : Nat) (v : Value) : Prop :=
  ∃ cap, len ≤ cap ∧ cap ≤ maxLen ∧
    ((∃ b, e.blk = some b ∧ v = .slice (some ⟨b, off, none⟩) len cap ∧ off + cap * e.sz = e.size ∧ e.sz ≠ 0) ∨ (e.blk = none ∧ (∃ q, v = .slice q 0 0) ∧ len = 0 ∧ off = 0))
inductive Rel (F : Fz) (m : List Ent) : AV → Value → Prop
  | lit (v : Value) : Rel F m (.lit v) v
  | junk (v : Value) : Rel F m .junk v
  | il0 : Rel F m (.il 0 []) (.slice none 0 0)
  | il1 (ad : Addr) : Rel F m (.il 0 []) (.slice (some ad) 0 0)
  | il (len : Nat) (cells : List AV) (b o cap : Nat) (vs : List Value) (h1 : len ≤ cap) (h2 : cap ≤ maxLen) (h3 : cells.length = vs.length) (h4 : ∀ (j : Nat) (v : Value), vs[j]? = some v → F b (o + j) v)
      (h5 : ∀ (j : Nat) (c : AV) (v : Value), cells[j]? = some c → vs[j]? = some v → Rel F m c v) : Rel F m (.il len cells) (.slice (some ⟨b, o, none⟩) len cap)
  | nm (i ver off len : Nat) (e : Ent) (a : Option Addr) (n cap : Nat) (h1 : m[i]? = some e) (h2 : ver ≤ e.ver) (h3 : ver = e.ver → NmOk e off len (.slice a n cap)) : Rel F m (.nm i ver off len) (.slice a n cap)
  | pc (i ver off : Nat) (e : Ent) (p : Option Addr) (h1 : m[i]? = some e) (h2 : ver ≤ e.ver) (h3 : ver = e.ver → ∃ b, e.blk = some b ∧ p = some ⟨b, off, none⟩ ∧ e.sz ≠ 0) : Rel F m (.pc i ver off) (.pointer p)
  | mp (i ver : Nat) (e : Ent) (p : Option Nat) (h1 : m[i]? = some e) (h2 : ver ≤ e.ver) (h3 : ver = e.ver → ∃ b, e.blk = some b ∧ p = some b ∧ e.sz = 0) : Rel F m (.mp i ver) (.map p)
  | el (s : AV) (k : Nat) (sv : Value) (p : Option Addr) (h1 : Rel F m s sv) (h2 : ∀ a len cap, sv = .slice (some a) len cap → p = some (a.add k)) : Rel F m (.el s k) (.pointer p)
  | agg (cs : List AV) (vs : List Value) (h1 : cs.length = vs.length) (h2 : ∀ (j : Nat) (c : AV) (v : Value), cs[j]? = some c → vs[j]? = some v → Rel F m c v) : Rel F m (.agg cs) (.agg vs.toArray)
  | tup (cs : List AV) (vs : List Value) (h1 : cs.length = vs.length) (h2 : ∀ (j : Nat) (c : AV) (v : Value), cs[j]? = some c → vs[j]? = some v → Rel F m c v) : Rel F m (.tup cs) (.tuple vs.toArray)
  | fn (f : FuncId) (cs : List AV) (vs : List Value) (h1 : cs.length = vs.length) (h2 : ∀ (j : Nat) (c : AV) (v : Value), cs[j]? = some c → vs[j]? = some v → Rel F m c v) : Rel F m (.fn f cs) (.func (.func f) #[] vs.toArray)
def Rels (F : Fz) (m : List Ent) (cs : List AV) (vs : List Value) : Prop := cs.length = vs.length ∧ ∀ (j : Nat) (c : AV) (v : Value), cs[j]? = some c → vs[j]? = some v → Rel F m c v
theorem Rel.mono {F F' : Fz} {m m' : List Ent} {c : AV} {v : Value} (h : Rel F m c v) (hF : FLe F F') (hm : MLe m m') : Rel F' m' c v := by
  induction h with
  | lit v => exact .lit v
  | junk v => exact .junk v
  | il0 => exact .il0
  | il1 ad => exact .il1 ad
  | il len cells b o cap vs h1 h2 h3 h4 _ ih => exact .il len cells b o cap vs h1 h2 h3 (fun j v hj => hF _ _ _ (h4 j v hj)) ih
  | nm i ver off len e a n cap h1 h2 h3 =>
    obtain ⟨e', he', r⟩ := hm i e h1
    refine .nm i ver off len e' a n cap he' ?_ ?_
    · rcases r with rfl | r <;> omega
    · intro hv
      rcases r with rfl | r
      · exact h3 hv
      · omega
  | pc i ver off e p h1 h2 h3 =>
    obtain ⟨e', he', r⟩ := hm i e h1
    refine .pc i ver off e' p he' ?_ ?_
    · rcases r with rfl | r <;> omega
    · intro hv
      rcases r with rfl | r
      · exact h3 hv
      · omega
  | mp i ver e p h1 h2 h3 =>
    obtain ⟨e', he', r⟩ := hm i e h1
    refine .mp i ver e' p he' ?_ ?_
    · rcases r with rfl | r <;> omega
    · intro hv
      rcases r with rfl | r
      · exact h3 hv
      · omega
  | el s k sv p _ h2 ih => exact .el s k sv p ih h2
  | agg cs vs h1 _ ih => exact .agg cs vs h1 ih
  | tup cs vs h1 _ ih => exact .tup cs vs h1 ih
  | fn f cs vs h1 _ ih => exact .fn f cs vs h1 ih
theorem Rels.mono {F F' : Fz} {m m' : List Ent} {cs : List AV} {vs : List Value} (h : Rels F m cs vs) (hF : FLe F F') (hm : MLe m m') : Rels F' m' cs vs :=
  ⟨h.1, fun j c v h1 h2 => (h.2 j c v h1 h2).mono hF hm⟩
theorem Rels.nil (F : Fz) (m : List Ent) : Rels F m [] [] := ⟨rfl, fun j c v h => by simp at h⟩
theorem Rels.cons {F : Fz} {m : List Ent} {c : AV} {v : Value} {cs : List AV} {vs : List Value} (h : Rel F m c v) (hs : Rels F m cs vs) : Rels F m (c :: cs) (v :: vs) := by
  refine ⟨by simp [hs.1], ?_⟩
  intro j c' v' h1 h2
  cases j with
  | zero => simp at h1 h2; subst h1; subst h2; exact h
  | succ j => simp at h1 h2; exact hs.2 j c' v' h1 h2
theorem Rels.inv_cons {F : Fz} {m : List Ent} {c : AV} {cs : List AV} {vs : List Value} (h : Rels F m (c :: cs) vs) : ∃ v vs', vs = v :: vs' ∧ Rel F m c v ∧ Rels F m cs vs' := by
  cases vs with
  | nil => have := h.1; simp at this
  | cons v vs =>
    refine ⟨v, vs, rfl, h.2 0 c v (by simp) (by simp), by have := h.1; simpa using this, ?_⟩
    intro j c' v' h1 h2
    exact h.2 (j + 1) c' v' (by simpa using h1) (by simpa using h2)
theorem Rels.inv_nil {F : Fz} {m : List Ent} {vs : List Value} (h : Rels F m [] vs) : vs = [] := by
  have := h.1; cases vs <;> simp_all
theorem Rels.append {F : Fz} {m : List Ent} {cs ds : List AV} {vs us : List Value} (h : Rels F m cs vs) (k : Rels F m ds us) : Rels F m (cs ++ ds) (vs ++ us) := by
  refine ⟨by simp [h.1, k.1], ?_⟩
  intro j c v h1 h2
  by_cases hj : j < cs.length
  · rw [List.getElem?_append_left hj] at h1
    rw [List.getElem?_append_left (by rw [← h.1]; exact hj)] at h2
    exact h.2 j c v h1 h2
  · rw [List.getElem?_append_right (by omega)] at h1
    rw [List.getElem?_append_right (by rw [← h.1]; omega), ← h.1] at h2
    exact k.2 _ c v h1 h2
theorem Rels.take {F : Fz} {m : List Ent} {cs : List AV} {vs : List Value} (h : Rels F m cs vs) (n : Nat) : Rels F m (cs.take n) (vs.take n) := by
  refine ⟨by simp [h.1], ?_⟩
  intro j c v h1 h2
  rw [List.getElem?_take] at h1 h2
  split at h1 <;> simp_all
  exact h.2 j c v h1 h2
theorem Rels.drop {F : Fz} {m : List Ent} {cs : List AV} {vs : List Value} (h : Rels F m cs vs) (n : Nat) : Rels F m (cs.drop n) (vs.drop n) := by
  refine ⟨by simp [h.1], ?_⟩
  intro j c v h1 h2
  rw [List.getElem?_drop] at h1 h2
  exact h.2 _ c v h1 h2
theorem Rels.lits (F : Fz) (m : List Ent) (vs : List Value) : Rels F m (vs.map .lit) vs := by
  refine ⟨by simp, ?_⟩
  intro j c v h1 h2
  rw [List.getElem?_map, h2] at h1
  simp at h1; subst h1; exact .lit v
theorem Rels.set {F : Fz} {m : List Ent} {cs : List AV} {vs : List Value} (h : Rels F m cs vs) (n : Nat) {c : AV} {v : Value} (hc : Rel F m c v) : Rels F m (cs.set n c) (vs.set n v) := by
  refine ⟨by simp [h.1], ?_⟩
  intro j c' v' h1 h2
  rw [List.getElem?_set] at h1 h2
  by_cases hj : n = j
  · subst hj
    simp only [if_true] at h1 h2
    split at h1 <;> simp_all
  · simp only [hj, if_false] at h1 h2
    exact h.2 j c' v' h1 h2
def AV.cell1 : AV → Bool
  | .lit v => v.oneCell'
  | .junk | .agg _ | .tup _ => false
  | _ => true
theorem Rel.cell1 {F : Fz} {m : List Ent} {c : AV} {v : Value} (h : Rel F m c v) (hc : c.cell1 = true) : v.oneCell' = true := by
  cases h <;> first | exact hc | rfl | (simp [AV.cell1] at hc)
def entCells (es : Array MapEntry) : List AV := es.toList.flatMap fun x => [.lit x.key, .lit x.val]
def BlkOk (B : Nat) (F : Fz) (m : List Ent) (w : World) (e : Ent) (k : Blk) : Prop :=
  e.ver = k.ver ∧ e.ty = k.ty ∧ e.sz = k.sz ∧ (e.blk = none → k.cells = [] ∧ e.size = 0) ∧
  ∀ b, e.blk = some b → B ≤ b ∧ ((e.sz ≠ 0 ∧ ∃ arr : Array Value, w.heap[b]? = some (.cells arr e.ty (0, 0)) ∧ arr.size = e.size ∧ k.cells.length ≤ e.size ∧
    (∀ (j : Nat) (c : AV) (v : Value), k.cells[j]? = some c → arr[j]? = some v → Rel F m c v) ∧ (∀ (j : Nat) (v : Value), arr[j]? = some v → v.oneCell' = true)) ∨
    (e.sz = 0 ∧ ∃ (es : Array MapEntry) (clock : Nat), w.heap[b]? = some (.map es clock) ∧ k.cells = entCells es))
theorem BlkOk.cls {B : Nat} {F : Fz} {m : List Ent} {w : World} {e : Ent} {k : Blk} (h : BlkOk B F m w e k) (hsz : e.sz ≠ 0) {b : Nat} (hb : e.blk = some b) : B ≤ b ∧ ∃ arr : Array Value, w.heap[b]? = some (.cells arr e.ty (0, 0)) ∧ arr.size = e.size ∧ k.cells.length ≤ e.size ∧
    (∀ (j : Nat) (c : AV) (v : Value), k.cells[j]? = some c → arr[j]? = some v → Rel F m c v) ∧ (∀ (j : Nat) (v : Value), arr[j]? = some v → v.oneCell' = true) := by
  obtain ⟨h1, h2 | h2⟩ := h.2.2.2.2 b hb
  · exact ⟨h1, h2.2⟩
  · exact absurd h2.1 hsz
theorem BlkOk.one {B : Nat} {F : Fz} {m : List Ent} {w : World} {e : Ent} {k : Blk} (h : BlkOk B F m w e k) {b o : Nat} {v : Value} (hb : e.blk = some b) (hc : w.cell? ⟨b, o, none⟩ = some v) : v.oneCell' = true := by
  obtain ⟨_, ⟨_, arr, ha, _, _, _, hone⟩ | ⟨_, es, clock, ha, _⟩⟩ := h.2.2.2.2 b hb
  · exact hone o v (by simpa [World.cell?, ha] using hc)
  · simp [World.cell?, ha] at hc
theorem BlkOk.mps {B : Nat} {F : Fz} {m : List Ent} {w : World} {e : Ent} {k : Blk} (h : BlkOk B F m w e k) (hsz : e.sz = 0) {b : Nat} (hb : e.blk = some b) : B ≤ b ∧ ∃ (es : Array MapEntry) (clock : Nat), w.heap[b]? = some (.map es clock) ∧ k.cells = entCells es := by
  obtain ⟨h1, h2 | h2⟩ := h.2.2.2.2 b hb
  · exact absurd hsz h2.1
  · exact ⟨h1, h2.2⟩
theorem BlkOk.mono {B : Nat} {F F' : Fz} {m m' : List Ent} {w w' : World} {e : Ent} {k : Blk} (h : BlkOk B F m w e k) (hF : FLe F F') (hm : MLe m m')
    (hw : ∀ b, e.blk = some b → w'.heap[b]? = w.heap[b]?) : BlkOk B F' m' w' e k := by
  obtain ⟨h1, h2, h3, h4, h5⟩ := h
  refine ⟨h1, h2, h3, h4, fun b hb => ?_⟩
  obtain ⟨hB, ⟨hz, arr, ha, hs, hl, hr, ho⟩ | ⟨hz, es, clock, ha, hc⟩⟩ := h5 b hb
  · exact ⟨hB, .inl ⟨hz, arr, by rw [hw b hb]; exact ha, hs, hl, fun j c v x y => (hr j c v x y).mono hF hm, ho⟩⟩
  · exact ⟨hB, .inr ⟨hz, es, clock, by rw [hw b hb]; exact ha, hc⟩⟩
class DoorC where d : Prop
variable [DoorC]
def Drw (w w' : World) : Prop := DoorC.d ∨ w.drawn ≤ w'.drawn
theorem Drw.of {w w' : World} (h : w.drawn ≤ w'.drawn) : Drw w w' := .inr h
theorem Drw.trans {a b c : World} (h : Drw a b) (k : Drw b c) : Drw a c := h.elim .inl fun h => k.elim .inl fun k => .inr (Nat.le_trans h k)
structure Blw (B : Nat) (w w' : World) : Prop where
  os : w'.os = w.os
  tape : w'.tape = w.tape
  output : w'.output = w.output
  size : w.heap.size ≤ w'.heap.size
  block : ∀ k, k < B → w'.heap[k]? = w.heap[k]?
  drawn : Drw w w'
theorem Blw.toB {B : Nat} {w w' : World} (h : Blw B w w') : RowKit.Below B w w' := ⟨h.os, h.tape, h.output, h.size, h.block⟩
theorem Blw.of {B : Nat} {w w' : World} (h : RowKit.Below B w w') (hd : Drw w w') : Blw B w w' := ⟨h.os, h.tape, h.output, h.size, h.block, hd⟩
theorem Blw.refl (B : Nat) (w : World) : Blw B w w := .of (RowKit.Below.refl B w) (.of (Nat.le_refl _))
theorem Blw.trans {B : Nat} {a b c : World} (h : Blw B a b) (k : Blw B b c) : Blw B a c := .of (h.toB.trans k.toB) (h.drawn.trans k.drawn)
theorem Blw.mono {B B' : Nat} {w w' : World} (h : Blw B w w') (hB : B' ≤ B) : Blw B' w w' := .of (h.toB.mono hB) h.drawn
theorem Blw.drew {B : Nat} {a w : World} (h : Blw B a w) : Blw B a w.drew := .of h.toB.drew (h.drawn.trans (.of (Nat.le_succ _)))
theorem Blw.alloc {B : Nat} {a w : World} (h : Blw B a w) (hB : B ≤ w.heap.size) (o : Obj) : Blw B a (w.alloc o) := .of (h.toB.alloc hB o) (h.drawn.trans (.of (Nat.le_refl _)))
theorem Blw.setCell {B : Nat} {a w : World} (h : Blw B a w) {p : Addr} (hp : B ≤ p.block) (u : Value) : Blw B a (w.setCell p u) := .of (h.toB.setCell hp u) (h.drawn.trans (.of (Nat.le_refl _)))
theorem Blw.cell {B : Nat} {w w' : World} (h : Blw B w w') {p : Addr} (hp : p.block < B) : w'.cell? p = w.cell? p := h.toB.cell hp
def Globs (W0 : World) : Prop := (∃ m : Int, W0.cell? ⟨0, 0, none⟩ = some (.int .i64 m)) ∧ (∃ t q, W0.heap[3]? = some (.cells (Go.Lib.pow10Tab.map fun z => Value.int .u64 z).toArray t q)) ∧ (∃ tp p, W0.var? Go.Proofs.Tryz.prog "strconv.ErrSyntax" = some #[.iface tp p]) ∧ (∃ tp p, W0.var? Go.Proofs.Tryz.prog "strconv.ErrRange" = some #[.iface tp p])
def Glob (B : Nat) (W0 : World) : Prop := 8 ≤ B ∧ Globs W0
theorem globalNamed_lt {P : Program} {n : String} {g : Nat} (h : P.globalNamed n = some g) : g < P.globals.size := by
  unfold Program.globalNamed at h
  split at h
  · rename_i x e
    cases h
    have : g ∈ (List.range P.globals.size).filter fun g => (P.globals[g]?).any (·.name == n) := by rw [e]; exact List.mem_singleton.2 rfl
    exact List.mem_range.1 (List.mem_filter.1 this).1
  · cases h
theorem Globs.step {B : Nat} {W0 w : World} (h : Glob B W0) (hb : Blw B W0 w) : Globs w := by
  obtain ⟨hB, ⟨m, h1⟩, ⟨t, q, h2⟩, ⟨t3, p3, h3⟩, t4, p4, h4⟩ := h
  have hg : Go.Proofs.Tryz.prog.globals.size ≤ 8 := of_decide_eq_true (by kernel_rfl)
  have hv : ∀ (n : String) (c : Array Value), W0.var? Go.Proofs.Tryz.prog n = some c → w.var? Go.Proofs.Tryz.prog n = some c := fun n c hv => by
    unfold World.var? at hv ⊢
    cases e : Go.Proofs.Tryz.prog.globalNamed n with
    | none => rw [e] at hv; cases hv
    | some g =>
      rw [e] at hv
      simp only [Option.bind_some] at hv ⊢
      have hlt : g < Go.Proofs.Tryz.prog.globals.size := globalNamed_lt e
      rw [hb.block g (by omega)]; exact hv
  exact ⟨⟨m, (hb.cell (p := ⟨_, 0, none⟩) (Nat.lt_of_lt_of_le (by decide) hB)).trans h1⟩, ⟨t, q, (hb.block _ (Nat.lt_of_lt_of_le (by decide) hB)).trans h2⟩, ⟨t3, p3, hv _ _ h3⟩, t4, p4, hv _ _ h4⟩
theorem Glob.step {B : Nat} {W0 w : World} (h : Glob B W0) (hb : Blw B W0 w) (hB : B ≤ w.heap.size) : Glob w.heap.size w := ⟨Nat.le_trans h.1 hB, Globs.step h hb⟩
structure Sim (B : Nat) (W0 : World) (F : Fz) (m : List Ent) (H : List Blk) (w : World) : Prop where
  len : m.length = H.length
  below : Blw B W0 w
  base : B ≤ w.heap.size
  fz : ∀ b o v, F b o v → w.cell? ⟨b, o, none⟩ = some v ∧ v.oneCell' = true
  apart : ∀ (i : Nat) (e : Ent) (b o : Nat) (v : Value), m[i]? = some e → e.blk = some b → ¬ F b o v
  dist : ∀ (i j : Nat) (e e' : Ent) (b : Nat), m[i]? = some e → m[j]? = some e' → e.blk = some b → e'.blk = some b → i = j
  blk : ∀ (i : Nat) (e : Ent) (k : Blk), m[i]? = some e → H[i]? = some k → BlkOk B F m w e k
  glob : Glob B W0
section
variable {B : Nat} {W0 : World} {F : Fz} {m : List Ent} {H : List Blk} {w : World}
theorem Sim.get (h : Sim B W0 F m H w) {i : Nat} {k : Blk} (hk : H[i]? = some k) : ∃ e, m[i]? = some e ∧ BlkOk B F m w e k := by
  have hlt : i < H.length := (List.getElem?_eq_some_iff.1 hk).1
  have hlt' : i < m.length := by rw [h.len]; exact hlt
  exact ⟨m[i], List.getElem?_eq_getElem hlt', h.blk i _ k (List.getElem?_eq_getElem hlt') hk⟩
theorem Sim.getm (h : Sim B W0 F m H w) {i : Nat} {e : Ent} (he : m[i]? = some e) : ∃ k, H[i]? = some k ∧ BlkOk B F m w e k := by
  have hlt : i < m.length := (List.getElem?_eq_some_iff.1 he).1
  have hlt' : i < H.length := by rw [← h.len]; exact hlt
  exact ⟨H[i], List.getElem?_eq_getElem hlt', h.blk i e _ he (List.getElem?_eq_getElem hlt')⟩
theorem Sim.blk_lt (h : Sim B W0 F m H w) {i : Nat} {e : Ent} {b : Nat} (he : m[i]? = some e) (hb : e.blk = some b) : b < w.heap.size := by
  obtain ⟨k, _, hok⟩ := h.getm he
  obtain ⟨_, ⟨_, arr, ha, _⟩ | ⟨_, es, clock, ha, _⟩⟩ := hok.2.2.2.2 b hb
  · exact (Array.getElem?_eq_some_iff.1 ha).1
  · exact (Array.getElem?_eq_some_iff.1 ha).1
theorem Sim.fz_lt (h : Sim B W0 F m H w) {b o : Nat} {v : Value} (hf : F b o v) : b < w.heap.size :=
  World.block_lt_of_cell? w ⟨b, o, none⟩ (h.fz b o v hf).1
theorem Sim.world (h : Sim B W0 F m H w) {w' : World} (hw : Blw w.heap.size w w') : Sim B W0 F m H w' where
  len := h.len
  below := h.below.trans (hw.mono h.base)
  base := Nat.le_trans h.base hw.size
  fz b o v hf := by
    have := h.fz b o v hf
    refine ⟨?_, this.2⟩
    rw [hw.cell (p := ⟨b, o, none⟩) (h.fz_lt hf)]; exact this.1
  apart := h.apart
  dist := h.dist
  blk i e k he hk := (h.blk i e k he hk).mono (FLe.refl _) (MLe.refl _) (fun b hb => hw.block b (h.blk_lt he hb))
  glob := h.glob
theorem Sim.drew (h : Sim B W0 F m H w) : Sim B W0 F m H w.drew := h.world ((Blw.refl _ _).drew)
theorem Sim.push (h : Sim B W0 F m H w) (arr : Array Value) (ty sz : Nat) (cells : List AV) (hsz : sz ≠ 0) (hl : cells.length ≤ arr.size)
    (hr : ∀ (j : Nat) (c : AV) (v : Value), cells[j]? = some c → arr[j]? = some v → Rel F m c v) (ho : ∀ (j : Nat) (v : Value), arr[j]? = some v → v.oneCell' = true) :
    Sim B W0 F (m ++ [⟨some w.heap.size, arr.size, ty, sz, 0⟩]) (H ++ [⟨0, ty, sz, cells⟩]) (w.alloc (.cells arr ty)) := by
  have hb : Blw w.heap.size w (w.alloc (.cells arr ty)) := (Blw.refl _ _).alloc (Nat.le_refl _) _
  have h1 := h.world hb
  have hm := MLe.append m [⟨some w.heap.size, arr.size, ty, sz, 0⟩]
  refine ⟨by simp [h.len], h1.below, h1.base, h1.fz, ?_, ?_, ?_, h.glob⟩
  · intro i e b o v he hbk hf
    have hlt := h.fz_lt hf
    rw [List.getElem?_append] at he
    split at he
    · exact h.apart i e b o v he hbk hf
    · have : e = ⟨some w.heap.size, arr.size, ty, sz, 0⟩ := by
        rcases hi : i - m.length with _ | n
        · simp [hi] at he; exact he.symm
        · simp [hi] at he
      subst this
      simp at hbk; omega
  · intro i j e e' b he he' hbk hbk'
    rw [List.getElem?_append] at he he'
    have last : ∀ (n : Nat) (x : Ent), [(⟨some w.heap.size, arr.size, ty, sz, 0⟩ : Ent)][n]? = some x → n = 0 ∧ x = ⟨some w.heap.size, arr.size, ty, sz, 0⟩ := by
      intro n x hx
      rcases n with _ | n
      · simp at hx; exact ⟨rfl, hx.symm⟩
      · simp at hx
    split at he
    · split at he'
      · exact h.dist i j e e' b he he' hbk hbk'
      · obtain ⟨_, rfl⟩ := last _ _ he'
        have := h.blk_lt he hbk
        simp at hbk'; omega
    · obtain ⟨z, rfl⟩ := last _ _ he
      split at he'
      · have := h.blk_lt he' hbk'
        simp at hbk; omega
      · obtain ⟨z', rfl⟩ := last _ _ he'
        rename_i g1 g2
        omega
  · intro i e k he hk
    by_cases hi : i < m.length
    · rw [List.getElem?_append_left hi] at he
      rw [List.getElem?_append_left (by rw [← h.len]; exact hi)] at hk
      exact (h.blk i e k he hk).mono (FLe.refl _) hm (fun b hbk => hb.block b (h.blk_lt he hbk))
    · have hi' : i = m.length := by
        have := (List.getElem?_eq_some_iff.1 he).1
        simp at this; omega
      subst hi'
      rw [List.getElem?_append_right (Nat.le_refl _)] at he
      rw [h.len, List.getElem?_append_right (Nat.le_refl _)] at hk
      simp at he hk
      subst he; subst hk
      refine ⟨rfl, rfl, rfl, (by simp), ?_⟩
      intro b hbk
      simp at hbk; subst hbk
      exact ⟨h.base, .inl ⟨hsz, arr, heap_alloc_new w _, rfl, hl, fun j c v x y => (hr j c v x y).mono (FLe.refl _) hm, ho⟩⟩
theorem Sim.pushNil (h : Sim B W0 F m H w) (ty sz : Nat) : Sim B W0 F (m ++ [⟨none, 0, ty, sz, 0⟩]) (H ++ [⟨0, ty, sz, []⟩]) w := by
  have hm := MLe.append m [⟨none, 0, ty, sz, 0⟩]
  have last : ∀ (n : Nat) (x : Ent), [(⟨none, 0, ty, sz, 0⟩ : Ent)][n]? = some x → x = ⟨none, 0, ty, sz, 0⟩ := by
    intro n x hx
    rcases n with _ | n
    · simp at hx; exact hx.symm
    · simp at hx
  refine ⟨by simp [h.len], h.below, h.base, h.fz, ?_, ?_, ?_, h.glob⟩
  · intro i e b o v he hbk hf
    rw [List.getElem?_append] at he
    split at he
    · exact h.apart i e b o v he hbk hf
    · have := last _ _ he; subst this; simp at hbk
  · intro i j e e' b he he' hbk hbk'
    rw [List.getElem?_append] at he he'
    split at he
    · split at he'
      · exact h.dist i j e e' b he he' hbk hbk'
      · have := last _ _ he'; subst this; simp at hbk'
    · have := last _ _ he; subst this; simp at hbk
  · intro i e k he hk
    by_cases hi : i < m.length
    · rw [List.getElem?_append_left hi] at he
      rw [List.getElem?_append_left (by rw [← h.len]; exact hi)] at hk
      exact (h.blk i e k he hk).mono (FLe.refl _) hm (fun _ _ => rfl)
    · have hi' : i = m.length := by
        have := (List.getElem?_eq_some_iff.1 he).1
        simp at this; omega
      subst hi'
      rw [List.getElem?_append_right (Nat.le_refl _)] at he
      rw [h.len, List.getElem?_append_right (Nat.le_refl _)] at hk
      simp at he hk
      subst he; subst hk
      exact ⟨rfl, rfl, rfl, fun _ => ⟨rfl, rfl⟩, fun b hbk => by simp at hbk⟩
theorem Sim.pushMap (h : Sim B W0 F m H w) (ty : Nat) :
    Sim B W0 F (m ++ [⟨some w.heap.size, 0, ty, 0, 0⟩]) (H ++ [⟨0, ty, 0, []⟩]) (w.alloc (.map #[] 0)) := by
  have hb : Blw w.heap.size w (w.alloc (.map #[] 0)) := (Blw.refl _ _).alloc (Nat.le_refl _) _
  have h1 := h.world hb
  have hm := MLe.append m [⟨some w.heap.size, 0, ty, 0, 0⟩]
  have last : ∀ (n : Nat) (x : Ent), [(⟨some w.heap.size, 0, ty, 0, 0⟩ : Ent)][n]? = some x → n = 0 ∧ x = ⟨some w.heap.size, 0, ty, 0, 0⟩ := by
    intro n x hx
    rcases n with _ | n
    · simp at hx; exact ⟨rfl, hx.symm⟩
    · simp at hx
  refine ⟨by simp [h.len], h1.below, h1.base, h1.fz, ?_, ?_, ?_, h.glob⟩
  · intro i e b o v he hbk hf
    have hlt := h.fz_lt hf
    rw [List.getElem?_append] at he
    split at he
    · exact h.apart i e b o v he hbk hf
    · obtain ⟨_, rfl⟩ := last _ _ he
      simp at hbk; omega
  · intro i j e e' b he he' hbk hbk'
    rw [List.getElem?_append] at he he'
    split at he
    · split at he'
      · exact h.dist i j e e' b he he' hbk hbk'
      · obtain ⟨_, rfl⟩ := last _ _ he'
        have := h.blk_lt he hbk
        simp at hbk'; omega
    · obtain ⟨z, rfl⟩ := last _ _ he
      split at he'
      · have := h.blk_lt he' hbk'
        simp at hbk; omega
      · obtain ⟨z', rfl⟩ := last _ _ he'
        rename_i g1 g2
        omega
  · intro i e k he hk
    by_cases hi : i < m.length
    · rw [List.getElem?_append_left hi] at he
      rw [List.getElem?_append_left (by rw [← h.len]; exact hi)] at hk
      exact (h.blk i e k he hk).mono (FLe.refl _) hm (fun b hbk => hb.block b (h.blk_lt he hbk))
    · have hi' : i = m.length := by
        have := (List.getElem?_eq_some_iff.1 he).1
        simp at this; omega
      subst hi'
      rw [List.getElem?_append_right (Nat.le_refl _)] at he
      rw [h.len, List.getElem?_append_right (Nat.le_refl _)] at hk
      simp at he hk
      subst he; subst hk
      refine ⟨rfl, rfl, rfl, (by simp), ?_⟩
      intro b hbk
      simp at hbk; subst hbk
      exact ⟨h.base, .inr ⟨rfl, #[], 0, heap_alloc_new w _, rfl⟩⟩
theorem Sim.update (h : Sim B W0 F m H w) {i : Nat} {e : Ent} (hi : m[i]? = some e) (e' : Ent) (k' : Blk) {w' : World} (hver : e' = e ∨ e.ver < e'.ver)
    (hb : Blw B w w') (hold : ∀ b, e.blk ≠ some b → b < w.heap.size → w'.heap[b]? = w.heap[b]?)
    (hblk : ∀ b', e'.blk = some b' → e.blk = some b' ∨ w.heap.size ≤ b') (hok : BlkOk B F (m.set i e') w' e' k') : Sim B W0 F (m.set i e') (H.set i k') w' := by
  have hm : MLe m (m.set i e') := MLe.set hi hver
  have hlt : i < m.length := (List.getElem?_eq_some_iff.1 hi).1
  refine ⟨by simp [h.len], h.below.trans hb, Nat.le_trans h.base hb.size, ?_, ?_, ?_, ?_, h.glob⟩
  · intro b o v hf
    have hne : e.blk ≠ some b := fun x => h.apart i e b o v hi x hf
    have := h.fz b o v hf
    refine ⟨?_, this.2⟩
    rw [World.cell?_of_block (w := w) (w' := w') (a := ⟨b, o, none⟩) (hold b hne (h.fz_lt hf))]; exact this.1
  · intro j x b o v hj hbk hf
    by_cases hij : i = j
    · subst hij
      rw [List.getElem?_set_self hlt] at hj
      cases hj
      rcases hblk b hbk with h1 | h1
      · exact h.apart i e b o v hi h1 hf
      · have := h.fz_lt hf; omega
    · rw [List.getElem?_set_ne hij] at hj
      exact h.apart j x b o v hj hbk hf
  · intro j l x y b hj hl hbj hbl
    by_cases hij : i = j
    · by_cases hil : i = l
      · omega
      · subst hij
        rw [List.getElem?_set_self hlt] at hj
        rw [List.getElem?_set_ne hil] at hl
        cases hj
        rcases hblk b hbj with h1 | h1
        · exact h.dist i l e y b hi hl h1 hbl
        · have := h.blk_lt hl hbl; omega
    · by_cases hil : i = l
      · subst hil
        rw [List.getElem?_set_self hlt] at hl
        rw [List.getElem?_set_ne hij] at hj
        cases hl
        rcases hblk b hbl with h1 | h1
        · exact h.dist j i x e b hj hi hbj h1
        · have := h.blk_lt hj hbj; omega
      · rw [List.getElem?_set_ne hij] at hj
        rw [List.getElem?_set_ne hil] at hl
        exact h.dist j l x y b hj hl hbj hbl
  · intro j x k hj hk
    by_cases hij : i = j
    · subst hij
      rw [List.getElem?_set_self hlt] at hj
      rw [List.getElem?_set_self (by rw [← h.len]; exact hlt)] at hk
      cases hj; cases hk
      exact hok
    · rw [List.getElem?_set_ne hij] at hj hk
      refine (h.blk j x k hj hk).mono (FLe.refl _) hm (fun b hbk => hold b ?_ (h.blk_lt hj hbk))
      intro hx
      exact hij (h.dist i j e x b hi hj hx hbk)
end
end Go.Av
namespace Go.Av
variable [Go.Av.DoorC]
open Go.RowKit
def aview (H : List Blk) : AV → Option (Nat × List AV)
  | .il len cells => some (len, cells)
  | .nm i ver off len => match H[i]? with
    | some k => if k.ver = ver then some (len, (k.cells.drop off).take (len * k.sz)) else none
    | none => none
  | .lit (.slice none 0 0) => some (0, [])
  | _ => none
def acells (H : List Blk) (c : Nat) : AV → Option (List AV)
  | .pc i ver off => match H[i]? with
    | some k => if k.ver = ver ∧ off + c ≤ k.cells.length then some ((k.cells.drop off).take c) else none
    | none => none
  | .el s j => match aview H s with
    | some (_, cells) => if j + c ≤ cells.length then some ((cells.drop j).take c) else none
    | none => none
  | _ => none
def isAggD : TypeDesc → Bool
  | .struct _ | .array _ _ => true
  | _ => false
def setMany (cells : List AV) (off : Nat) : List AV → List AV
  | [] => cells
  | c :: cs => setMany (cells.set off c) (off + 1) cs
theorem setMany_length (cells : List AV) (off : Nat) (cs : List AV) : (setMany cells off cs).length = cells.length := by
  induction cs generalizing cells off with
  | nil => rfl
  | cons c cs ih => simp [setMany, ih]
def astore (H : List Blk) (cs : List AV) : AV → Option (List Blk)
  | .pc i ver off => match H[i]? with
    | some k => if k.ver = ver ∧ off + cs.length ≤ k.cells.length then some (H.set i { k with cells := setMany k.cells off cs }) else none
    | none => none
  | .el (.nm i ver off _) j => match H[i]? with
    | some k => if k.ver = ver ∧ off + j + cs.length ≤ k.cells.length then some (H.set i { k with cells := setMany k.cells (off + j) cs }) else none
    | none => none
  | _ => none
section
variable {B : Nat} {W0 : World} {F : Fz} {m : List Ent} {H : List Blk} {w : World} {P : Program}
theorem Sim.cell (_h : Sim B W0 F m H w) {e : Ent} {k : Blk} {b : Nat} (hok : BlkOk B F m w e k) (hsz : e.sz ≠ 0) (hb : e.blk = some b) {j : Nat} {c : AV} (hc : k.cells[j]? = some c) :
    ∃ v, w.cell? ⟨b, j, none⟩ = some v ∧ Rel F m c v ∧ v.oneCell' = true := by
  obtain ⟨_, arr, ha, hs, hl, hr, ho⟩ := hok.cls hsz hb
  have hj : j < k.cells.length := (List.getElem?_eq_some_iff.1 hc).1
  have hj' : j < arr.size := by omega
  exact ⟨arr[j], by simp [World.cell?, ha, hj'], hr j c _ hc (by simp [hj']), ho j _ (by simp [hj'])⟩
theorem Sim.row (h : Sim B W0 F m H w) {e : Ent} {k : Blk} {b : Nat} (hok : BlkOk B F m w e k) (hsz : e.sz ≠ 0) (hb : e.blk = some b) (off : Nat) (cs : List AV)
    (hcs : ∀ (j : Nat) (c : AV), cs[j]? = some c → k.cells[off + j]? = some c) :
    ∃ vs, Rels F m cs vs ∧ ∀ (j : Nat) (v : Value), vs[j]? = some v → w.cell? ⟨b, off + j, none⟩ = some v ∧ v.oneCell' = true := by
  induction cs generalizing off with
  | nil => exact ⟨[], Rels.nil _ _, fun j v hj => by simp at hj⟩
  | cons c cs ih =>
    obtain ⟨v, h1, h2, h3⟩ := h.cell hok hsz hb (hcs 0 c (by simp))
    obtain ⟨vs, g1, g2⟩ := ih (off + 1) (fun j c' hj => by have := hcs (j + 1) c' (by simpa using hj); rw [show off + 1 + j = off + (j + 1) by omega]; exact this)
    refine ⟨v :: vs, g1.cons h2, ?_⟩
    intro j u hj
    cases j with
    | zero => simp at hj; subst hj; exact ⟨h1, h3⟩
    | succ j =>
      simp at hj
      have := g2 j u hj
      rw [show off + (j + 1) = off + 1 + j by omega]; exact this
theorem aview_sound (h : Sim B W0 F m H w) {s : AV} {sv : Value} (hr : Rel F m s sv) {len : Nat} {cells : List AV} (hv : aview H s = some (len, cells)) :
    len ≤ maxLen ∧ ((∃ b o cap vs, sv = .slice (some ⟨b, o, none⟩) len cap ∧ len ≤ cap ∧ cap ≤ maxLen ∧ Rels F m cells vs ∧
      ∀ (j : Nat) (v : Value), vs[j]? = some v → w.cell? ⟨b, o + j, none⟩ = some v ∧ v.oneCell' = true) ∨ ((∃ q, sv = .slice q 0 0) ∧ len = 0 ∧ cells = [])) := by
  cases hr with
  | lit v =>
    have hx : sv = Value.slice none 0 0 ∧ len = 0 ∧ cells = [] := by
      unfold aview at hv
      split at hv <;> simp_all
    obtain ⟨rfl, rfl, rfl⟩ := hx
    exact ⟨Nat.zero_le _, .inr ⟨⟨_, rfl⟩, rfl, rfl⟩⟩
  | junk v => simp [aview] at hv
  | il0 =>
    simp [aview] at hv
    obtain ⟨rfl, rfl⟩ := hv
    exact ⟨Nat.zero_le _, .inr ⟨⟨_, rfl⟩, rfl, rfl⟩⟩
  | il1 ad =>
    simp [aview] at hv
    obtain ⟨rfl, rfl⟩ := hv
    exact ⟨Nat.zero_le _, .inr ⟨⟨_, rfl⟩, rfl, rfl⟩⟩
  | il len' cells' b o cap vs h1 h2 h3 h4 h5 =>
    simp [aview] at hv
    obtain ⟨rfl, rfl⟩ := hv
    exact ⟨Nat.le_trans h1 h2, .inl ⟨b, o, cap, vs, rfl, h1, h2, ⟨h3, h5⟩, fun j v hj => h.fz _ _ _ (h4 j v hj)⟩⟩
  | nm i ver off len' e a n cap h1 h2 h3 =>
    unfold aview at hv
    simp only at hv
    split at hv
    case h_2 => simp at hv
    case h_1 k hk =>
      split at hv
      case isFalse => simp at hv
      case isTrue hver =>
        simp at hv
        obtain ⟨rfl, rfl⟩ := hv
        have hok := h.blk i e k h1 hk
        obtain ⟨cap', hl1, hl2, hcase⟩ := h3 (by rw [hok.1, hver])
        refine ⟨Nat.le_trans hl1 hl2, ?_⟩
        rcases hcase with ⟨b, hb, hval, hsz, hnz⟩ | ⟨hb, hval, hl0, ho0⟩
        · left
          obtain ⟨vs, g1, g2⟩ := h.row hok hnz hb off ((k.cells.drop off).take (len' * k.sz)) (fun j c hj => by
            rw [List.getElem?_take] at hj
            split at hj
            · rw [List.getElem?_drop] at hj; exact hj
            · simp at hj)
          exact ⟨b, off, cap', vs, hval, hl1, hl2, g1, g2⟩
        · right
          obtain ⟨hc0, _⟩ := hok.2.2.2.1 hb
          exact ⟨hval, hl0, by simp [hc0]⟩
  | pc => simp [aview] at hv
  | mp => simp [aview] at hv
  | el => simp [aview] at hv
  | agg => simp [aview] at hv
  | tup => simp [aview] at hv
  | fn => simp [aview] at hv
theorem Addr.add_none (b o k : Nat) : (⟨b, o, none⟩ : Addr).add k = ⟨b, o + k, none⟩ := by
  unfold Addr.add; split
  · subst_vars; rfl
  · rfl
theorem acells_sound (h : Sim B W0 F m H w) {s : AV} {sv : Value} (hr : Rel F m s sv) {c : Nat} {cs : List AV} (hv : acells H c s = some cs) (hc : 0 < c) :
    ∃ b o vs, sv = .pointer (some ⟨b, o, none⟩) ∧ Rels F m cs vs ∧ cs.length = c ∧ ∀ (j : Nat) (v : Value), vs[j]? = some v → w.cell? ⟨b, o + j, none⟩ = some v ∧ v.oneCell' = true := by
  cases hr with
  | lit v => simp [acells] at hv
  | junk v => simp [acells] at hv
  | il0 => simp [acells] at hv
  | il1 => simp [acells] at hv
  | il => simp [acells] at hv
  | nm => simp [acells] at hv
  | mp => simp [acells] at hv
  | agg => simp [acells] at hv
  | tup => simp [acells] at hv
  | fn => simp [acells] at hv
  | pc i ver off e p h1 h2 h3 =>
    unfold acells at hv
    simp only at hv
    split at hv
    case h_2 => simp at hv
    case h_1 k hk =>
      split at hv
      case isFalse => simp at hv
      case isTrue hcond =>
        simp at hv
        subst hv
        have hok := h.blk i e k h1 hk
        obtain ⟨b, hb, hp, hnz⟩ := h3 (by rw [hok.1, hcond.1])
        obtain ⟨vs, g1, g2⟩ := h.row hok hnz hb off ((k.cells.drop off).take c) (fun j x hj => by
          rw [List.getElem?_take] at hj
          split at hj
          · rw [List.getElem?_drop] at hj; exact hj
          · simp at hj)
        exact ⟨b, off, vs, by rw [hp], g1, by simp; omega, g2⟩
  | el s j sv' p h1 h2 =>
    unfold acells at hv
    simp only at hv
    split at hv
    case h_2 => simp at hv
    case h_1 len cells hview =>
      split at hv
      case isFalse => simp at hv
      case isTrue hcond =>
        simp at hv
        subst hv
        obtain ⟨_, hcase⟩ := aview_sound h h1 hview
        rcases hcase with ⟨b, o, cap, vs, hval, _, _, hrels, hcells⟩ | ⟨_, _, hnil⟩
        · refine ⟨b, o + j, (vs.drop j).take c, ?_, (hrels.drop j).take c, by simp; omega, ?_⟩
          · rw [h2 _ _ _ hval, Addr.add_none]
          · intro i v hi
            rw [List.getElem?_take] at hi
            split at hi
            · rw [List.getElem?_drop] at hi
              rw [Nat.add_assoc]; exact hcells _ v hi
            · simp at hi
        · subst hnil; simp at hcond; omega
theorem heap_setCell_same {w : World} {b o : Nat} {arr : Array Value} {ty : TypeId} {f : Nat × Nat} (v : Value) (h : w.heap[b]? = some (.cells arr ty f)) :
    (w.setCell ⟨b, o, none⟩ v).heap[b]? = some (.cells (arr.setIfInBounds o v) ty f) := by
  simp [World.setCell, Array.getElem?_modify, h]
theorem frozen?_clean {w : World} {b o : Nat} {arr : Array Value} {ty : TypeId} (h : w.heap[b]? = some (.cells arr ty (0, 0))) : w.frozen? ⟨b, o, none⟩ = false := by
  simp [World.frozen?, h]
theorem run_storeCells {e : Ent} {b : Nat} (hb : e.blk = some b) (hnz : e.sz ≠ 0) {i : Nat} (he : m[i]? = some e) :
    ∀ (cs : List AV) (vs : List Value) (ad : Addr) (off q : Nat) (H : List Blk) (k : Blk) (w : World), Sim B W0 F m H w → H[i]? = some k → Rels F m cs vs → (∀ c ∈ cs, c.cell1 = true) →
      off + cs.length ≤ k.cells.length → (∀ j, ad.add (q + j) = ⟨b, off + j, none⟩) →
      ∃ w', (storeCells ad vs q).run P w = .ok () w' ∧ Sim B W0 F m (H.set i { k with cells := setMany k.cells off cs }) w'
  | [], vs, ad, off, q, H, k, w, h, hk, hr, _, _, _ => by
    have := hr.inv_nil; subst this
    refine ⟨w, rfl, ?_⟩
    have : H.set i { k with cells := setMany k.cells off [] } = H := by
      simp only [setMany]
      obtain ⟨hlt, hx⟩ := List.getElem?_eq_some_iff.1 hk
      rw [← hx]; exact List.set_getElem_self hlt
    rw [this]; exact h
  | c :: cs, vs, ad, off, q, H, k, w, h, hk, hr, h1, hle, had => by
    obtain ⟨v, vs', rfl, hrv, hrs⟩ := hr.inv_cons
    have hok := h.blk i e k he hk
    obtain ⟨hB, arr, ha, hs, hl, hrel, ho⟩ := hok.cls hnz hb
    simp only [List.length_cons] at hle
    have hoff : off < arr.size := by omega
    have hcell : w.cell? ⟨b, off, none⟩ = some arr[off] := by simp [World.cell?, ha, hoff]
    have hone : v.oneCell' = true := hrv.cell1 (h1 c (by simp))
    have ha0 : ad.add q = ⟨b, off, none⟩ := by have := had 0; simpa using this
    have hrun : (store (ad.add q) v).run P w = .ok () (w.setCell ⟨b, off, none⟩ v) := by
      rw [run_store P w (ad.add q) v .plain hone, ha0, hcell]
      simp [frozen?_clean ha]
    have hmm : m.set i e = m := by
      obtain ⟨hlt, hx⟩ := List.getElem?_eq_some_iff.1 he
      rw [← hx]; exact List.set_getElem_self hlt
    have hsim : Sim B W0 F m (H.set i { k with cells := k.cells.set off c }) (w.setCell ⟨b, off, none⟩ v) := by
      have := h.update he e { k with cells := k.cells.set off c } (w' := w.setCell ⟨b, off, none⟩ v) (.inl rfl) ((Blw.refl _ _).setCell (p := ⟨b, off, none⟩) hB v)
        (fun b' hne _ => RowKit.Below.heap_setCell w ⟨b, off, none⟩ v b' (fun x => hne (by rw [hb, x]))) (fun b' hb' => .inl hb') (by
          rw [hmm]
          refine ⟨hok.1, hok.2.1, hok.2.2.1, (fun hn => by rw [hb] at hn; cases hn), ?_⟩
          intro b' hb'
          rw [hb] at hb'; cases hb'
          refine ⟨hB, .inl ⟨hnz, arr.setIfInBounds off v, heap_setCell_same v ha, by simp [hs], by simp [hl], ?_, ?_⟩⟩
          · intro j c' v' hj hv'
            rw [List.getElem?_set] at hj
            rw [Array.getElem?_setIfInBounds] at hv'
            by_cases hjo : off = j
            · subst hjo
              simp only [if_true] at hj hv'
              split at hj <;> simp_all
            · simp only [hjo, if_false] at hj hv'
              exact hrel j c' v' hj hv'
          · intro j v' hv'
            rw [Array.getElem?_setIfInBounds] at hv'
            by_cases hjo : off = j
            · subst hjo
              simp only [if_true] at hv'
              split at hv' <;> simp_all
            · simp only [hjo, if_false] at hv'
              exact ho j v' hv')
      rw [hmm] at this; exact this
    have hk' : (H.set i { k with cells := k.cells.set off c })[i]? = some { k with cells := k.cells.set off c } := by
      rw [List.getElem?_set_self (List.getElem?_eq_some_iff.1 hk).1]
    obtain ⟨w', g1, g2⟩ := run_storeCells hb hnz he cs vs' ad (off + 1) (q + 1) _ _ _ hsim hk' hrs (fun x hx => h1 x (by simp [hx])) (by simp; omega)
      (fun j => by rw [show q + 1 + j = q + (j + 1) by omega, had (j + 1)]; congr 1; omega)
    refine ⟨w', ?_, ?_⟩
    · simp only [storeCells, Sem.run_bind, hrun, Result.andThen]
      exact g1
    · simpa [setMany] using g2
theorem astore_sound (h : Sim B W0 F m H w) {s : AV} {sv : Value} (hr : Rel F m s sv) {cs : List AV} {vs : List Value} {H' : List Blk} (hv : astore H cs s = some H') (hrs : Rels F m cs vs)
    (h1 : ∀ c ∈ cs, c.cell1 = true) (h0 : 0 < cs.length) : ∃ ad w', sv = .pointer (some ad) ∧ (storeCells ad vs).run P w = .ok () w' ∧ Sim B W0 F m H' w' := by
  cases hr with
  | lit v => simp [astore] at hv
  | junk v => simp [astore] at hv
  | il0 => simp [astore] at hv
  | il1 => simp [astore] at hv
  | il => simp [astore] at hv
  | nm => simp [astore] at hv
  | mp => simp [astore] at hv
  | agg => simp [astore] at hv
  | tup => simp [astore] at hv
  | fn => simp [astore] at hv
  | pc i ver off e p he h2 h3 =>
    unfold astore at hv
    simp only at hv
    split at hv
    case h_2 => simp at hv
    case h_1 k hk =>
      split at hv
      case isFalse => simp at hv
      case isTrue hcond =>
        simp at hv
        subst hv
        have hok := h.blk i e k he hk
        obtain ⟨b, hb, hp, hnz⟩ := h3 (by rw [hok.1, hcond.1])
        subst hp
        obtain ⟨w', g1, g2⟩ := run_storeCells (P := P) hb hnz he cs vs ⟨b, off, none⟩ off 0 H k w h hk hrs h1 hcond.2 (fun j => by rw [Addr.add_none, Nat.zero_add])
        exact ⟨_, w', rfl, g1, g2⟩
  | el s j sv' p hs h2 =>
    cases hs with
    | nm i ver off len e a n cap he h2' h3' =>
      unfold astore at hv
      simp only at hv
      split at hv
      case h_2 => simp at hv
      case h_1 k hk =>
        split at hv
        case isFalse => simp at hv
        case isTrue hcond =>
          simp at hv
          subst hv
          have hok := h.blk i e k he hk
          obtain ⟨cap', hl1, hl2, hcase⟩ := h3' (by rw [hok.1, hcond.1])
          rcases hcase with ⟨b, hb, hval, hsz, hnz⟩ | ⟨hb, hval, hl0, ho0⟩
          · have hp := h2 _ _ _ hval
            rw [Addr.add_none] at hp
            subst hp
            obtain ⟨w', g1, g2⟩ := run_storeCells (P := P) hb hnz he cs vs ⟨b, off + j, none⟩ (off + j) 0 H k w h hk hrs h1 hcond.2 (fun i => by rw [Addr.add_none, Nat.zero_add])
            exact ⟨_, w', rfl, g1, g2⟩
          · obtain ⟨hc0, _⟩ := hok.2.2.2.1 hb
            have := hcond.2
            rw [hc0] at this; simp only [List.length_nil] at this; omega
    | _ => simp [astore] at hv
end
end Go.Av
namespace Go.Av
variable [Go.Av.DoorC]
open Go.RowKit
inductive SK where
  | add
  | eql (neg : Bool)
  | len
  | idx
  | slc (lo hi : Bool)
  | nil (neg : Bool)
inductive SO where
  | mv (x : Operand)
  | pick (c a b : Operand)
  | bin (op : BinOp) (x y : Operand)
  | binb (neg : Bool) (x y : Operand)
  | eqs (neg : Bool) (x y : Operand)
  | un (op : UnOp) (x : Operand)
  | load (c : Nat) (agg : Bool) (a : Operand)
  | store (c : Nat) (a v : Operand)
  | nilc (x : Operand)
  | faddr (off : Nat) (a : Operand)
  | fld (off c : Nat) (agg : Bool) (x : Operand)
  | iaddr (sz : Nat) (s i : Operand)
  | ext (x : Operand) (n : Nat)
  | len (x : Operand)
  | qlen (x : Operand)
  | alloc (ty : Nat) (zero : List Value)
  | box (ty : Nat) (x : Operand)
  | build (zero : List Value) (parts : List (Nat × Nat × Operand))
  | bslice (ty sz len : Nat) (zero : List Value) (parts : List (Nat × Operand))
  | mslice (ty bytes : Nat) (zero : Value) (l c : Operand)
  | msliceN (ty bytes : Nat) (zs : List Value) (l c : Operand)
  | slc (sz : Nat) (x : Operand) (lo hi : Option Operand)
  | app (ty sz bytes : Nat) (s x : Operand)
  | mkf (f : FuncId) (caps : List Operand)
  | call (f : FuncId) (args : List Operand)
  | callv (x : Operand) (args : List Operand)
  | qcall (f : FuncId) (args : List Operand)
  | fcall (f : FuncId) (args : List Operand)
  | qcallv (x : Operand) (args : List Operand)
  | mm (isMax : Bool) (x y : Operand)
  | conv (k : IntKind) (x : Operand)
  | slc0 (ty sz : Nat) (x : Operand)
  | isnil (neg : Bool) (x : Operand)
  | mkmap (ty : Nat)
  | mget (kd : Nat) (zero : Value) (m k : Operand)
  | mput (kd : Nat) (m k v : Operand)
  | str (x : Operand)
  | clr (zero : Value) (x : Operand)
  | sop (k : SK) (xs : List Operand)
  | bad
inductive MK where
  | s (b : ByteArray)
  | p (a b : Int)
  deriving DecidableEq
def MK.val : MK → Value
  | .s b => .string b
  | .p a b => .agg #[.int .i64 a, .int .i64 b]
def MK.kind : MK → Nat
  | .s _ => 0
  | .p _ _ => 1
def MK.of : AV → Option MK
  | .lit (.string b) => some (.s b)
  | .agg [.lit (.int .i64 a), .lit (.int .i64 b)] => some (.p a b)
  | _ => none
def mapC (ps : List (MK × Value)) : List AV := ps.flatMap fun p => [.lit p.1.val, .lit p.2]
def mval (ps : List (MK × Value)) (k : MK) (zero : Value) : Value := ((ps.find? fun p => decide (p.1 = k)).map Prod.snd).getD zero
def bytesOf (ns : List Int) : ByteArray := ns.foldl (fun r n => r.push (UInt8.ofNat n.toNat)) ByteArray.empty
def ACalls (P : Program) (f : FuncId) (args : List AV) (H : List Blk) (R : AV → List Blk → Prop) : Prop :=
  ∀ (B : Nat) (W0 : World) (F : Fz) (m : List Ent) (w : World) (vs : List Value), Rels F m args vs → Sim B W0 F m H w →
    Calls P f vs.toArray w fun e w' => ∃ F' m' H' r v, e = .returned v ∧ FLe F F' ∧ MLe m m' ∧ Rel F' m' r v ∧ Sim B W0 F' m' H' w' ∧ R r H'
def AFn (P : Program) (f : FuncId) (args : List AV) (H : List Blk) (v : AV) : Prop :=
  ∀ ext, ACalls P f args (H ++ ext) fun r H' => r = v ∧ H' = H ++ ext
theorem ACalls.mono {P : Program} {f : FuncId} {args : List AV} {H : List Blk} {R R' : AV → List Blk → Prop} (h : ACalls P f args H R) (hr : ∀ r H', R r H' → R' r H') : ACalls P f args H R' := by
  intro B W0 F m w vs h1 h2
  refine (h B W0 F m w vs h1 h2).mono ?_
  rintro e w' ⟨F', m', H', r, v, g1, g2, g3, g4, g5, g6⟩
  exact ⟨F', m', H', r, v, g1, g2, g3, g4, g5, hr _ _ g6⟩
theorem AFn.calls {P : Program} {f : FuncId} {args : List AV} {H : List Blk} {v : AV} (h : AFn P f args H v) : ACalls P f args H fun r H' => r = v ∧ H' = H := by
  have := h []
  simpa using this
def callable (P : Program) (f : FuncId) : Bool :=
  match P.funcs[f]? with
  | some fn => !(fn.name == "runtime.NumGoroutine") && fn.body.isSome
  | none => false
def ev (E : Nat → AV) : Operand → AV
  | .tmp t => E t
  | .const v => .lit v
  | .func f => .fn f []
  | .global _ => .junk
def I (n : Int) : AV := .lit (.int .i64 n)
def Bv (b : Bool) : AV := .lit (.bool b)
def w64 (n : Int) : Int := IntKind.i64.wrap n
def partsOf : AV → List AV
  | .agg cs => cs
  | x => [x]
def alive (H : List Blk) : AV → Prop
  | .pc i ver _ => ∃ k, H[i]? = some k ∧ k.ver = ver
  | .el s _ => ∃ n cells, aview H s = some (n + 1, cells)
  | _ => False
def afill (cells : List AV) : List (Nat × Nat × AV) → Option (List AV)
  | [] => some cells
  | (off, size, v) :: rest => if (partsOf v).length = size ∧ off + size ≤ cells.length then afill (setMany cells off (partsOf v)) rest else none
def swpBin (op : BinOp) (x y : AV) (K : AV → Prop) : Prop :=
  match x, y with
  | .lit (.int k a), .lit (.int k' b) => match op with
    | .add => k = k' ∧ K (.lit (.int k (k.wrap (a + b))))
    | .sub => k = k' ∧ K (.lit (.int k (k.wrap (a - b))))
    | .mul => k = k' ∧ K (.lit (.int k (k.wrap (a * b))))
    | .quo => k = k' ∧ b ≠ 0 ∧ K (.lit (.int k (k.wrap (a.tdiv b))))
    | .rem => k = k' ∧ b ≠ 0 ∧ K (.lit (.int k (a.tmod b)))
    | .eql => k = k' ∧ K (Bv (a == b))
    | .neq => k = k' ∧ K (Bv (a != b))
    | .lss => k = k' ∧ K (Bv (decide (a < b)))
    | .leq => k = k' ∧ K (Bv (decide (a ≤ b)))
    | .gtr => k = k' ∧ K (Bv (decide (a > b)))
    | .geq => k = k' ∧ K (Bv (decide (a ≥ b)))
    | .shl => 0 ≤ b ∧ K (.lit (.int k (k.wrap (a * 2 ^ (min b.toNat k.bits)))))
    | .shr => 0 ≤ b ∧ K (.lit (.int k (a.fdiv (2 ^ (min b.toNat k.bits)))))
    | .and => k = k' ∧ K (.lit (.int k (k.wrap (BitVec.ofInt k.bits a &&& BitVec.ofInt k.bits b).toNat)))
    | .or => k = k' ∧ K (.lit (.int k (k.wrap (BitVec.ofInt k.bits a ||| BitVec.ofInt k.bits b).toNat)))
    | .xor => k = k' ∧ K (.lit (.int k (k.wrap (BitVec.ofInt k.bits a ^^^ BitVec.ofInt k.bits b).toNat)))
    | .andNot => k = k' ∧ K (.lit (.int k (k.wrap (BitVec.ofInt k.bits a &&& ~~~BitVec.ofInt k.bits b).toNat)))
  | _, _ => False
def sopV (k : SK) (vs : List AV) : Option AV :=
  match k with
  | .add => match vs with
    | [.lit (.string a), .lit (.string b)] => if a.size + b.size ≤ 9223372036854775807 then some (.lit (.string (a ++ b))) else none
    | _ => none
  | .eql neg => match vs with
    | [.lit (.string a), .lit (.string b)] => some (Bv (if neg then !(decide (a.toList = b.toList)) else decide (a.toList = b.toList)))
    | _ => none
  | .len => match vs with
    | [.lit (.string a)] => some (I a.size)
    | _ => none
  | .idx => match vs with
    | [.lit (.string a), .lit (.int _ i)] => if 0 ≤ i then (a[i.toNat]?).map (fun b => .lit (.int .u8 b.toNat)) else none
    | _ => none
  | .slc lo hi => match vs with
    | [.lit (.string a), .lit (.int _ l), .lit (.int _ h)] => if lo = true ∧ hi = true ∧ 0 ≤ l ∧ l ≤ h ∧ h ≤ a.size then some (.lit (.string (a.extract l.toNat h.toNat))) else none
    | [.lit (.string a), .lit (.int _ l)] => if lo = true ∧ hi = false ∧ 0 ≤ l ∧ l ≤ a.size then some (.lit (.string (a.extract l.toNat a.size))) else if lo = false ∧ hi = true ∧ 0 ≤ l ∧ l ≤ a.size then some (.lit (.string (a.extract 0 l.toNat))) else none
    | _ => none
  | .nil neg => match vs with
    | [.lit .nilIface] => some (Bv (!neg))
    | [.lit (.iface _ _)] => some (Bv neg)
    | _ => none
def sopW (o : Option AV) (K : AV → Prop) : Prop := match o with
  | some v => K v
  | none => False
def swpSlc (sz : Nat) (H : List Blk) (x : AV) (lo hi : Option AV) (K : AV → Prop) : Prop :=
  match aview H x with
  | some (n, cells) =>
    match (match lo with | some (.lit (.int _ l)) => some l | none => some 0 | _ => none), (match hi with | some (.lit (.int _ h)) => some h | none => some (n : Int) | _ => none) with
    | some l, some h => 0 ≤ l ∧ l ≤ h ∧ h ≤ n ∧ (∀ i ver off len, x = .nm i ver off len → (H[i]?).map Blk.sz = some sz) ∧ K (match x with
      | .nm i ver off _ => if l = 0 then .nm i ver off h.toNat else if l = h then .il 0 [] else .nm i ver (off + l.toNat * sz) (h.toNat - l.toNat)
      | _ => .il (h.toNat - l.toNat) ((cells.drop (l.toNat * sz)).take ((h.toNat - l.toNat) * sz)))
    | _, _ => False
  | none => False
def swpApp (ty sz bytes : Nat) (H : List Blk) (s x : AV) (K : AV → List Blk → Prop) : Prop :=
  match aview H x with
  | some (n, xs) => xs.length = n * sz ∧ (∀ c ∈ xs, c.cell1 = true) ∧ match s with
    | .nm i ver 0 len => match H[i]? with
      | some k => k.ver = ver ∧ k.ty = ty ∧ k.sz = sz ∧ len * sz ≤ k.cells.length ∧ (len + n) * bytes ≤ 140737488355328 ∧ len + n ≤ 140737488355328 ∧
        K (.nm i (ver + 1) 0 (len + n)) (H.set i ⟨ver + 1, ty, sz, k.cells.take (len * sz) ++ xs⟩)
      | none => False
    | .lit (.slice none 0 0) => n * bytes ≤ 140737488355328 ∧ n ≤ 140737488355328 ∧ K (.nm H.length 1 0 n) (H ++ [⟨1, ty, sz, xs⟩])
    | _ => False
  | none => False
def swpOp (P : Program) (so : SO) (ρ : Operand → AV) (H : List Blk) (K : AV → List Blk → Prop) : Prop :=
  match so with
  | .mv x => K (ρ x) H
  | .pick c a b => match ρ c with
    | .lit (.bool t) => K (if t then ρ a else ρ b) H
    | _ => False
  | .bin op x y => swpBin op (ρ x) (ρ y) fun v => K v H
  | .binb neg x y => match ρ x, ρ y with
    | .lit (.bool a), .lit (.bool b) => K (Bv (if neg then a != b else a == b)) H
    | _, _ => False
  | .eqs neg x y => match ρ x, ρ y with
    | .agg [.lit (.int .i64 a), .lit (.int .i64 b)], .agg [.lit (.int .i64 c), .lit (.int .i64 d)] => K (Bv (if neg then !(decide (a = c) && decide (b = d)) else (decide (a = c) && decide (b = d)))) H
    | _, _ => False
  | .un op x => match op, ρ x with
    | .not, .lit (.bool b) => K (Bv (!b)) H
    | .neg, .lit (.int k n) => K (.lit (.int k (k.wrap (0 - n)))) H
    | _, _ => False
  | .load c agg a => match acells H c (ρ a) with
    | some cs => if agg then K (.agg cs) H else match cs with
      | [x] => K x H
      | _ => False
    | none => False
  | .store c a v => (partsOf (ρ v)).length = c ∧ ((partsOf (ρ v)).all AV.cell1 = true) ∧ match astore H (partsOf (ρ v)) (ρ a) with
    | some H' => K (.lit undef) H'
    | none => False
  | .nilc x => match ρ x with
    | .pc i ver off => alive H (.pc i ver off) ∧ K (.pc i ver off) H
    | .el s k => alive H (.el s k) ∧ K (.el s k) H
    | .fn f cs => K (.fn f cs) H
    | _ => False
  | .faddr off a => match ρ a with
    | .pc i ver o => alive H (.pc i ver o) ∧ K (.pc i ver (o + off)) H
    | .el s k => alive H (.el s k) ∧ K (.el s (k + off)) H
    | _ => False
  | .fld off c agg x => match ρ x with
    | .agg cs => if agg then off + c ≤ cs.length ∧ K (.agg ((cs.drop off).take c)) H else match cs[off]? with
      | some v => K v H
      | none => False
    | _ => False
  | .iaddr sz s i => match aview H (ρ s), ρ i with
    | some (n, _), .lit (.int _ x) => 0 ≤ x ∧ x < n ∧ K (.el (ρ s) (x.toNat * sz)) H
    | _, _ => False
  | .ext x n => match ρ x with
    | .tup cs => match cs[n]? with
      | some v => K v H
      | none => False
    | _ => False
  | .len x => match aview H (ρ x) with
    | some (n, _) => n ≤ 9223372036854775807 → K (I n) H
    | none => False
  | .qlen x => match aview H (ρ x) with
    | some (n, _) => K (I n) H
    | none => False
  | .alloc ty zero => K (.pc H.length 0 0) (H ++ [⟨0, ty, 1, zero.map .lit⟩])
  | .box ty x => ((partsOf (ρ x)).all AV.cell1 = true) ∧ K (.pc H.length 0 0) (H ++ [⟨0, ty, 1, partsOf (ρ x)⟩])
  | .build zero parts => ((parts.all fun p => (partsOf (ρ p.2.2)).all AV.cell1) = true) ∧ match afill (zero.map .lit) (parts.map fun p => (p.1, p.2.1, ρ p.2.2)) with
    | some cs => K (.agg cs) H
    | none => False
  | .bslice ty sz len zero parts => ((parts.all fun p => (partsOf (ρ p.2)).all AV.cell1) = true) ∧ match afill (zero.map .lit) (parts.map fun p => (p.1 * sz, sz, ρ p.2)) with
    | some cs => (cs.all AV.cell1 = true) ∧ K (.nm H.length 0 0 len) (H ++ [⟨0, ty, sz, cs⟩])
    | none => False
  | .mslice ty bytes zero l c => match ρ l, ρ c with
    | .lit (.int .i64 x), .lit (.int .i64 y) => 0 ≤ x ∧ x ≤ y ∧ y * bytes ≤ 281474976710656 ∧ y ≤ 281474976710656 ∧ K (.nm H.length 0 0 x.toNat) (H ++ [⟨0, ty, 1, List.replicate y.toNat (.lit zero)⟩])
    | _, _ => False
  | .msliceN ty bytes zs l c => match ρ l, ρ c with
    | .lit (.int .i64 x), .lit (.int .i64 y) => 0 ≤ x ∧ x ≤ y ∧ y * bytes ≤ 281474976710656 ∧ y ≤ 281474976710656 ∧ K (.nm H.length 0 0 x.toNat) (H ++ [⟨0, ty, zs.length, (List.range (y.toNat * zs.length)).map fun q => .lit (zs.getD (q % zs.length) undef)⟩])
    | _, _ => False
  | .slc sz x lo hi => swpSlc sz H (ρ x) (lo.map ρ) (hi.map ρ) fun v => K v H
  | .app ty sz bytes s x => swpApp ty sz bytes H (ρ s) (ρ x) K
  | .mkf f caps => K (.fn f (caps.map ρ)) H
  | .call f args => ACalls P f (args.map ρ) H K
  | .callv x args => match ρ x with
    | .fn f cs => callable P f = true ∧ ACalls P f (args.map ρ ++ cs) H K
    | _ => False
  | .qcall f args => ∃ v, AFn P f (args.map ρ) H v ∧ K v H
  | .fcall f args => ACalls P f (args.map ρ) H fun v H' => K v H' ∧ ∃ ext, H' = H ++ ext
  | .qcallv x args => match ρ x with
    | .fn f cs => callable P f = true ∧ ∃ v, AFn P f (args.map ρ ++ cs) H v ∧ K v H
    | _ => False
  | .mm isMax x y => match ρ x, ρ y with
    | .lit (.int k a), .lit (.int _ b) => K (.lit (.int k (if isMax then (if a < b then b else a) else (if b < a then b else a)))) H
    | _, _ => False
  | .conv k x => match ρ x with
    | .lit (.int _ n) => K (.lit (.int k (k.wrap n))) H
    | _ => False
  | .slc0 ty sz x => match aview H (ρ x) with
    | some _ => K (.nm H.length 0 0 0) (H ++ [⟨0, ty, sz, []⟩])
    | none => False
  | .isnil neg x => match aview H (ρ x) with
    | some (n, _) => ∀ b : Bool, (b = true → n = 0) → K (Bv (if neg then !b else b)) H
    | none => False
  | .mkmap ty => K (.mp H.length 0) (H ++ [⟨0, ty, 0, []⟩])
  | .mget kd zero m k => match ρ m with
    | .mp i ver => ∃ (ty : Nat) (ps : List (MK × Value)) (key : MK), H[i]? = some ⟨ver, ty, 0, mapC ps⟩ ∧ MK.of (ρ k) = some key ∧ key.kind = kd ∧ (∀ p ∈ ps, p.1.kind = kd) ∧ K (.lit (mval ps key zero)) H
    | _ => False
  | .mput kd m k v => match ρ m, ρ v with
    | .mp i ver, .lit u => ∃ (ty : Nat) (ps : List (MK × Value)) (key : MK), H[i]? = some ⟨ver, ty, 0, mapC ps⟩ ∧ MK.of (ρ k) = some key ∧ key.kind = kd ∧ (∀ p ∈ ps, p.1.kind = kd) ∧ (∀ p ∈ ps, p.1 ≠ key) ∧
        K (.lit undef) (H.set i ⟨ver, ty, 0, mapC (ps ++ [(key, u)])⟩)
    | _, _ => False
  | .str x => match aview H (ρ x) with
    | some (n, cells) => ∃ ns : List Int, n = ns.length ∧ cells = ns.map (fun z => .lit (.int .u8 z)) ∧ K (.lit (.string (bytesOf ns))) H
    | none => False
  | .clr zero x => match ρ x with
    | .nm i ver off len => ∃ (ty : Nat) (cells : List AV), 0 < len ∧ H[i]? = some ⟨ver, ty, 1, cells⟩ ∧ off + len ≤ cells.length ∧ K (.tup []) (H.set i ⟨ver, ty, 1, setMany cells off (List.replicate len (.lit zero))⟩)
    | _ => False
  | .sop k xs => sopW (sopV k (xs.map ρ)) fun v => K v H
  | .bad => False
structure Ctx where
  B : Nat
  W0 : World
  F0 : Fz
  m0 : List Ent
  n : Nat
structure St (cx : Ctx) (F : Fz) (m : List Ent) (E : Nat → AV) (H : List Blk) (a : Act) (w : World) : Prop where
  defers : a.defers = []
  size : a.tmps.size = cx.n
  env : ∀ k, Rel F m (E k) (a.tmps.getD k undef)
  sim : Sim cx.B cx.W0 F m H w
  fle : FLe cx.F0 F
  mle : MLe cx.m0 m
def updO (E : Nat → AV) (d : Option Nat) (v : AV) : Nat → AV :=
  match d with
  | some t => fun k => if k = t then v else E k
  | none => E
theorem St.ev {cx : Ctx} {F : Fz} {m : List Ent} {E : Nat → AV} {H : List Blk} {a : Act} {w : World} (h : St cx F m E H a w) (x : Operand) : Rel F m (ev E x) (a.eval x) := by
  cases x with
  | tmp t => exact h.env t
  | const v => exact .lit v
  | func f => exact .fn f [] [] rfl (fun j c v h => by simp at h)
  | global g => exact .junk _
theorem St.evs {cx : Ctx} {F : Fz} {m : List Ent} {E : Nat → AV} {H : List Blk} {a : Act} {w : World} (h : St cx F m E H a w) (xs : List Operand) : Rels F m (xs.map (Av.ev E)) (xs.map a.eval) := by
  induction xs with
  | nil => exact Rels.nil _ _
  | cons x xs ih => exact Rels.cons (h.ev x) ih
theorem St.put {cx : Ctx} {F F' : Fz} {m m' : List Ent} {E : Nat → AV} {H H' : List Blk} {a : Act} {w w' : World} (h : St cx F m E H a w) (hF : FLe F F') (hm : MLe m m')
    (hs : Sim cx.B cx.W0 F' m' H' w') {d : Option Nat} (hd : ∀ t, d = some t → t < cx.n) {v : AV} {u : Value} (hr : Rel F' m' v u) : St cx F' m' (updO E d v) H' (a.put d u) w' := by
  cases d with
  | none => exact ⟨h.defers, h.size, fun k => (h.env k).mono hF hm, hs, h.fle.trans hF, h.mle.trans hm⟩
  | some t =>
    refine ⟨h.defers, by simp [Act.put, h.size], ?_, hs, h.fle.trans hF, h.mle.trans hm⟩
    intro k
    have ht : t < a.tmps.size := by rw [h.size]; exact hd t rfl
    simp only [updO, Act.put]
    by_cases hk : k = t
    · subst hk
      simp [ht]; exact hr
    · have : (a.tmps.setIfInBounds t u).getD k undef = a.tmps.getD k undef := by
        simp [Array.getElem?_setIfInBounds_ne (Ne.symm hk)]
      rw [this]; simp only [hk, if_false]
      exact (h.env k).mono hF hm
end Go.Av
namespace Go.Av
variable [Go.Av.DoorC]
open Go.RowKit
def Fin (cx : Ctx) (E : Nat → AV) (d : Option Nat) (K : AV → List Blk → Prop) (F : Fz) (m : List Ent) : Act → World → Prop :=
  fun a' w' => ∃ F' m' v H', K v H' ∧ FLe F F' ∧ MLe m m' ∧ St cx F' m' (updO E d v) H' a' w'
section
variable {P : Program} {cx : Ctx} {F : Fz} {m : List Ent} {E : Nat → AV} {H : List Blk} {a : Act} {w : World} {o : Oper} {K : AV → List Blk → Prop} {Q : Exit → Act → World → Prop}
theorem snd_val (hs : St cx F m E H a w) (hd : ∀ t, o.dst = some t → t < cx.n) {u : Value} {w' : World} (hrun : (execOp a.eval o).run P w = .ok (.value u) w') {F' : Fz} {m' : List Ent} {H' : List Blk} {v : AV}
    (hF : FLe F F') (hm : MLe m m') (hsim : Sim cx.B cx.W0 F' m' H' w') (hr : Rel F' m' v u) (hK : K v H') : o.wp P a w (Fin cx E o.dst K F m) Q := by
  unfold Oper.wp
  rw [hrun]
  exact ⟨F', m', v, H', hK, hF, hm, hs.put hF hm hsim hd hr⟩
theorem snd_pure (hs : St cx F m E H a w) (hd : ∀ t, o.dst = some t → t < cx.n) {u : Value} (hrun : (execOp a.eval o).run P w = .ok (.value u) w) {v : AV}
    (hr : Rel F m v u) (hK : K v H) : o.wp P a w (Fin cx E o.dst K F m) Q :=
  snd_val hs hd hrun (FLe.refl _) (MLe.refl _) hs.sim hr hK
theorem snd_skip (hs : St cx F m E H a w) (hd : ∀ t, o.dst = some t → t < cx.n) {w' : World} (hrun : (execOp a.eval o).run P w = .ok .skip w') {H' : List Blk}
    (hsim : Sim cx.B cx.W0 F m H' w') (hK : K (.lit undef) H') : o.wp P a w (Fin cx E o.dst K F m) Q := by
  unfold Oper.wp
  rw [hrun]
  exact ⟨F, m, .lit undef, H', hK, FLe.refl _, MLe.refl _, hs.put (FLe.refl _) (MLe.refl _) hsim hd (.lit _)⟩
theorem Rel.lit_inv {F : Fz} {m : List Ent} {u v : Value} (h : Rel F m (.lit u) v) : v = u := by cases h; rfl
theorem snd_mv (hs : St cx F m E H a w) (hd : ∀ t, o.dst = some t → t < cx.n) {x : Operand} (ho : o.op = .move x ∨ o.op = .assign x) (hk : K (ev E x) H) : o.wp P a w (Fin cx E o.dst K F m) Q := by
  refine snd_pure hs hd (u := a.eval x) ?_ (hs.ev x) hk
  rcases ho with ho | ho <;> simp [execOp, ho]
theorem snd_pick (hs : St cx F m E H a w) (hd : ∀ t, o.dst = some t → t < cx.n) {c x y : Operand} (ho : o.op = .pick c x y) {t : Bool} (hc : ev E c = .lit (.bool t))
    (hk : K (if t then ev E x else ev E y) H) : o.wp P a w (Fin cx E o.dst K F m) Q := by
  have h1 := hs.ev c
  rw [hc] at h1
  have h2 := h1.lit_inv
  refine snd_pure hs hd (u := if t then a.eval x else a.eval y) ?_ (v := if t then ev E x else ev E y) ?_ hk
  · cases t <;> simp [execOp, ho, h2, asBool]
  · cases t
    · exact hs.ev y
    · exact hs.ev x
theorem snd_bin (hs : St cx F m E H a w) (hd : ∀ t, o.dst = some t → t < cx.n) {op : BinOp} {t t' : TypeId} {x y : Operand} (ho : o.op = .binOp op t x y t')
    (hk : swpBin op (ev E x) (ev E y) fun v => K v H) : o.wp P a w (Fin cx E o.dst K F m) Q := by
  have h1 := hs.ev x
  have h2 := hs.ev y
  unfold swpBin at hk
  split at hk
  · rename_i k n k' n' e1 e2
    rw [e1] at h1; rw [e2] at h2
    have g1 := h1.lit_inv
    have g2 := h2.lit_inv
    cases op <;> simp only at hk
    case add => obtain ⟨rfl, hk⟩ := hk; exact snd_pure hs hd (by simp [execOp, ho, g1, g2, eqGuard, binOp, Op.intArith]) (.lit _) hk
    case sub => obtain ⟨rfl, hk⟩ := hk; exact snd_pure hs hd (by simp [execOp, ho, g1, g2, eqGuard, binOp, Op.intArith]) (.lit _) hk
    case mul => obtain ⟨rfl, hk⟩ := hk; exact snd_pure hs hd (by simp [execOp, ho, g1, g2, eqGuard, binOp, Op.intArith]) (.lit _) hk
    case quo => obtain ⟨rfl, hk⟩ := hk; exact snd_pure hs hd (by simp [execOp, ho, g1, g2, eqGuard, binOp, Op.intDiv, hk.1]) (.lit _) hk.2
    case rem => obtain ⟨rfl, hk⟩ := hk; exact snd_pure hs hd (by simp [execOp, ho, g1, g2, eqGuard, binOp, Op.intDiv, hk.1]) (.lit _) hk.2
    case eql => obtain ⟨rfl, hk⟩ := hk; exact snd_pure hs hd (by simp [execOp, ho, g1, g2, eqGuard, binOp, Op.intCmp]) (.lit _) hk
    case neq => obtain ⟨rfl, hk⟩ := hk; exact snd_pure hs hd (by simp [execOp, ho, g1, g2, eqGuard, binOp, Op.intCmp]) (.lit _) hk
    case lss => obtain ⟨rfl, hk⟩ := hk; exact snd_pure hs hd (by simp [execOp, ho, g1, g2, eqGuard, binOp, Op.intCmp]) (.lit _) hk
    case leq => obtain ⟨rfl, hk⟩ := hk; exact snd_pure hs hd (by simp [execOp, ho, g1, g2, eqGuard, binOp, Op.intCmp]) (.lit _) hk
    case gtr => obtain ⟨rfl, hk⟩ := hk; exact snd_pure hs hd (by simp [execOp, ho, g1, g2, eqGuard, binOp, Op.intCmp]) (.lit _) hk
    case geq => obtain ⟨rfl, hk⟩ := hk; exact snd_pure hs hd (by simp [execOp, ho, g1, g2, eqGuard, binOp, Op.intCmp]) (.lit _) hk
    case shl => exact snd_pure hs hd (by simp [execOp, ho, g1, g2, eqGuard, binOp, Op.shift, show ¬ n' < 0 by omega]) (.lit _) hk.2
    case shr => exact snd_pure hs hd (by simp [execOp, ho, g1, g2, eqGuard, binOp, Op.shift, show ¬ n' < 0 by omega]) (.lit _) hk.2
    case and => obtain ⟨rfl, hk⟩ := hk; exact snd_pure hs hd (by simp [execOp, ho, g1, g2, eqGuard, binOp, Op.intBits]) (.lit _) hk
    case or => obtain ⟨rfl, hk⟩ := hk; exact snd_pure hs hd (by simp [execOp, ho, g1, g2, eqGuard, binOp, Op.intBits]) (.lit _) hk
    case xor => obtain ⟨rfl, hk⟩ := hk; exact snd_pure hs hd (by simp [execOp, ho, g1, g2, eqGuard, binOp, Op.intBits]) (.lit _) hk
    case andNot => obtain ⟨rfl, hk⟩ := hk; exact snd_pure hs hd (by simp [execOp, ho, g1, g2, eqGuard, binOp, Op.intBits]) (.lit _) hk
  · exact hk.elim
theorem equal_bool (t : TypeId) (ht : P.underlying t = some .bool) (b b' : Bool) (w : World) : (Op.equal t (.bool b) (.bool b')).run P w = .ok (b == b') w := by
  show (Op.equalIn (9999 + 1) t (.bool b) (.bool b')).run P w = _
  unfold Op.equalIn
  simp [run_underlying ht]
theorem snd_binb (hs : St cx F m E H a w) (hd : ∀ t, o.dst = some t → t < cx.n) {neg : Bool} {t t' : TypeId} {x y : Operand} (ho : o.op = .binOp (if neg then .neq else .eql) t x y t') (ht : P.underlying t = some .bool)
    {b b' : Bool} (e1 : ev E x = .lit (.bool b)) (e2 : ev E y = .lit (.bool b')) (hk : K (Bv (if neg then b != b' else b == b')) H) : o.wp P a w (Fin cx E o.dst K F m) Q := by
  have h1 := hs.ev x
  have h2 := hs.ev y
  rw [e1] at h1; rw [e2] at h2
  have g1 := h1.lit_inv
  have g2 := h2.lit_inv
  cases neg
  · exact snd_pure hs hd (u := .bool (b == b')) (by simp [execOp, ho, g1, g2, eqGuard, binOp, equal_bool t ht]) (.lit _) hk
  · exact snd_pure hs hd (u := .bool (!(b == b'))) (by simp [execOp, ho, g1, g2, eqGuard, binOp, equal_bool t ht]) (.lit _) hk
theorem sopW_some {o : Option AV} {K : AV → Prop} (h : sopW o K) : ∃ v, o = some v ∧ K v := by
  cases o with
  | none => exact h.elim
  | some v => exact ⟨v, rfl, h⟩
theorem snd_sadd (hs : St cx F m E H a w) (hd : ∀ t, o.dst = some t → t < cx.n) {t t' : TypeId} {x y : Operand} (ho : o.op = .binOp .add t x y t') (hk : sopW (sopV .add [ev E x, ev E y]) fun v => K v H) : o.wp P a w (Fin cx E o.dst K F m) Q := by
  obtain ⟨v, hv, hk⟩ := sopW_some hk
  have h1 := hs.ev x
  have h2 := hs.ev y
  simp only [sopV] at hv
  split at hv
  · rename_i b c heq
    simp only [List.cons.injEq, and_true] at heq
    obtain ⟨e1, e2⟩ := heq
    rw [e1] at h1; rw [e2] at h2
    have g1 := h1.lit_inv
    have g2 := h2.lit_inv
    split at hv
    · rename_i hl
      simp only [Option.some.injEq] at hv; subst hv
      have hl2 : ¬ (9223372036854775807 : Int) < (b.size : Int) + (c.size : Int) := by omega
      exact snd_pure hs hd (u := .string (b ++ c)) (by simp [execOp, ho, g1, g2, eqGuard, binOp, Op.stringOp, IntKind.max, IntKind.signed, IntKind.bits, hl2]) (.lit _) hk
    · cases hv
  · cases hv
theorem snd_seql (hs : St cx F m E H a w) (hd : ∀ t, o.dst = some t → t < cx.n) {neg : Bool} {t t' : TypeId} {x y : Operand} (ho : o.op = .binOp (if neg then .neq else .eql) t x y t') (hk : sopW (sopV (.eql neg) [ev E x, ev E y]) fun v => K v H) : o.wp P a w (Fin cx E o.dst K F m) Q := by
  obtain ⟨v, hv, hk⟩ := sopW_some hk
  have h1 := hs.ev x
  have h2 := hs.ev y
  simp only [sopV] at hv
  split at hv
  · rename_i b c heq
    simp only [List.cons.injEq, and_true] at heq
    obtain ⟨e1, e2⟩ := heq
    rw [e1] at h1; rw [e2] at h2
    have g1 := h1.lit_inv
    have g2 := h2.lit_inv
    simp only [Option.some.injEq] at hv; subst hv
    have q : (b.toList == c.toList) = decide (b.toList = c.toList) := by by_cases h : b.toList = c.toList <;> simp [h]
    cases neg
    · exact snd_pure hs hd (u := .bool (b.toList == c.toList)) (by simp [execOp, ho, g1, g2, eqGuard, binOp, Op.stringOp]) (.lit _) (by rw [q]; exact hk)
    · exact snd_pure hs hd (u := .bool (!(b.toList == c.toList))) (by simp [execOp, ho, g1, g2, eqGuard, binOp, Op.stringOp]) (.lit _) (by rw [q]; exact hk)
  · cases hv
theorem equal_iface (t : TypeId) (ms : Array (String × TypeId)) (ht : P.underlying t = some (.interface ms)) (v : Value) (b : Bool) (hv : (v = .nilIface ∧ b = true) ∨ ((∃ q z, v = .iface q z) ∧ b = false)) (w : World) : (Op.equal t v .nilIface).run P w = .ok b w := by
  show (Op.equalIn (9999 + 1) t v .nilIface).run P w = _
  unfold Op.equalIn
  rcases hv with ⟨rfl, rfl⟩ | ⟨⟨q, z, rfl⟩, rfl⟩ <;> simp [run_underlying ht]
theorem snd_snil (hs : St cx F m E H a w) (hd : ∀ t, o.dst = some t → t < cx.n) {neg : Bool} {t t' : TypeId} {x : Operand} (ho : o.op = .binOp (if neg then .neq else .eql) t x (.const .nilIface) t') {ms : Array (String × TypeId)} (ht : P.underlying t = some (.interface ms)) (hk : sopW (sopV (.nil neg) [ev E x]) fun v => K v H) : o.wp P a w (Fin cx E o.dst K F m) Q := by
  obtain ⟨v, hv, hk⟩ := sopW_some hk
  have h1 := hs.ev x
  have g2 : a.eval (.const .nilIface) = .nilIface := rfl
  simp only [sopV] at hv
  split at hv
  · rename_i heq
    simp only [List.cons.injEq, and_true] at heq
    have e1 := heq
    rw [e1] at h1
    have g1 := h1.lit_inv
    simp only [Option.some.injEq] at hv; subst hv
    have := equal_iface (P := P) t ms ht .nilIface true (.inl ⟨rfl, rfl⟩)
    cases neg
    · exact snd_pure hs hd (u := .bool true) (by simp [execOp, ho, g1, g2, eqGuard, binOp, this]) (.lit _) hk
    · exact snd_pure hs hd (u := .bool false) (by simp [execOp, ho, g1, g2, eqGuard, binOp, this]) (.lit _) hk
  · rename_i q z heq
    simp only [List.cons.injEq, and_true] at heq
    have e1 := heq
    rw [e1] at h1
    have g1 := h1.lit_inv
    simp only [Option.some.injEq] at hv; subst hv
    have := equal_iface (P := P) t ms ht (.iface q z) false (.inr ⟨⟨q, z, rfl⟩, rfl⟩)
    cases neg
    · exact snd_pure hs hd (u := .bool false) (by simp [execOp, ho, g1, g2, eqGuard, binOp, this]) (.lit _) hk
    · exact snd_pure hs hd (u := .bool true) (by simp [execOp, ho, g1, g2, eqGuard, binOp, this]) (.lit _) hk
  · cases hv
theorem snd_sidx (hs : St cx F m E H a w) (hd : ∀ t, o.dst = some t → t < cx.n) {t : TypeId} {x y : Operand} (ho : o.op = .index t x y) (ht : P.underlying t = some .string) (hk : sopW (sopV .idx [ev E x, ev E y]) fun v => K v H) : o.wp P a w (Fin cx E o.dst K F m) Q := by
  obtain ⟨v, hv, hk⟩ := sopW_some hk
  have h1 := hs.ev x
  have h2 := hs.ev y
  simp only [sopV] at hv
  split at hv
  · rename_i b k i heq
    simp only [List.cons.injEq, and_true] at heq
    obtain ⟨e1, e2⟩ := heq
    rw [e1] at h1; rw [e2] at h2
    have g1 := h1.lit_inv
    have g2 := h2.lit_inv
    split at hv
    · rename_i h0
      cases hb : b[i.toNat]? with
      | none => rw [hb] at hv; cases hv
      | some c =>
        rw [hb] at hv
        simp only [Option.map_some, Option.some.injEq] at hv; subst hv
        exact snd_pure hs hd (u := .int .u8 c.toNat) (by simp [execOp, ho, g1, g2, Instr.index, asIntOf, run_underlying ht, h0, hb]) (.lit _) hk
    · cases hv
  · cases hv
theorem sliceBound_ok (k : IntKind) (i : Int) (y : Nat) (c : BoundsCode) (h0 : 0 ≤ i) (h1 : i ≤ y) (w : World) : (Instr.sliceBound (.int k i) y c).run P w = .ok i.toNat w := by simp [Instr.sliceBound, asIntOf, h0, h1]
theorem snd_sslc (hs : St cx F m E H a w) (hd : ∀ t, o.dst = some t → t < cx.n) {t : TypeId} {x : Operand} {lo hi : Option Operand} (ho : o.op = .slice t x lo hi none) (ht : P.underlying t = some .string) (hk : sopW (sopV (.slc lo.isSome hi.isSome) (ev E x :: (lo.toList ++ hi.toList).map (ev E))) fun v => K v H) : o.wp P a w (Fin cx E o.dst K F m) Q := by
  obtain ⟨v, hv, hk⟩ := sopW_some hk
  have h1 := hs.ev x
  cases lo with
  | none =>
    cases hi with
    | none =>
      simp [sopV] at hv
    | some y =>
      have h2 := hs.ev y
      simp only [sopV, Option.toList_none, Option.toList_some, List.nil_append, List.map_cons, List.map_nil, Option.isSome_none, Option.isSome_some] at hv
      split at hv
      · rename_i heq; simp at heq
      · rename_i b k i heq
        simp only [List.cons.injEq, and_true] at heq
        obtain ⟨e1, e2⟩ := heq
        rw [e1] at h1; rw [e2] at h2
        have g1 := h1.lit_inv
        have g2 := h2.lit_inv
        simp only [Bool.false_eq_true, false_and, if_false, true_and] at hv
        split at hv
        · rename_i hc
          simp only [Option.some.injEq] at hv; subst hv
          exact snd_pure hs hd (u := .string (b.extract 0 i.toNat)) (by simp [execOp, ho, g1, g2, Instr.sliceAt, Instr.slice, Instr.sliceBounds, run_underlying ht, sliceBound_ok _ _ _ _ hc.1 hc.2]) (.lit _) hk
        · cases hv
      · cases hv
  | some z =>
    have h3 := hs.ev z
    cases hi with
    | none =>
      simp only [sopV, Option.toList_none, Option.toList_some, List.append_nil, List.map_cons, List.map_nil, Option.isSome_none, Option.isSome_some] at hv
      split at hv
      · rename_i heq; simp at heq
      · rename_i b k i heq
        simp only [List.cons.injEq, and_true] at heq
        obtain ⟨e1, e2⟩ := heq
        rw [e1] at h1; rw [e2] at h3
        have g1 := h1.lit_inv
        have g2 := h3.lit_inv
        simp only [true_and, Bool.true_eq_false, false_and, if_false] at hv
        split at hv
        · rename_i hc
          simp only [Option.some.injEq] at hv; subst hv
          exact snd_pure hs hd (u := .string (b.extract i.toNat b.size)) (by simp [execOp, ho, g1, g2, Instr.sliceAt, Instr.slice, Instr.sliceBounds, run_underlying ht, sliceBound_ok _ _ _ _ hc.1 hc.2]) (.lit _) hk
        · cases hv
      · cases hv
    | some y =>
      have h2 := hs.ev y
      simp only [sopV, Option.toList_some, List.cons_append, List.nil_append, List.map_cons, List.map_nil, Option.isSome_some] at hv
      split at hv
      · rename_i b k l k' h heq
        simp only [List.cons.injEq, and_true] at heq
        obtain ⟨e1, e2, e3⟩ := heq
        rw [e1] at h1; rw [e2] at h3; rw [e3] at h2
        have g1 := h1.lit_inv
        have g2 := h2.lit_inv
        have g3 := h3.lit_inv
        simp only [true_and] at hv
        split at hv
        · rename_i hc
          simp only [Option.some.injEq] at hv; subst hv
          exact snd_pure hs hd (u := .string (b.extract l.toNat h.toNat)) (by simp [execOp, ho, g1, g2, g3, Instr.sliceAt, Instr.slice, Instr.sliceBounds, run_underlying ht, sliceBound_ok _ _ _ _ (show 0 ≤ h by omega) hc.2.2, sliceBound_ok _ l h.toNat _ hc.1 (by omega)]) (.lit _) hk
        · cases hv
      · rename_i heq; simp at heq
      · cases hv
theorem equal_slice_nil (t e : TypeId) (ht : P.underlying t = some (.slice e)) (a : Option Addr) (l c : Nat) (w : World) : (Op.equal t (.slice a l c) (.slice none 0 0)).run P w = .ok a.isNone w := by
  show (Op.equalIn (9999 + 1) t (.slice a l c) (.slice none 0 0)).run P w = _
  unfold Op.equalIn
  cases a <;> simp [run_underlying ht]
theorem snd_isnil (hs : St cx F m E H a w) (hd : ∀ t, o.dst = some t → t < cx.n) {neg : Bool} {t t' e : TypeId} {x : Operand} (ho : o.op = .binOp (if neg then .neq else .eql) t x (.const (.slice none 0 0)) t') (ht : P.underlying t = some (.slice e))
    {n : Nat} {cells : List AV} (hv : aview H (ev E x) = some (n, cells)) (hk : ∀ b : Bool, (b = true → n = 0) → K (Bv (if neg then !b else b)) H) : o.wp P a w (Fin cx E o.dst K F m) Q := by
  obtain ⟨hn, hcase⟩ := aview_sound hs.sim (hs.ev x) hv
  have hsl : ∃ q n' cap, a.eval x = .slice q n' cap ∧ (q.isNone = true → n = 0) := by
    rcases hcase with ⟨b, of, cap, vs, hval, hnc, _⟩ | ⟨⟨q, hval⟩, hn0, _⟩
    · exact ⟨_, _, _, hval, fun h => by simp at h⟩
    · exact ⟨_, _, _, hval, fun _ => hn0⟩
  obtain ⟨q, n', cap, hval, hq⟩ := hsl
  have g2 : a.eval (.const (.slice none 0 0)) = .slice none 0 0 := rfl
  cases neg
  · exact snd_pure hs hd (u := .bool q.isNone) (by simp [execOp, ho, hval, g2, eqGuard, binOp, equal_slice_nil t e ht]) (.lit _) (hk q.isNone hq)
  · exact snd_pure hs hd (u := .bool (!q.isNone)) (by simp [execOp, ho, hval, g2, eqGuard, binOp, equal_slice_nil t e ht]) (.lit _) (hk q.isNone hq)
theorem snd_not (hs : St cx F m E H a w) (hd : ∀ t, o.dst = some t → t < cx.n) {t : TypeId} {x : Operand} (ho : o.op = .unOp .not t x) {b : Bool} (e1 : ev E x = .lit (.bool b))
    (hk : K (Bv (!b)) H) : o.wp P a w (Fin cx E o.dst K F m) Q := by
  have h1 := hs.ev x
  rw [e1] at h1
  have g1 := h1.lit_inv
  exact snd_pure hs hd (u := .bool (!b)) (by simp [execOp, ho, g1, Op.unary]) (.lit _) hk
theorem snd_neg (hs : St cx F m E H a w) (hd : ∀ t, o.dst = some t → t < cx.n) {t : TypeId} {x : Operand} (ho : o.op = .unOp .neg t x) {k : IntKind} {n : Int} (e1 : ev E x = .lit (.int k n))
    (hk : K (.lit (.int k (k.wrap (0 - n)))) H) : o.wp P a w (Fin cx E o.dst K F m) Q := by
  have h1 := hs.ev x
  rw [e1] at h1
  have g1 := h1.lit_inv
  exact snd_pure hs hd (u := .int k (k.wrap (0 - n))) (by simp [execOp, ho, g1, Op.unary, Op.intArith]) (.lit _) hk
theorem run_typeInfo {t : TypeId} {i : TypeInfo} (h : P.info? t = some i) (w : World) : (typeInfo t).run P w = .ok i w := by simp [typeInfo, h]
theorem run_sizeOf' {t : TypeId} {i : TypeInfo} (h : P.info? t = some i) (w : World) : (sizeOf t).run P w = .ok i.size w := by simp [sizeOf, run_typeInfo h]
theorem run_zeroValue' {t : TypeId} {i : TypeInfo} {z : Value} (h : P.info? t = some i) (hz : i.zero = some z) (w : World) : (zeroValue t).run P w = .ok z w := by simp [zeroValue, run_typeInfo h, hz]
theorem run_isAgg' {t : TypeId} {d : TypeDesc} (h : P.underlying t = some d) (w : World) : (isAgg t).run P w = .ok (isAggD d) w := by
  cases d <;> simp [isAgg, run_underlying h, isAggD]
def isPairI (P : Program) (t : TypeId) (fs : Array Field) : Bool := match fs.toList with
  | [f, g] => (match P.underlying f.type, P.underlying g.type with
    | some (.int .i64), some (.int .i64) => true
    | _, _ => false) && f.offset == 0 && g.offset == 1 && !(f.name == "_") && !(g.name == "_") && !P.eqGuardType P.depth t && !P.stoodInHeld t
  | _ => false
theorem isPairI_facts {P : Program} {t : TypeId} {fs : Array Field} (h : isPairI P t fs = true) : ∃ f g, fs.toList = [f, g] ∧ P.underlying f.type = some (.int .i64) ∧ P.underlying g.type = some (.int .i64) ∧ f.offset = 0 ∧ g.offset = 1 ∧ f.name ≠ "_" ∧ g.name ≠ "_" ∧ P.eqGuardType P.depth t = false ∧ P.stoodInHeld t = false := by
  unfold isPairI at h
  split at h
  · rename_i f g hfg
    simp only [Bool.and_eq_true, Bool.not_eq_true', beq_iff_eq] at h
    obtain ⟨⟨⟨⟨⟨⟨h1, h2⟩, h3⟩, h4⟩, h5⟩, h6⟩, h7⟩ := h
    split at h1
    · rename_i e1 e2
      exact ⟨f, g, hfg, e1, e2, h2, h3, by simpa using h4, by simpa using h5, h6, h7⟩
    · cases h1
  · cases h
theorem run_isAgg_i64 {t : TypeId} (h : P.underlying t = some (.int .i64)) (w : World) : (isAgg t).run P w = .ok false w := run_isAgg' h w
theorem equal_pair {t : TypeId} {fs : Array Field} (hu : P.underlying t = some (.struct fs)) (hp : isPairI P t fs = true) (a b c d : Int) (w : World) :
    (Op.equalIn 10000 t (.agg #[.int .i64 a, .int .i64 b]) (.agg #[.int .i64 c, .int .i64 d])).run P w = .ok (decide (a = c) && decide (b = d)) w := by
  obtain ⟨f, g, hfg, e1, e2, o1, o2, n1, n2, -, hs⟩ := isPairI_facts hp
  have hf : P.fieldsOf t = fs := by simp [Program.fieldsOf, hu]
  rw [run_equalIn_agg w 9999 t _ _ (by rw [hf]; exact hu) hs, hf, hfg]
  have q1 : ∀ (x y : Int), (x == y) = decide (x = y) := fun x y => by by_cases h : x = y <;> simp [h]
  have p1 : ∀ (xs : Array Value) (v : Value) (w : World), xs[f.offset]? = some v → (part f.type xs f.offset).run P w = .ok v w := fun xs v w h => by simp [part, run_isAgg_i64 e1, h]
  have p2 : ∀ (xs : Array Value) (v : Value) (w : World), xs[g.offset]? = some v → (part g.type xs g.offset).run P w = .ok v w := fun xs v w h => by simp [part, run_isAgg_i64 e2, h]
  simp only [Op.eqFields, n1, n2, ne_eq, not_false_eq_true, if_true, Sem.run_bind]
  rw [p1 #[.int .i64 a, .int .i64 b] (.int .i64 a) w (by rw [o1]; rfl), Result.andThen_ok, p1 #[.int .i64 c, .int .i64 d] (.int .i64 c) w (by rw [o1]; rfl), Result.andThen_ok, run_equalIn_int w 9998 _ _ _ _ _ e1, Result.andThen_ok, q1]
  by_cases h : a = c
  · simp only [h, decide_true, Bool.not_true, Bool.false_eq_true, if_false, Sem.run_bind, Bool.true_and]
    rw [p2 #[.int .i64 c, .int .i64 b] (.int .i64 b) w (by rw [o2]; rfl), Result.andThen_ok, p2 #[.int .i64 c, .int .i64 d] (.int .i64 d) w (by rw [o2]; rfl), Result.andThen_ok, run_equalIn_int w 9998 _ _ _ _ _ e2, Result.andThen_ok, q1]
    by_cases h' : b = d <;> simp [h']
  · simp [h]
theorem Rel.pair_inv {F : Fz} {m : List Ent} {a b : Int} {v : Value} (h : Rel F m (.agg [.lit (.int .i64 a), .lit (.int .i64 b)]) v) : v = .agg #[.int .i64 a, .int .i64 b] := by
  cases h with
  | agg cs vs h1 h2 =>
    match vs, h1 with
    | [x, y], _ =>
      have e1 := (h2 0 _ x rfl rfl).lit_inv
      have e2 := (h2 1 _ y rfl rfl).lit_inv
      subst e1; subst e2; rfl
theorem snd_eqs (hs : St cx F m E H a w) (hd : ∀ t, o.dst = some t → t < cx.n) {neg : Bool} {t t' : TypeId} {x y : Operand} (ho : o.op = .binOp (if neg then .neq else .eql) t x y t') {fs : Array Field} (hu : P.underlying t = some (.struct fs)) (hp : isPairI P t fs = true)
    {i j k l : Int} (e1 : ev E x = .agg [.lit (.int .i64 i), .lit (.int .i64 j)]) (e2 : ev E y = .agg [.lit (.int .i64 k), .lit (.int .i64 l)]) (hk : K (Bv (if neg then !(decide (i = k) && decide (j = l)) else (decide (i = k) && decide (j = l)))) H) : o.wp P a w (Fin cx E o.dst K F m) Q := by
  have h1 := hs.ev x
  have h2 := hs.ev y
  rw [e1] at h1; rw [e2] at h2
  have g1 := h1.pair_inv
  have g2 := h2.pair_inv
  have hg := (isPairI_facts hp).choose_spec.choose_spec.2.2.2.2.2.2.2.1
  cases neg
  · exact snd_pure hs hd (u := .bool (decide (i = k) && decide (j = l))) (by simp [execOp, ho, g1, g2, run_eqGuard_agg w _ t _ _ _ _ hg, run_eql_struct, equal_pair hu hp]) (.lit _) hk
  · exact snd_pure hs hd (u := .bool (!(decide (i = k) && decide (j = l)))) (by simp [execOp, ho, g1, g2, run_eqGuard_agg w _ t _ _ _ _ hg, run_neq_struct, equal_pair hu hp]) (.lit _) hk
theorem snd_load (hs : St cx F m E H a w) (hd : ∀ t, o.dst = some t → t < cx.n) {t : TypeId} {x : Operand} (ho : o.op = .load t x) {i : TypeInfo} {d : TypeDesc} (hi : P.info? t = some i) (hu : P.underlying t = some d)
    {c : Nat} {agg : Bool} (ha : isAggD d = agg) (hc : c = if agg then i.size else 1) (hc0 : 0 < c) {cs : List AV} (hcs : acells H c (ev E x) = some cs)
    (hk : if agg then K (.agg cs) H else ∃ y, cs = [y] ∧ K y H) : o.wp P a w (Fin cx E o.dst K F m) Q := by
  obtain ⟨b, of, vs, hp, hrels, hlen, hcells⟩ := acells_sound hs.sim (hs.ev x) hcs hc0
  cases agg
  · simp only [Bool.false_eq_true, if_false] at hk hc
    obtain ⟨y, rfl, hk⟩ := hk
    obtain ⟨v, vs', rfl, hrv, hrs⟩ := hrels.inv_cons
    have := hrs.inv_nil; subst this
    have h0 := (hcells 0 v (by simp)).1
    rw [Nat.add_zero] at h0
    refine snd_pure hs hd (u := v) ?_ hrv hk
    simp [execOp, ho, hp, Instr.loadAt, Instr.sureAddr, loadVar, run_isAgg' hu, ha, h0]
  · simp only [if_true] at hk hc
    refine snd_pure hs hd (u := .agg vs.toArray) ?_ (.agg cs vs hrels.1 hrels.2) hk
    have hlv : vs.length = i.size := by rw [← hrels.1, hlen, hc]
    have hrun := run_loadCells_list (P := P) w ⟨b, of, none⟩ vs (fun j v hj => by rw [Addr.add_none]; exact (hcells j v hj).1)
    rw [hlv] at hrun
    simp [execOp, ho, hp, Instr.loadAt, Instr.sureAddr, loadVar, run_isAgg' hu, ha, run_sizeOf' hi, hrun]
theorem Rel.parts {c : AV} {v : Value} (h : Rel F m c v) (hall : (partsOf c).all AV.cell1 = true) : Rels F m (partsOf c) v.cells.toList := by
  cases h with
  | agg cs vs h1 h2 => exact ⟨h1, h2⟩
  | lit v =>
    simp [partsOf, AV.cell1] at hall
    have : v.cells.toList = [v] := by cases v <;> simp_all [Value.cells, Value.oneCell']
    rw [this]; exact Rels.cons (.lit v) (Rels.nil _ _)
  | junk v => simp [partsOf, AV.cell1] at hall
  | tup cs vs => simp [partsOf, AV.cell1] at hall
  | il0 => exact Rels.cons .il0 (Rels.nil _ _)
  | il1 ad => exact Rels.cons (.il1 ad) (Rels.nil _ _)
  | il len cells b o cap vs h1 h2 h3 h4 h5 => exact Rels.cons (.il len cells b o cap vs h1 h2 h3 h4 h5) (Rels.nil _ _)
  | nm i ver off len e a n cap h1 h2 h3 => exact Rels.cons (.nm i ver off len e a n cap h1 h2 h3) (Rels.nil _ _)
  | pc i ver off e p h1 h2 h3 => exact Rels.cons (.pc i ver off e p h1 h2 h3) (Rels.nil _ _)
  | mp i ver e p h1 h2 h3 => exact Rels.cons (.mp i ver e p h1 h2 h3) (Rels.nil _ _)
  | el s k sv p h1 h2 => exact Rels.cons (.el s k sv p h1 h2) (Rels.nil _ _)
  | fn f cs vs h1 h2 => exact Rels.cons (.fn f cs vs h1 h2) (Rels.nil _ _)
theorem snd_store (hs : St cx F m E H a w) (hd : ∀ t, o.dst = some t → t < cx.n) {t : TypeId} {x y : Operand} (ho : o.op = .store t x y) {i : TypeInfo} (hi : P.info? t = some i) (hc0 : 0 < i.size)
    (hl : (partsOf (ev E y)).length = i.size) (h1 : (partsOf (ev E y)).all AV.cell1 = true) {H' : List Blk} (hst : astore H (partsOf (ev E y)) (ev E x) = some H')
    (hk : K (.lit undef) H') : o.wp P a w (Fin cx E o.dst K F m) Q := by
  have hp := (hs.ev y).parts h1
  obtain ⟨ad, w', hv, hrun, hsim⟩ := astore_sound (P := P) hs.sim (hs.ev x) hst hp (fun c hc => List.all_eq_true.1 h1 c hc) (by omega)
  refine snd_skip hs hd (w' := w') ?_ hsim hk
  have hsz : (a.eval y).cells.size = i.size := by
    rw [← Array.length_toList, ← hp.1, hl]
  simp [execOp, ho, hv, Instr.storeAt, Instr.sureAddr, storeVar, run_sizeOf' hi, hsz, hrun]
theorem alive_ptr (hs : St cx F m E H a w) {c : AV} {v : Value} (hr : Rel F m c v) (ha : alive H c) : ∃ p, v = .pointer (some p) := by
  cases hr with
  | pc i ver off e p h1 h2 h3 =>
    obtain ⟨k, hk, hv⟩ := ha
    have hok := hs.sim.blk i e k h1 hk
    obtain ⟨b, _, hp, _⟩ := h3 (by rw [hok.1, hv])
    exact ⟨_, by rw [hp]⟩
  | el s k sv p h1 h2 =>
    obtain ⟨n, cells, hv⟩ := ha
    obtain ⟨_, hcase⟩ := aview_sound hs.sim h1 hv
    rcases hcase with ⟨b, o, cap, vs, hval, _⟩ | ⟨_, h0, _⟩
    · exact ⟨_, by rw [h2 _ _ _ hval]⟩
    · omega
  | _ => exact ha.elim
theorem snd_nilc (hs : St cx F m E H a w) (hd : ∀ t, o.dst = some t → t < cx.n) {x : Operand} (ho : o.op = .nilCheck x) (ha : alive H (ev E x)) (hk : K (ev E x) H) : o.wp P a w (Fin cx E o.dst K F m) Q := by
  obtain ⟨p, hp⟩ := alive_ptr hs (hs.ev x) ha
  exact snd_pure hs hd (u := a.eval x) (by simp [execOp, ho, hp]) (hs.ev x) hk
theorem snd_nilc_fn (hs : St cx F m E H a w) (hd : ∀ t, o.dst = some t → t < cx.n) {x : Operand} (ho : o.op = .nilCheck x) {f : FuncId} {cs : List AV} (he : ev E x = .fn f cs) (hk : K (ev E x) H) : o.wp P a w (Fin cx E o.dst K F m) Q := by
  have h1 := hs.ev x
  rw [he] at h1
  cases hx : a.eval x with
  | func fn' first captured =>
    rw [hx] at h1
    cases h1
    exact snd_pure hs hd (u := a.eval x) (by simp [execOp, ho, hx]) (hs.ev x) hk
  | _ => rw [hx] at h1; cases h1
theorem Addr.add_add (p : Addr) (j k : Nat) (hp : p.spot = none) : (p.add j).add k = p.add (j + k) := by
  obtain ⟨b, o, s⟩ := p
  simp at hp; subst hp
  rw [Addr.add_none, Addr.add_none, Addr.add_none, Nat.add_assoc]
theorem snd_faddr (hs : St cx F m E H a w) (hd : ∀ t, o.dst = some t → t < cx.n) {s : TypeId} {x : Operand} {f : Nat} (ho : o.op = .fieldAddr s x f) {fs : Array Field} {fl : Field} {i : TypeInfo} (hu : P.underlying s = some (.struct fs)) (hf : fs[f]? = some fl)
    (hi : P.info? fl.type = some i) (hi0 : i.size ≠ 0) (ha : alive H (ev E x)) {v : AV}
    (hv : (∃ j ver q, ev E x = .pc j ver q ∧ v = .pc j ver (q + fl.offset)) ∨ (∃ s k, ev E x = .el s k ∧ v = .el s (k + fl.offset))) (hk : K v H) : o.wp P a w (Fin cx E o.dst K F m) Q := by
  obtain ⟨p, hp⟩ := alive_ptr hs (hs.ev x) ha
  have hrun : (execOp a.eval o).run P w = .ok (.value (.pointer (some (p.add fl.offset)))) w := by
    simp [execOp, ho, hp, Instr.fieldAt, run_underlying hu, hf, Instr.sureAddr, fieldPlace, run_sizeOf' hi, hi0]
  have h1 := hs.ev x
  rw [hp] at h1
  refine snd_pure hs hd hrun ?_ hk
  rcases hv with ⟨j, ver, q, he, rfl⟩ | ⟨s, k, he, rfl⟩
  · rw [he] at h1
    generalize hp' : (Value.pointer (some p)) = pv at h1
    cases h1 with
    | pc _ _ _ e p' g1 g2 g3 =>
      cases hp'
      refine .pc j ver (q + fl.offset) e _ g1 g2 ?_
      intro hver
      obtain ⟨b, hb, hpp, hnz⟩ := g3 hver
      simp only [Option.some.injEq] at hpp
      exact ⟨b, hb, by rw [hpp, Addr.add_none], hnz⟩
  · rw [he] at h1 ha
    obtain ⟨n, cells, hview⟩ := ha
    generalize hp' : (Value.pointer (some p)) = pv at h1
    cases h1 with
    | el _ _ sv p' g1 g2 =>
      cases hp'
      refine .el s (k + fl.offset) sv _ g1 ?_
      intro ad len cap hsv
      have hpp := g2 ad len cap hsv
      simp only [Option.some.injEq] at hpp
      subst hpp
      obtain ⟨_, hcase⟩ := aview_sound hs.sim g1 hview
      rcases hcase with ⟨b, o, cap, vs, hval, _⟩ | ⟨_, h0, _⟩
      · rw [hval] at hsv
        simp only [Value.slice.injEq, Option.some.injEq] at hsv
        obtain ⟨rfl, _, _⟩ := hsv
        rw [Addr.add_add _ _ _ rfl]
      · omega
theorem snd_iaddr (hs : St cx F m E H a w) (hd : ∀ t, o.dst = some t → t < cx.n) {t : TypeId} {x y : Operand} (ho : o.op = .indexAddr t x y) {e : TypeId} {i : TypeInfo} (hu : P.underlying t = some (.slice e)) (hi : P.info? e = some i)
    {n : Nat} {cells : List AV} (hv : aview H (ev E x) = some (n, cells)) {k : IntKind} {z : Int} (hz : ev E y = .lit (.int k z)) (h0 : 0 ≤ z) (h1 : z < n) (hk : K (.el (ev E x) (z.toNat * i.size)) H) : o.wp P a w (Fin cx E o.dst K F m) Q := by
  have hy := hs.ev y
  rw [hz] at hy
  have hy' := hy.lit_inv
  obtain ⟨_, hcase⟩ := aview_sound hs.sim (hs.ev x) hv
  rcases hcase with ⟨b, of, cap, vs, hval, _⟩ | ⟨_, hn, _⟩
  · refine snd_pure hs hd (u := .pointer (some ((⟨b, of, none⟩ : Addr).add (z.toNat * i.size)))) ?_ (.el _ _ (a.eval x) _ (hs.ev x) ?_) hk
    · simp [execOp, ho, hy', hval, Instr.indexAt, asIntOf, run_underlying hu, h0, h1, run_sizeOf' hi]
    · intro ad len cap hsv
      rw [hval] at hsv
      simp only [Value.slice.injEq, Option.some.injEq] at hsv
      rw [hsv.1]
  · omega
theorem snd_ext (hs : St cx F m E H a w) (hd : ∀ t, o.dst = some t → t < cx.n) {x : Operand} {n : Nat} (ho : o.op = .extract x n) {cs : List AV} (he : ev E x = .tup cs) {v : AV} (hv : cs[n]? = some v) (hk : K v H) : o.wp P a w (Fin cx E o.dst K F m) Q := by
  have h1 := hs.ev x
  rw [he] at h1
  generalize hx : a.eval x = xv at h1
  cases h1 with
  | tup _ vs g1 g2 =>
    have hn : n < vs.length := by rw [← g1]; exact (List.getElem?_eq_some_iff.1 hv).1
    refine snd_pure hs hd (u := vs[n]) ?_ (g2 n v _ hv (List.getElem?_eq_getElem hn)) hk
    simp [execOp, ho, hx, Instr.extract, hn]
theorem snd_len (hs : St cx F m E H a w) (hd : ∀ t, o.dst = some t → t < cx.n) {x : Operand} {t e : TypeId} (ho : o.op = .call { callee := .builtin .len, args := #[x], argTypes := #[t] }) (hu : P.underlying t = some (.slice e))
    {n : Nat} {cells : List AV} (hv : aview H (ev E x) = some (n, cells)) (hk : n ≤ 9223372036854775807 → K (I n) H) : o.wp P a w (Fin cx E o.dst K F m) Q := by
  obtain ⟨hn, hcase⟩ := aview_sound hs.sim (hs.ev x) hv
  have hval : ∃ p cap, a.eval x = .slice p n cap := by
    rcases hcase with ⟨b, of, cap, vs, hval, _⟩ | ⟨⟨q, hval⟩, h0, _⟩
    · exact ⟨_, _, hval⟩
    · exact ⟨_, _, by rw [hval, h0]⟩
  obtain ⟨p, cap, hval⟩ := hval
  refine snd_pure hs hd (u := .int .i64 n) ?_ (.lit _) (hk (by simpa [maxLen] using hn))
  simp [execOp, ho, resolve, invoke, builtin, hval, Builtin.len_, run_underlying hu, goInt]
theorem snd_slen (hs : St cx F m E H a w) (hd : ∀ t, o.dst = some t → t < cx.n) {x : Operand} {t : TypeId} (ho : o.op = .call { callee := .builtin .len, args := #[x], argTypes := #[t] }) (hu : P.underlying t = some .string)
    (hk : sopW (sopV .len [ev E x]) fun v => K v H) : o.wp P a w (Fin cx E o.dst K F m) Q := by
  obtain ⟨v, hv, hk⟩ := sopW_some hk
  have h1 := hs.ev x
  simp only [sopV] at hv
  split at hv
  · rename_i b heq
    simp only [List.cons.injEq, and_true] at heq
    have e1 := heq
    rw [e1] at h1
    have g1 := h1.lit_inv
    simp only [Option.some.injEq] at hv; subst hv
    exact snd_pure hs hd (u := .int .i64 b.size) (by simp [execOp, ho, resolve, invoke, builtin, g1, Builtin.len_, run_underlying hu, goInt]) (.lit _) hk
  · cases hv
theorem snd_field (hs : St cx F m E H a w) (hd : ∀ t, o.dst = some t → t < cx.n) {s : TypeId} {x : Operand} {f : Nat} (ho : o.op = .field s x f) {fs : Array Field} {fl : Field} {i : TypeInfo} {d : TypeDesc} (hu : P.underlying s = some (.struct fs)) (hf : fs[f]? = some fl)
    (hi : P.info? fl.type = some i) (hud : P.underlying fl.type = some d) {cs : List AV} (he : ev E x = .agg cs)
    (hk : if isAggD d then fl.offset + i.size ≤ cs.length ∧ K (.agg ((cs.drop fl.offset).take i.size)) H else match cs[fl.offset]? with | some v => K v H | none => False) : o.wp P a w (Fin cx E o.dst K F m) Q := by
  have h1 := hs.ev x
  rw [he] at h1
  generalize hx : a.eval x = xv at h1
  cases h1 with
  | agg _ vs g1 g2 =>
    by_cases hd' : isAggD d = true
    · rw [if_pos hd'] at hk
      have hr : Rels F m ((cs.drop fl.offset).take i.size) ((vs.drop fl.offset).take i.size) := Rels.take (Rels.drop ⟨g1, g2⟩ _) _
      refine snd_pure hs hd (u := .agg ((vs.drop fl.offset).take i.size).toArray) ?_ (.agg _ _ hr.1 hr.2) hk.2
      simp [execOp, ho, hx, Instr.field, run_underlying hu, hf, asAgg, part, run_isAgg' hud, hd', run_sizeOf' hi]
    · rw [if_neg hd'] at hk
      split at hk
      · rename_i v hv
        have hn : fl.offset < vs.length := by rw [← g1]; exact (List.getElem?_eq_some_iff.1 hv).1
        refine snd_pure hs hd (u := vs[fl.offset]) ?_ (g2 _ v _ hv (List.getElem?_eq_getElem hn)) hk
        simp [execOp, ho, hx, Instr.field, run_underlying hu, hf, asAgg, part, run_isAgg' hud, hd', hn]
      · exact hk.elim
theorem snd_mkf (hs : St cx F m E H a w) (hd : ∀ t, o.dst = some t → t < cx.n) {f : FuncId} {caps : Array Operand} (ho : o.op = .makeFunc (.func f) #[] caps) (hk : K (.fn f (caps.toList.map (ev E))) H) : o.wp P a w (Fin cx E o.dst K F m) Q := by
  have h1 := hs.evs caps.toList
  refine snd_pure hs hd (u := .func (.func f) #[] (caps.toList.map a.eval).toArray) ?_ (.fn _ _ _ h1.1 h1.2) hk
  have : caps.map a.eval = (caps.toList.map a.eval).toArray := by apply Array.ext'; simp
  simp [execOp, ho, Instr.makeFunc, this]
theorem snd_conv (hs : St cx F m E H a w) (hd : ∀ t, o.dst = some t → t < cx.n) {src dst : TypeId} {x : Operand} (ho : o.op = .convert src dst x) {k k' : IntKind} (hsrc : P.underlying src = some (.int k')) (hdst : P.underlying dst = some (.int k)) {z : IntKind} {n : Int} (he : ev E x = .lit (.int z n))
    (hk : K (.lit (.int k (k.wrap n))) H) : o.wp P a w (Fin cx E o.dst K F m) Q := by
  have h1 := hs.ev x
  rw [he] at h1
  have g1 := h1.lit_inv
  exact snd_pure hs hd (by simp [execOp, ho, g1, convert, run_underlying hsrc, run_underlying hdst, Conv.intToInt]) (.lit _) hk
theorem snd_mm (hs : St cx F m E H a w) (hd : ∀ t, o.dst = some t → t < cx.n) {mx : Bool} {x y : Operand} {ts : Array TypeId} (ho : o.op = .call { callee := .builtin (if mx then .max else .min), args := #[x, y], argTypes := ts }) {k k' : IntKind} {n z : Int} (he : ev E x = .lit (.int k n)) (hz : ev E y = .lit (.int k' z))
    (hk : K (.lit (.int k (if mx then (if n < z then z else n) else (if z < n then z else n)))) H) : o.wp P a w (Fin cx E o.dst K F m) Q := by
  have h1 := hs.ev x
  have h2 := hs.ev y
  rw [he] at h1; rw [hz] at h2
  have g1 := h1.lit_inv
  have g2 := h2.lit_inv
  cases mx
  · exact snd_pure hs hd (u := .int k (if z < n then z else n)) (by simp [execOp, ho, g1, g2, resolve, invoke, builtin, Builtin.min_, Builtin.min2]) (.lit _) hk
  · exact snd_pure hs hd (u := .int k (if n < z then z else n)) (by simp [execOp, ho, g1, g2, resolve, invoke, builtin, Builtin.max_, Builtin.max2]) (.lit _) hk
end
end Go.Av
namespace Go.Av
variable [Go.Av.DoorC]
open Go.RowKit
section
variable {P : Program} {cx : Ctx} {F : Fz} {m : List Ent} {E : Nat → AV} {H : List Blk} {a : Act} {w : World} {o : Oper} {K : AV → List Blk → Prop} {Q : Exit → Act → World → Prop}
theorem push_last (m : List Ent) (e : Ent) : (m ++ [e])[m.length]? = some e := by simp
theorem snd_newvar (hs : St cx F m E H a w) (hd : ∀ t, o.dst = some t → t < cx.n) {ty : TypeId} {cs : List AV} {vs : List Value} (hr : Rels F m cs vs) (h1 : ∀ v ∈ vs, v.oneCell' = true)
    (hrun : (execOp a.eval o).run P w = .ok (.value (.pointer (some ⟨w.heap.size, 0, none⟩))) (w.alloc (.cells vs.toArray ty)))
    (hk : K (.pc H.length 0 0) (H ++ [⟨0, ty, 1, cs⟩])) : o.wp P a w (Fin cx E o.dst K F m) Q := by
  have hsim := hs.sim.push vs.toArray ty 1 cs (by decide) (by simp [hr.1]) (fun j c v h2 h3 => hr.2 j c v h2 (by simpa using h3)) (fun j v h2 => h1 v (by
    have : vs[j]? = some v := by simpa using h2
    exact List.mem_of_getElem? this))
  refine snd_val hs hd hrun (FLe.refl _) (MLe.append m _) hsim ?_ hk
  rw [← hs.sim.len]
  exact .pc m.length 0 0 _ _ (push_last m _) (Nat.le_refl _) (fun _ => ⟨w.heap.size, rfl, rfl, by simp⟩)
theorem snd_alloc (hs : St cx F m E H a w) (hd : ∀ t, o.dst = some t → t < cx.n) {t : TypeId} (ho : o.op = .alloc t) {i : TypeInfo} {z : Value} (hi : P.info? t = some i) (hz : i.zero = some z) (h1 : z.cells.toList.all Value.oneCell' = true)
    (hk : K (.pc H.length 0 0) (H ++ [⟨0, t, 1, z.cells.toList.map .lit⟩])) : o.wp P a w (Fin cx E o.dst K F m) Q := by
  refine snd_newvar hs hd (Rels.lits F m z.cells.toList) (fun v hv => List.all_eq_true.1 h1 v hv) ?_ hk
  simp [execOp, ho, Instr.alloc, run_zeroValue' hi hz, newVar, newRow]
theorem snd_box (hs : St cx F m E H a w) (hd : ∀ t, o.dst = some t → t < cx.n) {t : TypeId} {x : Operand} (ho : o.op = .box t x) (h1 : (partsOf (ev E x)).all AV.cell1 = true)
    (hk : K (.pc H.length 0 0) (H ++ [⟨0, t, 1, partsOf (ev E x)⟩])) : o.wp P a w (Fin cx E o.dst K F m) Q := by
  have hr := (hs.ev x).parts h1
  refine snd_newvar hs hd hr ?_ ?_ hk
  · intro v hv
    obtain ⟨j, hj⟩ := List.getElem?_of_mem hv
    have hlt : j < (partsOf (ev E x)).length := by rw [hr.1]; exact (List.getElem?_eq_some_iff.1 hj).1
    exact (hr.2 j _ v (List.getElem?_eq_getElem hlt) hj).cell1 (List.all_eq_true.1 h1 _ (List.getElem_mem hlt))
  · simp [execOp, ho, Instr.box, newVar, newRow]
theorem foldl_zipIdx_set (cells : Array Value) (off : Nat) (vs : List Value) (j : Nat) :
    ((vs.zipIdx j).foldl (fun cs (p : Value × Nat) => cs.setIfInBounds (off + p.2) p.1) cells).toList = (vs.zipIdx j).foldl (fun cs (p : Value × Nat) => cs.set (off + p.2) p.1) cells.toList := by
  induction vs generalizing cells j with
  | nil => rfl
  | cons v vs ih => simp only [List.zipIdx_cons, List.foldl_cons]; rw [ih]; simp
theorem Rels.setMany {F : Fz} {m : List Ent} {ds : List AV} {us : List Value} (hd : Rels F m ds us) : ∀ {cs : List AV} {vs : List Value} (off j : Nat), Rels F m cs vs → Rels F m (setMany cs (off + j) ds) ((us.zipIdx j).foldl (fun cs (p : Value × Nat) => cs.set (off + p.2) p.1) vs) := by
  induction ds generalizing us with
  | nil => intro cs vs off j h; have := hd.inv_nil; subst this; exact h
  | cons d ds ih =>
    intro cs vs off j h
    obtain ⟨u, us', rfl, h1, h2⟩ := hd.inv_cons
    simp only [Av.setMany, List.zipIdx_cons, List.foldl_cons]
    have := ih h2 off (j + 1) (h.set (off + j) h1)
    rwa [show off + (j + 1) = off + j + 1 by omega] at this
theorem fill_sound {place : Nat → Option (Nat × Nat)} : ∀ (parts : List (Nat × Nat × Nat × Operand)) {cells cs : List AV} {vs : Array Value}, (∀ p ∈ parts, place p.1 = some (p.2.1, p.2.2.1)) → Rels F m cells vs.toList →
    (∀ x, Rel F m (ev E x) (a.eval x)) → (∀ p ∈ parts, (partsOf (ev E p.2.2.2)).all AV.cell1 = true) →
    afill cells (parts.map fun p => (p.2.1, p.2.2.1, ev E p.2.2.2)) = some cs → ∃ us : Array Value, Instr.fill place vs (parts.map fun p => (p.1, a.eval p.2.2.2)) = some us ∧ Rels F m cs us.toList
  | [], cells, cs, vs, _, hr, _, _, h => by
    simp [afill] at h; subst h
    exact ⟨vs, rfl, hr⟩
  | (i, off, size, x) :: rest, cells, cs, vs, hp, hr, hx, h1, h => by
    simp only [List.map_cons, afill] at h
    split at h
    case isFalse => simp at h
    case isTrue hc =>
      have hrx := (hx x).parts (h1 (i, off, size, x) (by simp))
      have hpl := hp (i, off, size, x) (by simp)
      simp only at hpl
      have hcs : (a.eval x).cells.size = size := by rw [← Array.length_toList, ← hrx.1, hc.1]
      have hvl : vs.size = cells.length := by rw [← Array.length_toList, ← hr.1]
      have hr' : Rels F m (setMany cells off (partsOf (ev E x))) ((a.eval x).cells.zipIdx.foldl (fun cs (p : Value × Nat) => cs.setIfInBounds (off + p.2) p.1) vs).toList := by
        have g := Rels.setMany (F := F) (m := m) (cs := cells) (vs := vs.toList) hrx off 0 hr
        rw [Nat.add_zero] at g
        have e1 : (a.eval x).cells.zipIdx.foldl (fun cs (p : Value × Nat) => cs.setIfInBounds (off + p.2) p.1) vs = ((a.eval x).cells.toList.zipIdx 0).foldl (fun cs (p : Value × Nat) => cs.setIfInBounds (off + p.2) p.1) vs := by
          rw [← Array.foldl_toList]; simp
        rw [e1, foldl_zipIdx_set]
        exact g
      obtain ⟨us, g1, g2⟩ := fill_sound rest (fun p hm => hp p (by simp [hm])) hr' hx (fun p hm => h1 p (by simp [hm])) h
      refine ⟨us, ?_, g2⟩
      simp only [List.map_cons, Instr.fill, hpl]
      rw [if_neg (by simp [hcs, hvl]; omega)]
      exact g1
structure Appended (w w' : World) (e : TypeId) (sz : Nat) (sv v' : Value) (len n : Nat) (all : List Value) : Prop where
  os : w'.os = w.os
  tape : w'.tape = w.tape
  output : w'.output = w.output
  grow : w.heap.size ≤ w'.heap.size
  drawn : w.drawn ≤ w'.drawn
  block : ∀ b, b < w.heap.size → (some b ≠ sv.ownBlock ∨ ∃ q, sv = .slice q 0 0) → w'.heap[b]? = w.heap[b]?
  res : ((∃ q, v' = .slice q 0 0) ∧ len = 0 ∧ n = 0) ∨
    ∃ g c cur', v' = .slice (some ⟨g, 0, none⟩) (len + n) c ∧ len + n ≤ c ∧ c ≤ maxLen ∧ w'.heap[g]? = some (.cells cur' e (0, 0)) ∧ cur'.size = c * sz ∧
      cur'.toList.take ((len + n) * sz) = all ∧ (∀ (q : Nat) (v : Value), cur'[q]? = some v → v.oneCell' = true) ∧ ((some g = sv.ownBlock ∧ ¬ ∃ q, sv = .slice q 0 0) ∨ g = w.heap.size)
theorem getElem?_zeroCells {z : Array Value} (hz : z.toList.all Value.oneCell' = true) {n q : Nat} {v : Value} (h : (Builtin.zeroCells z n)[q]? = some v) : v.oneCell' = true := by
  unfold Builtin.zeroCells at h
  rw [Array.getElem?_map] at h
  by_cases hq : q < n * z.size
  · have hz0 : 0 < z.size := by rcases Nat.eq_zero_or_pos z.size with h0 | h0
                                · rw [h0] at hq; omega
                                · exact h0
    have hm : q % z.size < z.size := Nat.mod_lt _ hz0
    simp [hq] at h
    rw [getElem!_pos z (q % z.size) hm] at h
    subst h
    exact List.all_eq_true.1 hz _ (by simp)
  · simp [hq] at h
theorem _root_.Go.World.heap_alloc_lt' (w : World) (o : Obj) (b : Nat) (h : b < w.heap.size) : (w.alloc o).heap[b]? = w.heap[b]? := RowKit.Below.heap_alloc w o b h
theorem append_cases {t ty : TypeId} {e : TypeId} {i : TypeInfo} {z : Value} (ht : P.underlying t = some (.slice e)) (hi : P.info? e = some i) (hz : i.zero = some z) (hzs : z.cells.size = i.size) (hz1 : z.cells.toList.all Value.oneCell' = true) (_hsz : 0 < i.size)
    {sv xv : Value} {len n : Nat} {old news : List Value} (hlen : old.length = len * i.size) (hnl : news.length = n * i.size)
    (hsv : ((∃ q, sv = .slice q 0 0) ∧ len = 0) ∨ ∃ g cap cur, sv = .slice (some ⟨g, 0, none⟩) len cap ∧ 0 < cap ∧ w.heap[g]? = some (.cells cur e (0, 0)) ∧ len ≤ cap ∧ cap ≤ maxLen ∧ cur.size = cap * i.size ∧ cur.toList.take (len * i.size) = old ∧ (∀ (q : Nat) (v : Value), cur[q]? = some v → v.oneCell' = true))
    (hxv : (∃ xa cap, xv = .slice (some xa) n cap ∧ ∀ (q : Nat) (v : Value), news[q]? = some v → w.cell? (xa.add q) = some v ∧ v.oneCell' = true) ∨ (xv = .slice none 0 0 ∧ n = 0))
    (hby : (len + n) * i.bytes ≤ 140737488355328) (hby2 : len + n ≤ 140737488355328) :
    ∃ v' w', (Builtin.append_ #[t, t] ty #[sv, xv]).run P w = .ok v' w' ∧ Appended w w' e i.size sv v' len n (old ++ news) := by
  have h63 : len + n ≤ maxLen := by simp only [maxLen]; omega
  have refl : ∀ (v' : Value), (((∃ q, v' = .slice q 0 0) ∧ len = 0 ∧ n = 0) ∨ ∃ g c cur', v' = .slice (some ⟨g, 0, none⟩) (len + n) c ∧ len + n ≤ c ∧ c ≤ maxLen ∧ w.heap[g]? = some (.cells cur' e (0, 0)) ∧ cur'.size = c * i.size ∧
      cur'.toList.take ((len + n) * i.size) = old ++ news ∧ (∀ (q : Nat) (v : Value), cur'[q]? = some v → v.oneCell' = true) ∧ ((some g = sv.ownBlock ∧ ¬ ∃ q, sv = .slice q 0 0) ∨ g = w.heap.size)) → Appended w w e i.size sv v' len n (old ++ news) :=
    fun v' h => ⟨rfl, rfl, rfl, Nat.le_refl _, Nat.le_refl _, fun _ _ _ => rfl, h⟩
  rcases hxv with ⟨xa, xcap, rfl, hx⟩ | ⟨rfl, hn0⟩
  · have hnews : ∀ j u, news[j]? = some u → w.cell? (xa.add j) = some u := fun j u hj => (hx j u hj).1
    have hnews1 : ∀ u ∈ news, u.oneCell' = true := fun u hu => by
      obtain ⟨q, hq⟩ := List.getElem?_of_mem hu
      exact (hx q u hq).2
    have one : ∀ (olds : List Value), (∀ u ∈ olds, u.oneCell' = true) → ∀ (c q : Nat) (v : Value), (olds.toArray ++ news.toArray ++ Builtin.zeroCells z.cells c)[q]? = some v → v.oneCell' = true := by
      intro olds ho c q v hq
      rw [Array.getElem?_append] at hq
      split at hq
      · rw [Array.getElem?_append] at hq
        split at hq
        · exact ho v (List.mem_of_getElem? (by simpa using hq))
        · exact hnews1 v (List.mem_of_getElem? (by simpa using hq))
      · exact getElem?_zeroCells hz1 hq
    rcases hsv with ⟨⟨qq, rfl⟩, hl0⟩ | ⟨g, cap, cur, rfl, hcap, hg, hlc, hcm, hcs, htake, hone⟩
    · subst hl0
      have ho : old = [] := List.eq_nil_of_length_eq_zero (by rw [hlen]; omega)
      subst ho
      simp only [Nat.zero_add] at hby hby2 h63
      by_cases hn : n = 0
      · subst hn
        cases qq with
        | none => exact ⟨.slice none 0 0, w, by simp [Builtin.append_, run_underlying ht, sizeOf, typeInfo, hi, Builtin.lenOf, Builtin.firstCells, loadCells, loadCellsFrom], refl _ (.inl ⟨⟨_, rfl⟩, rfl, rfl⟩)⟩
        | some ad => exact ⟨.slice (some ad) 0 0, w, by simp [Builtin.append_, run_underlying ht, sizeOf, typeInfo, hi, Builtin.lenOf, Builtin.firstCells, loadCells, loadCellsFrom, storeCells], refl _ (.inl ⟨⟨_, rfl⟩, rfl, rfl⟩)⟩
      cases qq with
      | some ad =>
        have hr := run_append_grow (P := P) w t ty e i z ht hi hz ad 0 0 [] (by simp) (fun j u hj => by simp at hj) xa n xcap news hnl hnews (by omega) (by omega) (growslice_fits (by omega) (by simpa using hby))
        rw [Nat.zero_add] at hr
        refine ⟨_, _, hr, ⟨rfl, rfl, rfl, by simp, (by first | exact Nat.le_succ _ | exact Nat.le_refl _), fun b' hb' _ => World.heap_alloc_lt' w.drew _ b' hb', .inr ⟨w.heap.size, grownCap w n 0 e, _, by simp, ?_, ?_, heap_alloc_new w.drew _, ?_, ?_, ?_, .inr rfl⟩⟩⟩
        · rw [Nat.zero_add]; exact grownCap_ge w n 0 e
        · exact grownCap_le_maxLen w n 0 e h63
        · have := grownCap_ge w n 0 e
          simp only [Array.size_append, List.size_toArray, size_zeroCells, hzs, hnl, ← Nat.add_mul, List.length_nil, Nat.zero_add]
          congr 1 <;> omega
        · simp only [Array.toList_append]
          simp only [Nat.zero_add, List.nil_append, ← hnl]; exact List.take_left
        · intro q v hq
          exact one [] (by simp) _ q v (by simpa using hq)
      | none =>
        refine ⟨_, _, run_append_nil (P := P) w t ty e i z ht hi hz xa n xcap news hnl hnews (by omega) (by omega) (by omega), ⟨rfl, rfl, rfl, by simp, (by first | exact Nat.le_succ _ | exact Nat.le_refl _), fun b' hb' _ => World.heap_alloc_lt' w.drew _ b' hb', .inr ⟨w.heap.size, grownCap w n 0 e, _, by simp, ?_, ?_, heap_alloc_new w.drew _, ?_, ?_, ?_, .inr rfl⟩⟩⟩
        · rw [Nat.zero_add]; exact grownCap_ge w n 0 e
        · exact grownCap_le_maxLen w n 0 e h63
        · have := grownCap_ge w n 0 e
          simp only [Array.size_append, List.size_toArray, size_zeroCells, hzs, hnl, ← Nat.add_mul]
          congr 1 <;> omega
        · simp only [Array.toList_append]
          rw [Nat.zero_add, List.nil_append, ← hnl]; exact List.take_left
        · intro q v hq
          exact one [] (by simp) _ q v (by simpa using hq)
    · have holds : ∀ j u, old[j]? = some u → w.cell? ((⟨g, 0, none⟩ : Addr).add j) = some u ∧ u.oneCell' = true := by
        intro j u hj
        rw [← htake, List.getElem?_take] at hj
        split at hj
        · have hj' : cur[j]? = some u := by simpa using hj
          rw [Addr.add_none, Nat.zero_add]
          exact ⟨by simp [World.cell?, hg, hj'], hone j u hj'⟩
        · simp at hj
      by_cases hroom : len + n ≤ cap
      · have hfit : len * i.size + news.length ≤ cur.size := by rw [hnl, hcs, ← Nat.add_mul]; exact Nat.mul_le_mul_right _ hroom
        have hr := run_append_room (P := P) w t ty e i ht hi g len cap cur hg xa n xcap news hnl hnews hnews1 hroom hfit
        refine ⟨_, _, hr, ⟨rfl, rfl, rfl, by simp, (by first | exact Nat.le_succ _ | exact Nat.le_refl _), fun k _ hk => setRow_other w g k _ (fun e => by rcases hk with hk | ⟨q, hk⟩; exact hk (by simp [Value.ownBlock, e]); simp at hk; omega), .inr ⟨g, cap, _, rfl, hroom, hcm, setRow_heap w g cur _ e _ hg, ?_, ?_, ?_, .inl ⟨by simp [Value.ownBlock], by rintro ⟨q, hq⟩; simp at hq; omega⟩⟩⟩⟩
        · simp only [List.size_toArray, List.length_append, List.length_take, List.length_drop, Array.length_toList]
          omega
        · rw [htake]
          have : (len + n) * i.size = (old ++ news).length := by rw [List.length_append, hlen, hnl, Nat.add_mul]
          rw [this]; exact List.take_left
        · intro q v hq
          have hq' : (cur.toList.take (len * i.size) ++ news ++ cur.toList.drop (len * i.size + news.length))[q]? = some v := by simpa using hq
          have hm := List.mem_of_getElem? hq'
          simp only [List.mem_append] at hm
          rcases hm with (hm | hm) | hm
          · obtain ⟨j, hj⟩ := List.getElem?_of_mem (List.mem_of_mem_take hm)
            exact hone j v (by simpa using hj)
          · exact hnews1 v hm
          · obtain ⟨j, hj⟩ := List.getElem?_of_mem (List.mem_of_mem_drop hm)
            exact hone j v (by simpa using hj)
      · have hr := run_append_grow (P := P) w t ty e i z ht hi hz ⟨g, 0, none⟩ len cap old hlen (fun j u hj => (holds j u hj).1) xa n xcap news hnl hnews (by omega) (by omega) (growslice_fits (by omega) hby)
        refine ⟨_, _, hr, ⟨rfl, rfl, rfl, by simp, (by first | exact Nat.le_succ _ | exact Nat.le_refl _), fun b' hb' _ => World.heap_alloc_lt' w.drew _ b' hb', .inr ⟨w.heap.size, _, _, rfl, grownCap_ge _ _ _ _, grownCap_le_maxLen _ _ _ _ h63, heap_alloc_new w.drew _, ?_, ?_, ?_, .inr rfl⟩⟩⟩
        · have := grownCap_ge w (len + n) cap e
          simp only [Array.size_append, List.size_toArray, size_zeroCells, hzs, hlen, hnl, ← Nat.add_mul]
          congr 1 <;> omega
        · simp only [Array.toList_append]
          have : (len + n) * i.size = (old ++ news).length := by rw [List.length_append, hlen, hnl, Nat.add_mul]
          rw [this]; exact List.take_left
        · exact one old (fun u hu => by
            obtain ⟨j, hj⟩ := List.getElem?_of_mem hu
            exact (holds j u hj).2) _
  · subst hn0
    have hnews : news = [] := List.eq_nil_of_length_eq_zero (by rw [hnl]; omega)
    subst hnews
    simp only [Nat.add_zero] at hby hby2 h63
    rcases hsv with ⟨⟨qq, rfl⟩, hl0⟩ | ⟨g, cap, cur, rfl, hcap, hg, hlc, hcm, hcs, htake, hone⟩
    · subst hl0
      cases qq with
      | none => exact ⟨.slice none 0 0, w, by simp [Builtin.append_, run_underlying ht, sizeOf, typeInfo, hi, Builtin.lenOf, Builtin.firstCells], refl _ (.inl ⟨⟨_, rfl⟩, rfl, rfl⟩)⟩
      | some ad => exact ⟨.slice (some ad) 0 0, w, by simp [Builtin.append_, run_underlying ht, sizeOf, typeInfo, hi, Builtin.lenOf, Builtin.firstCells, storeCells], refl _ (.inl ⟨⟨_, rfl⟩, rfl, rfl⟩)⟩
    · refine ⟨_, w, ?_, refl _ (.inr ⟨g, cap, cur, rfl, hlc, hcm, hg, hcs, by simpa using htake, hone, .inl ⟨by simp [Value.ownBlock], by rintro ⟨q, hq⟩; simp at hq; omega⟩⟩)⟩
      exact run_append_owned_none (P := P) w 0 t ty e i i.size ht hi (.slice (some ⟨g, 0, none⟩) len cap) len old ⟨hlen, .inr ⟨g, cap, cur, rfl, Nat.zero_le _, hg, hlc, hcm, hcs, htake⟩⟩
theorem app_core {B : Nat} {W0 : World} {t ty : TypeId} {e : TypeId} {i : TypeInfo} {z : Value} (ht : P.underlying t = some (.slice e)) (hi : P.info? e = some i) (hz : i.zero = some z) (hzs : z.cells.size = i.size) (hz1 : z.cells.toList.all Value.oneCell' = true) (hsz : 0 < i.size)
    {sv xv : Value} {j ver len n : Nat} {k : Blk} {en : Ent} {xs : List AV} (hs : Sim B W0 F m H w) (hen : m[j]? = some en) (hkk : H[j]? = some k) (hkv : k.ver = ver) (hkt : k.ty = e) (hks : k.sz = i.size) (hlen : len * i.size ≤ k.cells.length)
    (hby : (len + n) * i.bytes ≤ 140737488355328) (hby2 : len + n ≤ 140737488355328) (hnm : NmOk en 0 len sv) (hxl : xs.length = n * i.size)
    (hxs : ∃ xs' : List Value, Rels F m xs xs' ∧ ((∃ xa cap, xv = .slice (some xa) n cap ∧ ∀ (q : Nat) (v : Value), xs'[q]? = some v → w.cell? (xa.add q) = some v ∧ v.oneCell' = true) ∨ (xv = .slice none 0 0 ∧ n = 0))) :
    ∃ v' w' m', (Builtin.append_ #[t, t] ty #[sv, xv]).run P w = .ok v' w' ∧ MLe m m' ∧ Rel F m' (.nm j (ver + 1) 0 (len + n)) v' ∧ Sim B W0 F m' (H.set j ⟨ver + 1, e, i.size, k.cells.take (len * i.size) ++ xs⟩) w' := by
  have hok := hs.blk j en k hen hkk
  obtain ⟨xs', hrels, hxv⟩ := hxs
  have hjlt : j < m.length := (List.getElem?_eq_some_iff.1 hen).1
  obtain ⟨old, hold, hsv⟩ : ∃ old : List Value, Rels F m (k.cells.take (len * i.size)) old ∧ (((∃ q, sv = .slice q 0 0) ∧ len = 0) ∨ ∃ g cap cur, sv = .slice (some ⟨g, 0, none⟩) len cap ∧ 0 < cap ∧ w.heap[g]? = some (.cells cur e (0, 0)) ∧ len ≤ cap ∧ cap ≤ maxLen ∧ cur.size = cap * i.size ∧ cur.toList.take (len * i.size) = old ∧ (∀ (q : Nat) (v : Value), cur[q]? = some v → v.oneCell' = true)) := by
    obtain ⟨cap, hl1, hl2, hcase⟩ := hnm
    rcases hcase with ⟨b, hb, hval, hsize, hnz⟩ | ⟨hb, hval, hl0, _⟩
    · by_cases hcap0 : cap = 0
      · have hl0 : len = 0 := by omega
        refine ⟨[], ?_, .inl ⟨⟨_, by rw [hval, hl0, hcap0]⟩, hl0⟩⟩
        rw [hl0]; simp; exact Rels.nil _ _
      obtain ⟨hB, arr, ha, hsz', hl, hrel, hone⟩ := hok.cls hnz hb
      refine ⟨arr.toList.take (len * i.size), ⟨?_, ?_⟩, .inr ⟨b, cap, arr, hval, by omega, ?_, hl1, hl2, ?_, rfl, hone⟩⟩
      · simp only [List.length_take, Array.length_toList]; omega
      · intro q c v h1 h2
        rw [List.getElem?_take] at h1 h2
        split at h1
        · rw [if_pos (by assumption)] at h2
          exact hrel q c v h1 (by simpa using h2)
        · simp at h1
      · rw [ha, hok.2.1, hkt]
      · rw [hsz', ← hsize, hok.2.2.1, hks]; omega
    · refine ⟨[], ?_, .inl ⟨hval, hl0⟩⟩
      subst hl0; simp; exact Rels.nil _ _
  have ownblk : ∀ b, sv.ownBlock = some b → (¬ ∃ q, sv = .slice q 0 0) → en.blk = some b := by
    intro b hbq hnz
    obtain ⟨cap, _, _, hcase⟩ := hnm
    rcases hcase with ⟨b2, hb2, hval, _⟩ | ⟨hb2, hval, _, _⟩
    · rw [hval] at hbq; simp [Value.ownBlock] at hbq; rw [← hbq]; exact hb2
    · exact absurd hval hnz
  have hlx : xs'.length = n * i.size := by rw [← hrels.1, hxl]
  have hlo : old.length = len * i.size := by rw [← hold.1]; simp only [List.length_take]; omega
  obtain ⟨v', w', hrun, hap⟩ := append_cases (P := P) (w := w) (ty := ty) ht hi hz hzs hz1 hsz hlo hlx hsv hxv hby hby2
  have hbB : ∀ b, en.blk = some b → B ≤ b := fun b hb => (hok.2.2.2.2 b hb).1
  have hblk : ∀ b, b < w.heap.size → en.blk ≠ some b → w'.heap[b]? = w.heap[b]? := by
    intro b hb hne
    refine hap.block b hb ?_
    by_cases hz : ∃ q, sv = .slice q 0 0
    · exact .inr hz
    · exact .inl fun x => hne (ownblk b x.symm hz)
  have hb' : Blw B w w' := ⟨hap.os, hap.tape, hap.output, hap.grow, fun b hb => hblk b (Nat.lt_of_lt_of_le hb hs.base) (fun x => by have := hbB b x; omega), .of hap.drawn⟩
  have hnew : ∃ e' : Ent, e'.ver = ver + 1 ∧ NmOk e' 0 (len + n) v' ∧ (∀ b', e'.blk = some b' → en.blk = some b' ∨ w.heap.size ≤ b') ∧
      BlkOk B F (m.set j e') w' e' ⟨ver + 1, e, i.size, k.cells.take (len * i.size) ++ xs⟩ ∧ ∃ q c, v' = .slice q (len + n) c := by
    rcases hap.res with ⟨hv', h0, h0'⟩ | ⟨g, c, cur, hv', hnc, hcm, hg, hcs, htake, hone, hgw⟩
    · subst h0; subst h0'
      refine ⟨⟨none, 0, e, i.size, ver + 1⟩, rfl, ⟨0, by omega, Nat.zero_le _, .inr ⟨rfl, hv', rfl, rfl⟩⟩, (fun b' hb'' => by simp at hb''), ⟨rfl, rfl, rfl, fun _ => ⟨?_, rfl⟩, fun b hb => by simp at hb⟩, hv'.elim fun q hq => ⟨q, 0, hq⟩⟩
      have : xs = [] := by apply List.eq_nil_of_length_eq_zero; rw [hxl]; omega
      simp [this]
    · have hne : MLe m (m.set j ⟨some g, c * i.size, e, i.size, ver + 1⟩) := MLe.set hen (.inr (by rw [hok.1, hkv]; exact Nat.lt_succ_self _))
      have hgB : en.blk = some g ∨ w.heap.size ≤ g := by
        rcases hgw with h | h
        · exact .inl (ownblk g h.1.symm h.2)
        · exact .inr (by omega)
      refine ⟨⟨some g, c * i.size, e, i.size, ver + 1⟩, rfl, ⟨c, hnc, hcm, .inl ⟨g, rfl, hv', by simp, by simp only; omega⟩⟩, ?_, ?_, ⟨_, _, hv'⟩⟩
      · intro b' hb''
        simp only [Option.some.injEq] at hb''
        subst hb''
        exact hgB
      · refine ⟨rfl, rfl, rfl, (fun h => by simp at h), ?_⟩
        intro b hb
        simp only [Option.some.injEq] at hb
        subst hb
        refine ⟨?_, .inl ⟨by simp only; omega, cur, hg, hcs, ?_, ?_, hone⟩⟩
        · rcases hgB with h | h
          · exact hbB g h
          · exact Nat.le_trans hs.base h
        · simp only [List.length_append, List.length_take, hxl]
          rw [Nat.min_eq_left hlen, ← Nat.add_mul]
          exact Nat.mul_le_mul_right _ hnc
        · intro q cc v h1 h2
          have hall : Rels F m (k.cells.take (len * i.size) ++ xs) (old ++ xs') := hold.append hrels
          have hq : q < (len + n) * i.size := by
            have := (List.getElem?_eq_some_iff.1 h1).1
            simp only [List.length_append, List.length_take, hxl] at this
            rw [Nat.min_eq_left hlen, ← Nat.add_mul] at this
            exact this
          have h2' : (old ++ xs')[q]? = some v := by
            rw [← htake, List.getElem?_take, if_pos hq]; simpa using h2
          exact (hall.2 q cc v h1 h2').mono (FLe.refl _) hne
  obtain ⟨e', he1, he4, he5, he6, q, c, hv'⟩ := hnew
  refine ⟨v', w', m.set j e', hrun, MLe.set hen (.inr (by rw [hok.1, hkv, he1]; omega)), ?_, ?_⟩
  · rw [hv']
    exact .nm j (ver + 1) 0 (len + n) e' _ _ _ (List.getElem?_set_self hjlt) (by omega) (fun _ => by rw [← hv']; exact he4)
  · refine hs.update hen e' _ (.inr (by rw [hok.1, hkv, he1]; omega)) hb' ?_ he5 he6
    intro b hne hlt
    exact hblk b hlt hne
theorem Rel.nm_inv {j ver len : Nat} {v : Value} (h : Rel F m (.nm j ver 0 len) v) : ∃ e p n cap, v = .slice p n cap ∧ m[j]? = some e ∧ ver ≤ e.ver ∧ (ver = e.ver → NmOk e 0 len v) := by
  cases h with
  | nm _ _ _ _ e p n cap h1 h2 h3 => exact ⟨e, p, n, cap, rfl, h1, h2, h3⟩
theorem snd_app (hs : St cx F m E H a w) (hd : ∀ t, o.dst = some t → t < cx.n) {t e : TypeId} {s x : Operand} (ho : o.op = .call { callee := .builtin .append, args := #[s, x], argTypes := #[t, t] })
    {i : TypeInfo} {z : Value} (ht : P.underlying t = some (.slice e)) (hi : P.info? e = some i) (hz : i.zero = some z) (hzs : z.cells.size = i.size) (hz1 : z.cells.toList.all Value.oneCell' = true) (hsz : 0 < i.size)
    (hk : swpApp e i.size i.bytes H (ev E s) (ev E x) K) : o.wp P a w (Fin cx E o.dst K F m) Q := by
  have hrs := hs.ev s
  have hrx := hs.ev x
  unfold swpApp at hk
  split at hk
  case h_2 => exact hk.elim
  case h_1 n xs hview =>
    obtain ⟨hxl, _, hk⟩ := hk
    obtain ⟨hn, hxcase⟩ := aview_sound hs.sim hrx hview
    have fin : ∀ {v' : Value} {w' : World} {m' : List Ent} {v : AV} {H' : List Blk}, (Builtin.append_ #[t, t] o.type #[a.eval s, a.eval x]).run P w = .ok v' w' → MLe m m' → Rel F m' v v' → Sim cx.B cx.W0 F m' H' w' → K v H' → o.wp P a w (Fin cx E o.dst K F m) Q := by
      intro v' w' m' v H' hrun hm hr hsim hK
      refine snd_val hs hd ?_ (FLe.refl _) hm hsim hr hK
      simp [execOp, ho, resolve, invoke, builtin, hrun]
    split at hk
    · rename_i sav j ver len hsav
      split at hk
      case h_2 => exact hk.elim
      case h_1 k hkk =>
        obtain ⟨hkv, hkt, hks, hlen, hby, hby2, hK⟩ := hk
        rw [hsav] at hrs
        obtain ⟨en, p, n', cap, hval, hen, _, hnm⟩ := hrs.nm_inv
        have hok := hs.sim.blk j en k hen hkk
        have hxs : ∃ xs' : List Value, Rels F m xs xs' ∧ ((∃ xa cap, a.eval x = .slice (some xa) n cap ∧ ∀ (q : Nat) (v : Value), xs'[q]? = some v → w.cell? (xa.add q) = some v ∧ v.oneCell' = true) ∨ (a.eval x = .slice none 0 0 ∧ n = 0)) := by
          rcases hxcase with ⟨b, of, cap, vs, hxv, _, _, hrels, hc⟩ | ⟨⟨q, hxv⟩, h0, hnil⟩
          · exact ⟨vs, hrels, .inl ⟨_, cap, hxv, fun q v hq => by rw [Addr.add_none]; exact hc q v hq⟩⟩
          · cases q with
            | none => exact ⟨[], by rw [hnil]; exact Rels.nil _ _, .inr ⟨hxv, h0⟩⟩
            | some xa => exact ⟨[], by rw [hnil]; exact Rels.nil _ _, .inl ⟨xa, 0, by rw [hxv, h0], fun q v hq => by simp at hq⟩⟩
        obtain ⟨v', w', m', hrun, hm, hr, hsim⟩ := app_core (P := P) (ty := o.type) ht hi hz hzs hz1 hsz hs.sim hen hkk hkv hkt hks hlen hby hby2 (hnm (by rw [hok.1, hkv])) hxl hxs
        exact fin hrun hm hr hsim hK
    · rename_i sav hsav
      obtain ⟨hby, hby2, hK⟩ := hk
      rw [hsav] at hrs
      have hval := hrs.lit_inv
      have hs1 := hs.sim.pushNil e i.size
      have hm1 := MLe.append m [⟨none, 0, e, i.size, 0⟩]
      have hlast : (m ++ [(⟨none, 0, e, i.size, 0⟩ : Ent)])[m.length]? = some ⟨none, 0, e, i.size, 0⟩ := by simp
      have hlastH : (H ++ [(⟨0, e, i.size, []⟩ : Blk)])[m.length]? = some ⟨0, e, i.size, []⟩ := by rw [hs.sim.len]; simp
      have hxs : ∃ xs' : List Value, Rels F (m ++ [⟨none, 0, e, i.size, 0⟩]) xs xs' ∧ ((∃ xa cap, a.eval x = .slice (some xa) n cap ∧ ∀ (q : Nat) (v : Value), xs'[q]? = some v → w.cell? (xa.add q) = some v ∧ v.oneCell' = true) ∨ (a.eval x = .slice none 0 0 ∧ n = 0)) := by
        rcases hxcase with ⟨b, of, cap, vs, hxv, _, _, hrels, hc⟩ | ⟨⟨q, hxv⟩, h0, hnil⟩
        · exact ⟨vs, hrels.mono (FLe.refl _) hm1, .inl ⟨_, cap, hxv, fun q v hq => by rw [Addr.add_none]; exact hc q v hq⟩⟩
        · cases q with
          | none => exact ⟨[], by rw [hnil]; exact Rels.nil _ _, .inr ⟨hxv, h0⟩⟩
          | some xa => exact ⟨[], by rw [hnil]; exact Rels.nil _ _, .inl ⟨xa, 0, by rw [hxv, h0], fun q v hq => by simp at hq⟩⟩
      obtain ⟨v', w', m', hrun, hm, hr, hsim⟩ := app_core (P := P) (ty := o.type) (len := 0) (n := n) (sv := a.eval s) (xv := a.eval x) (ver := 0) ht hi hz hzs hz1 hsz hs1 hlast hlastH rfl rfl rfl (by simp) (by simpa using hby) (by simpa using hby2)
        ⟨0, Nat.le_refl _, Nat.zero_le _, .inr ⟨rfl, ⟨_, hval⟩, rfl, rfl⟩⟩ hxl hxs
      refine fin hrun (hm1.trans hm) (v := .nm H.length 1 0 n) (H' := H ++ [⟨1, e, i.size, xs⟩]) ?_ ?_ hK
      · rw [← hs.sim.len]; simpa using hr
      · rw [hs.sim.len] at hsim
        simpa using hsim
    · exact hk.elim
theorem snd_newrow (hs : St cx F m E H a w) (hd : ∀ t, o.dst = some t → t < cx.n) {ty : TypeId} {sz len cap : Nat} {cs : List AV} {arr : Array Value} (hnz : sz ≠ 0) (hr : Rels F m cs arr.toList) (h1 : ∀ v ∈ arr.toList, v.oneCell' = true)
    (hl : len ≤ cap) (hc : cap ≤ maxLen) (hsz : arr.size = cap * sz) (hrun : (execOp a.eval o).run P w = .ok (.value (.slice (some ⟨w.heap.size, 0, none⟩) len cap)) (w.alloc (.cells arr ty)))
    (hk : K (.nm H.length 0 0 len) (H ++ [⟨0, ty, sz, cs⟩])) : o.wp P a w (Fin cx E o.dst K F m) Q := by
  have hsim := hs.sim.push arr ty sz cs hnz (by rw [hr.1]; simp) (fun j c v h2 h3 => hr.2 j c v h2 (by simpa using h3)) (fun j v h2 => h1 v (by
    have : arr.toList[j]? = some v := by simpa using h2
    exact List.mem_of_getElem? this))
  refine snd_val hs hd hrun (FLe.refl _) (MLe.append m _) hsim ?_ hk
  rw [← hs.sim.len]
  exact .nm m.length 0 0 len _ _ _ _ (push_last m _) (Nat.le_refl _) (fun _ => ⟨cap, hl, hc, .inl ⟨w.heap.size, rfl, rfl, by simp [hsz], hnz⟩⟩)
theorem Rels.one {cs : List AV} {vs : List Value} (hr : Rels F m cs vs) (h1 : cs.all AV.cell1 = true) : ∀ v ∈ vs, v.oneCell' = true := by
  intro v hv
  obtain ⟨j, hj⟩ := List.getElem?_of_mem hv
  have hlt : j < cs.length := by rw [hr.1]; exact (List.getElem?_eq_some_iff.1 hj).1
  exact (hr.2 j _ v (List.getElem?_eq_getElem hlt) hj).cell1 (List.all_eq_true.1 h1 _ (List.getElem_mem hlt))
theorem afill_length : ∀ (parts : List (Nat × Nat × AV)) {cells cs : List AV}, afill cells parts = some cs → cs.length = cells.length
  | [], cells, cs, h => by simp [afill] at h; rw [h]
  | (off, size, v) :: rest, cells, cs, h => by
    simp only [afill] at h
    split at h
    · rw [afill_length rest h, setMany_length]
    · simp at h
theorem snd_build (hs : St cx F m E H a w) (hd : ∀ t, o.dst = some t → t < cx.n) {t : TypeId} {ps : Array (Nat × Operand)} (ho : o.op = .build t ps) {fs : Array Field} {i : TypeInfo} {z : Value} (hu : P.underlying t = some (.struct fs)) (hi : P.info? t = some i) (hz : i.zero = some z)
    {places : Array (Nat × Nat)} (hpl : ∀ w, (fs.mapM fun f => do pure (f.offset, ← sizeOf f.type) : Sem (Array (Nat × Nat))).run P w = .ok places w) (parts : List (Nat × Nat × Nat × Operand)) (hparts : ps.toList = parts.map fun p => (p.1, p.2.2.2)) (hplace : ∀ p ∈ parts, places[p.1]? = some (p.2.1, p.2.2.1))
    (h1 : ∀ p ∈ parts, (partsOf (ev E p.2.2.2)).all AV.cell1 = true) {cs : List AV} (hf : afill (z.cells.toList.map .lit) (parts.map fun p => (p.2.1, p.2.2.1, ev E p.2.2.2)) = some cs) (hk : K (.agg cs) H) : o.wp P a w (Fin cx E o.dst K F m) Q := by
  obtain ⟨us, g1, g2⟩ := fill_sound (E := E) (F := F) (m := m) (a := a) (place := (places[·]?)) parts hplace (Rels.lits F m z.cells.toList) hs.ev h1 hf
  refine snd_pure hs hd (u := .agg us) ?_ (by have := Rel.agg (F := F) (m := m) cs us.toList g2.1 g2.2; simpa using this) hk
  have hps : (ps.map fun (p : Nat × Operand) => (p.1, a.eval p.2)).toList = parts.map fun p => (p.1, a.eval p.2.2.2) := by
    rw [Array.toList_map, hparts, List.map_map]; rfl
  have hps' : (ps.map fun (p : Nat × Operand) => (p.1, a.eval p.2)) = (parts.map fun p => (p.1, a.eval p.2.2.2)).toArray := by
    rw [← hps]
  have e1 : (execOp a.eval o) = (do let v ← Instr.build t (ps.map fun (p : Nat × Operand) => (p.1, a.eval p.2)); pure (.value v)) := by
    simp [execOp, ho]
  rw [e1, hps']
  simp only [Instr.build, Sem.run_bind, run_zeroValue' hi hz, Result.andThen_ok, run_underlying hu, hpl, g1, Sem.run_pure]
theorem snd_builda (hs : St cx F m E H a w) (hd : ∀ t, o.dst = some t → t < cx.n) {t : TypeId} {ps : Array (Nat × Operand)} (ho : o.op = .build t ps) {n : Nat} {el : TypeId} {i ie : TypeInfo} {z : Value} (hu : P.underlying t = some (.array n el)) (hi : P.info? t = some i) (hz : i.zero = some z) (hie : P.info? el = some ie)
    (h1 : ∀ p ∈ ps.toList, (partsOf (ev E p.2)).all AV.cell1 = true) {cs : List AV} (hf : afill (z.cells.toList.map .lit) (ps.toList.map fun p => (p.1 * ie.size, ie.size, ev E p.2)) = some cs) (hk : K (.agg cs) H) : o.wp P a w (Fin cx E o.dst K F m) Q := by
  have hf' : afill (z.cells.toList.map .lit) ((ps.toList.map fun p => (p.1, p.1 * ie.size, ie.size, p.2)).map fun p => (p.2.1, p.2.2.1, ev E p.2.2.2)) = some cs := by rw [List.map_map]; exact hf
  obtain ⟨us, g1, g2⟩ := fill_sound (E := E) (F := F) (m := m) (a := a) (place := fun i => some (i * ie.size, ie.size)) (ps.toList.map fun p => (p.1, p.1 * ie.size, ie.size, p.2)) (by
    intro p hp
    obtain ⟨q, _, rfl⟩ := List.mem_map.1 hp
    rfl) (Rels.lits F m z.cells.toList) hs.ev (by
    intro p hp
    obtain ⟨q, hq, rfl⟩ := List.mem_map.1 hp
    exact h1 q hq) hf'
  refine snd_pure hs hd (u := .agg us) ?_ (by have := Rel.agg (F := F) (m := m) cs us.toList g2.1 g2.2; simpa using this) hk
  have hps' : (ps.map fun (p : Nat × Operand) => (p.1, a.eval p.2)).toList = (ps.toList.map fun p => (p.1, p.1 * ie.size, ie.size, p.2)).map fun p => (p.1, a.eval p.2.2.2) := by
    rw [Array.toList_map, List.map_map]; rfl
  have e1 : (execOp a.eval o) = (do let v ← Instr.build t (ps.map fun (p : Nat × Operand) => (p.1, a.eval p.2)); pure (.value v)) := by
    simp [execOp, ho]
  rw [e1]
  simp only [Instr.build, Sem.run_bind, run_zeroValue' hi hz, Result.andThen_ok, run_underlying hu, run_sizeOf' hie, hps', g1, Sem.run_pure]
theorem snd_slc0 (hs : St cx F m E H a w) (hd : ∀ t, o.dst = some t → t < cx.n) {t e : TypeId} {x : Operand} {kh km : IntKind} (ho : o.op = .slice t x none (some (.const (.int kh 0))) (some (.const (.int km 0)))) {i : TypeInfo} (hu : P.underlying t = some (.slice e)) (hi' : P.info? e = some i)
    {p : Nat × List AV} (hv : aview H (ev E x) = some p) (hk : K (.nm H.length 0 0 0) (H ++ [⟨0, e, i.size, []⟩])) : o.wp P a w (Fin cx E o.dst K F m) Q := by
  obtain ⟨n, cells⟩ := p
  obtain ⟨hn, hcase⟩ := aview_sound hs.sim (hs.ev x) hv
  have hsl : ∃ q n cap, a.eval x = .slice q n cap := by
    rcases hcase with ⟨b, of, cap, vs, hval, hnc, _⟩ | ⟨⟨q, hval⟩, hn0, _⟩
    · exact ⟨_, _, _, hval⟩
    · exact ⟨_, _, _, hval⟩
  obtain ⟨q, n', cap, hval⟩ := hsl
  have hel : P.elem t = e := by simp [Program.elem, hu]
  have hu' : P.underlying t = some (.slice (P.elem t)) := by rw [hel]; exact hu
  have hrun : (execOp a.eval o).run P w = .ok (.value (.slice q 0 0)) w := by
    have e1 : (execOp a.eval o) = (do let v ← Instr.sliceAt t (.slice q n' cap) none (some (.int kh 0)) (some (.int km 0)); pure (.value v)) := by
      simp [execOp, ho, hval, show a.eval (.const (.int kh 0)) = .int kh 0 from rfl, show a.eval (.const (.int km 0)) = .int km 0 from rfl]
    rw [e1]
    simp only [Sem.run_bind, run_sliceAt_slice w t _ _ _ _ hu']
    rw [run_slice_hm w t q n' cap hu' kh km 0 0 (by omega) (by omega) (by omega), hel]
    simp [run_sizeOf' hi', sliced]
  have h1 := hs.sim.pushNil e i.size
  have hm1 := MLe.append m [⟨none, 0, e, i.size, 0⟩]
  refine snd_val hs hd hrun (FLe.refl _) hm1 h1 ?_ hk
  rw [← hs.sim.len]
  exact .nm m.length 0 0 0 ⟨none, 0, e, i.size, 0⟩ q 0 0 (by simp) (Nat.le_refl _) (fun _ => ⟨0, Nat.le_refl _, Nat.zero_le _, .inr ⟨rfl, ⟨q, rfl⟩, rfl, rfl⟩⟩)
theorem snd_bslice (hs : St cx F m E H a w) (hd : ∀ t, o.dst = some t → t < cx.n) {t e : TypeId} {n : Nat} {ps : Array (Nat × Operand)} (ho : o.op = .buildSlice t n ps) {i : TypeInfo} {z : Value} (hu : P.underlying t = some (.slice e)) (hi : P.info? e = some i) (hz : i.zero = some z) (hsz : 0 < i.size)
    (hn : n * i.size ≤ 2 ^ 24) (hzs : z.cells.size = i.size) (h1 : ∀ p ∈ ps.toList, (partsOf (ev E p.2)).all AV.cell1 = true) {cs : List AV}
    (hf : afill ((List.range (n * i.size)).map fun q => .lit (z.cells.toList.getD (q % i.size) undef)) (ps.toList.map fun p => (p.1 * i.size, i.size, ev E p.2)) = some cs) (hcs : cs.all AV.cell1 = true)
    (hk : K (.nm H.length 0 0 n) (H ++ [⟨0, e, i.size, cs⟩])) : o.wp P a w (Fin cx E o.dst K F m) Q := by
  have hzeros : ((Array.range (n * i.size)).map fun q => (if n * i.size = 0 then #[] else z.cells)[q % (if n * i.size = 0 then #[] else z.cells).size]!).toList = ((List.range (n * i.size)).map fun q => z.cells.toList.getD (q % i.size) undef) := by
    apply List.ext_getElem?
    intro q
    by_cases hq : q < n * i.size
    · have h0 : n * i.size ≠ 0 := by omega
      have hlt : q % i.size < z.cells.size := by rw [hzs]; exact Nat.mod_lt _ hsz
      simp [h0, hq, hzs, getElem!_pos z.cells (q % i.size) hlt]
      rw [Array.getElem?_eq_getElem hlt]; rfl
    · simp [hq]
  obtain ⟨us, g1, g2⟩ := fill_sound (E := E) (F := F) (m := m) (a := a) (place := fun q => some (q * i.size, i.size)) (ps.toList.map fun p => (p.1, p.1 * i.size, i.size, p.2))
    (cells := (List.range (n * i.size)).map fun q => .lit (z.cells.toList.getD (q % i.size) undef)) (vs := (Array.range (n * i.size)).map fun q => (if n * i.size = 0 then #[] else z.cells)[q % (if n * i.size = 0 then #[] else z.cells).size]!) (cs := cs)
    (by intro p hp; simp only [List.mem_map] at hp; obtain ⟨q, _, rfl⟩ := hp; rfl)
    (by
      rw [hzeros]
      have := Rels.lits F m ((List.range (n * i.size)).map fun q => z.cells.toList.getD (q % i.size) undef)
      rw [List.map_map] at this; exact this)
    hs.ev (by intro p hp; simp only [List.mem_map] at hp; obtain ⟨q, hq, rfl⟩ := hp; exact h1 q hq) (by rw [List.map_map]; exact hf)
  have hul : us.size = n * i.size := by
    have h3 : us.toList.length = us.size := Array.length_toList
    rw [← h3, ← g2.1, afill_length _ hf]; simp
  have hmax : n ≤ maxLen := by
    have : n ≤ n * i.size := Nat.le_mul_of_pos_right n hsz
    simp only [maxLen]; omega
  have e1 : (execOp a.eval o) = (do let v ← Instr.buildSlice t n (ps.map fun (p : Nat × Operand) => (p.1, a.eval p.2)); pure (.value v)) := by
    simp [execOp, ho]
  have hps : (ps.map fun (p : Nat × Operand) => (p.1, a.eval p.2)).toList = (ps.toList.map fun p => (p.1, p.1 * i.size, i.size, p.2)).map fun p => (p.1, a.eval p.2.2.2) := by
    rw [Array.toList_map, List.map_map]; rfl
  refine snd_newrow hs hd (cap := n) (by omega) g2 (Rels.one g2 hcs) (Nat.le_refl _) hmax hul ?_ hk
  rw [e1]
  simp only [Instr.buildSlice, Sem.run_bind, run_underlying hu, Result.andThen_ok, run_sizeOf' hi]
  rw [if_neg (by omega)]
  by_cases h0 : n * i.size = 0
  · simp only [if_pos h0] at g1 ⊢
    simp only [Sem.run_bind, Sem.run_pure, Result.andThen_ok, hps, g1, newRow, run_newObj, World.alloc_eq]
  · simp only [if_neg h0] at g1 ⊢
    simp only [Sem.run_bind, Sem.run_pure, Result.andThen_ok, run_zeroValue' hi hz, hps, g1, newRow, run_newObj, World.alloc_eq]
theorem madeCells_toList_one (z : Value) (n : Nat) : (madeCells #[z] n).toList = List.replicate n z := toList_madeCells_one z n
theorem snd_mslice (hs : St cx F m E H a w) (hd : ∀ t, o.dst = some t → t < cx.n) {t e : TypeId} {l c : Operand} (ho : o.op = .makeSlice t l c) {i : TypeInfo} {z : Value} (hu : P.underlying t = some (.slice e)) (hi : P.info? e = some i) (hz : i.zero = some z) (hsz : i.size = 1) (hz1 : z.oneCell' = true)
    {kl kc : IntKind} {x y : Int} (hl : ev E l = .lit (.int kl x)) (hc : ev E c = .lit (.int kc y)) (h0 : 0 ≤ x) (hxy : x ≤ y) (hb : y * i.bytes ≤ 281474976710656) (hy : y ≤ 281474976710656)
    (hk : K (.nm H.length 0 0 x.toNat) (H ++ [⟨0, e, 1, List.replicate y.toNat (.lit z)⟩])) : o.wp P a w (Fin cx E o.dst K F m) Q := by
  have h1 := hs.ev l
  have h2 := hs.ev c
  rw [hl] at h1; rw [hc] at h2
  have g1 := h1.lit_inv
  have g2 := h2.lit_inv
  have hzc : z.cells = #[z] := by cases z <;> simp_all [Value.cells, Value.oneCell']
  have hrun := run_make (P := P) w t e i z hu hi hz kl kc x y h0 hxy (by rw [Int.mul_comm]; exact hb) (by omega)
  rw [hzc, hsz, Nat.mul_one] at hrun
  have hm : (madeCells #[z] y.toNat).toList = List.replicate y.toNat z := madeCells_toList_one z _
  refine snd_newrow hs hd (ty := e) (sz := 1) (cap := y.toNat) (arr := madeCells #[z] y.toNat) (cs := List.replicate y.toNat (.lit z)) (by decide) ?_ ?_ (by omega) (by simp only [maxLen]; omega) (by rw [size_madeCells]; omega) ?_ hk
  · rw [hm]
    have := Rels.lits F m (List.replicate y.toNat z)
    simpa using this
  · rw [hm]; intro v hv; have := List.eq_of_mem_replicate hv; rw [this]; exact hz1
  · simp [execOp, ho, g1, g2, hrun]
theorem snd_msliceN (hs : St cx F m E H a w) (hd : ∀ t, o.dst = some t → t < cx.n) {t e : TypeId} {l c : Operand} (ho : o.op = .makeSlice t l c) {i : TypeInfo} {z : Value} (hu : P.underlying t = some (.slice e)) (hi : P.info? e = some i) (hz : i.zero = some z) (hpos : 0 < i.size) (hzs : z.cells.size = i.size) (hz1 : z.cells.toList.all Value.oneCell' = true)
    {kl kc : IntKind} {x y : Int} (hl : ev E l = .lit (.int kl x)) (hc : ev E c = .lit (.int kc y)) (h0 : 0 ≤ x) (hxy : x ≤ y) (hb : y * i.bytes ≤ 281474976710656) (hy : y ≤ 281474976710656)
    (hk : K (.nm H.length 0 0 x.toNat) (H ++ [⟨0, e, z.cells.toList.length, (List.range (y.toNat * z.cells.toList.length)).map fun q => .lit (z.cells.toList.getD (q % z.cells.toList.length) undef)⟩])) : o.wp P a w (Fin cx E o.dst K F m) Q := by
  have h1 := hs.ev l
  have h2 := hs.ev c
  rw [hl] at h1; rw [hc] at h2
  have g1 := h1.lit_inv
  have g2 := h2.lit_inv
  have hrun := run_make (P := P) w t e i z hu hi hz kl kc x y h0 hxy (by rw [Int.mul_comm]; exact hb) (by omega)
  have hlen : z.cells.toList.length = i.size := by rw [Array.length_toList, hzs]
  have hget : ∀ q, q < i.size → z.cells[q]! = z.cells.toList.getD q undef := fun q hq => by
    rw [getElem!_pos z.cells q (by omega), List.getD_eq_getElem?_getD, List.getElem?_eq_getElem (by rw [hlen]; exact hq)]
    rfl
  have hm : (madeCells z.cells (y.toNat * i.size)).toList = (List.range (y.toNat * i.size)).map fun q => z.cells.toList.getD (q % i.size) undef := by
    unfold madeCells
    rw [Array.toList_map, Array.toList_range]
    refine List.map_congr_left fun q _ => ?_
    rw [hzs]
    exact hget _ (Nat.mod_lt _ hpos)
  rw [hlen] at hk
  refine snd_newrow hs hd (ty := e) (sz := i.size) (cap := y.toNat) (arr := madeCells z.cells (y.toNat * i.size)) (cs := (List.range (y.toNat * i.size)).map fun q => .lit (z.cells.toList.getD (q % i.size) undef)) (by omega) ?_ ?_ (by omega) (by simp only [maxLen]; omega) (by rw [size_madeCells]) ?_ hk
  · rw [hm]
    have := Rels.lits F m ((List.range (y.toNat * i.size)).map fun q => z.cells.toList.getD (q % i.size) undef)
    rw [List.map_map] at this
    exact this
  · rw [hm]; intro v hv
    obtain ⟨q, _, rfl⟩ := List.mem_map.1 hv
    have hq : q % i.size < z.cells.toList.length := by rw [hlen]; exact Nat.mod_lt _ hpos
    rw [List.getD_eq_getElem?_getD, List.getElem?_eq_getElem hq]
    exact List.all_eq_true.1 hz1 _ (List.getElem_mem hq)
  · simp [execOp, ho, g1, g2, hrun]
theorem snd_call (hs : St cx F m E H a w) (hd : ∀ t, o.dst = some t → t < cx.n) {f : FuncId} {args : List AV} {vs : List Value} (hrun : (execOp a.eval o).run P w = .ok (.enter f vs.toArray) w) (hr : Rels F m args vs)
    (hk : ACalls P f args H K) : o.wp P a w (Fin cx E o.dst K F m) Q := by
  unfold Oper.wp
  rw [hrun]
  show Calls P f vs.toArray w _
  refine (hk cx.B cx.W0 F m w vs hr hs.sim).mono ?_
  rintro e w' ⟨F', m', H', r, v, rfl, hF, hm, hrv, hsim, hK⟩
  exact ⟨F', m', r, H', hK, hF, hm, hs.put hF hm hsim hd hrv⟩
theorem run_callFunc {f : FuncId} (hc : callable P f = true) (args : Array Value) (w : World) : (callFunc f args).run P w = .ok (.enter f args) w := by
  unfold callable at hc
  split at hc
  · rename_i fn hf
    simp only [Bool.and_eq_true, Bool.not_eq_true'] at hc
    have hb : fn.body.isNone = false := by cases h : fn.body <;> simp_all
    unfold callFunc
    simp only [Sem.run_bind, run_program, Result.andThen_ok, hf]
    rw [if_neg (by rw [hc.1]; simp), if_neg (by rw [hb]; simp)]
    rfl
  · simp at hc
theorem run_call_static {c : Call} {f : FuncId} (ho : o.op = .call c) (hcal : c.callee = .value (.func f)) (hc : callable P f = true) : (execOp a.eval o).run P w = .ok (.enter f (c.args.toList.map a.eval).toArray) w := by
  have : c.args.map a.eval = (c.args.toList.map a.eval).toArray := by apply Array.ext'; simp
  simp [execOp, ho, resolve, hcal, Act.eval, Deferred.ofValue, invoke, run_callFunc hc, this]
theorem run_call_value {c : Call} {x : Operand} (ho : o.op = .call c) (hcal : c.callee = .value x) {f : FuncId} {us : List Value} (hx : a.eval x = .func (.func f) #[] us.toArray) (hc : callable P f = true) :
    (execOp a.eval o).run P w = .ok (.enter f (c.args.toList.map a.eval ++ us).toArray) w := by
  have : c.args.map a.eval ++ us.toArray = (c.args.toList.map a.eval ++ us).toArray := by apply Array.ext'; simp
  simp [execOp, ho, resolve, hcal, hx, Deferred.ofValue, invoke, run_callFunc hc, this]
theorem Rel.fn_inv {f : FuncId} {cs : List AV} {v : Value} (h : Rel F m (.fn f cs) v) : ∃ us : List Value, v = .func (.func f) #[] us.toArray ∧ Rels F m cs us := by
  cases h with
  | fn _ _ us h1 h2 => exact ⟨us, rfl, h1, h2⟩
theorem snd_callf (hs : St cx F m E H a w) (hd : ∀ t, o.dst = some t → t < cx.n) {c : Call} {f : FuncId} (ho : o.op = .call c) (hcal : c.callee = .value (.func f)) (hc : callable P f = true) (hk : ACalls P f (c.args.toList.map (ev E)) H K) : o.wp P a w (Fin cx E o.dst K F m) Q :=
  snd_call hs hd (run_call_static ho hcal hc) (hs.evs _) hk
theorem snd_callv (hs : St cx F m E H a w) (hd : ∀ t, o.dst = some t → t < cx.n) {c : Call} {x : Operand} (ho : o.op = .call c) (hcal : c.callee = .value x) {f : FuncId} {cs : List AV} (hx : ev E x = .fn f cs) (hc : callable P f = true)
    (hk : ACalls P f (c.args.toList.map (ev E) ++ cs) H K) : o.wp P a w (Fin cx E o.dst K F m) Q := by
  have h1 := hs.ev x
  rw [hx] at h1
  obtain ⟨us, hv, hr⟩ := h1.fn_inv
  exact snd_call hs hd (run_call_value ho hcal hv hc) ((hs.evs _).append hr) hk
theorem snd_slc (hs : St cx F m E H a w) (hd : ∀ t, o.dst = some t → t < cx.n) {t e : TypeId} {x : Operand} {lo hi : Option Operand} (ho : o.op = .slice t x lo hi none) {i : TypeInfo} (hu : P.underlying t = some (.slice e)) (hi' : P.info? e = some i) (_hsz : 0 < i.size)
    (hk : swpSlc i.size H (ev E x) (lo.map (ev E)) (hi.map (ev E)) fun v => K v H) : o.wp P a w (Fin cx E o.dst K F m) Q := by
  have hrx := hs.ev x
  unfold swpSlc at hk
  split at hk
  case h_2 => exact hk.elim
  case h_1 n cells hview =>
    split at hk
    case h_2 => exact hk.elim
    case h_1 l h hl hh =>
      obtain ⟨h0, hlh, hhn, hsz0, hK⟩ := hk
      obtain ⟨hn, hcase⟩ := aview_sound hs.sim hrx hview
      have hsl : ∃ p cap, a.eval x = .slice p n cap ∧ n ≤ cap := by
        rcases hcase with ⟨b, of, cap, vs, hval, hnc, _⟩ | ⟨⟨q, hval⟩, hn0, _⟩
        · exact ⟨_, _, hval, hnc⟩
        · exact ⟨_, _, by rw [hval, hn0], by omega⟩
      obtain ⟨p, cap, hval, hnc⟩ := hsl
      have hel : P.elem t = e := by simp [Program.elem, hu]
      have hu' : P.underlying t = some (.slice (P.elem t)) := by rw [hel]; exact hu
      -- the values of the bounds
      have hlo : (lo.map a.eval = none ∧ l = 0) ∨ ∃ k, lo.map a.eval = some (.int k l) := by
        cases lo with
        | none => simp at hl; exact .inl ⟨rfl, hl.symm⟩
        | some q =>
          right
          have hq := hs.ev q
          simp only [Option.map_some] at hl
          split at hl
          · rename_i k l' heq
            simp only [Option.some.injEq] at heq
            rw [heq] at hq
            simp only [Option.some.injEq] at hl
            subst hl
            exact ⟨k, by simp [hq.lit_inv]⟩
          · simp at *
          · simp at hl
      have hhi : (hi.map a.eval = none ∧ h = n) ∨ ∃ k, hi.map a.eval = some (.int k h) := by
        cases hi with
        | none => simp at hh; exact .inl ⟨rfl, hh.symm⟩
        | some q =>
          right
          have hq := hs.ev q
          simp only [Option.map_some] at hh
          split at hh
          · rename_i k l' heq
            simp only [Option.some.injEq] at heq
            rw [heq] at hq
            simp only [Option.some.injEq] at hh
            subst hh
            exact ⟨k, by simp [hq.lit_inv]⟩
          · simp at *
          · simp at hh
      have hrun : (execOp a.eval o).run P w = .ok (.value (.slice (if cap = l.toNat then p else p.map (·.add (l.toNat * i.size))) (h.toNat - l.toNat) (cap - l.toNat))) w := by
        have e1 : (execOp a.eval o) = (do let v ← Instr.sliceAt t (.slice p n cap) (lo.map a.eval) (hi.map a.eval) none; pure (.value v)) := by
          simp [execOp, ho, hval]
        rw [e1]
        simp only [Sem.run_bind, run_sliceAt_slice w t _ _ _ _ hu']
        rcases hlo with ⟨hlo, rfl⟩ | ⟨kl, hlo⟩ <;> rcases hhi with ⟨hhi, rfl⟩ | ⟨kh, hhi⟩ <;> rw [hlo, hhi]
        · rw [run_slice_all w t p n cap hu', hel]; simp [run_sizeOf' hi', sliced]
        · rw [run_slice_h w t p n cap hu' kh h (by omega) (by omega), hel]; simp [run_sizeOf' hi', sliced]
        · rw [run_slice_l w t p n cap hu' kl l (by omega) (by omega), hel]; simp [run_sizeOf' hi', sliced]
        · rw [run_slice_lh w t p n cap hu' kl kh l h (by omega) (by omega) (by omega), hel]; simp [run_sizeOf' hi', sliced]
      refine snd_pure hs hd hrun ?_ hK
      cases hrx' : ev E x with
      | nm j ver off n' =>
        rw [hrx'] at hrx hview
        simp only
        generalize hxv : a.eval x = xv at hrx hval
        cases hrx with
        | nm _ _ _ _ en p' q' cap' h1 h2 h3 =>
          simp only [Value.slice.injEq] at hval
          obtain ⟨rfl, _, rfl⟩ := hval
          simp only [aview] at hview
          split at hview
          case h_2 => simp at hview
          case h_1 k hk =>
            split at hview
            case isFalse => simp at hview
            case isTrue hver =>
              simp only [Option.some.injEq, Prod.mk.injEq] at hview
              obtain ⟨rfl, _⟩ := hview
              have hok := hs.sim.blk j en k h1 hk
              obtain ⟨c, g1, g2, g3⟩ := h3 (by rw [hok.1, hver])
              by_cases hl0 : l = 0
              · subst hl0
                rw [if_pos rfl]
                have e0 : (0 : Int).toNat = 0 := rfl
                simp only [e0, Nat.zero_mul, Nat.sub_zero]
                have ep : (if cap' = 0 then p' else Option.map (fun x => x.add 0) p') = p' := by
                  split
                  · rfl
                  · cases p' <;> simp [Addr.add]
                rw [ep]
                refine .nm j ver off h.toNat en _ _ _ h1 h2 (fun _ => ⟨c, ?_⟩)
                rcases g3 with ⟨b, hb, hv, hsz'⟩ | ⟨hb, hv, hn0, ho0⟩
                · simp only [Value.slice.injEq] at hv
                  obtain ⟨rfl, _, rfl⟩ := hv
                  exact ⟨by omega, g2, .inl ⟨b, hb, rfl, hsz'⟩⟩
                · obtain ⟨qq, hv⟩ := hv
                  simp only [Value.slice.injEq] at hv
                  obtain ⟨rfl, hq, rfl⟩ := hv
                  have : h.toNat = 0 := by omega
                  rw [this]
                  exact ⟨by omega, g2, .inr ⟨hb, ⟨_, rfl⟩, rfl, ho0⟩⟩
              · rw [if_neg hl0]
                by_cases hlh' : l = h
                · rw [if_pos hlh']
                  subst hlh'
                  rw [Nat.sub_self]
                  rcases g3 with ⟨b, hb, hv, hsz'⟩ | ⟨hb, hv, hn0, ho0⟩
                  · simp only [Value.slice.injEq] at hv
                    obtain ⟨rfl, _, rfl⟩ := hv
                    split
                    · exact .il 0 [] b off _ [] (Nat.zero_le _) (by omega) rfl (fun j v hj => by simp at hj) (fun j c v hj => by simp at hj)
                    · simp only [Option.map_some, Addr.add_none]
                      exact .il 0 [] b _ _ [] (Nat.zero_le _) (by omega) rfl (fun j v hj => by simp at hj) (fun j c v hj => by simp at hj)
                  · omega
                · rw [if_neg hlh']
                  rcases g3 with ⟨b, hb, hv, hsz'⟩ | ⟨hb, hv, hn0, ho0⟩
                  · simp only [Value.slice.injEq] at hv
                    obtain ⟨rfl, _, rfl⟩ := hv
                    rw [if_neg (by omega)]
                    simp only [Option.map_some, Addr.add_none]
                    refine .nm j ver (off + l.toNat * i.size) (h.toNat - l.toNat) en _ _ _ h1 h2 (fun _ => ⟨cap' - l.toNat, by omega, by omega, .inl ⟨b, hb, rfl, ?_⟩⟩)
                    have hsz2 : en.sz = i.size := by
                      have := hsz0 j ver off n' hrx'
                      rw [hk] at this
                      simp at this
                      rw [hok.2.2.1, this]
                    rw [hsz2] at hsz' ⊢
                    refine ⟨?_, hsz'.2⟩
                    rw [← hsz'.1, Nat.add_assoc, ← Nat.add_mul]
                    congr 2; omega
                  · omega
      | il n' cells' =>
        rw [hrx'] at hrx hview
        simp only [aview, Option.some.injEq, Prod.mk.injEq] at hview
        obtain ⟨rfl, rfl⟩ := hview
        simp only
        generalize hxv : a.eval x = xv at hrx hval
        cases hrx with
        | il0 =>
          simp only [Value.slice.injEq] at hval
          obtain ⟨rfl, _, rfl⟩ := hval
          have e1 : l.toNat = 0 := by omega
          have e2 : h.toNat = 0 := by omega
          rw [e1, e2]
          simp
          exact .il0
        | il1 ad =>
          simp only [Value.slice.injEq] at hval
          obtain ⟨rfl, _, rfl⟩ := hval
          have e1 : l.toNat = 0 := by omega
          have e2 : h.toNat = 0 := by omega
          rw [e1, e2]
          simp
          exact .il1 ad
        | il _ _ b of c vs h1 h2 h3 h4 h5 =>
          simp only [Value.slice.injEq] at hval
          obtain ⟨rfl, _, rfl⟩ := hval
          have hr2 : Rels F m ((cells'.drop (l.toNat * i.size)).take ((h.toNat - l.toNat) * i.size)) ((vs.drop (l.toNat * i.size)).take ((h.toNat - l.toNat) * i.size)) := Rels.take (Rels.drop ⟨h3, h5⟩ _) _
          have hcell : ∀ (q : Nat) (v : Value), ((vs.drop (l.toNat * i.size)).take ((h.toNat - l.toNat) * i.size))[q]? = some v → F b (of + l.toNat * i.size + q) v := by
            intro q v hq
            rw [List.getElem?_take] at hq
            split at hq
            · rw [List.getElem?_drop] at hq
              rw [Nat.add_assoc]; exact h4 _ v hq
            · simp at hq
          split
          · rename_i hcl
            have : h.toNat - l.toNat = 0 := by omega
            rw [this] at hr2 ⊢
            simp only [Nat.zero_mul, List.take_zero] at hr2 ⊢
            exact .il 0 [] b of _ [] (Nat.zero_le _) (by omega) rfl (fun j v hj => by simp at hj) (fun j c v hj => by simp at hj)
          · simp only [Option.map_some, Addr.add_none]
            exact .il _ _ b _ _ _ (by omega) (by omega) hr2.1 hcell hr2.2
      | lit v =>
        rw [hrx'] at hrx hview
        have hx : v = Value.slice none 0 0 ∧ n = 0 ∧ cells = [] := by
          unfold aview at hview
          split at hview <;> simp_all
        obtain ⟨rfl, rfl, rfl⟩ := hx
        have := hrx.lit_inv
        rw [this] at hval
        simp only [Value.slice.injEq] at hval
        obtain ⟨rfl, _, rfl⟩ := hval
        have e1 : l.toNat = 0 := by omega
        have e2 : h.toNat = 0 := by omega
        rw [e1, e2]
        simp
        exact .il0
      | junk => rw [hrx'] at hview; simp [aview] at hview
      | pc i ver off => rw [hrx'] at hview; simp [aview] at hview
      | mp i ver => rw [hrx'] at hview; simp [aview] at hview
      | el s k => rw [hrx'] at hview; simp [aview] at hview
      | agg cs => rw [hrx'] at hview; simp [aview] at hview
      | tup cs => rw [hrx'] at hview; simp [aview] at hview
      | fn f cs => rw [hrx'] at hview; simp [aview] at hview
theorem MK.of_val {c : AV} {v : Value} {k : MK} (hr : Rel F m c v) (h : MK.of c = some k) : v = k.val := by
  unfold MK.of at h
  split at h
  · simp only [Option.some.injEq] at h; subst h; exact hr.lit_inv
  · simp only [Option.some.injEq] at h
    subst h
    cases hr with
    | agg cs vs h1 h2 =>
      match vs, h1 with
      | [x, y], _ =>
        have e1 := (h2 0 _ x rfl rfl).lit_inv
        have e2 := (h2 1 _ y rfl rfl).lit_inv
        rw [e1, e2]; rfl
  · simp at h
theorem mapC_nil : mapC [] = [] := rfl
theorem mapC_cons (p : MK × Value) (ps : List (MK × Value)) : mapC (p :: ps) = .lit p.1.val :: .lit p.2 :: mapC ps := rfl
theorem entC_inv : ∀ {l : List MapEntry} {ps : List (MK × Value)}, mapC ps = (l.flatMap fun x => [AV.lit x.key, AV.lit x.val]) → l.map (fun x => (x.key, x.val)) = ps.map fun p => (p.1.val, p.2)
  | [], [], _ => rfl
  | [], p :: ps, h => by rw [mapC_cons] at h; simp at h
  | x :: l, [], h => by rw [mapC_nil] at h; simp at h
  | x :: l, p :: ps, h => by
    rw [mapC_cons, List.flatMap_cons] at h
    simp only [List.cons_append, List.nil_append, List.cons.injEq, AV.lit.injEq] at h
    obtain ⟨h1, h2, h3⟩ := h
    rw [List.map_cons, List.map_cons, entC_inv h3, h1, h2]
theorem MK.str_key {k : MK} (h : k.kind = 0) : ∃ b, k = .s b := by cases k with | s b => exact ⟨b, rfl⟩ | p a b => simp [MK.kind] at h
theorem findNow_str {l : List MapEntry} {ps : List (MK × Value)} (h : l.map (fun x => (x.key, x.val)) = ps.map fun p => (p.1.val, p.2)) (hk : ∀ p ∈ ps, p.1.kind = 0) (b : ByteArray) (i : Nat) :
    ∃ r, Instr.findNow .string (.string b) l i = some r ∧ r.map Prod.snd = (ps.find? fun p => decide (p.1 = .s b)).map Prod.snd := by
  induction l generalizing ps i with
  | nil =>
    cases ps with
    | nil => exact ⟨none, rfl, rfl⟩
    | cons p ps => simp at h
  | cons x l ih =>
    cases ps with
    | nil => simp at h
    | cons p ps =>
      simp only [List.map_cons, List.cons.injEq, Prod.mk.injEq] at h
      obtain ⟨⟨h1, h2⟩, h3⟩ := h
      obtain ⟨c, hc⟩ := MK.str_key (hk p (by simp))
      have e1 : x.key = .string c := by rw [h1, hc]; rfl
      unfold Instr.findNow
      rw [e1]
      simp only [Instr.sameNow]
      by_cases hbc : b = c
      · have : (b == c) = true := (MapKept.bytes_beq b c).2 hbc
        rw [this]
        refine ⟨_, rfl, ?_⟩
        rw [List.find?_cons_of_pos (by rw [hc, hbc]; simp)]
        simp [h2]
      · have : (b == c) = false := by
          rw [Bool.eq_false_iff]; exact fun hh => hbc ((MapKept.bytes_beq b c).1 hh)
        rw [this]
        obtain ⟨r, g1, g2⟩ := ih h3 (fun p hp => hk p (List.mem_cons_of_mem _ hp)) (i + 1)
        refine ⟨r, g1, ?_⟩
        rw [List.find?_cons_of_neg (by rw [hc]; simp; exact fun hh => hbc hh.symm)]
        exact g2
def isArrP (P : Program) (kt : TypeId) : Bool := match P.underlying kt with
  | some (.array 2 e) => (match P.underlying e, P.info? e with
    | some (.int .i64), some i => i.size == 1
    | _, _ => false)
  | _ => false
theorem isArrP_facts {P : Program} {kt : TypeId} (h : isArrP P kt = true) : ∃ e i, P.underlying kt = some (.array 2 e) ∧ P.underlying e = some (.int .i64) ∧ P.info? e = some i ∧ i.size = 1 := by
  unfold isArrP at h
  split at h
  · rename_i e hu
    split at h
    · rename_i i e1 e2
      exact ⟨e, i, hu, e1, e2, by simpa using h⟩
    · cases h
  · cases h
theorem equal_arr {kt : TypeId} (hp : isArrP P kt = true) (a b c d : Int) (w : World) :
    (Op.equalIn 10000 kt (.agg #[.int .i64 a, .int .i64 b]) (.agg #[.int .i64 c, .int .i64 d])).run P w = .ok (decide (a = c) && decide (b = d)) w := by
  obtain ⟨e, i, hu, e1, hi, hs⟩ := isArrP_facts hp
  have q1 : ∀ (x y : Int), (x == y) = decide (x = y) := fun x y => by by_cases h : x = y <;> simp [h]
  have p1 : ∀ (xs : Array Value) (v : Value) (j : Nat) (w : World), xs[j]? = some v → (part e xs j).run P w = .ok v w := fun xs v j w h => by simp [part, run_isAgg_i64 e1, h]
  have hc : P.cellsOf e = 1 := by simp [Program.cellsOf, hi, hs]
  rw [run_equalIn_array w 9999 _ _ hu hi, hc, show List.range 2 = [0, 1] by rfl]
  simp only [Op.eqItems, Sem.run_bind, Nat.mul_one]
  rw [p1 #[.int .i64 a, .int .i64 b] (.int .i64 a) 0 w rfl, Result.andThen_ok, p1 #[.int .i64 c, .int .i64 d] (.int .i64 c) 0 w rfl, Result.andThen_ok, run_equalIn_int w 9998 _ _ _ _ _ e1, Result.andThen_ok, q1]
  by_cases h : a = c
  · simp only [h, decide_true, Bool.not_true, Bool.false_eq_true, if_false, Sem.run_bind, Bool.true_and]
    rw [p1 #[.int .i64 c, .int .i64 b] (.int .i64 b) 1 w rfl, Result.andThen_ok, p1 #[.int .i64 c, .int .i64 d] (.int .i64 d) 1 w rfl, Result.andThen_ok, run_equalIn_int w 9998 _ _ _ _ _ e1, Result.andThen_ok, q1]
    by_cases h' : b = d <;> simp [h']
  · simp [h]
theorem MK.pair_key {k : MK} (h : k.kind = 1) : ∃ a b, k = .p a b := by cases k with | s b => simp [MK.kind] at h | p a b => exact ⟨a, b, rfl⟩
theorem findAsk_pair {kt : TypeId} (hp : isArrP P kt = true) (w : World) {l : List MapEntry} {ps : List (MK × Value)} (h : l.map (fun x => (x.key, x.val)) = ps.map fun p => (p.1.val, p.2)) (hk : ∀ p ∈ ps, p.1.kind = 1) (a b : Int) (i : Nat) :
    ∃ r, (Instr.findAsking kt (.agg #[.int .i64 a, .int .i64 b]) l i).run P w = .ok r w ∧ r.map Prod.snd = (ps.find? fun p => decide (p.1 = .p a b)).map Prod.snd := by
  induction l generalizing ps i with
  | nil =>
    cases ps with
    | nil => exact ⟨none, by simp [Instr.findAsking], rfl⟩
    | cons p ps => simp at h
  | cons x l ih =>
    cases ps with
    | nil => simp at h
    | cons p ps =>
      simp only [List.map_cons, List.cons.injEq, Prod.mk.injEq] at h
      obtain ⟨⟨h1, h2⟩, h3⟩ := h
      obtain ⟨c, d, hc⟩ := MK.pair_key (hk p (by simp))
      have e1 : x.key = .agg #[.int .i64 c, .int .i64 d] := by rw [h1, hc]; rfl
      have hq : (Op.equal kt (.agg #[.int .i64 a, .int .i64 b]) x.key).run P w = .ok (decide (a = c) && decide (b = d)) w := by rw [e1]; exact equal_arr hp a b c d w
      by_cases hbc : a = c ∧ b = d
      · have : (decide (a = c) && decide (b = d)) = true := by simp [hbc]
        rw [this] at hq
        refine ⟨some (i, x.val), by simp [Instr.findAsking, hq], ?_⟩
        rw [List.find?_cons_of_pos (by rw [hc, hbc.1, hbc.2]; simp)]
        simp [h2]
      · have : (decide (a = c) && decide (b = d)) = false := by
          rw [Bool.and_eq_false_iff, decide_eq_false_iff_not, decide_eq_false_iff_not]; omega
        rw [this] at hq
        obtain ⟨r, g1, g2⟩ := ih h3 (fun p hp => hk p (List.mem_cons_of_mem _ hp)) (i + 1)
        refine ⟨r, by simp [Instr.findAsking, hq, g1], ?_⟩
        rw [List.find?_cons_of_neg (by rw [hc]; simp; intro e; exact fun e2 => hbc ⟨e.symm, e2.symm⟩)]
        exact g2
theorem run_findKey_arr {kt : TypeId} (hp : isArrP P kt = true) (w : World) (x : Value) (es : List MapEntry) : (Instr.findKey kt x es).run P w = (Instr.findAsking kt x es).run P w := by
  obtain ⟨e, i, hu, _⟩ := isArrP_facts hp
  cases es with
  | nil => simp [Instr.findKey, run_underlying hu, Instr.findNow, Instr.findAsking]
  | cons e es => simp [Instr.findKey, run_underlying hu, Instr.findNow, Instr.sameNow]
theorem run_checkKey_arr {kt : TypeId} (hp : isArrP P kt = true) (w : World) (em : Bool) (a b : Int) : (Instr.checkKey em 10000 kt (.agg #[.int .i64 a, .int .i64 b])).run P w = .ok () w := by
  obtain ⟨e, i, hu, e1, hi, hs⟩ := isArrP_facts hp
  have p1 : ∀ (xs : Array Value) (v : Value) (j : Nat) (w : World), xs[j]? = some v → (part e xs j).run P w = .ok v w := fun xs v j w h => by simp [part, run_isAgg_i64 e1, h]
  have c1 : ∀ (n : Nat) (x : Int), (Instr.checkKey em (n + 1) e (.int .i64 x)).run P w = .ok () w := fun n x => by simp [Instr.checkKey, run_underlying e1]
  rw [show (10000 : Nat) = 9998 + 1 + 1 from rfl, Instr.checkKey]
  simp only [Sem.run_bind, run_underlying hu, Result.andThen_ok]
  simp only [Std.Legacy.Range.forIn_eq_forIn_range', Std.Legacy.Range.size, Nat.sub_zero, Nat.add_one_sub_one, Nat.div_one]
  rw [show List.range' 0 2 = [0, 1] from rfl]
  simp only [List.forIn_cons, List.forIn_nil, Sem.run_bind, run_sizeOf' hi, Result.andThen_ok, hs, Nat.mul_one, p1 #[.int .i64 a, .int .i64 b] (.int .i64 a) 0 w rfl, p1 #[.int .i64 a, .int .i64 b] (.int .i64 b) 1 w rfl, c1, Sem.run_pure]
theorem snd_mkmap (hs : St cx F m E H a w) (hd : ∀ t, o.dst = some t → t < cx.n) {t : TypeId} {r : Option Operand} (ho : o.op = .makeMap t r) (hr : r = none ∨ ∃ k n ki ei, r = some (.const (.int k n)) ∧ P.underlying t = some (.map ki ei))
    (hk : K (.mp H.length 0) (H ++ [⟨0, t, 0, []⟩])) : o.wp P a w (Fin cx E o.dst K F m) Q := by
  have hrun : (execOp a.eval o).run P w = .ok (.value (.map (some w.heap.size))) (w.alloc (.map #[] 0)) := by
    have e1 : (execOp a.eval o) = (do let v ← Instr.makeMap t (r.map a.eval); pure (.value v)) := by simp [execOp, ho]
    rw [e1]
    rcases hr with rfl | ⟨k, n, ki, ei, rfl, hu⟩
    · simp [Instr.makeMap, Result.andThen]
    · have : a.eval (.const (.int k n)) = .int k n := rfl
      simp [Instr.makeMap, Result.andThen, this, run_underlying hu, asInt, asIntOf]
  refine snd_val hs hd hrun (FLe.refl _) (MLe.append m _) (hs.sim.pushMap t) ?_ hk
  rw [← hs.sim.len]
  exact .mp m.length 0 _ _ (push_last m _) (Nat.le_refl _) (fun _ => ⟨w.heap.size, rfl, rfl, rfl⟩)
theorem Rel.mp_inv {i ver : Nat} {v : Value} (h : Rel F m (.mp i ver) v) : ∃ (e : Ent) (p : Option Nat), v = .map p ∧ m[i]? = some e ∧ (ver = e.ver → ∃ b, e.blk = some b ∧ p = some b ∧ e.sz = 0) := by
  cases h with
  | mp _ _ e p h1 h2 h3 => exact ⟨e, p, rfl, h1, h3⟩
theorem snd_mget (hs : St cx F m E H a w) (hd : ∀ t, o.dst = some t → t < cx.n) {t kt et : TypeId} {x k : Operand} (ho : o.op = .lookup t x k false) (hu : P.underlying t = some (.map kt et)) (hkt : P.underlying kt = some .string)
    {it : TypeInfo} {z : Value} (hi : P.info? et = some it) (hz : it.zero = some z) (hk : swpOp P (.mget 0 z x k) (ev E) H K) : o.wp P a w (Fin cx E o.dst K F m) Q := by
  simp only [swpOp] at hk
  split at hk
  case h_2 => exact hk.elim
  case h_1 i ver hm =>
    obtain ⟨ty, ps, key, hH, hkey, hkd, hps, hK⟩ := hk
    have hrx := hs.ev x
    rw [hm] at hrx
    obtain ⟨e, p, hv, he, hb⟩ := hrx.mp_inv
    have hok := hs.sim.blk i e _ he hH
    obtain ⟨b, hbb, rfl, hsz⟩ := hb hok.1.symm
    obtain ⟨_, es, clock, hh, hc⟩ := hok.mps hsz hbb
    obtain ⟨s, rfl⟩ := MK.str_key hkd
    have hkv := MK.of_val (hs.ev k) hkey
    obtain ⟨r, g1, g2⟩ := findNow_str (entC_inv hc) hps s 0
    refine snd_pure hs hd (u := mval ps (.s s) z) ?_ (.lit _) hK
    have e1 : (execOp a.eval o) = (do let v ← Instr.lookup t (.map (some b)) (.string s) false; pure (.value v)) := by
      simp [execOp, ho, hv, hkv, MK.val]
    rw [e1]
    have hck := MapKept.run_checkKey (P := P) (w := w) (k := .string s) hkt (by simp [MapKept.IsKey]) es.isEmpty 9999
    have hfk := MapKept.run_findKey (P := P) (w := w) hkt g1
    have hmv : mval ps (.s s) z = (r.map Prod.snd).getD z := by unfold mval; rw [g2]
    cases r with
    | none => simp [Instr.lookup, run_underlying hu, MapKept.run_getObj_map hh, hck, hfk, Result.andThen, run_zeroValue' hi hz, hmv]
    | some q => simp [Instr.lookup, run_underlying hu, MapKept.run_getObj_map hh, hck, hfk, Result.andThen, hmv]
theorem snd_mget1 (hs : St cx F m E H a w) (hd : ∀ t, o.dst = some t → t < cx.n) {t kt et : TypeId} {x k : Operand} (ho : o.op = .lookup t x k false) (hu : P.underlying t = some (.map kt et)) (hkt : isArrP P kt = true)
    {it : TypeInfo} {z : Value} (hi : P.info? et = some it) (hz : it.zero = some z) (hk : swpOp P (.mget 1 z x k) (ev E) H K) : o.wp P a w (Fin cx E o.dst K F m) Q := by
  simp only [swpOp] at hk
  split at hk
  case h_2 => exact hk.elim
  case h_1 i ver hm =>
    obtain ⟨ty, ps, key, hH, hkey, hkd, hps, hK⟩ := hk
    have hrx := hs.ev x
    rw [hm] at hrx
    obtain ⟨e, p, hv, he, hb⟩ := hrx.mp_inv
    have hok := hs.sim.blk i e _ he hH
    obtain ⟨b, hbb, rfl, hsz⟩ := hb hok.1.symm
    obtain ⟨_, es, clock, hh, hc⟩ := hok.mps hsz hbb
    obtain ⟨s, s', rfl⟩ := MK.pair_key hkd
    have hkv := MK.of_val (hs.ev k) hkey
    obtain ⟨r, g1, g2⟩ := findAsk_pair hkt w (entC_inv hc) hps s s' 0
    refine snd_pure hs hd (u := mval ps (.p s s') z) ?_ (.lit _) hK
    have e1 : (execOp a.eval o) = (do let v ← Instr.lookup t (.map (some b)) (.agg #[.int .i64 s, .int .i64 s']) false; pure (.value v)) := by
      simp [execOp, ho, hv, hkv, MK.val]
    rw [e1]
    have hck := run_checkKey_arr hkt w es.isEmpty s s'
    have hfk := (run_findKey_arr hkt w (.agg #[.int .i64 s, .int .i64 s']) es.toList).trans g1
    have hmv : mval ps (.p s s') z = (r.map Prod.snd).getD z := by unfold mval; rw [g2]
    cases r with
    | none => simp [Instr.lookup, run_underlying hu, MapKept.run_getObj_map hh, hck, hfk, Result.andThen, run_zeroValue' hi hz, hmv]
    | some q => simp [Instr.lookup, run_underlying hu, MapKept.run_getObj_map hh, hck, hfk, Result.andThen, hmv]
theorem findNow_none {l : List MapEntry} {ps : List (MK × Value)} (h : l.map (fun x => (x.key, x.val)) = ps.map fun p => (p.1.val, p.2)) (hk : ∀ p ∈ ps, p.1.kind = 0) (b : ByteArray) (hn : ∀ p ∈ ps, p.1 ≠ .s b) (i : Nat) : Instr.findNow .string (.string b) l i = some none := by
  obtain ⟨r, g1, g2⟩ := findNow_str h hk b i
  have : (ps.find? fun p => decide (p.1 = .s b)) = none := by
    rw [List.find?_eq_none]
    intro p hp
    simpa using hn p hp
  rw [this] at g2
  cases r with
  | none => exact g1
  | some q => simp at g2
def setMap (w : World) (b : Nat) (o : Obj) : World := { w with heap := w.heap.setIfInBounds b o }
theorem snd_mput (hs : St cx F m E H a w) (hd : ∀ t, o.dst = some t → t < cx.n) {t kt et : TypeId} {x k y : Operand} (ho : o.op = .mapUpdate t x k y ∨ o.op = .insert t x k y) (hu : P.underlying t = some (.map kt et)) (hkt : P.underlying kt = some .string)
    (hk : swpOp P (.mput 0 x k y) (ev E) H K) : o.wp P a w (Fin cx E o.dst K F m) Q := by
  simp only [swpOp] at hk
  split at hk
  case h_2 => exact hk.elim
  case h_1 i ver u hm hy =>
    obtain ⟨ty, ps, key, hH, hkey, hkd, hps, hnew, hK⟩ := hk
    have hrx := hs.ev x
    rw [hm] at hrx
    obtain ⟨e, p, hv, he, hb⟩ := hrx.mp_inv
    have hok := hs.sim.blk i e _ he hH
    obtain ⟨b, hbb, rfl, hsz⟩ := hb hok.1.symm
    obtain ⟨hB, es, clock, hh, hc⟩ := hok.mps hsz hbb
    obtain ⟨s, rfl⟩ := MK.str_key hkd
    have hkv := MK.of_val (hs.ev k) hkey
    have hry := hs.ev y
    rw [hy] at hry
    have hyv := hry.lit_inv
    have g1 := findNow_none (entC_inv hc) hps s hnew 0
    have hck := MapKept.run_checkKey (P := P) (w := w) (k := .string s) hkt (by simp [MapKept.IsKey]) false 9999
    have hfk := MapKept.run_findKey (P := P) (w := w) hkt g1
    have hrun : (execOp a.eval o).run P w = .ok .skip (setMap w b (.map (es.push { key := .string s, val := u, born := clock }) (clock + 1))) := by
      have e1 : (execOp a.eval o) = (do Instr.mapUpdate t (.map (some b)) (.string s) u; pure .skip) := by
        rcases ho with ho | ho <;> simp [execOp, ho, hv, hkv, hyv, MK.val]
      rw [e1]
      simp [Instr.mapUpdate, run_underlying hu, MapKept.run_getObj_map hh, hck, hfk, Result.andThen, MapKept.run_setObj_map _ hh, setMap]
    have hput := MapKept.heap_set (o' := .map (es.push { key := .string s, val := u, born := clock }) (clock + 1)) hh
    have hmm : m.set i e = m := by
      obtain ⟨hlt, hx⟩ := List.getElem?_eq_some_iff.1 he
      rw [← hx]; exact List.set_getElem_self hlt
    have hw1 : Blw cx.B w (setMap w b (.map (es.push { key := .string s, val := u, born := clock }) (clock + 1))) :=
      ⟨rfl, rfl, rfl, by simp [setMap], fun k hk => hput.2 k (by omega), .of (Nat.le_refl _)⟩
    have hsim := hs.sim.update he e ⟨ver, ty, 0, mapC (ps ++ [(.s s, u)])⟩ (.inl rfl) hw1
      (fun b' hne _ => hput.2 b' (fun h => hne (by rw [hbb, h]))) (fun b' hb' => .inl hb') (by
        rw [hmm]
        refine ⟨hok.1, hok.2.1, hok.2.2.1, (fun hn => by rw [hbb] at hn; cases hn), ?_⟩
        intro b' hb'
        rw [hbb] at hb'; cases hb'
        refine ⟨hB, .inr ⟨hsz, _, _, hput.1, ?_⟩⟩
        have hc' : mapC ps = entCells es := hc
        simp only [entCells, Array.toList_push, List.flatMap_append, List.flatMap_cons, List.flatMap_nil, List.append_nil, mapC] at hc' ⊢
        rw [hc']; rfl)
    rw [hmm] at hsim
    exact snd_skip hs hd hrun hsim hK
theorem snd_mput1 (hs : St cx F m E H a w) (hd : ∀ t, o.dst = some t → t < cx.n) {t kt et : TypeId} {x k y : Operand} (ho : o.op = .mapUpdate t x k y ∨ o.op = .insert t x k y) (hu : P.underlying t = some (.map kt et)) (hkt : isArrP P kt = true)
    (hk : swpOp P (.mput 1 x k y) (ev E) H K) : o.wp P a w (Fin cx E o.dst K F m) Q := by
  simp only [swpOp] at hk
  split at hk
  case h_2 => exact hk.elim
  case h_1 i ver u hm hy =>
    obtain ⟨ty, ps, key, hH, hkey, hkd, hps, hnew, hK⟩ := hk
    have hrx := hs.ev x
    rw [hm] at hrx
    obtain ⟨e, p, hv, he, hb⟩ := hrx.mp_inv
    have hok := hs.sim.blk i e _ he hH
    obtain ⟨b, hbb, rfl, hsz⟩ := hb hok.1.symm
    obtain ⟨hB, es, clock, hh, hc⟩ := hok.mps hsz hbb
    obtain ⟨s, s', rfl⟩ := MK.pair_key hkd
    have hkv := MK.of_val (hs.ev k) hkey
    have hry := hs.ev y
    rw [hy] at hry
    have hyv := hry.lit_inv
    have g1 : (Instr.findAsking kt (.agg #[.int .i64 s, .int .i64 s']) es.toList 0).run P w = .ok none w := by
      obtain ⟨r, g1, g2⟩ := findAsk_pair hkt w (entC_inv hc) hps s s' 0
      have : (ps.find? fun p => decide (p.1 = .p s s')) = none := by
        rw [List.find?_eq_none]
        intro p hp
        simpa using hnew p hp
      rw [this] at g2
      cases r with
      | none => exact g1
      | some q => simp at g2
    have hck := run_checkKey_arr hkt w false s s'
    have hfk := (run_findKey_arr hkt w (.agg #[.int .i64 s, .int .i64 s']) es.toList).trans g1
    have hrun : (execOp a.eval o).run P w = .ok .skip (setMap w b (.map (es.push { key := .agg #[.int .i64 s, .int .i64 s'], val := u, born := clock }) (clock + 1))) := by
      have e1 : (execOp a.eval o) = (do Instr.mapUpdate t (.map (some b)) (.agg #[.int .i64 s, .int .i64 s']) u; pure .skip) := by
        rcases ho with ho | ho <;> simp [execOp, ho, hv, hkv, hyv, MK.val]
      rw [e1]
      simp [Instr.mapUpdate, run_underlying hu, MapKept.run_getObj_map hh, hck, hfk, Result.andThen, MapKept.run_setObj_map _ hh, setMap]
    have hput := MapKept.heap_set (o' := .map (es.push { key := .agg #[.int .i64 s, .int .i64 s'], val := u, born := clock }) (clock + 1)) hh
    have hmm : m.set i e = m := by
      obtain ⟨hlt, hx⟩ := List.getElem?_eq_some_iff.1 he
      rw [← hx]; exact List.set_getElem_self hlt
    have hw1 : Blw cx.B w (setMap w b (.map (es.push { key := .agg #[.int .i64 s, .int .i64 s'], val := u, born := clock }) (clock + 1))) :=
      ⟨rfl, rfl, rfl, by simp [setMap], fun k hk => hput.2 k (by omega), .of (Nat.le_refl _)⟩
    have hsim := hs.sim.update he e ⟨ver, ty, 0, mapC (ps ++ [(.p s s', u)])⟩ (.inl rfl) hw1
      (fun b' hne _ => hput.2 b' (fun h => hne (by rw [hbb, h]))) (fun b' hb' => .inl hb') (by
        rw [hmm]
        refine ⟨hok.1, hok.2.1, hok.2.2.1, (fun hn => by rw [hbb] at hn; cases hn), ?_⟩
        intro b' hb'
        rw [hbb] at hb'; cases hb'
        refine ⟨hB, .inr ⟨hsz, _, _, hput.1, ?_⟩⟩
        have hc' : mapC ps = entCells es := hc
        simp only [entCells, Array.toList_push, List.flatMap_append, List.flatMap_cons, List.flatMap_nil, List.append_nil, mapC] at hc' ⊢
        rw [hc']; rfl)
    rw [hmm] at hsim
    exact snd_skip hs hd hrun hsim hK
theorem snd_clr (hs : St cx F m E H a w) (hd : ∀ t, o.dst = some t → t < cx.n) {t e : TypeId} {x : Operand} (ho : o.op = .call { callee := .builtin .clear, args := #[x], argTypes := #[t] }) (hu : P.underlying t = some (.slice e))
    {i : TypeInfo} {z : Value} (hi : P.info? e = some i) (hz : i.zero = some z) (hz1 : z.oneCell' = true) (hk : swpOp P (.clr z x) (ev E) H K) : o.wp P a w (Fin cx E o.dst K F m) Q := by
  simp only [swpOp] at hk
  split at hk
  case h_2 => exact hk.elim
  case h_1 j ver off len hx =>
    obtain ⟨ty, cells, hpos, hH, hle, hK⟩ := hk
    have hrx := hs.ev x
    rw [hx] at hrx
    generalize hxv : a.eval x = xv at hrx
    cases hrx with
    | nm _ _ _ _ en p n cap h1 h2 h3 =>
      have hok := hs.sim.blk j en _ h1 hH
      obtain ⟨cap', g1, g2, g3⟩ := h3 hok.1.symm
      rcases g3 with ⟨b, hb, hval, hsz, hnz⟩ | ⟨_, _, hl0, _⟩
      rotate_left
      · omega
      simp only [Value.slice.injEq] at hval
      obtain ⟨rfl, rfl, rfl⟩ := hval
      have hzc : z.cells = #[z] := by cases z <;> simp_all [Value.cells, Value.oneCell']
      have hrels : ∀ n : Nat, Rels F m (List.replicate n (AV.lit z)) (List.replicate n z) := by
        intro n
        induction n with
        | zero => exact Rels.nil _ _
        | succ n ih => rw [List.replicate_succ, List.replicate_succ]; exact Rels.cons (.lit z) ih
      obtain ⟨w', r1, r2⟩ := run_storeCells (P := P) hb hnz h1 (List.replicate n (AV.lit z)) (List.replicate n z) ⟨b, off, none⟩ off 0 H _ w hs.sim hH (hrels n) (fun c hc => by rw [List.eq_of_mem_replicate hc]; exact hz1) (by simpa using hle) (fun j => by rw [Addr.add_none, Nat.zero_add])
      refine snd_val hs hd (u := .tuple #[]) ?_ (FLe.refl _) (MLe.refl _) r2 (.tup [] [] rfl (fun j c v h => by simp at h)) hK
      have hzcl : (Builtin.zeroCells z.cells n).toList = List.replicate n z := by
        rw [hzc]
        simp [Builtin.zeroCells]
        apply List.ext_getElem
        · simp
        · intro i h1 h2
          simp [Nat.mod_one]
      obtain ⟨q, rfl⟩ : ∃ q, n = q + 1 := ⟨n - 1, by omega⟩
      have hrun : (Builtin.clear_ #[t] o.type #[.slice (some ⟨b, off, none⟩) (q + 1) cap]).run P w = .ok (.tuple #[]) w' := by
        simp [Builtin.clear_, run_underlying hu, run_zeroValue' hi hz, hzcl, r1]
      simp [execOp, ho, resolve, invoke, builtin, hxv, hrun]
theorem snd_str (hs : St cx F m E H a w) (hd : ∀ t, o.dst = some t → t < cx.n) {s d e : TypeId} {x : Operand} (ho : o.op = .convert s d x) (hu : P.underlying s = some (.slice e)) (he : P.underlying e = some (.int .u8)) (hdd : P.underlying d = some .string)
    (hk : swpOp P (.str x) (ev E) H K) : o.wp P a w (Fin cx E o.dst K F m) Q := by
  simp only [swpOp] at hk
  split at hk
  case h_2 => exact hk.elim
  case h_1 n cells hview =>
    obtain ⟨ns, rfl, rfl, hK⟩ := hk
    obtain ⟨hn, hcase⟩ := aview_sound hs.sim (hs.ev x) hview
    refine snd_pure hs hd (u := .string (bytesOf ns)) ?_ (.lit _) hK
    have e1 : (execOp a.eval o) = (do let v ← convert s d (a.eval x); pure (.value v)) := by simp [execOp, ho]
    rw [e1]
    rcases hcase with ⟨b, of, cap, vs, hval, _, _, hrels, hcells⟩ | ⟨⟨q, hval⟩, h0, hc0⟩
    · have hvs : vs = ns.map (Value.int .u8) := by
        apply List.ext_getElem
        · rw [← hrels.1]; simp
        · intro j g1 g2
          have := (hrels.2 j (.lit (.int .u8 (ns[j]'(by simpa using g2)))) vs[j] (by simp at g2; simp [g2]) (by simp)).lit_inv
          rw [this]; simp
      have hrun := run_loadCells_list (P := P) w ⟨b, of, none⟩ vs (fun j v hj => by rw [Addr.add_none]; exact (hcells j v hj).1)
      have hl : vs.length = ns.length := by rw [hvs]; simp
      rw [hl, hvs] at hrun
      rw [hval]
      simp only [Sem.run_bind, run_convert_bytes_string w s d e _ _ _ hu he hdd, run_bytesToString w _ _ cap ns hrun, Result.andThen]
      rfl
    · have : ns = [] := List.eq_nil_of_length_eq_zero h0
      subst this
      rw [hval]
      simp only [Sem.run_bind, run_convert_bytes_string w s d e _ _ _ hu he hdd]
      cases q with
      | none => simp [Conv.bytesToString, Result.andThen, bytesOf]
      | some ad =>
        have hrun := run_loadCells_list (P := P) w ad [] (fun j v hj => by simp at hj)
        rw [run_bytesToString w ad 0 0 [] (by simpa using hrun)]
        rfl
end
end Go.Av
