/- The abstract layer, part 2: reading and writing abstract memory, and that worlds follow. -/
import Derived.Test.YtonfknfphdeenaaAv1
set_option linter.unusedSimpArgs false
set_option linter.unusedVariables false
set_option maxHeartbeats 4000000
set_option maxRecDepth 100000
namespace Go.Av
open Go.RowKit

/-- A slice's length and cells. -/
def aview (H : List Blk) : AV → Option (Nat × List AV)
  | .il len cells => some (len, cells)
  | .nm i ver off len => match H[i]? with
    | some k => if k.ver = ver then some (len, (k.cells.drop off).take (len * k.sz)) else none
    | none => none
  | .lit (.slice none 0 0) => some (0, [])
  | _ => none

/-- c cells behind a pointer. -/
def acells (H : List Blk) (c : Nat) : AV → Option (List AV)
  | .pc i ver off => match H[i]? with
    | some k => if k.ver = ver ∧ off + c ≤ k.cells.length then some ((k.cells.drop off).take c) else none
    | none => none
  | .el s j => match aview H s with
    | some (_, cells) => if j + c ≤ cells.length then some ((cells.drop j).take c) else none
    | none => none
  | _ => none

def isAggD : TypeDesc → Bool
  | .struct _ | .array _ _ => true
  | _ => false

def setMany (cells : List AV) (off : Nat) : List AV → List AV
  | [] => cells
  | c :: cs => setMany (cells.set off c) (off + 1) cs

theorem setMany_length (cells : List AV) (off : Nat) (cs : List AV) : (setMany cells off cs).length = cells.length := by
  induction cs generalizing cells off with
  | nil => rfl
  | cons c cs ih => simp [setMany, ih]

/-- Memory behind a store of the cells cs. -/
def astore (H : List Blk) (cs : List AV) : AV → Option (List Blk)
  | .pc i ver off => match H[i]? with
    | some k => if k.ver = ver ∧ off + cs.length ≤ k.cells.length then some (H.set i { k with cells := setMany k.cells off cs }) else none
    | none => none
  | .el (.nm i ver off _) j => match H[i]? with
    | some k => if k.ver = ver ∧ off + j + cs.length ≤ k.cells.length then some (H.set i { k with cells := setMany k.cells (off + j) cs }) else none
    | none => none
  | _ => none

section
variable {B : Nat} {W0 : World} {F : Fz} {m : List Ent} {H : List Blk} {w : World} {P : Program}

theorem Sim.cell (_h : Sim B W0 F m H w) {e : Ent} {k : Blk} {b : Nat} (hok : BlkOk B F m w e k) (hb : e.blk = some b) {j : Nat} {c : AV} (hc : k.cells[j]? = some c) :
    ∃ v, w.cell? ⟨b, j, none⟩ = some v ∧ Rel F m c v ∧ v.oneCell' = true := by
  obtain ⟨_, arr, ha, hs, hl, hr, ho⟩ := hok.2.2.2.2 b hb
  have hj : j < k.cells.length := (List.getElem?_eq_some_iff.1 hc).1
  have hj' : j < arr.size := by omega
  exact ⟨arr[j], by simp [World.cell?, ha, hj'], hr j c _ hc (by simp [hj']), ho j _ (by simp [hj'])⟩

/-- A row of cells, as values. -/
theorem Sim.row (h : Sim B W0 F m H w) {e : Ent} {k : Blk} {b : Nat} (hok : BlkOk B F m w e k) (hb : e.blk = some b) (off : Nat) (cs : List AV)
    (hcs : ∀ (j : Nat) (c : AV), cs[j]? = some c → k.cells[off + j]? = some c) :
    ∃ vs, Rels F m cs vs ∧ ∀ (j : Nat) (v : Value), vs[j]? = some v → w.cell? ⟨b, off + j, none⟩ = some v ∧ v.oneCell' = true := by
  induction cs generalizing off with
  | nil => exact ⟨[], Rels.nil _ _, fun j v hj => by simp at hj⟩
  | cons c cs ih =>
    obtain ⟨v, h1, h2, h3⟩ := h.cell hok hb (hcs 0 c (by simp))
    obtain ⟨vs, g1, g2⟩ := ih (off + 1) (fun j c' hj => by have := hcs (j + 1) c' (by simpa using hj); rw [show off + 1 + j = off + (j + 1) by omega]; exact this)
    refine ⟨v :: vs, g1.cons h2, ?_⟩
    intro j u hj
    cases j with
    | zero => simp at hj; subst hj; exact ⟨h1, h3⟩
    | succ j =>
      simp at hj
      have := g2 j u hj
      rw [show off + (j + 1) = off + 1 + j by omega]; exact this

theorem aview_sound (h : Sim B W0 F m H w) {s : AV} {sv : Value} (hr : Rel F m s sv) {len : Nat} {cells : List AV} (hv : aview H s = some (len, cells)) :
    len ≤ maxLen ∧ ((∃ b o cap vs, sv = .slice (some ⟨b, o, none⟩) len cap ∧ len ≤ cap ∧ cap ≤ maxLen ∧ Rels F m cells vs ∧
      ∀ (j : Nat) (v : Value), vs[j]? = some v → w.cell? ⟨b, o + j, none⟩ = some v ∧ v.oneCell' = true) ∨ ((∃ q, sv = .slice q 0 0) ∧ len = 0 ∧ cells = [])) := by
  cases hr with
  | lit v =>
    have hx : sv = Value.slice none 0 0 ∧ len = 0 ∧ cells = [] := by
      unfold aview at hv
      split at hv <;> simp_all
    obtain ⟨rfl, rfl, rfl⟩ := hx
    exact ⟨Nat.zero_le _, .inr ⟨⟨_, rfl⟩, rfl, rfl⟩⟩
  | junk v => simp [aview] at hv
  | il0 =>
    simp [aview] at hv
    obtain ⟨rfl, rfl⟩ := hv
    exact ⟨Nat.zero_le _, .inr ⟨⟨_, rfl⟩, rfl, rfl⟩⟩
  | il1 ad =>
    simp [aview] at hv
    obtain ⟨rfl, rfl⟩ := hv
    exact ⟨Nat.zero_le _, .inr ⟨⟨_, rfl⟩, rfl, rfl⟩⟩
  | il len' cells' b o cap vs h1 h2 h3 h4 h5 =>
    simp [aview] at hv
    obtain ⟨rfl, rfl⟩ := hv
    exact ⟨Nat.le_trans h1 h2, .inl ⟨b, o, cap, vs, rfl, h1, h2, ⟨h3, h5⟩, fun j v hj => h.fz _ _ _ (h4 j v hj)⟩⟩
  | nm i ver off len' e a n cap h1 h2 h3 =>
    unfold aview at hv
    simp only at hv
    split at hv
    case h_2 => simp at hv
    case h_1 k hk =>
      split at hv
      case isFalse => simp at hv
      case isTrue hver =>
        simp at hv
        obtain ⟨rfl, rfl⟩ := hv
        have hok := h.blk i e k h1 hk
        obtain ⟨cap', hl1, hl2, hcase⟩ := h3 (by rw [hok.1, hver])
        refine ⟨Nat.le_trans hl1 hl2, ?_⟩
        rcases hcase with ⟨b, hb, hval, hsz⟩ | ⟨hb, hval, hl0, ho0⟩
        · left
          obtain ⟨vs, g1, g2⟩ := h.row hok hb off ((k.cells.drop off).take (len' * k.sz)) (fun j c hj => by
            rw [List.getElem?_take] at hj
            split at hj
            · rw [List.getElem?_drop] at hj; exact hj
            · simp at hj)
          exact ⟨b, off, cap', vs, hval, hl1, hl2, g1, g2⟩
        · right
          obtain ⟨hc0, _⟩ := hok.2.2.2.1 hb
          exact ⟨hval, hl0, by simp [hc0]⟩
  | pc => simp [aview] at hv
  | el => simp [aview] at hv
  | agg => simp [aview] at hv
  | tup => simp [aview] at hv
  | fn => simp [aview] at hv

theorem Addr.add_none (b o k : Nat) : (⟨b, o, none⟩ : Addr).add k = ⟨b, o + k, none⟩ := by
  unfold Addr.add; split
  · subst_vars; rfl
  · rfl

theorem acells_sound (h : Sim B W0 F m H w) {s : AV} {sv : Value} (hr : Rel F m s sv) {c : Nat} {cs : List AV} (hv : acells H c s = some cs) (hc : 0 < c) :
    ∃ b o vs, sv = .pointer (some ⟨b, o, none⟩) ∧ Rels F m cs vs ∧ cs.length = c ∧ ∀ (j : Nat) (v : Value), vs[j]? = some v → w.cell? ⟨b, o + j, none⟩ = some v ∧ v.oneCell' = true := by
  cases hr with
  | lit v => simp [acells] at hv
  | junk v => simp [acells] at hv
  | il0 => simp [acells] at hv
  | il1 => simp [acells] at hv
  | il => simp [acells] at hv
  | nm => simp [acells] at hv
  | agg => simp [acells] at hv
  | tup => simp [acells] at hv
  | fn => simp [acells] at hv
  | pc i ver off e p h1 h2 h3 =>
    unfold acells at hv
    simp only at hv
    split at hv
    case h_2 => simp at hv
    case h_1 k hk =>
      split at hv
      case isFalse => simp at hv
      case isTrue hcond =>
        simp at hv
        subst hv
        have hok := h.blk i e k h1 hk
        obtain ⟨b, hb, hp⟩ := h3 (by rw [hok.1, hcond.1])
        obtain ⟨vs, g1, g2⟩ := h.row hok hb off ((k.cells.drop off).take c) (fun j x hj => by
          rw [List.getElem?_take] at hj
          split at hj
          · rw [List.getElem?_drop] at hj; exact hj
          · simp at hj)
        exact ⟨b, off, vs, by rw [hp], g1, by simp; omega, g2⟩
  | el s j sv' p h1 h2 =>
    unfold acells at hv
    simp only at hv
    split at hv
    case h_2 => simp at hv
    case h_1 len cells hview =>
      split at hv
      case isFalse => simp at hv
      case isTrue hcond =>
        simp at hv
        subst hv
        obtain ⟨_, hcase⟩ := aview_sound h h1 hview
        rcases hcase with ⟨b, o, cap, vs, hval, _, _, hrels, hcells⟩ | ⟨_, _, hnil⟩
        · refine ⟨b, o + j, (vs.drop j).take c, ?_, (hrels.drop j).take c, by simp; omega, ?_⟩
          · rw [h2 _ _ _ hval, Addr.add_none]
          · intro i v hi
            rw [List.getElem?_take] at hi
            split at hi
            · rw [List.getElem?_drop] at hi
              rw [Nat.add_assoc]; exact hcells _ v hi
            · simp at hi
        · subst hnil; simp at hcond; omega

theorem heap_setCell_same {w : World} {b o : Nat} {arr : Array Value} {ty : TypeId} {f : Nat × Nat} (v : Value) (h : w.heap[b]? = some (.cells arr ty f)) :
    (w.setCell ⟨b, o, none⟩ v).heap[b]? = some (.cells (arr.setIfInBounds o v) ty f) := by
  simp [World.setCell, Array.getElem?_modify, h]

theorem frozen?_clean {w : World} {b o : Nat} {arr : Array Value} {ty : TypeId} (h : w.heap[b]? = some (.cells arr ty (0, 0))) : w.frozen? ⟨b, o, none⟩ = false := by
  simp [World.frozen?, h]

/-- Storing a row of values into a named block. -/
theorem run_storeCells {e : Ent} {b : Nat} (hb : e.blk = some b) {i : Nat} (he : m[i]? = some e) :
    ∀ (cs : List AV) (vs : List Value) (ad : Addr) (off q : Nat) (H : List Blk) (k : Blk) (w : World), Sim B W0 F m H w → H[i]? = some k → Rels F m cs vs → (∀ c ∈ cs, c.cell1 = true) →
      off + cs.length ≤ k.cells.length → (∀ j, ad.add (q + j) = ⟨b, off + j, none⟩) →
      ∃ w', (storeCells ad vs q).run P w = .ok () w' ∧ Sim B W0 F m (H.set i { k with cells := setMany k.cells off cs }) w'
  | [], vs, ad, off, q, H, k, w, h, hk, hr, _, _, _ => by
    have := hr.inv_nil; subst this
    refine ⟨w, rfl, ?_⟩
    have : H.set i { k with cells := setMany k.cells off [] } = H := by
      simp only [setMany]
      obtain ⟨hlt, hx⟩ := List.getElem?_eq_some_iff.1 hk
      rw [← hx]; exact List.set_getElem_self hlt
    rw [this]; exact h
  | c :: cs, vs, ad, off, q, H, k, w, h, hk, hr, h1, hle, had => by
    obtain ⟨v, vs', rfl, hrv, hrs⟩ := hr.inv_cons
    have hok := h.blk i e k he hk
    obtain ⟨hB, arr, ha, hs, hl, hrel, ho⟩ := hok.2.2.2.2 b hb
    simp only [List.length_cons] at hle
    have hoff : off < arr.size := by omega
    have hcell : w.cell? ⟨b, off, none⟩ = some arr[off] := by simp [World.cell?, ha, hoff]
    have hone : v.oneCell' = true := hrv.cell1 (h1 c (by simp))
    have ha0 : ad.add q = ⟨b, off, none⟩ := by have := had 0; simpa using this
    have hrun : (store (ad.add q) v).run P w = .ok () (w.setCell ⟨b, off, none⟩ v) := by
      rw [run_store P w (ad.add q) v .plain hone, ha0, hcell]
      simp [frozen?_clean ha]
    have hmm : m.set i e = m := by
      obtain ⟨hlt, hx⟩ := List.getElem?_eq_some_iff.1 he
      rw [← hx]; exact List.set_getElem_self hlt
    have hsim : Sim B W0 F m (H.set i { k with cells := k.cells.set off c }) (w.setCell ⟨b, off, none⟩ v) := by
      have := h.update he e { k with cells := k.cells.set off c } (w' := w.setCell ⟨b, off, none⟩ v) (.inl rfl) ((Blw.refl _ _).setCell (p := ⟨b, off, none⟩) hB v)
        (fun b' hne _ => RowKit.Below.heap_setCell w ⟨b, off, none⟩ v b' (fun x => hne (by rw [hb, x]))) (fun b' hb' => .inl hb') (by
          rw [hmm]
          refine ⟨hok.1, hok.2.1, hok.2.2.1, (fun hn => by rw [hb] at hn; cases hn), ?_⟩
          intro b' hb'
          rw [hb] at hb'; cases hb'
          refine ⟨hB, arr.setIfInBounds off v, heap_setCell_same v ha, by simp [hs], by simp [hl], ?_, ?_⟩
          · intro j c' v' hj hv'
            rw [List.getElem?_set] at hj
            rw [Array.getElem?_setIfInBounds] at hv'
            by_cases hjo : off = j
            · subst hjo
              simp only [if_true] at hj hv'
              split at hj <;> simp_all
            · simp only [hjo, if_false] at hj hv'
              exact hrel j c' v' hj hv'
          · intro j v' hv'
            rw [Array.getElem?_setIfInBounds] at hv'
            by_cases hjo : off = j
            · subst hjo
              simp only [if_true] at hv'
              split at hv' <;> simp_all
            · simp only [hjo, if_false] at hv'
              exact ho j v' hv')
      rw [hmm] at this; exact this
    have hk' : (H.set i { k with cells := k.cells.set off c })[i]? = some { k with cells := k.cells.set off c } := by
      rw [List.getElem?_set_self (List.getElem?_eq_some_iff.1 hk).1]
    obtain ⟨w', g1, g2⟩ := run_storeCells hb he cs vs' ad (off + 1) (q + 1) _ _ _ hsim hk' hrs (fun x hx => h1 x (by simp [hx])) (by simp; omega)
      (fun j => by rw [show q + 1 + j = q + (j + 1) by omega, had (j + 1)]; congr 1; omega)
    refine ⟨w', ?_, ?_⟩
    · simp only [storeCells, Sem.run_bind, hrun, Result.andThen]
      exact g1
    · simpa [setMany] using g2

theorem astore_sound (h : Sim B W0 F m H w) {s : AV} {sv : Value} (hr : Rel F m s sv) {cs : List AV} {vs : List Value} {H' : List Blk} (hv : astore H cs s = some H') (hrs : Rels F m cs vs)
    (h1 : ∀ c ∈ cs, c.cell1 = true) (h0 : 0 < cs.length) : ∃ ad w', sv = .pointer (some ad) ∧ (storeCells ad vs).run P w = .ok () w' ∧ Sim B W0 F m H' w' := by
  cases hr with
  | lit v => simp [astore] at hv
  | junk v => simp [astore] at hv
  | il0 => simp [astore] at hv
  | il1 => simp [astore] at hv
  | il => simp [astore] at hv
  | nm => simp [astore] at hv
  | agg => simp [astore] at hv
  | tup => simp [astore] at hv
  | fn => simp [astore] at hv
  | pc i ver off e p he h2 h3 =>
    unfold astore at hv
    simp only at hv
    split at hv
    case h_2 => simp at hv
    case h_1 k hk =>
      split at hv
      case isFalse => simp at hv
      case isTrue hcond =>
        simp at hv
        subst hv
        have hok := h.blk i e k he hk
        obtain ⟨b, hb, hp⟩ := h3 (by rw [hok.1, hcond.1])
        subst hp
        obtain ⟨w', g1, g2⟩ := run_storeCells (P := P) hb he cs vs ⟨b, off, none⟩ off 0 H k w h hk hrs h1 hcond.2 (fun j => by rw [Addr.add_none, Nat.zero_add])
        exact ⟨_, w', rfl, g1, g2⟩
  | el s j sv' p hs h2 =>
    cases hs with
    | nm i ver off len e a n cap he h2' h3' =>
      unfold astore at hv
      simp only at hv
      split at hv
      case h_2 => simp at hv
      case h_1 k hk =>
        split at hv
        case isFalse => simp at hv
        case isTrue hcond =>
          simp at hv
          subst hv
          have hok := h.blk i e k he hk
          obtain ⟨cap', hl1, hl2, hcase⟩ := h3' (by rw [hok.1, hcond.1])
          rcases hcase with ⟨b, hb, hval, hsz⟩ | ⟨hb, hval, hl0, ho0⟩
          · have hp := h2 _ _ _ hval
            rw [Addr.add_none] at hp
            subst hp
            obtain ⟨w', g1, g2⟩ := run_storeCells (P := P) hb he cs vs ⟨b, off + j, none⟩ (off + j) 0 H k w h hk hrs h1 hcond.2 (fun i => by rw [Addr.add_none, Nat.zero_add])
            exact ⟨_, w', rfl, g1, g2⟩
          · obtain ⟨hc0, _⟩ := hok.2.2.2.1 hb
            have := hcond.2
            rw [hc0] at this; simp only [List.length_nil] at this; omega
    | _ => simp [astore] at hv
end
end Go.Av
