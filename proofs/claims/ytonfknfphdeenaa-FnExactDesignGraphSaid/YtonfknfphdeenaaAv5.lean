/- The abstract layer, part 5: operations that make memory; calls. -/
import Derived.Test.YtonfknfphdeenaaAv4
set_option linter.unusedSimpArgs false
set_option linter.unusedVariables false
set_option maxHeartbeats 4000000
set_option maxRecDepth 100000
namespace Go.Av
open Go.RowKit

section
variable {P : Program} {cx : Ctx} {F : Fz} {m : List Ent} {E : Nat → AV} {H : List Blk} {a : Act} {w : World} {o : Oper} {K : AV → List Blk → Prop} {Q : Exit → Act → World → Prop}

theorem push_last (m : List Ent) (e : Ent) : (m ++ [e])[m.length]? = some e := by simp

/-- A pointer to a new block. -/
theorem snd_newvar (hs : St cx F m E H a w) (hd : ∀ t, o.dst = some t → t < cx.n) {ty : TypeId} {cs : List AV} {vs : List Value} (hr : Rels F m cs vs) (h1 : ∀ v ∈ vs, v.oneCell' = true)
    (hrun : (execOp a.eval o).run P w = .ok (.value (.pointer (some ⟨w.heap.size, 0, none⟩))) (w.alloc (.cells vs.toArray ty)))
    (hk : K (.pc H.length 0 0) (H ++ [⟨0, ty, 1, cs⟩])) : o.wp P a w (Fin cx E o.dst K F m) Q := by
  have hsim := hs.sim.push vs.toArray ty 1 cs (by simp [hr.1]) (fun j c v h2 h3 => hr.2 j c v h2 (by simpa using h3)) (fun j v h2 => h1 v (by
    have : vs[j]? = some v := by simpa using h2
    exact List.mem_of_getElem? this))
  refine snd_val hs hd hrun (FLe.refl _) (MLe.append m _) hsim ?_ hk
  rw [← hs.sim.len]
  exact .pc m.length 0 0 _ _ (push_last m _) (Nat.le_refl _) (fun _ => ⟨w.heap.size, rfl, rfl⟩)

theorem snd_alloc (hs : St cx F m E H a w) (hd : ∀ t, o.dst = some t → t < cx.n) {t : TypeId} (ho : o.op = .alloc t) {i : TypeInfo} {z : Value} (hi : P.info? t = some i) (hz : i.zero = some z) (h1 : z.cells.toList.all Value.oneCell' = true)
    (hk : K (.pc H.length 0 0) (H ++ [⟨0, t, 1, z.cells.toList.map .lit⟩])) : o.wp P a w (Fin cx E o.dst K F m) Q := by
  refine snd_newvar hs hd (Rels.lits F m z.cells.toList) (fun v hv => List.all_eq_true.1 h1 v hv) ?_ hk
  simp [execOp, ho, Instr.alloc, run_zeroValue' hi hz, newVar, newRow]

theorem snd_box (hs : St cx F m E H a w) (hd : ∀ t, o.dst = some t → t < cx.n) {t : TypeId} {x : Operand} (ho : o.op = .box t x) (h1 : (partsOf (ev E x)).all AV.cell1 = true)
    (hk : K (.pc H.length 0 0) (H ++ [⟨0, t, 1, partsOf (ev E x)⟩])) : o.wp P a w (Fin cx E o.dst K F m) Q := by
  have hr := (hs.ev x).parts h1
  refine snd_newvar hs hd hr ?_ ?_ hk
  · intro v hv
    obtain ⟨j, hj⟩ := List.getElem?_of_mem hv
    have hlt : j < (partsOf (ev E x)).length := by rw [hr.1]; exact (List.getElem?_eq_some_iff.1 hj).1
    exact (hr.2 j _ v (List.getElem?_eq_getElem hlt) hj).cell1 (List.all_eq_true.1 h1 _ (List.getElem_mem hlt))
  · simp [execOp, ho, Instr.box, newVar, newRow]

theorem foldl_zipIdx_set (cells : Array Value) (off : Nat) (vs : List Value) (j : Nat) :
    ((vs.zipIdx j).foldl (fun cs (p : Value × Nat) => cs.setIfInBounds (off + p.2) p.1) cells).toList = (vs.zipIdx j).foldl (fun cs (p : Value × Nat) => cs.set (off + p.2) p.1) cells.toList := by
  induction vs generalizing cells j with
  | nil => rfl
  | cons v vs ih => simp only [List.zipIdx_cons, List.foldl_cons]; rw [ih]; simp

theorem Rels.setMany {F : Fz} {m : List Ent} {ds : List AV} {us : List Value} (hd : Rels F m ds us) : ∀ {cs : List AV} {vs : List Value} (off j : Nat), Rels F m cs vs → Rels F m (setMany cs (off + j) ds) ((us.zipIdx j).foldl (fun cs (p : Value × Nat) => cs.set (off + p.2) p.1) vs) := by
  induction ds generalizing us with
  | nil => intro cs vs off j h; have := hd.inv_nil; subst this; exact h
  | cons d ds ih =>
    intro cs vs off j h
    obtain ⟨u, us', rfl, h1, h2⟩ := hd.inv_cons
    simp only [Av.setMany, List.zipIdx_cons, List.foldl_cons]
    have := ih h2 off (j + 1) (h.set (off + j) h1)
    rwa [show off + (j + 1) = off + j + 1 by omega] at this

theorem fill_sound {place : Nat → Option (Nat × Nat)} : ∀ (parts : List (Nat × Nat × Nat × Operand)) {cells cs : List AV} {vs : Array Value}, (∀ p ∈ parts, place p.1 = some (p.2.1, p.2.2.1)) → Rels F m cells vs.toList →
    (∀ x, Rel F m (ev E x) (a.eval x)) → (∀ p ∈ parts, (partsOf (ev E p.2.2.2)).all AV.cell1 = true) →
    afill cells (parts.map fun p => (p.2.1, p.2.2.1, ev E p.2.2.2)) = some cs → ∃ us : Array Value, Instr.fill place vs (parts.map fun p => (p.1, a.eval p.2.2.2)) = some us ∧ Rels F m cs us.toList
  | [], cells, cs, vs, _, hr, _, _, h => by
    simp [afill] at h; subst h
    exact ⟨vs, rfl, hr⟩
  | (i, off, size, x) :: rest, cells, cs, vs, hp, hr, hx, h1, h => by
    simp only [List.map_cons, afill] at h
    split at h
    case isFalse => simp at h
    case isTrue hc =>
      have hrx := (hx x).parts (h1 (i, off, size, x) (by simp))
      have hpl := hp (i, off, size, x) (by simp)
      simp only at hpl
      have hcs : (a.eval x).cells.size = size := by rw [← Array.length_toList, ← hrx.1, hc.1]
      have hvl : vs.size = cells.length := by rw [← Array.length_toList, ← hr.1]
      have hr' : Rels F m (setMany cells off (partsOf (ev E x))) ((a.eval x).cells.zipIdx.foldl (fun cs (p : Value × Nat) => cs.setIfInBounds (off + p.2) p.1) vs).toList := by
        have g := Rels.setMany (F := F) (m := m) (cs := cells) (vs := vs.toList) hrx off 0 hr
        rw [Nat.add_zero] at g
        have e1 : (a.eval x).cells.zipIdx.foldl (fun cs (p : Value × Nat) => cs.setIfInBounds (off + p.2) p.1) vs = ((a.eval x).cells.toList.zipIdx 0).foldl (fun cs (p : Value × Nat) => cs.setIfInBounds (off + p.2) p.1) vs := by
          rw [← Array.foldl_toList]; simp
        rw [e1, foldl_zipIdx_set]
        exact g
      obtain ⟨us, g1, g2⟩ := fill_sound rest (fun p hm => hp p (by simp [hm])) hr' hx (fun p hm => h1 p (by simp [hm])) h
      refine ⟨us, ?_, g2⟩
      simp only [List.map_cons, Instr.fill, hpl]
      rw [if_neg (by simp [hcs, hvl]; omega)]
      exact g1

/-- What an append comes to. -/
structure Appended (w w' : World) (e : TypeId) (sz : Nat) (sv v' : Value) (len n : Nat) (all : List Value) : Prop where
  os : w'.os = w.os
  tape : w'.tape = w.tape
  output : w'.output = w.output
  grow : w.heap.size ≤ w'.heap.size
  drawn : w.drawn ≤ w'.drawn
  block : ∀ b, b < w.heap.size → (some b ≠ sv.ownBlock ∨ ∃ q, sv = .slice q 0 0) → w'.heap[b]? = w.heap[b]?
  res : ((∃ q, v' = .slice q 0 0) ∧ len = 0 ∧ n = 0) ∨
    ∃ g c cur', v' = .slice (some ⟨g, 0, none⟩) (len + n) c ∧ len + n ≤ c ∧ c ≤ maxLen ∧ w'.heap[g]? = some (.cells cur' e (0, 0)) ∧ cur'.size = c * sz ∧
      cur'.toList.take ((len + n) * sz) = all ∧ (∀ (q : Nat) (v : Value), cur'[q]? = some v → v.oneCell' = true) ∧ ((some g = sv.ownBlock ∧ ¬ ∃ q, sv = .slice q 0 0) ∨ g = w.heap.size)

theorem getElem?_zeroCells {z : Array Value} (hz : z.toList.all Value.oneCell' = true) {n q : Nat} {v : Value} (h : (Builtin.zeroCells z n)[q]? = some v) : v.oneCell' = true := by
  unfold Builtin.zeroCells at h
  rw [Array.getElem?_map] at h
  by_cases hq : q < n * z.size
  · have hz0 : 0 < z.size := by rcases Nat.eq_zero_or_pos z.size with h0 | h0
                                · rw [h0] at hq; omega
                                · exact h0
    have hm : q % z.size < z.size := Nat.mod_lt _ hz0
    simp [hq] at h
    rw [getElem!_pos z (q % z.size) hm] at h
    subst h
    exact List.all_eq_true.1 hz _ (by simp)
  · simp [hq] at h

theorem _root_.Go.World.heap_alloc_lt' (w : World) (o : Obj) (b : Nat) (h : b < w.heap.size) : (w.alloc o).heap[b]? = w.heap[b]? := RowKit.Below.heap_alloc w o b h

theorem append_cases {t ty : TypeId} {e : TypeId} {i : TypeInfo} {z : Value} (ht : P.underlying t = some (.slice e)) (hi : P.info? e = some i) (hz : i.zero = some z) (hzs : z.cells.size = i.size) (hz1 : z.cells.toList.all Value.oneCell' = true) (_hsz : 0 < i.size)
    {sv xv : Value} {len n : Nat} {old news : List Value} (hlen : old.length = len * i.size) (hnl : news.length = n * i.size)
    (hsv : ((∃ q, sv = .slice q 0 0) ∧ len = 0) ∨ ∃ g cap cur, sv = .slice (some ⟨g, 0, none⟩) len cap ∧ 0 < cap ∧ w.heap[g]? = some (.cells cur e (0, 0)) ∧ len ≤ cap ∧ cap ≤ maxLen ∧ cur.size = cap * i.size ∧ cur.toList.take (len * i.size) = old ∧ (∀ (q : Nat) (v : Value), cur[q]? = some v → v.oneCell' = true))
    (hxv : (∃ xa cap, xv = .slice (some xa) n cap ∧ ∀ (q : Nat) (v : Value), news[q]? = some v → w.cell? (xa.add q) = some v ∧ v.oneCell' = true) ∨ (xv = .slice none 0 0 ∧ n = 0))
    (hby : (len + n) * i.bytes ≤ 140737488355328) (hby2 : len + n ≤ 140737488355328) :
    ∃ v' w', (Builtin.append_ #[t, t] ty #[sv, xv]).run P w = .ok v' w' ∧ Appended w w' e i.size sv v' len n (old ++ news) := by
  have h63 : len + n ≤ maxLen := by simp only [maxLen]; omega
  have refl : ∀ (v' : Value), (((∃ q, v' = .slice q 0 0) ∧ len = 0 ∧ n = 0) ∨ ∃ g c cur', v' = .slice (some ⟨g, 0, none⟩) (len + n) c ∧ len + n ≤ c ∧ c ≤ maxLen ∧ w.heap[g]? = some (.cells cur' e (0, 0)) ∧ cur'.size = c * i.size ∧
      cur'.toList.take ((len + n) * i.size) = old ++ news ∧ (∀ (q : Nat) (v : Value), cur'[q]? = some v → v.oneCell' = true) ∧ ((some g = sv.ownBlock ∧ ¬ ∃ q, sv = .slice q 0 0) ∨ g = w.heap.size)) → Appended w w e i.size sv v' len n (old ++ news) :=
    fun v' h => ⟨rfl, rfl, rfl, Nat.le_refl _, Nat.le_refl _, fun _ _ _ => rfl, h⟩
  rcases hxv with ⟨xa, xcap, rfl, hx⟩ | ⟨rfl, hn0⟩
  · have hnews : ∀ j u, news[j]? = some u → w.cell? (xa.add j) = some u := fun j u hj => (hx j u hj).1
    have hnews1 : ∀ u ∈ news, u.oneCell' = true := fun u hu => by
      obtain ⟨q, hq⟩ := List.getElem?_of_mem hu
      exact (hx q u hq).2
    have one : ∀ (olds : List Value), (∀ u ∈ olds, u.oneCell' = true) → ∀ (c q : Nat) (v : Value), (olds.toArray ++ news.toArray ++ Builtin.zeroCells z.cells c)[q]? = some v → v.oneCell' = true := by
      intro olds ho c q v hq
      rw [Array.getElem?_append] at hq
      split at hq
      · rw [Array.getElem?_append] at hq
        split at hq
        · exact ho v (List.mem_of_getElem? (by simpa using hq))
        · exact hnews1 v (List.mem_of_getElem? (by simpa using hq))
      · exact getElem?_zeroCells hz1 hq
    rcases hsv with ⟨⟨qq, rfl⟩, hl0⟩ | ⟨g, cap, cur, rfl, hcap, hg, hlc, hcm, hcs, htake, hone⟩
    · subst hl0
      have ho : old = [] := List.eq_nil_of_length_eq_zero (by rw [hlen]; omega)
      subst ho
      simp only [Nat.zero_add] at hby hby2 h63
      by_cases hn : n = 0
      · subst hn
        cases qq with
        | none => exact ⟨.slice none 0 0, w, by simp [Builtin.append_, run_underlying ht, sizeOf, typeInfo, hi, Builtin.lenOf, Builtin.firstCells, loadCells, loadCellsFrom], refl _ (.inl ⟨⟨_, rfl⟩, rfl, rfl⟩)⟩
        | some ad => exact ⟨.slice (some ad) 0 0, w, by simp [Builtin.append_, run_underlying ht, sizeOf, typeInfo, hi, Builtin.lenOf, Builtin.firstCells, loadCells, loadCellsFrom, storeCells], refl _ (.inl ⟨⟨_, rfl⟩, rfl, rfl⟩)⟩
      cases qq with
      | some ad =>
        have hr := run_append_grow (P := P) w t ty e i z ht hi hz ad 0 0 [] (by simp) (fun j u hj => by simp at hj) xa n xcap news hnl hnews (by omega) (by omega) (growslice_fits (by omega) (by simpa using hby))
        rw [Nat.zero_add] at hr
        refine ⟨_, _, hr, ⟨rfl, rfl, rfl, by simp, (by first | exact Nat.le_succ _ | exact Nat.le_refl _), fun b' hb' _ => World.heap_alloc_lt' w.drew _ b' hb', .inr ⟨w.heap.size, grownCap w n 0 e, _, by simp, ?_, ?_, heap_alloc_new w.drew _, ?_, ?_, ?_, .inr rfl⟩⟩⟩
        · rw [Nat.zero_add]; exact grownCap_ge w n 0 e
        · exact grownCap_le_maxLen w n 0 e h63
        · have := grownCap_ge w n 0 e
          simp only [Array.size_append, List.size_toArray, size_zeroCells, hzs, hnl, ← Nat.add_mul, List.length_nil, Nat.zero_add]
          congr 1 <;> omega
        · simp only [Array.toList_append]
          simp only [Nat.zero_add, List.nil_append, ← hnl]; exact List.take_left
        · intro q v hq
          exact one [] (by simp) _ q v (by simpa using hq)
      | none =>
        refine ⟨_, _, run_append_nil (P := P) w t ty e i z ht hi hz xa n xcap news hnl hnews (by omega) (by omega) (by omega), ⟨rfl, rfl, rfl, by simp, (by first | exact Nat.le_succ _ | exact Nat.le_refl _), fun b' hb' _ => World.heap_alloc_lt' w.drew _ b' hb', .inr ⟨w.heap.size, grownCap w n 0 e, _, by simp, ?_, ?_, heap_alloc_new w.drew _, ?_, ?_, ?_, .inr rfl⟩⟩⟩
        · rw [Nat.zero_add]; exact grownCap_ge w n 0 e
        · exact grownCap_le_maxLen w n 0 e h63
        · have := grownCap_ge w n 0 e
          simp only [Array.size_append, List.size_toArray, size_zeroCells, hzs, hnl, ← Nat.add_mul]
          congr 1 <;> omega
        · simp only [Array.toList_append]
          rw [Nat.zero_add, List.nil_append, ← hnl]; exact List.take_left
        · intro q v hq
          exact one [] (by simp) _ q v (by simpa using hq)
    · have holds : ∀ j u, old[j]? = some u → w.cell? ((⟨g, 0, none⟩ : Addr).add j) = some u ∧ u.oneCell' = true := by
        intro j u hj
        rw [← htake, List.getElem?_take] at hj
        split at hj
        · have hj' : cur[j]? = some u := by simpa using hj
          rw [Addr.add_none, Nat.zero_add]
          exact ⟨by simp [World.cell?, hg, hj'], hone j u hj'⟩
        · simp at hj
      by_cases hroom : len + n ≤ cap
      · have hfit : len * i.size + news.length ≤ cur.size := by rw [hnl, hcs, ← Nat.add_mul]; exact Nat.mul_le_mul_right _ hroom
        have hr := run_append_room (P := P) w t ty e i ht hi g len cap cur hg xa n xcap news hnl hnews hnews1 hroom hfit
        refine ⟨_, _, hr, ⟨rfl, rfl, rfl, by simp, (by first | exact Nat.le_succ _ | exact Nat.le_refl _), fun k _ hk => setRow_other w g k _ (fun e => by rcases hk with hk | ⟨q, hk⟩; exact hk (by simp [Value.ownBlock, e]); simp at hk; omega), .inr ⟨g, cap, _, rfl, hroom, hcm, setRow_heap w g cur _ e _ hg, ?_, ?_, ?_, .inl ⟨by simp [Value.ownBlock], by rintro ⟨q, hq⟩; simp at hq; omega⟩⟩⟩⟩
        · simp only [List.size_toArray, List.length_append, List.length_take, List.length_drop, Array.length_toList]
          omega
        · rw [htake]
          have : (len + n) * i.size = (old ++ news).length := by rw [List.length_append, hlen, hnl, Nat.add_mul]
          rw [this]; exact List.take_left
        · intro q v hq
          have hq' : (cur.toList.take (len * i.size) ++ news ++ cur.toList.drop (len * i.size + news.length))[q]? = some v := by simpa using hq
          have hm := List.mem_of_getElem? hq'
          simp only [List.mem_append] at hm
          rcases hm with (hm | hm) | hm
          · obtain ⟨j, hj⟩ := List.getElem?_of_mem (List.mem_of_mem_take hm)
            exact hone j v (by simpa using hj)
          · exact hnews1 v hm
          · obtain ⟨j, hj⟩ := List.getElem?_of_mem (List.mem_of_mem_drop hm)
            exact hone j v (by simpa using hj)
      · have hr := run_append_grow (P := P) w t ty e i z ht hi hz ⟨g, 0, none⟩ len cap old hlen (fun j u hj => (holds j u hj).1) xa n xcap news hnl hnews (by omega) (by omega) (growslice_fits (by omega) hby)
        refine ⟨_, _, hr, ⟨rfl, rfl, rfl, by simp, (by first | exact Nat.le_succ _ | exact Nat.le_refl _), fun b' hb' _ => World.heap_alloc_lt' w.drew _ b' hb', .inr ⟨w.heap.size, _, _, rfl, grownCap_ge _ _ _ _, grownCap_le_maxLen _ _ _ _ h63, heap_alloc_new w.drew _, ?_, ?_, ?_, .inr rfl⟩⟩⟩
        · have := grownCap_ge w (len + n) cap e
          simp only [Array.size_append, List.size_toArray, size_zeroCells, hzs, hlen, hnl, ← Nat.add_mul]
          congr 1 <;> omega
        · simp only [Array.toList_append]
          have : (len + n) * i.size = (old ++ news).length := by rw [List.length_append, hlen, hnl, Nat.add_mul]
          rw [this]; exact List.take_left
        · exact one old (fun u hu => by
            obtain ⟨j, hj⟩ := List.getElem?_of_mem hu
            exact (holds j u hj).2) _
  · subst hn0
    have hnews : news = [] := List.eq_nil_of_length_eq_zero (by rw [hnl]; omega)
    subst hnews
    simp only [Nat.add_zero] at hby hby2 h63
    rcases hsv with ⟨⟨qq, rfl⟩, hl0⟩ | ⟨g, cap, cur, rfl, hcap, hg, hlc, hcm, hcs, htake, hone⟩
    · subst hl0
      cases qq with
      | none => exact ⟨.slice none 0 0, w, by simp [Builtin.append_, run_underlying ht, sizeOf, typeInfo, hi, Builtin.lenOf, Builtin.firstCells], refl _ (.inl ⟨⟨_, rfl⟩, rfl, rfl⟩)⟩
      | some ad => exact ⟨.slice (some ad) 0 0, w, by simp [Builtin.append_, run_underlying ht, sizeOf, typeInfo, hi, Builtin.lenOf, Builtin.firstCells, storeCells], refl _ (.inl ⟨⟨_, rfl⟩, rfl, rfl⟩)⟩
    · refine ⟨_, w, ?_, refl _ (.inr ⟨g, cap, cur, rfl, hlc, hcm, hg, hcs, by simpa using htake, hone, .inl ⟨by simp [Value.ownBlock], by rintro ⟨q, hq⟩; simp at hq; omega⟩⟩)⟩
      exact run_append_owned_none (P := P) w 0 t ty e i i.size ht hi (.slice (some ⟨g, 0, none⟩) len cap) len old ⟨hlen, .inr ⟨g, cap, cur, rfl, Nat.zero_le _, hg, hlc, hcm, hcs, htake⟩⟩

theorem app_core {B : Nat} {W0 : World} {t ty : TypeId} {e : TypeId} {i : TypeInfo} {z : Value} (ht : P.underlying t = some (.slice e)) (hi : P.info? e = some i) (hz : i.zero = some z) (hzs : z.cells.size = i.size) (hz1 : z.cells.toList.all Value.oneCell' = true) (hsz : 0 < i.size)
    {sv xv : Value} {j ver len n : Nat} {k : Blk} {en : Ent} {xs : List AV} (hs : Sim B W0 F m H w) (hen : m[j]? = some en) (hkk : H[j]? = some k) (hkv : k.ver = ver) (hkt : k.ty = e) (hks : k.sz = i.size) (hlen : len * i.size ≤ k.cells.length)
    (hby : (len + n) * i.bytes ≤ 140737488355328) (hby2 : len + n ≤ 140737488355328) (hnm : NmOk en 0 len sv) (hxl : xs.length = n * i.size)
    (hxs : ∃ xs' : List Value, Rels F m xs xs' ∧ ((∃ xa cap, xv = .slice (some xa) n cap ∧ ∀ (q : Nat) (v : Value), xs'[q]? = some v → w.cell? (xa.add q) = some v ∧ v.oneCell' = true) ∨ (xv = .slice none 0 0 ∧ n = 0))) :
    ∃ v' w' m', (Builtin.append_ #[t, t] ty #[sv, xv]).run P w = .ok v' w' ∧ MLe m m' ∧ Rel F m' (.nm j (ver + 1) 0 (len + n)) v' ∧ Sim B W0 F m' (H.set j ⟨ver + 1, e, i.size, k.cells.take (len * i.size) ++ xs⟩) w' := by
  have hok := hs.blk j en k hen hkk
  obtain ⟨xs', hrels, hxv⟩ := hxs
  have hjlt : j < m.length := (List.getElem?_eq_some_iff.1 hen).1
  obtain ⟨old, hold, hsv⟩ : ∃ old : List Value, Rels F m (k.cells.take (len * i.size)) old ∧ (((∃ q, sv = .slice q 0 0) ∧ len = 0) ∨ ∃ g cap cur, sv = .slice (some ⟨g, 0, none⟩) len cap ∧ 0 < cap ∧ w.heap[g]? = some (.cells cur e (0, 0)) ∧ len ≤ cap ∧ cap ≤ maxLen ∧ cur.size = cap * i.size ∧ cur.toList.take (len * i.size) = old ∧ (∀ (q : Nat) (v : Value), cur[q]? = some v → v.oneCell' = true)) := by
    obtain ⟨cap, hl1, hl2, hcase⟩ := hnm
    rcases hcase with ⟨b, hb, hval, hsize⟩ | ⟨hb, hval, hl0, _⟩
    · by_cases hcap0 : cap = 0
      · have hl0 : len = 0 := by omega
        refine ⟨[], ?_, .inl ⟨⟨_, by rw [hval, hl0, hcap0]⟩, hl0⟩⟩
        rw [hl0]; simp; exact Rels.nil _ _
      obtain ⟨hB, arr, ha, hsz', hl, hrel, hone⟩ := hok.2.2.2.2 b hb
      refine ⟨arr.toList.take (len * i.size), ⟨?_, ?_⟩, .inr ⟨b, cap, arr, hval, by omega, ?_, hl1, hl2, ?_, rfl, hone⟩⟩
      · simp only [List.length_take, Array.length_toList]; omega
      · intro q c v h1 h2
        rw [List.getElem?_take] at h1 h2
        split at h1
        · rw [if_pos (by assumption)] at h2
          exact hrel q c v h1 (by simpa using h2)
        · simp at h1
      · rw [ha, hok.2.1, hkt]
      · rw [hsz', ← hsize, hok.2.2.1, hks]; omega
    · refine ⟨[], ?_, .inl ⟨hval, hl0⟩⟩
      subst hl0; simp; exact Rels.nil _ _
  have ownblk : ∀ b, sv.ownBlock = some b → (¬ ∃ q, sv = .slice q 0 0) → en.blk = some b := by
    intro b hbq hnz
    obtain ⟨cap, _, _, hcase⟩ := hnm
    rcases hcase with ⟨b2, hb2, hval, _⟩ | ⟨hb2, hval, _, _⟩
    · rw [hval] at hbq; simp [Value.ownBlock] at hbq; rw [← hbq]; exact hb2
    · exact absurd hval hnz
  have hlx : xs'.length = n * i.size := by rw [← hrels.1, hxl]
  have hlo : old.length = len * i.size := by rw [← hold.1]; simp only [List.length_take]; omega
  obtain ⟨v', w', hrun, hap⟩ := append_cases (P := P) (w := w) (ty := ty) ht hi hz hzs hz1 hsz hlo hlx hsv hxv hby hby2
  have hbB : ∀ b, en.blk = some b → B ≤ b := fun b hb => (hok.2.2.2.2 b hb).1
  have hblk : ∀ b, b < w.heap.size → en.blk ≠ some b → w'.heap[b]? = w.heap[b]? := by
    intro b hb hne
    refine hap.block b hb ?_
    by_cases hz : ∃ q, sv = .slice q 0 0
    · exact .inr hz
    · exact .inl fun x => hne (ownblk b x.symm hz)
  have hb' : Blw B w w' := ⟨hap.os, hap.tape, hap.output, hap.grow, fun b hb => hblk b (Nat.lt_of_lt_of_le hb hs.base) (fun x => by have := hbB b x; omega), hap.drawn⟩
  have hnew : ∃ e' : Ent, e'.ver = ver + 1 ∧ NmOk e' 0 (len + n) v' ∧ (∀ b', e'.blk = some b' → en.blk = some b' ∨ w.heap.size ≤ b') ∧
      BlkOk B F (m.set j e') w' e' ⟨ver + 1, e, i.size, k.cells.take (len * i.size) ++ xs⟩ ∧ ∃ q c, v' = .slice q (len + n) c := by
    rcases hap.res with ⟨hv', h0, h0'⟩ | ⟨g, c, cur, hv', hnc, hcm, hg, hcs, htake, hone, hgw⟩
    · subst h0; subst h0'
      refine ⟨⟨none, 0, e, i.size, ver + 1⟩, rfl, ⟨0, by omega, Nat.zero_le _, .inr ⟨rfl, hv', rfl, rfl⟩⟩, (fun b' hb'' => by simp at hb''), ⟨rfl, rfl, rfl, fun _ => ⟨?_, rfl⟩, fun b hb => by simp at hb⟩, hv'.elim fun q hq => ⟨q, 0, hq⟩⟩
      have : xs = [] := by apply List.eq_nil_of_length_eq_zero; rw [hxl]; omega
      simp [this]
    · have hne : MLe m (m.set j ⟨some g, c * i.size, e, i.size, ver + 1⟩) := MLe.set hen (.inr (by rw [hok.1, hkv]; exact Nat.lt_succ_self _))
      have hgB : en.blk = some g ∨ w.heap.size ≤ g := by
        rcases hgw with h | h
        · exact .inl (ownblk g h.1.symm h.2)
        · exact .inr (by omega)
      refine ⟨⟨some g, c * i.size, e, i.size, ver + 1⟩, rfl, ⟨c, hnc, hcm, .inl ⟨g, rfl, hv', by simp⟩⟩, ?_, ?_, ⟨_, _, hv'⟩⟩
      · intro b' hb''
        simp only [Option.some.injEq] at hb''
        subst hb''
        exact hgB
      · refine ⟨rfl, rfl, rfl, (fun h => by simp at h), ?_⟩
        intro b hb
        simp only [Option.some.injEq] at hb
        subst hb
        refine ⟨?_, cur, hg, hcs, ?_, ?_, hone⟩
        · rcases hgB with h | h
          · exact hbB g h
          · exact Nat.le_trans hs.base h
        · simp only [List.length_append, List.length_take, hxl]
          rw [Nat.min_eq_left hlen, ← Nat.add_mul]
          exact Nat.mul_le_mul_right _ hnc
        · intro q cc v h1 h2
          have hall : Rels F m (k.cells.take (len * i.size) ++ xs) (old ++ xs') := hold.append hrels
          have hq : q < (len + n) * i.size := by
            have := (List.getElem?_eq_some_iff.1 h1).1
            simp only [List.length_append, List.length_take, hxl] at this
            rw [Nat.min_eq_left hlen, ← Nat.add_mul] at this
            exact this
          have h2' : (old ++ xs')[q]? = some v := by
            rw [← htake, List.getElem?_take, if_pos hq]; simpa using h2
          exact (hall.2 q cc v h1 h2').mono (FLe.refl _) hne
  obtain ⟨e', he1, he4, he5, he6, q, c, hv'⟩ := hnew
  refine ⟨v', w', m.set j e', hrun, MLe.set hen (.inr (by rw [hok.1, hkv, he1]; omega)), ?_, ?_⟩
  · rw [hv']
    exact .nm j (ver + 1) 0 (len + n) e' _ _ _ (List.getElem?_set_self hjlt) (by omega) (fun _ => by rw [← hv']; exact he4)
  · refine hs.update hen e' _ (.inr (by rw [hok.1, hkv, he1]; omega)) hb' ?_ he5 he6
    intro b hne hlt
    exact hblk b hlt hne

theorem Rel.nm_inv {j ver len : Nat} {v : Value} (h : Rel F m (.nm j ver 0 len) v) : ∃ e p n cap, v = .slice p n cap ∧ m[j]? = some e ∧ ver ≤ e.ver ∧ (ver = e.ver → NmOk e 0 len v) := by
  cases h with
  | nm _ _ _ _ e p n cap h1 h2 h3 => exact ⟨e, p, n, cap, rfl, h1, h2, h3⟩

theorem snd_app (hs : St cx F m E H a w) (hd : ∀ t, o.dst = some t → t < cx.n) {t e : TypeId} {s x : Operand} (ho : o.op = .call { callee := .builtin .append, args := #[s, x], argTypes := #[t, t] })
    {i : TypeInfo} {z : Value} (ht : P.underlying t = some (.slice e)) (hi : P.info? e = some i) (hz : i.zero = some z) (hzs : z.cells.size = i.size) (hz1 : z.cells.toList.all Value.oneCell' = true) (hsz : 0 < i.size)
    (hk : swpApp e i.size i.bytes H (ev E s) (ev E x) K) : o.wp P a w (Fin cx E o.dst K F m) Q := by
  have hrs := hs.ev s
  have hrx := hs.ev x
  unfold swpApp at hk
  split at hk
  case h_2 => exact hk.elim
  case h_1 n xs hview =>
    obtain ⟨hxl, _, hk⟩ := hk
    obtain ⟨hn, hxcase⟩ := aview_sound hs.sim hrx hview
    have fin : ∀ {v' : Value} {w' : World} {m' : List Ent} {v : AV} {H' : List Blk}, (Builtin.append_ #[t, t] o.type #[a.eval s, a.eval x]).run P w = .ok v' w' → MLe m m' → Rel F m' v v' → Sim cx.B cx.W0 F m' H' w' → K v H' → o.wp P a w (Fin cx E o.dst K F m) Q := by
      intro v' w' m' v H' hrun hm hr hsim hK
      refine snd_val hs hd ?_ (FLe.refl _) hm hsim hr hK
      simp [execOp, ho, resolve, invoke, builtin, hrun]
    split at hk
    · rename_i sav j ver len hsav
      split at hk
      case h_2 => exact hk.elim
      case h_1 k hkk =>
        obtain ⟨hkv, hkt, hks, hlen, hby, hby2, hK⟩ := hk
        rw [hsav] at hrs
        obtain ⟨en, p, n', cap, hval, hen, _, hnm⟩ := hrs.nm_inv
        have hok := hs.sim.blk j en k hen hkk
        have hxs : ∃ xs' : List Value, Rels F m xs xs' ∧ ((∃ xa cap, a.eval x = .slice (some xa) n cap ∧ ∀ (q : Nat) (v : Value), xs'[q]? = some v → w.cell? (xa.add q) = some v ∧ v.oneCell' = true) ∨ (a.eval x = .slice none 0 0 ∧ n = 0)) := by
          rcases hxcase with ⟨b, of, cap, vs, hxv, _, _, hrels, hc⟩ | ⟨⟨q, hxv⟩, h0, hnil⟩
          · exact ⟨vs, hrels, .inl ⟨_, cap, hxv, fun q v hq => by rw [Addr.add_none]; exact hc q v hq⟩⟩
          · cases q with
            | none => exact ⟨[], by rw [hnil]; exact Rels.nil _ _, .inr ⟨hxv, h0⟩⟩
            | some xa => exact ⟨[], by rw [hnil]; exact Rels.nil _ _, .inl ⟨xa, 0, by rw [hxv, h0], fun q v hq => by simp at hq⟩⟩
        obtain ⟨v', w', m', hrun, hm, hr, hsim⟩ := app_core (P := P) (ty := o.type) ht hi hz hzs hz1 hsz hs.sim hen hkk hkv hkt hks hlen hby hby2 (hnm (by rw [hok.1, hkv])) hxl hxs
        exact fin hrun hm hr hsim hK
    · rename_i sav hsav
      obtain ⟨hby, hby2, hK⟩ := hk
      rw [hsav] at hrs
      have hval := hrs.lit_inv
      have hs1 := hs.sim.pushNil e i.size
      have hm1 := MLe.append m [⟨none, 0, e, i.size, 0⟩]
      have hlast : (m ++ [(⟨none, 0, e, i.size, 0⟩ : Ent)])[m.length]? = some ⟨none, 0, e, i.size, 0⟩ := by simp
      have hlastH : (H ++ [(⟨0, e, i.size, []⟩ : Blk)])[m.length]? = some ⟨0, e, i.size, []⟩ := by rw [hs.sim.len]; simp
      have hxs : ∃ xs' : List Value, Rels F (m ++ [⟨none, 0, e, i.size, 0⟩]) xs xs' ∧ ((∃ xa cap, a.eval x = .slice (some xa) n cap ∧ ∀ (q : Nat) (v : Value), xs'[q]? = some v → w.cell? (xa.add q) = some v ∧ v.oneCell' = true) ∨ (a.eval x = .slice none 0 0 ∧ n = 0)) := by
        rcases hxcase with ⟨b, of, cap, vs, hxv, _, _, hrels, hc⟩ | ⟨⟨q, hxv⟩, h0, hnil⟩
        · exact ⟨vs, hrels.mono (FLe.refl _) hm1, .inl ⟨_, cap, hxv, fun q v hq => by rw [Addr.add_none]; exact hc q v hq⟩⟩
        · cases q with
          | none => exact ⟨[], by rw [hnil]; exact Rels.nil _ _, .inr ⟨hxv, h0⟩⟩
          | some xa => exact ⟨[], by rw [hnil]; exact Rels.nil _ _, .inl ⟨xa, 0, by rw [hxv, h0], fun q v hq => by simp at hq⟩⟩
      obtain ⟨v', w', m', hrun, hm, hr, hsim⟩ := app_core (P := P) (ty := o.type) (len := 0) (n := n) (sv := a.eval s) (xv := a.eval x) (ver := 0) ht hi hz hzs hz1 hsz hs1 hlast hlastH rfl rfl rfl (by simp) (by simpa using hby) (by simpa using hby2)
        ⟨0, Nat.le_refl _, Nat.zero_le _, .inr ⟨rfl, ⟨_, hval⟩, rfl, rfl⟩⟩ hxl hxs
      refine fin hrun (hm1.trans hm) (v := .nm H.length 1 0 n) (H' := H ++ [⟨1, e, i.size, xs⟩]) ?_ ?_ hK
      · rw [← hs.sim.len]; simpa using hr
      · rw [hs.sim.len] at hsim
        simpa using hsim
    · exact hk.elim

/-- A slice over a new block. -/
theorem snd_newrow (hs : St cx F m E H a w) (hd : ∀ t, o.dst = some t → t < cx.n) {ty : TypeId} {sz len cap : Nat} {cs : List AV} {arr : Array Value} (hr : Rels F m cs arr.toList) (h1 : ∀ v ∈ arr.toList, v.oneCell' = true)
    (hl : len ≤ cap) (hc : cap ≤ maxLen) (hsz : arr.size = cap * sz) (hrun : (execOp a.eval o).run P w = .ok (.value (.slice (some ⟨w.heap.size, 0, none⟩) len cap)) (w.alloc (.cells arr ty)))
    (hk : K (.nm H.length 0 0 len) (H ++ [⟨0, ty, sz, cs⟩])) : o.wp P a w (Fin cx E o.dst K F m) Q := by
  have hsim := hs.sim.push arr ty sz cs (by rw [hr.1]; simp) (fun j c v h2 h3 => hr.2 j c v h2 (by simpa using h3)) (fun j v h2 => h1 v (by
    have : arr.toList[j]? = some v := by simpa using h2
    exact List.mem_of_getElem? this))
  refine snd_val hs hd hrun (FLe.refl _) (MLe.append m _) hsim ?_ hk
  rw [← hs.sim.len]
  exact .nm m.length 0 0 len _ _ _ _ (push_last m _) (Nat.le_refl _) (fun _ => ⟨cap, hl, hc, .inl ⟨w.heap.size, rfl, rfl, by simp [hsz]⟩⟩)

theorem Rels.one {cs : List AV} {vs : List Value} (hr : Rels F m cs vs) (h1 : cs.all AV.cell1 = true) : ∀ v ∈ vs, v.oneCell' = true := by
  intro v hv
  obtain ⟨j, hj⟩ := List.getElem?_of_mem hv
  have hlt : j < cs.length := by rw [hr.1]; exact (List.getElem?_eq_some_iff.1 hj).1
  exact (hr.2 j _ v (List.getElem?_eq_getElem hlt) hj).cell1 (List.all_eq_true.1 h1 _ (List.getElem_mem hlt))

theorem afill_length : ∀ (parts : List (Nat × Nat × AV)) {cells cs : List AV}, afill cells parts = some cs → cs.length = cells.length
  | [], cells, cs, h => by simp [afill] at h; rw [h]
  | (off, size, v) :: rest, cells, cs, h => by
    simp only [afill] at h
    split at h
    · rw [afill_length rest h, setMany_length]
    · simp at h

theorem snd_build (hs : St cx F m E H a w) (hd : ∀ t, o.dst = some t → t < cx.n) {t : TypeId} {ps : Array (Nat × Operand)} (ho : o.op = .build t ps) {fs : Array Field} {i : TypeInfo} {z : Value} (hu : P.underlying t = some (.struct fs)) (hi : P.info? t = some i) (hz : i.zero = some z)
    {places : Array (Nat × Nat)} (hpl : ∀ w, (fs.mapM fun f => do pure (f.offset, ← sizeOf f.type) : Sem (Array (Nat × Nat))).run P w = .ok places w) (parts : List (Nat × Nat × Nat × Operand)) (hparts : ps.toList = parts.map fun p => (p.1, p.2.2.2)) (hplace : ∀ p ∈ parts, places[p.1]? = some (p.2.1, p.2.2.1))
    (h1 : ∀ p ∈ parts, (partsOf (ev E p.2.2.2)).all AV.cell1 = true) {cs : List AV} (hf : afill (z.cells.toList.map .lit) (parts.map fun p => (p.2.1, p.2.2.1, ev E p.2.2.2)) = some cs) (hk : K (.agg cs) H) : o.wp P a w (Fin cx E o.dst K F m) Q := by
  obtain ⟨us, g1, g2⟩ := fill_sound (E := E) (F := F) (m := m) (a := a) (place := (places[·]?)) parts hplace (Rels.lits F m z.cells.toList) hs.ev h1 hf
  refine snd_pure hs hd (u := .agg us) ?_ (by have := Rel.agg (F := F) (m := m) cs us.toList g2.1 g2.2; simpa using this) hk
  have hps : (ps.map fun (p : Nat × Operand) => (p.1, a.eval p.2)).toList = parts.map fun p => (p.1, a.eval p.2.2.2) := by
    rw [Array.toList_map, hparts, List.map_map]; rfl
  have hps' : (ps.map fun (p : Nat × Operand) => (p.1, a.eval p.2)) = (parts.map fun p => (p.1, a.eval p.2.2.2)).toArray := by
    rw [← hps]
  have e1 : (execOp a.eval o) = (do let v ← Instr.build t (ps.map fun (p : Nat × Operand) => (p.1, a.eval p.2)); pure (.value v)) := by
    simp [execOp, ho]
  rw [e1, hps']
  simp only [Instr.build, Sem.run_bind, run_zeroValue' hi hz, Result.andThen_ok, run_underlying hu, hpl, g1, Sem.run_pure]

theorem snd_builda (hs : St cx F m E H a w) (hd : ∀ t, o.dst = some t → t < cx.n) {t : TypeId} {ps : Array (Nat × Operand)} (ho : o.op = .build t ps) {n : Nat} {el : TypeId} {i ie : TypeInfo} {z : Value} (hu : P.underlying t = some (.array n el)) (hi : P.info? t = some i) (hz : i.zero = some z) (hie : P.info? el = some ie)
    (h1 : ∀ p ∈ ps.toList, (partsOf (ev E p.2)).all AV.cell1 = true) {cs : List AV} (hf : afill (z.cells.toList.map .lit) (ps.toList.map fun p => (p.1 * ie.size, ie.size, ev E p.2)) = some cs) (hk : K (.agg cs) H) : o.wp P a w (Fin cx E o.dst K F m) Q := by
  have hf' : afill (z.cells.toList.map .lit) ((ps.toList.map fun p => (p.1, p.1 * ie.size, ie.size, p.2)).map fun p => (p.2.1, p.2.2.1, ev E p.2.2.2)) = some cs := by rw [List.map_map]; exact hf
  obtain ⟨us, g1, g2⟩ := fill_sound (E := E) (F := F) (m := m) (a := a) (place := fun i => some (i * ie.size, ie.size)) (ps.toList.map fun p => (p.1, p.1 * ie.size, ie.size, p.2)) (by
    intro p hp
    obtain ⟨q, _, rfl⟩ := List.mem_map.1 hp
    rfl) (Rels.lits F m z.cells.toList) hs.ev (by
    intro p hp
    obtain ⟨q, hq, rfl⟩ := List.mem_map.1 hp
    exact h1 q hq) hf'
  refine snd_pure hs hd (u := .agg us) ?_ (by have := Rel.agg (F := F) (m := m) cs us.toList g2.1 g2.2; simpa using this) hk
  have hps' : (ps.map fun (p : Nat × Operand) => (p.1, a.eval p.2)).toList = (ps.toList.map fun p => (p.1, p.1 * ie.size, ie.size, p.2)).map fun p => (p.1, a.eval p.2.2.2) := by
    rw [Array.toList_map, List.map_map]; rfl
  have e1 : (execOp a.eval o) = (do let v ← Instr.build t (ps.map fun (p : Nat × Operand) => (p.1, a.eval p.2)); pure (.value v)) := by
    simp [execOp, ho]
  rw [e1]
  simp only [Instr.build, Sem.run_bind, run_zeroValue' hi hz, Result.andThen_ok, run_underlying hu, run_sizeOf' hie, hps', g1, Sem.run_pure]

theorem snd_slc0 (hs : St cx F m E H a w) (hd : ∀ t, o.dst = some t → t < cx.n) {t e : TypeId} {x : Operand} {kh km : IntKind} (ho : o.op = .slice t x none (some (.const (.int kh 0))) (some (.const (.int km 0)))) {i : TypeInfo} (hu : P.underlying t = some (.slice e)) (hi' : P.info? e = some i)
    {p : Nat × List AV} (hv : aview H (ev E x) = some p) (hk : K (.nm H.length 0 0 0) (H ++ [⟨0, e, i.size, []⟩])) : o.wp P a w (Fin cx E o.dst K F m) Q := by
  obtain ⟨n, cells⟩ := p
  obtain ⟨hn, hcase⟩ := aview_sound hs.sim (hs.ev x) hv
  have hsl : ∃ q n cap, a.eval x = .slice q n cap := by
    rcases hcase with ⟨b, of, cap, vs, hval, hnc, _⟩ | ⟨⟨q, hval⟩, hn0, _⟩
    · exact ⟨_, _, _, hval⟩
    · exact ⟨_, _, _, hval⟩
  obtain ⟨q, n', cap, hval⟩ := hsl
  have hel : P.elem t = e := by simp [Program.elem, hu]
  have hu' : P.underlying t = some (.slice (P.elem t)) := by rw [hel]; exact hu
  have hrun : (execOp a.eval o).run P w = .ok (.value (.slice q 0 0)) w := by
    have e1 : (execOp a.eval o) = (do let v ← Instr.sliceAt t (.slice q n' cap) none (some (.int kh 0)) (some (.int km 0)); pure (.value v)) := by
      simp [execOp, ho, hval, show a.eval (.const (.int kh 0)) = .int kh 0 from rfl, show a.eval (.const (.int km 0)) = .int km 0 from rfl]
    rw [e1]
    simp only [Sem.run_bind, run_sliceAt_slice w t _ _ _ _ hu']
    rw [run_slice_hm w t q n' cap hu' kh km 0 0 (by omega) (by omega) (by omega), hel]
    simp [run_sizeOf' hi', sliced]
  have h1 := hs.sim.pushNil e i.size
  have hm1 := MLe.append m [⟨none, 0, e, i.size, 0⟩]
  refine snd_val hs hd hrun (FLe.refl _) hm1 h1 ?_ hk
  rw [← hs.sim.len]
  exact .nm m.length 0 0 0 ⟨none, 0, e, i.size, 0⟩ q 0 0 (by simp) (Nat.le_refl _) (fun _ => ⟨0, Nat.le_refl _, Nat.zero_le _, .inr ⟨rfl, ⟨q, rfl⟩, rfl, rfl⟩⟩)

theorem snd_bslice (hs : St cx F m E H a w) (hd : ∀ t, o.dst = some t → t < cx.n) {t e : TypeId} {n : Nat} {ps : Array (Nat × Operand)} (ho : o.op = .buildSlice t n ps) {i : TypeInfo} {z : Value} (hu : P.underlying t = some (.slice e)) (hi : P.info? e = some i) (hz : i.zero = some z) (hsz : 0 < i.size)
    (hn : n * i.size ≤ 2 ^ 24) (hzs : z.cells.size = i.size) (h1 : ∀ p ∈ ps.toList, (partsOf (ev E p.2)).all AV.cell1 = true) {cs : List AV}
    (hf : afill ((List.range (n * i.size)).map fun q => .lit (z.cells.toList.getD (q % i.size) undef)) (ps.toList.map fun p => (p.1 * i.size, i.size, ev E p.2)) = some cs) (hcs : cs.all AV.cell1 = true)
    (hk : K (.nm H.length 0 0 n) (H ++ [⟨0, e, i.size, cs⟩])) : o.wp P a w (Fin cx E o.dst K F m) Q := by
  have hzeros : ((Array.range (n * i.size)).map fun q => (if n * i.size = 0 then #[] else z.cells)[q % (if n * i.size = 0 then #[] else z.cells).size]!).toList = ((List.range (n * i.size)).map fun q => z.cells.toList.getD (q % i.size) undef) := by
    apply List.ext_getElem?
    intro q
    by_cases hq : q < n * i.size
    · have h0 : n * i.size ≠ 0 := by omega
      have hlt : q % i.size < z.cells.size := by rw [hzs]; exact Nat.mod_lt _ hsz
      simp [h0, hq, hzs, getElem!_pos z.cells (q % i.size) hlt]
      rw [Array.getElem?_eq_getElem hlt]; rfl
    · simp [hq]
  obtain ⟨us, g1, g2⟩ := fill_sound (E := E) (F := F) (m := m) (a := a) (place := fun q => some (q * i.size, i.size)) (ps.toList.map fun p => (p.1, p.1 * i.size, i.size, p.2))
    (cells := (List.range (n * i.size)).map fun q => .lit (z.cells.toList.getD (q % i.size) undef)) (vs := (Array.range (n * i.size)).map fun q => (if n * i.size = 0 then #[] else z.cells)[q % (if n * i.size = 0 then #[] else z.cells).size]!) (cs := cs)
    (by intro p hp; simp only [List.mem_map] at hp; obtain ⟨q, _, rfl⟩ := hp; rfl)
    (by
      rw [hzeros]
      have := Rels.lits F m ((List.range (n * i.size)).map fun q => z.cells.toList.getD (q % i.size) undef)
      rw [List.map_map] at this; exact this)
    hs.ev (by intro p hp; simp only [List.mem_map] at hp; obtain ⟨q, hq, rfl⟩ := hp; exact h1 q hq) (by rw [List.map_map]; exact hf)
  have hul : us.size = n * i.size := by
    have h3 : us.toList.length = us.size := Array.length_toList
    rw [← h3, ← g2.1, afill_length _ hf]; simp
  have hmax : n ≤ maxLen := by
    have : n ≤ n * i.size := Nat.le_mul_of_pos_right n hsz
    simp only [maxLen]; omega
  have e1 : (execOp a.eval o) = (do let v ← Instr.buildSlice t n (ps.map fun (p : Nat × Operand) => (p.1, a.eval p.2)); pure (.value v)) := by
    simp [execOp, ho]
  have hps : (ps.map fun (p : Nat × Operand) => (p.1, a.eval p.2)).toList = (ps.toList.map fun p => (p.1, p.1 * i.size, i.size, p.2)).map fun p => (p.1, a.eval p.2.2.2) := by
    rw [Array.toList_map, List.map_map]; rfl
  refine snd_newrow hs hd (cap := n) g2 (Rels.one g2 hcs) (Nat.le_refl _) hmax hul ?_ hk
  rw [e1]
  simp only [Instr.buildSlice, Sem.run_bind, run_underlying hu, Result.andThen_ok, run_sizeOf' hi]
  rw [if_neg (by omega)]
  by_cases h0 : n * i.size = 0
  · simp only [if_pos h0] at g1 ⊢
    simp only [Sem.run_bind, Sem.run_pure, Result.andThen_ok, hps, g1, newRow, run_newObj, World.alloc_eq]
  · simp only [if_neg h0] at g1 ⊢
    simp only [Sem.run_bind, Sem.run_pure, Result.andThen_ok, run_zeroValue' hi hz, hps, g1, newRow, run_newObj, World.alloc_eq]

theorem madeCells_toList_one (z : Value) (n : Nat) : (madeCells #[z] n).toList = List.replicate n z := toList_madeCells_one z n

theorem snd_mslice (hs : St cx F m E H a w) (hd : ∀ t, o.dst = some t → t < cx.n) {t e : TypeId} {l c : Operand} (ho : o.op = .makeSlice t l c) {i : TypeInfo} {z : Value} (hu : P.underlying t = some (.slice e)) (hi : P.info? e = some i) (hz : i.zero = some z) (hsz : i.size = 1) (hz1 : z.oneCell' = true)
    {kl kc : IntKind} {x y : Int} (hl : ev E l = .lit (.int kl x)) (hc : ev E c = .lit (.int kc y)) (h0 : 0 ≤ x) (hxy : x ≤ y) (hb : y * i.bytes ≤ 281474976710656) (hy : y ≤ 281474976710656)
    (hk : K (.nm H.length 0 0 x.toNat) (H ++ [⟨0, e, 1, List.replicate y.toNat (.lit z)⟩])) : o.wp P a w (Fin cx E o.dst K F m) Q := by
  have h1 := hs.ev l
  have h2 := hs.ev c
  rw [hl] at h1; rw [hc] at h2
  have g1 := h1.lit_inv
  have g2 := h2.lit_inv
  have hzc : z.cells = #[z] := by cases z <;> simp_all [Value.cells, Value.oneCell']
  have hrun := run_make (P := P) w t e i z hu hi hz kl kc x y h0 hxy (by rw [Int.mul_comm]; exact hb) (by omega)
  rw [hzc, hsz, Nat.mul_one] at hrun
  have hm : (madeCells #[z] y.toNat).toList = List.replicate y.toNat z := madeCells_toList_one z _
  refine snd_newrow hs hd (ty := e) (sz := 1) (cap := y.toNat) (arr := madeCells #[z] y.toNat) (cs := List.replicate y.toNat (.lit z)) ?_ ?_ (by omega) (by simp only [maxLen]; omega) (by rw [size_madeCells]; omega) ?_ hk
  · rw [hm]
    have := Rels.lits F m (List.replicate y.toNat z)
    simpa using this
  · rw [hm]; intro v hv; have := List.eq_of_mem_replicate hv; rw [this]; exact hz1
  · simp [execOp, ho, g1, g2, hrun]

theorem snd_call (hs : St cx F m E H a w) (hd : ∀ t, o.dst = some t → t < cx.n) {f : FuncId} {args : List AV} {vs : List Value} (hrun : (execOp a.eval o).run P w = .ok (.enter f vs.toArray) w) (hr : Rels F m args vs)
    (hk : ACalls P f args H K) : o.wp P a w (Fin cx E o.dst K F m) Q := by
  unfold Oper.wp
  rw [hrun]
  show Calls P f vs.toArray w _
  refine (hk cx.B cx.W0 F m w vs hr hs.sim).mono ?_
  rintro e w' ⟨F', m', H', r, v, rfl, hF, hm, hrv, hsim, hK⟩
  exact ⟨F', m', r, H', hK, hF, hm, hs.put hF hm hsim hd hrv⟩

theorem run_callFunc {f : FuncId} (hc : callable P f = true) (args : Array Value) (w : World) : (callFunc f args).run P w = .ok (.enter f args) w := by
  unfold callable at hc
  split at hc
  · rename_i fn hf
    simp only [Bool.and_eq_true, Bool.not_eq_true'] at hc
    have hb : fn.body.isNone = false := by cases h : fn.body <;> simp_all
    unfold callFunc
    simp only [Sem.run_bind, run_program, Result.andThen_ok, hf]
    rw [if_neg (by rw [hc.1]; simp), if_neg (by rw [hb]; simp)]
    rfl
  · simp at hc

theorem run_call_static {c : Call} {f : FuncId} (ho : o.op = .call c) (hcal : c.callee = .value (.func f)) (hc : callable P f = true) : (execOp a.eval o).run P w = .ok (.enter f (c.args.toList.map a.eval).toArray) w := by
  have : c.args.map a.eval = (c.args.toList.map a.eval).toArray := by apply Array.ext'; simp
  simp [execOp, ho, resolve, hcal, Act.eval, Deferred.ofValue, invoke, run_callFunc hc, this]

theorem run_call_value {c : Call} {x : Operand} (ho : o.op = .call c) (hcal : c.callee = .value x) {f : FuncId} {us : List Value} (hx : a.eval x = .func (.func f) #[] us.toArray) (hc : callable P f = true) :
    (execOp a.eval o).run P w = .ok (.enter f (c.args.toList.map a.eval ++ us).toArray) w := by
  have : c.args.map a.eval ++ us.toArray = (c.args.toList.map a.eval ++ us).toArray := by apply Array.ext'; simp
  simp [execOp, ho, resolve, hcal, hx, Deferred.ofValue, invoke, run_callFunc hc, this]

theorem Rel.fn_inv {f : FuncId} {cs : List AV} {v : Value} (h : Rel F m (.fn f cs) v) : ∃ us : List Value, v = .func (.func f) #[] us.toArray ∧ Rels F m cs us := by
  cases h with
  | fn _ _ us h1 h2 => exact ⟨us, rfl, h1, h2⟩

theorem snd_callf (hs : St cx F m E H a w) (hd : ∀ t, o.dst = some t → t < cx.n) {c : Call} {f : FuncId} (ho : o.op = .call c) (hcal : c.callee = .value (.func f)) (hc : callable P f = true) (hk : ACalls P f (c.args.toList.map (ev E)) H K) : o.wp P a w (Fin cx E o.dst K F m) Q :=
  snd_call hs hd (run_call_static ho hcal hc) (hs.evs _) hk

theorem snd_callv (hs : St cx F m E H a w) (hd : ∀ t, o.dst = some t → t < cx.n) {c : Call} {x : Operand} (ho : o.op = .call c) (hcal : c.callee = .value x) {f : FuncId} {cs : List AV} (hx : ev E x = .fn f cs) (hc : callable P f = true)
    (hk : ACalls P f (c.args.toList.map (ev E) ++ cs) H K) : o.wp P a w (Fin cx E o.dst K F m) Q := by
  have h1 := hs.ev x
  rw [hx] at h1
  obtain ⟨us, hv, hr⟩ := h1.fn_inv
  exact snd_call hs hd (run_call_value ho hcal hv hc) ((hs.evs _).append hr) hk

theorem snd_slc (hs : St cx F m E H a w) (hd : ∀ t, o.dst = some t → t < cx.n) {t e : TypeId} {x : Operand} {lo hi : Option Operand} (ho : o.op = .slice t x lo hi none) {i : TypeInfo} (hu : P.underlying t = some (.slice e)) (hi' : P.info? e = some i) (_hsz : 0 < i.size)
    (hk : swpSlc i.size H (ev E x) (lo.map (ev E)) (hi.map (ev E)) fun v => K v H) : o.wp P a w (Fin cx E o.dst K F m) Q := by
  have hrx := hs.ev x
  unfold swpSlc at hk
  split at hk
  case h_2 => exact hk.elim
  case h_1 n cells hview =>
    split at hk
    case h_2 => exact hk.elim
    case h_1 l h hl hh =>
      obtain ⟨h0, hlh, hhn, hsz0, hK⟩ := hk
      obtain ⟨hn, hcase⟩ := aview_sound hs.sim hrx hview
      have hsl : ∃ p cap, a.eval x = .slice p n cap ∧ n ≤ cap := by
        rcases hcase with ⟨b, of, cap, vs, hval, hnc, _⟩ | ⟨⟨q, hval⟩, hn0, _⟩
        · exact ⟨_, _, hval, hnc⟩
        · exact ⟨_, _, by rw [hval, hn0], by omega⟩
      obtain ⟨p, cap, hval, hnc⟩ := hsl
      have hel : P.elem t = e := by simp [Program.elem, hu]
      have hu' : P.underlying t = some (.slice (P.elem t)) := by rw [hel]; exact hu
      -- the values of the bounds
      have hlo : (lo.map a.eval = none ∧ l = 0) ∨ ∃ k, lo.map a.eval = some (.int k l) := by
        cases lo with
        | none => simp at hl; exact .inl ⟨rfl, hl.symm⟩
        | some q =>
          right
          have hq := hs.ev q
          simp only [Option.map_some] at hl
          split at hl
          · rename_i k l' heq
            simp only [Option.some.injEq] at heq
            rw [heq] at hq
            simp only [Option.some.injEq] at hl
            subst hl
            exact ⟨k, by simp [hq.lit_inv]⟩
          · simp at *
          · simp at hl
      have hhi : (hi.map a.eval = none ∧ h = n) ∨ ∃ k, hi.map a.eval = some (.int k h) := by
        cases hi with
        | none => simp at hh; exact .inl ⟨rfl, hh.symm⟩
        | some q =>
          right
          have hq := hs.ev q
          simp only [Option.map_some] at hh
          split at hh
          · rename_i k l' heq
            simp only [Option.some.injEq] at heq
            rw [heq] at hq
            simp only [Option.some.injEq] at hh
            subst hh
            exact ⟨k, by simp [hq.lit_inv]⟩
          · simp at *
          · simp at hh
      have hrun : (execOp a.eval o).run P w = .ok (.value (.slice (if cap = l.toNat then p else p.map (·.add (l.toNat * i.size))) (h.toNat - l.toNat) (cap - l.toNat))) w := by
        have e1 : (execOp a.eval o) = (do let v ← Instr.sliceAt t (.slice p n cap) (lo.map a.eval) (hi.map a.eval) none; pure (.value v)) := by
          simp [execOp, ho, hval]
        rw [e1]
        simp only [Sem.run_bind, run_sliceAt_slice w t _ _ _ _ hu']
        rcases hlo with ⟨hlo, rfl⟩ | ⟨kl, hlo⟩ <;> rcases hhi with ⟨hhi, rfl⟩ | ⟨kh, hhi⟩ <;> rw [hlo, hhi]
        · rw [run_slice_all w t p n cap hu', hel]; simp [run_sizeOf' hi', sliced]
        · rw [run_slice_h w t p n cap hu' kh h (by omega) (by omega), hel]; simp [run_sizeOf' hi', sliced]
        · rw [run_slice_l w t p n cap hu' kl l (by omega) (by omega), hel]; simp [run_sizeOf' hi', sliced]
        · rw [run_slice_lh w t p n cap hu' kl kh l h (by omega) (by omega) (by omega), hel]; simp [run_sizeOf' hi', sliced]
      refine snd_pure hs hd hrun ?_ hK
      cases hrx' : ev E x with
      | nm j ver off n' =>
        rw [hrx'] at hrx hview
        simp only
        generalize hxv : a.eval x = xv at hrx hval
        cases hrx with
        | nm _ _ _ _ en p' q' cap' h1 h2 h3 =>
          simp only [Value.slice.injEq] at hval
          obtain ⟨rfl, _, rfl⟩ := hval
          simp only [aview] at hview
          split at hview
          case h_2 => simp at hview
          case h_1 k hk =>
            split at hview
            case isFalse => simp at hview
            case isTrue hver =>
              simp only [Option.some.injEq, Prod.mk.injEq] at hview
              obtain ⟨rfl, _⟩ := hview
              have hok := hs.sim.blk j en k h1 hk
              obtain ⟨c, g1, g2, g3⟩ := h3 (by rw [hok.1, hver])
              by_cases hl0 : l = 0
              · subst hl0
                rw [if_pos rfl]
                have e0 : (0 : Int).toNat = 0 := rfl
                simp only [e0, Nat.zero_mul, Nat.sub_zero]
                have ep : (if cap' = 0 then p' else Option.map (fun x => x.add 0) p') = p' := by
                  split
                  · rfl
                  · cases p' <;> simp [Addr.add]
                rw [ep]
                refine .nm j ver off h.toNat en _ _ _ h1 h2 (fun _ => ⟨c, ?_⟩)
                rcases g3 with ⟨b, hb, hv, hsz'⟩ | ⟨hb, hv, hn0, ho0⟩
                · simp only [Value.slice.injEq] at hv
                  obtain ⟨rfl, _, rfl⟩ := hv
                  exact ⟨by omega, g2, .inl ⟨b, hb, rfl, hsz'⟩⟩
                · obtain ⟨qq, hv⟩ := hv
                  simp only [Value.slice.injEq] at hv
                  obtain ⟨rfl, hq, rfl⟩ := hv
                  have : h.toNat = 0 := by omega
                  rw [this]
                  exact ⟨by omega, g2, .inr ⟨hb, ⟨_, rfl⟩, rfl, ho0⟩⟩
              · rw [if_neg hl0]
                by_cases hlh' : l = h
                · rw [if_pos hlh']
                  subst hlh'
                  rw [Nat.sub_self]
                  rcases g3 with ⟨b, hb, hv, hsz'⟩ | ⟨hb, hv, hn0, ho0⟩
                  · simp only [Value.slice.injEq] at hv
                    obtain ⟨rfl, _, rfl⟩ := hv
                    split
                    · exact .il 0 [] b off _ [] (Nat.zero_le _) (by omega) rfl (fun j v hj => by simp at hj) (fun j c v hj => by simp at hj)
                    · simp only [Option.map_some, Addr.add_none]
                      exact .il 0 [] b _ _ [] (Nat.zero_le _) (by omega) rfl (fun j v hj => by simp at hj) (fun j c v hj => by simp at hj)
                  · omega
                · rw [if_neg hlh']
                  rcases g3 with ⟨b, hb, hv, hsz'⟩ | ⟨hb, hv, hn0, ho0⟩
                  · simp only [Value.slice.injEq] at hv
                    obtain ⟨rfl, _, rfl⟩ := hv
                    rw [if_neg (by omega)]
                    simp only [Option.map_some, Addr.add_none]
                    refine .nm j ver (off + l.toNat * i.size) (h.toNat - l.toNat) en _ _ _ h1 h2 (fun _ => ⟨cap' - l.toNat, by omega, by omega, .inl ⟨b, hb, rfl, ?_⟩⟩)
                    have hsz2 : en.sz = i.size := by
                      have := hsz0 j ver off n' hrx'
                      rw [hk] at this
                      simp at this
                      rw [hok.2.2.1, this]
                    rw [hsz2] at hsz' ⊢
                    rw [← hsz', Nat.add_assoc, ← Nat.add_mul]
                    congr 2; omega
                  · omega
      | il n' cells' =>
        rw [hrx'] at hrx hview
        simp only [aview, Option.some.injEq, Prod.mk.injEq] at hview
        obtain ⟨rfl, rfl⟩ := hview
        simp only
        generalize hxv : a.eval x = xv at hrx hval
        cases hrx with
        | il0 =>
          simp only [Value.slice.injEq] at hval
          obtain ⟨rfl, _, rfl⟩ := hval
          have e1 : l.toNat = 0 := by omega
          have e2 : h.toNat = 0 := by omega
          rw [e1, e2]
          simp
          exact .il0
        | il1 ad =>
          simp only [Value.slice.injEq] at hval
          obtain ⟨rfl, _, rfl⟩ := hval
          have e1 : l.toNat = 0 := by omega
          have e2 : h.toNat = 0 := by omega
          rw [e1, e2]
          simp
          exact .il1 ad
        | il _ _ b of c vs h1 h2 h3 h4 h5 =>
          simp only [Value.slice.injEq] at hval
          obtain ⟨rfl, _, rfl⟩ := hval
          have hr2 : Rels F m ((cells'.drop (l.toNat * i.size)).take ((h.toNat - l.toNat) * i.size)) ((vs.drop (l.toNat * i.size)).take ((h.toNat - l.toNat) * i.size)) := Rels.take (Rels.drop ⟨h3, h5⟩ _) _
          have hcell : ∀ (q : Nat) (v : Value), ((vs.drop (l.toNat * i.size)).take ((h.toNat - l.toNat) * i.size))[q]? = some v → F b (of + l.toNat * i.size + q) v := by
            intro q v hq
            rw [List.getElem?_take] at hq
            split at hq
            · rw [List.getElem?_drop] at hq
              rw [Nat.add_assoc]; exact h4 _ v hq
            · simp at hq
          split
          · rename_i hcl
            have : h.toNat - l.toNat = 0 := by omega
            rw [this] at hr2 ⊢
            simp only [Nat.zero_mul, List.take_zero] at hr2 ⊢
            exact .il 0 [] b of _ [] (Nat.zero_le _) (by omega) rfl (fun j v hj => by simp at hj) (fun j c v hj => by simp at hj)
          · simp only [Option.map_some, Addr.add_none]
            exact .il _ _ b _ _ _ (by omega) (by omega) hr2.1 hcell hr2.2
      | lit v =>
        rw [hrx'] at hrx hview
        have hx : v = Value.slice none 0 0 ∧ n = 0 ∧ cells = [] := by
          unfold aview at hview
          split at hview <;> simp_all
        obtain ⟨rfl, rfl, rfl⟩ := hx
        have := hrx.lit_inv
        rw [this] at hval
        simp only [Value.slice.injEq] at hval
        obtain ⟨rfl, _, rfl⟩ := hval
        have e1 : l.toNat = 0 := by omega
        have e2 : h.toNat = 0 := by omega
        rw [e1, e2]
        simp
        exact .il0
      | junk => rw [hrx'] at hview; simp [aview] at hview
      | pc i ver off => rw [hrx'] at hview; simp [aview] at hview
      | el s k => rw [hrx'] at hview; simp [aview] at hview
      | agg cs => rw [hrx'] at hview; simp [aview] at hview
      | tup cs => rw [hrx'] at hview; simp [aview] at hview
      | fn f cs => rw [hrx'] at hview; simp [aview] at hview
end
end Go.Av
