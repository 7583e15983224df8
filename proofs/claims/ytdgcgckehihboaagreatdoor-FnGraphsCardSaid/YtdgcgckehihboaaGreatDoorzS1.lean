/- Sorting by the library's function: from the kit's contract to abstract memory. -/
import Derived.Test.YtdgcgckehihboaaGreatDoorzAvA
import Derived.Shelf.SlSortCmp.NoneTotal
import Derived.Shelf.SortM.Plain
import Derived.Shelf.SortM.SortNone
import Derived.Shelf.SlicesE.Delete
set_option linter.unusedSimpArgs false
set_option linter.unusedVariables false
set_option linter.unusedSectionVars false
set_option maxHeartbeats 4000000
set_option maxRecDepth 100000
namespace Go.Sort
variable [Go.Av.DoorC]
end Go.Sort
namespace Go.Av
variable [Go.Av.DoorC]
open Go.RowKit Go.Sort Go.Proofs
section
variable {B : Nat} {W0 : World} {F : Fz} {m : List Ent} {H : List Blk} {w : World}
theorem Sim.recell (h : Sim B W0 F m H w) {i : Nat} {e : Ent} {k : Blk} {b : Nat} {arr arr' : Array Value} {cells' : List AV} {w' : World} (he : m[i]? = some e) (hk : H[i]? = some k) (hb : e.blk = some b)
    (ha : w.heap[b]? = some (.cells arr e.ty (0, 0))) (ha' : w'.heap[b]? = some (.cells arr' e.ty (0, 0))) (hsz : arr'.size = arr.size) (hl : cells'.length ≤ arr'.size)
    (hr : ∀ (j : Nat) (c : AV) (v : Value), cells'[j]? = some c → arr'[j]? = some v → Rel F m c v) (ho : ∀ (j : Nat) (v : Value), arr'[j]? = some v → v.oneCell' = true)
    (hoth : ∀ c, c < w.heap.size → c ≠ b → w'.heap[c]? = w.heap[c]?) (hs : w.heap.size ≤ w'.heap.size) (hos : w'.os = w.os) (htp : w'.tape = w.tape) (hout : w'.output = w.output) (hdr : w.drawn ≤ w'.drawn) :
    Sim B W0 F m (H.set i ⟨k.ver, k.ty, k.sz, cells'⟩) w' := by
  have hB := (h.blk i e k he hk)
  obtain ⟨g1, g2, g3, g4, g5⟩ := hB
  obtain ⟨hBb, ⟨hz0, arr0, ha0, hs0, hl0, hr0, ho0⟩ | ⟨_, es, clock, hm0, _⟩⟩ := g5 b hb
  rotate_left
  · rw [ha] at hm0; injection hm0 with hm0; cases hm0
  rw [ha] at ha0
  obtain rfl : arr = arr0 := by injection ha0 with ha0; injection ha0
  have hilt : i < H.length := (List.getElem?_eq_some_iff.1 hk).1
  refine ⟨by simp [h.len], ⟨hos.trans h.below.os, htp.trans h.below.tape, hout.trans h.below.output, Nat.le_trans h.below.size hs, fun c hc => ?_, h.below.drawn.trans (.of hdr)⟩, Nat.le_trans h.base hs, fun b' o v hf => ?_, h.apart, h.dist, fun j e' k' he' hk' => ?_, h.glob⟩
  · rw [hoth c (Nat.lt_of_lt_of_le hc h.base) (by omega)]; exact h.below.block c hc
  · have h1 := h.fz b' o v hf
    refine ⟨?_, h1.2⟩
    rw [World.cell?_of_block (w := w) (a := ⟨b', o, none⟩) (hoth b' (h.fz_lt hf) (fun hbb => h.apart i e b o v he hb (hbb ▸ hf)))]
    exact h1.1
  · by_cases hij : i = j
    · subst hij
      rw [List.getElem?_set_self hilt] at hk'
      rw [he] at he'
      injection hk' with hk'; injection he' with he'
      subst hk'; subst he'
      refine ⟨g1, g2, g3, fun hn => ?_, fun b' hb' => ?_⟩
      · rw [hb] at hn; cases hn
      rw [hb] at hb'; injection hb' with hb'; subst hb'
      exact ⟨hBb, .inl ⟨hz0, arr', ha', by rw [hsz]; exact hs0, by rw [← hs0, ← hsz]; exact hl, hr, ho⟩⟩
    · rw [List.getElem?_set_ne hij] at hk'
      refine (h.blk j e' k' he' hk').mono (FLe.refl _) (MLe.refl _) (fun b' hb' => ?_)
      refine hoth b' (h.blk_lt he' hb') (fun hbb => hij ?_)
      subst hbb
      exact h.dist i j e e' b' he he' hb hb'
end
def SortsN (P : Program) (f : FuncId) : Prop := ∀ (p : Option Addr) (cap : Nat) (fv : Value) (w : World), Calls P f #[.slice p 0 cap, fv] w fun e w' => e = .returned (.tuple #[]) ∧ w' = w
theorem heap_sortWorld {α : Type} [Inhabited α] (enc : α → Value) (w : World) (b mm : Nat) (dk : Array α) (os : Array Obj) (arr : Array Value) (ty : TypeId) (ha : w.heap[b]? = some (.cells arr ty (0, 0))) :
    (sortWorld enc w b 0 mm dk os).heap[b]? = some (.cells (putCells enc 0 dk arr) ty (0, 0)) ∧ (∀ c, c < w.heap.size → c ≠ b → (sortWorld enc w b 0 mm dk os).heap[c]? = w.heap[c]?) ∧ w.heap.size ≤ (sortWorld enc w b 0 mm dk os).heap.size := by
  have hb := (Array.getElem?_eq_some_iff.1 ha).1
  have hsz : (putRow enc (Sort.ahead w mm) b 0 dk).heap.size = w.heap.size := by simp
  have hp : ∀ c, c < w.heap.size → (sortWorld enc w b 0 mm dk os).heap[c]? = (putRow enc (Sort.ahead w mm) b 0 dk).heap[c]? := fun c hc => by
    show ((putRow enc (Sort.ahead w mm) b 0 dk).heap ++ os)[c]? = _
    rw [Array.getElem?_append_left (by omega)]
  refine ⟨?_, fun c hc hne => ?_, ?_⟩
  · rw [hp b hb]
    show ((Sort.ahead w mm).heap.modify b _)[b]? = _
    rw [Array.getElem?_modify, if_pos rfl]
    show Option.map _ (w.heap[b]?) = _
    rw [ha]; rfl
  · rw [hp c hc]
    show ((Sort.ahead w mm).heap.modify b _)[c]? = _
    rw [Array.getElem?_modify, if_neg (by omega)]
    rfl
  · show _ ≤ ((putRow enc (Sort.ahead w mm) b 0 dk).heap ++ os).size
    rw [Array.size_append]; omega
end Go.Av
namespace Go.Sort
variable [Go.Av.DoorC]
end Go.Sort
namespace Go.Av
variable [Go.Av.DoorC]
open Go.RowKit Go.Sort Go.Proofs
def SortsI (P : Program) (f : FuncId) : Prop := ∀ (blk off cap : Nat) (zs : List Int) (w : World), Holds (Value.int .i64) w blk off zs.toArray → blk < w.heap.size → zs.length < 4611686018427387904 →
    Calls P f #[.slice (some ⟨blk, off, none⟩) zs.length cap] w fun e w' => e = .returned (.tuple #[]) ∧ ∃ n os, w' = sortWorld (Value.int .i64) w blk off n (zs.mergeSort fun x y => decide (x ≤ y)).toArray os
def SortsIN (P : Program) (f : FuncId) : Prop := ∀ (p : Option Addr) (cap : Nat) (w : World), Calls P f #[.slice p 0 cap] w fun e w' => e = .returned (.tuple #[]) ∧ w' = w
def isort (zs : List Int) : List Int := zs.mergeSort fun x y => decide (x ≤ y)
theorem isort_length (zs : List Int) : (isort zs).length = zs.length := (List.mergeSort_perm zs _).length_eq
section
variable {B : Nat} {W0 : World} {F : Fz} {m : List Ent} {H : List Blk} {w : World}
theorem putInts {d : List Int} {arr : Array Value} (hl : d.length ≤ arr.size) (j : Nat) : (putCells (Value.int .i64) 0 d.toArray arr)[j]? = if j < d.length then (d[j]?).map (Value.int .i64) else arr[j]? := by
  unfold putCells
  rw [Array.getElem?_mapIdx]
  by_cases hj : j < d.length
  · rw [if_pos hj, Array.getElem?_eq_getElem (by omega), Option.map_some, if_pos ⟨Nat.zero_le _, by simpa using hj⟩, Nat.sub_zero, List.getElem?_eq_getElem hj, Option.map_some]
    rw [getElem!_pos d.toArray j (by simpa using hj)]
    simp
  · rw [if_neg hj]
    cases hq : arr[j]? with
    | none => rfl
    | some y => rw [Option.map_some, if_neg (by simp; omega)]
theorem Sim.ints (h : Sim B W0 F m H w) {i : Nat} {e : Ent} {ver ty b mm : Nat} {cells : List AV} {arr : Array Value} (he : m[i]? = some e) (hk : H[i]? = some ⟨ver, ty, 1, cells⟩) (hb : e.blk = some b) (ha : w.heap[b]? = some (.cells arr e.ty (0, 0)))
    (d d' : List Int) (hd : d.length ≤ arr.size) (hd' : d' = d.take d'.length) (ho : ∀ (j : Nat) (v : Value), arr[j]? = some v → v.oneCell' = true) (os : Array Obj) : Sim B W0 F m (H.set i ⟨ver, ty, 1, d'.map fun x => .lit (.int .i64 x)⟩) (sortWorld (Value.int .i64) w b 0 mm d.toArray os) := by
  obtain ⟨s1, s2, s3⟩ := heap_sortWorld (Value.int .i64) w b mm d.toArray os arr e.ty ha
  have hdl : d'.length ≤ d.length := by
    have := congrArg List.length hd'
    rw [List.length_take] at this; omega
  refine h.recell he hk hb ha s1 (by simp [putCells]) ?_ ?_ ?_ s2 s3 rfl rfl rfl (Nat.le_add_right _ _)
  · simp [putCells]; omega
  · intro j c v hc hv
    rw [putInts hd] at hv
    rw [List.getElem?_map] at hc
    cases hj : d'[j]? with
    | none => rw [hj] at hc; cases hc
    | some x =>
      have hjl := (List.getElem?_eq_some_iff.1 hj).1
      have hjd : d[j]? = some x := by
        rw [hd', List.getElem?_take_of_lt hjl] at hj
        exact hj
      rw [if_pos (by omega), hjd] at hv
      rw [hj] at hc
      simp only [Option.map_some, Option.some.injEq] at hc hv
      subst hc; subst hv
      exact .lit _
  · intro j v hv
    rw [putInts hd] at hv
    split at hv
    · cases hj : d[j]? with
      | none => rw [hj] at hv; cases hv
      | some x => rw [hj] at hv; simp only [Option.map_some, Option.some.injEq] at hv; subst hv; rfl
    · exact ho j v hv
end
theorem holdsI {F : Fz} {m : List Ent} {w : World} {b : Nat} {ty : TypeId} {zs : List Int} {arr : Array Value} (ha : w.heap[b]? = some (.cells arr ty (0, 0))) (hl : zs.length ≤ arr.size)
    (hr : ∀ (j : Nat) (c : AV) (v : Value), (zs.map I)[j]? = some c → arr[j]? = some v → Rel F m c v) : Holds (Value.int .i64) w b 0 zs.toArray := by
  intro j hj
  have hjl : j < zs.length := by simpa using hj
  refine ⟨?_, frozen?_clean ha⟩
  rw [getElem!_pos zs.toArray j hj]
  simp only [World.cell?, ha, Nat.zero_add, Option.isSome_none, Bool.false_eq_true, if_false]
  rw [Array.getElem?_eq_getElem (by omega)]
  have := (hr j (I zs[j]) (arr[j]'(by omega)) (by simp [hjl]) (Array.getElem?_eq_getElem (by omega))).lit_inv
  rw [this]; simp
theorem set_same {H : List Blk} {i : Nat} {b : Blk} (h : H[i]? = some b) : H.set i b = H := by
  apply List.ext_getElem?
  intro j
  by_cases hij : i = j
  · subst hij; rw [List.getElem?_set_self (List.getElem?_eq_some_iff.1 h).1, h]
  · rw [List.getElem?_set_ne hij]
theorem sortI_ok {P : Program} {f : FuncId} (hs : SortsI P f) (hn : SortsIN P f) (H : List Blk) (i ver ty : Nat) (zs : List Int) (hi : H[i]? = some ⟨ver, ty, 1, zs.map I⟩) (hl : zs.length < 4611686018427387904) :
    ACalls P f [.nm i ver 0 zs.length] H (fun r H' => r = .tup [] ∧ H' = H.set i ⟨ver, ty, 1, (isort zs).map I⟩) := by
  intro B W0 F m w vs hr hsim
  obtain ⟨v0, vs0, rfl, r0, hr⟩ := hr.inv_cons
  obtain rfl := hr.inv_nil
  obtain ⟨e, p, n, cap, rfl, he, hv, hnm⟩ := r0.nm_inv
  obtain ⟨e', he', hok⟩ := hsim.get hi
  rw [he] at he'; injection he' with he'; subst he'
  obtain ⟨k1, k2, k3, k4, k5⟩ := id hok
  obtain ⟨cap', c1, c2, hx⟩ := hnm (by rw [k1])
  by_cases hps : zs = []
  · subst hps
    have hn0 : n = 0 := by
      rcases hx with ⟨b, _, hxx, _⟩ | ⟨_, ⟨q, hxx⟩, _⟩
      · injection hxx
      · injection hxx
    subst hn0
    refine (hn p cap w).mono ?_
    rintro e0 w' ⟨rfl, rfl⟩
    refine ⟨F, m, H, .tup [], .tuple #[], rfl, FLe.refl _, MLe.refl _, .tup [] [] rfl (fun j c v h => by simp at h), hsim, rfl, ?_⟩
    rw [show (isort []).map I = [] by simp [isort]]
    exact (set_same hi).symm
  · have hpos : 0 < zs.length := List.length_pos_iff.2 hps
    rcases hx with ⟨b, hb, hxx, hcap⟩ | ⟨_, _, h0, _⟩
    rotate_left
    · omega
    injection hxx with x1 x2 x3
    subst x1; subst x2; subst x3
    obtain ⟨hBb, arr, ha, hsz, hll, hrel, hone⟩ := hok.cls hcap.2 hb
    rw [List.length_map] at hll
    refine (hs b 0 cap zs w (holdsI ha (by omega) hrel) (hsim.blk_lt he hb) hl).mono ?_
    rintro e0 w' ⟨rfl, nn, os, rfl⟩
    refine ⟨F, m, _, .tup [], .tuple #[], rfl, FLe.refl _, MLe.refl _, .tup [] [] rfl (fun j c v h => by simp at h), hsim.ints he hi hb ha (isort zs) (isort zs) (by rw [isort_length]; omega) (by simp) hone os, rfl, rfl⟩
end Go.Av
