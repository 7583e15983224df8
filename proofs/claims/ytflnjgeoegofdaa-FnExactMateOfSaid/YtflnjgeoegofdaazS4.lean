/- Numbers sorted, numbers deleted, by the library's functions. -/
import Derived.Test.YtflnjgeoegofdaazS1
import Derived.Shelf.SortM.Plain
import Derived.Shelf.SortM.SortNone
import Derived.Shelf.SlicesE.Delete
set_option linter.unusedSimpArgs false
set_option linter.unusedVariables false
set_option maxHeartbeats 4000000
set_option maxRecDepth 100000
namespace Go.Sort
end Go.Sort
namespace Go.Av
open Go.RowKit Go.Sort Go.Proofs
def SortsI (P : Program) (f : FuncId) : Prop := ∀ (blk off cap : Nat) (zs : List Int) (w : World), Holds (Value.int .i64) w blk off zs.toArray → blk < w.heap.size → zs.length < 4611686018427387904 →
    Calls P f #[.slice (some ⟨blk, off, none⟩) zs.length cap] w fun e w' => e = .returned (.tuple #[]) ∧ ∃ n os, w' = sortWorld (Value.int .i64) w blk off n (zs.mergeSort fun x y => decide (x ≤ y)).toArray os
def SortsIN (P : Program) (f : FuncId) : Prop := ∀ (p : Option Addr) (cap : Nat) (w : World), Calls P f #[.slice p 0 cap] w fun e w' => e = .returned (.tuple #[]) ∧ w' = w
def isort (zs : List Int) : List Int := zs.mergeSort fun x y => decide (x ≤ y)
theorem isort_length (zs : List Int) : (isort zs).length = zs.length := (List.mergeSort_perm zs _).length_eq
section
variable {B : Nat} {W0 : World} {F : Fz} {m : List Ent} {H : List Blk} {w : World}
theorem putInts {d : List Int} {arr : Array Value} (hl : d.length ≤ arr.size) (j : Nat) : (putCells (Value.int .i64) 0 d.toArray arr)[j]? = if j < d.length then (d[j]?).map (Value.int .i64) else arr[j]? := by
  unfold putCells
  rw [Array.getElem?_mapIdx]
  by_cases hj : j < d.length
  · rw [if_pos hj, Array.getElem?_eq_getElem (by omega), Option.map_some, if_pos ⟨Nat.zero_le _, by simpa using hj⟩, Nat.sub_zero, List.getElem?_eq_getElem hj, Option.map_some]
    rw [getElem!_pos d.toArray j (by simpa using hj)]
    simp
  · rw [if_neg hj]
    cases hq : arr[j]? with
    | none => rfl
    | some y => rw [Option.map_some, if_neg (by simp; omega)]
theorem Sim.ints (h : Sim B W0 F m H w) {i : Nat} {e : Ent} {ver ty b mm : Nat} {cells : List AV} {arr : Array Value} (he : m[i]? = some e) (hk : H[i]? = some ⟨ver, ty, 1, cells⟩) (hb : e.blk = some b) (ha : w.heap[b]? = some (.cells arr e.ty (0, 0)))
    (d d' : List Int) (hd : d.length ≤ arr.size) (hd' : d' = d.take d'.length) (ho : ∀ (j : Nat) (v : Value), arr[j]? = some v → v.oneCell' = true) (os : Array Obj) : Sim B W0 F m (H.set i ⟨ver, ty, 1, d'.map fun x => .lit (.int .i64 x)⟩) (sortWorld (Value.int .i64) w b 0 mm d.toArray os) := by
  obtain ⟨s1, s2, s3⟩ := heap_sortWorld (Value.int .i64) w b mm d.toArray os arr e.ty ha
  have hdl : d'.length ≤ d.length := by
    have := congrArg List.length hd'
    rw [List.length_take] at this; omega
  refine h.recell he hk hb ha s1 (by simp [putCells]) ?_ ?_ ?_ s2 s3 rfl rfl rfl (Nat.le_add_right _ _)
  · simp [putCells]; omega
  · intro j c v hc hv
    rw [putInts hd] at hv
    rw [List.getElem?_map] at hc
    cases hj : d'[j]? with
    | none => rw [hj] at hc; cases hc
    | some x =>
      have hjl := (List.getElem?_eq_some_iff.1 hj).1
      have hjd : d[j]? = some x := by
        rw [hd', List.getElem?_take_of_lt hjl] at hj
        exact hj
      rw [if_pos (by omega), hjd] at hv
      rw [hj] at hc
      simp only [Option.map_some, Option.some.injEq] at hc hv
      subst hc; subst hv
      exact .lit _
  · intro j v hv
    rw [putInts hd] at hv
    split at hv
    · cases hj : d[j]? with
      | none => rw [hj] at hv; cases hv
      | some x => rw [hj] at hv; simp only [Option.map_some, Option.some.injEq] at hv; subst hv; rfl
    · exact ho j v hv
end
theorem holdsI {F : Fz} {m : List Ent} {w : World} {b : Nat} {ty : TypeId} {zs : List Int} {arr : Array Value} (ha : w.heap[b]? = some (.cells arr ty (0, 0))) (hl : zs.length ≤ arr.size)
    (hr : ∀ (j : Nat) (c : AV) (v : Value), (zs.map I)[j]? = some c → arr[j]? = some v → Rel F m c v) : Holds (Value.int .i64) w b 0 zs.toArray := by
  intro j hj
  have hjl : j < zs.length := by simpa using hj
  refine ⟨?_, frozen?_clean ha⟩
  rw [getElem!_pos zs.toArray j hj]
  simp only [World.cell?, ha, Nat.zero_add, Option.isSome_none, Bool.false_eq_true, if_false]
  rw [Array.getElem?_eq_getElem (by omega)]
  have := (hr j (I zs[j]) (arr[j]'(by omega)) (by simp [hjl]) (Array.getElem?_eq_getElem (by omega))).lit_inv
  rw [this]; simp
theorem set_same {H : List Blk} {i : Nat} {b : Blk} (h : H[i]? = some b) : H.set i b = H := by
  apply List.ext_getElem?
  intro j
  by_cases hij : i = j
  · subst hij; rw [List.getElem?_set_self (List.getElem?_eq_some_iff.1 h).1, h]
  · rw [List.getElem?_set_ne hij]
theorem sortI_ok {P : Program} {f : FuncId} (hs : SortsI P f) (hn : SortsIN P f) (H : List Blk) (i ver ty : Nat) (zs : List Int) (hi : H[i]? = some ⟨ver, ty, 1, zs.map I⟩) (hl : zs.length < 4611686018427387904) :
    ACalls P f [.nm i ver 0 zs.length] H (fun r H' => r = .tup [] ∧ H' = H.set i ⟨ver, ty, 1, (isort zs).map I⟩) := by
  intro B W0 F m w vs hr hsim
  obtain ⟨v0, vs0, rfl, r0, hr⟩ := hr.inv_cons
  obtain rfl := hr.inv_nil
  obtain ⟨e, p, n, cap, rfl, he, hv, hnm⟩ := r0.nm_inv
  obtain ⟨e', he', hok⟩ := hsim.get hi
  rw [he] at he'; injection he' with he'; subst he'
  obtain ⟨k1, k2, k3, k4, k5⟩ := id hok
  obtain ⟨cap', c1, c2, hx⟩ := hnm (by rw [k1])
  by_cases hps : zs = []
  · subst hps
    have hn0 : n = 0 := by
      rcases hx with ⟨b, _, hxx, _⟩ | ⟨_, ⟨q, hxx⟩, _⟩
      · injection hxx
      · injection hxx
    subst hn0
    refine (hn p cap w).mono ?_
    rintro e0 w' ⟨rfl, rfl⟩
    refine ⟨F, m, H, .tup [], .tuple #[], rfl, FLe.refl _, MLe.refl _, .tup [] [] rfl (fun j c v h => by simp at h), hsim, rfl, ?_⟩
    rw [show (isort []).map I = [] by simp [isort]]
    exact (set_same hi).symm
  · have hpos : 0 < zs.length := List.length_pos_iff.2 hps
    rcases hx with ⟨b, hb, hxx, hcap⟩ | ⟨_, _, h0, _⟩
    rotate_left
    · omega
    injection hxx with x1 x2 x3
    subst x1; subst x2; subst x3
    obtain ⟨hBb, arr, ha, hsz, hll, hrel, hone⟩ := hok.cls hcap.2 hb
    rw [List.length_map] at hll
    refine (hs b 0 cap zs w (holdsI ha (by omega) hrel) (hsim.blk_lt he hb) hl).mono ?_
    rintro e0 w' ⟨rfl, nn, os, rfl⟩
    refine ⟨F, m, _, .tup [], .tuple #[], rfl, FLe.refl _, MLe.refl _, .tup [] [] rfl (fun j c v h => by simp at h), hsim.ints he hi hb ha (isort zs) (isort zs) (by rw [isort_length]; omega) (by simp) hone os, rfl, rfl⟩
end Go.Av
