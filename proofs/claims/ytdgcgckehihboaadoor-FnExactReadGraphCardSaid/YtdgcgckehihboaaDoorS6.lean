/- Pairs of numbers, sorted by the library's function. -/
import Derived.Test.YtdgcgckehihboaaDoorS2
set_option linter.unusedSimpArgs false
set_option linter.unusedVariables false
set_option maxHeartbeats 4000000
set_option maxRecDepth 100000
namespace Go.Sort
end Go.Sort
namespace Go.Av
open Go.RowKit Go.Sort Go.Proofs

/-- A pair as values, as cells, as one value; rows of pairs. -/
def encE (e : Int × Int) : List Value := [.int .i64 e.1, .int .i64 e.2]
def agE (e : Int × Int) : AV := .agg [I e.1, I e.2]
def flatV (es : List (Int × Int)) : List Value := es.flatMap encE
def flatE (es : List (Int × Int)) : List AV := es.flatMap fun e => [I e.1, I e.2]
theorem flatE_lit (es : List (Int × Int)) : flatE es = (flatV es).map .lit := by
  induction es with
  | nil => rfl
  | cons e es ih => simp only [flatE, flatV, List.flatMap_cons, List.map_append] at ih ⊢; rw [ih]; rfl
theorem flatV_length (es : List (Int × Int)) : (flatV es).length = es.length * 2 := by
  induction es with
  | nil => rfl
  | cons e es ih => simp only [flatV, List.flatMap_cons, List.length_append, encE, List.length_cons, List.length_nil] at ih ⊢; omega
theorem flatE_length (es : List (Int × Int)) : (flatE es).length = es.length * 2 := by rw [flatE_lit, List.length_map, flatV_length]
theorem flatV_get : ∀ (es : List (Int × Int)) (t : Nat), (flatV es)[t]? = (es[t / 2]?).bind fun e => (encE e)[t % 2]?
  | [], t => by simp [flatV]
  | e :: es, 0 => by simp [flatV, encE]
  | e :: es, 1 => by simp [flatV, encE]
  | e :: es, t + 2 => by
    have h1 : (t + 2) / 2 = t / 2 + 1 := by omega
    have h2 : (t + 2) % 2 = t % 2 := by omega
    rw [h1, h2, List.getElem?_cons_succ, ← flatV_get es t]
    simp [flatV, encE]
theorem flatV_one (es : List (Int × Int)) (v : Value) (h : v ∈ flatV es) : v.oneCell' = true := by
  obtain ⟨e, _, hv⟩ := List.mem_flatMap.1 h
  simp only [encE, List.mem_cons, List.not_mem_nil, or_false] at hv
  rcases hv with rfl | rfl <;> rfl
theorem flatK_eq (d : Array (Int × Int)) : flatK encE 2 d = (flatV d.toList).toArray := by
  refine ext_get! (by simp [flatV_length]) fun t ht => ?_
  have ht' : t < d.size * 2 := by simpa using ht
  have hd : t / 2 < d.size := by omega
  rw [get_flatK _ _ _ t ht', getElem!_pos d (t / 2) hd]
  have hl : t < (flatV d.toList).toArray.size := by simp [flatV_length]; omega
  rw [getElem!_pos _ t hl]
  have hg := flatV_get d.toList t
  rw [List.getElem?_eq_getElem (by simpa using hl), Array.getElem?_toList, Array.getElem?_eq_getElem hd] at hg
  simp only [Option.bind_some] at hg
  have h2 : t % 2 < (encE d[t / 2]).length := by simp [encE]; omega
  rw [List.getElem?_eq_getElem h2] at hg
  injection hg with hg
  rw [getElem!_pos (encE d[t / 2]) (t % 2) h2, ← hg]
  simp

def SortsE (P : Program) (f : FuncId) : Prop := ∀ (cf : (Int × Int) → (Int × Int) → Int) (_ : SWO (ltOf cf)) (g : Nat) (cb : Array Value) (blk off cap : Nat) (d : Array (Int × Int)) (w : World)
    (_ : ∀ args w, (callFunc g args).run P w = .ok (.enter g args) w) (_ : CmpLays P g cb encE 2 cf blk off d.size w) (_ : HoldsK encE 2 w blk off d) (_ : blk < w.heap.size) (_ : d.size < 4611686018427387904),
    Calls P f #[.slice (some ⟨blk, off, none⟩) d.size cap, .func (.func g) #[] cb] w fun e w' => e = .returned (.tuple #[]) ∧ ∃ d' n os, PermIn 0 d.size d d' ∧ SortedIn (ltOf cf) 0 d.size d' ∧ w' = sortWorldK encE 2 w blk off n d' os

section
variable {B : Nat} {W0 : World} {F : Fz} {m : List Ent} {H : List Blk} {w : World}
theorem putVals {d : List Value} {arr : Array Value} (hl : d.length ≤ arr.size) (j : Nat) : (putCells id 0 d.toArray arr)[j]? = if j < d.length then d[j]? else arr[j]? := by
  unfold putCells
  rw [Array.getElem?_mapIdx]
  by_cases hj : j < d.length
  · rw [if_pos hj, Array.getElem?_eq_getElem (by omega), Option.map_some, if_pos ⟨Nat.zero_le _, by simpa using hj⟩, Nat.sub_zero, List.getElem?_eq_getElem hj]
    rw [getElem!_pos d.toArray j (by simpa using hj)]
    simp
  · rw [if_neg hj]
    cases hq : arr[j]? with
    | none => rfl
    | some y => rw [Option.map_some, if_neg (by simp; omega)]
/-- A block of plain values is written anew. -/
theorem Sim.vals (h : Sim B W0 F m H w) {i : Nat} {e : Ent} {ver ty sz b mm : Nat} {cells : List AV} {arr : Array Value} (he : m[i]? = some e) (hk : H[i]? = some ⟨ver, ty, sz, cells⟩) (hb : e.blk = some b) (ha : w.heap[b]? = some (.cells arr e.ty (0, 0)))
    (d : List Value) (hd : d.length ≤ arr.size) (h1 : ∀ v ∈ d, v.oneCell' = true) (ho : ∀ (j : Nat) (v : Value), arr[j]? = some v → v.oneCell' = true) (os : Array Obj) : Sim B W0 F m (H.set i ⟨ver, ty, sz, d.map .lit⟩) (sortWorld id w b 0 mm d.toArray os) := by
  obtain ⟨s1, s2, s3⟩ := heap_sortWorld id w b mm d.toArray os arr e.ty ha
  refine h.recell he hk hb ha s1 (by simp [putCells]) ?_ ?_ ?_ s2 s3 rfl rfl rfl (Nat.le_add_right _ _)
  · simp [putCells]; omega
  · intro j c v hc hv
    rw [putVals hd] at hv
    rw [List.getElem?_map] at hc
    cases hj : d[j]? with
    | none => rw [hj] at hc; cases hc
    | some x =>
      rw [if_pos (List.getElem?_eq_some_iff.1 hj).1, hj] at hv
      rw [hj] at hc
      simp only [Option.map_some, Option.some.injEq] at hc hv
      subst hc; subst hv
      exact .lit _
  · intro j v hv
    rw [putVals hd] at hv
    split at hv
    · exact h1 v (List.mem_of_getElem? hv)
    · exact ho j v hv
end

end Go.Av
