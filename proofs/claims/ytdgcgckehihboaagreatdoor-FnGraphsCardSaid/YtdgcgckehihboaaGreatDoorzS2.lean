/- Sorting by the library's function, by a comparison that only looks. -/
import Derived.Test.YtdgcgckehihboaaGreatDoorzS1
import Derived.Test.YtdgcgckehihboaaGreatDoorzL1
import Derived.Test.YtdgcgckehihboaaGreatDoorzAvC
set_option linter.unusedSimpArgs false
set_option linter.unusedVariables false
set_option linter.unusedSectionVars false
set_option maxHeartbeats 4000000
set_option maxRecDepth 100000
namespace Go.Sort
variable [Go.Av.DoorC]
end Go.Sort
namespace Go.Av
variable [Go.Av.DoorC]
open Go.RowKit Go.Sort Go.Proofs
theorem Blw.grownS {w w' : World} (h : @Blw ⟨False⟩ w.heap.size w w') : ∃ q os', w' = grow (w.drewN q) os' := by
  refine ⟨w'.drawn - w.drawn, w'.heap.extract w.heap.size w'.heap.size, ?_⟩
  obtain ⟨h1, h2, h3, h4, h5, h6⟩ := h
  replace h6 : w.drawn ≤ w'.drawn := Or.elim h6 (fun h => False.elim h) id
  cases w' with
  | mk heap tape drawn os output =>
  cases w with
  | mk heap0 tape0 drawn0 os0 output0 =>
  simp only at h1 h2 h3 h4 h5 h6
  subst h1; subst h2; subst h3
  have e1 : drawn = drawn0 + (drawn - drawn0) := by omega
  have e2 : heap = heap0 ++ heap.extract heap0.size heap.size := by
    apply Array.ext_getElem?
    intro k
    by_cases hk : k < heap0.size
    · rw [Array.getElem?_append_left hk, h5 k hk]
    · rw [Array.getElem?_append_right (by omega), Array.getElem?_extract]
      by_cases hk2 : k < heap.size
      · rw [if_pos (by omega)]; congr 1; omega
      · rw [if_neg (by omega), Array.getElem?_eq_none (by omega)]
  show (⟨heap, tape, drawn, os, output⟩ : World) = ⟨heap0 ++ heap.extract heap0.size heap.size, tape, drawn0 + (drawn - drawn0), os, output⟩
  rw [← e2, ← e1]
end Go.Av
namespace Go.Proofs.YtdgcgckehihboaaGreatDoor
variable [Go.Av.DoorC]
open Go.Av Go.Sort
end Go.Proofs.YtdgcgckehihboaaGreatDoor
namespace Go.Sort
variable [Go.Av.DoorC]
end Go.Sort
namespace Go.Av
variable [Go.Av.DoorC]
open Go.RowKit Go.Sort Go.Proofs
def encE (e : Int × Int) : List Value := [.int .i64 e.1, .int .i64 e.2]
def agE (e : Int × Int) : AV := .agg [I e.1, I e.2]
def flatV (es : List (Int × Int)) : List Value := es.flatMap encE
def flatE (es : List (Int × Int)) : List AV := es.flatMap fun e => [I e.1, I e.2]
theorem flatE_lit (es : List (Int × Int)) : flatE es = (flatV es).map .lit := by
  induction es with
  | nil => rfl
  | cons e es ih => simp only [flatE, flatV, List.flatMap_cons, List.map_append] at ih ⊢; rw [ih]; rfl
theorem flatV_length (es : List (Int × Int)) : (flatV es).length = es.length * 2 := by
  induction es with
  | nil => rfl
  | cons e es ih => simp only [flatV, List.flatMap_cons, List.length_append, encE, List.length_cons, List.length_nil] at ih ⊢; omega
theorem flatE_length (es : List (Int × Int)) : (flatE es).length = es.length * 2 := by rw [flatE_lit, List.length_map, flatV_length]
theorem flatV_get : ∀ (es : List (Int × Int)) (t : Nat), (flatV es)[t]? = (es[t / 2]?).bind fun e => (encE e)[t % 2]?
  | [], t => by simp [flatV]
  | e :: es, 0 => by simp [flatV, encE]
  | e :: es, 1 => by simp [flatV, encE]
  | e :: es, t + 2 => by
    have h1 : (t + 2) / 2 = t / 2 + 1 := by omega
    have h2 : (t + 2) % 2 = t % 2 := by omega
    rw [h1, h2, List.getElem?_cons_succ, ← flatV_get es t]
    simp [flatV, encE]
theorem flatV_one (es : List (Int × Int)) (v : Value) (h : v ∈ flatV es) : v.oneCell' = true := by
  obtain ⟨e, _, hv⟩ := List.mem_flatMap.1 h
  simp only [encE, List.mem_cons, List.not_mem_nil, or_false] at hv
  rcases hv with rfl | rfl <;> rfl
theorem flatK_eq (d : Array (Int × Int)) : flatK encE 2 d = (flatV d.toList).toArray := by
  refine ext_get! (by simp [flatV_length]) fun t ht => ?_
  have ht' : t < d.size * 2 := by simpa using ht
  have hd : t / 2 < d.size := by omega
  rw [get_flatK _ _ _ t ht', getElem!_pos d (t / 2) hd]
  have hl : t < (flatV d.toList).toArray.size := by simp [flatV_length]; omega
  rw [getElem!_pos _ t hl]
  have hg := flatV_get d.toList t
  rw [List.getElem?_eq_getElem (by simpa using hl), Array.getElem?_toList, Array.getElem?_eq_getElem hd] at hg
  simp only [Option.bind_some] at hg
  have h2 : t % 2 < (encE d[t / 2]).length := by simp [encE]; omega
  rw [List.getElem?_eq_getElem h2] at hg
  injection hg with hg
  rw [getElem!_pos (encE d[t / 2]) (t % 2) h2, ← hg]
  simp
def SortsE (P : Program) (f : FuncId) : Prop := ∀ (cf : (Int × Int) → (Int × Int) → Int) (_ : SWO (ltOf cf)) (g : Nat) (cb : Array Value) (blk off cap : Nat) (d : Array (Int × Int)) (w : World)
    (_ : ∀ args w, (callFunc g args).run P w = .ok (.enter g args) w) (_ : CmpLays P g cb encE 2 cf blk off d.size w) (_ : HoldsK encE 2 w blk off d) (_ : blk < w.heap.size) (_ : d.size < 4611686018427387904),
    Calls P f #[.slice (some ⟨blk, off, none⟩) d.size cap, .func (.func g) #[] cb] w fun e w' => e = .returned (.tuple #[]) ∧ ∃ d' n os, PermIn 0 d.size d d' ∧ SortedIn (ltOf cf) 0 d.size d' ∧ w' = sortWorldK encE 2 w blk off n d' os
section
variable {B : Nat} {W0 : World} {F : Fz} {m : List Ent} {H : List Blk} {w : World}
theorem putVals {d : List Value} {arr : Array Value} (hl : d.length ≤ arr.size) (j : Nat) : (putCells id 0 d.toArray arr)[j]? = if j < d.length then d[j]? else arr[j]? := by
  unfold putCells
  rw [Array.getElem?_mapIdx]
  by_cases hj : j < d.length
  · rw [if_pos hj, Array.getElem?_eq_getElem (by omega), Option.map_some, if_pos ⟨Nat.zero_le _, by simpa using hj⟩, Nat.sub_zero, List.getElem?_eq_getElem hj]
    rw [getElem!_pos d.toArray j (by simpa using hj)]
    simp
  · rw [if_neg hj]
    cases hq : arr[j]? with
    | none => rfl
    | some y => rw [Option.map_some, if_neg (by simp; omega)]
theorem Sim.vals (h : Sim B W0 F m H w) {i : Nat} {e : Ent} {ver ty sz b mm : Nat} {cells : List AV} {arr : Array Value} (he : m[i]? = some e) (hk : H[i]? = some ⟨ver, ty, sz, cells⟩) (hb : e.blk = some b) (ha : w.heap[b]? = some (.cells arr e.ty (0, 0)))
    (d : List Value) (hd : d.length ≤ arr.size) (h1 : ∀ v ∈ d, v.oneCell' = true) (ho : ∀ (j : Nat) (v : Value), arr[j]? = some v → v.oneCell' = true) (os : Array Obj) : Sim B W0 F m (H.set i ⟨ver, ty, sz, d.map .lit⟩) (sortWorld id w b 0 mm d.toArray os) := by
  obtain ⟨s1, s2, s3⟩ := heap_sortWorld id w b mm d.toArray os arr e.ty ha
  refine h.recell he hk hb ha s1 (by simp [putCells]) ?_ ?_ ?_ s2 s3 rfl rfl rfl (Nat.le_add_right _ _)
  · simp [putCells]; omega
  · intro j c v hc hv
    rw [putVals hd] at hv
    rw [List.getElem?_map] at hc
    cases hj : d[j]? with
    | none => rw [hj] at hc; cases hc
    | some x =>
      rw [if_pos (List.getElem?_eq_some_iff.1 hj).1, hj] at hv
      rw [hj] at hc
      simp only [Option.map_some, Option.some.injEq] at hc hv
      subst hc; subst hv
      exact .lit _
  · intro j v hv
    rw [putVals hd] at hv
    split at hv
    · exact h1 v (List.mem_of_getElem? hv)
    · exact ho j v hv
end
theorem sortE_ok {P : Program} {f g : FuncId} (hs : SortsE P f) (hn : SortsN P f) (hg : callable P g = true) (cf : (Int × Int) → (Int × Int) → Int) (hO : SWO (ltOf cf)) (hcmp : ∀ x y : Int × Int, @PFn ⟨False⟩ P g [agE x, agE y] (I (cf x y)))
    (H : List Blk) (i ver ty : Nat) (es : List (Int × Int)) (hi : H[i]? = some ⟨ver, ty, 2, flatE es⟩) (hl : es.length < 4611686018427387904) :
    ACalls P f [.nm i ver 0 es.length, .fn g []] H (fun r H' => r = .tup [] ∧ ∃ fs : List (Int × Int), fs.Perm es ∧ fs.Pairwise (fun a b => ¬ cf b a < 0) ∧ H' = H.set i ⟨ver, ty, 2, flatE fs⟩) := by
  intro B W0 F m w vs hr hsim
  obtain ⟨v0, vs0, rfl, r0, hr⟩ := hr.inv_cons
  obtain ⟨v1, vs1, rfl, r1, hr⟩ := hr.inv_cons
  obtain rfl := hr.inv_nil
  obtain ⟨us, rfl, hu⟩ := r1.fn_inv
  obtain rfl := hu.inv_nil
  obtain ⟨e, p, n, cap, rfl, he, hv, hnm⟩ := r0.nm_inv
  obtain ⟨e', he', hok⟩ := hsim.get hi
  rw [he] at he'; injection he' with he'; subst he'
  obtain ⟨k1, k2, k3, k4, k5⟩ := id hok
  obtain ⟨cap', c1, c2, hx⟩ := hnm (by rw [k1])
  by_cases hps : es = []
  · subst hps
    have hn0 : n = 0 := by
      rcases hx with ⟨b, _, hxx, _⟩ | ⟨_, ⟨q, hxx⟩, _⟩
      · injection hxx
      · injection hxx
    subst hn0
    refine (hn p cap (.func (.func g) #[] [].toArray) w).mono ?_
    rintro e0 w' ⟨rfl, rfl⟩
    refine ⟨F, m, H, .tup [], .tuple #[], rfl, FLe.refl _, MLe.refl _, .tup [] [] rfl (fun j c v h => by simp at h), hsim, rfl, [], .nil, .nil, ?_⟩
    apply List.ext_getElem?
    intro j
    by_cases hij : i = j
    · subst hij; rw [List.getElem?_set_self (List.getElem?_eq_some_iff.1 hi).1, hi]
    · rw [List.getElem?_set_ne hij]
  · have hpos : 0 < es.length := List.length_pos_iff.2 hps
    rcases hx with ⟨b, hb, hxx, hcap⟩ | ⟨_, _, h0, _⟩
    rotate_left
    · omega
    injection hxx with x1 x2 x3
    subst x1; subst x2; subst x3
    obtain ⟨hBb, arr, ha, hsz, hll, hrel, hone⟩ := hok.cls hcap.2 hb
    rw [flatE_length] at hll
    have hsimK : ∀ (mm : Nat) (os : Array Obj) (dk : Array (Int × Int)), dk.size = es.length → Sim B W0 F m (H.set i ⟨ver, ty, 2, flatE dk.toList⟩) (sortWorldK encE 2 w b 0 mm dk os) := fun mm os dk hdk => by
      unfold sortWorldK putRowK
      rw [flatK_eq, flatE_lit]
      exact hsim.vals he hi hb ha (flatV dk.toList) (by rw [flatV_length]; simp; omega) (flatV_one _) hone os
    have hcl : CmpLays P g #[] encE 2 cf b 0 es.toArray.size w := fun mm os dk hdk x y => by
      have hgl := (hsimK mm os dk hdk).glob.step (hsimK mm os dk hdk).below (hsimK mm os dk hdk).base
      letI : DoorC := ⟨False⟩
      have h3 := hcmp x y [] _ _ (F0 _) [] (sortWorldK encE 2 w b 0 mm dk os) [.agg #[.int .i64 x.1, .int .i64 x.2], .agg #[.int .i64 y.1, .int .i64 y.2]] (.cons (.agg _ [_, _] rfl (fun j c v hc hv => by
        cases j with
        | zero => simp at hc hv; subst hc; subst hv; exact .lit _
        | succ j => cases j with
          | zero => simp at hc hv; subst hc; subst hv; exact .lit _
          | succ j => simp at hc)) (.cons (.agg _ [_, _] rfl (fun j c v hc hv => by
        cases j with
        | zero => simp at hc hv; subst hc; subst hv; exact .lit _
        | succ j => cases j with
          | zero => simp at hc hv; subst hc; subst hv; exact .lit _
          | succ j => simp at hc)) (.nil _ _))) (Sim.startF _ hgl)
      refine Calls.mono h3 ?_
      rintro e w' ⟨F', m', H', r, v, rfl, g1, g2, g3, g4, rfl, rfl⟩
      exact ⟨by rw [g3.lit_inv], g4.below.grownS⟩
    have hH : HoldsK encE 2 w b 0 es.toArray := by
      unfold HoldsK
      rw [flatK_eq]
      intro j hj
      have hjl : j < (flatV es).length := by simpa using hj
      have hja : j < arr.size := by rw [flatV_length] at hjl; omega
      refine ⟨?_, frozen?_clean ha⟩
      rw [getElem!_pos _ j hj]
      simp only [World.cell?, ha, Nat.zero_add, Option.isSome_none, Bool.false_eq_true, if_false, id]
      rw [Array.getElem?_eq_getElem hja]
      have := (hrel j (.lit (flatV es)[j]) arr[j] (by rw [flatE_lit, List.getElem?_map, List.getElem?_eq_getElem hjl]; rfl) (Array.getElem?_eq_getElem hja)).lit_inv
      rw [this]; simp
    have hfin := hs cf hO g #[] b 0 cap es.toArray w (fun args w => run_callFunc hg args w) hcl hH (hsim.blk_lt he hb) (by simpa using hl)
    simp only [List.size_toArray] at hfin
    refine hfin.mono ?_
    rintro e0 w' ⟨rfl, d', nn, os, hp, hso, rfl⟩
    have hds' : d'.size = es.length := by have := hp.1; simpa using this
    refine ⟨F, m, _, .tup [], .tuple #[], rfl, FLe.refl _, MLe.refl _, .tup [] [] rfl (fun j c v h => by simp at h), hsimK nn os d' hds', rfl, d'.toList, ?_, ?_, rfl⟩
    · have hp3 := hp.2.2
      rw [show es.length = es.toArray.size by simp, Array.extract_size] at hp3
      rw [show es.toArray.size = d'.size by simp [hds'], Array.extract_size] at hp3
      simpa using hp3
    · rw [List.pairwise_iff_getElem]
      intro a c ha' hc' hac
      have := hso a c (Nat.zero_le _) hac (by rw [← hds']; simpa using hc')
      rw [getElem!_pos d' a (by simpa using ha'), getElem!_pos d' c (by simpa using hc')] at this
      simp only [ltOf, decide_eq_false_iff_not] at this
      simpa using this
end Go.Av
