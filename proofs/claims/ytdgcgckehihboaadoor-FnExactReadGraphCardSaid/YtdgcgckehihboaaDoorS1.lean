/- Sorting by the library's function: from the kit's contract to abstract memory. -/
import Derived.Test.YtdgcgckehihboaaDoorAvA
import Derived.Shelf.SlSortCmp.NoneTotal
set_option linter.unusedSimpArgs false
set_option linter.unusedVariables false
set_option maxHeartbeats 4000000
set_option maxRecDepth 100000
namespace Go.Sort
end Go.Sort
namespace Go.Av
open Go.RowKit Go.Sort Go.Proofs

section
variable {B : Nat} {W0 : World} {F : Fz} {m : List Ent} {H : List Blk} {w : World}

/-- One block's cells are written anew. -/
theorem Sim.recell (h : Sim B W0 F m H w) {i : Nat} {e : Ent} {k : Blk} {b : Nat} {arr arr' : Array Value} {cells' : List AV} {w' : World} (he : m[i]? = some e) (hk : H[i]? = some k) (hb : e.blk = some b)
    (ha : w.heap[b]? = some (.cells arr e.ty (0, 0))) (ha' : w'.heap[b]? = some (.cells arr' e.ty (0, 0))) (hsz : arr'.size = arr.size) (hl : cells'.length ≤ arr'.size)
    (hr : ∀ (j : Nat) (c : AV) (v : Value), cells'[j]? = some c → arr'[j]? = some v → Rel F m c v) (ho : ∀ (j : Nat) (v : Value), arr'[j]? = some v → v.oneCell' = true)
    (hoth : ∀ c, c < w.heap.size → c ≠ b → w'.heap[c]? = w.heap[c]?) (hs : w.heap.size ≤ w'.heap.size) (hos : w'.os = w.os) (htp : w'.tape = w.tape) (hout : w'.output = w.output) (hdr : w.drawn ≤ w'.drawn) :
    Sim B W0 F m (H.set i ⟨k.ver, k.ty, k.sz, cells'⟩) w' := by
  have hB := (h.blk i e k he hk)
  obtain ⟨g1, g2, g3, g4, g5⟩ := hB
  obtain ⟨hBb, ⟨hz0, arr0, ha0, hs0, hl0, hr0, ho0⟩ | ⟨_, es, clock, hm0, _⟩⟩ := g5 b hb
  rotate_left
  · rw [ha] at hm0; injection hm0 with hm0; cases hm0
  rw [ha] at ha0
  obtain rfl : arr = arr0 := by injection ha0 with ha0; injection ha0
  have hilt : i < H.length := (List.getElem?_eq_some_iff.1 hk).1
  refine ⟨by simp [h.len], ⟨hos.trans h.below.os, htp.trans h.below.tape, hout.trans h.below.output, Nat.le_trans h.below.size hs, fun c hc => ?_, h.below.drawn.trans (.of hdr)⟩, Nat.le_trans h.base hs, fun b' o v hf => ?_, h.apart, h.dist, fun j e' k' he' hk' => ?_, h.glob⟩
  · rw [hoth c (Nat.lt_of_lt_of_le hc h.base) (by omega)]; exact h.below.block c hc
  · have h1 := h.fz b' o v hf
    refine ⟨?_, h1.2⟩
    rw [World.cell?_of_block (w := w) (a := ⟨b', o, none⟩) (hoth b' (h.fz_lt hf) (fun hbb => h.apart i e b o v he hb (hbb ▸ hf)))]
    exact h1.1
  · by_cases hij : i = j
    · subst hij
      rw [List.getElem?_set_self hilt] at hk'
      rw [he] at he'
      injection hk' with hk'; injection he' with he'
      subst hk'; subst he'
      refine ⟨g1, g2, g3, fun hn => ?_, fun b' hb' => ?_⟩
      · rw [hb] at hn; cases hn
      rw [hb] at hb'; injection hb' with hb'; subst hb'
      exact ⟨hBb, .inl ⟨hz0, arr', ha', by rw [hsz]; exact hs0, by rw [← hs0, ← hsz]; exact hl, hr, ho⟩⟩
    · rw [List.getElem?_set_ne hij] at hk'
      refine (h.blk j e' k' he' hk').mono (FLe.refl _) (MLe.refl _) (fun b' hb' => ?_)
      refine hoth b' (h.blk_lt he' hb') (fun hbb => hij ?_)
      subst hbb
      exact h.dist i j e e' b' he he' hb hb'
end

/-- The kit's contract of the sort at elements of one cell, over one function of the program. -/
def SortsP (P : Program) (f : FuncId) : Prop := ∀ {α : Type} [Inhabited α] (enc : α → Value) (_ : OneCell enc) (cf : α → α → Int) (_ : SWO (ltOf cf)) (g : Nat) (cb : Array Value) (blk off cap : Nat) (d : Array α) (w : World)
    (_ : ∀ args w, (callFunc g args).run P w = .ok (.enter g args) w) (_ : CmpLays1 P g cb enc cf blk off d.size w) (_ : Holds enc w blk off d) (_ : blk < w.heap.size) (_ : d.size < 4611686018427387904),
    Calls P f #[.slice (some ⟨blk, off, none⟩) d.size cap, .func (.func g) #[] cb] w fun e w' => e = .returned (.tuple #[]) ∧ ∃ d' n os, PermIn 0 d.size d d' ∧ SortedIn (ltOf cf) 0 d.size d' ∧ w' = sortWorld enc w blk off n d' os
/-- And at none. -/
def SortsN (P : Program) (f : FuncId) : Prop := ∀ (p : Option Addr) (cap : Nat) (fv : Value) (w : World), Calls P f #[.slice p 0 cap, fv] w fun e w' => e = .returned (.tuple #[]) ∧ w' = w

theorem heap_sortWorld {α : Type} [Inhabited α] (enc : α → Value) (w : World) (b mm : Nat) (dk : Array α) (os : Array Obj) (arr : Array Value) (ty : TypeId) (ha : w.heap[b]? = some (.cells arr ty (0, 0))) :
    (sortWorld enc w b 0 mm dk os).heap[b]? = some (.cells (putCells enc 0 dk arr) ty (0, 0)) ∧ (∀ c, c < w.heap.size → c ≠ b → (sortWorld enc w b 0 mm dk os).heap[c]? = w.heap[c]?) ∧ w.heap.size ≤ (sortWorld enc w b 0 mm dk os).heap.size := by
  have hb := (Array.getElem?_eq_some_iff.1 ha).1
  have hsz : (putRow enc (Sort.ahead w mm) b 0 dk).heap.size = w.heap.size := by simp
  have hp : ∀ c, c < w.heap.size → (sortWorld enc w b 0 mm dk os).heap[c]? = (putRow enc (Sort.ahead w mm) b 0 dk).heap[c]? := fun c hc => by
    show ((putRow enc (Sort.ahead w mm) b 0 dk).heap ++ os)[c]? = _
    rw [Array.getElem?_append_left (by omega)]
  refine ⟨?_, fun c hc hne => ?_, ?_⟩
  · rw [hp b hb]
    show ((Sort.ahead w mm).heap.modify b _)[b]? = _
    rw [Array.getElem?_modify, if_pos rfl]
    show Option.map _ (w.heap[b]?) = _
    rw [ha]; rfl
  · rw [hp c hc]
    show ((Sort.ahead w mm).heap.modify b _)[c]? = _
    rw [Array.getElem?_modify, if_neg (by omega)]
    rfl
  · show _ ≤ ((putRow enc (Sort.ahead w mm) b 0 dk).heap ++ os).size
    rw [Array.size_append]; omega

theorem sort_ok {P : Program} {f g : FuncId} (hs : SortsP P f) (hn : SortsN P f) (hg : callable P g = true) {A : Type} (rd : List Blk → AV → A → Prop) (raw : World → Value → A → Prop)
    (hraw : ∀ {B : Nat} {W0 : World} {F : Fz} {m : List Ent} {H : List Blk} {w : World} {c : AV} {v : Value} {a : A}, Sim B W0 F m H w → Rel F m c v → rd H c a → raw w v a) (cf : A → A → Int) (hO : SWO (ltOf cf))
    (hcmp : ∀ (W : World) (vx vy : Value) (x y : A), raw W vx x → raw W vy y → Calls P g #[vx, vy] W fun e w' => e = .returned (.int .i64 (cf x y)) ∧ ∃ q os', w' = grow (W.drewN q) os')
    (H : List Blk) (i ver ty : Nat) (ps : List (AV × A)) (hi : H[i]? = some ⟨ver, ty, 1, ps.map Prod.fst⟩) (h1 : ∀ p ∈ ps, p.1.cell1 = true) (hrd : ∀ cells', ∀ p ∈ ps, rd (H.set i ⟨ver, ty, 1, cells'⟩) p.1 p.2) (hl : ps.length < 4611686018427387904) :
    ACalls P f [.nm i ver 0 ps.length, .fn g []] H (fun r H' => r = .tup [] ∧ ∃ qs : List (AV × A), qs.Perm ps ∧ qs.Pairwise (fun a b => ¬ cf b.2 a.2 < 0) ∧ H' = H.set i ⟨ver, ty, 1, qs.map Prod.fst⟩) := by
  intro B W0 F m w vs hr hsim
  obtain ⟨v0, vs0, rfl, r0, hr⟩ := hr.inv_cons
  obtain ⟨v1, vs1, rfl, r1, hr⟩ := hr.inv_cons
  obtain rfl := hr.inv_nil
  obtain ⟨us, rfl, hu⟩ := r1.fn_inv
  obtain rfl := hu.inv_nil
  obtain ⟨e, p, n, cap, rfl, he, hv, hnm⟩ := r0.nm_inv
  obtain ⟨e', he', hok⟩ := hsim.get hi
  rw [he] at he'; injection he' with he'; subst he'
  obtain ⟨k1, k2, k3, k4, k5⟩ := id hok
  obtain ⟨cap', c1, c2, hx⟩ := hnm (by rw [k1])
  by_cases hps : ps = []
  · subst hps
    have hn0 : n = 0 := by
      rcases hx with ⟨b, _, hxx, _⟩ | ⟨_, ⟨q, hxx⟩, _⟩
      · injection hxx
      · injection hxx
    subst hn0
    refine (hn p cap (.func (.func g) #[] [].toArray) w).mono ?_
    rintro e0 w' ⟨rfl, rfl⟩
    refine ⟨F, m, H, .tup [], .tuple #[], rfl, FLe.refl _, MLe.refl _, .tup [] [] rfl (fun j c v h => by simp at h), hsim, rfl, [], .nil, .nil, ?_⟩
    apply List.ext_getElem?
    intro j
    by_cases hij : i = j
    · subst hij; rw [List.getElem?_set_self (List.getElem?_eq_some_iff.1 hi).1, hi]
    · rw [List.getElem?_set_ne hij]
  · have hpos : 0 < ps.length := List.length_pos_iff.2 hps
    rcases hx with ⟨b, hb, hxx, hcap⟩ | ⟨_, _, h0, _⟩
    rotate_left
    · omega
    injection hxx with x1 x2 x3
    subst x1; subst x2; subst x3
    obtain ⟨hBb, arr, ha, hsz, hll, hrel, hone⟩ := hok.cls hcap.2 hb
    rw [List.length_map] at hll
    let α : Type := { q : (AV × A) × Value // q.1 ∈ ps ∧ Rel F m q.1.1 q.2 }
    have hjl' : ∀ j : _root_.Fin ps.length, j.1 < arr.size := fun j => by have := j.2; omega
    let mk : _root_.Fin ps.length → α := fun j => ⟨(ps[j], arr[j.1]'(hjl' j)), List.getElem_mem _, hrel j.1 _ _ (by simp) (Array.getElem?_eq_getElem (hjl' j))⟩
    let d : Array α := Array.ofFn mk
    let enc : α → Value := fun q => q.1.2
    let cf' : α → α → Int := fun x y => cf x.1.1.2 y.1.1.2
    haveI : Inhabited α := ⟨mk ⟨0, hpos⟩⟩
    have hds : d.size = ps.length := by simp [d]
    have h1c : OneCell enc := fun x => x.2.2.cell1 (h1 _ x.2.1)
    have hput : ∀ (dk : Array α), dk.size = d.size → ∀ (j : Nat) (x : α), dk[j]? = some x → (putCells enc 0 dk arr)[j]? = some (enc x) := fun dk hdk j x hj => by
      have hjl : j < dk.size := (Array.getElem?_eq_some_iff.1 hj).1
      have hja : j < arr.size := by omega
      unfold putCells
      rw [Array.getElem?_mapIdx, Array.getElem?_eq_getElem hja, Option.map_some, if_pos ⟨Nat.zero_le _, by omega⟩, Nat.sub_zero]
      rw [getElem!_pos dk j hjl]
      rw [Array.getElem?_eq_getElem hjl] at hj
      injection hj with hj; rw [hj]
    have hsimK : ∀ (mm : Nat) (os : Array Obj) (dk : Array α), dk.size = d.size → Sim B W0 F m (H.set i ⟨ver, ty, 1, dk.toList.map fun x => x.1.1.1⟩) (sortWorld enc w b 0 mm dk os) := fun mm os dk hdk => by
      obtain ⟨s1, s2, s3⟩ := heap_sortWorld enc w b mm dk os arr e.ty ha
      refine hsim.recell he hi hb ha s1 (by simp [putCells]) ?_ ?_ ?_ s2 s3 rfl rfl rfl (Nat.le_add_right _ _)
      · simp [putCells]; omega
      · intro j c v hc hv
        rw [List.getElem?_map] at hc
        rw [Array.getElem?_toList] at hc
        cases hd : dk[j]? with
        | none => rw [hd] at hc; cases hc
        | some x =>
          rw [hd] at hc; injection hc with hc
          rw [hput dk hdk j x hd] at hv; injection hv with hv
          subst hc; subst hv
          exact x.2.2
      · intro j v hv
        cases hd : dk[j]? with
        | some x => rw [hput dk hdk j x hd] at hv; injection hv with hv; subst hv; exact h1c x
        | none =>
          have hjl : dk.size ≤ j := by simpa using hd
          unfold putCells at hv
          rw [Array.getElem?_mapIdx] at hv
          cases hq : arr[j]? with
          | none => rw [hq] at hv; cases hv
          | some y =>
            rw [hq, Option.map_some, if_neg (by omega)] at hv
            injection hv with hv; subst hv
            exact hone j y hq
    have hcl : CmpLays1 P g #[] enc cf' b 0 d.size w := fun mm os dk hdk x y => by
      have hS := hsimK mm os dk hdk
      exact hcmp _ _ _ _ _ (hraw hS x.2.2 (hrd _ _ x.2.1)) (hraw hS y.2.2 (hrd _ _ y.2.1))
    have hO' : SWO (ltOf cf') := ⟨fun x => hO.irrefl _, fun x y z => hO.trans _ _ _, fun x y z => hO.ntrans _ _ _⟩
    have hH : Holds enc w b 0 d := fun j hj => by
      have hjl : j < ps.length := by omega
      refine ⟨?_, frozen?_clean ha⟩
      rw [getElem!_pos d j hj]
      show (World.cell? w ⟨b, 0 + j, none⟩) = _
      simp only [World.cell?, ha, Nat.zero_add]
      have e1 : d[j] = mk ⟨j, hjl⟩ := by simp [d]
      rw [e1]
      exact Array.getElem?_eq_getElem (hjl' ⟨j, hjl⟩)
    have hfin := hs enc h1c cf' hO' g #[] b 0 cap d w (fun args w => run_callFunc hg args w) hcl hH (hsim.blk_lt he hb) (by omega)
    rw [hds] at hfin
    refine hfin.mono ?_
    rintro e0 w' ⟨rfl, d', nn, os, hp, hso, rfl⟩
    have hds' : d'.size = d.size := by rw [← hds] at hp; exact hp.1
    refine ⟨F, m, _, .tup [], .tuple #[], rfl, FLe.refl _, MLe.refl _, .tup [] [] rfl (fun j c v h => by simp at h), hsimK nn os d' hds', rfl, d'.toList.map (fun x => x.1.1), ?_, ?_, ?_⟩
    · have hp3 := hp.2.2
      rw [← hds, Array.extract_size, ← hds', Array.extract_size] at hp3
      refine (hp3.map (fun x : α => x.1.1)).trans (List.Perm.of_eq ?_)
      apply List.ext_getElem
      · simp [d]
      · intro j g1 g2
        simp [d, mk]
    · rw [List.pairwise_map, List.pairwise_iff_getElem]
      intro a c ha' hc' hac
      have := hso a c (Nat.zero_le _) hac (by rw [← hds, ← hds']; simpa using hc')
      rw [getElem!_pos d' a (by simpa using ha'), getElem!_pos d' c (by simpa using hc')] at this
      simp only [ltOf, cf', decide_eq_false_iff_not] at this
      simpa using this
    · rw [List.map_map]; rfl
end Go.Av
