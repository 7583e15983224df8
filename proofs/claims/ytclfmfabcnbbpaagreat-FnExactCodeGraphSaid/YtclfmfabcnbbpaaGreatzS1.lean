/- Sorting by the library's function: from the kit's contract to abstract memory. -/
import Derived.Test.YtclfmfabcnbbpaaGreatzAvA
import Derived.Shelf.SlSortCmp.NoneTotal
set_option linter.unusedSimpArgs false
set_option linter.unusedVariables false
set_option maxHeartbeats 4000000
set_option maxRecDepth 100000
open Nat renaming le_trans→xH
namespace Go.Sort
end Go.Sort
namespace Go.Av
open Go.RowKit Go.Sort Go.Proofs
section
variable {B : Nat} {W0 : World} {F : Fz} {m : List Ent} {H : List Blk} {w : World}
theorem Sim.recell (h : Sim B W0 F m H w) {i : Nat} {e : Ent} {k : Blk} {b : Nat} {arr arr' : Array Value} {cells' : List AV} {w' : World} (he : m[i]? = some e) (hk : H[i]? = some k) (hb : e.blk = some b)
  (ha : w.heap[b]? = some (.cells arr e.ty (0,0))) (ha' : w'.heap[b]? = some (.cells arr' e.ty (0,0))) (hsz : arr'.size = arr.size) (hl : cells'.length ≤ arr'.size)
  (hr : ∀ (j : Nat) (c : AV) (v : Value),cells'[j]? = some c → arr'[j]? = some v → Rel F m c v) (ho : ∀ (j : Nat) (v : Value),arr'[j]? = some v → v.oneCell' = true)
  (hoth : ∀ c,c < w.heap.size → c ≠ b → w'.heap[c]? = w.heap[c]?) (hs : w.heap.size ≤ w'.heap.size) (hos : w'.os = w.os) (htp : w'.tape = w.tape) (hout : w'.output = w.output) (hdr : w.drawn ≤ w'.drawn) :
  Sim B W0 F m (H.set i ⟨k.ver,k.ty,k.sz,cells'⟩) w':=by
 have hB:=(h.blk i e k he hk)
 obtain ⟨g1,g2,g3,g4,g5⟩:=hB
 obtain ⟨hBb,⟨hz0,arr0,ha0,hs0,hl0,hr0,ho0⟩|⟨_,es,clock,hm0,_⟩⟩:=g5 b hb
 rotate_left
 ·rw [ha] at hm0;injection hm0 with hm0;cases hm0
 rw [ha] at ha0
 obtain rfl : arr = arr0:=by injection ha0 with ha0;injection ha0
 have hilt : i < H.length:=(List.getElem?_eq_some_iff.1 hk).1
 refine ⟨by simp [h.len],⟨hos.trans h.below.os,htp.trans h.below.tape,hout.trans h.below.output,xH h.below.size hs,fun c hc=>?_,xH h.below.drawn hdr⟩,xH h.base hs,fun b' o v hf=>?_,h.apart,h.dist,fun j e' k' he' hk'=>?_⟩
 ·rw [hoth c (Nat.lt_of_lt_of_le hc h.base) (by omega)];exact h.below.block c hc
 ·have h1:=h.fz b' o v hf
  refine ⟨?_,h1.2⟩
  rw [World.cell?_of_block (w:=w) (a:=⟨b',o,none⟩) (hoth b' (h.fz_lt hf) (fun hbb=>h.apart i e b o v he hb (hbb ▸ hf)))]
  exact h1.1
 ·by_cases hij : i = j
  ·subst hij
   rw [List.getElem?_set_self hilt] at hk'
   rw [he] at he'
   injection hk' with hk';injection he' with he'
   subst hk';subst he'
   refine ⟨g1,g2,g3,fun hn=>?_,fun b' hb'=>?_⟩
   ·rw [hb] at hn;cases hn
   rw [hb] at hb';injection hb' with hb';subst hb'
   exact ⟨hBb,.inl ⟨hz0,arr',ha',by rw [hsz];exact hs0,by rw [← hs0,← hsz];exact hl,hr,ho⟩⟩
  ·rw [List.getElem?_set_ne hij] at hk'
   refine (h.blk j e' k' he' hk').mono (FLe.refl _) (MLe.refl _) (fun b' hb'=>?_)
   refine hoth b' (h.blk_lt he' hb') (fun hbb=>hij ?_)
   subst hbb
   exact h.dist i j e e' b' he he' hb hb'
end
def SortsN (P : Program) (f : FuncId) : Prop:=∀ (p : Option Addr) (cap : Nat) (fv : Value) (w : World),Calls P f #[.slice p 0 cap,fv] w fun e w'=>e = .returned (.tuple #[]) ∧ w' = w
theorem heap_sortWorld {α : Type} [Inhabited α] (enc : α → Value) (w : World) (b mm : Nat) (dk : Array α) (os : Array Obj) (arr : Array Value) (ty : TypeId) (ha : w.heap[b]? = some (.cells arr ty (0,0))) :
  (sortWorld enc w b 0 mm dk os).heap[b]? = some (.cells (putCells enc 0 dk arr) ty (0,0)) ∧ (∀ c,c < w.heap.size → c ≠ b → (sortWorld enc w b 0 mm dk os).heap[c]? = w.heap[c]?) ∧ w.heap.size ≤ (sortWorld enc w b 0 mm dk os).heap.size:=by
 have hb:=(Array.getElem?_eq_some_iff.1 ha).1
 have hsz : (putRow enc (Sort.ahead w mm) b 0 dk).heap.size = w.heap.size:=by simp
 have hp : ∀ c,c < w.heap.size → (sortWorld enc w b 0 mm dk os).heap[c]? = (putRow enc (Sort.ahead w mm) b 0 dk).heap[c]?:=fun c hc=>by
  show ((putRow enc (Sort.ahead w mm) b 0 dk).heap ++ os)[c]? = _
  rw [Array.getElem?_append_left (by omega)]
 refine ⟨?_,fun c hc hne=>?_,?_⟩
 ·rw [hp b hb]
  show ((Sort.ahead w mm).heap.modify b _)[b]? = _
  rw [Array.getElem?_modify,if_pos rfl]
  show Option.map _ (w.heap[b]?) = _
  rw [ha];rfl
 ·rw [hp c hc]
  show ((Sort.ahead w mm).heap.modify b _)[c]? = _
  rw [Array.getElem?_modify,if_neg (by omega)]
  rfl
 ·show _ ≤ ((putRow enc (Sort.ahead w mm) b 0 dk).heap ++ os).size
  rw [Array.size_append];omega
end Go.Av