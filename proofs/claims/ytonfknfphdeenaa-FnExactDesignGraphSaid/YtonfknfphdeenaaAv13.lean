/- The abstract layer, part 13: what a function has made is never written again. -/
import Derived.Test.YtonfknfphdeenaaAv12
set_option linter.unusedSimpArgs false
set_option linter.unusedVariables false
set_option maxHeartbeats 4000000
set_option maxRecDepth 100000
namespace Go.Av
open Go.RowKit

/-- c' is c with every slice of the call's own (names from base on) told by its content. -/
inductive Froz (H : List Blk) (base : Nat) : AV → AV → Prop
  | old (c : AV) (h : Bel base c) : Froz H base c c
  | nil : Froz H base nilS (.il 0 [])
  | nm (i ver off len : Nat) (k : Blk) (cs : List AV) (hi : base ≤ i) (hk : H[i]? = some k) (hv : k.ver = ver) (hl : cs.length = ((k.cells.drop off).take (len * k.sz)).length)
      (h : ∀ (j : Nat) (c c' : AV), ((k.cells.drop off).take (len * k.sz))[j]? = some c → cs[j]? = some c' → Froz H base c c') : Froz H base (.nm i ver off len) (.il len cs)
  | agg (cs cs' : List AV) (hl : cs'.length = cs.length) (h : ∀ (j : Nat) (c c' : AV), cs[j]? = some c → cs'[j]? = some c' → Froz H base c c') : Froz H base (.agg cs) (.agg cs')
  | tup (cs cs' : List AV) (hl : cs'.length = cs.length) (h : ∀ (j : Nat) (c c' : AV), cs[j]? = some c → cs'[j]? = some c' → Froz H base c c') : Froz H base (.tup cs) (.tup cs')

theorem froz_rel {B : Nat} {W0 : World} {F : Fz} {m : List Ent} {H : List Blk} {w : World} (hs : Sim B W0 F m H w) {base : Nat} {c c' : AV} (hf : Froz H base c c') : ∀ {v : Value}, Rel F m c v →
    Rel (fun b o v => F b o v ∨ ((∃ i e, base ≤ i ∧ m[i]? = some e ∧ e.blk = some b) ∧ w.cell? ⟨b, o, none⟩ = some v)) (m.take base) c' v := by
  have hF : FLe F (fun b o v => F b o v ∨ ((∃ i e, base ≤ i ∧ m[i]? = some e ∧ e.blk = some b) ∧ w.cell? ⟨b, o, none⟩ = some v)) := fun b o v h => .inl h
  have pt : ∀ {cs cs' : List AV} {vs : List Value}, cs'.length = cs.length → cs.length = vs.length → (∀ (j : Nat) (c : AV) (v : Value), cs[j]? = some c → vs[j]? = some v → Rel F m c v) →
      (∀ (j : Nat) (c c' : AV), cs[j]? = some c → cs'[j]? = some c' → ∀ {v : Value}, Rel F m c v → Rel (fun b o v => F b o v ∨ ((∃ i e, base ≤ i ∧ m[i]? = some e ∧ e.blk = some b) ∧ w.cell? ⟨b, o, none⟩ = some v)) (m.take base) c' v) →
      ∀ (j : Nat) (c' : AV) (v : Value), cs'[j]? = some c' → vs[j]? = some v → Rel (fun b o v => F b o v ∨ ((∃ i e, base ≤ i ∧ m[i]? = some e ∧ e.blk = some b) ∧ w.cell? ⟨b, o, none⟩ = some v)) (m.take base) c' v := by
    intro cs cs' vs h1 h2 h3 h4 j c' v g1 g2
    have hj : j < cs.length := by rw [← h1]; exact (List.getElem?_eq_some_iff.1 g1).1
    exact h4 j _ c' (List.getElem?_eq_getElem hj) g1 (h3 j _ v (List.getElem?_eq_getElem hj) g2)
  induction hf with
  | old c h => intro v hr; exact (hr.take h).mono hF (MLe.refl _)
  | nil => intro v hr; have := hr.lit_inv; subst this; exact .il0
  | nm i ver off len k cs hi hk hv hl _ ih =>
    intro v hr
    cases hr with
    | nm _ _ _ _ e a n cap h1 h2 h3 =>
      have hok := hs.blk i e k h1 hk
      obtain ⟨cap', g1, g2, g3⟩ := h3 (by rw [hok.1, hv])
      rcases g3 with ⟨b, hb, hval, hsz⟩ | ⟨hb, hval, hl0, ho0⟩
      · rw [hval]
        obtain ⟨vs, r1, r2⟩ := hs.row hok hb off ((k.cells.drop off).take (len * k.sz)) (fun q c hq => by
          rw [List.getElem?_take] at hq
          split at hq
          · rw [List.getElem?_drop] at hq; exact hq
          · simp at hq)
        refine .il len cs b off cap' vs g1 g2 (by rw [hl]; exact r1.1) (fun q u hq => .inr ⟨⟨i, e, hi, h1, hb⟩, (r2 q u hq).1⟩) ?_
        exact pt hl r1.1 r1.2 (fun j c c' x y => ih j c c' x y)
      · obtain ⟨qq, hval⟩ := hval
        rw [hval]
        subst hl0
        have : cs = [] := by apply List.eq_nil_of_length_eq_zero; rw [hl]; simp
        subst this
        cases qq with
        | none => exact .il0
        | some ad => exact .il1 ad
  | agg cs cs' hl _ ih =>
    intro v hr
    cases hr with
    | agg _ vs h1 h2 => exact .agg cs' vs (by rw [hl, h1]) (pt hl h1 h2 (fun j c c' x y => ih j c c' x y))
  | tup cs cs' hl _ ih =>
    intro v hr
    cases hr with
    | tup _ vs h1 h2 => exact .tup cs' vs (by rw [hl, h1]) (pt hl h1 h2 (fun j c c' x y => ih j c c' x y))

/-- At a function's end: all that it has made is told by its content, and its names are forgotten. -/
theorem GR.froz {H0 ext : List Blk} {R : AV → List Blk → Prop} {r r' : AV} (hf : Froz (H0 ++ ext) H0.length r r') (h : R r' H0) : GR H0 R r (H0 ++ ext) := by
  intro B W0 F0 m0 w0 F m w v hs0 hF hm hr hs
  have h1 := froz_rel hs hf hr
  have h2 := hs.take (k := H0.length) (by rw [List.take_left]; exact hs0.bel)
  rw [List.take_left] at h2
  have hF' : FLe F (fun b o v => F b o v ∨ ((∃ i e, H0.length ≤ i ∧ m[i]? = some e ∧ e.blk = some b) ∧ w.cell? ⟨b, o, none⟩ = some v)) := fun b o v h => .inl h
  refine ⟨_, m.take H0.length, r', H0, hF.trans hF', hm.take (by rw [hs0.len]; exact Nat.le_refl _), h1, ?_, h⟩
  have sub : ∀ {i : Nat} {e : Ent}, (m.take H0.length)[i]? = some e → i < H0.length ∧ m[i]? = some e := by
    intro i e he
    rw [List.getElem?_take] at he
    split at he
    · exact ⟨by assumption, he⟩
    · simp at he
  refine ⟨h2.len, h2.below, h2.base, ?_, ?_, h2.dist, ?_⟩
  · intro b o u hu
    rcases hu with hu | ⟨⟨i, e, hi, he, hb⟩, hc⟩
    · exact h2.fz b o u hu
    · obtain ⟨k, hk, hok⟩ := hs.getm he
      obtain ⟨_, arr, ha, _, _, _, hone⟩ := hok.2.2.2.2 b hb
      refine ⟨hc, hone o u ?_⟩
      simpa [World.cell?, ha] using hc
  · intro i e b o u he hb hu
    obtain ⟨hlt, he'⟩ := sub he
    rcases hu with hu | ⟨⟨j, e', hj, hje, hjb⟩, _⟩
    · exact h2.apart i e b o u he hb hu
    · have := hs.dist i j e e' b he' hje hb hjb
      omega
  · intro i e k he hk
    exact (h2.blk i e k he hk).mono hF' (MLe.refl _) (fun _ _ => rfl)
end Go.Av
