/- The abstract layer, part 8: a row that leaves its order open comes to what one of its orders comes to. -/
import Derived.Test.YtonfknfphdeenaaAv7
set_option linter.unusedSimpArgs false
set_option linter.unusedVariables false
set_option maxHeartbeats 4000000
set_option maxRecDepth 100000
namespace Go.Av
open Go.RowKit

def opTmps : List Operand → List Nat
  | [] => []
  | .tmp t :: rest => t :: opTmps rest
  | _ :: rest => opTmps rest

def SO.opnds : SO → List Operand
  | .mv x | .un _ x | .load _ _ x | .nilc x | .faddr _ x | .fld _ _ _ x | .ext x _ | .len x | .qlen x | .box _ x | .conv _ x | .slc0 _ _ x | .isnil _ x => [x]
  | .pick c a b => [c, a, b]
  | .bin _ x y | .binb _ x y | .eqs _ x y | .store _ x y | .iaddr _ x y | .mslice _ _ _ x y | .app _ _ _ x y | .mm _ x y => [x, y]
  | .alloc _ _ | .bad => []
  | .build _ ps => ps.map fun p => p.2.2
  | .bslice _ _ _ _ ps => ps.map fun p => p.2
  | .slc _ x lo hi => x :: (lo.toList ++ hi.toList)
  | .mkf _ cs => cs
  | .call _ as | .qcall _ as => as
  | .callv x as | .qcallv x as => x :: as

/-- 0: looks at no memory; 1: only reads; 2: makes a new block; 3: all else. -/
def SO.kind : SO → Nat
  | .mv _ | .pick .. | .bin .. | .binb .. | .eqs .. | .un .. | .fld .. | .ext .. | .build .. | .mkf .. | .mm .. | .conv .. => 0
  | .load .. | .nilc _ | .faddr .. | .iaddr .. | .qlen _ | .slc .. | .qcall .. | .qcallv .. => 1
  | .alloc .. | .box .. | .bslice .. | .mslice .. => 2
  | _ => 3

def SOper.looks (s : SOper) : List Nat := opTmps s.op.opnds ++ match s.guard with
  | some (t, _) => [t]
  | none => []

section
variable {P : Program}

theorem ev_congr {E E' : Nat → AV} {xs : List Operand} (h : ∀ t ∈ opTmps xs, E t = E' t) : ∀ x ∈ xs, ev E x = ev E' x := by
  induction xs with
  | nil => intro x hx; simp at hx
  | cons y ys ih =>
    intro x hx
    simp only [List.mem_cons] at hx
    rcases hx with rfl | hx
    · cases x with
      | tmp t => exact h t (by simp [opTmps])
      | _ => rfl
    · refine ih (fun t ht => h t ?_) x hx
      cases y <;> simp [opTmps, ht]

theorem swpOp_congr {so : SO} {E E' : Nat → AV} (h : ∀ t ∈ opTmps so.opnds, E t = E' t) (H : List Blk) (K : AV → List Blk → Prop) : swpOp P so (ev E) H K = swpOp P so (ev E') H K := by
  have hx := ev_congr h
  have hl : ∀ (xs : List Operand), (∀ x ∈ xs, x ∈ so.opnds) → xs.map (ev E) = xs.map (ev E') := fun xs hs => List.map_congr_left fun x hm => hx x (hs x hm)
  cases so <;> simp only [SO.opnds] at hx hl <;> simp only [swpOp]
  case mv x => rw [hx x (by simp)]
  case pick c a b => rw [hx c (by simp), hx a (by simp), hx b (by simp)]
  case bin op x y => rw [hx x (by simp), hx y (by simp)]
  case binb n x y => rw [hx x (by simp), hx y (by simp)]
  case eqs n x y => rw [hx x (by simp), hx y (by simp)]
  case un op x => rw [hx x (by simp)]
  case load c agg a => rw [hx a (by simp)]
  case store c a v => rw [hx a (by simp), hx v (by simp)]
  case nilc x => rw [hx x (by simp)]
  case faddr off a => rw [hx a (by simp)]
  case fld off c agg x => rw [hx x (by simp)]
  case iaddr sz s i => rw [hx s (by simp), hx i (by simp)]
  case ext x n => rw [hx x (by simp)]
  case len x => rw [hx x (by simp)]
  case qlen x => rw [hx x (by simp)]
  case box ty x => rw [hx x (by simp)]
  case build zero ps =>
    have e1 : (ps.map fun p => (p.1, p.2.1, ev E p.2.2)) = ps.map fun p => (p.1, p.2.1, ev E' p.2.2) := List.map_congr_left fun p hp => by rw [hx p.2.2 (List.mem_map_of_mem hp)]
    have e2 : (ps.all fun p => (partsOf (ev E p.2.2)).all AV.cell1) = ps.all fun p => (partsOf (ev E' p.2.2)).all AV.cell1 := by
      rw [Bool.eq_iff_iff, List.all_eq_true, List.all_eq_true]
      constructor <;> intro g p hp
      · rw [← hx p.2.2 (List.mem_map_of_mem hp)]; exact g p hp
      · rw [hx p.2.2 (List.mem_map_of_mem hp)]; exact g p hp
    rw [e1, e2]
  case bslice ty sz len zero ps =>
    have e1 : (ps.map fun p => (p.1 * sz, sz, ev E p.2)) = ps.map fun p => (p.1 * sz, sz, ev E' p.2) := List.map_congr_left fun p hp => by rw [hx p.2 (List.mem_map_of_mem hp)]
    have e2 : (ps.all fun p => (partsOf (ev E p.2)).all AV.cell1) = ps.all fun p => (partsOf (ev E' p.2)).all AV.cell1 := by
      rw [Bool.eq_iff_iff, List.all_eq_true, List.all_eq_true]
      constructor <;> intro g p hp
      · rw [← hx p.2 (List.mem_map_of_mem hp)]; exact g p hp
      · rw [hx p.2 (List.mem_map_of_mem hp)]; exact g p hp
    rw [e1, e2]
  case mslice ty b z l c => rw [hx l (by simp), hx c (by simp)]
  case slc sz x lo hi =>
    have e1 : lo.map (ev E) = lo.map (ev E') := by cases lo with | none => rfl | some y => simp only [Option.map_some]; rw [hx y (by simp)]
    have e2 : hi.map (ev E) = hi.map (ev E') := by cases hi with | none => rfl | some y => simp only [Option.map_some]; rw [hx y (by simp)]
    rw [hx x (by simp), e1, e2]
  case app ty sz b s x => rw [hx s (by simp), hx x (by simp)]
  case mkf f cs => rw [hl cs (fun x h => h)]
  case call f as => rw [hl as (fun x h => h)]
  case callv x as => rw [hx x (by simp), hl as (fun x h => by simp [h])]
  case qcall f as => rw [hl as (fun x h => h)]
  case qcallv x as => rw [hx x (by simp), hl as (fun x h => by simp [h])]
  case mm mx x y => rw [hx x (by simp), hx y (by simp)]
  case conv k x => rw [hx x (by simp)]
  case slc0 ty sz x => rw [hx x (by simp)]
  case isnil neg x => rw [hx x (by simp)]

theorem opTmps_append (xs ys : List Operand) : opTmps (xs ++ ys) = opTmps xs ++ opTmps ys := by
  induction xs with
  | nil => rfl
  | cons x xs ih => cases x <;> simp [opTmps, ih]

theorem aStepV_congr {s : SOper} {E E' : Nat → AV} (h : ∀ t ∈ s.looks, E t = E' t) (H : List Blk) (K : AV → List Blk → Prop) : aStepV P s E H K = aStepV P s E' H K := by
  unfold SOper.looks at h
  have h1 := swpOp_congr (P := P) (so := s.op) (E := E) (E' := E') (fun t ht => h t (List.mem_append_left _ ht)) H K
  unfold aStepV
  cases hg : s.guard with
  | none => exact h1
  | some p =>
    obtain ⟨t, want⟩ := p
    have h2 : E t = E' t := h t (by simp [hg])
    simp only [h2, h1]

theorem aview_append {H : List Blk} {s : AV} {r : Nat × List AV} (h : aview H s = some r) (ext : List Blk) : aview (H ++ ext) s = some r := by
  unfold aview at *
  split at h
  · exact h
  · split at h
    · rename_i k hk
      have hlt := (List.getElem?_eq_some_iff.1 hk).1
      simp only [List.getElem?_append_left hlt, hk]
      exact h
    · simp at h
  · exact h
  · simp at h

theorem acells_append {H : List Blk} {c : Nat} {s : AV} {r : List AV} (h : acells H c s = some r) (ext : List Blk) : acells (H ++ ext) c s = some r := by
  unfold acells at *
  split at h
  · split at h
    · rename_i k hk
      have hlt := (List.getElem?_eq_some_iff.1 hk).1
      simp only [List.getElem?_append_left hlt, hk]
      exact h
    · simp at h
  · split at h
    · rename_i len cells hv
      simp only [aview_append hv ext]
      exact h
    · simp at h
  · simp at h

theorem alive_append {H : List Blk} {s : AV} (h : alive H s) (ext : List Blk) : alive (H ++ ext) s := by
  cases s with
  | pc i ver off =>
    obtain ⟨k, hk, hv⟩ := h
    have hlt := (List.getElem?_eq_some_iff.1 hk).1
    exact ⟨k, by rw [List.getElem?_append_left hlt]; exact hk, hv⟩
  | el s k => obtain ⟨n, cells, hv⟩ := h; exact ⟨n, cells, aview_append hv ext⟩
  | _ => exact h.elim

theorem AFn.append {f : FuncId} {args : List AV} {H : List Blk} {v : AV} (h : AFn P f args H v) (ext : List Blk) : AFn P f args (H ++ ext) v := by
  intro ext'
  rw [List.append_assoc]
  exact h (ext ++ ext')

/-- An operation that looks at no memory. -/
theorem kind0 {so : SO} (hk : so.kind = 0) {ρ : Operand → AV} {H : List Blk} {K : AV → List Blk → Prop} (h : swpOp P so ρ H K) :
    ∃ v, K v H ∧ ∀ (H2 : List Blk) (K2 : AV → List Blk → Prop), K2 v H2 → swpOp P so ρ H2 K2 := by
  cases so <;> first | (simp [SO.kind] at hk; done) | skip
  case mv x => exact ⟨_, h, fun _ _ g => g⟩
  case pick c a b =>
    simp only [swpOp] at h ⊢
    split at h
    · exact ⟨_, h, fun _ _ g => g⟩
    · exact h.elim
  case bin op x y =>
    simp only [swpOp, swpBin] at h ⊢
    split at h
    · cases op <;> simp only at h ⊢ <;> first | exact ⟨_, h.2, fun _ _ g => ⟨h.1, g⟩⟩ | exact ⟨_, h.2.2, fun _ _ g => ⟨h.1, h.2.1, g⟩⟩
    · exact h.elim
  case binb neg x y =>
    simp only [swpOp] at h ⊢
    split at h
    · exact ⟨_, h, fun _ _ g => g⟩
    · exact h.elim
  case eqs neg x y =>
    simp only [swpOp] at h ⊢
    split at h
    · exact ⟨_, h, fun _ _ g => g⟩
    · exact h.elim
  case un op x =>
    simp only [swpOp] at h ⊢
    split at h
    · exact ⟨_, h, fun _ _ g => g⟩
    · exact ⟨_, h, fun _ _ g => g⟩
    · exact h.elim
  case fld off c agg x =>
    simp only [swpOp] at h ⊢
    split at h
    · cases agg
      · simp only [Bool.false_eq_true, if_false] at h ⊢
        split at h
        · exact ⟨_, h, fun _ _ g => g⟩
        · exact h.elim
      · simp only [if_true] at h ⊢
        exact ⟨_, h.2, fun _ _ g => ⟨h.1, g⟩⟩
    · exact h.elim
  case ext x n =>
    simp only [swpOp] at h ⊢
    split at h
    · split at h
      · exact ⟨_, h, fun _ _ g => g⟩
      · exact h.elim
    · exact h.elim
  case build zero ps =>
    simp only [swpOp] at h ⊢
    obtain ⟨h1, h2⟩ := h
    split at h2
    · exact ⟨_, h2, fun _ _ g => ⟨h1, g⟩⟩
    · exact h2.elim
  case mkf f cs => exact ⟨_, h, fun _ _ g => g⟩
  case mm mx x y =>
    simp only [swpOp] at h ⊢
    split at h
    · exact ⟨_, h, fun _ _ g => g⟩
    · exact h.elim
  case conv k x =>
    simp only [swpOp] at h ⊢
    split at h
    · exact ⟨_, h, fun _ _ g => g⟩
    · exact h.elim

/-- An operation that only reads. -/
theorem kind1 {so : SO} (hk : so.kind = 1) {ρ : Operand → AV} {H : List Blk} {K : AV → List Blk → Prop} (h : swpOp P so ρ H K) :
    ∃ v, K v H ∧ ∀ (ext : List Blk) (K2 : AV → List Blk → Prop), K2 v (H ++ ext) → swpOp P so ρ (H ++ ext) K2 := by
  cases so <;> first | (simp [SO.kind] at hk; done) | skip
  case load c agg a =>
    simp only [swpOp] at h ⊢
    split at h
    · rename_i cs hcs
      split at h
      · rename_i hag
        refine ⟨_, h, fun ext K2 g => ?_⟩
        simp only [acells_append hcs ext, hag, if_true]; exact g
      · rename_i hag
        split at h
        · refine ⟨_, h, fun ext K2 g => ?_⟩
          simp only [acells_append hcs ext, hag]; exact g
        · exact h.elim
    · exact h.elim
  case nilc x =>
    simp only [swpOp] at h ⊢
    split at h
    · exact ⟨_, h.2, fun ext K2 g => ⟨alive_append h.1 ext, g⟩⟩
    · exact ⟨_, h.2, fun ext K2 g => ⟨alive_append h.1 ext, g⟩⟩
    · exact ⟨_, h, fun ext K2 g => g⟩
    · exact h.elim
  case faddr off a =>
    simp only [swpOp] at h ⊢
    split at h
    · exact ⟨_, h.2, fun ext K2 g => ⟨alive_append h.1 ext, g⟩⟩
    · exact ⟨_, h.2, fun ext K2 g => ⟨alive_append h.1 ext, g⟩⟩
    · exact h.elim
  case iaddr sz s i =>
    simp only [swpOp] at h ⊢
    split at h
    · rename_i n cells k x hv hx
      refine ⟨_, h.2.2, fun ext K2 g => ?_⟩
      simp only [aview_append hv ext, hx]
      exact ⟨h.1, h.2.1, g⟩
    · exact h.elim
  case qlen x =>
    simp only [swpOp] at h ⊢
    split at h
    · rename_i n cells hv
      refine ⟨_, h, fun ext K2 g => ?_⟩
      simp only [aview_append hv ext]
      exact g
    · exact h.elim
  case slc sz x lo hi =>
    simp only [swpOp, swpSlc] at h ⊢
    split at h
    case h_2 => exact h.elim
    case h_1 n cells hv =>
      split at h
      case h_2 => exact h.elim
      case h_1 l hh h1 h2 =>
        refine ⟨_, h.2.2.2.2, fun ext K2 g => ?_⟩
        simp only [aview_append hv ext, h1, h2]
        refine ⟨h.1, h.2.1, h.2.2.1, ?_, g⟩
        intro i ver off len hx
        have := h.2.2.2.1 i ver off len hx
        cases hi' : H[i]? with
        | none => rw [hi'] at this; simp at this
        | some k =>
          have hlt := (List.getElem?_eq_some_iff.1 hi').1
          rw [List.getElem?_append_left hlt]; exact this
  case qcall f as =>
    obtain ⟨v, h1, h2⟩ := h
    exact ⟨v, h2, fun ext K2 g => ⟨v, h1.append ext, g⟩⟩
  case qcallv x as =>
    simp only [swpOp] at h ⊢
    split at h
    · obtain ⟨hc, v, h1, h2⟩ := h
      exact ⟨v, h2, fun ext K2 g => ⟨hc, v, h1.append ext, g⟩⟩
    · exact h.elim

/-- What such an operation leaves of memory. -/
theorem kind012 {so : SO} (hk : so.kind ≤ 2) {ρ : Operand → AV} {H : List Blk} {K : AV → List Blk → Prop} (h : swpOp P so ρ H K) : swpOp P so ρ H fun v H' => K v H' ∧ ∃ ext, H' = H ++ ext := by
  by_cases h0 : so.kind = 0
  · obtain ⟨v, h1, h2⟩ := kind0 h0 h
    exact h2 H _ ⟨h1, [], by simp⟩
  · by_cases h1 : so.kind = 1
    · obtain ⟨v, h2, h3⟩ := kind1 h1 h
      have := h3 [] (fun v H' => K v H' ∧ ∃ ext, H' = H ++ ext) ⟨by simpa using h2, [], by simp⟩
      simpa using this
    · cases so <;> first | (simp [SO.kind] at h0 h1 hk; done) | skip
      case alloc ty zero => exact ⟨h, _, rfl⟩
      case box ty x => exact ⟨h.1, h.2, _, rfl⟩
      case bslice ty sz len zero ps =>
        simp only [swpOp] at h ⊢
        obtain ⟨g1, g2⟩ := h
        refine ⟨g1, ?_⟩
        split at g2
        · exact ⟨g2.1, g2.2, _, rfl⟩
        · exact g2.elim
      case mslice ty b z l c =>
        simp only [swpOp] at h ⊢
        split at h
        · exact ⟨h.1, h.2.1, h.2.2.1, h.2.2.2.1, h.2.2.2.2, _, rfl⟩
        · exact h.elim

/-- The value of a step that only reads, and where it is the same. -/
theorem aStepV_quiet {s : SOper} (hk : s.op.kind ≤ 1) {E : Nat → AV} {H : List Blk} {K : AV → List Blk → Prop} (h : aStepV P s E H K) :
    ∃ v, K v H ∧ (∀ (ext : List Blk) (K2 : AV → List Blk → Prop), K2 v (H ++ ext) → aStepV P s E (H ++ ext) K2) ∧ (s.op.kind = 0 → ∀ (H2 : List Blk) (K2 : AV → List Blk → Prop), K2 v H2 → aStepV P s E H2 K2) := by
  have core : swpOp P s.op (ev E) H K → ∃ v, K v H ∧ (∀ (ext : List Blk) (K2 : AV → List Blk → Prop), K2 v (H ++ ext) → swpOp P s.op (ev E) (H ++ ext) K2) ∧ (s.op.kind = 0 → ∀ (H2 : List Blk) (K2 : AV → List Blk → Prop), K2 v H2 → swpOp P s.op (ev E) H2 K2) := by
    intro h
    by_cases h0 : s.op.kind = 0
    · obtain ⟨v, h1, h2⟩ := kind0 h0 h
      exact ⟨v, h1, fun ext K2 g => h2 _ _ g, fun _ H2 K2 g => h2 _ _ g⟩
    · obtain ⟨v, h1, h2⟩ := kind1 (by omega) h
      exact ⟨v, h1, h2, fun h => absurd h h0⟩
  unfold aStepV at h ⊢
  cases hg : s.guard with
  | none =>
    simp only [hg] at h ⊢
    exact core h
  | some p =>
    obtain ⟨t, want⟩ := p
    simp only [hg] at h ⊢
    split at h
    · rename_i b hb
      by_cases hbw : b = want
      · obtain ⟨v, h1, h2, h3⟩ := core (h.1 hbw)
        exact ⟨v, h1, fun ext K2 g => ⟨fun _ => h2 ext K2 g, fun hn => absurd hbw hn⟩, fun h0 H2 K2 g => ⟨fun _ => h3 h0 H2 K2 g, fun hn => absurd hbw hn⟩⟩
      · exact ⟨.lit undef, h.2 hbw, fun ext K2 g => ⟨fun hn => absurd hn hbw, fun _ => g⟩, fun h0 H2 K2 g => ⟨fun hn => absurd hn hbw, fun _ => g⟩⟩
    · exact ⟨.lit undef, h, fun ext K2 g => g, fun h0 H2 K2 g => g⟩
    · exact h.elim

theorem aStepV_ext {s : SOper} (hk : s.op.kind ≤ 2) {E : Nat → AV} {H : List Blk} {K : AV → List Blk → Prop} (h : aStepV P s E H K) : aStepV P s E H fun v H' => K v H' ∧ ∃ ext, H' = H ++ ext := by
  unfold aStepV at h ⊢
  cases hg : s.guard with
  | none =>
    simp only [hg] at h ⊢
    exact kind012 hk h
  | some p =>
    obtain ⟨t, want⟩ := p
    simp only [hg] at h ⊢
    split at h
    · exact ⟨fun g => kind012 hk (h.1 g), fun g => ⟨h.2 g, [], by simp⟩⟩
    · exact ⟨h, [], by simp⟩
    · exact h.elim
end
end Go.Av
