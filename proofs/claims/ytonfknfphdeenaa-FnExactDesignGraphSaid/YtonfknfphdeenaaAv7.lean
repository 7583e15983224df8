/- The abstract layer, part 7: rows of operations; rows that leave their order open. -/
import Derived.Test.YtonfknfphdeenaaAv6
set_option linter.unusedSimpArgs false
set_option linter.unusedVariables false
set_option maxHeartbeats 4000000
set_option maxRecDepth 100000
namespace Go.Av
open Go.RowKit

structure SOper where
  dst : Option Nat
  op : SO
  guard : Option (Nat × Bool)

/-- One operation, with its guard: what is left in its slot. -/
def aStepV (P : Program) (s : SOper) (E : Nat → AV) (H : List Blk) (K : AV → List Blk → Prop) : Prop :=
  match s.guard with
  | none => swpOp P s.op (ev E) H K
  | some (t, want) => match E t with
    | .lit (.bool b) => (b = want → swpOp P s.op (ev E) H K) ∧ (b ≠ want → K (.lit undef) H)
    | .lit _ => K (.lit undef) H
    | _ => False

def guardOf (ops : Array Oper) : Option (Nat × Bool) → Option (Option (Nat × Bool))
  | none => some none
  | some (j, want) => match ops[j]? with
    | some oj => match oj.dst with
      | some t => some (some (t, want))
      | none => none
    | none => none

def dstOk (n : Nat) : Option Nat → Bool
  | some t => decide (t < n)
  | none => true

/-- The operation 'o' of the row 'ops', told abstractly (calls as they are: 'q' false; as calls that leave memory alone: true). -/
def SOper.of (P : Program) (n : Nat) (q : Bool) (ops : Array Oper) (o : Oper) : Option SOper :=
  match SO.of P o, guardOf ops o.guard with
  | some so, some g => if dstOk n o.dst then some ⟨o.dst, if q then so.quiet else so, g⟩ else none
  | _, _ => none

section
variable {P : Program} {cx : Ctx} {F : Fz} {m : List Ent} {E : Nat → AV} {H : List Blk} {a : Act} {w : World} {o : Oper}

theorem Calls.of_fn {f : FuncId} {args : List AV} {v : AV} {K : AV → List Blk → Prop} (h : AFn P f args H v) (hk : K v H) : ACalls P f args H K :=
  h.calls.mono (by rintro r H' ⟨rfl, rfl⟩; exact hk)

theorem swpOp_unquiet {so : SO} {ρ : Operand → AV} {K : AV → List Blk → Prop} (h : swpOp P so.quiet ρ H K) : swpOp P so ρ H K := by
  cases so <;> try exact h
  case call f args => obtain ⟨v, h1, h2⟩ := h; exact Calls.of_fn h1 h2
  case callv x args =>
    simp only [SO.quiet, swpOp] at h ⊢
    split at h
    · obtain ⟨hc, v, h1, h2⟩ := h; exact ⟨hc, Calls.of_fn h1 h2⟩
    · exact h.elim
  case len x =>
    simp only [SO.quiet, swpOp] at h ⊢
    split at h
    · exact fun _ => h
    · exact h.elim

theorem swpBin_mono {op : BinOp} {x y : AV} {K K' : AV → Prop} (hk : ∀ v, K v → K' v) (h : swpBin op x y K) : swpBin op x y K' := by
  unfold swpBin at *
  split
  · simp only at h
    cases op <;> simp only at h ⊢ <;> first | exact ⟨h.1, hk _ h.2⟩ | exact ⟨h.1, h.2.1, hk _ h.2.2⟩
  · simp_all

theorem swpOp_mono {so : SO} {ρ : Operand → AV} {K K' : AV → List Blk → Prop} (hk : ∀ v H, K v H → K' v H) (h : swpOp P so ρ H K) : swpOp P so ρ H K' := by
  cases so with
  | bin op x y => exact swpBin_mono (fun v hv => hk v _ hv) h
  | slc sz x lo hi =>
    simp only [swpOp, swpSlc] at h ⊢
    split at h
    case h_2 => exact h.elim
    case h_1 =>
      split at h
      case h_2 => exact h.elim
      case h_1 => exact ⟨h.1, h.2.1, h.2.2.1, h.2.2.2.1, hk _ _ h.2.2.2.2⟩
  | app ty sz bytes s x =>
    simp only [swpOp, swpApp] at h ⊢
    split at h
    case h_2 => exact h.elim
    case h_1 n xs hv =>
      obtain ⟨h1, h2, h3⟩ := h
      refine ⟨h1, h2, ?_⟩
      split at h3
      · split at h3
        · obtain ⟨g1, g2, g3, g4, g5, g6, g7⟩ := h3
          exact ⟨g1, g2, g3, g4, g5, g6, hk _ _ g7⟩
        · exact h3.elim
      · obtain ⟨g1, g2, g3⟩ := h3
        exact ⟨g1, g2, hk _ _ g3⟩
      · exact h3.elim
  | slc0 ty sz x => simp only [swpOp] at h ⊢; split at h <;> first | exact hk _ _ h | exact h.elim
  | isnil neg x => simp only [swpOp] at h ⊢; split at h <;> first | exact fun b hb => hk _ _ (h b hb) | exact h.elim
  | bad => exact h.elim
  | call f args => exact ACalls.mono h (fun r H' hr => hk r H' hr)
  | callv x args =>
    simp only [swpOp] at h ⊢
    split at h
    · exact ⟨h.1, ACalls.mono h.2 (fun r H' hr => hk r H' hr)⟩
    · exact h.elim
  | qcall f args => obtain ⟨v, h1, h2⟩ := h; exact ⟨v, h1, hk _ _ h2⟩
  | qcallv x args =>
    simp only [swpOp] at h ⊢
    split at h
    · obtain ⟨hc, v, h1, h2⟩ := h; exact ⟨hc, v, h1, hk _ _ h2⟩
    · exact h.elim
  | qlen x => simp only [swpOp] at h ⊢; split at h <;> first | exact hk _ _ h | exact h.elim
  | len x =>
    simp only [swpOp] at h ⊢
    split at h
    · exact fun g => hk _ _ (h g)
    · exact h.elim
  | mv x => exact hk _ _ h
  | mkf f caps => exact hk _ _ h
  | alloc ty zero => exact hk _ _ h
  | box ty x => exact ⟨h.1, hk _ _ h.2⟩
  | store c a v =>
    obtain ⟨h1, h2, h3⟩ := h
    refine ⟨h1, h2, ?_⟩
    split at h3
    · exact hk _ _ h3
    · exact h3.elim
  | build zero parts =>
    obtain ⟨h1, h2⟩ := h
    refine ⟨h1, ?_⟩
    split at h2
    · exact hk _ _ h2
    · exact h2.elim
  | bslice ty sz len zero parts =>
    obtain ⟨h1, h2⟩ := h
    refine ⟨h1, ?_⟩
    split at h2
    · exact ⟨h2.1, hk _ _ h2.2⟩
    · exact h2.elim
  | pick c a b => simp only [swpOp] at h ⊢; split at h <;> first | exact hk _ _ h | exact h.elim
  | binb neg x y => simp only [swpOp] at h ⊢; split at h <;> first | exact hk _ _ h | exact h.elim
  | eqs neg x y => simp only [swpOp] at h ⊢; split at h <;> first | exact hk _ _ h | exact h.elim
  | un op x => simp only [swpOp] at h ⊢; split at h <;> first | exact hk _ _ h | exact h.elim
  | load c agg a =>
    simp only [swpOp] at h ⊢
    split at h
    · split
      · rename_i hag; rw [if_pos hag] at h; exact hk _ _ h
      · rename_i hag; rw [if_neg hag] at h
        split at h
        · exact hk _ _ h
        · exact h.elim
    · exact h.elim
  | nilc x => simp only [swpOp] at h ⊢; split at h <;> first | exact ⟨h.1, hk _ _ h.2⟩ | exact hk _ _ h | exact h.elim
  | faddr off a => simp only [swpOp] at h ⊢; split at h <;> first | exact ⟨h.1, hk _ _ h.2⟩ | exact h.elim
  | fld off c agg x =>
    simp only [swpOp] at h ⊢
    split at h
    · split
      · rename_i hag; rw [if_pos hag] at h; exact ⟨h.1, hk _ _ h.2⟩
      · rename_i hag; rw [if_neg hag] at h
        split at h
        · exact hk _ _ h
        · exact h.elim
    · exact h.elim
  | iaddr sz s i => simp only [swpOp] at h ⊢; split at h <;> first | exact ⟨h.1, h.2.1, hk _ _ h.2.2⟩ | exact h.elim
  | ext x n =>
    simp only [swpOp] at h ⊢
    split at h
    · split at h
      · exact hk _ _ h
      · exact h.elim
    · exact h.elim
  | mslice ty bytes zero l c => simp only [swpOp] at h ⊢; split at h <;> first | exact ⟨h.1, h.2.1, h.2.2.1, h.2.2.2.1, hk _ _ h.2.2.2.2⟩ | exact h.elim
  | mm mx x y => simp only [swpOp] at h ⊢; split at h <;> first | exact hk _ _ h | exact h.elim
  | conv k x => simp only [swpOp] at h ⊢; split at h <;> first | exact hk _ _ h | exact h.elim

theorem aStepV_mono {s : SOper} {K K' : AV → List Blk → Prop} (hk : ∀ v H, K v H → K' v H) (h : aStepV P s E H K) : aStepV P s E H K' := by
  unfold aStepV at *
  split
  · rename_i hg; simp only [hg] at h; exact swpOp_mono hk h
  · rename_i t want hg
    simp only [hg] at h
    split at h
    · rename_i b hb; exact ⟨fun g => swpOp_mono hk (h.1 g), fun g => hk _ _ (h.2 g)⟩
    · exact hk _ _ h
    · exact h.elim

theorem aStepV_unquiet {s : SOper} {so : SO} (hso : s.op = so.quiet) {K : AV → List Blk → Prop} (h : aStepV P s E H K) : aStepV P ⟨s.dst, so, s.guard⟩ E H K := by
  unfold aStepV at *
  simp only
  split
  · rename_i hg; simp only [hg, hso] at h; exact swpOp_unquiet h
  · rename_i t want hg
    simp only [hg, hso] at h
    split at h
    · exact ⟨fun g => swpOp_unquiet (h.1 g), h.2⟩
    · exact h
    · exact h.elim

/-- What a step leaves: the state goes on. -/
def Goes (cx : Ctx) (F : Fz) (m : List Ent) (K : (Nat → AV) → List Blk → Prop) : Act → World → Prop :=
  fun a' w' => ∃ F' m' E' H', K E' H' ∧ FLe F F' ∧ MLe m m' ∧ St cx F' m' E' H' a' w'

theorem step_sound {ops : Array Oper} {q : Bool} {s : SOper} (hof : SOper.of P cx.n q ops o = some s) (hs : St cx F m E H a w) {K : (Nat → AV) → List Blk → Prop} (hk : aStepV P s E H (fun v H' => K (updO E s.dst v) H')) {Q : Exit → Act → World → Prop} :
    if Region.wanted o (yielded ops a.tmps) then o.wp P a w (Goes cx F m K) Q else Goes cx F m K (a.put o.dst undef) w := by
  unfold SOper.of at hof
  split at hof
  case h_2 => simp at hof
  case h_1 so g hso hg =>
    split at hof
    case isFalse => simp at hof
    case isTrue hdst =>
      simp only [Option.some.injEq] at hof
      subst hof
      have hd : ∀ t, o.dst = some t → t < cx.n := by
        intro t ht; rw [ht] at hdst; simpa [dstOk] using hdst
      have fin : swpOp P so (ev E) H (fun v H' => K (updO E o.dst v) H') → o.wp P a w (Goes cx F m K) Q := by
        intro h
        refine Oper.wp_mono ?_ (op_sound (Q := Q) hso hs hd h)
        rintro a' w' ⟨F', m', v, H', h1, h2, h3, h4⟩
        exact ⟨F', m', _, H', h1, h2, h3, h4⟩
      have skip : K (updO E o.dst (.lit undef)) H → Goes cx F m K (a.put o.dst undef) w := by
        intro h
        exact ⟨F, m, _, H, h, FLe.refl _, MLe.refl _, hs.put (FLe.refl _) (MLe.refl _) hs.sim hd (.lit _)⟩
      have unq : ∀ {H : List Blk} {K : AV → List Blk → Prop}, swpOp P (if q then so.quiet else so) (ev E) H K → swpOp P so (ev E) H K := by
        intro H K h
        cases q
        · exact h
        · exact swpOp_unquiet h
      simp only [aStepV] at hk
      cases hgo : o.guard with
      | none =>
        rw [hgo] at hg
        simp only [guardOf, Option.some.injEq] at hg
        subst hg
        simp only [Region.wanted, hgo, if_true]
        exact fin (unq hk)
      | some jw =>
        obtain ⟨j, want⟩ := jw
        rw [hgo] at hg
        simp only [guardOf] at hg
        split at hg
        case h_2 => simp at hg
        case h_1 oj hoj =>
          split at hg
          case h_2 => simp at hg
          case h_1 t ht =>
            simp only [Option.some.injEq] at hg
            subst hg
            simp only at hk
            have hy : yielded ops a.tmps j = match a.tmps[t]? with | some (.bool b) => some b | _ => none := by
              simp only [yielded, hoj, ht, Option.bind_some]
              cases a.tmps[t]? with
              | none => rfl
              | some u => cases u <;> rfl
            have hrel := hs.env t
            simp only [Region.wanted, hgo, hy]
            split at hk
            · rename_i b hb
              rw [hb] at hrel
              have hv := hrel.lit_inv
              have hget : a.tmps[t]? = some (.bool b) := by
                cases h : a.tmps[t]? with
                | none => simp [h, undef] at hv
                | some v => simp [h] at hv; rw [hv]
              simp only [hget]
              by_cases hbw : b = want
              · subst hbw; simp only [BEq.rfl, if_true]; exact fin (unq (hk.1 rfl))
              · have : (some b == some want) = false := by simpa using hbw
                simp only [this, Bool.false_eq_true, if_false]
                exact skip (hk.2 hbw)
            · rename_i v hnb hv0
              rw [hv0] at hrel
              have hv := hrel.lit_inv
              have : (match a.tmps[t]? with | some (.bool b) => some b | _ => (none : Option Bool)) = none := by
                cases h : a.tmps[t]? with
                | none => rfl
                | some u =>
                  simp [h] at hv
                  subst hv
                  cases u <;> first | rfl | exact absurd rfl (hnb _)
              rw [this]
              simp only [show ((none : Option Bool) == some want) = false from rfl, Bool.false_eq_true, if_false]
              exact skip hk
            · exact hk.elim
end
end Go.Av
