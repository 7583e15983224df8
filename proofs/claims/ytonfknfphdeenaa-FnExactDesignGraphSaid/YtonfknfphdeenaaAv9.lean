/- The abstract layer, part 9: rows of operations in every order; code; calls. -/
import Derived.Test.YtonfknfphdeenaaAv8
set_option linter.unusedSimpArgs false
set_option linter.unusedVariables false
set_option maxHeartbeats 4000000
set_option maxRecDepth 100000
namespace Go.Av
open Go.RowKit

section
variable {P : Program} {n : Nat} {L : List Nat} {ops : Array Oper}

/-- The abstract operations of a row that leaves its order open (the calls in L may write memory). -/
def ssOf (P : Program) (n : Nat) (L : List Nat) (ops : Array Oper) (i : Nat) : Option SOper :=
  match ops[i]? with
  | some o => SOper.of P n (!L.contains i) ops o
  | none => none

def AAny (P : Program) (n : Nat) (L : List Nat) (ops : Array Oper) (Q : (Nat → AV) → List Blk → Prop) : Nat → Array Bool → (Nat → AV) → List Blk → Prop
  | 0, listed, E, H => Region.ready .any ops listed = [] ∧ Q E H
  | f + 1, listed, E, H => (Region.ready .any ops listed = [] → Q E H) ∧ ∀ i ∈ Region.ready .any ops listed, ∃ s, ssOf P n L ops i = some s ∧
      aStepV P s E H fun v H' => AAny P n L ops Q f (listed.setIfInBounds i true) (updO E s.dst v) H'

theorem AAny_sound {cx : Ctx} {Q : (Nat → AV) → List Blk → Prop} : ∀ (f : Nat) (listed : Array Bool) (F : Fz) (m : List Ent) (E : Nat → AV) (H : List Blk) (a : Act) (w : World), St cx F m E H a w → AAny P cx.n L ops Q f listed E H →
    wpAny P .any ops (fun x a' w' => x = .normal ∧ Goes cx F m Q a' w') f listed a w
  | 0, listed, F, m, E, H, a, w, hs, h => ⟨h.1, rfl, F, m, E, H, h.2, FLe.refl _, MLe.refl _, hs⟩
  | f + 1, listed, F, m, E, H, a, w, hs, h => by
    refine ⟨fun h0 => ⟨rfl, F, m, E, H, h.1 h0, FLe.refl _, MLe.refl _, hs⟩, fun i hi => ?_⟩
    obtain ⟨s, hsi, hst⟩ := h.2 i hi
    unfold ssOf at hsi
    unfold wpOp
    split at hsi
    case h_2 => simp at hsi
    case h_1 o ho =>
      simp only [ho]
      have hdst : s.dst = o.dst := by
        unfold SOper.of at hsi
        split at hsi
        · split at hsi
          · simp only [Option.some.injEq] at hsi; rw [← hsi]
          · simp at hsi
        · simp at hsi
      have h1 := step_sound (Q := (fun x a' w' => x = .normal ∧ Goes cx F m Q a' w')) hsi hs (K := fun E' H' => AAny P cx.n L ops Q f (listed.setIfInBounds i true) E' H') hst
      have go : ∀ a' w', Goes cx F m (fun E' H' => AAny P cx.n L ops Q f (listed.setIfInBounds i true) E' H') a' w' → wpAny P .any ops (fun x a' w' => x = .normal ∧ Goes cx F m Q a' w') f (listed.setIfInBounds i true) a' w' := by
        rintro a' w' ⟨F', m', E', H', g1, g2, g3, g4⟩
        have := AAny_sound f _ F' m' E' H' a' w' g4 g1
        refine wpAny_mono ?_ _ _ _ _ this
        rintro x a'' w'' ⟨rfl, F'', m'', E'', H'', k1, k2, k3, k4⟩
        exact ⟨rfl, F'', m'', E'', H'', k1, g2.trans k2, g3.trans k3, k4⟩
      split
      · rename_i hw; rw [if_pos hw] at h1; exact .inl (Oper.wp_mono go h1)
      · rename_i hw; rw [if_neg hw] at h1; exact go _ _ h1
where
  wpAny_mono {ops : Array Oper} {Q Q' : Exit → Act → World → Prop} (hq : ∀ x a w, Q x a w → Q' x a w) : ∀ (f : Nat) (listed : Array Bool) (a : Act) (w : World), wpAny P .any ops Q f listed a w → wpAny P .any ops Q' f listed a w
    | 0, _, _, _, h => ⟨h.1, hq _ _ _ h.2⟩
    | f + 1, listed, a, w, h => by
      refine ⟨fun h0 => hq _ _ _ (h.1 h0), fun i hi => ?_⟩
      have := h.2 i hi
      unfold wpOp at this ⊢
      split
      · rename_i ho; simp only [ho] at this; exact wpAny_mono hq f _ _ _ this
      · rename_i o ho
        simp only [ho] at this
        split
        · rename_i hw
          rw [if_pos hw] at this
          rcases this with h1 | ⟨h1, a0, w0, h2⟩
          · exact .inl (wp_monoQ hq (fun a w g => wpAny_mono hq f _ a w g) h1)
          · exact .inr ⟨h1, a0, w0, hq _ _ _ h2⟩
        · rename_i hw
          rw [if_neg hw] at this
          exact wpAny_mono hq f _ _ _ this
  wp_monoQ {o : Oper} {a : Act} {w : World} {K K' : Act → World → Prop} {Q Q' : Exit → Act → World → Prop} (hq : ∀ x a w, Q x a w → Q' x a w) (hk : ∀ a w, K a w → K' a w) (h : o.wp P a w K Q) : o.wp P a w K' Q' := by
    unfold Oper.wp at *
    generalize (execOp a.eval o).run P w = r at *
    cases r with
    | ok n w' =>
      cases n <;> simp only [Oper.upon] at h ⊢ <;>
        first
          | exact hk _ _ h
          | exact Calls.mono h (fun e w'' he => by
              cases e <;> first
                | exact hk _ _ he
                | exact hq _ _ _ he
                | (obtain ⟨a0, w0, h2⟩ := he; exact ⟨a0, w0, hq _ _ _ h2⟩))
          | exact Rows.mono h (fun _ _ he => hk _ _ he)
    | halt x w' => cases x <;> simp only [Oper.upon] at h ⊢ <;> exact hq _ _ _ h

/-! The check that one order serves all. -/

def apartB (si sj : SOper) : Bool :=
  (match si.dst with
   | some d => !(sj.looks.contains d) && sj.dst != some d
   | none => true) &&
  (match sj.dst with
   | some d => !(si.looks.contains d)
   | none => true)

def edgeIn (o : Oper) (i : Nat) (D : List Nat) : Bool := o.after.any fun e => Region.binds .any e && (e.on == i || D.contains e.on)

/-- Operations that wait for operation i. -/
def descOf (ops : Array Oper) (i : Nat) : List Nat :=
  (List.range ops.size).foldl (fun D k => if k != i && (match ops[k]? with | some o => edgeIn o i D | none => false) then D ++ [k] else D) []

def freeB (P : Program) (n : Nat) (L : List Nat) (ops : Array Oper) (listed : Array Bool) (i : Nat) (si : SOper) : Bool :=
  let D := descOf ops i
  (D.all fun d => d != i && !(listed.getD d true) && (match ops[d]? with | some o => edgeIn o i D | none => false)) &&
  (List.range ops.size).all fun j => j == i || listed.getD j true || D.contains j || match ssOf P n L ops j with
    | some sj => apartB si sj && (decide (sj.op.kind ≤ 2) || si.op.kind == 0)
    | none => false

def lexB (P : Program) (n : Nat) (L : List Nat) (ops : Array Oper) : List Nat → Array Bool → Bool
  | [], listed => (Region.ready .any ops listed).isEmpty
  | i :: σ, listed => (Region.ready .any ops listed).contains i && (match ssOf P n L ops i with
    | some si => (if si.op.kind ≤ 1 then freeB P n L ops listed i si else Region.ready .any ops listed == [i])
    | none => false) && lexB P n L ops σ (listed.setIfInBounds i true)

theorem updO_comm {E : Nat → AV} {x y : Option Nat} {v u : AV} (h : ∀ d, x = some d → y ≠ some d) : updO (updO E x v) y u = updO (updO E y u) x v := by
  cases x with
  | none => rfl
  | some d =>
    cases y with
    | none => rfl
    | some e =>
      have hne : d ≠ e := fun he => h d rfl (he ▸ rfl)
      funext k
      simp only [updO]
      by_cases h1 : k = e
      · by_cases h2 : k = d
        · exact absurd (h2.symm.trans h1) hne
        · rw [if_pos h1, if_neg h2, if_pos h1]
      · by_cases h2 : k = d
        · rw [if_neg h1, if_pos h2, if_pos h2]
        · rw [if_neg h1, if_neg h2, if_neg h2, if_neg h1]

theorem updO_looks {E : Nat → AV} {d : Option Nat} {v : AV} {s : SOper} (h : ∀ t, d = some t → t ∉ s.looks) : ∀ t ∈ s.looks, updO E d v t = E t := by
  intro t ht
  cases d with
  | none => rfl
  | some k =>
    have : t ≠ k := fun e => h k rfl (e ▸ ht)
    simp [updO, this]

theorem any_first {Q : (Nat → AV) → List Blk → Prop} {i : Nat} {si : SOper} (hsi : ssOf P n L ops i = some si) (hkind : si.op.kind ≤ 1) (D : List Nat)
    (hD : ∀ d ∈ D, d ≠ i ∧ ∃ od, ops[d]? = some od ∧ ∃ e ∈ od.after, Region.binds .any e = true ∧ (e.on = i ∨ e.on ∈ D)) :
    ∀ (f : Nat) (listed : Array Bool) (E : Nat → AV) (H : List Blk), (∀ d ∈ D, listed.getD d true = false) → i ∈ Region.ready .any ops listed →
      (∀ j, j ≠ i → listed.getD j true = false → j ∉ D → ∀ sj, ssOf P n L ops j = some sj → apartB si sj = true ∧ (sj.op.kind ≤ 2 ∨ si.op.kind = 0)) →
      aStepV P si E H (fun v H' => AAny P n L ops Q f (listed.setIfInBounds i true) (updO E si.dst v) H') → AAny P n L ops Q (f + 1) listed E H := by
  intro f
  induction f with
  | zero =>
    intro listed E H _ hr _ h
    refine ⟨fun h0 => by rw [h0] at hr; simp at hr, fun j hj => ?_⟩
    by_cases hji : j = i
    · subst hji; exact ⟨si, hsi, h⟩
    · obtain ⟨v, h1, _⟩ := aStepV_quiet hkind h
      have := ready_mono hj hji
      rw [h1.1] at this; simp at this
  | succ f ih =>
    intro listed E H hun hr hfree h
    refine ⟨fun h0 => by rw [h0] at hr; simp at hr, fun j hj => ?_⟩
    by_cases hji : j = i
    · subst hji; exact ⟨si, hsi, h⟩
    · obtain ⟨v, h1, hst1, hst0⟩ := aStepV_quiet hkind h
      obtain ⟨sj, hsj, hj2⟩ := h1.2 j (ready_mono hj hji)
      refine ⟨sj, hsj, ?_⟩
      have hjun := (mem_ready.1 hj).1
      have hiun := (mem_ready.1 hr).1
      have hjD : j ∉ D := by
        intro hjd
        obtain ⟨_, od, hod, e, he, hb, hon⟩ := hD j hjd
        obtain ⟨_, o', ho', hall⟩ := mem_ready.1 hj
        rw [hod] at ho'; cases ho'
        have hl := hall e he hb
        have huni : ∀ k, listed.getD k true = false → listed.getD k false = true → False := by
          intro k hk1 hk2
          rcases Nat.lt_or_ge k listed.size with h' | h'
          · simp [h'] at hk1 hk2; rw [hk1] at hk2; cases hk2
          · simp [Array.getElem?_eq_none h'] at hk2
        rcases hon with hon | hon
        · rw [hon] at hl; exact huni i hiun hl
        · exact huni _ (hun _ hon) hl
      obtain ⟨hap, hkj⟩ := hfree j hji hjun hjD sj hsj
      have a1 : ∀ t, si.dst = some t → t ∉ sj.looks := by
        intro t ht; simp [apartB, ht] at hap; exact hap.1.1
      have a2 : ∀ t, si.dst = some t → sj.dst ≠ some t := by
        intro t ht; simp [apartB, ht] at hap; exact hap.1.2
      have a3 : ∀ t, sj.dst = some t → t ∉ si.looks := by
        intro t ht; simp [apartB, ht] at hap; exact hap.2
      rw [aStepV_congr (updO_looks a1)] at hj2
      have fin : ∀ (vj : AV) (Hj : List Blk), (aStepV P si E Hj fun v' H' => v' = v ∧ H' = Hj) → AAny P n L ops Q f ((listed.setIfInBounds i true).setIfInBounds j true) (updO (updO E si.dst v) sj.dst vj) Hj →
          AAny P n L ops Q (f + 1) (listed.setIfInBounds j true) (updO E sj.dst vj) Hj := by
        intro vj Hj hq hA
        refine ih (listed.setIfInBounds j true) (updO E sj.dst vj) Hj ?_ (ready_mono hr (Ne.symm hji)) ?_ ?_
        · intro d hd
          rw [getD_set_ne true (fun (e : j = d) => hjD (e ▸ hd))]; exact hun d hd
        · intro k hki hk hkD sk hsk
          refine hfree k hki ?_ hkD sk hsk
          by_cases hjk : j = k
          · subst hjk; exact hjun
          · rw [getD_set_ne true hjk] at hk; exact hk
        · rw [aStepV_congr (updO_looks a3)]
          refine aStepV_mono ?_ hq
          rintro v' H' ⟨rfl, rfl⟩
          rw [Array.setIfInBounds_comm _ _ hji]
          rw [updO_comm a2] at hA
          exact hA
      by_cases hk2 : sj.op.kind ≤ 2
      · refine aStepV_mono ?_ (aStepV_ext hk2 hj2)
        rintro vj Hj ⟨hA, ext, rfl⟩
        exact fin vj _ (hst1 ext _ ⟨rfl, rfl⟩) hA
      · have h0 : si.op.kind = 0 := by omega
        refine aStepV_mono ?_ hj2
        intro vj Hj hA
        exact fin vj Hj (hst0 h0 Hj _ ⟨rfl, rfl⟩) hA

/-- The steps, one behind the other. -/
def lexS (P : Program) (n : Nat) (L : List Nat) (ops : Array Oper) (Q : (Nat → AV) → List Blk → Prop) : List Nat → (Nat → AV) → List Blk → Prop
  | [], E, H => Q E H
  | i :: σ, E, H => match ssOf P n L ops i with
    | some s => aStepV P s E H fun v H' => lexS P n L ops Q σ (updO E s.dst v) H'
    | none => False

theorem any_lex {Q : (Nat → AV) → List Blk → Prop} : ∀ (σ : List Nat) (listed : Array Bool) (E : Nat → AV) (H : List Blk), lexB P n L ops σ listed = true → lexS P n L ops Q σ E H → AAny P n L ops Q σ.length listed E H
  | [], listed, E, H, hB, h => ⟨by simpa [lexB] using hB, h⟩
  | i :: σ, listed, E, H, hB, h => by
    simp only [lexB, Bool.and_eq_true] at hB
    obtain ⟨⟨hr, hc⟩, hB'⟩ := hB
    have hr' : i ∈ Region.ready .any ops listed := by simpa using hr
    simp only [lexS] at h
    split at hc
    case h_2 => simp at hc
    case h_1 si hsi =>
      simp only [hsi] at h
      have hmono : aStepV P si E H (fun v H' => AAny P n L ops Q σ.length (listed.setIfInBounds i true) (updO E si.dst v) H') :=
        aStepV_mono (fun v H' g => any_lex σ _ _ _ hB' g) h
      split at hc
      · rename_i hk
        simp only [freeB, Bool.and_eq_true, List.all_eq_true, List.mem_range] at hc
        obtain ⟨hc1, hc2⟩ := hc
        refine any_first hsi hk (descOf ops i) ?_ σ.length listed E H ?_ hr' ?_ hmono
        · intro d hd
          have := hc1 d hd
          simp only [bne_iff_ne] at this
          refine ⟨this.1.1, ?_⟩
          have h3 := this.2
          split at h3
          · rename_i od hod
            refine ⟨od, hod, ?_⟩
            unfold edgeIn at h3
            obtain ⟨e, he, hb⟩ := Array.any_eq_true'.1 h3
            simp at hb
            exact ⟨e, he, hb.1, hb.2⟩
          · simp at h3
        · intro d hd
          have := hc1 d hd
          simpa using this.1.2
        · intro j hji hjun hjD sj hsj
          have hlt : j < ops.size := by
            unfold ssOf at hsj
            split at hsj
            · rename_i o ho; exact (Array.getElem?_eq_some_iff.1 ho).1
            · simp at hsj
          have := hc2 j hlt
          simp only [hsj, hjun, Bool.or_eq_true, beq_iff_eq, hji, false_or, Bool.false_eq_true, Bool.and_eq_true, decide_eq_true_eq] at this
          rcases this with h3 | h3
          · exact absurd (by simpa using h3) hjD
          · exact h3
      · have hrd : Region.ready .any ops listed = [i] := by simpa using hc
        refine ⟨fun h0 => by rw [h0] at hr'; simp at hr', fun j hj => ?_⟩
        rw [hrd] at hj
        simp at hj
        subst hj
        exact ⟨si, hsi, hmono⟩
end
end Go.Av
