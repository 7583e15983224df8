/- Sorted lists: one order, one sorted list. -/
import Derived.Test.YtdgcgckehihboaaGreatDoorzK19
import Derived.Test.YtdgcgckehihboaaGreatDoorzS2
set_option linter.unusedSimpArgs false
set_option linter.unusedVariables false
set_option linter.unusedSectionVars false
set_option maxHeartbeats 4000000
set_option maxRecDepth 100000
namespace Go.Sort
variable [Go.Av.DoorC]
end Go.Sort
namespace Go.Proofs.YtdgcgckehihboaaGreatDoor
variable [Go.Av.DoorC]
open Go.Av Go.Sort
structure TotC {A : Type} (cf : A → A → Int) : Prop where
  neg : ∀ x y, cf y x = - cf x y
  eq0 : ∀ x y, cf x y = 0 ↔ x = y
  trans : ∀ x y z, cf x y < 0 → cf y z < 0 → cf x z < 0
section
variable {A : Type} {cf : A → A → Int}
theorem TotC.le (h : TotC cf) {x y z : A} (h1 : cf x y ≤ 0) (h2 : cf y z ≤ 0) : cf x z ≤ 0 := by
  rcases Int.lt_or_eq_of_le h1 with h1 | h1
  · rcases Int.lt_or_eq_of_le h2 with h2 | h2
    · exact Int.le_of_lt (h.trans _ _ _ h1 h2)
    · rw [(h.eq0 _ _).1 h2] at h1; exact Int.le_of_lt h1
  · rw [(h.eq0 _ _).1 h1]; exact h2
theorem TotC.swo (h : TotC cf) : SWO (ltOf cf) := by
  refine ⟨fun x => ?_, fun x y z h1 h2 => ?_, fun x y z h1 h2 => ?_⟩
  · have := (h.eq0 x x).2 rfl
    simp [ltOf, this]
  · simp only [ltOf, decide_eq_true_eq] at *
    exact h.trans _ _ _ h1 h2
  · simp only [ltOf, decide_eq_false_iff_not] at *
    have e1 := h.neg x y
    have e2 := h.neg y z
    have e3 := h.neg x z
    have := h.le (x := z) (y := y) (z := x) (by omega) (by omega)
    omega
def insU (cf : A → A → Int) (x : A) : List A → List A
  | [] => [x]
  | y :: r => if cf y x ≥ 0 then (if cf y x > 0 then x :: y :: r else y :: r) else y :: insU cf x r
def sortU (cf : A → A → Int) (l : List A) : List A := l.foldl (fun o x => insU cf x o) []
def Asc (cf : A → A → Int) (l : List A) : Prop := l.Pairwise fun a b => cf a b < 0
theorem insU_mem (h : TotC cf) (x : A) : ∀ (l : List A) (y : A), y ∈ insU cf x l ↔ y ∈ l ∨ y = x
  | [], y => by simp [insU]
  | z :: r, y => by
    unfold insU
    split
    · split
      · simp only [List.mem_cons]
        constructor
        · rintro (rfl | h1)
          · exact .inr rfl
          · exact .inl h1
        · rintro (h1 | rfl)
          · exact .inr h1
          · exact .inl rfl
      · have hz : z = x := (h.eq0 _ _).1 (by omega)
        subst hz
        simp only [List.mem_cons]
        constructor
        · exact .inl
        · rintro (h1 | rfl)
          · exact h1
          · exact .inl rfl
    · simp only [List.mem_cons, insU_mem h x r y]
      constructor
      · rintro (h1 | h1 | h1)
        · exact .inl (.inl h1)
        · exact .inl (.inr h1)
        · exact .inr h1
      · rintro ((h1 | h1) | h1)
        · exact .inl h1
        · exact .inr (.inl h1)
        · exact .inr (.inr h1)
theorem insU_asc (h : TotC cf) (x : A) : ∀ {l : List A}, Asc cf l → Asc cf (insU cf x l)
  | [], _ => by simp [insU, Asc]
  | z :: r, ha => by
    have hz := List.pairwise_cons.1 ha
    unfold insU
    split
    · split
      · refine List.pairwise_cons.2 ⟨fun y hy => ?_, ha⟩
        have hxz : cf x z < 0 := by have := h.neg z x; omega
        rcases List.mem_cons.1 hy with rfl | hy
        · exact hxz
        · exact h.trans _ _ _ hxz (hz.1 y hy)
      · exact ha
    · refine List.pairwise_cons.2 ⟨fun y hy => ?_, insU_asc h x hz.2⟩
      rcases (insU_mem h x r y).1 hy with hy | rfl
      · exact hz.1 y hy
      · omega
theorem insU_len (x : A) : ∀ l : List A, (insU cf x l).length ≤ l.length + 1
  | [] => by simp [insU]
  | z :: r => by
    unfold insU
    split
    · split <;> simp
    · have := insU_len x r
      simp; omega
theorem sortU_snoc (l : List A) (x : A) : sortU cf (l ++ [x]) = insU cf x (sortU cf l) := by simp [sortU]
theorem sortU_len (l : List A) : (sortU cf l).length ≤ l.length := by
  rw [← List.reverse_reverse l]
  induction l.reverse with
  | nil => simp [sortU]
  | cons x r ih =>
    rw [List.reverse_cons, sortU_snoc]
    have := insU_len (cf := cf) x (sortU cf r.reverse)
    simp at *; omega
theorem sortU_asc (h : TotC cf) (l : List A) : Asc cf (sortU cf l) := by
  rw [← List.reverse_reverse l]
  induction l.reverse with
  | nil => simp [sortU, Asc]
  | cons x r ih => rw [List.reverse_cons, sortU_snoc]; exact insU_asc h x ih
theorem sortU_mem (h : TotC cf) (l : List A) (y : A) : y ∈ sortU cf l ↔ y ∈ l := by
  rw [← List.reverse_reverse l]
  induction l.reverse with
  | nil => simp [sortU]
  | cons x r ih =>
    rw [List.reverse_cons, sortU_snoc, insU_mem h, ih]
    simp
theorem asc_uniq (h : TotC cf) : ∀ {l m : List A}, Asc cf l → Asc cf m → (∀ y, y ∈ l ↔ y ∈ m) → l = m
  | [], [], _, _, _ => rfl
  | [], y :: m, _, _, hm => by have := (hm y).2 (by simp); simp at this
  | x :: l, [], _, _, hm => by have := (hm x).1 (by simp); simp at this
  | x :: l, y :: m, hl, hm', hm => by
    have h1 := List.pairwise_cons.1 hl
    have h2 := List.pairwise_cons.1 hm'
    have hxy : x = y := by
      rcases List.mem_cons.1 ((hm x).1 (by simp)) with hx | hx
      · exact hx
      · rcases List.mem_cons.1 ((hm y).2 (by simp)) with hy | hy
        · exact hy.symm
        · have a := h2.1 x hx
          have b := h1.1 y hy
          have := h.neg x y
          omega
    subst hxy
    rw [asc_uniq h h1.2 h2.2 (fun z => ?_)]
    have := hm z
    have irr : cf x x = 0 := (h.eq0 _ _).2 rfl
    constructor
    · intro hz
      rcases List.mem_cons.1 (this.1 (by simp [hz])) with rfl | hz2
      · have := h1.1 z hz; omega
      · exact hz2
    · intro hz
      rcases List.mem_cons.1 (this.2 (by simp [hz])) with rfl | hz2
      · have := h2.1 z hz; omega
      · exact hz2
theorem asc_of_sorted (h : TotC cf) : ∀ {l : List A}, l.Pairwise (fun a b => ¬ cf b a < 0) → l.Nodup → Asc cf l := by
  intro l h1 h2
  refine (h1.and h2).imp ?_
  rintro a b ⟨g1, g2⟩
  have := h.neg a b
  have := mt (h.eq0 a b).1 g2
  omega
theorem sorted_is (h : TotC cf) {l m : List A} (hp : m.Perm l) (hs : m.Pairwise (fun a b => ¬ cf b a < 0)) (hn : l.Nodup) : m = sortU cf l :=
  asc_uniq h (asc_of_sorted h hs (hp.nodup_iff.2 hn)) (sortU_asc h l) (fun y => by rw [sortU_mem h, hp.mem_iff])
end
end Go.Proofs.YtdgcgckehihboaaGreatDoor
