/- Lists sorted with what is doubled kept. -/
import Derived.Test.YtnlfokkljgbaaaazS3
set_option linter.unusedSimpArgs false
set_option linter.unusedVariables false
set_option maxHeartbeats 4000000
set_option maxRecDepth 100000
namespace Go.Proofs.Ytnlfokkljgbaaaa
open Go.Av
section
variable {A : Type} {cf : A → A → Int}
def insD (cf : A → A → Int) (x : A) : List A → List A
  | [] => [x]
  | y :: r => if cf y x > 0 then x :: y :: r else y :: insD cf x r
def sortD (cf : A → A → Int) (l : List A) : List A := l.foldl (fun o x => insD cf x o) []
theorem sortD_snoc (l : List A) (x : A) : sortD cf (l ++ [x]) = insD cf x (sortD cf l) := by unfold sortD; rw [List.foldl_append]; rfl
def Ord (cf : A → A → Int) (l : List A) : Prop := l.Pairwise (fun a b => ¬ cf b a < 0)
theorem insD_perm (x : A) : ∀ l : List A, (insD cf x l).Perm (x :: l)
  | [] => List.Perm.refl _
  | y :: r => by
    unfold insD
    split
    · exact List.Perm.refl _
    · exact ((insD_perm x r).cons y).trans (List.Perm.swap x y r)
theorem le_trans' (h : TotC cf) {a b c : A} (h1 : ¬ cf b a < 0) (h2 : ¬ cf c b < 0) : ¬ cf c a < 0 := by
  intro h3
  have n1 := h.neg a b
  have n2 := h.neg b c
  by_cases e1 : cf a b = 0
  · have := (h.eq0 a b).1 e1; subst this; exact h2 h3
  by_cases e2 : cf b c = 0
  · have := (h.eq0 b c).1 e2; subst this; exact h1 h3
  have t := h.trans a b c (by omega) (by omega)
  have n3 := h.neg a c
  omega
theorem insD_ord (h : TotC cf) (x : A) : ∀ l : List A, Ord cf l → Ord cf (insD cf x l)
  | [], _ => by simp [insD, Ord]
  | y :: r, ho => by
    have ho' := List.pairwise_cons.1 ho
    unfold insD
    split
    · rename_i hc
      refine List.pairwise_cons.2 ⟨fun b hb => ?_, ho⟩
      rcases List.mem_cons.1 hb with rfl | hb
      · omega
      · exact le_trans' h (by omega) (ho'.1 b hb)
    · rename_i hc
      refine List.pairwise_cons.2 ⟨fun b hb => ?_, insD_ord h x r ho'.2⟩
      rcases List.mem_cons.1 ((insD_perm x r).mem_iff.1 hb) with rfl | hb
      · have := h.neg y b; omega
      · exact ho'.1 b hb
theorem sortD_fact (h : TotC cf) (l : List A) : (sortD cf l).Perm l ∧ Ord cf (sortD cf l) := by
  rw [← List.reverse_reverse l]
  induction l.reverse with
  | nil => exact ⟨List.Perm.refl _, List.Pairwise.nil⟩
  | cons x l ih =>
    rw [List.reverse_cons, sortD_snoc]
    exact ⟨((insD_perm x _).trans (ih.1.cons x)).trans (List.perm_append_comm (l₁ := [x])), insD_ord h x _ ih.2⟩
theorem insD_at (x : A) : ∀ (P Q : List A), (∀ a ∈ P, ¬ cf a x > 0) → (∀ b ∈ Q, cf b x > 0) → insD cf x (P ++ Q) = P ++ x :: Q
  | [], [], _, _ => rfl
  | [], b :: Q, _, hq => by
    rw [List.nil_append]
    unfold insD
    rw [if_pos (hq b (by simp))]; rfl
  | a :: P, Q, hp, hq => by
    rw [List.cons_append]
    unfold insD
    rw [if_neg (hp a (by simp)), insD_at x P Q (fun y hy => hp y (by simp [hy])) hq]; rfl
theorem insD_place (h : TotC cf) (x : A) {l : List A} {k : Nat} (ho : Ord cf l) (h1 : ∀ b ∈ l.drop k, cf b x > 0) (h2 : ∀ d, 0 < k → k ≤ l.length → ¬ cf (l.getD (k - 1) d) x > 0) (hk : k ≤ l.length) : insD cf x l = l.take k ++ x :: l.drop k := by
  have e := insD_at (cf := cf) x (l.take k) (l.drop k) (fun a ha => ?_) h1
  · rwa [List.take_append_drop] at e
  · obtain ⟨i, hi, rfl⟩ := List.mem_iff_getElem.1 ha
    rw [List.getElem_take]
    rw [List.length_take] at hi
    have hl : k - 1 < l.length := by omega
    have h3 := h2 (l[k - 1]) (by omega) hk
    rw [List.getD_eq_getElem?_getD, List.getElem?_eq_getElem hl, Option.getD_some] at h3
    rcases Nat.lt_or_ge i (k - 1) with hlt | hge
    · have h4 := (List.pairwise_iff_getElem.1 ho) i (k - 1) (by omega) hl hlt
      intro h5
      have n1 := h.neg (l[i]'(by omega)) x
      have n2 := h.neg (l[k - 1]) x
      exact le_trans' h (a := l[i]'(by omega)) (b := l[k - 1]) (c := x) h4 (by omega) (by omega)
    · have : i = k - 1 := by omega
      subst this
      exact h3
end
end Go.Proofs.Ytnlfokkljgbaaaa
