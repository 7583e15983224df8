/- Partial squares: a cell with one candidate. -/
import Derived.Test.YtchehdplcbffmaazUC
set_option linter.unusedSimpArgs false
set_option linter.unusedVariables false
set_option maxHeartbeats 4000000
set_option maxRecDepth 100000
namespace Go.Proofs.Ytchehdplcbffmaa
open Go.Av
def sqN (n : Nat) (p : List (List Int)) : Prop := p.length = n ∧ ∀ r ∈ p, r.length = n
theorem cell_set {n : Nat} {p : List (List Int)} (hs : sqN n p) {x y : Nat} (hx : x < n) (hy : y < n) (v : Int) (a b : Nat) : cellAt (setC p x y v) a b = if a = x ∧ b = y then v else cellAt p a b := by
  split
  · rename_i h
    obtain ⟨rfl, rfl⟩ := h
    exact setC_self (by rw [hs.1]; exact hx) (by rw [hs.2 _ (by rw [getD_get (show a < p.length by rw [hs.1]; exact hx)]; exact List.getElem_mem _)]; exact hy)
  · rename_i h
    exact setC_get h
theorem sqN_set {n : Nat} {p : List (List Int)} (hs : sqN n p) (x y : Nat) (v : Int) : sqN n (setC p x y v) := setC_ok hs
theorem sq_ext {n : Nat} {p q : List (List Int)} (hp : sqN n p) (hq : sqN n q) (h : ∀ a b, a < n → b < n → cellAt p a b = cellAt q a b) : p = q := by
  refine List.ext_getElem (by rw [hp.1, hq.1]) fun a h1 h2 => ?_
  have e1 : (p[a]).length = n := hp.2 _ (List.getElem_mem _)
  have e2 : (q[a]).length = n := hq.2 _ (List.getElem_mem _)
  refine List.ext_getElem (by rw [e1, e2]) fun b h3 h4 => ?_
  have := h a b (by rw [← hp.1]; exact h1) (by omega)
  unfold cellAt at this
  rw [getD_get h1, getD_get h2, getD_get h3, getD_get h4] at this
  exact this
theorem set_comm {n : Nat} {p : List (List Int)} (hs : sqN n p) {x y a b : Nat} (hx : x < n) (hy : y < n) (ha : a < n) (hb : b < n) (hne : ¬ (a = x ∧ b = y)) (v w : Int) : setC (setC p x y v) a b w = setC (setC p a b w) x y v := by
  refine sq_ext (sqN_set (sqN_set hs _ _ _) _ _ _) (sqN_set (sqN_set hs _ _ _) _ _ _) fun i j _ _ => ?_
  rw [cell_set (sqN_set hs _ _ _) ha hb, cell_set hs hx hy, cell_set (sqN_set hs _ _ _) hx hy, cell_set hs ha hb]
  by_cases h1 : i = a ∧ j = b
  · rw [if_pos h1, if_neg (fun h => hne ⟨h1.1.symm.trans h.1, h1.2.symm.trans h.2⟩), if_pos h1]
  · rw [if_neg h1, if_neg h1]
theorem candP_iff {n : Nat} {p : List (List Int)} (hs : sqN n p) {x y : Nat} (hx : x < n) {v : Nat} : candP p x y v = true ↔ ∀ k, k < n → cellAt p x k ≠ v ∧ cellAt p k y ≠ v := by
  have hxl : x < p.length := by rw [hs.1]; exact hx
  have hrl : (p.getD x []).length = n := hs.2 _ (by rw [getD_get hxl]; exact List.getElem_mem _)
  unfold candP colHas
  rw [Bool.and_eq_true, Bool.not_eq_true', Bool.not_eq_true']
  constructor
  · rintro ⟨h1, h2⟩ k hk
    constructor
    · intro e
      have : (p.getD x []).contains (v : Int) = true := by
        rw [List.contains_iff_mem, ← e]
        unfold cellAt
        rw [getD_get (show k < (p.getD x []).length by omega)]
        exact List.getElem_mem _
      rw [this] at h1; cases h1
    · intro e
      have hkl : k < p.length := by rw [hs.1]; exact hk
      have : (p.any fun r => decide (r.getD y 0 = (v : Int))) = true := by
        rw [List.any_eq_true]
        exact ⟨p[k], List.getElem_mem _, by rw [decide_eq_true_eq, ← e]; unfold cellAt; rw [getD_get hkl]⟩
      rw [this] at h2; cases h2
  · intro h
    constructor
    · rw [← Bool.not_eq_true, List.contains_iff_mem]
      intro hm
      obtain ⟨k, hk, e⟩ := List.getElem_of_mem hm
      refine (h k (by omega)).1 ?_
      unfold cellAt
      rw [getD_get hk]; exact e
    · rw [← Bool.not_eq_true, List.any_eq_true]
      rintro ⟨r, hr, e⟩
      obtain ⟨k, hk, rfl⟩ := List.getElem_of_mem hr
      refine (h k (by rw [← hs.1]; exact hk)).2 ?_
      unfold cellAt
      rw [getD_get hk]; exact of_decide_eq_true e
def relC (x y a b : Nat) : Bool := decide (a = x) || decide (b = y)
theorem candP_set {n : Nat} {p : List (List Int)} (hs : sqN n p) {x y a b : Nat} (hx : x < n) (hy : y < n) (ha : a < n) (hb : b < n) {w : Nat} (he : cellAt p x y = -1) (v : Nat) : candP (setC p x y (w : Int)) a b v = (candP p a b v && !(decide (v = w) && relC x y a b)) := by
  rw [Bool.eq_iff_iff, candP_iff (sqN_set hs _ _ _) ha, Bool.and_eq_true, candP_iff hs ha, Bool.not_eq_true', relC, ← Bool.not_eq_true, Bool.and_eq_true, Bool.or_eq_true, decide_eq_true_eq, decide_eq_true_eq, decide_eq_true_eq]
  constructor
  · intro h
    refine ⟨fun k hk => ⟨fun e => ?_, fun e => ?_⟩, ?_⟩
    · refine (h k hk).1 ?_
      rw [cell_set hs hx hy, if_neg]
      · exact e
      · rintro ⟨rfl, rfl⟩; rw [he] at e; omega
    · refine (h k hk).2 ?_
      rw [cell_set hs hx hy, if_neg]
      · exact e
      · rintro ⟨rfl, rfl⟩; rw [he] at e; omega
    · rintro ⟨rfl, rfl | rfl⟩
      · exact (h y hy).1 (by rw [cell_set hs hx hy, if_pos ⟨rfl, rfl⟩])
      · exact (h x hx).2 (by rw [cell_set hs hx hy, if_pos ⟨rfl, rfl⟩])
  · rintro ⟨h1, h2⟩ k hk
    constructor
    · rw [cell_set hs hx hy]
      split
      · rename_i h3
        intro e
        exact h2 ⟨by omega, .inl h3.1⟩
      · exact (h1 k hk).1
    · rw [cell_set hs hx hy]
      split
      · rename_i h3
        intro e
        exact h2 ⟨by omega, .inr h3.2⟩
      · exact (h1 k hk).2
theorem cands_set {n : Nat} {p : List (List Int)} (hs : sqN n p) {x y a b : Nat} (hx : x < n) (hy : y < n) (ha : a < n) (hb : b < n) {w : Nat} (he : cellAt p x y = -1) (m : Nat) : cands (setC p x y (w : Int)) a b m = (cands p a b m).filter fun v => !(decide (v = (w : Int)) && relC x y a b) := by
  unfold cands
  rw [List.filter_map]
  congr 1
  rw [List.filter_filter]
  refine List.filter_congr fun v _ => ?_
  rw [candP_set hs hx hy ha hb he, Bool.and_comm]
  congr 1
  show _ = !(decide ((v : Int) = (w : Int)) && relC x y a b)
  congr 2
  exact decide_eq_decide.2 (by omega)
def allC (n : Nat) : List Nat → List (List Int) → List (List (List Int))
  | [], p => [p]
  | c :: cs, p => (cands p (c / n) (c % n) n).flatMap fun v => allC n cs (setC p (c / n) (c % n) v)
def celB (n : Nat) (p : List (List Int)) (cs : List Nat) : Prop := sqN n p ∧ cs.Nodup ∧ ∀ c ∈ cs, c < n * n ∧ cellAt p (c / n) (c % n) = -1
theorem cel_ne {n c d : Nat} (h : c ≠ d) : ¬ (c / n = d / n ∧ c % n = d % n) := fun ⟨a, b⟩ => h (by rw [← Nat.div_add_mod c n, ← Nat.div_add_mod d n, a, b])
theorem celB.tail {n d : Nat} {p : List (List Int)} {cs : List Nat} (h : celB n p (d :: cs)) (w : Int) : celB n (setC p (d / n) (d % n) w) cs := by
  obtain ⟨h1, h2, h3⟩ := h
  rw [List.nodup_cons] at h2
  refine ⟨sqN_set h1 _ _ _, h2.2, fun c hc => ⟨(h3 c (by simp [hc])).1, ?_⟩⟩
  have hd := cel_at (h3 d (by simp)).1
  have hcd : c ≠ d := fun e => h2.1 (by rw [← e]; exact hc)
  rw [cell_set h1 hd.1 hd.2, if_neg (cel_ne hcd)]
  exact (h3 c (by simp [hc])).2
theorem celB.fill {n c : Nat} {p : List (List Int)} {cs : List Nat} (h : celB n p cs) (hc : c ∈ cs) (w : Int) : celB n (setC p (c / n) (c % n) w) (cs.erase c) := by
  obtain ⟨h1, h2, h3⟩ := h
  refine ⟨sqN_set h1 _ _ _, h2.erase _, fun d hd => ?_⟩
  have hd2 := (h2.mem_erase_iff).1 hd
  have hcc := cel_at (h3 c hc).1
  refine ⟨(h3 d hd2.2).1, ?_⟩
  rw [cell_set h1 hcc.1 hcc.2, if_neg (cel_ne hd2.1)]
  exact (h3 d hd2.2).2
theorem allC_dead {n c : Nat} : ∀ {cs : List Nat} {p : List (List Int)}, celB n p cs → c ∈ cs → cands p (c / n) (c % n) n = [] → allC n cs p = []
  | [], _, _, h, _ => by cases h
  | d :: cs, p, hb, hc, he => by
    unfold allC
    by_cases hd : c = d
    · subst hd
      rw [he]; rfl
    · rw [List.flatMap_eq_nil_iff]
      intro w hw
      have hcs : c ∈ cs := by rcases List.mem_cons.1 hc with h | h; exact absurd h hd; exact h
      obtain ⟨w, rfl⟩ := Int.eq_ofNat_of_zero_le (cands_mem hw).1
      refine allC_dead (hb.tail _) hcs ?_
      have h1 := cel_at (hb.2.2 d (by simp)).1
      have h2 := cel_at (hb.2.2 c hc).1
      rw [cands_set hb.1 h1.1 h1.2 h2.1 h2.2 (hb.2.2 d (by simp)).2, he]; rfl
theorem flatMap_filter {α β : Type} {f g : α → List β} {P : α → Bool} : ∀ {L : List α}, (∀ w ∈ L, P w = true → f w = g w) → (∀ w ∈ L, P w = false → f w = []) → L.flatMap f = (L.filter P).flatMap g
  | [], _, _ => rfl
  | w :: L, h1, h2 => by
    have ih := flatMap_filter (L := L) (fun v hv => h1 v (by simp [hv])) (fun v hv => h2 v (by simp [hv]))
    rw [List.flatMap_cons, List.filter_cons, ih]
    cases hP : P w with
    | true => rw [if_pos rfl, List.flatMap_cons, h1 w (by simp) hP]
    | false => rw [if_neg (by simp), h2 w (by simp) hP]; rfl
theorem allC_one {n c : Nat} {v : Nat} : ∀ {cs : List Nat} {p : List (List Int)}, celB n p cs → c ∈ cs → cands p (c / n) (c % n) n = [(v : Int)] → allC n cs p = allC n (cs.erase c) (setC p (c / n) (c % n) (v : Int))
  | [], _, _, h, _ => by cases h
  | d :: cs, p, hb, hc, he => by
    by_cases hd : c = d
    · subst hd
      rw [List.erase_cons_head]
      conv => lhs; unfold allC
      rw [he]; simp
    · have hcs : c ∈ cs := by rcases List.mem_cons.1 hc with h | h; exact absurd h hd; exact h
      have hdp := hb.2.2 d (by simp)
      have hcp := hb.2.2 c hc
      have h1 := cel_at hdp.1
      have h2 := cel_at hcp.1
      rw [List.erase_cons_tail (by simpa using fun e => hd e.symm)]
      unfold allC
      rw [cands_set hb.1 h2.1 h2.2 h1.1 h1.2 hcp.2]
      refine flatMap_filter (fun w hw hP => ?_) (fun w hw hP => ?_)
      · obtain ⟨w, rfl⟩ := Int.eq_ofNat_of_zero_le (cands_mem hw).1
        rw [set_comm hb.1 h2.1 h2.2 h1.1 h1.2 (cel_ne (fun e => hd e.symm))]
        refine allC_one (hb.tail _) hcs ?_
        rw [cands_set hb.1 h1.1 h1.2 h2.1 h2.2 hdp.2, he]
        refine List.filter_eq_self.2 fun u hu => ?_
        rw [List.mem_singleton.1 hu]
        rw [show relC (d / n) (d % n) (c / n) (c % n) = relC (c / n) (c % n) (d / n) (d % n) by unfold relC; congr 1 <;> exact decide_eq_decide.2 ⟨Eq.symm, Eq.symm⟩]
        rw [show decide ((v : Int) = (w : Int)) = decide ((w : Int) = (v : Int)) from decide_eq_decide.2 ⟨Eq.symm, Eq.symm⟩]
        exact hP
      · obtain ⟨w, rfl⟩ := Int.eq_ofNat_of_zero_le (cands_mem hw).1
        refine allC_dead (hb.tail _) hcs ?_
        rw [cands_set hb.1 h1.1 h1.2 h2.1 h2.2 hdp.2, he]
        refine List.filter_eq_nil_iff.2 fun u hu => ?_
        rw [List.mem_singleton.1 hu]
        rw [show relC (d / n) (d % n) (c / n) (c % n) = relC (c / n) (c % n) (d / n) (d % n) by unfold relC; congr 1 <;> exact decide_eq_decide.2 ⟨Eq.symm, Eq.symm⟩]
        rw [show decide ((v : Int) = (w : Int)) = decide ((w : Int) = (v : Int)) from decide_eq_decide.2 ⟨Eq.symm, Eq.symm⟩, hP]
        simp
theorem srch_all (n : Nat) : ∀ (cs : List Nat) (p : List (List Int)) (st : CS), st.count = 0 → st.spent = false → st.first = none → (srch n 1 cs p st).spent = true ∨ (srch n 1 cs p st).first = (allC n cs p).head?
  | [], p, st, h0, _, _ => by
    right
    show (if st.count = 0 then some p else st.first) = _
    rw [if_pos h0]; rfl
  | c :: cs, p, st, h0, h1, h2 => by
    have key : ∀ (L : List Int) (st : CS), st.count = 0 → st.spent = false → st.first = none → (L.foldl (stepS 1 (srch n 1 cs) p (c / n) (c % n)) st).spent = true ∨ (L.foldl (stepS 1 (srch n 1 cs) p (c / n) (c % n)) st).first = (L.flatMap fun v => allC n cs (setC p (c / n) (c % n) v)).head? := by
      intro L
      induction L with
      | nil => intro st _ _ h2; exact .inr h2
      | cons v L ih =>
        intro st h0 h1 h2
        rw [List.foldl_cons]
        have hst : stepS 1 (srch n 1 cs) p (c / n) (c % n) st v = if st.left = 0 then { st with spent := true } else srch n 1 cs (setC p (c / n) (c % n) v) { st with left := st.left - 1 } := by
          unfold stepS; rw [if_neg (by rw [h0, h1]; simp)]
        rw [hst]
        by_cases hl : st.left = 0
        · rw [if_pos hl, fold_stop _ (.inr rfl)]; exact .inl rfl
        · rw [if_neg hl]
          have hG : Good 1 { st with left := st.left - 1 } := by
            unfold Good
            refine ⟨by show st.count ≤ 1; omega, ?_, ?_⟩
            · show st.spent = true → st.count < 1
              intro _; omega
            · show st.first.isSome = true ↔ 0 < st.count
              rw [h2, h0]; simp
          have g := good_srch n 1 cs (setC p (c / n) (c % n) v) _ hG (by show st.count < 1; omega) h1
          rcases srch_all n cs (setC p (c / n) (c % n) v) { st with left := st.left - 1 } h0 h1 h2 with h | h
          · rw [fold_stop _ (.inr h)]; exact .inl h
          · generalize srch n 1 cs (setC p (c / n) (c % n) v) { st with left := st.left - 1 } = s at *
            rw [List.flatMap_cons]
            cases hs : s.spent with
            | true => rw [fold_stop _ (.inr hs)]; exact .inl hs
            | false =>
              by_cases hc : s.count = 1
              · have h5 : s.first.isSome := g.2.2.2 (by omega)
                rw [fold_stop _ (.inl hc), h]
                right
                rw [h] at h5
                cases hA : allC n cs (setC p (c / n) (c % n) v) with
                | nil => rw [hA] at h5; cases h5
                | cons q l => rfl
              · have h5 : s.count = 0 := by have := g.1; omega
                have h6 : s.first = none := by
                  cases hf : s.first with
                  | none => rfl
                  | some f => have := g.2.2.1 (by rw [hf]; rfl); omega
                have h7 : allC n cs (setC p (c / n) (c % n) v) = [] := by
                  rw [h6] at h
                  exact List.head?_eq_none_iff.1 h.symm
                rw [h7, List.nil_append]
                exact ih s h5 hs h6
    exact key _ st h0 h1 h2
end Go.Proofs.Ytchehdplcbffmaa
