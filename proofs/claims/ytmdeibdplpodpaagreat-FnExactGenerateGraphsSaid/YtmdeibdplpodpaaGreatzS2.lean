/- Sorting by the library's function, by a comparison that only looks. -/
import Derived.Test.YtmdeibdplpodpaaGreatzS1
import Derived.Test.YtmdeibdplpodpaaGreatzK1
import Derived.Test.YtmdeibdplpodpaaGreatzAvC
import Derived.Test.YtmdeibdplpodpaaGreatzL1
set_option linter.unusedSimpArgs false
set_option linter.unusedVariables false
set_option maxHeartbeats 4000000
set_option maxRecDepth 100000
namespace Go.Sort
end Go.Sort
namespace Go.Av
open Go.RowKit Go.Sort Go.Proofs
theorem Blw.grownS {w w' : World} (h : Blw w.heap.size w w') : ∃ q os', w' = grow (w.drewN q) os' := by
  refine ⟨w'.drawn - w.drawn, w'.heap.extract w.heap.size w'.heap.size, ?_⟩
  obtain ⟨h1, h2, h3, h4, h5, h6⟩ := h
  cases w' with
  | mk heap tape drawn os output =>
  cases w with
  | mk heap0 tape0 drawn0 os0 output0 =>
  simp only at h1 h2 h3 h4 h5 h6
  subst h1; subst h2; subst h3
  have e1 : drawn = drawn0 + (drawn - drawn0) := by omega
  have e2 : heap = heap0 ++ heap.extract heap0.size heap.size := by
    apply Array.ext_getElem?
    intro k
    by_cases hk : k < heap0.size
    · rw [Array.getElem?_append_left hk, h5 k hk]
    · rw [Array.getElem?_append_right (by omega), Array.getElem?_extract]
      by_cases hk2 : k < heap.size
      · rw [if_pos (by omega)]; congr 1; omega
      · rw [if_neg (by omega), Array.getElem?_eq_none (by omega)]
  show (⟨heap, tape, drawn, os, output⟩ : World) = ⟨heap0 ++ heap.extract heap0.size heap.size, tape, drawn0 + (drawn - drawn0), os, output⟩
  rw [← e2, ← e1]
theorem sortF_ok {P : Program} {f g : FuncId} (hs : SortsP P f) (hn : SortsN P f) (hg : callable P g = true) {A : Type} (encA : A → AV) (cf : A → A → Int) (hO : SWO (ltOf cf)) (hcmp : ∀ x y : A, PFn P g [encA x, encA y] (I (cf x y)))
    (H : List Blk) (i ver ty : Nat) (ps : List (AV × A)) (hi : H[i]? = some ⟨ver, ty, 1, ps.map Prod.fst⟩) (h1 : ∀ p ∈ ps, p.1.cell1 = true) (hrd : ∀ cells', ∀ p ∈ ps, Froz (H.set i ⟨ver, ty, 1, cells'⟩) 0 p.1 (encA p.2)) (hl : ps.length < 4611686018427387904) :
    ACalls P f [.nm i ver 0 ps.length, .fn g []] H (fun r H' => r = .tup [] ∧ ∃ qs : List (AV × A), qs.Perm ps ∧ qs.Pairwise (fun a b => ¬ cf b.2 a.2 < 0) ∧ H' = H.set i ⟨ver, ty, 1, qs.map Prod.fst⟩) := by
  refine sort_ok hs hn hg (fun H c a => Froz H 0 c (encA a)) (fun W v a => Rel (F0 W) [] (encA a) v) ?_ cf hO ?_ H i ver ty ps hi h1 hrd hl
  · intro B W0 F m H w c v a hsim hr hf
    have h2 := froz_rel hsim hf hr
    rw [List.take_zero] at h2
    refine h2.mono ?_ (MLe.refl _)
    intro b o u hu
    rcases hu with hu | ⟨⟨i, e, _, he, hb⟩, hc⟩
    · exact hsim.fz b o u hu
    · obtain ⟨k, hk, hok⟩ := hsim.getm he
      exact ⟨hc, hok.one hb hc⟩
  · intro W vx vy x y hx hy
    have h3 := hcmp x y [] W.heap.size W (F0 W) [] W [vx, vy] (.cons hx (.cons hy (.nil _ _))) (Sim.startF W)
    refine Calls.mono h3 ?_
    rintro e w' ⟨F', m', H', r, v, rfl, g1, g2, g3, g4, rfl, rfl⟩
    exact ⟨by rw [g3.lit_inv], g4.below.grownS⟩
end Go.Av
namespace Go.Proofs.YtmdeibdplpodpaaGreat
open Go.Av Go.Sort
theorem OwnC.sort_ok {P : Program} {f g : FuncId} (hs : SortsP P f) (hn : SortsN P f) (hg : callable P g = true) (cf : List Int → List Int → Int) (hO : SWO (ltOf cf)) (hcmp : ∀ x y : List Int, PFn P g [ilS x, ilS y] (I (cf x y)))
    {H : List Blk} {N : Nat → Prop} {t ver ty : Nat} {cells : List AV} {xss : List (List Int)} (h : OwnC H N t ver ty cells xss) (hl : xss.length < 4611686018427387904) :
    ACalls P f [.nm t ver 0 xss.length, .fn g []] H (fun r H' => r = .tup [] ∧ ∃ cells' yss, yss.Perm xss ∧ yss.Pairwise (fun a b => ¬ cf b a < 0) ∧ H' = H.set t ⟨ver, ty, 1, cells'⟩ ∧ OwnC H' N t ver ty cells' yss) := by
  obtain ⟨h1, h2, h3, h4, h5⟩ := id h
  have htl := (List.getElem?_eq_some_iff.1 h2).1
  have hz1 : (cells.zip xss).map Prod.fst = cells := List.map_fst_zip (by omega)
  have hz2 : (cells.zip xss).map Prod.snd = xss := List.map_snd_zip (by omega)
  have hzl : (cells.zip xss).length = xss.length := by simp [h3]
  have hmem : ∀ p ∈ cells.zip xss, OwnS H N t p.1 p.2 := by
    intro p hp
    obtain ⟨j, hj⟩ := List.getElem?_of_mem hp
    rw [List.getElem?_zip_eq_some] at hj
    exact h4 j _ _ hj.1 hj.2
  have hset : ∀ cells' p, p ∈ cells.zip xss → OwnS (H.set t ⟨ver, ty, 1, cells'⟩) N t p.1 p.2 := fun cells' p hp =>
    (hmem p hp).same (fun j b _ hj hb => by rw [List.getElem?_set_ne (Ne.symm hj)]; exact hb)
  have hmain := sortF_ok hs hn hg ilS cf hO hcmp H t ver ty (cells.zip xss) (by rw [hz1]; exact h2) (fun p hp => ?_) (fun cells' p hp => (hset cells' p hp).froz (fun _ _ => Nat.zero_le _)) (by omega)
  · rw [hzl] at hmain
    refine hmain.mono ?_
    rintro r H' ⟨rfl, qs, hq, hsd, rfl⟩
    refine ⟨rfl, qs.map Prod.fst, qs.map Prod.snd, ?_, ?_, rfl, h1, ?_, by simp, ?_, ?_⟩
    · have := hq.map Prod.snd
      rwa [hz2] at this
    · rw [List.pairwise_map]; exact hsd
    · rw [List.getElem?_set_self htl]
    · intro j c xs g1 g2
      rw [List.getElem?_map] at g1 g2
      cases hj : qs[j]? with
      | none => rw [hj] at g1; cases g1
      | some p =>
        rw [hj] at g1 g2
        simp only [Option.map_some, Option.some.injEq] at g1 g2
        subst g1; subst g2
        exact hset _ p (hq.mem_iff.1 (List.mem_of_getElem? hj))
    · have hpw : (cells.zip xss).Pairwise (fun p q => ¬ ∃ r v o l v' o' l', p.1 = .nm r v o l ∧ q.1 = .nm r v' o' l') := by
        rw [List.pairwise_iff_getElem]
        rintro i j hi hj hij ⟨r, v, o, l, v', o', l', e1, e2⟩
        have hi' : i < cells.length := by simp at hi; omega
        have hj' : j < cells.length := by simp at hj; omega
        refine h5 i j r v o l v' o' l' (by omega) ?_ ?_
        · rw [List.getElem?_eq_getElem hi', ← e1]; simp
        · rw [List.getElem?_eq_getElem hj', ← e2]; simp
      have hpq := (hq.pairwise_iff (R := fun p q : AV × List Int => ¬ ∃ r v o l v' o' l', p.1 = .nm r v o l ∧ q.1 = .nm r v' o' l') (fun {x y} hxy ⟨r, v, o, l, v', o', l', e1, e2⟩ => hxy ⟨r, v', o', l', v, o, l, e2, e1⟩)).2 hpw
      rw [List.pairwise_iff_getElem] at hpq
      intro i j r v o l v' o' l' hij g1 g2
      obtain ⟨hi, e1⟩ := List.getElem?_eq_some_iff.1 g1
      obtain ⟨hj, e2⟩ := List.getElem?_eq_some_iff.1 g2
      simp only [List.getElem_map] at e1 e2
      rcases Nat.lt_or_gt_of_ne hij with hlt | hgt
      · exact hpq i j (by simpa using hi) (by simpa using hj) hlt ⟨r, v, o, l, v', o', l', e1, e2⟩
      · exact hpq j i (by simpa using hj) (by simpa using hi) hgt ⟨r, v', o', l', v, o, l, e2, e1⟩
  · rcases hmem p hp with ⟨r, v, ty', hc, _⟩ | ⟨_, hc | hc⟩ <;> rw [hc] <;> rfl
end Go.Proofs.YtmdeibdplpodpaaGreat
