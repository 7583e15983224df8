/- Systems compared; lists of systems sorted by the library. -/
import Derived.Test.YtmdeibdplpodpaaGreatzK63
import Derived.Test.YtmdeibdplpodpaaGreatzY0
import Derived.Test.YtmdeibdplpodpaaGreatzS5
set_option linter.unusedSimpArgs false
set_option linter.unusedVariables false
set_option maxHeartbeats 4000000
set_option maxRecDepth 100000
namespace Go.Proofs.YtmdeibdplpodpaaGreat
open Go.Shelf Go.RowKit Go.Lib Go.Sort Go.Av
abbrev n_SortLLL : Nat := 82
theorem sortLLL_p : SortsP Tryz.prog n_SortLLL := fun enc h1 cf hO g cb blk off cap d w eg hcmp hH hblk hsz => Any.slices_SortFunc Tryz.sortLLL enc h1 cf hO g cb blk off cap d w eg hcmp hH hblk hsz
theorem sortLLL_n : SortsN Tryz.prog n_SortLLL := fun p cap fv w => AnyF.slices_SortFunc_none { Tryz.sortLLL with } p cap fv w
theorem compareSystems_call : callable Tryz.prog f_impl_compareSystems = true := by kernel_rfl
theorem OwnXC.sort_ok {P : Program} {f g : FuncId} (hs : SortsP P f) (hn : SortsN P f) (hg : callable P g = true) (cf : List (List Int) → List (List Int) → Int) (hO : TotC cf) (hcmp : ∀ x y : List (List Int), PFn P g [ilSS x, ilSS y] (I (cf x y)))
    {H : List Blk} {N : Nat → Prop} {M : Nat → Nat → Prop} {t ver ty : Nat} {cells : List AV} {x3 : List (List (List Int))} (h : OwnXC H N M t ver ty cells x3) (hl : x3.length < 4611686018427387904) :
    ACalls P f [.nm t ver 0 x3.length, .fn g []] H (fun r H' => r = .tup [] ∧ ∃ cells' y3 M', y3.Perm x3 ∧ y3.Pairwise (fun a b => ¬ cf b a < 0) ∧ H' = H.set t ⟨ver, ty, 1, cells'⟩ ∧ OwnXC H' N M' t ver ty cells' y3) := by
  obtain ⟨h1, h2, h3, h4, h5, h6⟩ := id h
  have htl := (List.getElem?_eq_some_iff.1 h2).1
  have hL : (x3.zip (List.range x3.length)).length = x3.length := by simp
  have hz1 : (cells.zip (x3.zip (List.range x3.length))).map Prod.fst = cells := List.map_fst_zip (by omega)
  have hz2 : (cells.zip (x3.zip (List.range x3.length))).map Prod.snd = x3.zip (List.range x3.length) := List.map_snd_zip (by omega)
  have hzl : (cells.zip (x3.zip (List.range x3.length))).length = x3.length := by simp [h3]
  have hmem : ∀ p ∈ cells.zip (x3.zip (List.range x3.length)), OwnSS H (M p.2.2) p.1 p.2.1 := by
    intro p hp
    obtain ⟨j, hj⟩ := List.getElem?_of_mem hp
    rw [List.getElem?_zip_eq_some, List.getElem?_zip_eq_some] at hj
    obtain ⟨g1, g2, g3⟩ := hj
    have hjl := (List.getElem?_eq_some_iff.1 g2).1
    rw [List.getElem?_range hjl] at g3
    simp only [Option.some.injEq] at g3
    rw [← g3]
    exact h4 j _ _ g1 g2
  have hset : ∀ cells' p, p ∈ cells.zip (x3.zip (List.range x3.length)) → OwnSS (H.set t ⟨ver, ty, 1, cells'⟩) (M p.2.2) p.1 p.2.1 := fun cells' p hp =>
    (hmem p hp).same (fun j b hj hb => by rw [List.getElem?_set_ne (Ne.symm (h5 _ _ hj).2)]; exact hb)
  have hmain := sortF_ok hs hn hg (fun a : List (List Int) × Nat => ilSS a.1) (fun a b => cf a.1 b.1) ?_ (fun x y => hcmp x.1 y.1) H t ver ty (cells.zip (x3.zip (List.range x3.length))) (by rw [hz1]; exact h2) (fun p hp => (hmem p hp).oneU.1) (fun cells' p hp => (hset cells' p hp).froz (fun _ _ => Nat.zero_le _)) (by omega)
  · rw [hzl] at hmain
    refine hmain.mono ?_
    rintro r H' ⟨rfl, qs, hq, hsd, rfl⟩
    have hpx : (qs.map fun p => p.2.1).Perm x3 := by
      have e := hq.map (fun p => p.2.1)
      have e2 : (cells.zip (x3.zip (List.range x3.length))).map (fun p => p.2.1) = x3 := by
        have : (fun p : AV × List (List Int) × Nat => p.2.1) = Prod.fst ∘ Prod.snd := rfl
        rw [this, ← List.map_map, hz2]
        exact List.map_fst_zip (by simp)
      rwa [e2] at e
    have hnd : (qs.map fun p => p.2.2).Nodup := by
      have e := hq.map (fun p => p.2.2)
      have e2 : (cells.zip (x3.zip (List.range x3.length))).map (fun p => p.2.2) = List.range x3.length := by
        have : (fun p : AV × List (List Int) × Nat => p.2.2) = Prod.snd ∘ Prod.snd := rfl
        rw [this, ← List.map_map, hz2]
        exact List.map_snd_zip (by simp)
      rw [e2] at e
      exact e.symm.nodup List.nodup_range
    refine ⟨rfl, qs.map Prod.fst, qs.map (fun p => p.2.1), fun j r => ∃ p, qs[j]? = some p ∧ M p.2.2 r, hpx, ?_, rfl, h1, ?_, by simp, ?_, ?_, ?_⟩
    · rw [List.pairwise_map]; exact hsd
    · rw [List.getElem?_set_self htl]
    · intro j c xs g1 g2
      rw [List.getElem?_map] at g1 g2
      cases hj : qs[j]? with
      | none => rw [hj] at g1; cases g1
      | some p =>
        rw [hj] at g1 g2
        simp only [Option.map_some, Option.some.injEq] at g1 g2
        subst g1; subst g2
        exact (hset _ p (hq.mem_iff.1 (List.mem_of_getElem? hj))).weak (fun r q _ => ⟨p, hj, q⟩)
    · rintro j r ⟨p, _, q⟩
      exact h5 _ r q
    · rintro i j r ⟨p, hp, q⟩ ⟨p', hp', q'⟩
      have e := h6 _ _ r q q'
      obtain ⟨a1, a2⟩ := List.getElem?_eq_some_iff.1 hp
      obtain ⟨b1, b2⟩ := List.getElem?_eq_some_iff.1 hp'
      have := (List.getElem_inj (xs := qs.map fun p => p.2.2) (i := i) (j := j) (h₀ := by simpa using a1) (h₁ := by simpa using b1) hnd).1 (by simp [a2, b2, e])
      exact this
  · have hT : SWO (ltOf cf) := hO.swo
    exact ⟨fun a => hT.1 a.1, fun a b c => hT.2 a.1 b.1 c.1, fun a b c => hT.3 a.1 b.1 c.1⟩
end Go.Proofs.YtmdeibdplpodpaaGreat
