/- The abstract layer, part 17: a call that makes memory of its own reads memory that is only lent to it. -/
import Derived.Test.YtdgcgckehihboaaGreatDoorzL1
set_option linter.unusedSimpArgs false
set_option linter.unusedVariables false
set_option linter.unusedSectionVars false
set_option maxHeartbeats 4000000
set_option maxRecDepth 100000
namespace Go.Av
variable [Go.Av.DoorC]
open Go.RowKit
def sh (n : Nat) : AV → AV
  | .nm i ver off len => .nm (n + i) ver off len
  | .pc i ver off => .pc (n + i) ver off
  | .agg cs => .agg (cs.attach.map fun ⟨c, _⟩ => sh n c)
  | .tup cs => .tup (cs.attach.map fun ⟨c, _⟩ => sh n c)
  | c => c
inductive OV : AV → Prop
  | lit (v : Value) : OV (.lit v)
  | nil : OV (.il 0 [])
  | nm (i ver off len : Nat) : OV (.nm i ver off len)
  | pc (i ver off : Nat) : OV (.pc i ver off)
  | agg (cs : List AV) (h : ∀ c ∈ cs, OV c) : OV (.agg cs)
  | tup (cs : List AV) (h : ∀ c ∈ cs, OV c) : OV (.tup cs)
theorem sh_lit (n : Nat) (v : Value) : sh n (.lit v) = .lit v := by simp [sh]
theorem sh_In (n : Nat) (v : Int) : sh n (I v) = I v := by simp [I, sh]
theorem sh_nil (n : Nat) : sh n nilS = nilS := by simp [nilS, sh]
theorem sh_il (n len : Nat) (cs : List AV) : sh n (.il len cs) = .il len cs := by simp [sh]
theorem sh_nm (n i ver off len : Nat) : sh n (.nm i ver off len) = .nm (n + i) ver off len := by simp [sh]
theorem sh_pc (n i ver off : Nat) : sh n (.pc i ver off) = .pc (n + i) ver off := by simp [sh]
theorem sh_agg (n : Nat) (cs : List AV) : sh n (.agg cs) = .agg (cs.map (sh n)) := by simp [sh]
theorem sh_tup (n : Nat) (cs : List AV) : sh n (.tup cs) = .tup (cs.map (sh n)) := by simp [sh]
theorem sh_rel {F F' : Fz} {m m' : List Ent} {c : AV} {v : Value} (hc : OV c) : Rel F' m' c v → Rel F (m ++ m') (sh m.length c) v := by
  have get : ∀ {i : Nat} {e : Ent}, m'[i]? = some e → (m ++ m')[m.length + i]? = some e := by
    intro i e h
    rw [List.getElem?_append_right (by omega)]; rw [← h]; congr 1; omega
  have pt : ∀ {cs : List AV} {vs : List Value}, (∀ c ∈ cs, ∀ v, Rel F' m' c v → Rel F (m ++ m') (sh m.length c) v) → (∀ (j : Nat) (c : AV) (v : Value), cs[j]? = some c → vs[j]? = some v → Rel F' m' c v) →
      ∀ (j : Nat) (c : AV) (v : Value), (cs.map (sh m.length))[j]? = some c → vs[j]? = some v → Rel F (m ++ m') c v := by
    intro cs vs h1 h2 j c v g1 g2
    rw [List.getElem?_map] at g1
    cases hj : cs[j]? with
    | none => rw [hj] at g1; simp at g1
    | some d =>
      rw [hj] at g1; simp at g1; subst g1
      exact h1 d (List.mem_of_getElem? hj) v (h2 j d v hj g2)
  induction hc generalizing v with
  | lit u => intro h; rw [h.lit_inv, sh_lit]; exact .lit u
  | nil =>
    intro h
    rw [sh_il]
    cases h with
    | il0 => exact .il0
    | il1 ad => exact .il1 ad
    | il len cells b o cap vs h1 h2 h3 h4 h5 =>
      have : vs = [] := List.eq_nil_of_length_eq_zero h3.symm
      subst this
      exact .il 0 [] b o cap [] h1 h2 rfl (fun j v hj => by simp at hj) (fun j c v hj => by simp at hj)
  | nm i ver off len =>
    intro h
    rw [sh_nm]
    cases h with
    | nm _ _ _ _ e a k cap h1 h2 h3 => exact .nm _ ver off len e a k cap (get h1) h2 h3
  | pc i ver off =>
    intro h
    rw [sh_pc]
    cases h with
    | pc _ _ _ e p h1 h2 h3 => exact .pc _ ver off e p (get h1) h2 h3
  | agg cs _ ih =>
    intro h
    cases h with
    | agg _ vs h1 h2 => rw [sh_agg]; exact .agg _ vs (by simpa using h1) (pt (fun c hc v => ih c hc) h2)
  | tup cs _ ih =>
    intro h
    cases h with
    | tup _ vs h1 h2 => rw [sh_tup]; exact .tup _ vs (by simpa using h1) (pt (fun c hc v => ih c hc) h2)
open Classical in
/-- A block of the call's own, told by new names; what holds others' memory is forgotten. -/
noncomputable def shB (n : Nat) (b : Blk) : Blk := { b with cells := if ∀ c ∈ b.cells, OV c then b.cells.map (sh n) else [] }
theorem ACalls.lend {P : Program} {f : FuncId} {args args' : List AV} {H : List Blk} {R : AV → List Blk → Prop} (h : ACalls P f args' [] R) (hf : Frozs H args args') (ho : ∀ r H0, R r H0 → OV r) :
    ACalls P f args H fun r H' => ∃ r0 H0, R r0 H0 ∧ r = sh H.length r0 ∧ H' = H ++ H0.map (shB H.length) := by
  intro B W0 F m w vs hr hs
  have hr2 := hf.rels hs hr
  rw [List.take_zero] at hr2
  have hs2 : Sim w.heap.size w (fun b o v => F b o v ∨ ((∃ i e, 0 ≤ i ∧ m[i]? = some e ∧ e.blk = some b) ∧ w.cell? ⟨b, o, none⟩ = some v)) [] [] w := by
    refine ⟨rfl, Blw.refl _ _, Nat.le_refl _, ?_, fun _ _ _ _ _ h => by simp at h, fun _ _ _ _ _ h => by simp at h, fun _ _ _ h => by simp at h, hs.glob.step hs.below hs.base⟩
    intro b o u hu
    rcases hu with hu | ⟨⟨i, e, _, he, hb⟩, hc⟩
    · exact hs.fz b o u hu
    · obtain ⟨k, hk, hok⟩ := hs.getm he
      exact ⟨hc, hok.one hb hc⟩
  refine (h w.heap.size w _ [] w vs hr2 hs2).mono ?_
  rintro e w' ⟨F', m', H', r, v, rfl, g1, g2, g3, g4, g5⟩
  have hlen : m.length = H.length := hs.len
  have h1 := hs.world g4.below
  refine ⟨F, m ++ m', H ++ H'.map (shB H.length), sh H.length r, v, rfl, FLe.refl _, MLe.append _ _, by rw [← hlen]; exact sh_rel (ho _ _ g5) g3, ?_, r, H', g5, rfl, rfl⟩
  have old : ∀ {i : Nat} {e : Ent} {b : Nat}, m[i]? = some e → e.blk = some b → b < w.heap.size := fun he hb => hs.blk_lt he hb
  have new : ∀ {i : Nat} {e : Ent} {b : Nat}, m'[i]? = some e → e.blk = some b → w.heap.size ≤ b := by
    intro i e b he hb
    obtain ⟨k, hk, hok⟩ := g4.getm he
    exact (hok.2.2.2.2 b hb).1
  have cas : ∀ {i : Nat} {e : Ent}, (m ++ m')[i]? = some e → (i < m.length ∧ m[i]? = some e) ∨ (m.length ≤ i ∧ m'[i - m.length]? = some e) := by
    intro i e he
    rw [List.getElem?_append] at he
    split at he
    · exact .inl ⟨by assumption, he⟩
    · exact .inr ⟨by omega, he⟩
  refine ⟨by simp [hlen, g4.len], h1.below, h1.base, h1.fz, ?_, ?_, ?_, h1.glob⟩
  · intro i e b o u he hb hu
    rcases cas he with ⟨_, he⟩ | ⟨_, he⟩
    · exact hs.apart i e b o u he hb hu
    · have := new he hb
      have := hs.fz_lt hu
      omega
  · intro i j e e' b he he' hb hb'
    rcases cas he with ⟨hi, he⟩ | ⟨hi, he⟩ <;> rcases cas he' with ⟨hj, he'⟩ | ⟨hj, he'⟩
    · exact hs.dist i j e e' b he he' hb hb'
    · have := old he hb; have := new he' hb'; omega
    · have := new he hb; have := old he' hb'; omega
    · have := g4.dist _ _ e e' b he he' hb hb'; omega
  · intro i e k he hk
    rcases cas he with ⟨hi, he⟩ | ⟨hi, he⟩
    · rw [List.getElem?_append_left (by omega)] at hk
      exact (h1.blk i e k he hk).mono (FLe.refl _) (MLe.append _ _) (fun _ _ => rfl)
    · rw [List.getElem?_append_right (by omega), List.getElem?_map, ← hlen] at hk
      cases hk0 : H'[i - m.length]? with
      | none => rw [hk0] at hk; simp at hk
      | some k0 =>
        rw [hk0] at hk; simp at hk; subst hk
        obtain ⟨q1, q2, q3, q4, q5⟩ := g4.blk _ e k0 he hk0
        refine ⟨q1, q2, q3, fun hn => ?_, fun b hb => ?_⟩
        · have := q4 hn
          refine ⟨?_, this.2⟩
          simp only [shB, this.1]
          split <;> rfl
        · obtain ⟨p1, ⟨p0, arr, p2, p3, p4, p5, p6⟩ | ⟨p0, es, clock, p2, p3⟩⟩ := q5 b hb
          rotate_left
          · refine ⟨Nat.le_trans hs.base p1, .inr ⟨p0, es, clock, p2, ?_⟩⟩
            simp only [shB]
            rw [if_pos (fun c hc => by rw [p3] at hc; obtain ⟨v, rfl⟩ := entCells_lit hc; exact .lit v), p3]
            refine (List.map_congr_left (fun c hc => ?_)).trans (List.map_id _)
            obtain ⟨v, rfl⟩ := entCells_lit hc
            exact sh_lit _ _
          refine ⟨Nat.le_trans hs.base p1, .inl ⟨p0, arr, p2, p3, ?_, ?_, p6⟩⟩
          · simp only [shB]
            split
            · simpa using p4
            · simp
          · intro j c v hc hv
            simp only [shB] at hc
            split at hc
            · rename_i hov
              rw [List.getElem?_map] at hc
              cases hj : k0.cells[j]? with
              | none => rw [hj] at hc; simp at hc
              | some d =>
                rw [hj] at hc; simp at hc; subst hc
                exact sh_rel (hov d (List.mem_of_getElem? hj)) (p5 j d v hj hv)
            · simp at hc
theorem OV.I (n : Int) : OV (I n) := .lit _
theorem OV.B (n : Bool) : OV (Bv n) := .lit _
theorem OV.tup2 {a b : AV} (h1 : OV a) (h2 : OV b) : OV (.tup [a, b]) := .tup _ (by
  intro c hc
  rcases List.mem_cons.1 hc with rfl | hc
  · exact h1
  · rw [List.mem_singleton.1 hc]; exact h2)
end Go.Av
namespace Go.Proofs.YtdgcgckehihboaaGreatDoor
variable [Go.Av.DoorC]
open Go.Av
theorem shB_cells {n : Nat} {b : Blk} (h : ∀ c ∈ b.cells, OV c) : shB n b = { b with cells := b.cells.map (sh n) } := by
  simp only [shB]; rw [if_pos h]
theorem sh_I (n : Nat) (xs : List Int) : (xs.map I).map (sh n) = xs.map I := by
  rw [List.map_map]; exact List.map_congr_left fun x _ => sh_In n x
theorem ov_I (xs : List Int) : ∀ c ∈ xs.map I, OV c := by
  intro c h; obtain ⟨x, _, rfl⟩ := List.mem_map.1 h; exact .lit _
theorem OwnS.ov {H : List Blk} {N : Nat → Prop} {t : Nat} {c : AV} {xs : List Int} (h : OwnS H N t c xs) : OV c := by
  rcases h with ⟨r, ver, ty, rfl, _⟩ | ⟨_, rfl | rfl⟩
  · exact .nm _ _ _ _
  · exact .lit _
  · exact .nil
theorem OwnSS.ov {H : List Blk} {N : Nat → Prop} {c : AV} {xs : List (List Int)} (h : OwnSS H N c xs) : OV c := by
  rcases h with ⟨r, ver, ty, cells, rfl, _⟩ | ⟨_, rfl | rfl⟩
  · exact .nm _ _ _ _
  · exact .lit _
  · exact .nil
theorem OwnS.sh {H H0 : List Blk} {N N' : Nat → Prop} {t : Nat} {c : AV} {xs : List Int} (h : OwnS H0 N t c xs) (hN : ∀ i, N i → N' (H.length + i)) : OwnS (H ++ H0.map (shB H.length)) N' (H.length + t) (sh H.length c) xs := by
  rcases h with ⟨r, ver, ty, rfl, h1, h2, h3⟩ | ⟨rfl, rfl | rfl⟩
  · refine .inl ⟨H.length + r, ver, ty, sh_nm _ _ _ _ _, hN _ h1, by omega, ?_⟩
    rw [hget, List.getElem?_map, h3]
    simp only [Option.map_some]
    rw [shB_cells (ov_I xs), sh_I]
  · exact .inr ⟨rfl, .inl (sh_nil _)⟩
  · exact .inr ⟨rfl, .inr (sh_il _ _ _)⟩
theorem OwnC.sh {H H0 : List Blk} {N N' : Nat → Prop} {t ver ty : Nat} {cells : List AV} {xss : List (List Int)} (h : OwnC H0 N t ver ty cells xss) (hN : ∀ i, N i → N' (H.length + i)) : OwnC (H ++ H0.map (shB H.length)) N' (H.length + t) ver ty (cells.map (Go.Av.sh H.length)) xss := by
  obtain ⟨h1, h2, h3, h4, h5⟩ := h
  have hov : ∀ c ∈ cells, OV c := by
    intro c hc
    obtain ⟨j, hj⟩ := List.getElem?_of_mem hc
    have hlt := (List.getElem?_eq_some_iff.1 hj).1
    exact (h4 j c _ hj (List.getElem?_eq_getElem (by omega))).ov
  refine ⟨hN _ h1, ?_, by simpa using h3, ?_, ?_⟩
  · rw [hget, List.getElem?_map, h2]
    simp only [Option.map_some]
    rw [shB_cells hov]
  · intro j c xs g1 g2
    rw [List.getElem?_map] at g1
    cases hj : cells[j]? with
    | none => rw [hj] at g1; simp at g1
    | some d =>
      rw [hj] at g1; simp at g1; subst g1
      exact (h4 j d xs hj g2).sh hN
  · have inv : ∀ {i r v o l : Nat}, (cells.map (Go.Av.sh H.length))[i]? = some (.nm r v o l) → ∃ r0, r = H.length + r0 ∧ cells[i]? = some (.nm r0 v o l) := by
      intro i r v o l g
      rw [List.getElem?_map] at g
      cases hi : cells[i]? with
      | none => rw [hi] at g; simp at g
      | some d =>
        rw [hi] at g
        simp only [Option.map_some, Option.some.injEq] at g
        cases hov d (List.mem_of_getElem? hi) with
        | nm i0 ver off len => simp only [sh_nm, AV.nm.injEq] at g; exact ⟨i0, g.1.symm, by rw [g.2.1, g.2.2.1, g.2.2.2]⟩
        | lit v => simp [sh_lit] at g
        | nil => simp [sh_il] at g
        | pc => simp [sh_pc] at g
        | agg => simp [sh_agg] at g
        | tup => simp [sh_tup] at g
    intro i j r v o l v' o' l' hij g1 g2
    obtain ⟨r0, e1, g1⟩ := inv g1
    obtain ⟨r1, e2, g2⟩ := inv g2
    have : r0 = r1 := by omega
    subst this
    exact h5 i j r0 v o l v' o' l' hij g1 g2
theorem OwnSS.sh {H H0 : List Blk} {N N' : Nat → Prop} {c : AV} {xss : List (List Int)} (h : OwnSS H0 N c xss) (hN : ∀ i, N i → N' (H.length + i)) : OwnSS (H ++ H0.map (shB H.length)) N' (Go.Av.sh H.length c) xss := by
  rcases h with ⟨t, ver, ty, cells, rfl, h⟩ | ⟨rfl, rfl | rfl⟩
  · exact .inl ⟨_, ver, ty, _, sh_nm _ _ _ _ _, h.sh hN⟩
  · exact .inr ⟨rfl, .inl (sh_nil _)⟩
  · exact .inr ⟨rfl, .inr (sh_il _ _ _)⟩
def FS (P : Program) (f : FuncId) (args : List AV) (xs : List Int) (code : Int) : Prop :=
  ∀ H, ACalls P f args H fun r H' => ∃ ext v t, H' = H ++ ext ∧ r = .tup [v, I code] ∧ OwnS H' (Btw H.length H'.length) t v xs ∧ t = H'.length
theorem FS.lend {P : Program} {f : FuncId} {args args' : List AV} {xs : List Int} {code : Int} (h : FS P f args' xs code) {H : List Blk} (hf : Frozs H args args') : ACalls P f args H fun r H' => ∃ ext v t, H' = H ++ ext ∧ r = .tup [v, I code] ∧ OwnS H' (Btw H.length H'.length) t v xs ∧ t = H'.length := by
  refine ((h []).lend hf ?_).mono ?_
  · rintro r H0 ⟨ext, v, t, rfl, rfl, ho, _⟩
    refine .tup _ ?_
    intro c hc
    simp at hc
    rcases hc with rfl | rfl
    · exact ho.ov
    · exact .lit _
  · rintro r H' ⟨r0, H0, ⟨ext, v, t, rfl, rfl, ho, ht⟩, rfl, rfl⟩
    refine ⟨H0.map (shB H.length), sh H.length v, H.length + t, rfl, by rw [sh_tup]; simp [sh_In], ho.sh (fun i hi => ?_), by simp [ht]⟩
    unfold Btw at hi ⊢
    simp at hi ⊢; omega
end Go.Proofs.YtdgcgckehihboaaGreatDoor
