/- Tools: what a call has made is told anew: names kept in an order of one's own, with fresh versions; all else told by its content. -/
import Derived.Test.YtdgcgckehihboaaGreatDoorzL1
set_option linter.unusedSimpArgs false
set_option linter.unusedVariables false
set_option linter.unusedSectionVars false
set_option maxHeartbeats 4000000
set_option maxRecDepth 100000
namespace Go.Av
variable [Go.Av.DoorC]
open Go.RowKit
inductive Ren (H : List Blk) (k : Nat) (js : List (Option Nat)) : AV → AV → Prop
  | old (c : AV) (h : Bel k c) : Ren H k js c c
  | junk (c : AV) : Ren H k js c .junk
  | nm (p j ver off len : Nat) (kb : Blk) (hp : js[p]? = some (some j)) (hk : H[j]? = some kb) (hv : kb.ver = ver) : Ren H k js (.nm j ver off len) (.nm (k + p) 0 off len)
  | pc (p j ver off : Nat) (kb : Blk) (hp : js[p]? = some (some j)) (hk : H[j]? = some kb) (hv : kb.ver = ver) : Ren H k js (.pc j ver off) (.pc (k + p) 0 off)
  | nil (p : Nat) (hp : js[p]? = some none) : Ren H k js nilS (.nm (k + p) 0 0 0)
  | nilF : Ren H k js nilS (.il 0 [])
  | fz (i ver off len : Nat) (kb : Blk) (cs : List AV) (hi : k ≤ i) (hj : some i ∉ js) (hk : H[i]? = some kb) (hv : kb.ver = ver) (hl : cs.length = ((kb.cells.drop off).take (len * kb.sz)).length)
      (h : ∀ (j : Nat) (c c' : AV), ((kb.cells.drop off).take (len * kb.sz))[j]? = some c → cs[j]? = some c' → Ren H k js c c') : Ren H k js (.nm i ver off len) (.il len cs)
  | agg (cs cs' : List AV) (hl : cs'.length = cs.length) (h : ∀ (j : Nat) (c c' : AV), cs[j]? = some c → cs'[j]? = some c' → Ren H k js c c') : Ren H k js (.agg cs) (.agg cs')
  | tup (cs cs' : List AV) (hl : cs'.length = cs.length) (h : ∀ (j : Nat) (c c' : AV), cs[j]? = some c → cs'[j]? = some c' → Ren H k js c c') : Ren H k js (.tup cs) (.tup cs')
def renE (m : List Ent) (o : Option Nat) (b : Blk) : Ent :=
  match o with
  | some j => match m[j]? with
    | some e => ⟨e.blk, e.size, b.ty, b.sz, 0⟩
    | none => ⟨none, 0, b.ty, b.sz, 0⟩
  | none => ⟨none, 0, b.ty, b.sz, 0⟩
def renM (m : List Ent) (k : Nat) (js : List (Option Nat)) (H2 : List Blk) : List Ent := m.take k ++ (js.zip H2).map fun p => renE m p.1 p.2
def renF (F : Fz) (m : List Ent) (w : World) (k : Nat) (js : List (Option Nat)) : Fz :=
  fun b o v => F b o v ∨ ((∃ i e, k ≤ i ∧ some i ∉ js ∧ m[i]? = some e ∧ e.blk = some b) ∧ w.cell? ⟨b, o, none⟩ = some v)
structure RenOk (H : List Blk) (k : Nat) (js : List (Option Nat)) (H2 : List Blk) : Prop where
  len : js.length = H2.length
  inj : ∀ (p q j : Nat), js[p]? = some (some j) → js[q]? = some (some j) → p = q
  keep : ∀ (p j : Nat) (nb : Blk), js[p]? = some (some j) → H2[p]? = some nb → ∃ kb, k ≤ j ∧ H[j]? = some kb ∧ kb.sz ≠ 0 ∧ nb.ver = 0 ∧ nb.ty = kb.ty ∧ nb.sz = kb.sz ∧ nb.cells.length ≤ kb.cells.length ∧ ∀ (i : Nat) (c' : AV), nb.cells[i]? = some c' → ∃ c, kb.cells[i]? = some c ∧ Ren H k js c c'
  gone : ∀ (p : Nat) (nb : Blk), js[p]? = some none → H2[p]? = some nb → nb.ver = 0 ∧ nb.cells = []
section
variable {B : Nat} {W0 : World} {F : Fz} {m : List Ent} {H : List Blk} {w : World}
theorem renM_get {k : Nat} {js : List (Option Nat)} {H2 : List Blk} (hk : k ≤ m.length) (hl : js.length = H2.length) {p : Nat} {o : Option Nat} (hp : js[p]? = some o) : ∃ b, H2[p]? = some b ∧ (renM m k js H2)[k + p]? = some (renE m o b) := by
  have h1 : p < js.length := (List.getElem?_eq_some_iff.1 hp).1
  have h2 : p < H2.length := by omega
  refine ⟨H2[p], List.getElem?_eq_getElem h2, ?_⟩
  unfold renM
  rw [List.getElem?_append_right (by simp; omega), List.length_take, Nat.min_eq_left hk, show k + p - k = p by omega, List.getElem?_map, show (js.zip H2)[p]? = some (o, H2[p]) from List.getElem?_zip_eq_some.2 ⟨hp, List.getElem?_eq_getElem h2⟩]
  rfl
theorem ren_rel (hs : Sim B W0 F m H w) {k : Nat} {js : List (Option Nat)} {H2 : List Blk} (hk0 : k ≤ m.length) (ho : RenOk H k js H2) {c c' : AV} (hf : Ren H k js c c') : ∀ {v : Value}, Rel F m c v → Rel (renF F m w k js) (renM m k js H2) c' v := by
  have hF : FLe F (renF F m w k js) := fun b o v h => .inl h
  have pt : ∀ {cs cs' : List AV} {vs : List Value}, cs'.length = cs.length → cs.length = vs.length → (∀ (j : Nat) (c : AV) (v : Value), cs[j]? = some c → vs[j]? = some v → Rel F m c v) →
      (∀ (j : Nat) (c c' : AV), cs[j]? = some c → cs'[j]? = some c' → ∀ {v : Value}, Rel F m c v → Rel (renF F m w k js) (renM m k js H2) c' v) →
      ∀ (j : Nat) (c' : AV) (v : Value), cs'[j]? = some c' → vs[j]? = some v → Rel (renF F m w k js) (renM m k js H2) c' v := by
    intro cs cs' vs h1 h2 h3 h4 j c' v g1 g2
    have hj : j < cs.length := by rw [← h1]; exact (List.getElem?_eq_some_iff.1 g1).1
    exact h4 j _ c' (List.getElem?_eq_getElem hj) g1 (h3 j _ v (List.getElem?_eq_getElem hj) g2)
  induction hf with
  | old c h => intro v hr; exact (hr.take h).mono hF (MLe.append _ _)
  | junk c => intro v _; exact .junk v
  | nm p j ver off len kb hp hk hv =>
    intro v hr
    cases hr with
    | nm _ _ _ _ e a n cap h1 h2 h3 =>
      have hok := hs.blk j e kb h1 hk
      obtain ⟨nb, g1, g2⟩ := renM_get hk0 ho.len hp
      obtain ⟨kb', _, f2, fz, f3, f4, f5, _⟩ := ho.keep p j nb hp g1
      rw [hk] at f2; cases f2
      refine .nm (k + p) 0 off len _ a n cap g2 (Nat.zero_le _) (fun _ => ?_)
      obtain ⟨cap', q1, q2, q3⟩ := h3 (by rw [hok.1, hv])
      refine ⟨cap', q1, q2, ?_⟩
      simp only [renE, h1]
      rcases q3 with ⟨b, hb, hval, hsz⟩ | q3
      · refine .inl ⟨b, hb, hval, ?_⟩
        show off + cap' * nb.sz = e.size ∧ nb.sz ≠ 0
        rw [f5, ← hok.2.2.1]; exact hsz
      · exact .inr q3
  | pc p j ver off kb hp hk hv =>
    intro v hr
    cases hr with
    | pc _ _ _ e q h1 h2 h3 =>
      have hok := hs.blk j e kb h1 hk
      obtain ⟨nb, g1, g2⟩ := renM_get hk0 ho.len hp
      obtain ⟨kb', _, f2, fz, f3, f4, f5, _⟩ := ho.keep p j nb hp g1
      rw [hk] at f2; cases f2
      refine .pc (k + p) 0 off _ q g2 (Nat.zero_le _) (fun _ => ?_)
      obtain ⟨b, q1, q2, qz⟩ := h3 (by rw [hok.1, hv])
      exact ⟨b, by simp only [renE, h1]; exact q1, q2, by simp only [renE, h1]; rw [f5]; exact fz⟩
  | nil p hp =>
    intro v hr
    have := hr.lit_inv; subst this
    obtain ⟨nb, g1, g2⟩ := renM_get hk0 ho.len hp
    exact .nm (k + p) 0 0 0 _ none 0 0 g2 (Nat.zero_le _) (fun _ => ⟨0, Nat.le_refl _, Nat.zero_le _, .inr ⟨rfl, ⟨_, rfl⟩, rfl, rfl⟩⟩)
  | nilF => intro v hr; have := hr.lit_inv; subst this; exact .il0
  | fz i ver off len kb cs hi hj hk hv hl _ ih =>
    intro v hr
    cases hr with
    | nm _ _ _ _ e a n cap h1 h2 h3 =>
      have hok := hs.blk i e kb h1 hk
      obtain ⟨cap', g1, g2, g3⟩ := h3 (by rw [hok.1, hv])
      rcases g3 with ⟨b, hb, hval, hsz, hnz⟩ | ⟨hb, hval, hl0, ho0⟩
      · rw [hval]
        obtain ⟨vs, r1, r2⟩ := hs.row hok hnz hb off ((kb.cells.drop off).take (len * kb.sz)) (fun q c hq => by
          rw [List.getElem?_take] at hq
          split at hq
          · rw [List.getElem?_drop] at hq; exact hq
          · simp at hq)
        refine .il len cs b off cap' vs g1 g2 (by rw [hl]; exact r1.1) (fun q u hq => .inr ⟨⟨i, e, hi, hj, h1, hb⟩, (r2 q u hq).1⟩) ?_
        exact pt hl r1.1 r1.2 (fun j c c' x y => ih j c c' x y)
      · obtain ⟨qq, hval⟩ := hval
        rw [hval]
        subst hl0
        have : cs = [] := by apply List.eq_nil_of_length_eq_zero; rw [hl]; simp
        subst this
        cases qq with
        | none => exact .il0
        | some ad => exact .il1 ad
  | agg cs cs' hl _ ih =>
    intro v hr
    cases hr with
    | agg _ vs h1 h2 => exact .agg cs' vs (by rw [hl, h1]) (pt hl h1 h2 (fun j c c' x y => ih j c c' x y))
  | tup cs cs' hl _ ih =>
    intro v hr
    cases hr with
    | tup _ vs h1 h2 => exact .tup cs' vs (by rw [hl, h1]) (pt hl h1 h2 (fun j c c' x y => ih j c c' x y))
theorem ren_sim (hs : Sim B W0 F m H w) {k : Nat} {js : List (Option Nat)} {H2 : List Blk} (hk0 : k ≤ H.length) (ho : RenOk H k js H2) (hB : ∀ b ∈ H.take k, ∀ c ∈ b.cells, Bel k c) : Sim B W0 (renF F m w k js) (renM m k js H2) (H.take k ++ H2) w := by
  have hkm : k ≤ m.length := by rw [hs.len]; exact hk0
  have hF : FLe F (renF F m w k js) := fun b o v h => .inl h
  have h2 := hs.take hB
  have tl : (m.take k).length = k := by simp; omega
  have zl : ((js.zip H2).map fun p => renE m p.1 p.2).length = H2.length := by simp [ho.len]
  -- an entry of the new list
  have ent : ∀ {i : Nat} {e : Ent} {b : Nat}, (renM m k js H2)[i]? = some e → e.blk = some b →
      (i < k ∧ m[i]? = some e) ∨ (∃ p j e0 nb, i = k + p ∧ js[p]? = some (some j) ∧ k ≤ j ∧ m[j]? = some e0 ∧ e0.blk = some b ∧ H2[p]? = some nb ∧ e = ⟨e0.blk, e0.size, nb.ty, nb.sz, 0⟩) := by
    intro i e b he hb
    unfold renM at he
    by_cases hi : i < k
    · rw [List.getElem?_append_left (by rw [tl]; exact hi), List.getElem?_take_of_lt hi] at he
      exact .inl ⟨hi, he⟩
    · right
      rw [List.getElem?_append_right (by rw [tl]; omega), tl, List.getElem?_map] at he
      rcases hz : (js.zip H2)[i - k]? with _ | ⟨o, nb⟩
      · rw [hz] at he; cases he
      · rw [hz] at he
        obtain ⟨z1, z2⟩ := List.getElem?_zip_eq_some.1 hz
        simp only [Option.map_some, Option.some.injEq] at he
        subst he
        cases o with
        | none => simp [renE] at hb
        | some j =>
          obtain ⟨kb, q1, q2, _⟩ := ho.keep _ j nb z1 z2
          have hjl : j < m.length := by rw [hs.len]; exact (List.getElem?_eq_some_iff.1 q2).1
          have hj := List.getElem?_eq_getElem hjl
          refine ⟨i - k, j, m[j], nb, by omega, z1, q1, hj, ?_, z2, ?_⟩
          · simp only [renE, hj] at hb; exact hb
          · simp only [renE, hj]
  refine ⟨?_, h2.below, h2.base, ?_, ?_, ?_, ?_, h2.glob⟩
  · unfold renM
    rw [List.length_append, List.length_append, zl, tl, List.length_take, Nat.min_eq_left hk0]
  · intro b o u hu
    rcases hu with hu | ⟨⟨i, e, hi, _, he, hb⟩, hc⟩
    · exact hs.fz b o u hu
    · obtain ⟨kb, hkb, hok⟩ := hs.getm he
      exact ⟨hc, hok.one hb hc⟩
  · intro i e b o u he hb hu
    rcases ent he hb with ⟨hi, he'⟩ | ⟨p, j, e0, nb, hi, hp, hj, he', hb', hn, rfl⟩
    · rcases hu with hu | ⟨⟨j, e', hj, _, hje, hjb⟩, _⟩
      · exact hs.apart i e b o u he' hb hu
      · have := hs.dist i j e e' b he' hje hb hjb; omega
    · rcases hu with hu | ⟨⟨j', e', hj', hnj, hje, hjb⟩, _⟩
      · exact hs.apart j e0 b o u he' hb' hu
      · have := hs.dist j j' e0 e' b he' hje hb' hjb
        subst this
        exact hnj (List.mem_of_getElem? hp)
  · intro i i' e e' b he he' hb hb'
    rcases ent he hb with ⟨hi, g⟩ | ⟨p, j, e0, nb, hi, hp, hj, g, gb, hn, rfl⟩ <;> rcases ent he' hb' with ⟨hi', g'⟩ | ⟨p', j', e0', nb', hi', hp', hj', g', gb', hn', rfl⟩
    · exact hs.dist i i' e e' b g g' hb hb'
    · have := hs.dist i j' e e0' b g g' hb gb'; omega
    · have := hs.dist j i' e0 e' b g g' gb hb'; omega
    · have := hs.dist j j' e0 e0' b g g' gb gb'
      subst this
      have := ho.inj p p' j hp hp'
      omega
  · intro i e kb he hkb
    by_cases hi : i < k
    · rw [List.getElem?_append_left (by simp; omega)] at hkb
      unfold renM at he
      rw [List.getElem?_append_left (by rw [tl]; exact hi)] at he
      exact (h2.blk i e kb he hkb).mono hF (MLe.append _ _) (fun _ _ => rfl)
    · rw [List.getElem?_append_right (by simp; omega), List.length_take, Nat.min_eq_left hk0] at hkb
      unfold renM at he
      rw [List.getElem?_append_right (by rw [tl]; omega), tl, List.getElem?_map] at he
      rcases hz : (js.zip H2)[i - k]? with _ | ⟨o, nb⟩
      · rw [hz] at he; cases he
      · rw [hz] at he
        obtain ⟨z1, z2⟩ := List.getElem?_zip_eq_some.1 hz
        simp only [Option.map_some, Option.some.injEq] at he
        have hkb' : nb = kb := by rw [z2] at hkb; exact Option.some.inj hkb
        subst hkb'
        cases o with
        | none =>
          obtain ⟨n1, n2⟩ := ho.gone _ nb z1 z2
          subst he
          exact ⟨n1.symm, rfl, rfl, fun _ => ⟨n2, rfl⟩, fun b hb => by cases hb⟩
        | some j =>
          obtain ⟨kb0, q1, q2, qz, q3, q4, q5, q6, q7⟩ := ho.keep _ j nb z1 z2
          obtain ⟨e0, he0, hok⟩ := hs.get q2
          simp only [renE, he0] at he
          subst he
          refine ⟨q3.symm, rfl, rfl, fun hn => ?_, fun b hb => ?_⟩
          · obtain ⟨c1, c2⟩ := hok.2.2.2.1 hn
            refine ⟨?_, c2⟩
            rw [c1] at q6
            exact List.eq_nil_of_length_eq_zero (by simpa using q6)
          · obtain ⟨o1, arr, o2, o3, o4, o5, o6⟩ := hok.cls (by rw [hok.2.2.1]; exact qz) hb
            refine ⟨o1, .inl ⟨by show nb.sz ≠ 0; rw [q5]; exact qz, arr, ?_, o3, Nat.le_trans q6 o4, ?_, o6⟩⟩
            · show w.heap[b]? = some (.cells arr nb.ty (0, 0))
              rw [q4, ← hok.2.1]; exact o2
            · intro x c' v hx hv
              obtain ⟨c, g1, g2⟩ := q7 x c' hx
              exact ren_rel hs hkm ho g2 (o5 x c v g1 hv)
theorem GR.ren {H0 ext H2 : List Blk} {js : List (Option Nat)} {R : AV → List Blk → Prop} {r r' : AV} (ho : RenOk (H0 ++ ext) H0.length js H2) (hf : Ren (H0 ++ ext) H0.length js r r') (h : R r' (H0 ++ H2)) : GR H0 R r (H0 ++ ext) := by
  intro B W0 F0 m0 w0 F m w v hs0 hF hm hr hs
  have hk : H0.length ≤ (H0 ++ ext).length := by simp
  have h1 := ren_rel hs (by rw [hs.len]; exact hk) ho hf hr
  have h2 := ren_sim hs hk ho (by rw [List.take_left]; exact hs0.bel)
  rw [List.take_left] at h2
  refine ⟨_, _, r', _, hF.trans (fun b o v h => .inl h), ?_, h1, h2, h⟩
  have h3 := hm.take (k := H0.length) (by rw [hs0.len]; exact Nat.le_refl _)
  exact h3.trans (MLe.append _ _)
theorem Gh.ren {k0 k : Nat} {E E' : Env} {H H2 : List Blk} {js : List (Option Nat)} (h0 : k0 ≤ k) (hk : k ≤ H.length) (ho : RenOk H k js H2) (hB : ∀ b ∈ H.take k, ∀ c ∈ b.cells, Bel k c) (hE : ∀ j, Ren H k js (aget E j) (aget E' j)) : Gh k0 E H E' (H.take k ++ H2) := by
  intro cx F m a w hk0 hs
  have hkm : k ≤ m.length := by rw [hs.sim.len]; exact hk
  refine ⟨_, _, hs.defers, hs.size, fun j => ren_rel hs.sim hkm ho (hE j) (hs.env j), ren_sim hs.sim hk ho hB, hs.fle.trans (fun b o v h => .inl h), ?_⟩
  exact (hs.mle.take (by rw [hk0]; exact h0)).trans (MLe.append _ _)
theorem Gh.froz {k0 : Nat} {E E' : Env} {H ext : List Blk} (h0 : k0 ≤ H.length) (hB : ∀ b ∈ H, ∀ c ∈ b.cells, Bel H.length c) (hE : ∀ j, Ren (H ++ ext) H.length [] (aget E j) (aget E' j)) : Gh k0 E (H ++ ext) E' H := by
  have h := Gh.ren (k := H.length) (H2 := []) (js := []) h0 (by simp) ⟨rfl, fun p q j h => by simp at h, fun p j nb h => by simp at h, fun p nb h => by simp at h⟩ (by rw [List.take_left]; exact hB) hE
  rw [List.take_left, List.append_nil] at h
  exact h
end
end Go.Av
namespace Go.Proofs.YtdgcgckehihboaaGreatDoor
variable [Go.Av.DoorC]
open Go.Av
theorem consOf {α : Type} [Inhabited α] {xs pre post : List α} {d : α} (h : xs = pre ++ post) (hl : pre.length < xs.length) : ∃ x post', post = x :: post' ∧ xs.getD pre.length d = x ∧ xs = pre ++ x :: post' := by
  cases post with
  | nil => subst h; simp at hl
  | cons x post => exact ⟨x, post, rfl, by subst h; simp, h⟩
theorem nilOf {α : Type} {xs pre post : List α} (h : xs = pre ++ post) (hl : ¬ pre.length < xs.length) : post = [] ∧ pre = xs := by
  cases post with
  | nil => exact ⟨rfl, by simp [h]⟩
  | cons x post => exfalso; subst h; simp at hl
section
variable {Hb : List Blk} {v w x : Nat} {xss : List (List Int)} {ext : List Blk}
end
theorem BB.app {k : Nat} {l m : List Blk} (h1 : BB k l) (h2 : BB k m) : BB k (l ++ m) := by
  induction l with
  | nil => exact h2
  | cons b r ih =>
    rw [BB_cons] at h1
    rw [List.cons_append, BB_cons]
    exact ⟨h1.1, ih h1.2⟩
theorem BB.mono {k k' : Nat} {l : List Blk} (h : BB k l) (hk : k ≤ k') : BB k' l := by
  induction l with
  | nil => trivial
  | cons b r ih =>
    rw [BB_cons] at h ⊢
    exact ⟨fun c hc => (h.1 c hc).mono hk, ih h.2⟩
inductive RE (H : List Blk) (k : Nat) (js : List (Option Nat)) : Env → Env → Prop
  | nil : RE H k js [] []
  | cons (j : Nat) {a a' : AV} {E E' : Env} (h : Ren H k js a a') (hs : RE H k js E E') : RE H k js ((j, a) :: E) ((j, a') :: E')
theorem RE.get {H : List Blk} {k : Nat} {js : List (Option Nat)} {E E' : Env} (h : RE H k js E E') (j : Nat) : Ren H k js (aget E j) (aget E' j) := by
  induction h with
  | nil => exact .old _ .junk
  | cons i h _ ih =>
    simp only [aget]
    split
    · exact h
    · exact ih
theorem SW.froz {P : Program} {n k0 : Nat} {c : SC} {Q : SX → Env → List Blk → Prop} {E E' : Env} {H ext : List Blk} (hB : HB H) (h0 : k0 ≤ H.length) (hE : RE (H ++ ext) H.length [] E E') (hk : SW P n k0 c Q E' H) : SW P n k0 c Q E (H ++ ext) :=
  SW.ghost (Gh.froz h0 hB (fun j => hE.get j)) hk
theorem ren_I {H : List Blk} {k : Nat} {js : List (Option Nat)} (n : Int) : Ren H k js (I n) (I n) := .old _ (.lit _)
theorem ren_ilS {H : List Blk} {k : Nat} {js : List (Option Nat)} (xs : List Int) : Ren H k js (ilS xs) (ilS xs) := .old _ (by rw [Bel_ilS]; trivial)
end Go.Proofs.YtdgcgckehihboaaGreatDoor
