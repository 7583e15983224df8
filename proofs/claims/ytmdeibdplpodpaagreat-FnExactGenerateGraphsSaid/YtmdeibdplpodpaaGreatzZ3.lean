/- Packings, one block more each time: what is generated, and how much at most. -/
import Derived.Test.YtmdeibdplpodpaaGreatzK64
import Derived.Test.YtmdeibdplpodpaaGreatzK27
import Derived.Test.YtmdeibdplpodpaaGreatzY2
import Derived.Test.YtmdeibdplpodpaaGreatzZ1
set_option linter.unusedSimpArgs false
set_option linter.unusedVariables false
set_option maxHeartbeats 4000000
set_option maxRecDepth 100000
namespace Go.Proofs.YtmdeibdplpodpaaGreat
open Go.Av
theorem subsL_all : ∀ (m : Nat) (lo : Int) (k : Nat) (s : List Int), s.length = k → asc lo (lo + m - 1) s = true → s ∈ subsL m lo k
  | m, lo, 0, s, hl, _ => by
    rw [List.length_eq_zero_iff.1 hl]
    cases m <;> simp [subsL]
  | 0, lo, k + 1, [], hl, _ => by simp at hl
  | 0, lo, k + 1, x :: s, hl, ha => by
    have := asc_mem ha x (by simp)
    omega
  | m + 1, lo, k + 1, [], hl, _ => by simp at hl
  | m + 1, lo, k + 1, x :: s, hl, ha => by
    have e : lo + ((m + 1 : Nat) : Int) - 1 = (lo + 1) + (m : Int) - 1 := by omega
    unfold subsL
    rw [List.mem_append]
    simp only [asc, Bool.and_eq_true, decide_eq_true_eq] at ha
    by_cases hx : x = lo
    · subst hx
      refine .inl (List.mem_map.2 ⟨s, subsL_all m (x + 1) k s (by simpa using hl) ?_, rfl⟩)
      rw [← e]; exact ha.2
    · refine .inr (subsL_all m (lo + 1) (k + 1) (x :: s) hl ?_)
      rw [← e]
      simp only [asc, Bool.and_eq_true, decide_eq_true_eq]
      exact ⟨by omega, ha.2⟩
def exts (v : Nat) (bs : List (List Int)) (k : Nat) (s : Int) : List (List Int) := (subsN v k).filter (fitB bs s)
def more (bs : List (List Int)) (set : List Int) : List (List Int) := sortU cmpL (bs ++ [set])
def grow1 (v k : Nat) (s : Int) (bs : List (List Int)) : List (List (List Int)) := (exts v bs k s).map fun set => leastF (more bs set) (perms v)
def growL (v k : Nat) (s : Int) (l : List (List (List Int))) : List (List (List Int)) := l.flatMap (grow1 v k s)
def genS (v k : Nat) (s : Int) (l : List (List (List Int))) : List (List (List Int)) := sortU cmpSS (growL v k s l)
def genN (v k : Nat) (s : Int) : Nat → List (List (List Int))
  | 0 => [[]]
  | j + 1 => genS v k s (genN v k s j)
def packOk (v k j : Nat) (bs : List (List Int)) : Prop := bs.length = j ∧ Asc cmpL bs ∧ ∀ b ∈ bs, b.length = k ∧ asc 0 ((v : Int) - 1) b = true
theorem packOk.sys {v k j : Nat} {bs : List (List Int)} (h : packOk v k j bs) (h1 : 1 ≤ v) (h6 : v ≤ 6) : sysOk v bs := ⟨h1, h6, h.2.1, fun b hb => (h.2.2 b hb).2⟩
theorem exts_mem {v k : Nat} {s : Int} {bs : List (List Int)} {set : List Int} (h : set ∈ exts v bs k s) : set.length = k ∧ asc 0 ((v : Int) - 1) set = true ∧ set ∉ bs := by
  obtain ⟨h1, h2⟩ := List.mem_filter.1 h
  obtain ⟨h3, h4⟩ := subsL_mem v 0 k set h1
  rw [Int.zero_add] at h4
  refine ⟨h3, h4, fun hm => ?_⟩
  unfold fitB at h2
  rw [Bool.not_eq_true', List.any_eq_false] at h2
  have := h2 set hm
  simp at this
theorem exts_len (v k : Nat) (s : Int) (bs : List (List Int)) : (exts v bs k s).length ≤ ch v k := by
  unfold exts
  refine Nat.le_trans (List.length_filter_le _ _) ?_
  unfold subsN
  rw [subsL_len]; exact Nat.le_refl _
theorem more_ok {v k j : Nat} {bs : List (List Int)} {set : List Int} (h : packOk v k j bs) (h1 : set.length = k) (h2 : asc 0 ((v : Int) - 1) set = true) (h3 : set ∉ bs) : packOk v k (j + 1) (more bs set) := by
  have hn : (bs ++ [set]).Nodup := by
    rw [List.nodup_append]
    refine ⟨h.2.1.nodup cmpL_tot, by simp, ?_⟩
    intro a ha b hb
    rw [List.mem_singleton.1 hb]
    exact fun e => h3 (e ▸ ha)
  refine ⟨?_, sortU_asc cmpL_tot _, fun b hb => ?_⟩
  · unfold more
    rw [(sortU_perm cmpL_tot hn).length_eq, List.length_append, h.1]; rfl
  · unfold more at hb
    rw [sortU_mem cmpL_tot] at hb
    rcases List.mem_append.1 hb with hb | hb
    · exact h.2.2 b hb
    · rw [List.mem_singleton.1 hb]; exact ⟨h1, h2⟩
theorem imgS_ok {v k j : Nat} {bs : List (List Int)} {p : List Int} (h : packOk v k j bs) (h1 : 1 ≤ v) (h6 : v ≤ 6) (hp : permOk v p) : packOk v k j (imgS p bs) := by
  refine ⟨by rw [imgS_len (h.sys h1 h6) hp]; exact h.1, sortU_asc cmpL_tot _, fun b hb => ?_⟩
  unfold imgS at hb
  rw [sortU_mem cmpL_tot] at hb
  obtain ⟨c, hc, rfl⟩ := List.mem_map.1 hb
  obtain ⟨g1, g2⟩ := h.2.2 c hc
  exact ⟨by rw [img_length hp g2, g1], img_asc hp g2⟩
theorem leastF_is (bs : List (List Int)) : ∀ l : List (List Int), leastF bs l = bs ∨ ∃ p ∈ l, leastF bs l = imgS p bs := by
  intro l
  rw [← List.reverse_reverse l]
  induction l.reverse with
  | nil => exact .inl rfl
  | cons p r ih =>
    rw [List.reverse_cons, leastF_snoc]
    split
    · exact .inr ⟨p, by simp, rfl⟩
    · rcases ih with ih | ⟨q, hq, ih⟩
      · exact .inl ih
      · exact .inr ⟨q, by simp at hq ⊢; exact .inl hq, ih⟩
theorem leastP {v k j : Nat} {bs : List (List Int)} (h : packOk v k j bs) (h1 : 1 ≤ v) (h6 : v ≤ 6) : packOk v k j (leastF bs (perms v)) := by
  rcases leastF_is bs (perms v) with e | ⟨p, hp, e⟩
  · rw [e]; exact h
  · rw [e]; exact imgS_ok h h1 h6 (perms_ok hp)
theorem growL_ok {v k j : Nat} {s : Int} {l : List (List (List Int))} (h1 : 1 ≤ v) (h6 : v ≤ 6) (h : ∀ bs ∈ l, packOk v k j bs) : ∀ bs ∈ growL v k s l, packOk v k (j + 1) bs := by
  intro bs hb
  obtain ⟨a, ha, hb⟩ := List.mem_flatMap.1 hb
  obtain ⟨set, hs, rfl⟩ := List.mem_map.1 hb
  obtain ⟨g1, g2, g3⟩ := exts_mem hs
  exact leastP (more_ok (h a ha) g1 g2 g3) h1 h6
theorem genN_ok {v k : Nat} {s : Int} (h1 : 1 ≤ v) (h6 : v ≤ 6) : ∀ j, Asc cmpSS (genN v k s j) ∧ ∀ bs ∈ genN v k s j, packOk v k j bs
  | 0 => ⟨by simp [genN, Asc], fun bs hb => by rw [List.mem_singleton.1 hb]; exact ⟨rfl, by simp [Asc], by simp⟩⟩
  | j + 1 => by
    refine ⟨sortU_asc cmpSS_tot _, fun bs hb => ?_⟩
    have := (sortU_mem cmpSS_tot (growL v k s (genN v k s j)) bs).1 hb
    exact growL_ok h1 h6 (genN_ok h1 h6 j).2 bs this
def parts_ {A : Type} : List A → List (List A)
  | [] => [[]]
  | x :: r => parts_ r ++ (parts_ r).map (x :: ·)
theorem parts_len {A : Type} : ∀ l : List A, (parts_ l).length = 2 ^ l.length
  | [] => rfl
  | x :: r => by
    have := parts_len r
    simp only [parts_, List.length_append, List.length_map, List.length_cons]
    rw [this, Nat.pow_succ]; omega
theorem parts_filter {A : Type} (p : A → Bool) : ∀ l : List A, l.filter p ∈ parts_ l
  | [] => by simp [parts_]
  | x :: r => by
    have := parts_filter p r
    unfold parts_
    rw [List.filter_cons]
    split
    · exact List.mem_append_right _ (List.mem_map.2 ⟨_, this, rfl⟩)
    · exact List.mem_append_left _ this
theorem ch_le20 : ∀ v, v ≤ 6 → ∀ k, k ≤ 6 → ch v k ≤ 20 := by decide
theorem pack_count {v k j : Nat} {l : List (List (List Int))} (h6 : v ≤ 6) (hk : k ≤ 6) (ha : Asc cmpSS l) (h : ∀ bs ∈ l, packOk v k j bs) : l.length ≤ 1048576 := by
  have h1 : ∀ bs ∈ l, bs ∈ parts_ (sortU cmpL (subsN v k)) := fun bs hb => by
    obtain ⟨-, g2, g3⟩ := h bs hb
    have hS := sortU_asc cmpL_tot (subsN v k)
    have e : bs = (sortU cmpL (subsN v k)).filter (fun x => bs.contains x) := by
      refine asc_uniq cmpL_tot g2 (hS.filter _) (fun y => ?_)
      rw [List.mem_filter, sortU_mem cmpL_tot]
      simp only [List.contains_iff_mem]
      refine ⟨fun hy => ⟨?_, hy⟩, fun hy => hy.2⟩
      obtain ⟨q1, q2⟩ := g3 y hy
      exact subsL_all v 0 k y q1 (by rw [Int.zero_add]; exact q2)
    rw [e]; exact parts_filter _ _
  have h2 := nodup_sub_len (ha.nodup cmpSS_tot) h1
  rw [parts_len] at h2
  have h3 := sortU_len (cf := cmpL) (subsN v k)
  have h4 : (subsN v k).length = ch v k := by unfold subsN; exact subsL_len _ _ _
  have h5 := ch_le20 v h6 k (by omega)
  have h7 : 2 ^ (sortU cmpL (subsN v k)).length ≤ 2 ^ 20 := Nat.pow_le_pow_right (by omega) (by omega)
  have h8 : 2 ^ 20 = 1048576 := by decide
  omega
theorem growL_len {v k : Nat} {s : Int} (h6 : v ≤ 6) (hk : k ≤ 6) (l : List (List (List Int))) : (growL v k s l).length ≤ 20 * l.length := by
  induction l with
  | nil => simp [growL]
  | cons x r ih =>
    have e : growL v k s (x :: r) = grow1 v k s x ++ growL v k s r := by simp [growL]
    have h1 := exts_len v k s x
    have h2 := ch_le20 v h6 k (by omega)
    have h3 : (grow1 v k s x).length = (exts v x k s).length := by simp [grow1]
    rw [e, List.length_append, List.length_cons]; omega
end Go.Proofs.YtmdeibdplpodpaaGreat
