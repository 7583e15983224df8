/- Groups of permutations: what some permutations generate. Permutations composed; their keys. Groups of permutations: the closure in the program. -/
import Derived.Test.YtkifdjjnbplghaaGreatProg
import Derived.KernelRfl
import Derived.Test.YtkifdjjnbplghaaGreatzK60
import Derived.Test.YtkifdjjnbplghaaGreatzK8
import Derived.Test.YtkifdjjnbplghaaGreatzK51
import Derived.Test.YtkifdjjnbplghaaGreatzU1
import Derived.Test.YtkifdjjnbplghaaGreatzK62
set_option linter.unusedSimpArgs false
set_option linter.unusedVariables false
set_option maxHeartbeats 4000000
set_option maxRecDepth 100000
namespace Go.Proofs.YtkifdjjnbplghaaGreat
open Go.Av
abbrev f_spec_l04One : Nat := 145
def c_spec_l04One : SC :=
 .seq (.reg [
     ⟨(some 2), .mv (.const (.slice none 0 0)), none⟩] [0])
 (.seq (.reg [
     ⟨(some 5), .bslice 2 1 0 [] [], none⟩,
     ⟨(some 3), .mv (.tmp 5), none⟩] [0, 3])
 (.seq (.seq (.reg [
     ⟨(some 4), .mv (.const (.int .i64 0)), none⟩] [0, 3, 4])
 (.block 0 (.loop [0, 3, 4]
   (.seq (.seq (.reg [
       ⟨(some 6), .mv (.tmp 4), none⟩,
       ⟨(some 7), .mv (.tmp 0), none⟩,
       ⟨(some 8), .bin .lss (.tmp 6) (.tmp 7), none⟩] [0, 3, 4, 8])
   (.cond (.tmp 8)
    (.skip)
    (.exit 0)))
   (.seq (.block 1 (.reg [
        ⟨(some 11), .mv (.tmp 3), none⟩,
        ⟨(some 12), .mv (.tmp 4), none⟩,
        ⟨(some 13), .bslice 2 1 1 [(.int .i64 0)] [(0, (.tmp 12))], none⟩,
        ⟨(some 14), .app 2 1 8 (.tmp 11) (.tmp 13), none⟩,
        ⟨(some 3), .mv (.tmp 14), none⟩] [0, 3, 4]))
   (.reg [
       ⟨(some 9), .mv (.tmp 4), none⟩,
       ⟨(some 10), .bin .add (.tmp 9) (.const (.int .i64 1)), none⟩,
       ⟨(some 4), .mv (.tmp 10), none⟩] [0, 3, 4]))))))
 (.seq (.reg [
     ⟨(some 15), .mv (.tmp 3), none⟩,
     ⟨(some 2), .mv (.tmp 15), none⟩] [2])
 (.ret))))
theorem s_spec_l04One : stripF Tryz.prog 145 [[0], [0, 3], [0, 3, 4], [0, 3, 4], [0, 3, 4, 8], [0, 3, 4], [0, 3, 4], [2]] = some (c_spec_l04One, [.tmp 2], 16) := by kernel_rfl
def mul (p q : List Int) : List Int := p.map (pa q)
theorem mul_length (p q : List Int) : (mul p q).length = p.length := by simp [mul]
theorem pa_mem {n : Nat} {p : List Int} (h : permOk n p) {x : Int} (h0 : 0 ≤ x) (h1 : x < n) : pa p x ∈ p := by
  unfold pa
  rw [List.getD_eq_getElem?_getD, List.getElem?_eq_getElem (by rw [h.1]; omega)]
  exact List.getElem_mem _
theorem mul_ok {n : Nat} {p q : List Int} (hp : permOk n p) (hq : permOk n q) : permOk n (mul p q) := by
  refine ⟨by rw [mul_length]; exact hp.1, ?_, fun x hx => ?_⟩
  · unfold mul
    rw [List.nodup_iff_pairwise_ne, List.pairwise_map]
    have := List.nodup_iff_pairwise_ne.1 hp.2.1
    refine this.imp_of_mem ?_
    intro a b ha hb hab he
    exact hab (pa_inj hq (hp.2.2 a ha) (hp.2.2 b hb) he)
  · obtain ⟨y, hy, rfl⟩ := List.mem_map.1 hx
    have := hp.2.2 y hy
    exact hq.2.2 _ (pa_mem hq this.1 this.2)
theorem mul_one {n : Nat} {p : List Int} (hp : permOk n p) : mul p (idL n) = p := by
  unfold mul
  refine (List.map_congr_left (fun x hx => ?_)).trans (List.map_id _)
  have := hp.2.2 x hx
  unfold pa idL
  rw [tab_getD _ (by omega)]
  simp; omega
theorem pa_mul {n : Nat} {p q : List Int} (hp : permOk n p) {x : Int} (h0 : 0 ≤ x) (h1 : x < n) : pa (mul p q) x = pa q (pa p x) := by
  have hl : x.toNat < p.length := by rw [hp.1]; omega
  unfold mul
  show (p.map (pa q)).getD x.toNat 0 = pa q (p.getD x.toNat 0)
  rw [List.getD_eq_getElem?_getD, List.getD_eq_getElem?_getD, List.getElem?_map, List.getElem?_eq_getElem hl]
  rfl
theorem mul_assoc' {n : Nat} {p q r : List Int} (hp : permOk n p) (hq : permOk n q) : mul p (mul q r) = mul (mul p q) r := by
  unfold mul
  rw [List.map_map]
  refine List.map_congr_left fun x hx => ?_
  have := hp.2.2 x hx
  exact pa_mul hq this.1 this.2
inductive Gen (n : Nat) (gs : List (List Int)) : List Int → Prop
  | one : Gen n gs (idL n)
  | step (p g : List Int) (hg : g ∈ gs) (h : Gen n gs p) : Gen n gs (mul p g)
theorem Gen.ok {n : Nat} {gs : List (List Int)} (hg : ∀ g ∈ gs, permOk n g) {p : List Int} (h : Gen n gs p) : permOk n p := by
  induction h with
  | one => exact idL_ok n
  | step p g hm _ ih => exact mul_ok ih (hg g hm)
theorem Gen.mono {n : Nat} {gs hs : List (List Int)} (hsub : ∀ g ∈ gs, g ∈ hs) {p : List Int} (h : Gen n gs p) : Gen n hs p := by
  induction h with
  | one => exact .one
  | step p g hm _ ih => exact .step p g (hsub g hm) ih
theorem Gen.mul {n : Nat} {gs : List (List Int)} (hg : ∀ g ∈ gs, permOk n g) {p q : List Int} (h : Gen n gs p) (k : Gen n gs q) : Gen n gs (mul p q) := by
  induction k with
  | one => rw [mul_one (h.ok hg)]; exact h
  | step q g hm hq ih => rw [mul_assoc' (h.ok hg) (hq.ok hg)]; exact .step _ g hm ih
theorem Gen.trans {n : Nat} {gs hs : List (List Int)} (hg : ∀ g ∈ gs, permOk n g) (hsub : ∀ h ∈ hs, Gen n gs h) {p : List Int} (h : Gen n hs p) : Gen n gs p := by
  induction h with
  | one => exact .one
  | step p g hm _ ih => exact ih.mul hg (hsub g hm)
theorem nodup_sub_len {A : Type} : ∀ {l m : List A}, l.Nodup → (∀ x ∈ l, x ∈ m) → l.length ≤ m.length
  | [], _, _, _ => Nat.zero_le _
  | a :: l, m, hn, hs => by
    rw [List.nodup_cons] at hn
    obtain ⟨s, t, rfl⟩ := List.append_of_mem (hs a (by simp))
    have := nodup_sub_len (l := l) (m := s ++ t) hn.2 (fun x hx => by
      have h1 := hs x (by simp [hx])
      rcases List.mem_append.1 h1 with h1 | h1
      · exact List.mem_append_left _ h1
      · rcases List.mem_cons.1 h1 with rfl | h1
        · exact absurd hx hn.1
        · exact List.mem_append_right _ h1)
    simp at this ⊢; omega
end Go.Proofs.YtkifdjjnbplghaaGreat
namespace Go.Proofs.YtkifdjjnbplghaaGreat
open Go.Av
end Go.Proofs.YtkifdjjnbplghaaGreat
namespace Go.Proofs.YtkifdjjnbplghaaGreat
open Go.Av
end Go.Proofs.YtkifdjjnbplghaaGreat
