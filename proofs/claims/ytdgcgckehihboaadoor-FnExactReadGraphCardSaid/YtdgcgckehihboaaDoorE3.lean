/- Graphs of sets: the program. -/
import Derived.Test.YtdgcgckehihboaaDoorE2
import Derived.Test.YtdgcgckehihboaaDoorK20
import Derived.Test.YtdgcgckehihboaaDoorK6
import Derived.Test.YtdgcgckehihboaaDoorK19
import Derived.Test.YtdgcgckehihboaaDoorD1
set_option linter.unusedSimpArgs false
set_option linter.unusedVariables false
set_option maxHeartbeats 4000000
set_option maxRecDepth 100000
namespace Go.Proofs.YtdgcgckehihboaaDoor
open Go.Av

abbrev tyGr : Nat := 25
def twoC (a b : Nat) : List Int := tab (a + b) fun j => if a ≤ j then 1 else 0
theorem flatE_snoc (es : List (Int × Int)) (e : Int × Int) : flatE (es ++ [e]) = flatE es ++ [I e.1, I e.2] := by simp [flatE]
/-- The edges of sets: each element to its set's number. -/
def edI (n : Nat) (xss : List (List Int)) : List (Int × Int) := xss.zipIdx.flatMap fun p => p.1.map fun x => (x, (n : Int) + (p.2 : Int))
theorem edI_snoc (n : Nat) (pre : List (List Int)) (x : List Int) : edI n (pre ++ [x]) = edI n pre ++ x.map fun y => (y, (n : Int) + (pre.length : Int)) := by
  unfold edI
  rw [List.zipIdx_append, List.flatMap_append]
  simp
theorem edI_len {n : Nat} : ∀ {xss : List (List Int)}, (∀ x ∈ xss, x.length ≤ 32) → (edI n xss).length ≤ xss.length * 32 := by
  intro xss
  rw [← List.reverse_reverse xss]
  induction xss.reverse with
  | nil => intro _; simp [edI]
  | cons x r ih =>
    intro h
    rw [List.reverse_cons] at h ⊢
    rw [edI_snoc, List.length_append, List.length_map]
    have e1 := h x (by simp)
    have e2 := ih (fun y hy => h y (by simp at hy ⊢; exact .inl hy))
    simp at e2 ⊢; omega

theorem edI_mem {n : Nat} : ∀ {xss : List (List Int)} {e : Int × Int}, e ∈ edI n xss ↔ ∃ (k : Nat) (x : List Int), xss[k]? = some x ∧ e.1 ∈ x ∧ e.2 = (n : Int) + (k : Int) := by
  intro xss e
  unfold edI
  rw [List.mem_flatMap]
  constructor
  · rintro ⟨⟨x, k⟩, hp, he⟩
    obtain ⟨y, hy, rfl⟩ := List.mem_map.1 he
    exact ⟨k, x, by simpa using List.mem_zipIdx_iff_getElem?.1 hp, hy, rfl⟩
  · rintro ⟨k, x, hk, h1, h2⟩
    refine ⟨(x, k), List.mem_zipIdx_iff_getElem?.2 (by simpa using hk), List.mem_map.2 ⟨e.1, h1, ?_⟩⟩
    exact Prod.ext rfl h2.symm
theorem edI_nodup {n : Nat} : ∀ {xss : List (List Int)}, (∀ x ∈ xss, x.Nodup) → (edI n xss).Nodup := by
  intro xss
  rw [← List.reverse_reverse xss]
  induction xss.reverse with
  | nil => intro _; simp [edI]
  | cons x r ih =>
    intro h
    rw [List.reverse_cons] at h ⊢
    rw [edI_snoc, List.nodup_append]
    refine ⟨ih (fun y hy => h y (by simp at hy ⊢; exact .inl hy)), ?_, ?_⟩
    · rw [List.nodup_iff_pairwise_ne, List.pairwise_map]
      refine (List.nodup_iff_pairwise_ne.1 (h x (by simp))).imp ?_
      intro a b hab he
      exact hab (Prod.mk.inj he).1
    · rintro a ha b hb rfl
      obtain ⟨k, y, hk, _, h2⟩ := edI_mem.1 ha
      obtain ⟨z, _, rfl⟩ := List.mem_map.1 hb
      have := (List.getElem?_eq_some_iff.1 hk).1
      simp only at h2
      omega

def grV (n : Nat) (xss : List (List Int)) : (List Int × List (Int × Int)) × Int := if n + xss.length > 64 ∨ (edI n xss).length > 512 then (([], []), 5) else ((twoC n xss.length, sortU cmpE (edI n xss)), 0)
/-- A graph of the call's own and a code. -/
def GrR (H : List Blk) (V : (List Int × List (Int × Int)) × Int) (r : AV) (H' : List Blk) : Prop :=
  ∃ ext v u q, H' = H ++ ext ∧ r = .tup [.agg [v, u], I V.2] ∧ H.length ≤ q ∧ q ≤ H'.length ∧ OwnS H' (Btw H.length q) H'.length v V.1.1 ∧ OwnE H' (Btw q H'.length) u V.1.2
theorem nilGr {H ext : List Blk} {code : Int} : GrR H (([], []), code) (.tup [.agg [nilS, nilS], I code]) (H ++ ext) :=
  ⟨ext, nilS, nilS, H.length, rfl, rfl, Nat.le_refl _, by simp, .inr ⟨rfl, .inl rfl⟩, .inr ⟨rfl, .inl rfl⟩⟩

def dgV (n : Int) (xss : List (List Int)) : (List Int × List (Int × Int)) × Int := if designB n xss = true then grV n.toNat xss else (([], []), 1)
theorem designB_facts {n : Int} {xss : List (List Int)} (h : designB n xss = true) : ∃ k : Nat, n = k ∧ 1 ≤ k ∧ k ≤ 32 ∧ xss.length ≤ 128 ∧ ∀ xs ∈ xss, asc 0 ((k : Int) - 1) xs = true := by
  simp only [designB, Bool.and_eq_true, decide_eq_true_eq, List.all_eq_true] at h
  obtain ⟨⟨⟨⟨h1, h2⟩, h3⟩, h4⟩, -⟩ := h
  obtain ⟨k, rfl⟩ := Int.eq_ofNat_of_zero_le (show 0 ≤ n by omega)
  refine ⟨k, rfl, by omega, by omega, h4, fun xs hx => ?_⟩
  have := h3 xs hx
  simp only [blkB, Bool.and_eq_true] at this
  exact this.2
end Go.Proofs.YtdgcgckehihboaaDoor
