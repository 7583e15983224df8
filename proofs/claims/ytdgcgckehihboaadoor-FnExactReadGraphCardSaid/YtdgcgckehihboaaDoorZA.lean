/- Numbers as texts: plain. -/
import Derived.Test.YtdgcgckehihboaaDoorLB
set_option linter.unusedSimpArgs false
set_option linter.unusedVariables false
set_option maxHeartbeats 4000000
set_option maxRecDepth 100000
namespace Go.Proofs.YtdgcgckehihboaaDoor
open Go.Av Go.Lib

def isD (c : UInt8) : Bool := decide (48 ≤ c.toNat) && decide (c.toNat ≤ 57)
/-- The digits' number; none where a byte is no digit. -/
def magF : List UInt8 → Nat → Option Nat
  | [], a => some a
  | c :: r, a => if isD c = true then magF r (10 * a + (c.toNat - 48)) else none
theorem magF_app : ∀ (l m : List UInt8) (a : Nat), magF (l ++ m) a = (magF l a).bind (magF m)
  | [], m, a => rfl
  | c :: r, m, a => by
    rw [List.cons_append, magF, magF]
    split
    · exact magF_app r m _
    · rfl
theorem toNat_digit {d : Nat} (h : d < 10) : (UInt8.ofNat (48 + d)).toNat = 48 + d := UInt8.toNat_ofNat_of_lt' (show 48 + d < 256 by omega)
theorem isD_digit {d : Nat} (h : d < 10) : isD (UInt8.ofNat (48 + d)) = true := by
  unfold isD
  rw [toNat_digit h, decide_eq_true (by omega), decide_eq_true (by omega)]; rfl
theorem dec_small {u : Nat} (h : u < 10) : decDigits u = [UInt8.ofNat (48 + u)] := by rw [decDigits, dif_pos h]
theorem dec_big {u : Nat} (h : ¬ u < 10) : decDigits u = decDigits (u / 10) ++ [UInt8.ofNat (48 + u % 10)] := by rw [decDigits, dif_neg h]
theorem dec_isD (u : Nat) : ∀ c ∈ decDigits u, isD c = true := by
  induction u using Nat.strongRecOn with
  | _ u ih =>
    intro c hc
    by_cases h : u < 10
    · rw [dec_small h, List.mem_singleton] at hc
      subst hc; exact isD_digit h
    · rw [dec_big h, List.mem_append, List.mem_singleton] at hc
      rcases hc with hc | rfl
      · exact ih _ (by omega) c hc
      · exact isD_digit (Nat.mod_lt _ (by omega))
theorem magF_one {d a : Nat} (h : d < 10) : magF [UInt8.ofNat (48 + d)] a = some (10 * a + d) := by
  rw [magF, if_pos (isD_digit h), magF, toNat_digit h]
  congr 1; omega
theorem magF_dec (u : Nat) : magF (decDigits u) 0 = some u := by
  induction u using Nat.strongRecOn with
  | _ u ih =>
    by_cases h : u < 10
    · rw [dec_small h, magF_one h]; congr 1; omega
    · rw [dec_big h, magF_app, ih _ (by omega), Option.bind_some, magF_one (Nat.mod_lt _ (by omega))]
      congr 1; omega
theorem magF_bd : ∀ (l : List UInt8) (a v : Nat), magF l a = some v → v < (a + 1) * 10 ^ l.length
  | [], a, v, h => by cases h; simp
  | c :: r, a, v, h => by
    rw [magF] at h
    split at h
    · rename_i hd
      unfold isD at hd
      simp only [Bool.and_eq_true, decide_eq_true_eq] at hd
      have := magF_bd r _ v h
      have h2 : (10 * a + (c.toNat - 48) + 1) * 10 ^ r.length ≤ (10 * (a + 1)) * 10 ^ r.length := Nat.mul_le_mul_right _ (by omega)
      rw [List.length_cons, Nat.pow_succ]
      have h3 : (a + 1) * (10 ^ r.length * 10) = (10 * (a + 1)) * 10 ^ r.length := by
        rw [Nat.mul_comm (10 ^ r.length) 10, ← Nat.mul_assoc, Nat.mul_comm (a + 1) 10]
      omega
    · cases h
theorem dec_ne (u : Nat) : decDigits u ≠ [] := by
  by_cases h : u < 10
  · rw [dec_small h]; simp
  · rw [dec_big h]; simp
theorem dec_len_le : ∀ (k u : Nat), u < 10 ^ (k + 1) → (decDigits u).length ≤ k + 1
  | 0, u, h => by rw [dec_small (by simpa using h)]; simp
  | k + 1, u, h => by
    by_cases h1 : u < 10
    · rw [dec_small h1]; simp
    · rw [dec_big h1, List.length_append, List.length_singleton]
      have : u / 10 < 10 ^ (k + 1) := by rw [Nat.pow_succ] at h; omega
      have := dec_len_le k _ this
      omega
theorem dec_len18 (u : Nat) : (decDigits u).length ≤ 18 ↔ u < 10 ^ 18 := by
  constructor
  · intro h
    have h1 := magF_bd _ _ _ (magF_dec u)
    have h2 : 10 ^ (decDigits u).length ≤ 10 ^ 18 := Nat.pow_le_pow_right (by omega) h
    omega
  · intro h; exact dec_len_le 17 u h
theorem not45 {c : UInt8} (h : isD c = true) : c ≠ 45 := by
  rintro rfl
  exact absurd h (by decide)
theorem head_dec (u : Nat) : (decDigits u).head? ≠ some 45 := by
  intro h
  cases hd : decDigits u with
  | nil => exact dec_ne u hd
  | cons c r =>
    rw [hd] at h
    simp only [List.head?_cons, Option.some.injEq] at h
    exact not45 (dec_isD u c (by rw [hd]; exact List.mem_cons_self)) h

/-- What stands behind the sign. -/
def bodyN (s : List UInt8) : List UInt8 := if s.head? = some 45 then s.tail else s
theorem body_neg (u : Nat) : bodyN (45 :: decDigits u) = decDigits u := rfl
theorem body_pos (u : Nat) : bodyN (decDigits u) = decDigits u := if_neg (head_dec u)
theorem body_itoa (n : Int) : bodyN (itoa n) = decDigits n.natAbs := by
  unfold itoa
  split
  · exact body_neg _
  · rw [show n.toNat = n.natAbs by omega]; exact body_pos _
theorem body_len (s : List UInt8) : (bodyN s).length ≤ s.length := by
  unfold bodyN; split <;> simp
theorem body_lt (s : List UInt8) : (bodyN s).length < s.length ↔ s.head? = some 45 := by
  unfold bodyN
  split
  · rename_i h
    cases s with
    | nil => simp at h
    | cons c r => simp at h ⊢; exact h
  · rename_i h
    exact ⟨fun h1 => absurd h1 (Nat.lt_irrefl _), fun h1 => absurd h1 h⟩
theorem itoa_head (n : Int) : (itoa n).head? = some 45 ↔ n < 0 := by
  unfold itoa
  split
  · rename_i h; exact ⟨fun _ => h, fun _ => rfl⟩
  · rename_i h; exact ⟨fun h1 => absurd h1 (head_dec _), fun h1 => absurd h1 h⟩
/-- The reference's reading of a number. -/
def rdN (s : List UInt8) : Option Int :=
  if 1 ≤ (bodyN s).length ∧ (bodyN s).length ≤ 18 then
    (magF (bodyN s) 0).bind fun u => if itoa (if (bodyN s).length < s.length then -(u : Int) else u) = s then some (if (bodyN s).length < s.length then -(u : Int) else u) else none
  else none
theorem sign_of (n : Int) : (if (bodyN (itoa n)).length < (itoa n).length then -((n.natAbs : Nat) : Int) else ((n.natAbs : Nat) : Int)) = n := by
  by_cases h : n < 0
  · rw [if_pos ((body_lt _).2 ((itoa_head n).2 h))]; omega
  · rw [if_neg (fun h1 => h ((itoa_head n).1 ((body_lt _).1 h1)))]; omega
theorem rdN_iff (s : List UInt8) (n : Int) : rdN s = some n ↔ itoa n = s ∧ n.natAbs < 10 ^ 18 := by
  constructor
  · intro h
    unfold rdN at h
    split at h
    · rename_i hl
      cases hm : magF (bodyN s) 0 with
      | none => rw [hm] at h; cases h
      | some u =>
        rw [hm, Option.bind_some] at h
        have h3 : (if (bodyN s).length < s.length then -(u : Int) else (u : Int)).natAbs = u := by split <;> omega
        generalize (if (bodyN s).length < s.length then -(u : Int) else (u : Int)) = z at h h3
        by_cases hi : itoa z = s
        · rw [if_pos hi] at h
          cases h
          refine ⟨hi, ?_⟩
          have h1 := magF_bd _ _ _ hm
          have h2 : 10 ^ (bodyN s).length ≤ 10 ^ 18 := Nat.pow_le_pow_right (by omega) hl.2
          omega
        · rw [if_neg hi] at h; cases h
    · cases h
  · rintro ⟨rfl, hb⟩
    unfold rdN
    have h1 := (dec_len18 n.natAbs).2 hb
    have h2 := List.length_pos_iff.2 (dec_ne n.natAbs)
    have hs := sign_of n
    rw [body_itoa] at hs ⊢
    rw [if_pos ⟨by omega, h1⟩, magF_dec, Option.bind_some, hs, if_pos rfl]
/-- The program's reading of a number. -/
def rdD (s : List UInt8) : Option Int :=
  if 1 ≤ (trimPrefix s [45]).length ∧ (trimPrefix s [45]).length ≤ 18 then
    match parseIntB 64 s with
    | .ok n => if itoa n = s then some n else none
    | _ => none
  else none
theorem trim_body (s : List UInt8) : trimPrefix s [45] = bodyN s := by
  unfold trimPrefix bodyN hasPrefix
  cases s with
  | nil => rfl
  | cons c r =>
    by_cases h : c = 45
    · subst h; simp
    · simp [h]; exact fun e => h e.symm
theorem parseM_dec : ∀ (l : List UInt8) (a v : Nat), magF l a = some v → v < 10 ^ 18 → parseUintM (2 ^ 64 - 1) a l = .ok v
  | [], a, v, h, _ => by cases h; rfl
  | c :: r, a, v, h, hv => by
    rw [magF] at h
    split at h
    · rename_i hd
      have hd2 : 48 ≤ c.toNat ∧ c.toNat ≤ 57 := by
        unfold isD at hd
        simpa only [Bool.and_eq_true, decide_eq_true_eq] using hd
      have hmono : ∀ (l : List UInt8) (a v : Nat), magF l a = some v → a ≤ v := by
        intro l
        induction l with
        | nil => intro a v h; cases h; exact Nat.le_refl _
        | cons c r ih =>
          intro a v h
          rw [magF] at h
          split at h
          · have := ih _ _ h; omega
          · cases h
      have h1 := hmono _ _ _ h
      rw [parseUintM, if_pos hd2, if_neg (by omega), if_neg (by omega), show a * 10 + (c.toNat - 48) = 10 * a + (c.toNat - 48) by omega]
      exact parseM_dec r _ v h hv
    · cases h
theorem parse_itoa (n : Int) (h : n.natAbs < 10 ^ 18) : parseIntB 64 (itoa n) = .ok n := by
  have hp := parseM_dec _ _ _ (magF_dec n.natAbs) h
  have hu : parseUintB 64 (decDigits n.natAbs) = .ok n.natAbs := by unfold parseUintB; rw [if_neg (dec_ne _)]; exact hp
  by_cases hn : n < 0
  · have hi : itoa n = 45 :: decDigits n.natAbs := by unfold itoa; rw [if_pos hn]
    rw [hi]
    unfold parseIntB
    simp only [show (45 : UInt8).toNat = 45 from rfl, or_true, if_true, hu, not_true_eq_false, false_and, if_false, true_and]
    rw [if_neg (by omega)]
    congr 1; omega
  · have hi : itoa n = decDigits n.natAbs := by unfold itoa; rw [if_neg hn, show n.toNat = n.natAbs by omega]
    rw [hi]
    cases hd : decDigits n.natAbs with
    | nil => exact absurd hd (dec_ne _)
    | cons c r =>
      have hc := dec_isD n.natAbs c (by rw [hd]; exact List.mem_cons_self)
      have hc2 : 48 ≤ c.toNat ∧ c.toNat ≤ 57 := by
        unfold isD at hc
        simpa only [Bool.and_eq_true, decide_eq_true_eq] using hc
      rw [hd] at hu
      unfold parseIntB
      simp only [show ¬ c.toNat = 43 by omega, show ¬ c.toNat = 45 by omega, or_false, if_false, hu, not_false_eq_true, true_and, false_and]
      rw [if_neg (by omega)]
      congr 1; omega
theorem rdD_iff (s : List UInt8) (n : Int) : rdD s = some n ↔ itoa n = s ∧ n.natAbs < 10 ^ 18 := by
  constructor
  · intro h
    unfold rdD at h
    rw [trim_body] at h
    split at h
    · rename_i hl
      split at h
      · split at h
        · rename_i hi
          cases h
          subst hi
          rw [body_itoa] at hl
          exact ⟨rfl, (dec_len18 _).1 hl.2⟩
        · cases h
      · cases h
    · cases h
  · rintro ⟨rfl, hb⟩
    unfold rdD
    rw [trim_body, body_itoa, parse_itoa n hb]
    have h1 := (dec_len18 n.natAbs).2 hb
    have h2 := List.length_pos_iff.2 (dec_ne n.natAbs)
    rw [if_pos ⟨by omega, h1⟩]
    simp
theorem rdD_is (s : List UInt8) : rdD s = rdN s := by
  cases h : rdN s with
  | some n => exact (rdD_iff s n).2 ((rdN_iff s n).1 h)
  | none =>
    cases h2 : rdD s with
    | none => rfl
    | some n => rw [(rdN_iff s n).2 ((rdD_iff s n).1 h2)] at h; cases h
end Go.Proofs.YtdgcgckehihboaaDoor
