/- Texts of graphs: plain. -/
import Derived.Test.YtdgcgckehihboaaDoorZA
import Derived.Test.YtdgcgckehihboaaDoorR1
set_option linter.unusedSimpArgs false
set_option linter.unusedVariables false
set_option maxHeartbeats 4000000
set_option maxRecDepth 100000
namespace Go.Proofs.YtdgcgckehihboaaDoor
open Go.Av

/-- A text in pieces, the current one begun. -/
def splA (b : UInt8) : List UInt8 → List UInt8 → List (List UInt8)
  | cur, [] => [cur]
  | cur, c :: r => if c = b then cur :: splA b [] r else splA b (cur ++ [c]) r
def spl (b : UInt8) (s : List UInt8) : List (List UInt8) := splA b [] s
theorem idx_no {b : UInt8} : ∀ {s : List UInt8}, b ∉ s → Lib.index s [b] = -1
  | [], _ => rfl
  | c :: r, h => by
    have h1 : ¬ b = c := fun e => h (by rw [e]; exact List.mem_cons_self)
    have h2 := idx_no (s := r) (fun e => h (List.mem_cons_of_mem _ e))
    unfold Lib.index
    rw [if_neg (by simpa [List.isPrefixOf] using h1), h2]
    rfl
theorem idx_at {b : UInt8} {r : List UInt8} : ∀ {a : List UInt8}, b ∉ a → Lib.index (a ++ b :: r) [b] = a.length
  | [], _ => by
    rw [List.nil_append]
    unfold Lib.index
    rw [if_pos (by simp [List.isPrefixOf])]; rfl
  | c :: a, h => by
    have h1 : ¬ b = c := fun e => h (by rw [e]; exact List.mem_cons_self)
    have h2 := idx_at (r := r) (a := a) (fun e => h (List.mem_cons_of_mem _ e))
    rw [List.cons_append]
    unfold Lib.index
    rw [if_neg (by simpa [List.isPrefixOf] using h1), h2, if_neg (by simp), List.length_cons]
    rfl
theorem has_or (b : UInt8) : ∀ s : List UInt8, b ∉ s ∨ ∃ a r, s = a ++ b :: r ∧ b ∉ a
  | [] => .inl (by simp)
  | c :: s => by
    by_cases h : b = c
    · exact .inr ⟨[], s, by rw [h]; rfl, by simp⟩
    · rcases has_or b s with h1 | ⟨a, r, rfl, h1⟩
      · exact .inl (by simp [h, h1])
      · exact .inr ⟨c :: a, r, rfl, by simp [h, h1]⟩
theorem splA_no {b : UInt8} : ∀ {s cur : List UInt8}, b ∉ s → splA b cur s = [cur ++ s]
  | [], cur, _ => by rw [splA, List.append_nil]
  | c :: r, cur, h => by
    have h1 : ¬ c = b := fun e => h (by rw [e]; exact List.mem_cons_self)
    rw [splA, if_neg h1, splA_no (fun e => h (List.mem_cons_of_mem _ e))]; simp
theorem splA_at {b : UInt8} {r : List UInt8} : ∀ {a cur : List UInt8}, b ∉ a → splA b cur (a ++ b :: r) = (cur ++ a) :: spl b r
  | [], cur, _ => by rw [List.nil_append, splA, if_pos rfl, List.append_nil]; rfl
  | c :: a, cur, h => by
    have h1 : ¬ c = b := fun e => h (by rw [e]; exact List.mem_cons_self)
    rw [List.cons_append, splA, if_neg h1, splA_at (fun e => h (List.mem_cons_of_mem _ e))]; simp
theorem spl_no {b : UInt8} {s : List UInt8} (h : b ∉ s) : spl b s = [s] := splA_no h
theorem spl_at {b : UInt8} {a r : List UInt8} (h : b ∉ a) : spl b (a ++ b :: r) = a :: spl b r := splA_at h
theorem spl_ne (b : UInt8) (s : List UInt8) : spl b s ≠ [] := by
  rcases has_or b s with h | ⟨a, r, rfl, h⟩
  · rw [spl_no h]; simp
  · rw [spl_at h]; simp
theorem drop_at (a r : List UInt8) (b : UInt8) : (a ++ b :: r).drop (a.length + 1) = r := by simp [List.drop_append]
theorem split_spl (b : UInt8) : ∀ (n : Nat) (s : List UInt8), s.length = n → Lib.split s [b] = spl b s := by
  intro n
  induction n using Nat.strongRecOn with
  | _ n ih =>
    intro s hn
    rcases has_or b s with h | ⟨a, r, rfl, h⟩
    · rw [spl_no h]
      unfold Lib.split
      rw [Lib.count_miss (idx_no h)]; rfl
    · rw [spl_at h, ← ih r.length (by rw [← hn]; simp; omega) r rfl]
      have hi := idx_at (r := r) h
      unfold Lib.split
      rw [Lib.count_hit (by simp) hi, Nat.add_comm, Lib.splitK, hi, if_neg (by simp), show [b].length = 1 from rfl, Int.toNat_natCast, Nat.add_zero, drop_at]
      simp
theorem split_is (b : UInt8) (s : List UInt8) : Lib.split s [b] = spl b s := split_spl b _ s rfl
theorem cut_no {b : UInt8} {s : List UInt8} (h : b ∉ s) : Lib.cut s [b] = (s, [], false) := by
  unfold Lib.cut; rw [idx_no h]; rfl
theorem cut_at {b : UInt8} {a r : List UInt8} (h : b ∉ a) : Lib.cut (a ++ b :: r) [b] = (a, r, true) := by
  unfold Lib.cut
  rw [idx_at h, if_pos (by omega), Int.toNat_natCast, show [b].length = 1 from rfl, drop_at]
  simp
theorem join_two (b : UInt8) (x : List UInt8) {r : List (List UInt8)} (h : r ≠ []) : Lib.join (x :: r) [b] = x ++ b :: Lib.join r [b] := by
  cases r with
  | nil => exact absurd rfl h
  | cons y r => rw [Lib.join_cons, Lib.join_cons]; simp [Lib.joinTail]
theorem join_spl (b : UInt8) : ∀ (n : Nat) (s : List UInt8), s.length = n → Lib.join (spl b s) [b] = s := by
  intro n
  induction n using Nat.strongRecOn with
  | _ n ih =>
    intro s hn
    rcases has_or b s with h | ⟨a, r, rfl, h⟩
    · rw [spl_no h, Lib.join_one]
    · rw [spl_at h, join_two b a (spl_ne b r), ih r.length (by rw [← hn]; simp; omega) r rfl]
theorem join_is (b : UInt8) (s : List UInt8) : Lib.join (spl b s) [b] = s := join_spl b _ s rfl
theorem spl_join {b : UInt8} : ∀ {ps : List (List UInt8)}, ps ≠ [] → (∀ p ∈ ps, b ∉ p) → spl b (Lib.join ps [b]) = ps
  | [], h, _ => absurd rfl h
  | [x], _, h => by rw [Lib.join_one, spl_no (h x (by simp))]
  | x :: y :: r, _, h => by rw [join_two b x (by simp), spl_at (h x (by simp)), spl_join (by simp) (fun p hp => h p (by simp at hp ⊢; exact .inr hp))]
/-! Numbers hold digits and a sign. -/
theorem itoa_mem {n : Int} {c : UInt8} (h : c ∈ Lib.itoa n) : isD c = true ∨ (n < 0 ∧ c = 45) := by
  unfold Lib.itoa at h
  split at h
  · rename_i hn
    rcases List.mem_cons.1 h with h | h
    · exact .inr ⟨hn, h⟩
    · exact .inl (dec_isD _ _ h)
  · exact .inl (dec_isD _ _ h)
theorem itoa44 (n : Int) : (44 : UInt8) ∉ Lib.itoa n := fun h => by
  rcases itoa_mem h with h | ⟨_, h⟩
  · exact absurd h (by decide)
  · exact absurd h (by decide)
theorem itoa59 (n : Int) : (59 : UInt8) ∉ Lib.itoa n := fun h => by
  rcases itoa_mem h with h | ⟨_, h⟩
  · exact absurd h (by decide)
  · exact absurd h (by decide)
theorem itoa45 {n : Int} (hn : 0 ≤ n) : (45 : UInt8) ∉ Lib.itoa n := fun h => by
  rcases itoa_mem h with h | ⟨h, _⟩
  · exact absurd h (by decide)
  · omega
theorem itoa_ne (n : Int) : Lib.itoa n ≠ [] := by
  unfold Lib.itoa
  split
  · simp
  · exact dec_ne _
theorem join_mem {b : UInt8} : ∀ {ps : List (List UInt8)} {c : UInt8}, c ∈ Lib.join ps [b] → c = b ∨ ∃ p ∈ ps, c ∈ p
  | [], c, h => by rw [Lib.join_nil] at h; simp at h
  | [x], c, h => by rw [Lib.join_one] at h; exact .inr ⟨x, by simp, h⟩
  | x :: y :: r, c, h => by
    rw [join_two b x (by simp), List.mem_append, List.mem_cons] at h
    rcases h with h | h | h
    · exact .inr ⟨x, by simp, h⟩
    · exact .inl h
    · rcases join_mem h with h | ⟨p, hp, hc⟩
      · exact .inl h
      · exact .inr ⟨p, List.mem_cons_of_mem _ hp, hc⟩
def optL {α : Type} : List (Option α) → Option (List α)
  | [] => some []
  | some x :: r => (optL r).map (x :: ·)
  | none :: _ => none
theorem optL_iff {α : Type} : ∀ {os : List (Option α)} {l : List α}, optL os = some l ↔ os = l.map some
  | [], l => by cases l <;> simp [optL]
  | none :: r, l => by cases l <;> simp [optL]
  | some x :: r, l => by
    rw [optL]
    cases l with
    | nil => simp
    | cons y l =>
      have := optL_iff (os := r) (l := l)
      simp only [Option.map_eq_some_iff, List.cons.injEq, List.map_cons, Option.some.injEq, ← this]
      constructor
      · rintro ⟨a, h1, h2, h3⟩; exact ⟨h2, by rw [← h3]; exact h1⟩
      · rintro ⟨h1, h2⟩; exact ⟨l, h2, h1, rfl⟩
theorem opt_ext {α : Type} {a b : Option α} (h : ∀ x, a = some x ↔ b = some x) : a = b := by
  cases a with
  | none =>
    cases b with
    | none => rfl
    | some y => exact absurd ((h y).2 rfl) (by simp)
  | some x => exact ((h x).1 rfl).symm
/-! The reference's reading. -/
def rdI (p : List UInt8) : Option Int := (rdN p).bind fun n => if (decide (-999999999 ≤ n) && decide (n ≤ 999999999)) = true then some n else none
def rdL (s : List UInt8) : Option (List Int) := if s = [45] then some [] else if (spl 44 s).length ≤ 100 then optL ((spl 44 s).map rdI) else none
def rdE (w : List UInt8) : Option (Int × Int) := if (spl 45 w).length = 2 then (rdN ((spl 45 w).getD 0 [])).bind fun a => (rdN ((spl 45 w).getD 1 [])).map fun b => (a, b) else none
def edW (t : List UInt8) : List (List UInt8) := if t = [] then [] else spl 44 t
def rgR (s : List UInt8) : Option (List Int × List (Int × Int)) :=
  if (spl 59 s).length = 2 then (rdL ((spl 59 s).getD 0 [])).bind fun cols =>
    if (edW ((spl 59 s).getD 1 [])).length ≤ 512 then (optL ((edW ((spl 59 s).getD 1 [])).map rdE)).bind fun es => if grB cols es = true then some (cols, es) else none else none
  else none
/-! Texts. -/
def inL (l : List Int) : Bool := decide (l.length ≤ 100) && l.all fun n => decide (-999999999 ≤ n) && decide (n ≤ 999999999)
def ltx (l : List Int) : List UInt8 := if l = [] then [45] else Lib.join (l.map Lib.itoa) [44]
def lText (l : List Int) : List UInt8 := if inL l = true then ltx l else []
def etx (e : Int × Int) : List UInt8 := Lib.itoa e.1 ++ 45 :: Lib.itoa e.2
def gtx (cols : List Int) (es : List (Int × Int)) : List UInt8 := ltx cols ++ 59 :: Lib.join (es.map etx) [44]
/-! The program's reading. -/
def rdP (s : List UInt8) : List Int := if s = [45] then [] else if lText ((spl 44 s).map fun w => (rdD w).getD 0) = s then (spl 44 s).map fun w => (rdD w).getD 0 else []
def rdQ (w : List UInt8) : Int × Int := ((rdD (Lib.cut w [45]).1).getD 0, (rdD (Lib.cut w [45]).2.1).getD 0)
def rgC (s : List UInt8) : List Int := rdP (Lib.cut s [59]).1
def rgE (s : List UInt8) : List (Int × Int) := (edW (Lib.cut s [59]).2.1).map rdQ
def rgP (s : List UInt8) : Option (List Int × List (Int × Int)) := if grB (rgC s) (rgE s) = true ∧ gtx (rgC s) (rgE s) = s then some (rgC s, rgE s) else none

theorem ltx59 (l : List Int) : (59 : UInt8) ∉ ltx l := fun h => by
  unfold ltx at h
  split at h
  · exact absurd h (by decide)
  · rcases join_mem h with h | ⟨p, hp, hc⟩
    · exact absurd h (by decide)
    · obtain ⟨n, _, rfl⟩ := List.mem_map.1 hp
      exact itoa59 n hc
theorem ltx_45 {l : List Int} (h : l ≠ []) (h0 : ∀ n ∈ l, 0 ≤ n) : ltx l ≠ [45] := fun e => by
  unfold ltx at e
  rw [if_neg h] at e
  have : (45 : UInt8) ∈ Lib.join (l.map Lib.itoa) [44] := by rw [e]; simp
  rcases join_mem this with h1 | ⟨p, hp, hc⟩
  · exact absurd h1 (by decide)
  · obtain ⟨n, hn, rfl⟩ := List.mem_map.1 hp
    exact itoa45 (h0 n hn) hc
theorem etx44 (e : Int × Int) : (44 : UInt8) ∉ etx e := fun h => by
  unfold etx at h
  rw [List.mem_append, List.mem_cons] at h
  rcases h with h | h | h
  · exact itoa44 _ h
  · exact absurd h (by decide)
  · exact itoa44 _ h
theorem grB_facts {cols : List Int} {es : List (Int × Int)} (h : grB cols es = true) : cols.length ≤ 64 ∧ (∀ c ∈ cols, 0 ≤ c ∧ c ≤ 63) ∧ es.length ≤ 512 ∧ ∀ e ∈ es, 0 ≤ e.1 ∧ 0 ≤ e.2 ∧ e.1 < 64 ∧ e.2 < 64 := by
  unfold grB edsB colsB at h
  simp only [Bool.and_eq_true, decide_eq_true_eq, List.all_eq_true] at h
  obtain ⟨⟨h1, _⟩, ⟨h2, h3⟩, h4⟩ := h
  refine ⟨h2, h3, h4, fun e he => ?_⟩
  have := h1 e he
  unfold edB at this
  simp only [Bool.and_eq_true, decide_eq_true_eq] at this
  omega
theorem inL_of {cols : List Int} (h : cols.length ≤ 64) (h2 : ∀ c ∈ cols, 0 ≤ c ∧ c ≤ 63) : inL cols = true := by
  unfold inL
  rw [decide_eq_true (by omega), Bool.true_and, List.all_eq_true]
  intro c hc
  have := h2 c hc
  rw [decide_eq_true (by omega), decide_eq_true (by omega)]; rfl
theorem rdN_small {n : Int} (h : n.natAbs < 10 ^ 18) : rdN (Lib.itoa n) = some n := (rdN_iff _ _).2 ⟨rfl, h⟩
theorem edW_join (es : List (Int × Int)) : edW (Lib.join (es.map etx) [44]) = es.map etx := by
  unfold edW
  by_cases h : es = []
  · subst h; rfl
  · have h1 : es.map etx ≠ [] := by simpa using h
    have h2 := spl_join (b := 44) h1 (fun p hp => by obtain ⟨e, _, rfl⟩ := List.mem_map.1 hp; exact etx44 e)
    rw [if_neg ?_, h2]
    intro h3
    rw [h3] at h2
    rw [show spl 44 [] = [[]] from rfl] at h2
    have : ([] : List UInt8) ∈ es.map etx := by rw [← h2]; simp
    obtain ⟨e, _, he⟩ := List.mem_map.1 this
    unfold etx at he
    simp at he
theorem edW_is (t : List UInt8) : Lib.join (edW t) [44] = t := by
  unfold edW
  split
  · rename_i h; rw [h]; rfl
  · exact join_is 44 t
theorem rgR_iff (s : List UInt8) (g : List Int × List (Int × Int)) : rgR s = some g ↔ grB g.1 g.2 = true ∧ gtx g.1 g.2 = s := by
  obtain ⟨cols, es⟩ := g
  constructor
  · intro h
    unfold rgR at h
    split at h
    · rename_i h2
      obtain ⟨p, q, hpq⟩ : ∃ p q, spl 59 s = [p, q] := by
        generalize spl 59 s = l at h2
        match l, h2 with
        | [p, q], _ => exact ⟨p, q, rfl⟩
      have hs := join_is 59 s
      rw [hpq] at h hs
      rw [join_two 59 p (by simp), Lib.join_one] at hs
      simp only [List.getD_cons_zero, List.getD_cons_succ] at h
      cases hl : rdL p with
      | none => rw [hl] at h; cases h
      | some c =>
        rw [hl, Option.bind_some] at h
        split at h
        · cases he : optL ((edW q).map rdE) with
          | none => rw [he] at h; cases h
          | some e =>
            rw [he, Option.bind_some] at h
            split at h
            · rename_i hg
              cases h
              refine ⟨hg, ?_⟩
              rw [← hs]
              unfold gtx
              have e1 : ltx cols = p := by
                unfold rdL at hl
                split at hl
                · rename_i hp; cases hl; rw [hp]; rfl
                · split at hl
                  · rw [optL_iff] at hl
                    have hj := join_is 44 p
                    have hm : (spl 44 p) = cols.map Lib.itoa := by
                      refine List.ext_getElem (by simpa using congrArg List.length hl) fun i h1 h2 => ?_
                      have := congrArg (fun z => z[i]?) hl
                      simp only [List.getElem?_map] at this
                      rw [List.getElem?_eq_getElem h1, List.getElem?_eq_getElem (by simpa using h2)] at this
                      simp only [Option.map_some, Option.some.injEq] at this
                      unfold rdI at this
                      cases hr : rdN (spl 44 p)[i] with
                      | none => rw [hr] at this; cases this
                      | some n =>
                        rw [hr, Option.bind_some] at this
                        split at this
                        · cases this
                          rw [List.getElem_map, ((rdN_iff _ _).1 hr).1]
                        · cases this
                    unfold ltx
                    rw [if_neg ?_, ← hm, hj]
                    rintro rfl
                    exact spl_ne 44 p hm
                  · cases hl
              have e2 : Lib.join (es.map etx) [44] = q := by
                rw [optL_iff] at he
                have hm : edW q = es.map etx := by
                  refine List.ext_getElem (by simpa using congrArg List.length he) fun i h1 h2 => ?_
                  have := congrArg (fun z => z[i]?) he
                  simp only [List.getElem?_map] at this
                  rw [List.getElem?_eq_getElem h1, List.getElem?_eq_getElem (by simpa using h2)] at this
                  simp only [Option.map_some, Option.some.injEq] at this
                  generalize (edW q)[i] = w at *
                  rw [List.getElem_map]
                  generalize es[i]'(by simpa using h2) = e at *
                  unfold rdE at this
                  split at this
                  · rename_i h5
                    obtain ⟨x, y, hxy⟩ : ∃ x y, spl 45 w = [x, y] := by
                      generalize spl 45 w = l at h5
                      match l, h5 with
                      | [x, y], _ => exact ⟨x, y, rfl⟩
                    have hw := join_is 45 w
                    rw [hxy] at this hw
                    rw [join_two 45 x (by simp), Lib.join_one] at hw
                    simp only [List.getD_cons_zero, List.getD_cons_succ] at this
                    cases hr : rdN x with
                    | none => rw [hr] at this; cases this
                    | some a =>
                      cases hr2 : rdN y with
                      | none => rw [hr, hr2] at this; cases this
                      | some b =>
                        rw [hr, hr2] at this
                        cases this
                        rw [← hw]
                        unfold etx
                        rw [((rdN_iff _ _).1 hr).1, ((rdN_iff _ _).1 hr2).1]
                  · cases this
                rw [← hm, edW_is]
              rw [e1, e2]
            · cases h
        · cases h
    · cases h
  · rintro ⟨hg, rfl⟩
    obtain ⟨h1, h2, h3, h4⟩ := grB_facts hg
    replace h1 : cols.length ≤ 64 := h1
    have hsp : spl 59 (gtx cols es) = [ltx cols, Lib.join (es.map etx) [44]] := by
      unfold gtx
      rw [spl_at (ltx59 cols), spl_no]
      intro h
      rcases join_mem h with h | ⟨p, hp, hc⟩
      · exact absurd h (by decide)
      · obtain ⟨e, _, rfl⟩ := List.mem_map.1 hp
        unfold etx at hc
        rw [List.mem_append, List.mem_cons] at hc
        rcases hc with h | h | h
        · exact itoa59 _ h
        · exact absurd h (by decide)
        · exact itoa59 _ h
    have hrl : rdL (ltx cols) = some cols := by
      unfold rdL
      by_cases hc : cols = []
      · subst hc; rfl
      · rw [if_neg (ltx_45 hc fun n hn => (h2 n hn).1)]
        have h5 : spl 44 (ltx cols) = cols.map Lib.itoa := by
          unfold ltx
          rw [if_neg hc]
          exact spl_join (by simpa using hc) (fun p hp => by obtain ⟨n, _, rfl⟩ := List.mem_map.1 hp; exact itoa44 n)
        rw [h5, List.length_map, if_pos (by omega), optL_iff, List.map_map]
        refine List.map_congr_left fun n hn => ?_
        have := h2 n hn
        show rdI (Lib.itoa n) = some n
        unfold rdI
        rw [rdN_small (by omega), Option.bind_some, if_pos (by rw [decide_eq_true (by omega), decide_eq_true (by omega)]; rfl)]
    have hre : optL ((es.map etx).map rdE) = some es := by
      rw [optL_iff, List.map_map]
      refine List.map_congr_left fun e he => ?_
      have := h4 e he
      show rdE (etx e) = some e
      unfold rdE etx
      rw [spl_at (itoa45 this.1), spl_no (itoa45 this.2.1), if_pos (by rfl)]
      simp only [List.getD_cons_zero, List.getD_cons_succ]
      rw [rdN_small (by omega), rdN_small (by omega)]
      rfl
    unfold rgR
    rw [hsp, if_pos (by rfl)]
    simp only [List.getD_cons_zero, List.getD_cons_succ]
    rw [hrl, Option.bind_some, edW_join, List.length_map, if_pos h3, hre, Option.bind_some, if_pos hg]
theorem rgP_iff (s : List UInt8) (g : List Int × List (Int × Int)) : rgP s = some g ↔ grB g.1 g.2 = true ∧ gtx g.1 g.2 = s := by
  obtain ⟨cols, es⟩ := g
  constructor
  · intro h
    unfold rgP at h
    split at h
    · rename_i h2; cases h; exact h2
    · cases h
  · rintro ⟨hg, rfl⟩
    obtain ⟨h1, h2, h3, h4⟩ := grB_facts hg
    replace h1 : cols.length ≤ 64 := h1
    have hc : Lib.cut (gtx cols es) [59] = (ltx cols, Lib.join (es.map etx) [44], true) := cut_at (ltx59 cols)
    have e1 : rgC (gtx cols es) = cols := by
      unfold rgC
      rw [hc]
      show rdP (ltx cols) = cols
      unfold rdP
      by_cases hn : cols = []
      · subst hn; rfl
      · rw [if_neg (ltx_45 hn fun n hn => (h2 n hn).1)]
        have h5 : spl 44 (ltx cols) = cols.map Lib.itoa := by
          unfold ltx
          rw [if_neg hn]
          exact spl_join (by simpa using hn) (fun p hp => by obtain ⟨n, _, rfl⟩ := List.mem_map.1 hp; exact itoa44 n)
        have h6 : (spl 44 (ltx cols)).map (fun w => (rdD w).getD 0) = cols := by
          rw [h5, List.map_map]
          refine (List.map_congr_left fun n hn => ?_).trans (List.map_id cols)
          have := h2 n hn
          show (rdD (Lib.itoa n)).getD 0 = n
          rw [rdD_is, rdN_small (by omega)]; rfl
        rw [h6, if_pos]
        unfold lText
        rw [if_pos (inL_of h1 h2)]
    have e2 : rgE (gtx cols es) = es := by
      unfold rgE
      rw [hc]
      show (edW (Lib.join (es.map etx) [44])).map rdQ = es
      rw [edW_join, List.map_map]
      refine (List.map_congr_left fun e he => ?_).trans (List.map_id es)
      have := h4 e he
      show rdQ (etx e) = e
      unfold rdQ etx
      rw [cut_at (itoa45 this.1)]
      simp only
      rw [rdD_is, rdD_is, rdN_small (by omega), rdN_small (by omega)]
      rfl
    unfold rgP
    rw [e1, e2, if_pos ⟨hg, rfl⟩]
theorem rg_is (s : List UInt8) : rgP s = rgR s := opt_ext fun g => (rgP_iff s g).trans (rgR_iff s g).symm
end Go.Proofs.YtdgcgckehihboaaDoor
