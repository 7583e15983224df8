/- Texts of graphs: plain. -/
import Derived.Test.YtdgcgckehihboaaGreatDoorzLB
import Derived.Test.YtdgcgckehihboaaGreatDoorzE4
set_option linter.unusedSimpArgs false
set_option linter.unusedVariables false
set_option linter.unusedSectionVars false
set_option maxHeartbeats 4000000
set_option maxRecDepth 100000
namespace Go.Proofs.YtdgcgckehihboaaGreatDoor
variable [Go.Av.DoorC]
open Go.Av
def splA (b : UInt8) : List UInt8 → List UInt8 → List (List UInt8)
  | cur, [] => [cur]
  | cur, c :: r => if c = b then cur :: splA b [] r else splA b (cur ++ [c]) r
def spl (b : UInt8) (s : List UInt8) : List (List UInt8) := splA b [] s
theorem idx_no {b : UInt8} : ∀ {s : List UInt8}, b ∉ s → Lib.index s [b] = -1
  | [], _ => rfl
  | c :: r, h => by
    have h1 : ¬ b = c := fun e => h (by rw [e]; exact List.mem_cons_self)
    have h2 := idx_no (s := r) (fun e => h (List.mem_cons_of_mem _ e))
    unfold Lib.index
    rw [if_neg (by simpa [List.isPrefixOf] using h1), h2]
    rfl
theorem idx_at {b : UInt8} {r : List UInt8} : ∀ {a : List UInt8}, b ∉ a → Lib.index (a ++ b :: r) [b] = a.length
  | [], _ => by
    rw [List.nil_append]
    unfold Lib.index
    rw [if_pos (by simp [List.isPrefixOf])]; rfl
  | c :: a, h => by
    have h1 : ¬ b = c := fun e => h (by rw [e]; exact List.mem_cons_self)
    have h2 := idx_at (r := r) (a := a) (fun e => h (List.mem_cons_of_mem _ e))
    rw [List.cons_append]
    unfold Lib.index
    rw [if_neg (by simpa [List.isPrefixOf] using h1), h2, if_neg (by simp), List.length_cons]
    rfl
theorem has_or (b : UInt8) : ∀ s : List UInt8, b ∉ s ∨ ∃ a r, s = a ++ b :: r ∧ b ∉ a
  | [] => .inl (by simp)
  | c :: s => by
    by_cases h : b = c
    · exact .inr ⟨[], s, by rw [h]; rfl, by simp⟩
    · rcases has_or b s with h1 | ⟨a, r, rfl, h1⟩
      · exact .inl (by simp [h, h1])
      · exact .inr ⟨c :: a, r, rfl, by simp [h, h1]⟩
theorem splA_no {b : UInt8} : ∀ {s cur : List UInt8}, b ∉ s → splA b cur s = [cur ++ s]
  | [], cur, _ => by rw [splA, List.append_nil]
  | c :: r, cur, h => by
    have h1 : ¬ c = b := fun e => h (by rw [e]; exact List.mem_cons_self)
    rw [splA, if_neg h1, splA_no (fun e => h (List.mem_cons_of_mem _ e))]; simp
theorem splA_at {b : UInt8} {r : List UInt8} : ∀ {a cur : List UInt8}, b ∉ a → splA b cur (a ++ b :: r) = (cur ++ a) :: spl b r
  | [], cur, _ => by rw [List.nil_append, splA, if_pos rfl, List.append_nil]; rfl
  | c :: a, cur, h => by
    have h1 : ¬ c = b := fun e => h (by rw [e]; exact List.mem_cons_self)
    rw [List.cons_append, splA, if_neg h1, splA_at (fun e => h (List.mem_cons_of_mem _ e))]; simp
theorem spl_no {b : UInt8} {s : List UInt8} (h : b ∉ s) : spl b s = [s] := splA_no h
theorem spl_at {b : UInt8} {a r : List UInt8} (h : b ∉ a) : spl b (a ++ b :: r) = a :: spl b r := splA_at h
theorem drop_at (a r : List UInt8) (b : UInt8) : (a ++ b :: r).drop (a.length + 1) = r := by simp [List.drop_append]
theorem split_spl (b : UInt8) : ∀ (n : Nat) (s : List UInt8), s.length = n → Lib.split s [b] = spl b s := by
  intro n
  induction n using Nat.strongRecOn with
  | _ n ih =>
    intro s hn
    rcases has_or b s with h | ⟨a, r, rfl, h⟩
    · rw [spl_no h]
      unfold Lib.split
      rw [Lib.count_miss (idx_no h)]; rfl
    · rw [spl_at h, ← ih r.length (by rw [← hn]; simp; omega) r rfl]
      have hi := idx_at (r := r) h
      unfold Lib.split
      rw [Lib.count_hit (by simp) hi, Nat.add_comm, Lib.splitK, hi, if_neg (by simp), show [b].length = 1 from rfl, Int.toNat_natCast, Nat.add_zero, drop_at]
      simp
theorem split_is (b : UInt8) (s : List UInt8) : Lib.split s [b] = spl b s := split_spl b _ s rfl
theorem cut_at {b : UInt8} {a r : List UInt8} (h : b ∉ a) : Lib.cut (a ++ b :: r) [b] = (a, r, true) := by
  unfold Lib.cut
  rw [idx_at h, if_pos (by omega), Int.toNat_natCast, show [b].length = 1 from rfl, drop_at]
  simp
theorem join_two (b : UInt8) (x : List UInt8) {r : List (List UInt8)} (h : r ≠ []) : Lib.join (x :: r) [b] = x ++ b :: Lib.join r [b] := by
  cases r with
  | nil => exact absurd rfl h
  | cons y r => rw [Lib.join_cons, Lib.join_cons]; simp [Lib.joinTail]
theorem spl_join {b : UInt8} : ∀ {ps : List (List UInt8)}, ps ≠ [] → (∀ p ∈ ps, b ∉ p) → spl b (Lib.join ps [b]) = ps
  | [], h, _ => absurd rfl h
  | [x], _, h => by rw [Lib.join_one, spl_no (h x (by simp))]
  | x :: y :: r, _, h => by rw [join_two b x (by simp), spl_at (h x (by simp)), spl_join (by simp) (fun p hp => h p (by simp at hp ⊢; exact .inr hp))]
theorem itoa_mem {n : Int} {c : UInt8} (h : c ∈ Lib.itoa n) : isD c = true ∨ (n < 0 ∧ c = 45) := by
  unfold Lib.itoa at h
  split at h
  · rename_i hn
    rcases List.mem_cons.1 h with h | h
    · exact .inr ⟨hn, h⟩
    · exact .inl (dec_isD _ _ h)
  · exact .inl (dec_isD _ _ h)
theorem itoa44 (n : Int) : (44 : UInt8) ∉ Lib.itoa n := fun h => by
  rcases itoa_mem h with h | ⟨_, h⟩
  · exact absurd h (by decide)
  · exact absurd h (by decide)
theorem itoa59 (n : Int) : (59 : UInt8) ∉ Lib.itoa n := fun h => by
  rcases itoa_mem h with h | ⟨_, h⟩
  · exact absurd h (by decide)
  · exact absurd h (by decide)
theorem itoa45 {n : Int} (hn : 0 ≤ n) : (45 : UInt8) ∉ Lib.itoa n := fun h => by
  rcases itoa_mem h with h | ⟨h, _⟩
  · exact absurd h (by decide)
  · omega
theorem join_mem {b : UInt8} : ∀ {ps : List (List UInt8)} {c : UInt8}, c ∈ Lib.join ps [b] → c = b ∨ ∃ p ∈ ps, c ∈ p
  | [], c, h => by rw [Lib.join_nil] at h; simp at h
  | [x], c, h => by rw [Lib.join_one] at h; exact .inr ⟨x, by simp, h⟩
  | x :: y :: r, c, h => by
    rw [join_two b x (by simp), List.mem_append, List.mem_cons] at h
    rcases h with h | h | h
    · exact .inr ⟨x, by simp, h⟩
    · exact .inl h
    · rcases join_mem h with h | ⟨p, hp, hc⟩
      · exact .inl h
      · exact .inr ⟨p, List.mem_cons_of_mem _ hp, hc⟩
def edW (t : List UInt8) : List (List UInt8) := if t = [] then [] else spl 44 t
def inL (l : List Int) : Bool := decide (l.length ≤ 100) && l.all fun n => decide (-999999999 ≤ n) && decide (n ≤ 999999999)
def ltx (l : List Int) : List UInt8 := if l = [] then [45] else Lib.join (l.map Lib.itoa) [44]
def lText (l : List Int) : List UInt8 := if inL l = true then ltx l else []
def etx (e : Int × Int) : List UInt8 := Lib.itoa e.1 ++ 45 :: Lib.itoa e.2
def gtx (cols : List Int) (es : List (Int × Int)) : List UInt8 := ltx cols ++ 59 :: Lib.join (es.map etx) [44]
def rdP (s : List UInt8) : List Int := if s = [45] then [] else if lText ((spl 44 s).map fun w => (rdD w).getD 0) = s then (spl 44 s).map fun w => (rdD w).getD 0 else []
def rdQ (w : List UInt8) : Int × Int := ((rdD (Lib.cut w [45]).1).getD 0, (rdD (Lib.cut w [45]).2.1).getD 0)
def rgC (s : List UInt8) : List Int := rdP (Lib.cut s [59]).1
def rgE (s : List UInt8) : List (Int × Int) := (edW (Lib.cut s [59]).2.1).map rdQ
def rgP (s : List UInt8) : Option (List Int × List (Int × Int)) := if grB (rgC s) (rgE s) = true ∧ gtx (rgC s) (rgE s) = s then some (rgC s, rgE s) else none
theorem ltx59 (l : List Int) : (59 : UInt8) ∉ ltx l := fun h => by
  unfold ltx at h
  split at h
  · exact absurd h (by decide)
  · rcases join_mem h with h | ⟨p, hp, hc⟩
    · exact absurd h (by decide)
    · obtain ⟨n, _, rfl⟩ := List.mem_map.1 hp
      exact itoa59 n hc
theorem ltx_45 {l : List Int} (h : l ≠ []) (h0 : ∀ n ∈ l, 0 ≤ n) : ltx l ≠ [45] := fun e => by
  unfold ltx at e
  rw [if_neg h] at e
  have : (45 : UInt8) ∈ Lib.join (l.map Lib.itoa) [44] := by rw [e]; simp
  rcases join_mem this with h1 | ⟨p, hp, hc⟩
  · exact absurd h1 (by decide)
  · obtain ⟨n, hn, rfl⟩ := List.mem_map.1 hp
    exact itoa45 (h0 n hn) hc
theorem etx44 (e : Int × Int) : (44 : UInt8) ∉ etx e := fun h => by
  unfold etx at h
  rw [List.mem_append, List.mem_cons] at h
  rcases h with h | h | h
  · exact itoa44 _ h
  · exact absurd h (by decide)
  · exact itoa44 _ h
theorem grB_facts {cols : List Int} {es : List (Int × Int)} (h : grB cols es = true) : cols.length ≤ 64 ∧ (∀ c ∈ cols, 0 ≤ c ∧ c ≤ 63) ∧ es.length ≤ 512 ∧ ∀ e ∈ es, 0 ≤ e.1 ∧ 0 ≤ e.2 ∧ e.1 < 64 ∧ e.2 < 64 := by
  unfold grB edsB colsB at h
  simp only [Bool.and_eq_true, decide_eq_true_eq, List.all_eq_true] at h
  obtain ⟨⟨h1, _⟩, ⟨h2, h3⟩, h4⟩ := h
  refine ⟨h2, h3, h4, fun e he => ?_⟩
  have := h1 e he
  unfold edB at this
  simp only [Bool.and_eq_true, decide_eq_true_eq] at this
  omega
theorem inL_of {cols : List Int} (h : cols.length ≤ 64) (h2 : ∀ c ∈ cols, 0 ≤ c ∧ c ≤ 63) : inL cols = true := by
  unfold inL
  rw [decide_eq_true (by omega), Bool.true_and, List.all_eq_true]
  intro c hc
  have := h2 c hc
  rw [decide_eq_true (by omega), decide_eq_true (by omega)]; rfl
theorem rdN_small {n : Int} (h : n.natAbs < 10 ^ 18) : rdN (Lib.itoa n) = some n := (rdN_iff _ _).2 ⟨rfl, h⟩
theorem edW_join (es : List (Int × Int)) : edW (Lib.join (es.map etx) [44]) = es.map etx := by
  unfold edW
  by_cases h : es = []
  · subst h; rfl
  · have h1 : es.map etx ≠ [] := by simpa using h
    have h2 := spl_join (b := 44) h1 (fun p hp => by obtain ⟨e, _, rfl⟩ := List.mem_map.1 hp; exact etx44 e)
    rw [if_neg ?_, h2]
    intro h3
    rw [h3] at h2
    rw [show spl 44 [] = [[]] from rfl] at h2
    have : ([] : List UInt8) ∈ es.map etx := by rw [← h2]; simp
    obtain ⟨e, _, he⟩ := List.mem_map.1 this
    unfold etx at he
    simp at he
theorem rgP_iff (s : List UInt8) (g : List Int × List (Int × Int)) : rgP s = some g ↔ grB g.1 g.2 = true ∧ gtx g.1 g.2 = s := by
  obtain ⟨cols, es⟩ := g
  constructor
  · intro h
    unfold rgP at h
    split at h
    · rename_i h2; cases h; exact h2
    · cases h
  · rintro ⟨hg, rfl⟩
    obtain ⟨h1, h2, h3, h4⟩ := grB_facts hg
    replace h1 : cols.length ≤ 64 := h1
    have hc : Lib.cut (gtx cols es) [59] = (ltx cols, Lib.join (es.map etx) [44], true) := cut_at (ltx59 cols)
    have e1 : rgC (gtx cols es) = cols := by
      unfold rgC
      rw [hc]
      show rdP (ltx cols) = cols
      unfold rdP
      by_cases hn : cols = []
      · subst hn; rfl
      · rw [if_neg (ltx_45 hn fun n hn => (h2 n hn).1)]
        have h5 : spl 44 (ltx cols) = cols.map Lib.itoa := by
          unfold ltx
          rw [if_neg hn]
          exact spl_join (by simpa using hn) (fun p hp => by obtain ⟨n, _, rfl⟩ := List.mem_map.1 hp; exact itoa44 n)
        have h6 : (spl 44 (ltx cols)).map (fun w => (rdD w).getD 0) = cols := by
          rw [h5, List.map_map]
          refine (List.map_congr_left fun n hn => ?_).trans (List.map_id cols)
          have := h2 n hn
          show (rdD (Lib.itoa n)).getD 0 = n
          rw [rdD_is, rdN_small (by omega)]; rfl
        rw [h6, if_pos]
        unfold lText
        rw [if_pos (inL_of h1 h2)]
    have e2 : rgE (gtx cols es) = es := by
      unfold rgE
      rw [hc]
      show (edW (Lib.join (es.map etx) [44])).map rdQ = es
      rw [edW_join, List.map_map]
      refine (List.map_congr_left fun e he => ?_).trans (List.map_id es)
      have := h4 e he
      show rdQ (etx e) = e
      unfold rdQ etx
      rw [cut_at (itoa45 this.1)]
      simp only
      rw [rdD_is, rdD_is, rdN_small (by omega), rdN_small (by omega)]
      rfl
    unfold rgP
    rw [e1, e2, if_pos ⟨hg, rfl⟩]
end Go.Proofs.YtdgcgckehihboaaGreatDoor
namespace Go.Proofs.YtdgcgckehihboaaGreatDoor
variable [Go.Av.DoorC] [Go.Proofs.YtdgcgckehihboaaGreatDoor.DoorT]
open Go.Av
end Go.Proofs.YtdgcgckehihboaaGreatDoor
namespace Go.Av
variable [Go.Av.DoorC] [Go.Proofs.YtdgcgckehihboaaGreatDoor.DoorT]
theorem SW.thenZ {P : Program} {n k0 : Nat} {Q : SX → Env → List Blk → Prop} {E : Env} {H : List Blk} {x y : SC} (M : Env → List Blk → Prop) (h1 : Go.Av.SW P n k0 x (fun s E' H' => match s with | .nrm => M E' H' | s => Q s E' H') E H) (h2 : ∀ E' H', M E' H' → Go.Av.SW P n k0 y Q E' H') : Go.Av.SW P n k0 x (SThen P n k0 y Q) E H := by
  refine SW.mono ?_ h1
  intro s E' H' h
  cases s with
  | nrm => exact h2 _ _ h
  | ext id => exact h
  | ret => exact h
end Go.Av
namespace Go.Proofs.YtdgcgckehihboaaGreatDoor
variable [Go.Av.DoorC] [Go.Proofs.YtdgcgckehihboaaGreatDoor.DoorT]
open Go.Av
@[go_sem] theorem aview_ilT (H : List Blk) (ls : List (List UInt8)) : aview H (ilT ls) = some (ls.length, ls.map Tx) := rfl
@[go_sem] theorem cell1_ilT (ls : List (List UInt8)) : (ilT ls).cell1 = true := rfl
@[go_sem] theorem partsOf_ilT (ls : List (List UInt8)) : partsOf (ilT ls) = [ilT ls] := rfl
@[go_sem] theorem getTx {xs : List (List UInt8)} {i : Nat} (h : i < xs.length) : (xs.map Tx)[i]? = some (Tx (xs.getD i [])) := by simp [List.getElem?_eq_getElem h]
@[go_sem] theorem allT1 (xs : List (List UInt8)) : (xs.map Tx).all AV.cell1 = true := by rw [List.all_eq_true]; intro c hc; obtain ⟨x, _, rfl⟩ := List.mem_map.1 hc; rfl
theorem Bel_ilT (k : Nat) (ls : List (List UInt8)) : Bel k (ilT ls) := .il _ _ (by intro c hc; obtain ⟨x, _, rfl⟩ := List.mem_map.1 hc; exact .lit _)
theorem splA_len {b : UInt8} : ∀ {s cur p : List UInt8}, p ∈ splA b cur s → p.length ≤ cur.length + s.length
  | [], cur, p, h => by rw [splA, List.mem_singleton] at h; rw [h]; simp
  | c :: r, cur, p, h => by
    rw [splA] at h
    split at h
    · rcases List.mem_cons.1 h with h | h
      · rw [h]; omega
      · have := splA_len h; simp at this ⊢; omega
    · have := splA_len h; simp at this ⊢; omega
theorem spl_len {b : UInt8} {s p : List UInt8} (h : p ∈ spl b s) : p.length ≤ s.length := by have := splA_len h; simpa using this
theorem splA_num {b : UInt8} : ∀ {s cur : List UInt8}, (splA b cur s).length ≤ s.length + 1
  | [], cur => by simp [splA]
  | c :: r, cur => by
    rw [splA]
    split
    · have := splA_num (b := b) (s := r) (cur := []); simp; omega
    · have := splA_num (b := b) (s := r) (cur := cur ++ [c]); simp; omega
theorem spl_num (b : UInt8) (s : List UInt8) : (spl b s).length ≤ s.length + 1 := splA_num
theorem edW_len {s p : List UInt8} (h : p ∈ edW s) : p.length ≤ s.length := by
  unfold edW at h
  split at h
  · simp at h
  · exact spl_len h
theorem edW_num (s : List UInt8) : (edW s).length ≤ s.length + 1 := by
  unfold edW
  split
  · simp
  · exact spl_num 44 s
@[go_sem] theorem sopV_idx0 (c : UInt8) (r : List UInt8) : sopV .idx [Tx (c :: r), I 0] = some (U8 c) := sopV_idx (c :: r) 0 (by simp)
@[go_sem] theorem sopV_slc1 (c : UInt8) (r : List UInt8) : sopV (.slc true false) [Tx (c :: r), I 1] = some (Tx r) := sopV_slcL (c :: r) 1 (by simp)
theorem froz_T {H : List Blk} {b r ver ty n : Nat} {xs : List (List UInt8)} (hb : b ≤ r) (hr : H[r]? = some ⟨ver, ty, 1, xs.map Tx⟩) (hn : n = xs.length) : Froz H b (.nm r ver 0 n) (ilT xs) := by
  subst hn
  have := froz_own (e := fun _ => nilS) (cs' := xs.map Tx) hb hr rfl (fun j c c' h1 h2 => by
    rw [h1] at h2; cases h2
    obtain ⟨x, _, rfl⟩ := List.mem_map.1 (List.mem_of_getElem? h1)
    exact .old _ (.lit _))
  simpa [ilT] using this
end Go.Proofs.YtdgcgckehihboaaGreatDoor
