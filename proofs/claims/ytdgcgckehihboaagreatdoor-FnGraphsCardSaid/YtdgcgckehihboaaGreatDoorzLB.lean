/- The library's functions on texts. -/
import Derived.Test.YtdgcgckehihboaaGreatDoorzST
import Derived.Test.YtdgcgckehihboaaGreatDoorzLt
import Derived.Test.YtdgcgckehihboaaGreatDoorzU1
import Derived.Test.YtdgcgckehihboaaGreatDoorzL1
set_option linter.unusedSimpArgs false
set_option linter.unusedVariables false
set_option linter.unusedSectionVars false
set_option maxHeartbeats 4000000
set_option maxRecDepth 100000
namespace Go.Proofs.YtdgcgckehihboaaGreatDoor
variable [Go.Av.DoorC]
open Go.Av Go.RowKit
abbrev n_Cut : Nat := 16
abbrev n_Split : Nat := 18
abbrev n_Trim : Nat := 40
abbrev n_Join : Nat := 22
abbrev n_Fmt : Nat := 42
abbrev n_Parse : Nat := 41
class DoorT : Prop where t : DoorC.d
variable [DoorT]
theorem blw_of {B : Nat} {w w' : World} (h : Below B w w') : Blw B w w' := .of h (.inl DoorT.t)
theorem PFn.lib {P : Program} {f : FuncId} {az : List AV} (vs : List Value) (has : ∀ (F : Fz) (m : List Ent) (us : List Value), Rels F m az us → us = vs) {v : AV} {u : Value} (hrel : ∀ (F : Fz) (m : List Ent), Rel F m v u)
    (h : ∀ w, Globs w → Calls P f vs.toArray w fun e w' => e = .returned u ∧ Below w.heap.size w w') : PFn P f az v := by
  intro H B W0 F m w us hr hs
  obtain rfl := has _ _ _ hr
  refine (h w (Globs.step hs.glob hs.below)).mono ?_
  rintro e w' ⟨rfl, hb⟩
  exact ⟨F, m, H, v, u, rfl, FLe.refl _, MLe.refl _, hrel F m, hs.world (blw_of hb), rfl, rfl⟩
theorem lits2 {F : Fz} {m : List Ent} {a b : Value} {us : List Value} (h : Rels F m [.lit a, .lit b] us) : us = [a, b] := by
  obtain ⟨x, r, rfl, h1, h⟩ := h.inv_cons
  obtain ⟨y, r, rfl, h2, h⟩ := h.inv_cons
  rw [h.inv_nil, h1.lit_inv, h2.lit_inv]
theorem lits3 {F : Fz} {m : List Ent} {a b c : Value} {us : List Value} (h : Rels F m [.lit a, .lit b, .lit c] us) : us = [a, b, c] := by
  obtain ⟨x, r, rfl, h1, h⟩ := h.inv_cons
  rw [lits2 h, h1.lit_inv]
theorem rel_tup {F : Fz} {m : List Ent} (vs : List Value) : Rel F m (.tup (vs.map .lit)) (.tuple vs.toArray) := by
  refine .tup _ _ (by simp) fun j c v h1 h2 => ?_
  rw [List.getElem?_map, h2] at h1
  cases h1
  exact .lit v
theorem below_drewN (w : World) (n : Nat) : Below w.heap.size w (w.drewN n) := ⟨rfl, rfl, rfl, Nat.le_refl _, fun _ _ => rfl⟩
theorem below_grow (w : World) (k : Nat) (os : Array Obj) : Below w.heap.size w (Sort.grow (w.drewN k) os) := by
  refine ⟨rfl, rfl, rfl, by simp [Sort.grow], fun j hj => ?_⟩
  simp [Sort.grow, Array.getElem?_append, hj]
theorem cut_fn (s sep : List UInt8) (hs : s.length < 4294967281) : PFn Tryz.prog n_Cut [Tx s, Tx sep] (.tup [Tx (Lib.cut s sep).1, Tx (Lib.cut s sep).2.1, Bv (Lib.cut s sep).2.2]) := by
  refine PFn.lib [.string ⟨s.toArray⟩, .string ⟨sep.toArray⟩] (fun F m us h => lits2 h) (fun F m => rel_tup [.string ⟨(Lib.cut s sep).1.toArray⟩, .string ⟨(Lib.cut s sep).2.1.toArray⟩, .bool (Lib.cut s sep).2.2]) fun w hg => ?_
  obtain ⟨⟨m, h1⟩, -⟩ := hg
  refine (Any.strings_Cut Tryz.lays145 ⟨s.toArray⟩ ⟨sep.toArray⟩ m w (by rw [ba_size]; exact hs) h1).mono ?_
  rintro e w' ⟨rfl, n, rfl⟩
  exact ⟨rfl, below_drewN w n⟩
theorem trim_fn (s p : List UInt8) : PFn Tryz.prog n_Trim [Tx s, Tx p] (Tx (Lib.trimPrefix s p)) := by
  refine PFn.lib [.string ⟨s.toArray⟩, .string ⟨p.toArray⟩] (fun F m us h => lits2 h) (fun F m => .lit _) fun w hg => ?_
  refine (Any.strings_TrimPrefix Tryz.lays101 ⟨s.toArray⟩ ⟨p.toArray⟩ w).mono ?_
  rintro e w' ⟨rfl, rfl⟩
  exact ⟨rfl, Below.refl _ _⟩
theorem fmt_fn (n : Int) (h0 : -9223372036854775808 ≤ n) (h1 : n ≤ 9223372036854775807) : PFn Tryz.prog n_Fmt [I n, I 10] (Tx (Lib.itoa n)) := by
  refine PFn.lib [.int .i64 n, .int .i64 10] (fun F m us h => lits2 h) (fun F m => .lit _) fun w hg => ?_
  obtain ⟨-, ⟨t, q, h2⟩, -⟩ := hg
  refine (Any.strconv_FormatInt_10 Tryz.laysM173 n h0 h1 w ?_).mono ?_
  · unfold Lib.TabIs World.var?
    rw [show Go.Program.globalNamed Tryz.prog _ = some 3 from by kernel_rfl]
    simp only [Option.bind_some, h2]
  · rintro e w' ⟨rfl, k, os, rfl⟩
    exact ⟨rfl, below_grow w k os⟩
theorem parse_ok (s : List UInt8) (v : Int) (hs : s.length ≤ 1000000000) (h : Lib.parseIntB 64 s = .ok v) : PFn Tryz.prog n_Parse [Tx s, I 10, I 64] (.tup [I v, .lit .nilIface]) := by
  refine PFn.lib [.string ⟨s.toArray⟩, .int .i64 10, .int .i64 64] (fun F m us h => lits3 h) (fun F m => rel_tup [.int .i64 v, .nilIface]) fun w hg => ?_
  refine (Any.strconv_ParseInt_10_at64_ok Tryz.laysC174 ⟨s.toArray⟩ (by rw [ba_size]; omega) v h w).mono ?_
  rintro e w' ⟨rfl, rfl | ⟨t, rfl⟩⟩
  · exact ⟨rfl, Below.refl _ _⟩
  · exact ⟨rfl, Lib.bytesWorld_below _ _ _⟩
theorem parse_err (H : List Blk) (s : List UInt8) (hs : s.length ≤ 1000000000) (h : ∀ v, Lib.parseIntB 64 s ≠ .ok v) : ACalls Tryz.prog n_Parse [Tx s, I 10, I 64] H (fun r H' => (∃ v q z, r = .tup [I v, .lit (.iface q z)]) ∧ H' = H) := by
  intro B W0 F m w us hr hs'
  obtain rfl := lits3 hr
  obtain ⟨-, -, ⟨t3, p3, h3⟩, t4, p4, h4⟩ := Globs.step hs'.glob hs'.below
  rcases hp : Lib.parseIntB 64 s with v | _ | _
  · exact absurd hp (h v)
  · skip
    refine (Any.strconv_ParseInt_10_at64_syntax_var Tryz.laysC174 ⟨s.toArray⟩ (by rw [ba_size]; omega) hp t3 p3 w h3).mono ?_
    rintro e w' ⟨N, rfl, -, -, hb⟩
    exact ⟨F, m, H, .tup [I 0, .lit _], _, rfl, FLe.refl _, MLe.refl _, rel_tup [.int .i64 0, _], hs'.world (blw_of hb), ⟨_, _, _, rfl⟩, rfl⟩
  · skip
    refine (Any.strconv_ParseInt_10_at64_range_var Tryz.laysC174 ⟨s.toArray⟩ (by rw [ba_size]; omega) hp t4 p4 w h4).mono ?_
    rintro e w' ⟨N, rfl, -, -, hb⟩
    exact ⟨F, m, H, .tup [I _, .lit _], _, rfl, FLe.refl _, MLe.refl _, rel_tup [.int .i64 _, _], hs'.world (blw_of hb), ⟨_, _, _, rfl⟩, rfl⟩
theorem pieces_cell' (w : World) (cs : Array Value) (ty : TypeId) (o : Nat) : (w.alloc (.cells cs ty)).cell? ⟨w.heap.size, o, none⟩ = cs[o]? := by
  rw [World.cell?_of_block (w := { w with heap := w.heap.push (.cells cs ty) }) (w' := w.alloc (.cells cs ty)) (a := ⟨w.heap.size, o, none⟩) rfl]
  simp [World.cell?]
theorem sim_fresh {B : Nat} {W0 : World} {F : Fz} {m : List Ent} {H : List Blk} {w : World} (h : Sim B W0 F m H w) (cs : Array Value) (ty : TypeId) (ho : ∀ (j : Nat) (v : Value), cs[j]? = some v → v.oneCell' = true) :
    Sim B W0 (fun b o v => F b o v ∨ (b = w.heap.size ∧ cs[o]? = some v)) m H (w.alloc (.cells cs ty)) := by
  have hb : Blw w.heap.size w (w.alloc (.cells cs ty)) := (Blw.refl _ _).alloc (Nat.le_refl _) _
  have h1 := h.world hb
  refine ⟨h1.len, h1.below, h1.base, ?_, ?_, h1.dist, ?_, h1.glob⟩
  · rintro b o v (hf | ⟨rfl, hc⟩)
    · exact h1.fz b o v hf
    · exact ⟨(pieces_cell' w cs ty o).trans hc, ho o v hc⟩
  · rintro i e b o v he hbk (hf | ⟨rfl, _⟩)
    · exact h1.apart i e b o v he hbk hf
    · have := h.blk_lt he hbk; omega
  · intro i e k he hk
    exact (h1.blk i e k he hk).mono (fun b o v hf => .inl hf) (MLe.refl _) (fun b _ => rfl)
def ilT (ls : List (List UInt8)) : AV := .il ls.length (ls.map Tx)
theorem split_fn (s sep : List UInt8) (hs : s.length < 4294967281) (h1 : 1 ≤ sep.length) : PFn Tryz.prog n_Split [Tx s, Tx sep] (ilT (Lib.split s sep)) := by
  intro H B W0 F m w us hr hs'
  obtain rfl := lits2 hr
  obtain ⟨⟨mm, hm⟩, -⟩ := Globs.step hs'.glob hs'.below
  refine (Any.strings_Split Tryz.lays146 (by kernel_rfl) ⟨s.toArray⟩ ⟨sep.toArray⟩ mm w (by rw [ba_size]; exact hs) hm (by rw [ba_size]; exact h1)).mono ?_
  rintro e w' ⟨rfl, rfl⟩
  have hlen := Lib.splitB_all (⟨sep.toArray⟩ : ByteArray) (by rw [ba_size]; exact h1) 0 _ (⟨s.toArray⟩ : ByteArray) rfl
  have hdat := Lib.splitB_data (⟨sep.toArray⟩ : ByteArray) 0 (Lib.countB ⟨s.toArray⟩ ⟨sep.toArray⟩) (⟨s.toArray⟩ : ByteArray)
  have hsp : Lib.split s sep = (Lib.splitB ⟨sep.toArray⟩ 0 (Lib.countB ⟨s.toArray⟩ ⟨sep.toArray⟩) ⟨s.toArray⟩).map (·.data.toList) := by
    rw [hdat]; rfl
  generalize hps : Lib.splitB ⟨sep.toArray⟩ 0 (Lib.countB ⟨s.toArray⟩ ⟨sep.toArray⟩) ⟨s.toArray⟩ = ps at *
  generalize hn : Lib.countB ⟨s.toArray⟩ ⟨sep.toArray⟩ + 1 = n at *
  have hf := sim_fresh hs' (ps.map Value.string).toArray 9 (fun j v hv => by
    simp only [List.getElem?_toArray, List.getElem?_map] at hv
    cases hp : ps[j]? with
    | none => rw [hp] at hv; cases hv
    | some p => rw [hp] at hv; cases hv; rfl)
  refine ⟨_, m, H, _, _, rfl, fun b o v hv => .inl hv, MLe.refl _, ?_, hf, rfl, rfl⟩
  unfold ilT
  rw [hsp, List.length_map, hlen]
  refine .il n _ w.heap.size 0 n (ps.map Value.string) (Nat.le_refl _) ?_ (by simp) (fun j v hv => .inr ⟨rfl, ?_⟩) ?_
  · have := Lib.countB_le (⟨sep.toArray⟩ : ByteArray) (by rw [ba_size]; exact h1) _ (⟨s.toArray⟩ : ByteArray) (Nat.le_refl _)
    rw [ba_size] at this
    unfold maxLen; omega
  · rw [Nat.zero_add]; simpa using hv
  · intro j c v hc hv
    rw [List.getElem?_map, List.getElem?_map] at hc
    rw [List.getElem?_map] at hv
    cases hp : ps[j]? with
    | none => rw [hp] at hv; cases hv
    | some p =>
      rw [hp] at hv hc
      cases hv; cases hc
      rw [show Tx p.data.toList = .lit (.string p) by unfold Tx; congr]
      exact .lit _
theorem join_fn (xs : List (List UInt8)) (sep : List UInt8) (hN : xs.length ≤ 1000000000) (hlen : (Lib.join xs sep).length ≤ 140737488355328) : PFn Tryz.prog n_Join [ilT xs, Tx sep] (Tx (Lib.join xs sep)) := by
  intro H B W0 F m w us hr hs'
  obtain ⟨x, r, rfl, h1, hr⟩ := hr.inv_cons
  obtain ⟨y, r, rfl, h2, hr⟩ := hr.inv_cons
  obtain rfl := hr.inv_nil
  obtain rfl := h2.lit_inv
  have hdat : (xs.map fun l => (⟨l.toArray⟩ : ByteArray)).map (·.data.toList) = xs := by
    rw [List.map_map]
    exact (List.map_congr_left fun l _ => rfl).trans (List.map_id xs)
  have hfin : (∃ a c, x = .slice a 0 c ∧ xs = []) ∨ ∃ b o c vs, x = .slice (some ⟨b, o, none⟩) xs.length c ∧ xs.length ≤ c ∧ 0 < xs.length ∧ Rels F m (xs.map Tx) vs ∧ ∀ (j : Nat) (v : Value), vs[j]? = some v → w.cell? ⟨b, o + j, none⟩ = some v ∧ v.oneCell' = true := by
    obtain ⟨-, ⟨b, o, c, vs, hx, hc, -, hr, hv⟩ | ⟨⟨q, hx⟩, h0, hc⟩⟩ := aview_sound hs' h1 (show aview H (ilT xs) = some (xs.length, xs.map Tx) from rfl)
    · by_cases he : xs = []
      · subst he; exact .inl ⟨_, _, hx, rfl⟩
      · exact .inr ⟨b, o, c, vs, hx, hc, List.length_pos_iff.2 he, hr, hv⟩
    · exact .inl ⟨_, _, hx, by simpa using h0⟩
  rcases hfin with ⟨a, c, rfl, rfl⟩ | ⟨b, o, c, vs, rfl, hc, hpos, hr, hv⟩
  · refine (Any.strings_Join_none Tryz.lays156 Tryz.Builder_Extra_156 a c ⟨sep.toArray⟩ w).mono ?_
    rintro e w' ⟨rfl, rfl⟩
    exact ⟨F, m, H, _, _, rfl, FLe.refl _, MLe.refl _, .lit _, hs', by rw [Lib.join_nil]; rfl, rfl⟩
  · have hvj : ∀ (j : Nat) (l : List UInt8), xs[j]? = some l → vs[j]? = some (.string ⟨l.toArray⟩) := fun j l hl => by
      have hj : j < vs.length := by
        have h3 := hr.1
        rw [List.length_map] at h3
        rw [← h3]; exact (List.getElem?_eq_some_iff.1 hl).1
      have h4 := hr.2 j (Tx l) vs[j] (by rw [List.getElem?_map, hl]; rfl) (List.getElem?_eq_getElem hj)
      rw [List.getElem?_eq_getElem hj, h4.lit_inv]
    have hcell : ∀ (j : Nat) (l : List UInt8), xs[j]? = some l → w.cell? ⟨b, o + j, none⟩ = some (.string ⟨l.toArray⟩) := fun j l hl => (hv j _ (hvj j l hl)).1
    have hb : b < w.heap.size := World.block_lt_of_cell? w ⟨b, o + 0, none⟩ (hcell 0 xs[0] (List.getElem?_eq_getElem hpos))
    have hj := Any.strings_Join Tryz.lays156 Tryz.Builder_Extra_156 b o c (xs.map fun l => (⟨l.toArray⟩ : ByteArray)) ⟨sep.toArray⟩ w (fun j z hz => by
      rw [List.getElem?_map] at hz
      cases hl : xs[j]? with
      | none => rw [hl] at hz; cases hz
      | some l => rw [hl] at hz; cases hz; exact hcell j l hl) hb (by rw [List.length_map]; omega) (by rw [List.length_map]; exact hc) (by rw [hdat]; exact hlen)
    rw [List.length_map, hdat] at hj
    refine hj.mono ?_
    rintro e w' ⟨rfl, hbl⟩
    exact ⟨F, m, H, _, _, rfl, FLe.refl _, MLe.refl _, .lit _, hs'.world (blw_of hbl), rfl, rfl⟩
end Go.Proofs.YtdgcgckehihboaaGreatDoor
namespace Go.Proofs.YtdgcgckehihboaaGreatDoor
variable [Go.Av.DoorC]
open Go.Av Go.Lib
def isD (c : UInt8) : Bool := decide (48 ≤ c.toNat) && decide (c.toNat ≤ 57)
def magF : List UInt8 → Nat → Option Nat
  | [], a => some a
  | c :: r, a => if isD c = true then magF r (10 * a + (c.toNat - 48)) else none
theorem magF_app : ∀ (l m : List UInt8) (a : Nat), magF (l ++ m) a = (magF l a).bind (magF m)
  | [], m, a => rfl
  | c :: r, m, a => by
    rw [List.cons_append, magF, magF]
    split
    · exact magF_app r m _
    · rfl
theorem toNat_digit {d : Nat} (h : d < 10) : (UInt8.ofNat (48 + d)).toNat = 48 + d := UInt8.toNat_ofNat_of_lt' (show 48 + d < 256 by omega)
theorem isD_digit {d : Nat} (h : d < 10) : isD (UInt8.ofNat (48 + d)) = true := by
  unfold isD
  rw [toNat_digit h, decide_eq_true (by omega), decide_eq_true (by omega)]; rfl
theorem dec_small {u : Nat} (h : u < 10) : decDigits u = [UInt8.ofNat (48 + u)] := by rw [decDigits, dif_pos h]
theorem dec_big {u : Nat} (h : ¬ u < 10) : decDigits u = decDigits (u / 10) ++ [UInt8.ofNat (48 + u % 10)] := by rw [decDigits, dif_neg h]
theorem dec_isD (u : Nat) : ∀ c ∈ decDigits u, isD c = true := by
  induction u using Nat.strongRecOn with
  | _ u ih =>
    intro c hc
    by_cases h : u < 10
    · rw [dec_small h, List.mem_singleton] at hc
      subst hc; exact isD_digit h
    · rw [dec_big h, List.mem_append, List.mem_singleton] at hc
      rcases hc with hc | rfl
      · exact ih _ (by omega) c hc
      · exact isD_digit (Nat.mod_lt _ (by omega))
theorem magF_one {d a : Nat} (h : d < 10) : magF [UInt8.ofNat (48 + d)] a = some (10 * a + d) := by
  rw [magF, if_pos (isD_digit h), magF, toNat_digit h]
  congr 1; omega
theorem magF_dec (u : Nat) : magF (decDigits u) 0 = some u := by
  induction u using Nat.strongRecOn with
  | _ u ih =>
    by_cases h : u < 10
    · rw [dec_small h, magF_one h]; congr 1; omega
    · rw [dec_big h, magF_app, ih _ (by omega), Option.bind_some, magF_one (Nat.mod_lt _ (by omega))]
      congr 1; omega
theorem magF_bd : ∀ (l : List UInt8) (a v : Nat), magF l a = some v → v < (a + 1) * 10 ^ l.length
  | [], a, v, h => by cases h; simp
  | c :: r, a, v, h => by
    rw [magF] at h
    split at h
    · rename_i hd
      unfold isD at hd
      simp only [Bool.and_eq_true, decide_eq_true_eq] at hd
      have := magF_bd r _ v h
      have h2 : (10 * a + (c.toNat - 48) + 1) * 10 ^ r.length ≤ (10 * (a + 1)) * 10 ^ r.length := Nat.mul_le_mul_right _ (by omega)
      rw [List.length_cons, Nat.pow_succ]
      have h3 : (a + 1) * (10 ^ r.length * 10) = (10 * (a + 1)) * 10 ^ r.length := by
        rw [Nat.mul_comm (10 ^ r.length) 10, ← Nat.mul_assoc, Nat.mul_comm (a + 1) 10]
      omega
    · cases h
theorem dec_ne (u : Nat) : decDigits u ≠ [] := by
  by_cases h : u < 10
  · rw [dec_small h]; simp
  · rw [dec_big h]; simp
theorem dec_len_le : ∀ (k u : Nat), u < 10 ^ (k + 1) → (decDigits u).length ≤ k + 1
  | 0, u, h => by rw [dec_small (by simpa using h)]; simp
  | k + 1, u, h => by
    by_cases h1 : u < 10
    · rw [dec_small h1]; simp
    · rw [dec_big h1, List.length_append, List.length_singleton]
      have : u / 10 < 10 ^ (k + 1) := by rw [Nat.pow_succ] at h; omega
      have := dec_len_le k _ this
      omega
theorem dec_len18 (u : Nat) : (decDigits u).length ≤ 18 ↔ u < 10 ^ 18 := by
  constructor
  · intro h
    have h1 := magF_bd _ _ _ (magF_dec u)
    have h2 : 10 ^ (decDigits u).length ≤ 10 ^ 18 := Nat.pow_le_pow_right (by omega) h
    omega
  · intro h; exact dec_len_le 17 u h
theorem not45 {c : UInt8} (h : isD c = true) : c ≠ 45 := by
  rintro rfl
  exact absurd h (by decide)
theorem head_dec (u : Nat) : (decDigits u).head? ≠ some 45 := by
  intro h
  cases hd : decDigits u with
  | nil => exact dec_ne u hd
  | cons c r =>
    rw [hd] at h
    simp only [List.head?_cons, Option.some.injEq] at h
    exact not45 (dec_isD u c (by rw [hd]; exact List.mem_cons_self)) h
def bodyN (s : List UInt8) : List UInt8 := if s.head? = some 45 then s.tail else s
theorem body_neg (u : Nat) : bodyN (45 :: decDigits u) = decDigits u := rfl
theorem body_pos (u : Nat) : bodyN (decDigits u) = decDigits u := if_neg (head_dec u)
theorem body_itoa (n : Int) : bodyN (itoa n) = decDigits n.natAbs := by
  unfold itoa
  split
  · exact body_neg _
  · rw [show n.toNat = n.natAbs by omega]; exact body_pos _
theorem body_lt (s : List UInt8) : (bodyN s).length < s.length ↔ s.head? = some 45 := by
  unfold bodyN
  split
  · rename_i h
    cases s with
    | nil => simp at h
    | cons c r => simp at h ⊢; exact h
  · rename_i h
    exact ⟨fun h1 => absurd h1 (Nat.lt_irrefl _), fun h1 => absurd h1 h⟩
theorem itoa_head (n : Int) : (itoa n).head? = some 45 ↔ n < 0 := by
  unfold itoa
  split
  · rename_i h; exact ⟨fun _ => h, fun _ => rfl⟩
  · rename_i h; exact ⟨fun h1 => absurd h1 (head_dec _), fun h1 => absurd h1 h⟩
def rdN (s : List UInt8) : Option Int :=
  if 1 ≤ (bodyN s).length ∧ (bodyN s).length ≤ 18 then
    (magF (bodyN s) 0).bind fun u => if itoa (if (bodyN s).length < s.length then -(u : Int) else u) = s then some (if (bodyN s).length < s.length then -(u : Int) else u) else none
  else none
theorem sign_of (n : Int) : (if (bodyN (itoa n)).length < (itoa n).length then -((n.natAbs : Nat) : Int) else ((n.natAbs : Nat) : Int)) = n := by
  by_cases h : n < 0
  · rw [if_pos ((body_lt _).2 ((itoa_head n).2 h))]; omega
  · rw [if_neg (fun h1 => h ((itoa_head n).1 ((body_lt _).1 h1)))]; omega
theorem rdN_iff (s : List UInt8) (n : Int) : rdN s = some n ↔ itoa n = s ∧ n.natAbs < 10 ^ 18 := by
  constructor
  · intro h
    unfold rdN at h
    split at h
    · rename_i hl
      cases hm : magF (bodyN s) 0 with
      | none => rw [hm] at h; cases h
      | some u =>
        rw [hm, Option.bind_some] at h
        have h3 : (if (bodyN s).length < s.length then -(u : Int) else (u : Int)).natAbs = u := by split <;> omega
        generalize (if (bodyN s).length < s.length then -(u : Int) else (u : Int)) = z at h h3
        by_cases hi : itoa z = s
        · rw [if_pos hi] at h
          cases h
          refine ⟨hi, ?_⟩
          have h1 := magF_bd _ _ _ hm
          have h2 : 10 ^ (bodyN s).length ≤ 10 ^ 18 := Nat.pow_le_pow_right (by omega) hl.2
          omega
        · rw [if_neg hi] at h; cases h
    · cases h
  · rintro ⟨rfl, hb⟩
    unfold rdN
    have h1 := (dec_len18 n.natAbs).2 hb
    have h2 := List.length_pos_iff.2 (dec_ne n.natAbs)
    have hs := sign_of n
    rw [body_itoa] at hs ⊢
    rw [if_pos ⟨by omega, h1⟩, magF_dec, Option.bind_some, hs, if_pos rfl]
def rdD (s : List UInt8) : Option Int :=
  if 1 ≤ (trimPrefix s [45]).length ∧ (trimPrefix s [45]).length ≤ 18 then
    match parseIntB 64 s with
    | .ok n => if itoa n = s then some n else none
    | _ => none
  else none
theorem trim_body (s : List UInt8) : trimPrefix s [45] = bodyN s := by
  unfold trimPrefix bodyN hasPrefix
  cases s with
  | nil => rfl
  | cons c r =>
    by_cases h : c = 45
    · subst h; simp
    · simp [h]; exact fun e => h e.symm
theorem parseM_dec : ∀ (l : List UInt8) (a v : Nat), magF l a = some v → v < 10 ^ 18 → parseUintM (2 ^ 64 - 1) a l = .ok v
  | [], a, v, h, _ => by cases h; rfl
  | c :: r, a, v, h, hv => by
    rw [magF] at h
    split at h
    · rename_i hd
      have hd2 : 48 ≤ c.toNat ∧ c.toNat ≤ 57 := by
        unfold isD at hd
        simpa only [Bool.and_eq_true, decide_eq_true_eq] using hd
      have hmono : ∀ (l : List UInt8) (a v : Nat), magF l a = some v → a ≤ v := by
        intro l
        induction l with
        | nil => intro a v h; cases h; exact Nat.le_refl _
        | cons c r ih =>
          intro a v h
          rw [magF] at h
          split at h
          · have := ih _ _ h; omega
          · cases h
      have h1 := hmono _ _ _ h
      rw [parseUintM, if_pos hd2, if_neg (by omega), if_neg (by omega), show a * 10 + (c.toNat - 48) = 10 * a + (c.toNat - 48) by omega]
      exact parseM_dec r _ v h hv
    · cases h
theorem parse_itoa (n : Int) (h : n.natAbs < 10 ^ 18) : parseIntB 64 (itoa n) = .ok n := by
  have hp := parseM_dec _ _ _ (magF_dec n.natAbs) h
  have hu : parseUintB 64 (decDigits n.natAbs) = .ok n.natAbs := by unfold parseUintB; rw [if_neg (dec_ne _)]; exact hp
  by_cases hn : n < 0
  · have hi : itoa n = 45 :: decDigits n.natAbs := by unfold itoa; rw [if_pos hn]
    rw [hi]
    unfold parseIntB
    simp only [show (45 : UInt8).toNat = 45 from rfl, or_true, if_true, hu, not_true_eq_false, false_and, if_false, true_and]
    rw [if_neg (by omega)]
    congr 1; omega
  · have hi : itoa n = decDigits n.natAbs := by unfold itoa; rw [if_neg hn, show n.toNat = n.natAbs by omega]
    rw [hi]
    cases hd : decDigits n.natAbs with
    | nil => exact absurd hd (dec_ne _)
    | cons c r =>
      have hc := dec_isD n.natAbs c (by rw [hd]; exact List.mem_cons_self)
      have hc2 : 48 ≤ c.toNat ∧ c.toNat ≤ 57 := by
        unfold isD at hc
        simpa only [Bool.and_eq_true, decide_eq_true_eq] using hc
      rw [hd] at hu
      unfold parseIntB
      simp only [show ¬ c.toNat = 43 by omega, show ¬ c.toNat = 45 by omega, or_false, if_false, hu, not_false_eq_true, true_and, false_and]
      rw [if_neg (by omega)]
      congr 1; omega
theorem rdD_iff (s : List UInt8) (n : Int) : rdD s = some n ↔ itoa n = s ∧ n.natAbs < 10 ^ 18 := by
  constructor
  · intro h
    unfold rdD at h
    rw [trim_body] at h
    split at h
    · rename_i hl
      split at h
      · split at h
        · rename_i hi
          cases h
          subst hi
          rw [body_itoa] at hl
          exact ⟨rfl, (dec_len18 _).1 hl.2⟩
        · cases h
      · cases h
    · cases h
  · rintro ⟨rfl, hb⟩
    unfold rdD
    rw [trim_body, body_itoa, parse_itoa n hb]
    have h1 := (dec_len18 n.natAbs).2 hb
    have h2 := List.length_pos_iff.2 (dec_ne n.natAbs)
    rw [if_pos ⟨by omega, h1⟩]
    simp
theorem rdD_is (s : List UInt8) : rdD s = rdN s := by
  cases h : rdN s with
  | some n => exact (rdD_iff s n).2 ((rdN_iff s n).1 h)
  | none =>
    cases h2 : rdD s with
    | none => rfl
    | some n => rw [(rdN_iff s n).2 ((rdD_iff s n).1 h2)] at h; cases h
end Go.Proofs.YtdgcgckehihboaaGreatDoor
namespace Go.Proofs.YtdgcgckehihboaaGreatDoor
variable [Go.Av.DoorC] [Go.Proofs.YtdgcgckehihboaaGreatDoor.DoorT]
open Go.Av
def dd (u : Nat) : List UInt8 := if u = 0 then [] else Lib.decDigits u
end Go.Proofs.YtdgcgckehihboaaGreatDoor
