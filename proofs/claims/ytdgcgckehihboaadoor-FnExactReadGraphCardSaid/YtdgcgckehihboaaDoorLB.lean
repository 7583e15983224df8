/- The library's functions on texts. -/
import Derived.Test.YtdgcgckehihboaaDoorST
import Derived.Test.YtdgcgckehihboaaDoorLt
set_option linter.unusedSimpArgs false
set_option linter.unusedVariables false
set_option maxHeartbeats 4000000
set_option maxRecDepth 100000
namespace Go.Proofs.YtdgcgckehihboaaDoor
open Go.Av Go.RowKit

abbrev n_Cut : Nat := 13
abbrev n_Split : Nat := 15
abbrev n_Trim : Nat := 33
abbrev n_Join : Nat := 39
abbrev n_Fmt : Nat := 51
abbrev n_Parse : Nat := 34

theorem blw_of {B : Nat} {w w' : World} (h : Below B w w') : Blw B w w' := .of h (show Drw w w' from True.intro)
theorem PFn.lib {P : Program} {f : FuncId} {az : List AV} (vs : List Value) (has : ∀ (F : Fz) (m : List Ent) (us : List Value), Rels F m az us → us = vs) {v : AV} {u : Value} (hrel : ∀ (F : Fz) (m : List Ent), Rel F m v u)
    (h : ∀ w, Globs w → Calls P f vs.toArray w fun e w' => e = .returned u ∧ Below w.heap.size w w') : PFn P f az v := by
  intro H B W0 F m w us hr hs
  obtain rfl := has _ _ _ hr
  refine (h w (Globs.step hs.glob hs.below)).mono ?_
  rintro e w' ⟨rfl, hb⟩
  exact ⟨F, m, H, v, u, rfl, FLe.refl _, MLe.refl _, hrel F m, hs.world (blw_of hb), rfl, rfl⟩
theorem lits2 {F : Fz} {m : List Ent} {a b : Value} {us : List Value} (h : Rels F m [.lit a, .lit b] us) : us = [a, b] := by
  obtain ⟨x, r, rfl, h1, h⟩ := h.inv_cons
  obtain ⟨y, r, rfl, h2, h⟩ := h.inv_cons
  rw [h.inv_nil, h1.lit_inv, h2.lit_inv]
theorem lits3 {F : Fz} {m : List Ent} {a b c : Value} {us : List Value} (h : Rels F m [.lit a, .lit b, .lit c] us) : us = [a, b, c] := by
  obtain ⟨x, r, rfl, h1, h⟩ := h.inv_cons
  rw [lits2 h, h1.lit_inv]
theorem rel_tup {F : Fz} {m : List Ent} (vs : List Value) : Rel F m (.tup (vs.map .lit)) (.tuple vs.toArray) := by
  refine .tup _ _ (by simp) fun j c v h1 h2 => ?_
  rw [List.getElem?_map, h2] at h1
  cases h1
  exact .lit v
theorem below_drewN (w : World) (n : Nat) : Below w.heap.size w (w.drewN n) := ⟨rfl, rfl, rfl, Nat.le_refl _, fun _ _ => rfl⟩
theorem below_grow (w : World) (k : Nat) (os : Array Obj) : Below w.heap.size w (Sort.grow (w.drewN k) os) := by
  refine ⟨rfl, rfl, rfl, by simp [Sort.grow], fun j hj => ?_⟩
  simp [Sort.grow, Array.getElem?_append, hj]
theorem cut_fn (s sep : List UInt8) (hs : s.length < 4294967281) : PFn Tryd.prog n_Cut [Tx s, Tx sep] (.tup [Tx (Lib.cut s sep).1, Tx (Lib.cut s sep).2.1, Bv (Lib.cut s sep).2.2]) := by
  refine PFn.lib [.string ⟨s.toArray⟩, .string ⟨sep.toArray⟩] (fun F m us h => lits2 h) (fun F m => rel_tup [.string ⟨(Lib.cut s sep).1.toArray⟩, .string ⟨(Lib.cut s sep).2.1.toArray⟩, .bool (Lib.cut s sep).2.2]) fun w hg => ?_
  obtain ⟨⟨m, h1⟩, -⟩ := hg
  refine (Any.strings_Cut Tryd.lays145 ⟨s.toArray⟩ ⟨sep.toArray⟩ m w (by rw [ba_size]; exact hs) h1).mono ?_
  rintro e w' ⟨rfl, n, rfl⟩
  exact ⟨rfl, below_drewN w n⟩
theorem trim_fn (s p : List UInt8) : PFn Tryd.prog n_Trim [Tx s, Tx p] (Tx (Lib.trimPrefix s p)) := by
  refine PFn.lib [.string ⟨s.toArray⟩, .string ⟨p.toArray⟩] (fun F m us h => lits2 h) (fun F m => .lit _) fun w hg => ?_
  refine (Any.strings_TrimPrefix Tryd.lays101 ⟨s.toArray⟩ ⟨p.toArray⟩ w).mono ?_
  rintro e w' ⟨rfl, rfl⟩
  exact ⟨rfl, Below.refl _ _⟩
theorem fmt_fn (n : Int) (h0 : -9223372036854775808 ≤ n) (h1 : n ≤ 9223372036854775807) : PFn Tryd.prog n_Fmt [I n, I 10] (Tx (Lib.itoa n)) := by
  refine PFn.lib [.int .i64 n, .int .i64 10] (fun F m us h => lits2 h) (fun F m => .lit _) fun w hg => ?_
  obtain ⟨-, ⟨t, q, h2⟩, -⟩ := hg
  refine (Any.strconv_FormatInt_10 Tryd.laysM173 n h0 h1 w ?_).mono ?_
  · unfold Lib.TabIs World.var?
    rw [show Go.Program.globalNamed Tryd.prog _ = some 5 from by kernel_rfl]
    simp only [Option.bind_some, h2]
  · rintro e w' ⟨rfl, k, os, rfl⟩
    exact ⟨rfl, below_grow w k os⟩
theorem parse_ok (s : List UInt8) (v : Int) (hs : s.length ≤ 1000000000) (h : Lib.parseIntB 64 s = .ok v) : PFn Tryd.prog n_Parse [Tx s, I 10, I 64] (.tup [I v, .lit .nilIface]) := by
  refine PFn.lib [.string ⟨s.toArray⟩, .int .i64 10, .int .i64 64] (fun F m us h => lits3 h) (fun F m => rel_tup [.int .i64 v, .nilIface]) fun w hg => ?_
  refine (Any.strconv_ParseInt_10_at64_ok Tryd.laysC174 ⟨s.toArray⟩ (by rw [ba_size]; omega) v h w).mono ?_
  rintro e w' ⟨rfl, rfl | ⟨t, rfl⟩⟩
  · exact ⟨rfl, Below.refl _ _⟩
  · exact ⟨rfl, Lib.bytesWorld_below _ _ _⟩
/-- A call that answers a number and an error that is not nil. -/
theorem parse_err (H : List Blk) (s : List UInt8) (hs : s.length ≤ 1000000000) (h : ∀ v, Lib.parseIntB 64 s ≠ .ok v) : ACalls Tryd.prog n_Parse [Tx s, I 10, I 64] H (fun r H' => (∃ v q z, r = .tup [I v, .lit (.iface q z)]) ∧ H' = H) := by
  intro B W0 F m w us hr hs'
  obtain rfl := lits3 hr
  obtain ⟨-, -, ⟨t3, p3, h3⟩, t4, p4, h4⟩ := Globs.step hs'.glob hs'.below
  rcases hp : Lib.parseIntB 64 s with v | _ | _
  · exact absurd hp (h v)
  · skip
    refine (Any.strconv_ParseInt_10_at64_syntax_var Tryd.laysC174 ⟨s.toArray⟩ (by rw [ba_size]; omega) hp t3 p3 w h3).mono ?_
    rintro e w' ⟨N, rfl, -, -, hb⟩
    exact ⟨F, m, H, .tup [I 0, .lit _], _, rfl, FLe.refl _, MLe.refl _, rel_tup [.int .i64 0, _], hs'.world (blw_of hb), ⟨_, _, _, rfl⟩, rfl⟩
  · skip
    refine (Any.strconv_ParseInt_10_at64_range_var Tryd.laysC174 ⟨s.toArray⟩ (by rw [ba_size]; omega) hp t4 p4 w h4).mono ?_
    rintro e w' ⟨N, rfl, -, -, hb⟩
    exact ⟨F, m, H, .tup [I _, .lit _], _, rfl, FLe.refl _, MLe.refl _, rel_tup [.int .i64 _, _], hs'.world (blw_of hb), ⟨_, _, _, rfl⟩, rfl⟩
theorem pieces_cell' (w : World) (cs : Array Value) (ty : TypeId) (o : Nat) : (w.alloc (.cells cs ty)).cell? ⟨w.heap.size, o, none⟩ = cs[o]? := by
  rw [World.cell?_of_block (w := { w with heap := w.heap.push (.cells cs ty) }) (w' := w.alloc (.cells cs ty)) (a := ⟨w.heap.size, o, none⟩) rfl]
  simp [World.cell?]
/-- A new row whose cells are never written again. -/
theorem sim_fresh {B : Nat} {W0 : World} {F : Fz} {m : List Ent} {H : List Blk} {w : World} (h : Sim B W0 F m H w) (cs : Array Value) (ty : TypeId) (ho : ∀ (j : Nat) (v : Value), cs[j]? = some v → v.oneCell' = true) :
    Sim B W0 (fun b o v => F b o v ∨ (b = w.heap.size ∧ cs[o]? = some v)) m H (w.alloc (.cells cs ty)) := by
  have hb : Blw w.heap.size w (w.alloc (.cells cs ty)) := (Blw.refl _ _).alloc (Nat.le_refl _) _
  have h1 := h.world hb
  refine ⟨h1.len, h1.below, h1.base, ?_, ?_, h1.dist, ?_, h1.glob⟩
  · rintro b o v (hf | ⟨rfl, hc⟩)
    · exact h1.fz b o v hf
    · exact ⟨(pieces_cell' w cs ty o).trans hc, ho o v hc⟩
  · rintro i e b o v he hbk (hf | ⟨rfl, _⟩)
    · exact h1.apart i e b o v he hbk hf
    · have := h.blk_lt he hbk; omega
  · intro i e k he hk
    exact (h1.blk i e k he hk).mono (fun b o v hf => .inl hf) (MLe.refl _) (fun b _ => rfl)
/-- The pieces of a text. -/
def ilT (ls : List (List UInt8)) : AV := .il ls.length (ls.map Tx)
theorem split_fn (s sep : List UInt8) (hs : s.length < 4294967281) (h1 : 1 ≤ sep.length) : PFn Tryd.prog n_Split [Tx s, Tx sep] (ilT (Lib.split s sep)) := by
  intro H B W0 F m w us hr hs'
  obtain rfl := lits2 hr
  obtain ⟨⟨mm, hm⟩, -⟩ := Globs.step hs'.glob hs'.below
  refine (Any.strings_Split Tryd.lays146 (by kernel_rfl) ⟨s.toArray⟩ ⟨sep.toArray⟩ mm w (by rw [ba_size]; exact hs) hm (by rw [ba_size]; exact h1)).mono ?_
  rintro e w' ⟨rfl, rfl⟩
  have hlen := Lib.splitB_all (⟨sep.toArray⟩ : ByteArray) (by rw [ba_size]; exact h1) 0 _ (⟨s.toArray⟩ : ByteArray) rfl
  have hdat := Lib.splitB_data (⟨sep.toArray⟩ : ByteArray) 0 (Lib.countB ⟨s.toArray⟩ ⟨sep.toArray⟩) (⟨s.toArray⟩ : ByteArray)
  have hsp : Lib.split s sep = (Lib.splitB ⟨sep.toArray⟩ 0 (Lib.countB ⟨s.toArray⟩ ⟨sep.toArray⟩) ⟨s.toArray⟩).map (·.data.toList) := by
    rw [hdat]; rfl
  generalize hps : Lib.splitB ⟨sep.toArray⟩ 0 (Lib.countB ⟨s.toArray⟩ ⟨sep.toArray⟩) ⟨s.toArray⟩ = ps at *
  generalize hn : Lib.countB ⟨s.toArray⟩ ⟨sep.toArray⟩ + 1 = n at *
  have hf := sim_fresh hs' (ps.map Value.string).toArray 9 (fun j v hv => by
    simp only [List.getElem?_toArray, List.getElem?_map] at hv
    cases hp : ps[j]? with
    | none => rw [hp] at hv; cases hv
    | some p => rw [hp] at hv; cases hv; rfl)
  refine ⟨_, m, H, _, _, rfl, fun b o v hv => .inl hv, MLe.refl _, ?_, hf, rfl, rfl⟩
  unfold ilT
  rw [hsp, List.length_map, hlen]
  refine .il n _ w.heap.size 0 n (ps.map Value.string) (Nat.le_refl _) ?_ (by simp) (fun j v hv => .inr ⟨rfl, ?_⟩) ?_
  · have := Lib.countB_le (⟨sep.toArray⟩ : ByteArray) (by rw [ba_size]; exact h1) _ (⟨s.toArray⟩ : ByteArray) (Nat.le_refl _)
    rw [ba_size] at this
    unfold maxLen; omega
  · rw [Nat.zero_add]; simpa using hv
  · intro j c v hc hv
    rw [List.getElem?_map, List.getElem?_map] at hc
    rw [List.getElem?_map] at hv
    cases hp : ps[j]? with
    | none => rw [hp] at hv; cases hv
    | some p =>
      rw [hp] at hv hc
      cases hv; cases hc
      rw [show Tx p.data.toList = .lit (.string p) by unfold Tx; congr]
      exact .lit _
theorem join_fn (xs : List (List UInt8)) (sep : List UInt8) (hN : xs.length ≤ 1000000000) (hlen : (Lib.join xs sep).length ≤ 140737488355328) : PFn Tryd.prog n_Join [ilT xs, Tx sep] (Tx (Lib.join xs sep)) := by
  intro H B W0 F m w us hr hs'
  obtain ⟨x, r, rfl, h1, hr⟩ := hr.inv_cons
  obtain ⟨y, r, rfl, h2, hr⟩ := hr.inv_cons
  obtain rfl := hr.inv_nil
  obtain rfl := h2.lit_inv
  have hdat : (xs.map fun l => (⟨l.toArray⟩ : ByteArray)).map (·.data.toList) = xs := by
    rw [List.map_map]
    exact (List.map_congr_left fun l _ => rfl).trans (List.map_id xs)
  have hfin : (∃ a c, x = .slice a 0 c ∧ xs = []) ∨ ∃ b o c vs, x = .slice (some ⟨b, o, none⟩) xs.length c ∧ xs.length ≤ c ∧ 0 < xs.length ∧ Rels F m (xs.map Tx) vs ∧ ∀ (j : Nat) (v : Value), vs[j]? = some v → w.cell? ⟨b, o + j, none⟩ = some v ∧ v.oneCell' = true := by
    obtain ⟨-, ⟨b, o, c, vs, hx, hc, -, hr, hv⟩ | ⟨⟨q, hx⟩, h0, hc⟩⟩ := aview_sound hs' h1 (show aview H (ilT xs) = some (xs.length, xs.map Tx) from rfl)
    · by_cases he : xs = []
      · subst he; exact .inl ⟨_, _, hx, rfl⟩
      · exact .inr ⟨b, o, c, vs, hx, hc, List.length_pos_iff.2 he, hr, hv⟩
    · exact .inl ⟨_, _, hx, by simpa using h0⟩
  rcases hfin with ⟨a, c, rfl, rfl⟩ | ⟨b, o, c, vs, rfl, hc, hpos, hr, hv⟩
  · refine (Any.strings_Join_none Tryd.lays156 Tryd.Builder_Extra_156 a c ⟨sep.toArray⟩ w).mono ?_
    rintro e w' ⟨rfl, rfl⟩
    exact ⟨F, m, H, _, _, rfl, FLe.refl _, MLe.refl _, .lit _, hs', by rw [Lib.join_nil]; rfl, rfl⟩
  · have hvj : ∀ (j : Nat) (l : List UInt8), xs[j]? = some l → vs[j]? = some (.string ⟨l.toArray⟩) := fun j l hl => by
      have hj : j < vs.length := by
        have h3 := hr.1
        rw [List.length_map] at h3
        rw [← h3]; exact (List.getElem?_eq_some_iff.1 hl).1
      have h4 := hr.2 j (Tx l) vs[j] (by rw [List.getElem?_map, hl]; rfl) (List.getElem?_eq_getElem hj)
      rw [List.getElem?_eq_getElem hj, h4.lit_inv]
    have hcell : ∀ (j : Nat) (l : List UInt8), xs[j]? = some l → w.cell? ⟨b, o + j, none⟩ = some (.string ⟨l.toArray⟩) := fun j l hl => (hv j _ (hvj j l hl)).1
    have hb : b < w.heap.size := World.block_lt_of_cell? w ⟨b, o + 0, none⟩ (hcell 0 xs[0] (List.getElem?_eq_getElem hpos))
    have hj := Any.strings_Join Tryd.lays156 Tryd.Builder_Extra_156 b o c (xs.map fun l => (⟨l.toArray⟩ : ByteArray)) ⟨sep.toArray⟩ w (fun j z hz => by
      rw [List.getElem?_map] at hz
      cases hl : xs[j]? with
      | none => rw [hl] at hz; cases hz
      | some l => rw [hl] at hz; cases hz; exact hcell j l hl) hb (by rw [List.length_map]; omega) (by rw [List.length_map]; exact hc) (by rw [hdat]; exact hlen)
    rw [List.length_map, hdat] at hj
    refine hj.mono ?_
    rintro e w' ⟨rfl, hbl⟩
    exact ⟨F, m, H, _, _, rfl, FLe.refl _, MLe.refl _, .lit _, hs'.world (blw_of hbl), rfl, rfl⟩
end Go.Proofs.YtdgcgckehihboaaDoor
