/- The abstract layer, part 4: each operation follows its abstract weakest precondition. -/
import Derived.Laws.StructEq
import Derived.Test.YtonfknfphdeenaaAv3
set_option linter.unusedSimpArgs false
set_option linter.unusedVariables false
set_option maxHeartbeats 4000000
set_option maxRecDepth 100000
namespace Go.Av
open Go.RowKit

def Fin (cx : Ctx) (E : Nat → AV) (d : Option Nat) (K : AV → List Blk → Prop) (F : Fz) (m : List Ent) : Act → World → Prop :=
  fun a' w' => ∃ F' m' v H', K v H' ∧ FLe F F' ∧ MLe m m' ∧ St cx F' m' (updO E d v) H' a' w'

section
variable {P : Program} {cx : Ctx} {F : Fz} {m : List Ent} {E : Nat → AV} {H : List Blk} {a : Act} {w : World} {o : Oper} {K : AV → List Blk → Prop} {Q : Exit → Act → World → Prop}

theorem snd_val (hs : St cx F m E H a w) (hd : ∀ t, o.dst = some t → t < cx.n) {u : Value} {w' : World} (hrun : (execOp a.eval o).run P w = .ok (.value u) w') {F' : Fz} {m' : List Ent} {H' : List Blk} {v : AV}
    (hF : FLe F F') (hm : MLe m m') (hsim : Sim cx.B cx.W0 F' m' H' w') (hr : Rel F' m' v u) (hK : K v H') : o.wp P a w (Fin cx E o.dst K F m) Q := by
  unfold Oper.wp
  rw [hrun]
  exact ⟨F', m', v, H', hK, hF, hm, hs.put hF hm hsim hd hr⟩

theorem snd_pure (hs : St cx F m E H a w) (hd : ∀ t, o.dst = some t → t < cx.n) {u : Value} (hrun : (execOp a.eval o).run P w = .ok (.value u) w) {v : AV}
    (hr : Rel F m v u) (hK : K v H) : o.wp P a w (Fin cx E o.dst K F m) Q :=
  snd_val hs hd hrun (FLe.refl _) (MLe.refl _) hs.sim hr hK

theorem snd_skip (hs : St cx F m E H a w) (hd : ∀ t, o.dst = some t → t < cx.n) {w' : World} (hrun : (execOp a.eval o).run P w = .ok .skip w') {H' : List Blk}
    (hsim : Sim cx.B cx.W0 F m H' w') (hK : K (.lit undef) H') : o.wp P a w (Fin cx E o.dst K F m) Q := by
  unfold Oper.wp
  rw [hrun]
  exact ⟨F, m, .lit undef, H', hK, FLe.refl _, MLe.refl _, hs.put (FLe.refl _) (MLe.refl _) hsim hd (.lit _)⟩

theorem Rel.lit_inv {F : Fz} {m : List Ent} {u v : Value} (h : Rel F m (.lit u) v) : v = u := by cases h; rfl

theorem snd_mv (hs : St cx F m E H a w) (hd : ∀ t, o.dst = some t → t < cx.n) {x : Operand} (ho : o.op = .move x ∨ o.op = .assign x) (hk : K (ev E x) H) : o.wp P a w (Fin cx E o.dst K F m) Q := by
  refine snd_pure hs hd (u := a.eval x) ?_ (hs.ev x) hk
  rcases ho with ho | ho <;> simp [execOp, ho]

theorem snd_pick (hs : St cx F m E H a w) (hd : ∀ t, o.dst = some t → t < cx.n) {c x y : Operand} (ho : o.op = .pick c x y) {t : Bool} (hc : ev E c = .lit (.bool t))
    (hk : K (if t then ev E x else ev E y) H) : o.wp P a w (Fin cx E o.dst K F m) Q := by
  have h1 := hs.ev c
  rw [hc] at h1
  have h2 := h1.lit_inv
  refine snd_pure hs hd (u := if t then a.eval x else a.eval y) ?_ (v := if t then ev E x else ev E y) ?_ hk
  · cases t <;> simp [execOp, ho, h2, asBool]
  · cases t
    · exact hs.ev y
    · exact hs.ev x

theorem snd_bin (hs : St cx F m E H a w) (hd : ∀ t, o.dst = some t → t < cx.n) {op : BinOp} {t t' : TypeId} {x y : Operand} (ho : o.op = .binOp op t x y t')
    (hk : swpBin op (ev E x) (ev E y) fun v => K v H) : o.wp P a w (Fin cx E o.dst K F m) Q := by
  have h1 := hs.ev x
  have h2 := hs.ev y
  unfold swpBin at hk
  split at hk
  · rename_i k n k' n' e1 e2
    rw [e1] at h1; rw [e2] at h2
    have g1 := h1.lit_inv
    have g2 := h2.lit_inv
    cases op <;> simp only at hk
    case add => obtain ⟨rfl, hk⟩ := hk; exact snd_pure hs hd (by simp [execOp, ho, g1, g2, eqGuard, binOp, Op.intArith]) (.lit _) hk
    case sub => obtain ⟨rfl, hk⟩ := hk; exact snd_pure hs hd (by simp [execOp, ho, g1, g2, eqGuard, binOp, Op.intArith]) (.lit _) hk
    case mul => obtain ⟨rfl, hk⟩ := hk; exact snd_pure hs hd (by simp [execOp, ho, g1, g2, eqGuard, binOp, Op.intArith]) (.lit _) hk
    case quo => obtain ⟨rfl, hk⟩ := hk; exact snd_pure hs hd (by simp [execOp, ho, g1, g2, eqGuard, binOp, Op.intDiv, hk.1]) (.lit _) hk.2
    case rem => obtain ⟨rfl, hk⟩ := hk; exact snd_pure hs hd (by simp [execOp, ho, g1, g2, eqGuard, binOp, Op.intDiv, hk.1]) (.lit _) hk.2
    case eql => obtain ⟨rfl, hk⟩ := hk; exact snd_pure hs hd (by simp [execOp, ho, g1, g2, eqGuard, binOp, Op.intCmp]) (.lit _) hk
    case neq => obtain ⟨rfl, hk⟩ := hk; exact snd_pure hs hd (by simp [execOp, ho, g1, g2, eqGuard, binOp, Op.intCmp]) (.lit _) hk
    case lss => obtain ⟨rfl, hk⟩ := hk; exact snd_pure hs hd (by simp [execOp, ho, g1, g2, eqGuard, binOp, Op.intCmp]) (.lit _) hk
    case leq => obtain ⟨rfl, hk⟩ := hk; exact snd_pure hs hd (by simp [execOp, ho, g1, g2, eqGuard, binOp, Op.intCmp]) (.lit _) hk
    case gtr => obtain ⟨rfl, hk⟩ := hk; exact snd_pure hs hd (by simp [execOp, ho, g1, g2, eqGuard, binOp, Op.intCmp]) (.lit _) hk
    case geq => obtain ⟨rfl, hk⟩ := hk; exact snd_pure hs hd (by simp [execOp, ho, g1, g2, eqGuard, binOp, Op.intCmp]) (.lit _) hk
    case shl => exact snd_pure hs hd (by simp [execOp, ho, g1, g2, eqGuard, binOp, Op.shift, show ¬ n' < 0 by omega]) (.lit _) hk.2
    case shr => exact snd_pure hs hd (by simp [execOp, ho, g1, g2, eqGuard, binOp, Op.shift, show ¬ n' < 0 by omega]) (.lit _) hk.2
    case and => obtain ⟨rfl, hk⟩ := hk; exact snd_pure hs hd (by simp [execOp, ho, g1, g2, eqGuard, binOp, Op.intBits]) (.lit _) hk
    case or => obtain ⟨rfl, hk⟩ := hk; exact snd_pure hs hd (by simp [execOp, ho, g1, g2, eqGuard, binOp, Op.intBits]) (.lit _) hk
    case xor => obtain ⟨rfl, hk⟩ := hk; exact snd_pure hs hd (by simp [execOp, ho, g1, g2, eqGuard, binOp, Op.intBits]) (.lit _) hk
    case andNot => obtain ⟨rfl, hk⟩ := hk; exact snd_pure hs hd (by simp [execOp, ho, g1, g2, eqGuard, binOp, Op.intBits]) (.lit _) hk
  · exact hk.elim

theorem equal_bool (t : TypeId) (ht : P.underlying t = some .bool) (b b' : Bool) (w : World) : (Op.equal t (.bool b) (.bool b')).run P w = .ok (b == b') w := by
  show (Op.equalIn (9999 + 1) t (.bool b) (.bool b')).run P w = _
  unfold Op.equalIn
  simp [run_underlying ht]

theorem snd_binb (hs : St cx F m E H a w) (hd : ∀ t, o.dst = some t → t < cx.n) {neg : Bool} {t t' : TypeId} {x y : Operand} (ho : o.op = .binOp (if neg then .neq else .eql) t x y t') (ht : P.underlying t = some .bool)
    {b b' : Bool} (e1 : ev E x = .lit (.bool b)) (e2 : ev E y = .lit (.bool b')) (hk : K (Bv (if neg then b != b' else b == b')) H) : o.wp P a w (Fin cx E o.dst K F m) Q := by
  have h1 := hs.ev x
  have h2 := hs.ev y
  rw [e1] at h1; rw [e2] at h2
  have g1 := h1.lit_inv
  have g2 := h2.lit_inv
  cases neg
  · exact snd_pure hs hd (u := .bool (b == b')) (by simp [execOp, ho, g1, g2, eqGuard, binOp, equal_bool t ht]) (.lit _) hk
  · exact snd_pure hs hd (u := .bool (!(b == b'))) (by simp [execOp, ho, g1, g2, eqGuard, binOp, equal_bool t ht]) (.lit _) hk

theorem equal_slice_nil (t e : TypeId) (ht : P.underlying t = some (.slice e)) (a : Option Addr) (l c : Nat) (w : World) : (Op.equal t (.slice a l c) (.slice none 0 0)).run P w = .ok a.isNone w := by
  show (Op.equalIn (9999 + 1) t (.slice a l c) (.slice none 0 0)).run P w = _
  unfold Op.equalIn
  cases a <;> simp [run_underlying ht]

theorem snd_isnil (hs : St cx F m E H a w) (hd : ∀ t, o.dst = some t → t < cx.n) {neg : Bool} {t t' e : TypeId} {x : Operand} (ho : o.op = .binOp (if neg then .neq else .eql) t x (.const (.slice none 0 0)) t') (ht : P.underlying t = some (.slice e))
    {n : Nat} {cells : List AV} (hv : aview H (ev E x) = some (n, cells)) (hk : ∀ b : Bool, (b = true → n = 0) → K (Bv (if neg then !b else b)) H) : o.wp P a w (Fin cx E o.dst K F m) Q := by
  obtain ⟨hn, hcase⟩ := aview_sound hs.sim (hs.ev x) hv
  have hsl : ∃ q n' cap, a.eval x = .slice q n' cap ∧ (q.isNone = true → n = 0) := by
    rcases hcase with ⟨b, of, cap, vs, hval, hnc, _⟩ | ⟨⟨q, hval⟩, hn0, _⟩
    · exact ⟨_, _, _, hval, fun h => by simp at h⟩
    · exact ⟨_, _, _, hval, fun _ => hn0⟩
  obtain ⟨q, n', cap, hval, hq⟩ := hsl
  have g2 : a.eval (.const (.slice none 0 0)) = .slice none 0 0 := rfl
  cases neg
  · exact snd_pure hs hd (u := .bool q.isNone) (by simp [execOp, ho, hval, g2, eqGuard, binOp, equal_slice_nil t e ht]) (.lit _) (hk q.isNone hq)
  · exact snd_pure hs hd (u := .bool (!q.isNone)) (by simp [execOp, ho, hval, g2, eqGuard, binOp, equal_slice_nil t e ht]) (.lit _) (hk q.isNone hq)

theorem snd_not (hs : St cx F m E H a w) (hd : ∀ t, o.dst = some t → t < cx.n) {t : TypeId} {x : Operand} (ho : o.op = .unOp .not t x) {b : Bool} (e1 : ev E x = .lit (.bool b))
    (hk : K (Bv (!b)) H) : o.wp P a w (Fin cx E o.dst K F m) Q := by
  have h1 := hs.ev x
  rw [e1] at h1
  have g1 := h1.lit_inv
  exact snd_pure hs hd (u := .bool (!b)) (by simp [execOp, ho, g1, Op.unary]) (.lit _) hk

theorem snd_neg (hs : St cx F m E H a w) (hd : ∀ t, o.dst = some t → t < cx.n) {t : TypeId} {x : Operand} (ho : o.op = .unOp .neg t x) {k : IntKind} {n : Int} (e1 : ev E x = .lit (.int k n))
    (hk : K (.lit (.int k (k.wrap (0 - n)))) H) : o.wp P a w (Fin cx E o.dst K F m) Q := by
  have h1 := hs.ev x
  rw [e1] at h1
  have g1 := h1.lit_inv
  exact snd_pure hs hd (u := .int k (k.wrap (0 - n))) (by simp [execOp, ho, g1, Op.unary, Op.intArith]) (.lit _) hk

theorem run_typeInfo {t : TypeId} {i : TypeInfo} (h : P.info? t = some i) (w : World) : (typeInfo t).run P w = .ok i w := by simp [typeInfo, h]
theorem run_sizeOf' {t : TypeId} {i : TypeInfo} (h : P.info? t = some i) (w : World) : (sizeOf t).run P w = .ok i.size w := by simp [sizeOf, run_typeInfo h]
theorem run_zeroValue' {t : TypeId} {i : TypeInfo} {z : Value} (h : P.info? t = some i) (hz : i.zero = some z) (w : World) : (zeroValue t).run P w = .ok z w := by simp [zeroValue, run_typeInfo h, hz]
theorem run_isAgg' {t : TypeId} {d : TypeDesc} (h : P.underlying t = some d) (w : World) : (isAgg t).run P w = .ok (isAggD d) w := by
  cases d <;> simp [isAgg, run_underlying h, isAggD]

/-- A struct of two numbers. -/
def isPairI (P : Program) (t : TypeId) (fs : Array Field) : Bool := match fs.toList with
  | [f, g] => (match P.underlying f.type, P.underlying g.type with
    | some (.int .i64), some (.int .i64) => true
    | _, _ => false) && f.offset == 0 && g.offset == 1 && !(f.name == "_") && !(g.name == "_") && !P.eqGuardType P.depth t && !P.stoodInHeld t
  | _ => false
theorem isPairI_facts {P : Program} {t : TypeId} {fs : Array Field} (h : isPairI P t fs = true) : ∃ f g, fs.toList = [f, g] ∧ P.underlying f.type = some (.int .i64) ∧ P.underlying g.type = some (.int .i64) ∧ f.offset = 0 ∧ g.offset = 1 ∧ f.name ≠ "_" ∧ g.name ≠ "_" ∧ P.eqGuardType P.depth t = false ∧ P.stoodInHeld t = false := by
  unfold isPairI at h
  split at h
  · rename_i f g hfg
    simp only [Bool.and_eq_true, Bool.not_eq_true', beq_iff_eq] at h
    obtain ⟨⟨⟨⟨⟨⟨h1, h2⟩, h3⟩, h4⟩, h5⟩, h6⟩, h7⟩ := h
    split at h1
    · rename_i e1 e2
      exact ⟨f, g, hfg, e1, e2, h2, h3, by simpa using h4, by simpa using h5, h6, h7⟩
    · cases h1
  · cases h
theorem run_isAgg_i64 {t : TypeId} (h : P.underlying t = some (.int .i64)) (w : World) : (isAgg t).run P w = .ok false w := run_isAgg' h w
theorem equal_pair {t : TypeId} {fs : Array Field} (hu : P.underlying t = some (.struct fs)) (hp : isPairI P t fs = true) (a b c d : Int) (w : World) :
    (Op.equalIn 10000 t (.agg #[.int .i64 a, .int .i64 b]) (.agg #[.int .i64 c, .int .i64 d])).run P w = .ok (decide (a = c) && decide (b = d)) w := by
  obtain ⟨f, g, hfg, e1, e2, o1, o2, n1, n2, -, hs⟩ := isPairI_facts hp
  have hf : P.fieldsOf t = fs := by simp [Program.fieldsOf, hu]
  rw [run_equalIn_agg w 9999 t _ _ (by rw [hf]; exact hu) hs, hf, hfg]
  have q1 : ∀ (x y : Int), (x == y) = decide (x = y) := fun x y => by by_cases h : x = y <;> simp [h]
  have p1 : ∀ (xs : Array Value) (v : Value) (w : World), xs[f.offset]? = some v → (part f.type xs f.offset).run P w = .ok v w := fun xs v w h => by simp [part, run_isAgg_i64 e1, h]
  have p2 : ∀ (xs : Array Value) (v : Value) (w : World), xs[g.offset]? = some v → (part g.type xs g.offset).run P w = .ok v w := fun xs v w h => by simp [part, run_isAgg_i64 e2, h]
  simp only [Op.eqFields, n1, n2, ne_eq, not_false_eq_true, if_true, Sem.run_bind]
  rw [p1 #[.int .i64 a, .int .i64 b] (.int .i64 a) w (by rw [o1]; rfl), Result.andThen_ok, p1 #[.int .i64 c, .int .i64 d] (.int .i64 c) w (by rw [o1]; rfl), Result.andThen_ok, run_equalIn_int w 9998 _ _ _ _ _ e1, Result.andThen_ok, q1]
  by_cases h : a = c
  · simp only [h, decide_true, Bool.not_true, Bool.false_eq_true, if_false, Sem.run_bind, Bool.true_and]
    rw [p2 #[.int .i64 c, .int .i64 b] (.int .i64 b) w (by rw [o2]; rfl), Result.andThen_ok, p2 #[.int .i64 c, .int .i64 d] (.int .i64 d) w (by rw [o2]; rfl), Result.andThen_ok, run_equalIn_int w 9998 _ _ _ _ _ e2, Result.andThen_ok, q1]
    by_cases h' : b = d <;> simp [h']
  · simp [h]
theorem Rel.pair_inv {F : Fz} {m : List Ent} {a b : Int} {v : Value} (h : Rel F m (.agg [.lit (.int .i64 a), .lit (.int .i64 b)]) v) : v = .agg #[.int .i64 a, .int .i64 b] := by
  cases h with
  | agg cs vs h1 h2 =>
    match vs, h1 with
    | [x, y], _ =>
      have e1 := (h2 0 _ x rfl rfl).lit_inv
      have e2 := (h2 1 _ y rfl rfl).lit_inv
      subst e1; subst e2; rfl
theorem snd_eqs (hs : St cx F m E H a w) (hd : ∀ t, o.dst = some t → t < cx.n) {neg : Bool} {t t' : TypeId} {x y : Operand} (ho : o.op = .binOp (if neg then .neq else .eql) t x y t') {fs : Array Field} (hu : P.underlying t = some (.struct fs)) (hp : isPairI P t fs = true)
    {i j k l : Int} (e1 : ev E x = .agg [.lit (.int .i64 i), .lit (.int .i64 j)]) (e2 : ev E y = .agg [.lit (.int .i64 k), .lit (.int .i64 l)]) (hk : K (Bv (if neg then !(decide (i = k) && decide (j = l)) else (decide (i = k) && decide (j = l)))) H) : o.wp P a w (Fin cx E o.dst K F m) Q := by
  have h1 := hs.ev x
  have h2 := hs.ev y
  rw [e1] at h1; rw [e2] at h2
  have g1 := h1.pair_inv
  have g2 := h2.pair_inv
  have hg := (isPairI_facts hp).choose_spec.choose_spec.2.2.2.2.2.2.2.1
  cases neg
  · exact snd_pure hs hd (u := .bool (decide (i = k) && decide (j = l))) (by simp [execOp, ho, g1, g2, run_eqGuard_agg w _ t _ _ _ _ hg, run_eql_struct, equal_pair hu hp]) (.lit _) hk
  · exact snd_pure hs hd (u := .bool (!(decide (i = k) && decide (j = l)))) (by simp [execOp, ho, g1, g2, run_eqGuard_agg w _ t _ _ _ _ hg, run_neq_struct, equal_pair hu hp]) (.lit _) hk

theorem snd_load (hs : St cx F m E H a w) (hd : ∀ t, o.dst = some t → t < cx.n) {t : TypeId} {x : Operand} (ho : o.op = .load t x) {i : TypeInfo} {d : TypeDesc} (hi : P.info? t = some i) (hu : P.underlying t = some d)
    {c : Nat} {agg : Bool} (ha : isAggD d = agg) (hc : c = if agg then i.size else 1) (hc0 : 0 < c) {cs : List AV} (hcs : acells H c (ev E x) = some cs)
    (hk : if agg then K (.agg cs) H else ∃ y, cs = [y] ∧ K y H) : o.wp P a w (Fin cx E o.dst K F m) Q := by
  obtain ⟨b, of, vs, hp, hrels, hlen, hcells⟩ := acells_sound hs.sim (hs.ev x) hcs hc0
  cases agg
  · simp only [Bool.false_eq_true, if_false] at hk hc
    obtain ⟨y, rfl, hk⟩ := hk
    obtain ⟨v, vs', rfl, hrv, hrs⟩ := hrels.inv_cons
    have := hrs.inv_nil; subst this
    have h0 := (hcells 0 v (by simp)).1
    rw [Nat.add_zero] at h0
    refine snd_pure hs hd (u := v) ?_ hrv hk
    simp [execOp, ho, hp, Instr.loadAt, Instr.sureAddr, loadVar, run_isAgg' hu, ha, h0]
  · simp only [if_true] at hk hc
    refine snd_pure hs hd (u := .agg vs.toArray) ?_ (.agg cs vs hrels.1 hrels.2) hk
    have hlv : vs.length = i.size := by rw [← hrels.1, hlen, hc]
    have hrun := run_loadCells_list (P := P) w ⟨b, of, none⟩ vs (fun j v hj => by rw [Addr.add_none]; exact (hcells j v hj).1)
    rw [hlv] at hrun
    simp [execOp, ho, hp, Instr.loadAt, Instr.sureAddr, loadVar, run_isAgg' hu, ha, run_sizeOf' hi, hrun]

theorem Rel.parts {c : AV} {v : Value} (h : Rel F m c v) (hall : (partsOf c).all AV.cell1 = true) : Rels F m (partsOf c) v.cells.toList := by
  cases h with
  | agg cs vs h1 h2 => exact ⟨h1, h2⟩
  | lit v =>
    simp [partsOf, AV.cell1] at hall
    have : v.cells.toList = [v] := by cases v <;> simp_all [Value.cells, Value.oneCell']
    rw [this]; exact Rels.cons (.lit v) (Rels.nil _ _)
  | junk v => simp [partsOf, AV.cell1] at hall
  | tup cs vs => simp [partsOf, AV.cell1] at hall
  | il0 => exact Rels.cons .il0 (Rels.nil _ _)
  | il1 ad => exact Rels.cons (.il1 ad) (Rels.nil _ _)
  | il len cells b o cap vs h1 h2 h3 h4 h5 => exact Rels.cons (.il len cells b o cap vs h1 h2 h3 h4 h5) (Rels.nil _ _)
  | nm i ver off len e a n cap h1 h2 h3 => exact Rels.cons (.nm i ver off len e a n cap h1 h2 h3) (Rels.nil _ _)
  | pc i ver off e p h1 h2 h3 => exact Rels.cons (.pc i ver off e p h1 h2 h3) (Rels.nil _ _)
  | el s k sv p h1 h2 => exact Rels.cons (.el s k sv p h1 h2) (Rels.nil _ _)
  | fn f cs vs h1 h2 => exact Rels.cons (.fn f cs vs h1 h2) (Rels.nil _ _)

theorem snd_store (hs : St cx F m E H a w) (hd : ∀ t, o.dst = some t → t < cx.n) {t : TypeId} {x y : Operand} (ho : o.op = .store t x y) {i : TypeInfo} (hi : P.info? t = some i) (hc0 : 0 < i.size)
    (hl : (partsOf (ev E y)).length = i.size) (h1 : (partsOf (ev E y)).all AV.cell1 = true) {H' : List Blk} (hst : astore H (partsOf (ev E y)) (ev E x) = some H')
    (hk : K (.lit undef) H') : o.wp P a w (Fin cx E o.dst K F m) Q := by
  have hp := (hs.ev y).parts h1
  obtain ⟨ad, w', hv, hrun, hsim⟩ := astore_sound (P := P) hs.sim (hs.ev x) hst hp (fun c hc => List.all_eq_true.1 h1 c hc) (by omega)
  refine snd_skip hs hd (w' := w') ?_ hsim hk
  have hsz : (a.eval y).cells.size = i.size := by
    rw [← Array.length_toList, ← hp.1, hl]
  simp [execOp, ho, hv, Instr.storeAt, Instr.sureAddr, storeVar, run_sizeOf' hi, hsz, hrun]

theorem alive_ptr (hs : St cx F m E H a w) {c : AV} {v : Value} (hr : Rel F m c v) (ha : alive H c) : ∃ p, v = .pointer (some p) := by
  cases hr with
  | pc i ver off e p h1 h2 h3 =>
    obtain ⟨k, hk, hv⟩ := ha
    have hok := hs.sim.blk i e k h1 hk
    obtain ⟨b, _, hp⟩ := h3 (by rw [hok.1, hv])
    exact ⟨_, by rw [hp]⟩
  | el s k sv p h1 h2 =>
    obtain ⟨n, cells, hv⟩ := ha
    obtain ⟨_, hcase⟩ := aview_sound hs.sim h1 hv
    rcases hcase with ⟨b, o, cap, vs, hval, _⟩ | ⟨_, h0, _⟩
    · exact ⟨_, by rw [h2 _ _ _ hval]⟩
    · omega
  | _ => exact ha.elim

theorem snd_nilc (hs : St cx F m E H a w) (hd : ∀ t, o.dst = some t → t < cx.n) {x : Operand} (ho : o.op = .nilCheck x) (ha : alive H (ev E x)) (hk : K (ev E x) H) : o.wp P a w (Fin cx E o.dst K F m) Q := by
  obtain ⟨p, hp⟩ := alive_ptr hs (hs.ev x) ha
  exact snd_pure hs hd (u := a.eval x) (by simp [execOp, ho, hp]) (hs.ev x) hk

theorem snd_nilc_fn (hs : St cx F m E H a w) (hd : ∀ t, o.dst = some t → t < cx.n) {x : Operand} (ho : o.op = .nilCheck x) {f : FuncId} {cs : List AV} (he : ev E x = .fn f cs) (hk : K (ev E x) H) : o.wp P a w (Fin cx E o.dst K F m) Q := by
  have h1 := hs.ev x
  rw [he] at h1
  cases hx : a.eval x with
  | func fn' first captured =>
    rw [hx] at h1
    cases h1
    exact snd_pure hs hd (u := a.eval x) (by simp [execOp, ho, hx]) (hs.ev x) hk
  | _ => rw [hx] at h1; cases h1

theorem Addr.add_add (p : Addr) (j k : Nat) (hp : p.spot = none) : (p.add j).add k = p.add (j + k) := by
  obtain ⟨b, o, s⟩ := p
  simp at hp; subst hp
  rw [Addr.add_none, Addr.add_none, Addr.add_none, Nat.add_assoc]

theorem snd_faddr (hs : St cx F m E H a w) (hd : ∀ t, o.dst = some t → t < cx.n) {s : TypeId} {x : Operand} {f : Nat} (ho : o.op = .fieldAddr s x f) {fs : Array Field} {fl : Field} {i : TypeInfo} (hu : P.underlying s = some (.struct fs)) (hf : fs[f]? = some fl)
    (hi : P.info? fl.type = some i) (hi0 : i.size ≠ 0) (ha : alive H (ev E x)) {v : AV}
    (hv : (∃ j ver q, ev E x = .pc j ver q ∧ v = .pc j ver (q + fl.offset)) ∨ (∃ s k, ev E x = .el s k ∧ v = .el s (k + fl.offset))) (hk : K v H) : o.wp P a w (Fin cx E o.dst K F m) Q := by
  obtain ⟨p, hp⟩ := alive_ptr hs (hs.ev x) ha
  have hrun : (execOp a.eval o).run P w = .ok (.value (.pointer (some (p.add fl.offset)))) w := by
    simp [execOp, ho, hp, Instr.fieldAt, run_underlying hu, hf, Instr.sureAddr, fieldPlace, run_sizeOf' hi, hi0]
  have h1 := hs.ev x
  rw [hp] at h1
  refine snd_pure hs hd hrun ?_ hk
  rcases hv with ⟨j, ver, q, he, rfl⟩ | ⟨s, k, he, rfl⟩
  · rw [he] at h1
    generalize hp' : (Value.pointer (some p)) = pv at h1
    cases h1 with
    | pc _ _ _ e p' g1 g2 g3 =>
      cases hp'
      refine .pc j ver (q + fl.offset) e _ g1 g2 ?_
      intro hver
      obtain ⟨b, hb, hpp⟩ := g3 hver
      simp only [Option.some.injEq] at hpp
      exact ⟨b, hb, by rw [hpp, Addr.add_none]⟩
  · rw [he] at h1 ha
    obtain ⟨n, cells, hview⟩ := ha
    generalize hp' : (Value.pointer (some p)) = pv at h1
    cases h1 with
    | el _ _ sv p' g1 g2 =>
      cases hp'
      refine .el s (k + fl.offset) sv _ g1 ?_
      intro ad len cap hsv
      have hpp := g2 ad len cap hsv
      simp only [Option.some.injEq] at hpp
      subst hpp
      obtain ⟨_, hcase⟩ := aview_sound hs.sim g1 hview
      rcases hcase with ⟨b, o, cap, vs, hval, _⟩ | ⟨_, h0, _⟩
      · rw [hval] at hsv
        simp only [Value.slice.injEq, Option.some.injEq] at hsv
        obtain ⟨rfl, _, _⟩ := hsv
        rw [Addr.add_add _ _ _ rfl]
      · omega

theorem snd_iaddr (hs : St cx F m E H a w) (hd : ∀ t, o.dst = some t → t < cx.n) {t : TypeId} {x y : Operand} (ho : o.op = .indexAddr t x y) {e : TypeId} {i : TypeInfo} (hu : P.underlying t = some (.slice e)) (hi : P.info? e = some i)
    {n : Nat} {cells : List AV} (hv : aview H (ev E x) = some (n, cells)) {k : IntKind} {z : Int} (hz : ev E y = .lit (.int k z)) (h0 : 0 ≤ z) (h1 : z < n) (hk : K (.el (ev E x) (z.toNat * i.size)) H) : o.wp P a w (Fin cx E o.dst K F m) Q := by
  have hy := hs.ev y
  rw [hz] at hy
  have hy' := hy.lit_inv
  obtain ⟨_, hcase⟩ := aview_sound hs.sim (hs.ev x) hv
  rcases hcase with ⟨b, of, cap, vs, hval, _⟩ | ⟨_, hn, _⟩
  · refine snd_pure hs hd (u := .pointer (some ((⟨b, of, none⟩ : Addr).add (z.toNat * i.size)))) ?_ (.el _ _ (a.eval x) _ (hs.ev x) ?_) hk
    · simp [execOp, ho, hy', hval, Instr.indexAt, asIntOf, run_underlying hu, h0, h1, run_sizeOf' hi]
    · intro ad len cap hsv
      rw [hval] at hsv
      simp only [Value.slice.injEq, Option.some.injEq] at hsv
      rw [hsv.1]
  · omega

theorem snd_ext (hs : St cx F m E H a w) (hd : ∀ t, o.dst = some t → t < cx.n) {x : Operand} {n : Nat} (ho : o.op = .extract x n) {cs : List AV} (he : ev E x = .tup cs) {v : AV} (hv : cs[n]? = some v) (hk : K v H) : o.wp P a w (Fin cx E o.dst K F m) Q := by
  have h1 := hs.ev x
  rw [he] at h1
  generalize hx : a.eval x = xv at h1
  cases h1 with
  | tup _ vs g1 g2 =>
    have hn : n < vs.length := by rw [← g1]; exact (List.getElem?_eq_some_iff.1 hv).1
    refine snd_pure hs hd (u := vs[n]) ?_ (g2 n v _ hv (List.getElem?_eq_getElem hn)) hk
    simp [execOp, ho, hx, Instr.extract, hn]

theorem snd_len (hs : St cx F m E H a w) (hd : ∀ t, o.dst = some t → t < cx.n) {x : Operand} {t e : TypeId} (ho : o.op = .call { callee := .builtin .len, args := #[x], argTypes := #[t] }) (hu : P.underlying t = some (.slice e))
    {n : Nat} {cells : List AV} (hv : aview H (ev E x) = some (n, cells)) (hk : n ≤ 9223372036854775807 → K (I n) H) : o.wp P a w (Fin cx E o.dst K F m) Q := by
  obtain ⟨hn, hcase⟩ := aview_sound hs.sim (hs.ev x) hv
  have hval : ∃ p cap, a.eval x = .slice p n cap := by
    rcases hcase with ⟨b, of, cap, vs, hval, _⟩ | ⟨⟨q, hval⟩, h0, _⟩
    · exact ⟨_, _, hval⟩
    · exact ⟨_, _, by rw [hval, h0]⟩
  obtain ⟨p, cap, hval⟩ := hval
  refine snd_pure hs hd (u := .int .i64 n) ?_ (.lit _) (hk (by simpa [maxLen] using hn))
  simp [execOp, ho, resolve, invoke, builtin, hval, Builtin.len_, run_underlying hu, goInt]

theorem snd_field (hs : St cx F m E H a w) (hd : ∀ t, o.dst = some t → t < cx.n) {s : TypeId} {x : Operand} {f : Nat} (ho : o.op = .field s x f) {fs : Array Field} {fl : Field} {i : TypeInfo} {d : TypeDesc} (hu : P.underlying s = some (.struct fs)) (hf : fs[f]? = some fl)
    (hi : P.info? fl.type = some i) (hud : P.underlying fl.type = some d) {cs : List AV} (he : ev E x = .agg cs)
    (hk : if isAggD d then fl.offset + i.size ≤ cs.length ∧ K (.agg ((cs.drop fl.offset).take i.size)) H else match cs[fl.offset]? with | some v => K v H | none => False) : o.wp P a w (Fin cx E o.dst K F m) Q := by
  have h1 := hs.ev x
  rw [he] at h1
  generalize hx : a.eval x = xv at h1
  cases h1 with
  | agg _ vs g1 g2 =>
    by_cases hd' : isAggD d = true
    · rw [if_pos hd'] at hk
      have hr : Rels F m ((cs.drop fl.offset).take i.size) ((vs.drop fl.offset).take i.size) := Rels.take (Rels.drop ⟨g1, g2⟩ _) _
      refine snd_pure hs hd (u := .agg ((vs.drop fl.offset).take i.size).toArray) ?_ (.agg _ _ hr.1 hr.2) hk.2
      simp [execOp, ho, hx, Instr.field, run_underlying hu, hf, asAgg, part, run_isAgg' hud, hd', run_sizeOf' hi]
    · rw [if_neg hd'] at hk
      split at hk
      · rename_i v hv
        have hn : fl.offset < vs.length := by rw [← g1]; exact (List.getElem?_eq_some_iff.1 hv).1
        refine snd_pure hs hd (u := vs[fl.offset]) ?_ (g2 _ v _ hv (List.getElem?_eq_getElem hn)) hk
        simp [execOp, ho, hx, Instr.field, run_underlying hu, hf, asAgg, part, run_isAgg' hud, hd', hn]
      · exact hk.elim

theorem snd_mkf (hs : St cx F m E H a w) (hd : ∀ t, o.dst = some t → t < cx.n) {f : FuncId} {caps : Array Operand} (ho : o.op = .makeFunc (.func f) #[] caps) (hk : K (.fn f (caps.toList.map (ev E))) H) : o.wp P a w (Fin cx E o.dst K F m) Q := by
  have h1 := hs.evs caps.toList
  refine snd_pure hs hd (u := .func (.func f) #[] (caps.toList.map a.eval).toArray) ?_ (.fn _ _ _ h1.1 h1.2) hk
  have : caps.map a.eval = (caps.toList.map a.eval).toArray := by apply Array.ext'; simp
  simp [execOp, ho, Instr.makeFunc, this]

theorem snd_conv (hs : St cx F m E H a w) (hd : ∀ t, o.dst = some t → t < cx.n) {src dst : TypeId} {x : Operand} (ho : o.op = .convert src dst x) {k k' : IntKind} (hsrc : P.underlying src = some (.int k')) (hdst : P.underlying dst = some (.int k)) {z : IntKind} {n : Int} (he : ev E x = .lit (.int z n))
    (hk : K (.lit (.int k (k.wrap n))) H) : o.wp P a w (Fin cx E o.dst K F m) Q := by
  have h1 := hs.ev x
  rw [he] at h1
  have g1 := h1.lit_inv
  exact snd_pure hs hd (by simp [execOp, ho, g1, convert, run_underlying hsrc, run_underlying hdst, Conv.intToInt]) (.lit _) hk

theorem snd_mm (hs : St cx F m E H a w) (hd : ∀ t, o.dst = some t → t < cx.n) {mx : Bool} {x y : Operand} {ts : Array TypeId} (ho : o.op = .call { callee := .builtin (if mx then .max else .min), args := #[x, y], argTypes := ts }) {k k' : IntKind} {n z : Int} (he : ev E x = .lit (.int k n)) (hz : ev E y = .lit (.int k' z))
    (hk : K (.lit (.int k (if mx then (if n < z then z else n) else (if z < n then z else n)))) H) : o.wp P a w (Fin cx E o.dst K F m) Q := by
  have h1 := hs.ev x
  have h2 := hs.ev y
  rw [he] at h1; rw [hz] at h2
  have g1 := h1.lit_inv
  have g2 := h2.lit_inv
  cases mx
  · exact snd_pure hs hd (u := .int k (if z < n then z else n)) (by simp [execOp, ho, g1, g2, resolve, invoke, builtin, Builtin.min_, Builtin.min2]) (.lit _) hk
  · exact snd_pure hs hd (u := .int k (if n < z then z else n)) (by simp [execOp, ho, g1, g2, resolve, invoke, builtin, Builtin.max_, Builtin.max2]) (.lit _) hk
end
end Go.Av
