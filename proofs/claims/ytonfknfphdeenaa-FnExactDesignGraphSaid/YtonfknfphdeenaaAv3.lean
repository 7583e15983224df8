/- The abstract layer, part 3: operations, their abstract weakest precondition. -/
import Derived.Test.YtonfknfphdeenaaAv2
set_option linter.unusedSimpArgs false
set_option linter.unusedVariables false
set_option maxHeartbeats 4000000
set_option maxRecDepth 100000
namespace Go.Av
open Go.RowKit

/-- An operation with all that the program's tables say of it. -/
inductive SO where
  | mv (x : Operand)
  | pick (c a b : Operand)
  | bin (op : BinOp) (x y : Operand)
  | binb (neg : Bool) (x y : Operand)
  | eqs (neg : Bool) (x y : Operand)
  | un (op : UnOp) (x : Operand)
  | load (c : Nat) (agg : Bool) (a : Operand)
  | store (c : Nat) (a v : Operand)
  | nilc (x : Operand)
  | faddr (off : Nat) (a : Operand)
  | fld (off c : Nat) (agg : Bool) (x : Operand)
  | iaddr (sz : Nat) (s i : Operand)
  | ext (x : Operand) (n : Nat)
  | len (x : Operand)
  | qlen (x : Operand)
  | alloc (ty : Nat) (zero : List Value)
  | box (ty : Nat) (x : Operand)
  | build (zero : List Value) (parts : List (Nat × Nat × Operand))
  | bslice (ty sz len : Nat) (zero : List Value) (parts : List (Nat × Operand))
  | mslice (ty bytes : Nat) (zero : Value) (l c : Operand)
  | slc (sz : Nat) (x : Operand) (lo hi : Option Operand)
  | app (ty sz bytes : Nat) (s x : Operand)
  | mkf (f : FuncId) (caps : List Operand)
  | call (f : FuncId) (args : List Operand)
  | callv (x : Operand) (args : List Operand)
  | qcall (f : FuncId) (args : List Operand)
  | qcallv (x : Operand) (args : List Operand)
  | mm (isMax : Bool) (x y : Operand)
  | conv (k : IntKind) (x : Operand)
  | slc0 (ty sz : Nat) (x : Operand)
  | isnil (neg : Bool) (x : Operand)
  | bad

/-- What an abstract call says. -/
def ACalls (P : Program) (f : FuncId) (args : List AV) (H : List Blk) (R : AV → List Blk → Prop) : Prop :=
  ∀ (B : Nat) (W0 : World) (F : Fz) (m : List Ent) (w : World) (vs : List Value), Rels F m args vs → Sim B W0 F m H w →
    Calls P f vs.toArray w fun e w' => ∃ F' m' H' r v, e = .returned v ∧ FLe F F' ∧ MLe m m' ∧ Rel F' m' r v ∧ Sim B W0 F' m' H' w' ∧ R r H'

/-- A call that computes a value and leaves abstract memory alone. -/
def AFn (P : Program) (f : FuncId) (args : List AV) (H : List Blk) (v : AV) : Prop :=
  ∀ ext, ACalls P f args (H ++ ext) fun r H' => r = v ∧ H' = H ++ ext

theorem ACalls.mono {P : Program} {f : FuncId} {args : List AV} {H : List Blk} {R R' : AV → List Blk → Prop} (h : ACalls P f args H R) (hr : ∀ r H', R r H' → R' r H') : ACalls P f args H R' := by
  intro B W0 F m w vs h1 h2
  refine (h B W0 F m w vs h1 h2).mono ?_
  rintro e w' ⟨F', m', H', r, v, g1, g2, g3, g4, g5, g6⟩
  exact ⟨F', m', H', r, v, g1, g2, g3, g4, g5, hr _ _ g6⟩

theorem AFn.calls {P : Program} {f : FuncId} {args : List AV} {H : List Blk} {v : AV} (h : AFn P f args H v) : ACalls P f args H fun r H' => r = v ∧ H' = H := by
  have := h []
  simpa using this

def callable (P : Program) (f : FuncId) : Bool :=
  match P.funcs[f]? with
  | some fn => !(fn.name == "runtime.NumGoroutine") && fn.body.isSome
  | none => false

def ev (E : Nat → AV) : Operand → AV
  | .tmp t => E t
  | .const v => .lit v
  | .func f => .fn f []
  | .global _ => .junk

/-- 64-bit signed integers, bools. -/
def I (n : Int) : AV := .lit (.int .i64 n)
def Bv (b : Bool) : AV := .lit (.bool b)
def w64 (n : Int) : Int := IntKind.i64.wrap n

def partsOf : AV → List AV
  | .agg cs => cs
  | x => [x]

def alive (H : List Blk) : AV → Prop
  | .pc i ver _ => ∃ k, H[i]? = some k ∧ k.ver = ver
  | .el s _ => ∃ n cells, aview H s = some (n + 1, cells)
  | _ => False

def afill (cells : List AV) : List (Nat × Nat × AV) → Option (List AV)
  | [] => some cells
  | (off, size, v) :: rest => if (partsOf v).length = size ∧ off + size ≤ cells.length then afill (setMany cells off (partsOf v)) rest else none

def swpBin (op : BinOp) (x y : AV) (K : AV → Prop) : Prop :=
  match x, y with
  | .lit (.int k a), .lit (.int k' b) => match op with
    | .add => k = k' ∧ K (.lit (.int k (k.wrap (a + b))))
    | .sub => k = k' ∧ K (.lit (.int k (k.wrap (a - b))))
    | .mul => k = k' ∧ K (.lit (.int k (k.wrap (a * b))))
    | .quo => k = k' ∧ b ≠ 0 ∧ K (.lit (.int k (k.wrap (a.tdiv b))))
    | .rem => k = k' ∧ b ≠ 0 ∧ K (.lit (.int k (a.tmod b)))
    | .eql => k = k' ∧ K (Bv (a == b))
    | .neq => k = k' ∧ K (Bv (a != b))
    | .lss => k = k' ∧ K (Bv (decide (a < b)))
    | .leq => k = k' ∧ K (Bv (decide (a ≤ b)))
    | .gtr => k = k' ∧ K (Bv (decide (a > b)))
    | .geq => k = k' ∧ K (Bv (decide (a ≥ b)))
    | .shl => 0 ≤ b ∧ K (.lit (.int k (k.wrap (a * 2 ^ (min b.toNat k.bits)))))
    | .shr => 0 ≤ b ∧ K (.lit (.int k (a.fdiv (2 ^ (min b.toNat k.bits)))))
    | .and => k = k' ∧ K (.lit (.int k (k.wrap (BitVec.ofInt k.bits a &&& BitVec.ofInt k.bits b).toNat)))
    | .or => k = k' ∧ K (.lit (.int k (k.wrap (BitVec.ofInt k.bits a ||| BitVec.ofInt k.bits b).toNat)))
    | .xor => k = k' ∧ K (.lit (.int k (k.wrap (BitVec.ofInt k.bits a ^^^ BitVec.ofInt k.bits b).toNat)))
    | .andNot => k = k' ∧ K (.lit (.int k (k.wrap (BitVec.ofInt k.bits a &&& ~~~BitVec.ofInt k.bits b).toNat)))
  | _, _ => False

def swpSlc (sz : Nat) (H : List Blk) (x : AV) (lo hi : Option AV) (K : AV → Prop) : Prop :=
  match aview H x with
  | some (n, cells) =>
    match (match lo with | some (.lit (.int _ l)) => some l | none => some 0 | _ => none), (match hi with | some (.lit (.int _ h)) => some h | none => some (n : Int) | _ => none) with
    | some l, some h => 0 ≤ l ∧ l ≤ h ∧ h ≤ n ∧ (∀ i ver off len, x = .nm i ver off len → (H[i]?).map Blk.sz = some sz) ∧ K (match x with
      | .nm i ver off _ => if l = 0 then .nm i ver off h.toNat else if l = h then .il 0 [] else .nm i ver (off + l.toNat * sz) (h.toNat - l.toNat)
      | _ => .il (h.toNat - l.toNat) ((cells.drop (l.toNat * sz)).take ((h.toNat - l.toNat) * sz)))
    | _, _ => False
  | none => False

def swpApp (ty sz bytes : Nat) (H : List Blk) (s x : AV) (K : AV → List Blk → Prop) : Prop :=
  match aview H x with
  | some (n, xs) => xs.length = n * sz ∧ (∀ c ∈ xs, c.cell1 = true) ∧ match s with
    | .nm i ver 0 len => match H[i]? with
      | some k => k.ver = ver ∧ k.ty = ty ∧ k.sz = sz ∧ len * sz ≤ k.cells.length ∧ (len + n) * bytes ≤ 140737488355328 ∧ len + n ≤ 140737488355328 ∧
        K (.nm i (ver + 1) 0 (len + n)) (H.set i ⟨ver + 1, ty, sz, k.cells.take (len * sz) ++ xs⟩)
      | none => False
    | .lit (.slice none 0 0) => n * bytes ≤ 140737488355328 ∧ n ≤ 140737488355328 ∧ K (.nm H.length 1 0 n) (H ++ [⟨1, ty, sz, xs⟩])
    | _ => False
  | none => False

/-- The abstract weakest precondition of one operation. -/
def swpOp (P : Program) (so : SO) (ρ : Operand → AV) (H : List Blk) (K : AV → List Blk → Prop) : Prop :=
  match so with
  | .mv x => K (ρ x) H
  | .pick c a b => match ρ c with
    | .lit (.bool t) => K (if t then ρ a else ρ b) H
    | _ => False
  | .bin op x y => swpBin op (ρ x) (ρ y) fun v => K v H
  | .binb neg x y => match ρ x, ρ y with
    | .lit (.bool a), .lit (.bool b) => K (Bv (if neg then a != b else a == b)) H
    | _, _ => False
  | .eqs neg x y => match ρ x, ρ y with
    | .agg [.lit (.int .i64 a), .lit (.int .i64 b)], .agg [.lit (.int .i64 c), .lit (.int .i64 d)] => K (Bv (if neg then !(decide (a = c) && decide (b = d)) else (decide (a = c) && decide (b = d)))) H
    | _, _ => False
  | .un op x => match op, ρ x with
    | .not, .lit (.bool b) => K (Bv (!b)) H
    | .neg, .lit (.int k n) => K (.lit (.int k (k.wrap (0 - n)))) H
    | _, _ => False
  | .load c agg a => match acells H c (ρ a) with
    | some cs => if agg then K (.agg cs) H else match cs with
      | [x] => K x H
      | _ => False
    | none => False
  | .store c a v => (partsOf (ρ v)).length = c ∧ ((partsOf (ρ v)).all AV.cell1 = true) ∧ match astore H (partsOf (ρ v)) (ρ a) with
    | some H' => K (.lit undef) H'
    | none => False
  | .nilc x => match ρ x with
    | .pc i ver off => alive H (.pc i ver off) ∧ K (.pc i ver off) H
    | .el s k => alive H (.el s k) ∧ K (.el s k) H
    | .fn f cs => K (.fn f cs) H
    | _ => False
  | .faddr off a => match ρ a with
    | .pc i ver o => alive H (.pc i ver o) ∧ K (.pc i ver (o + off)) H
    | .el s k => alive H (.el s k) ∧ K (.el s (k + off)) H
    | _ => False
  | .fld off c agg x => match ρ x with
    | .agg cs => if agg then off + c ≤ cs.length ∧ K (.agg ((cs.drop off).take c)) H else match cs[off]? with
      | some v => K v H
      | none => False
    | _ => False
  | .iaddr sz s i => match aview H (ρ s), ρ i with
    | some (n, _), .lit (.int _ x) => 0 ≤ x ∧ x < n ∧ K (.el (ρ s) (x.toNat * sz)) H
    | _, _ => False
  | .ext x n => match ρ x with
    | .tup cs => match cs[n]? with
      | some v => K v H
      | none => False
    | _ => False
  | .len x => match aview H (ρ x) with
    | some (n, _) => n ≤ 9223372036854775807 → K (I n) H
    | none => False
  | .qlen x => match aview H (ρ x) with
    | some (n, _) => K (I n) H
    | none => False
  | .alloc ty zero => K (.pc H.length 0 0) (H ++ [⟨0, ty, 1, zero.map .lit⟩])
  | .box ty x => ((partsOf (ρ x)).all AV.cell1 = true) ∧ K (.pc H.length 0 0) (H ++ [⟨0, ty, 1, partsOf (ρ x)⟩])
  | .build zero parts => ((parts.all fun p => (partsOf (ρ p.2.2)).all AV.cell1) = true) ∧ match afill (zero.map .lit) (parts.map fun p => (p.1, p.2.1, ρ p.2.2)) with
    | some cs => K (.agg cs) H
    | none => False
  | .bslice ty sz len zero parts => ((parts.all fun p => (partsOf (ρ p.2)).all AV.cell1) = true) ∧ match afill (zero.map .lit) (parts.map fun p => (p.1 * sz, sz, ρ p.2)) with
    | some cs => (cs.all AV.cell1 = true) ∧ K (.nm H.length 0 0 len) (H ++ [⟨0, ty, sz, cs⟩])
    | none => False
  | .mslice ty bytes zero l c => match ρ l, ρ c with
    | .lit (.int .i64 x), .lit (.int .i64 y) => 0 ≤ x ∧ x ≤ y ∧ y * bytes ≤ 281474976710656 ∧ y ≤ 281474976710656 ∧ K (.nm H.length 0 0 x.toNat) (H ++ [⟨0, ty, 1, List.replicate y.toNat (.lit zero)⟩])
    | _, _ => False
  | .slc sz x lo hi => swpSlc sz H (ρ x) (lo.map ρ) (hi.map ρ) fun v => K v H
  | .app ty sz bytes s x => swpApp ty sz bytes H (ρ s) (ρ x) K
  | .mkf f caps => K (.fn f (caps.map ρ)) H
  | .call f args => ACalls P f (args.map ρ) H K
  | .callv x args => match ρ x with
    | .fn f cs => callable P f = true ∧ ACalls P f (args.map ρ ++ cs) H K
    | _ => False
  | .qcall f args => ∃ v, AFn P f (args.map ρ) H v ∧ K v H
  | .qcallv x args => match ρ x with
    | .fn f cs => callable P f = true ∧ ∃ v, AFn P f (args.map ρ ++ cs) H v ∧ K v H
    | _ => False
  | .mm isMax x y => match ρ x, ρ y with
    | .lit (.int k a), .lit (.int _ b) => K (.lit (.int k (if isMax then (if a < b then b else a) else (if b < a then b else a)))) H
    | _, _ => False
  | .conv k x => match ρ x with
    | .lit (.int _ n) => K (.lit (.int k (k.wrap n))) H
    | _ => False
  | .slc0 ty sz x => match aview H (ρ x) with
    | some _ => K (.nm H.length 0 0 0) (H ++ [⟨0, ty, sz, []⟩])
    | none => False
  | .isnil neg x => match aview H (ρ x) with
    | some (n, _) => ∀ b : Bool, (b = true → n = 0) → K (Bv (if neg then !b else b)) H
    | none => False
  | .bad => False

/-- The state of a function's frame: its slots, abstract memory. -/
structure Ctx where
  B : Nat
  W0 : World
  F0 : Fz
  m0 : List Ent
  n : Nat

structure St (cx : Ctx) (F : Fz) (m : List Ent) (E : Nat → AV) (H : List Blk) (a : Act) (w : World) : Prop where
  defers : a.defers = []
  size : a.tmps.size = cx.n
  env : ∀ k, Rel F m (E k) (a.tmps.getD k undef)
  sim : Sim cx.B cx.W0 F m H w
  fle : FLe cx.F0 F
  mle : MLe cx.m0 m

def updO (E : Nat → AV) (d : Option Nat) (v : AV) : Nat → AV :=
  match d with
  | some t => fun k => if k = t then v else E k
  | none => E

theorem St.ev {cx : Ctx} {F : Fz} {m : List Ent} {E : Nat → AV} {H : List Blk} {a : Act} {w : World} (h : St cx F m E H a w) (x : Operand) : Rel F m (ev E x) (a.eval x) := by
  cases x with
  | tmp t => exact h.env t
  | const v => exact .lit v
  | func f => exact .fn f [] [] rfl (fun j c v h => by simp at h)
  | global g => exact .junk _

theorem St.evs {cx : Ctx} {F : Fz} {m : List Ent} {E : Nat → AV} {H : List Blk} {a : Act} {w : World} (h : St cx F m E H a w) (xs : List Operand) : Rels F m (xs.map (Av.ev E)) (xs.map a.eval) := by
  induction xs with
  | nil => exact Rels.nil _ _
  | cons x xs ih => exact Rels.cons (h.ev x) ih

theorem St.put {cx : Ctx} {F F' : Fz} {m m' : List Ent} {E : Nat → AV} {H H' : List Blk} {a : Act} {w w' : World} (h : St cx F m E H a w) (hF : FLe F F') (hm : MLe m m')
    (hs : Sim cx.B cx.W0 F' m' H' w') {d : Option Nat} (hd : ∀ t, d = some t → t < cx.n) {v : AV} {u : Value} (hr : Rel F' m' v u) : St cx F' m' (updO E d v) H' (a.put d u) w' := by
  cases d with
  | none => exact ⟨h.defers, h.size, fun k => (h.env k).mono hF hm, hs, h.fle.trans hF, h.mle.trans hm⟩
  | some t =>
    refine ⟨h.defers, by simp [Act.put, h.size], ?_, hs, h.fle.trans hF, h.mle.trans hm⟩
    intro k
    have ht : t < a.tmps.size := by rw [h.size]; exact hd t rfl
    simp only [updO, Act.put]
    by_cases hk : k = t
    · subst hk
      simp [ht]; exact hr
    · have : (a.tmps.setIfInBounds t u).getD k undef = a.tmps.getD k undef := by
        simp [Array.getElem?_setIfInBounds_ne (Ne.symm hk)]
      rw [this]; simp only [hk, if_false]
      exact (h.env k).mono hF hm

end Go.Av
