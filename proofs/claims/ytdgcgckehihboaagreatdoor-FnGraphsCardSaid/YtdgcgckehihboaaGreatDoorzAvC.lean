/- The abstract layer, part 12: the forms in which rows are computed. The abstract layer, part 13: what a function has made is never written again. The abstract layer, part 14: blocks at the heap's end, computed. The abstract layer, part 15: a law that returns true, at the top. The abstract layer, part 16: a law's arguments, read. -/
import Derived.Test.YtdgcgckehihboaaGreatDoorzAvB
import Derived.ChangeShapes
import Derived.Deep.Slices
import Derived.Carry
set_option linter.unusedSimpArgs false
set_option linter.unusedVariables false
set_option linter.unusedSectionVars false
set_option maxHeartbeats 4000000
set_option maxRecDepth 100000
namespace Go.Av
variable [Go.Av.DoorC]
def GSplit (b want : Bool) (p q : Prop) : Prop := (b = want → p) ∧ (b = !want → q)
theorem GSplit_t (p q : Prop) : GSplit true true p q = p := by simp [GSplit]
theorem GSplit_f (p q : Prop) : GSplit false false p q = p := by simp [GSplit]
theorem GSplit_tf (p q : Prop) : GSplit true false p q = q := by simp [GSplit]
theorem GSplit_ft (p q : Prop) : GSplit false true p q = q := by simp [GSplit]
def swpR (P : Program) : List SOper → Env → List Blk → (Env → List Blk → Prop) → Prop
  | [], E, H, K => K E H
  | ⟨d, op, none⟩ :: rest, E, H, K => swpOp P op (ev (aget E)) H fun v H' => swpR P rest (aputO E d v) H' K
  | ⟨d, op, some (t, want)⟩ :: rest, E, H, K => match aget E t with
    | .lit (.bool b) => GSplit b want (swpOp P op (ev (aget (aput E t (Bv want)))) H fun v H' => swpR P rest (aputO (aput E t (Bv want)) d v) H' K) (swpR P rest (aputO (aput E t (Bv (!want))) d (.lit undef)) H K)
    | .lit _ => swpR P rest (aputO E d (.lit undef)) H K
    | _ => False
theorem swpOps_congr {P : Program} {K : Env → List Blk → Prop} (hK : ∀ E E' H, aget E = aget E' → K E H → K E' H) : ∀ (l : List SOper) (E E' : Env) (H : List Blk), aget E = aget E' → swpOps P l E H K → swpOps P l E' H K
  | [], E, E', H, he, h => hK E E' H he h
  | s :: rest, E, E', H, he, h => by
    simp only [swpOps] at h ⊢
    rw [← he]
    exact aStepV_mono (fun v H' g => swpOps_congr hK rest _ _ H' (by rw [aget_aputO, aget_aputO, he]) g) h
theorem swpR_ops {P : Program} {K : Env → List Blk → Prop} (hK : ∀ E E' H, aget E = aget E' → K E H → K E' H) : ∀ (l : List SOper) (E : Env) (H : List Blk), swpR P l E H K → swpOps P l E H K
  | [], E, H, h => h
  | ⟨d, op, none⟩ :: rest, E, H, h => by
    simp only [swpOps, aStepV, swpR] at h ⊢
    exact swpOp_mono (fun v H' g => swpR_ops hK rest _ _ g) h
  | ⟨d, op, some (t, want)⟩ :: rest, E, H, h => by
    simp only [swpOps, aStepV]
    simp only [swpR] at h
    split at h
    · rename_i b hb
      simp only [hb]
      have same : ∀ x : Bool, b = x → aget (aput E t (Bv x)) = aget E := by
        intro x hx
        funext j
        rw [aget_aput]
        split
        · rename_i hj; rw [hj, hb, hx]; rfl
        · rfl
      refine ⟨fun hw => ?_, fun hw => ?_⟩
      · have h1 := h.1 hw
        rw [same want hw] at h1
        refine swpOp_mono (fun v H' g => ?_) h1
        exact swpOps_congr hK rest _ _ H' (by rw [aget_aputO, aget_aputO, same want hw]) (swpR_ops hK rest _ _ g)
      · have hw' : b = !want := by cases b <;> cases want <;> simp_all
        exact swpOps_congr hK rest _ _ H (by rw [aget_aputO, aget_aputO, same _ hw']) (swpR_ops hK rest _ _ (h.2 hw'))
    · rename_i v hnb hv
      simp only [hv]
      cases v <;> first | exact swpR_ops hK rest _ _ h | exact absurd rfl (hnb _)
    · exact h.elim
theorem keep_congr {E E' : Env} (h : aget E = aget E') (ks : List Nat) : keep ks E = keep ks E' := by
  simp [keep, h]
def RK (live : List Nat) (Q : SX → Env → List Blk → Prop) (E : Env) (H : List Blk) : Prop := Q .nrm (keep live E) H
theorem SW.row {P : Program} {n k0 : Nat} {Q : SX → Env → List Blk → Prop} {E : Env} {H : List Blk} {ops : List SOper} {live : List Nat} (h : swpR P ops E H (RK live Q)) : SW P n k0 (.reg ops live) Q E H :=
  SW.reg (swpR_ops (K := RK live Q) (fun E E' H he h => by unfold RK at h ⊢; rw [← keep_congr he]; exact h) ops E H h)
def OK' (P : Program) (rest : List SOper) (d : Option Nat) (E : Env) (K : Env → List Blk → Prop) (v : AV) (H : List Blk) : Prop := swpR P rest (aputO E d v) H K
def GuardAt (P : Program) (rest : List SOper) (d : Option Nat) (op : SO) (t : Nat) (want : Bool) (E : Env) (H : List Blk) (K : Env → List Blk → Prop) : AV → Prop
  | .lit (.bool b) => GSplit b want (swpOp P op (ev (aget (aput E t (Bv want)))) H (OK' P rest d (aput E t (Bv want)) K)) (swpR P rest (aputO (aput E t (Bv (!want))) d (.lit undef)) H K)
  | .lit _ => swpR P rest (aputO E d (.lit undef)) H K
  | _ => False
def nilS : AV := .lit (.slice none 0 0)
def acell1 (H : List Blk) : AV → Option AV
  | .pc i ver off => match H[i]? with
    | some k => if k.ver = ver then k.cells[off]? else none
    | none => none
  | .el s j => match aview H s with
    | some (_, cells) => cells[j]?
    | none => none
  | _ => none
theorem acells_one (H : List Blk) (a : AV) : acells H 1 a = (acell1 H a).map fun v => [v] := by
  have key : ∀ (cells : List AV) (j : Nat), (if j + 1 ≤ cells.length then some ((cells.drop j).take 1) else none) = (cells[j]?).map fun v => [v] := by
    intro cells j
    by_cases h : j < cells.length
    · rw [if_pos (by omega), List.getElem?_eq_getElem h, List.drop_eq_getElem_cons h]; rfl
    · rw [if_neg (by omega), List.getElem?_eq_none (by omega)]; rfl
  cases a <;> simp only [acells, acell1, Option.map_none]
  case pc i ver off =>
    cases hk : H[i]? with
    | none => rfl
    | some k =>
      simp only
      by_cases hv : k.ver = ver
      · simp only [hv, true_and, if_true]; exact key _ _
      · simp [hv]
  case el s j =>
    cases aview H s with
    | none => rfl
    | some p => exact key _ _
def LoadW (H : List Blk) (K : AV → List Blk → Prop) : Option AV → Prop
  | some v => K v H
  | none => False
def LoadG (H : List Blk) (K : AV → List Blk → Prop) : Option (List AV) → Prop
  | some cs => K (.agg cs) H
  | none => False
def StoreW (K : AV → List Blk → Prop) : Option (List Blk) → Prop
  | some H' => K (.lit undef) H'
  | none => False
def BinW (op : BinOp) (x y : AV) (H : List Blk) (K : AV → List Blk → Prop) : Prop := swpBin op x y fun v => K v H
def BinbW (neg : Bool) (x y : AV) (H : List Blk) (K : AV → List Blk → Prop) : Prop := match x, y with
  | .lit (.bool a), .lit (.bool b) => K (Bv (if neg then a != b else a == b)) H
  | _, _ => False
def UnW (op : UnOp) (x : AV) (H : List Blk) (K : AV → List Blk → Prop) : Prop := match op, x with
  | .not, .lit (.bool b) => K (Bv (!b)) H
  | .neg, .lit (.int k n) => K (.lit (.int k (k.wrap (0 - n)))) H
  | _, _ => False
def PickW (c x y : AV) (H : List Blk) (K : AV → List Blk → Prop) : Prop := match c with
  | .lit (.bool t) => K (if t then x else y) H
  | _ => False
def NilcW (x : AV) (H : List Blk) (K : AV → List Blk → Prop) : Prop := match x with
  | .pc i ver off => alive H (.pc i ver off) ∧ K (.pc i ver off) H
  | .el s k => alive H (.el s k) ∧ K (.el s k) H
  | .fn f cs => K (.fn f cs) H
  | _ => False
def FaddrW (off : Nat) (x : AV) (H : List Blk) (K : AV → List Blk → Prop) : Prop := match x with
  | .pc i ver o => alive H (.pc i ver o) ∧ K (.pc i ver (o + off)) H
  | .el s k => alive H (.el s k) ∧ K (.el s (k + off)) H
  | _ => False
def IaddrW (sz : Nat) (s x : AV) (H : List Blk) (K : AV → List Blk → Prop) : Prop := match aview H s, x with
  | some (n, _), .lit (.int _ z) => 0 ≤ z ∧ z < n ∧ K (.el s (z.toNat * sz)) H
  | _, _ => False
def ExtW (H : List Blk) (K : AV → List Blk → Prop) : Option AV → Prop
  | some v => K v H
  | none => False
def tupAt : AV → Nat → Option AV
  | .tup cs, n => cs[n]?
  | _, _ => none
def LenW (H : List Blk) (K : AV → List Blk → Prop) : Option (Nat × List AV) → Prop
  | some (n, _) => n ≤ 9223372036854775807 → K (I n) H
  | none => False
def QlenW (H : List Blk) (K : AV → List Blk → Prop) : Option (Nat × List AV) → Prop
  | some (n, _) => K (I n) H
  | none => False
def IsnilW (neg : Bool) (H : List Blk) (K : AV → List Blk → Prop) : Option (Nat × List AV) → Prop
  | some (n, _) => ∀ b : Bool, (b = true → n = 0) → K (Bv (if neg then !b else b)) H
  | none => False
def Slc0W (ty sz : Nat) (H : List Blk) (K : AV → List Blk → Prop) : Option (Nat × List AV) → Prop
  | some _ => K (.nm H.length 0 0 0) (H ++ [⟨0, ty, sz, []⟩])
  | none => False
def BuildW (H : List Blk) (K : AV → List Blk → Prop) : Option (List AV) → Prop
  | some cs => K (.agg cs) H
  | none => False
def BsliceW (ty sz len : Nat) (H : List Blk) (K : AV → List Blk → Prop) : Option (List AV) → Prop
  | some cs => (cs.all AV.cell1 = true) ∧ K (.nm H.length 0 0 len) (H ++ [⟨0, ty, sz, cs⟩])
  | none => False
def MsliceW (ty bytes : Nat) (zero : Value) (l c : AV) (H : List Blk) (K : AV → List Blk → Prop) : Prop := match l, c with
  | .lit (.int .i64 x), .lit (.int .i64 y) => 0 ≤ x ∧ x ≤ y ∧ y * bytes ≤ 281474976710656 ∧ y ≤ 281474976710656 ∧ K (.nm H.length 0 0 x.toNat) (H ++ [⟨0, ty, 1, List.replicate y.toNat (.lit zero)⟩])
  | _, _ => False
def MsliceNW (ty bytes : Nat) (zs : List Value) (l c : AV) (H : List Blk) (K : AV → List Blk → Prop) : Prop := match l, c with
  | .lit (.int .i64 x), .lit (.int .i64 y) => 0 ≤ x ∧ x ≤ y ∧ y * bytes ≤ 281474976710656 ∧ y ≤ 281474976710656 ∧ K (.nm H.length 0 0 x.toNat) (H ++ [⟨0, ty, zs.length, (List.range (y.toNat * zs.length)).map fun q => .lit (zs.getD (q % zs.length) undef)⟩])
  | _, _ => False
def CallvW (P : Program) (x : AV) (args : List AV) (H : List Blk) (K : AV → List Blk → Prop) : Prop := match x with
  | .fn f cs => callable P f = true ∧ ACalls P f (args ++ cs) H K
  | _ => False
def QcallvW (P : Program) (x : AV) (args : List AV) (H : List Blk) (K : AV → List Blk → Prop) : Prop := match x with
  | .fn f cs => callable P f = true ∧ ∃ v, AFn P f (args ++ cs) H v ∧ K v H
  | _ => False
def FcallW (P : Program) (f : FuncId) (args : List AV) (H : List Blk) (K : AV → List Blk → Prop) : Prop := ACalls P f args H fun v H' => K v H' ∧ ∃ ext, H' = H ++ ext
def QcallW (P : Program) (f : FuncId) (args : List AV) (H : List Blk) (K : AV → List Blk → Prop) : Prop := ∃ v, AFn P f args H v ∧ K v H
def MmW (mx : Bool) (x y : AV) (H : List Blk) (K : AV → List Blk → Prop) : Prop := match x, y with
  | .lit (.int k a), .lit (.int _ b) => K (.lit (.int k (if mx then (if a < b then b else a) else (if b < a then b else a)))) H
  | _, _ => False
def ConvW (k : IntKind) (x : AV) (H : List Blk) (K : AV → List Blk → Prop) : Prop := match x with
  | .lit (.int _ n) => K (.lit (.int k (k.wrap n))) H
  | _ => False
def FldW (off c : Nat) (agg : Bool) (x : AV) (H : List Blk) (K : AV → List Blk → Prop) : Prop := match x with
  | .agg cs => if agg then off + c ≤ cs.length ∧ K (.agg ((cs.drop off).take c)) H else match cs[off]? with
    | some v => K v H
    | none => False
  | _ => False
section
variable (P : Program) (rest : List SOper) (d : Option Nat) (op : SO) (t n : Nat) (b c want neg : Bool) (E : Env) (H : List Blk) (K : Env → List Blk → Prop) (Q : SX → Env → List Blk → Prop) (ρ : Operand → AV) (Kv : AV → List Blk → Prop) (x y : Operand) (i j : Int) (v u : AV) (f : FuncId) (args : List Operand) (p q : Prop)
@[go_sem] theorem swpR_nil : swpR P [] E H K = K E H := (rfl)
@[go_sem] theorem swpR_cons : swpR P (⟨d, op, none⟩ :: rest) E H K = swpOp P op (ev (aget E)) H (OK' P rest d E K) := (rfl)
@[go_sem] theorem swpR_guard : swpR P (⟨d, op, some (t, want)⟩ :: rest) E H K = GuardAt P rest d op t want E H K (aget E t) := by
  simp only [swpR, GuardAt]
  split <;> rfl
@[go_sem] theorem GuardAt_bool : GuardAt P rest d op t want E H K (Bv b) = GSplit b want (swpOp P op (ev (aget (aput E t (Bv want)))) H (OK' P rest d (aput E t (Bv want)) K)) (swpR P rest (aputO (aput E t (Bv (!want))) d (.lit undef)) H K) := (rfl)
@[go_sem] theorem GuardAt_undef : GuardAt P rest d op t want E H K (.lit undef) = swpR P rest (aputO E d (.lit undef)) H K := (rfl)
@[go_sem] theorem OK'_app : OK' P rest d E K v H = swpR P rest (aputO E d v) H K := (rfl)
@[go_sem] theorem RK_app (live : List Nat) : RK live Q E H = Q .nrm (keep live E) H := (rfl)
attribute [go_sem] GSplit_t GSplit_f GSplit_tf GSplit_ft
@[go_sem] theorem swpT_done : swpT P .done E H K = K E H := (rfl)
def OKt (P : Program) (tt : ST) (d : Option Nat) (E : Env) (K : Env → List Blk → Prop) (v : AV) (H : List Blk) : Prop := swpT P tt (aputO E d v) H K
@[go_sem] theorem swpT_one (tt : ST) : swpT P (.one ⟨d, op, none⟩ tt) E H K = swpOp P op (ev (aget E)) H (OKt P tt d E K) := (rfl)
@[go_sem] theorem swpT_both (t1 t2 : ST) : swpT P (.both t1 t2) E H K = (swpT P t1 E H K ∧ swpT P t2 E H K) := (rfl)
@[go_sem] theorem OKt_app (tt : ST) : OKt P tt d E K v H = swpT P tt (aputO E d v) H K := (rfl)
@[go_sem] theorem swpU_done (S : List Blk → Prop) : swpU P S .done E H K = K E H := (rfl)
def OKu (P : Program) (S : List Blk → Prop) (late : Bool) (H0 : List Blk) (tt : SU) (d : Option Nat) (E : Env) (K : Env → List Blk → Prop) (v : AV) (H : List Blk) : Prop := (late = false → S H0 → S H) ∧ swpU P S tt (aputO E d v) H K
@[go_sem] theorem swpU_one (S : List Blk → Prop) (tt : SU) : swpU P S (.one ⟨d, op, none⟩ tt) E H K = swpOp P op (ev (aget E)) H (OKu P S op.late H tt d E K) := (rfl)
@[go_sem] theorem swpU_both (S : List Blk → Prop) (t1 t2 : SU) : swpU P S (.both t1 t2) E H K = (swpU P S t1 E H K ∧ swpU P S t2 E H K) := (rfl)
@[go_sem] theorem OKu_app (S : List Blk → Prop) (late : Bool) (H0 : List Blk) (tt : SU) : OKu P S late H0 tt d E K v H = ((late = false → S H0 → S H) ∧ swpU P S tt (aputO E d v) H K) := (rfl)
@[go_sem] theorem aputO_some (k : Nat) : aputO E (some k) v = aput E k v := (rfl)
@[go_sem] theorem aputO_none : aputO E none v = E := (rfl)
@[go_sem] theorem aput_nil (k : Nat) : aput [] k v = [(k, v)] := (rfl)
@[go_sem] theorem aput_cons (k l : Nat) : aput ((l, u) :: E) k v = if k = l then (l, v) :: E else (l, u) :: aput E k v := (rfl)
@[go_sem] theorem aget_cons (k l : Nat) : aget ((l, u) :: E) k = if k = l then u else aget E k := (rfl)
@[go_sem] theorem keep_nil : keep [] E = [] := (rfl)
@[go_sem] theorem keep_cons (k : Nat) (ks : List Nat) : keep (k :: ks) E = (k, aget E k) :: keep ks E := (rfl)
@[go_sem] theorem argEnv_nil (k : Nat) : argEnv k [] = [] := (rfl)
@[go_sem] theorem argEnv_cons (k : Nat) (vs : List AV) : argEnv k (v :: vs) = (k, v) :: argEnv (k + 1) vs := (rfl)
@[go_sem] theorem ev_tmp (F : Nat → AV) : ev F (.tmp t) = F t := (rfl)
@[go_sem] theorem ev_int (F : Nat → AV) : ev F (.const (.int .i64 i)) = I i := (rfl)
@[go_sem] theorem ev_bool (F : Nat → AV) : ev F (.const (.bool b)) = Bv b := (rfl)
@[go_sem] theorem ev_nil (F : Nat → AV) : ev F (.const (.slice none 0 0)) = nilS := (rfl)
@[go_sem] theorem ev_func (F : Nat → AV) : ev F (.func f) = .fn f [] := (rfl)
@[go_sem] theorem lit_int : AV.lit (.int .i64 i) = I i := (rfl)
@[go_sem] theorem lit_bool : AV.lit (.bool b) = Bv b := (rfl)
@[go_sem] theorem lit_nil : AV.lit (.slice none 0 0) = nilS := (rfl)
@[go_sem] theorem wrap64 : IntKind.i64.wrap i = w64 i := (rfl)
@[go_sem] theorem op_mv : swpOp P (.mv x) ρ H Kv = Kv (ρ x) H := (rfl)
@[go_sem] theorem op_pick (z : Operand) : swpOp P (.pick z x y) ρ H Kv = PickW (ρ z) (ρ x) (ρ y) H Kv := (rfl)
@[go_sem] theorem op_bin (o : BinOp) : swpOp P (.bin o x y) ρ H Kv = BinW o (ρ x) (ρ y) H Kv := (rfl)
def EqsW (neg : Bool) (x y : AV) (H : List Blk) (K : AV → List Blk → Prop) : Prop := match x, y with
    | .agg [.lit (.int .i64 a), .lit (.int .i64 b)], .agg [.lit (.int .i64 c), .lit (.int .i64 d)] => K (Bv (if neg then !(decide (a = c) && decide (b = d)) else (decide (a = c) && decide (b = d)))) H
    | _, _ => False
@[go_sem] theorem EqsW_f (i j k l : Int) (H : List Blk) (K : AV → List Blk → Prop) : EqsW false (.agg [I i, I j]) (.agg [I k, I l]) H K = K (Bv (decide (i = k) && decide (j = l))) H := (rfl)
@[go_sem] theorem EqsW_t (i j k l : Int) (H : List Blk) (K : AV → List Blk → Prop) : EqsW true (.agg [I i, I j]) (.agg [I k, I l]) H K = K (Bv (!(decide (i = k) && decide (j = l)))) H := (rfl)
@[go_sem] theorem op_eqs : swpOp P (.eqs neg x y) ρ H Kv = EqsW neg (ρ x) (ρ y) H Kv := (rfl)
@[go_sem] theorem op_binb : swpOp P (.binb neg x y) ρ H Kv = BinbW neg (ρ x) (ρ y) H Kv := (rfl)
@[go_sem] theorem op_sop (k : SK) (xs : List Operand) : swpOp P (.sop k xs) ρ H Kv = sopW (sopV k (xs.map ρ)) fun v => Kv v H := (rfl)
@[go_sem] theorem sopW_some' (v : AV) (K : AV → Prop) : sopW (some v) K = K v := (rfl)
@[go_sem] theorem op_un (o : UnOp) : swpOp P (.un o x) ρ H Kv = UnW o (ρ x) H Kv := (rfl)
@[go_sem] theorem op_load1 : swpOp P (.load 1 false x) ρ H Kv = LoadW H Kv (acell1 H (ρ x)) := by
  simp only [swpOp, acells_one]
  cases acell1 H (ρ x) <;> rfl
@[go_sem] theorem op_loadg : swpOp P (.load n true x) ρ H Kv = LoadG H Kv (acells H n (ρ x)) := by
  simp only [swpOp]
  cases acells H n (ρ x) <;> rfl
@[go_sem] theorem op_store : swpOp P (.store n x y) ρ H Kv = ((partsOf (ρ y)).length = n ∧ (partsOf (ρ y)).all AV.cell1 = true ∧ StoreW Kv (astore H (partsOf (ρ y)) (ρ x))) := by
  simp only [swpOp]
  cases astore H (partsOf (ρ y)) (ρ x) <;> rfl
@[go_sem] theorem op_nilc : swpOp P (.nilc x) ρ H Kv = NilcW (ρ x) H Kv := (rfl)
@[go_sem] theorem op_faddr : swpOp P (.faddr n x) ρ H Kv = FaddrW n (ρ x) H Kv := (rfl)
@[go_sem] theorem op_fld (m : Nat) : swpOp P (.fld n m b x) ρ H Kv = FldW n m b (ρ x) H Kv := (rfl)
@[go_sem] theorem op_iaddr : swpOp P (.iaddr n x y) ρ H Kv = IaddrW n (ρ x) (ρ y) H Kv := (rfl)
@[go_sem] theorem op_ext : swpOp P (.ext x n) ρ H Kv = ExtW H Kv (tupAt (ρ x) n) := by
  simp only [swpOp, tupAt]
  split
  · rename_i cs hc; simp only [hc]; cases cs[n]? <;> rfl
  · rename_i hn
    split
    · rename_i cs hc; exact absurd hc (hn cs)
    · rfl
@[go_sem] theorem op_len : swpOp P (.len x) ρ H Kv = LenW H Kv (aview H (ρ x)) := by
  simp only [swpOp]
  cases aview H (ρ x) <;> rfl
@[go_sem] theorem op_qlen : swpOp P (.qlen x) ρ H Kv = QlenW H Kv (aview H (ρ x)) := by
  simp only [swpOp]
  cases aview H (ρ x) <;> rfl
@[go_sem] theorem op_alloc (ty : Nat) (z : List Value) : swpOp P (.alloc ty z) ρ H Kv = Kv (.pc H.length 0 0) (H ++ [⟨0, ty, 1, z.map .lit⟩]) := (rfl)
@[go_sem] theorem op_box (ty : Nat) : swpOp P (.box ty x) ρ H Kv = ((partsOf (ρ x)).all AV.cell1 = true ∧ Kv (.pc H.length 0 0) (H ++ [⟨0, ty, 1, partsOf (ρ x)⟩])) := (rfl)
@[go_sem] theorem op_build (z : List Value) (ps : List (Nat × Nat × Operand)) : swpOp P (.build z ps) ρ H Kv = ((ps.all fun p => (partsOf (ρ p.2.2)).all AV.cell1) = true ∧ BuildW H Kv (afill (z.map .lit) (ps.map fun p => (p.1, p.2.1, ρ p.2.2)))) := by
  simp only [swpOp]
  cases afill (z.map .lit) (ps.map fun p => (p.1, p.2.1, ρ p.2.2)) <;> rfl
@[go_sem] theorem op_bslice (ty sz : Nat) (z : List Value) (ps : List (Nat × Operand)) : swpOp P (.bslice ty sz n z ps) ρ H Kv = ((ps.all fun p => (partsOf (ρ p.2)).all AV.cell1) = true ∧ BsliceW ty sz n H Kv (afill (z.map .lit) (ps.map fun p => (p.1 * sz, sz, ρ p.2)))) := by
  simp only [swpOp]
  cases afill (z.map .lit) (ps.map fun p => (p.1 * sz, sz, ρ p.2)) <;> rfl
@[go_sem] theorem op_msliceN (ty : Nat) (zs : List Value) : swpOp P (.msliceN ty n zs x y) ρ H Kv = MsliceNW ty n zs (ρ x) (ρ y) H Kv := (rfl)
@[go_sem] theorem op_mslice (ty : Nat) (z : Value) : swpOp P (.mslice ty n z x y) ρ H Kv = MsliceW ty n z (ρ x) (ρ y) H Kv := (rfl)
@[go_sem] theorem op_slc (lo hi : Option Operand) : swpOp P (.slc n x lo hi) ρ H Kv = swpSlc n H (ρ x) (lo.map ρ) (hi.map ρ) fun v => Kv v H := (rfl)
@[go_sem] theorem op_isnil : swpOp P (.isnil neg x) ρ H Kv = IsnilW neg H Kv (aview H (ρ x)) := by
  simp only [swpOp]
  cases aview H (ρ x) <;> rfl
@[go_sem] theorem IsnilW_some (n : Nat) (cs : List AV) : IsnilW neg H Kv (some (n, cs)) = ∀ b : Bool, (b = true → n = 0) → Kv (Bv (if neg then !b else b)) H := (rfl)
@[go_sem] theorem op_slc0 (ty sz : Nat) : swpOp P (.slc0 ty sz x) ρ H Kv = Slc0W ty sz H Kv (aview H (ρ x)) := by
  simp only [swpOp]
  cases aview H (ρ x) <;> rfl
@[go_sem] theorem Slc0W_some (ty sz : Nat) (r : Nat × List AV) : Slc0W ty sz H Kv (some r) = Kv (.nm H.length 0 0 0) (H ++ [⟨0, ty, sz, []⟩]) := (rfl)
@[go_sem] theorem op_app (ty sz : Nat) : swpOp P (.app ty sz n x y) ρ H Kv = swpApp ty sz n H (ρ x) (ρ y) Kv := (rfl)
@[go_sem] theorem op_mkf : swpOp P (.mkf f args) ρ H Kv = Kv (.fn f (args.map ρ)) H := (rfl)
@[go_sem] theorem op_call : swpOp P (.call f args) ρ H Kv = ACalls P f (args.map ρ) H Kv := (rfl)
@[go_sem] theorem op_callv : swpOp P (.callv x args) ρ H Kv = CallvW P (ρ x) (args.map ρ) H Kv := (rfl)
@[go_sem] theorem op_fcall : swpOp P (.fcall f args) ρ H Kv = FcallW P f (args.map ρ) H Kv := (rfl)
@[go_sem] theorem op_qcall : swpOp P (.qcall f args) ρ H Kv = QcallW P f (args.map ρ) H Kv := (rfl)
@[go_sem] theorem op_qcallv : swpOp P (.qcallv x args) ρ H Kv = QcallvW P (ρ x) (args.map ρ) H Kv := (rfl)
def MgetW (kd : Nat) (zero : Value) (m k : AV) (H : List Blk) (K : AV → List Blk → Prop) : Prop := match m with
    | .mp i ver => ∃ (ty : Nat) (ps : List (MK × Value)) (key : MK), H[i]? = some ⟨ver, ty, 0, mapC ps⟩ ∧ MK.of k = some key ∧ key.kind = kd ∧ (∀ p ∈ ps, p.1.kind = kd) ∧ K (.lit (mval ps key zero)) H
    | _ => False
def MputW (kd : Nat) (m k v : AV) (H : List Blk) (K : AV → List Blk → Prop) : Prop := match m, v with
    | .mp i ver, .lit u => ∃ (ty : Nat) (ps : List (MK × Value)) (key : MK), H[i]? = some ⟨ver, ty, 0, mapC ps⟩ ∧ MK.of k = some key ∧ key.kind = kd ∧ (∀ p ∈ ps, p.1.kind = kd) ∧ (∀ p ∈ ps, p.1 ≠ key) ∧
        K (.lit undef) (H.set i ⟨ver, ty, 0, mapC (ps ++ [(key, u)])⟩)
    | _, _ => False
def StrW (H : List Blk) (K : AV → List Blk → Prop) : Option (Nat × List AV) → Prop
    | some (n, cells) => ∃ ns : List Int, n = ns.length ∧ cells = ns.map (fun z => .lit (.int .u8 z)) ∧ K (.lit (.string (bytesOf ns))) H
    | none => False
@[go_sem] theorem op_mkmap (ty : Nat) : swpOp P (.mkmap ty) ρ H Kv = Kv (.mp H.length 0) (H ++ [⟨0, ty, 0, []⟩]) := (rfl)
@[go_sem] theorem op_mget (kd : Nat) (z : Value) : swpOp P (.mget kd z x y) ρ H Kv = MgetW kd z (ρ x) (ρ y) H Kv := (rfl)
@[go_sem] theorem op_mput (kd : Nat) (z : Operand) : swpOp P (.mput kd x y z) ρ H Kv = MputW kd (ρ x) (ρ y) (ρ z) H Kv := (rfl)
def ClrW (zero : Value) (x : AV) (H : List Blk) (K : AV → List Blk → Prop) : Prop := match x with
    | .nm i ver off len => ∃ (ty : Nat) (cells : List AV), 0 < len ∧ H[i]? = some ⟨ver, ty, 1, cells⟩ ∧ off + len ≤ cells.length ∧ K (.tup []) (H.set i ⟨ver, ty, 1, setMany cells off (List.replicate len (.lit zero))⟩)
    | _ => False
@[go_sem] theorem op_clr (z : Value) : swpOp P (.clr z x) ρ H Kv = ClrW z (ρ x) H Kv := (rfl)
theorem ClrW.of {z : Value} {i ver off len ty : Nat} {cells : List AV} (h0 : 0 < len) (h1 : H[i]? = some ⟨ver, ty, 1, cells⟩) (h2 : off + len ≤ cells.length) (h : Kv (.tup []) (H.set i ⟨ver, ty, 1, setMany cells off (List.replicate len (.lit z))⟩)) : ClrW z (.nm i ver off len) H Kv := ⟨ty, cells, h0, h1, h2, h⟩
@[go_sem] theorem op_str : swpOp P (.str x) ρ H Kv = StrW H Kv (aview H (ρ x)) := by
  simp only [swpOp, StrW]; split <;> simp_all
theorem MgetW.of {kd : Nat} {z : Value} {i ver ty : Nat} {k : AV} {ps : List (MK × Value)} {key : MK} (h1 : H[i]? = some ⟨ver, ty, 0, mapC ps⟩) (h2 : MK.of k = some key) (h3 : key.kind = kd) (h4 : ∀ p ∈ ps, p.1.kind = kd) (h : Kv (.lit (mval ps key z)) H) : MgetW kd z (.mp i ver) k H Kv := ⟨ty, ps, key, h1, h2, h3, h4, h⟩
theorem MputW.of {kd i ver ty : Nat} {k : AV} {ps : List (MK × Value)} {key : MK} {u : Value} (h1 : H[i]? = some ⟨ver, ty, 0, mapC ps⟩) (h2 : MK.of k = some key) (h3 : key.kind = kd) (h4 : ∀ p ∈ ps, p.1.kind = kd) (h5 : ∀ p ∈ ps, p.1 ≠ key) (h : Kv (.lit undef) (H.set i ⟨ver, ty, 0, mapC (ps ++ [(key, u)])⟩)) : MputW kd (.mp i ver) k (.lit u) H Kv := ⟨ty, ps, key, h1, h2, h3, h4, h5, h⟩
theorem StrW.of {cells : List AV} {m : Nat} (ns : List Int) (h1 : m = ns.length) (h2 : cells = ns.map (fun z => .lit (.int .u8 z))) (h : Kv (.lit (.string (bytesOf ns))) H) : StrW H Kv (some (m, cells)) := ⟨ns, h1, h2, h⟩
@[go_sem] theorem op_mm : swpOp P (.mm b x y) ρ H Kv = MmW b (ρ x) (ρ y) H Kv := (rfl)
@[go_sem] theorem op_conv (k : IntKind) : swpOp P (.conv k x) ρ H Kv = ConvW k (ρ x) H Kv := (rfl)
@[go_sem] theorem BinW_add : BinW .add (I i) (I j) H Kv = Kv (I (w64 (i + j))) H := by simp [BinW, swpBin, I, w64]
@[go_sem] theorem BinW_sub : BinW .sub (I i) (I j) H Kv = Kv (I (w64 (i - j))) H := by simp [BinW, swpBin, I, w64]
@[go_sem] theorem BinW_mul : BinW .mul (I i) (I j) H Kv = Kv (I (w64 (i * j))) H := by simp [BinW, swpBin, I, w64]
@[go_sem] theorem BinW_quo : BinW .quo (I i) (I j) H Kv = (j ≠ 0 ∧ Kv (I (w64 (i.tdiv j))) H) := by simp [BinW, swpBin, I, w64]
@[go_sem] theorem BinW_shl : BinW .shl (I i) (I j) H Kv = (0 ≤ j ∧ Kv (I (w64 (i * 2 ^ (min j.toNat 64)))) H) := (rfl)
@[go_sem] theorem BinW_shr : BinW .shr (I i) (I j) H Kv = (0 ≤ j ∧ Kv (I (i.fdiv (2 ^ (min j.toNat 64)))) H) := (rfl)
@[go_sem] theorem BinW_rem : BinW .rem (I i) (I j) H Kv = (j ≠ 0 ∧ Kv (I (i.tmod j)) H) := by simp [BinW, swpBin, I]
@[go_sem] theorem BinW_eql : BinW .eql (I i) (I j) H Kv = Kv (Bv (decide (i = j))) H := by
  have : (i == j) = decide (i = j) := by by_cases h : i = j <;> simp [h]
  simp [BinW, swpBin, I, this]
@[go_sem] theorem BinW_neq : BinW .neq (I i) (I j) H Kv = Kv (Bv (!decide (i = j))) H := by
  have : (i != j) = !decide (i = j) := by by_cases h : i = j <;> simp [h]
  simp [BinW, swpBin, I, this]
@[go_sem] theorem BinW_lss : BinW .lss (I i) (I j) H Kv = Kv (Bv (decide (i < j))) H := by simp [BinW, swpBin, I]
@[go_sem] theorem BinW_leq : BinW .leq (I i) (I j) H Kv = Kv (Bv (decide (i ≤ j))) H := by simp [BinW, swpBin, I]
@[go_sem] theorem BinW_gtr : BinW .gtr (I i) (I j) H Kv = Kv (Bv (decide (j < i))) H := by simp [BinW, swpBin, I]
@[go_sem] theorem BinW_geq : BinW .geq (I i) (I j) H Kv = Kv (Bv (decide (j ≤ i))) H := by simp [BinW, swpBin, I]
@[go_sem] theorem BinbW_eql : BinbW false (Bv b) (Bv c) H Kv = Kv (Bv (b == c)) H := (rfl)
@[go_sem] theorem BinbW_neq : BinbW true (Bv b) (Bv c) H Kv = Kv (Bv (b != c)) H := (rfl)
@[go_sem] theorem UnW_not : UnW .not (Bv b) H Kv = Kv (Bv (!b)) H := (rfl)
@[go_sem] theorem UnW_neg : UnW .neg (I i) H Kv = Kv (I (w64 (0 - i))) H := (rfl)
@[go_sem] theorem PickW_t : PickW (Bv true) u v H Kv = Kv u H := (rfl)
@[go_sem] theorem PickW_f : PickW (Bv false) u v H Kv = Kv v H := (rfl)
@[go_sem] theorem LoadW_some : LoadW H Kv (some v) = Kv v H := (rfl)
@[go_sem] theorem LoadG_some (cs : List AV) : LoadG H Kv (some cs) = Kv (.agg cs) H := (rfl)
@[go_sem] theorem StoreW_some (H' : List Blk) : StoreW Kv (some H') = Kv (.lit undef) H' := (rfl)
@[go_sem] theorem NilcW_pc (k ver o : Nat) : NilcW (.pc k ver o) H Kv = (alive H (.pc k ver o) ∧ Kv (.pc k ver o) H) := (rfl)
@[go_sem] theorem NilcW_el (k : Nat) : NilcW (.el v k) H Kv = (alive H (.el v k) ∧ Kv (.el v k) H) := (rfl)
@[go_sem] theorem FaddrW_pc (k ver o : Nat) : FaddrW n (.pc k ver o) H Kv = (alive H (.pc k ver o) ∧ Kv (.pc k ver (o + n)) H) := (rfl)
@[go_sem] theorem FaddrW_el (k : Nat) : FaddrW n (.el v k) H Kv = (alive H (.el v k) ∧ Kv (.el v (k + n)) H) := (rfl)
theorem IaddrW_of {s : AV} {m : Nat} {cells : List AV} (hv : aview H s = some (m, cells)) : IaddrW n s (I i) H Kv = (0 ≤ i ∧ i < m ∧ Kv (.el s (i.toNat * n)) H) := by
  simp [IaddrW, hv, I]
@[go_sem] theorem ExtW_some : ExtW H Kv (some v) = Kv v H := (rfl)
@[go_sem] theorem tupAt_tup (cs : List AV) : tupAt (.tup cs) n = cs[n]? := (rfl)
@[go_sem] theorem LenW_some (cs : List AV) : LenW H Kv (some (n, cs)) = (n ≤ 9223372036854775807 → Kv (I n) H) := (rfl)
@[go_sem] theorem QlenW_some (cs : List AV) : QlenW H Kv (some (n, cs)) = Kv (I n) H := (rfl)
@[go_sem] theorem BuildW_some (cs : List AV) : BuildW H Kv (some cs) = Kv (.agg cs) H := (rfl)
@[go_sem] theorem BsliceW_some (ty sz : Nat) (cs : List AV) : BsliceW ty sz n H Kv (some cs) = ((cs.all AV.cell1 = true) ∧ Kv (.nm H.length 0 0 n) (H ++ [⟨0, ty, sz, cs⟩])) := (rfl)
@[go_sem] theorem MsliceNW_int (ty : Nat) (zs : List Value) : MsliceNW ty n zs (I i) (I j) H Kv = (0 ≤ i ∧ i ≤ j ∧ j * n ≤ 281474976710656 ∧ j ≤ 281474976710656 ∧ Kv (.nm H.length 0 0 i.toNat) (H ++ [⟨0, ty, zs.length, (List.range (j.toNat * zs.length)).map fun q => .lit (zs.getD (q % zs.length) undef)⟩])) := (rfl)
@[go_sem] theorem MsliceW_int (ty : Nat) (z : Value) : MsliceW ty n z (I i) (I j) H Kv = (0 ≤ i ∧ i ≤ j ∧ j * n ≤ 281474976710656 ∧ j ≤ 281474976710656 ∧ Kv (.nm H.length 0 0 i.toNat) (H ++ [⟨0, ty, 1, List.replicate j.toNat (.lit z)⟩])) := (rfl)
@[go_sem] theorem CallvW_fn (az cs : List AV) : CallvW P (.fn f cs) az H Kv = (callable P f = true ∧ ACalls P f (az ++ cs) H Kv) := (rfl)
@[go_sem] theorem QcallvW_fn (az cs : List AV) : QcallvW P (.fn f cs) az H Kv = (callable P f = true ∧ QcallW P f (az ++ cs) H Kv) := (rfl)
@[go_sem] theorem MmW_max : MmW true (I i) (I j) H Kv = Kv (I (if i < j then j else i)) H := (rfl)
@[go_sem] theorem MmW_min : MmW false (I i) (I j) H Kv = Kv (I (if j < i then j else i)) H := (rfl)
@[go_sem] theorem FldW_one (m : Nat) (cs : List AV) : FldW n m false (.agg cs) H Kv = ExtW H Kv cs[n]? := by
  simp only [FldW, Bool.false_eq_true, if_false]
  cases cs[n]? <;> rfl
@[go_sem] theorem FldW_agg (m : Nat) (cs : List AV) : FldW n m true (.agg cs) H Kv = (n + m ≤ cs.length ∧ Kv (.agg ((cs.drop n).take m)) H) := (rfl)
@[go_sem] theorem SThen_nrm (n k0 : Nat) (z : SC) : SThen P n k0 z Q .nrm E H = SW P n k0 z Q E H := (rfl)
@[go_sem] theorem SThen_ext (n k0 id : Nat) (z : SC) : SThen P n k0 z Q (.ext id) E H = Q (.ext id) E H := (rfl)
@[go_sem] theorem SThen_ret (n k0 : Nat) (z : SC) : SThen P n k0 z Q .ret E H = Q .ret E H := (rfl)
@[go_sem] theorem SBlk_nrm (id : Nat) : SBlk id Q .nrm E H = Q .nrm E H := (rfl)
@[go_sem] theorem SBlk_ret (id : Nat) : SBlk id Q .ret E H = Q .ret E H := (rfl)
@[go_sem] theorem SBlk_ext (id id' : Nat) : SBlk id Q (.ext id') E H = if id' = id then Q .nrm E H else Q (.ext id') E H := (rfl)
@[go_sem] theorem SLoop_ext (k0 : Nat) (live : List Nat) (I' : Nat → Env → List Blk → Prop) (k id : Nat) : SLoop k0 live I' k Q (.ext id) E H = Q (.ext id) E H := (rfl)
@[go_sem] theorem SLoop_ret (k0 : Nat) (live : List Nat) (I' : Nat → Env → List Blk → Prop) (k : Nat) : SLoop k0 live I' k Q .ret E H = Q .ret E H := (rfl)
end
theorem ACalls.fn {P : Program} {f : FuncId} {args : List AV} {H : List Blk} {v : AV} {K : AV → List Blk → Prop} (h : ACalls P f args H fun r H' => r = v ∧ H' = H) (hk : K v H) : ACalls P f args H K :=
  h.mono (by rintro r H' ⟨rfl, rfl⟩; exact hk)
theorem QcallW.of {P : Program} {f : FuncId} {args : List AV} {H : List Blk} {v : AV} {K : AV → List Blk → Prop} (h : AFn P f args H v) (hk : K v H) : QcallW P f args H K := ⟨v, h, hk⟩
theorem SLoop.next {k0 : Nat} {live : List Nat} {I' : Nat → Env → List Blk → Prop} {k : Nat} {Q : SX → Env → List Blk → Prop} {E : Env} {H : List Blk} (k' : Nat) (hk : k' < k) (h : I' k' (keep live E) H) : SLoop k0 live I' k Q .nrm E H :=
  ⟨k', _, _, hk, Gh.refl _ _, h⟩
section
variable {H0 H : List Blk} {R : AV → List Blk → Prop} {E : Env} {x : SX}
theorem FunPost.one {t : Nat} (h : GR H0 R (aget E t) H) : FunPost [.tmp t] H0 R .ret E H := ⟨_, rfl, h⟩
theorem FunPost.two {t u : Nat} (h : GR H0 R (.tup [aget E t, aget E u]) H) : FunPost [.tmp t, .tmp u] H0 R .ret E H := ⟨_, rfl, h⟩
theorem FunPost.three {t u s : Nat} (h : GR H0 R (.tup [aget E t, aget E u, aget E s]) H) : FunPost [.tmp t, .tmp u, .tmp s] H0 R .ret E H := ⟨_, rfl, h⟩
theorem FunPost.cell {t c : Nat} {cs : List AV} (hc : acells H c (aget E t) = some cs) (h : GR H0 R (.agg cs) H) : FunPost [.cell t c] H0 R .ret E H := ⟨_, by simp [rvsAV, rvAV, hc], h⟩
theorem FunPost.cell_tmp {t c u : Nat} {cs : List AV} (hc : acells H c (aget E t) = some cs) (h : GR H0 R (.tup [.agg cs, aget E u]) H) : FunPost [.cell t c, .tmp u] H0 R .ret E H := ⟨_, by simp [rvsAV, rvAV, hc], h⟩
end
theorem w64_id {n : Int} (h1 : -9223372036854775808 ≤ n) (h2 : n ≤ 9223372036854775807) : w64 n = n := by
  unfold w64; rw [IntKind.wrap_i64]; omega
theorem hget (H bs : List Blk) (k : Nat) : (H ++ bs)[H.length + k]? = bs[k]? := by
  rw [List.getElem?_append_right (by omega)]; congr 1; omega
theorem hget0 (H bs : List Blk) : (H ++ bs)[H.length]? = bs[0]? := by have := hget H bs 0; simpa using this
theorem hset (H bs : List Blk) (k : Nat) (x : Blk) : (H ++ bs).set (H.length + k) x = H ++ bs.set k x := by
  rw [List.set_append_right _ _ (by omega)]; congr 2; omega
theorem hset0 (H bs : List Blk) (x : Blk) : (H ++ bs).set H.length x = H ++ bs.set 0 x := by have := hset H bs 0 x; simp only [Nat.add_zero] at this; exact this
end Go.Av
namespace Go.Av
variable [Go.Av.DoorC]
open Go.RowKit
inductive Froz (H : List Blk) (base : Nat) : AV → AV → Prop
  | old (c : AV) (h : Bel base c) : Froz H base c c
  | nil : Froz H base nilS (.il 0 [])
  | nm (i ver off len : Nat) (k : Blk) (cs : List AV) (hi : base ≤ i) (hk : H[i]? = some k) (hv : k.ver = ver) (hl : cs.length = ((k.cells.drop off).take (len * k.sz)).length)
      (h : ∀ (j : Nat) (c c' : AV), ((k.cells.drop off).take (len * k.sz))[j]? = some c → cs[j]? = some c' → Froz H base c c') : Froz H base (.nm i ver off len) (.il len cs)
  | agg (cs cs' : List AV) (hl : cs'.length = cs.length) (h : ∀ (j : Nat) (c c' : AV), cs[j]? = some c → cs'[j]? = some c' → Froz H base c c') : Froz H base (.agg cs) (.agg cs')
  | tup (cs cs' : List AV) (hl : cs'.length = cs.length) (h : ∀ (j : Nat) (c c' : AV), cs[j]? = some c → cs'[j]? = some c' → Froz H base c c') : Froz H base (.tup cs) (.tup cs')
theorem froz_rel {B : Nat} {W0 : World} {F : Fz} {m : List Ent} {H : List Blk} {w : World} (hs : Sim B W0 F m H w) {base : Nat} {c c' : AV} (hf : Froz H base c c') : ∀ {v : Value}, Rel F m c v →
    Rel (fun b o v => F b o v ∨ ((∃ i e, base ≤ i ∧ m[i]? = some e ∧ e.blk = some b) ∧ w.cell? ⟨b, o, none⟩ = some v)) (m.take base) c' v := by
  have hF : FLe F (fun b o v => F b o v ∨ ((∃ i e, base ≤ i ∧ m[i]? = some e ∧ e.blk = some b) ∧ w.cell? ⟨b, o, none⟩ = some v)) := fun b o v h => .inl h
  have pt : ∀ {cs cs' : List AV} {vs : List Value}, cs'.length = cs.length → cs.length = vs.length → (∀ (j : Nat) (c : AV) (v : Value), cs[j]? = some c → vs[j]? = some v → Rel F m c v) →
      (∀ (j : Nat) (c c' : AV), cs[j]? = some c → cs'[j]? = some c' → ∀ {v : Value}, Rel F m c v → Rel (fun b o v => F b o v ∨ ((∃ i e, base ≤ i ∧ m[i]? = some e ∧ e.blk = some b) ∧ w.cell? ⟨b, o, none⟩ = some v)) (m.take base) c' v) →
      ∀ (j : Nat) (c' : AV) (v : Value), cs'[j]? = some c' → vs[j]? = some v → Rel (fun b o v => F b o v ∨ ((∃ i e, base ≤ i ∧ m[i]? = some e ∧ e.blk = some b) ∧ w.cell? ⟨b, o, none⟩ = some v)) (m.take base) c' v := by
    intro cs cs' vs h1 h2 h3 h4 j c' v g1 g2
    have hj : j < cs.length := by rw [← h1]; exact (List.getElem?_eq_some_iff.1 g1).1
    exact h4 j _ c' (List.getElem?_eq_getElem hj) g1 (h3 j _ v (List.getElem?_eq_getElem hj) g2)
  induction hf with
  | old c h => intro v hr; exact (hr.take h).mono hF (MLe.refl _)
  | nil => intro v hr; have := hr.lit_inv; subst this; exact .il0
  | nm i ver off len k cs hi hk hv hl _ ih =>
    intro v hr
    cases hr with
    | nm _ _ _ _ e a n cap h1 h2 h3 =>
      have hok := hs.blk i e k h1 hk
      obtain ⟨cap', g1, g2, g3⟩ := h3 (by rw [hok.1, hv])
      rcases g3 with ⟨b, hb, hval, hsz, hnz⟩ | ⟨hb, hval, hl0, ho0⟩
      · rw [hval]
        obtain ⟨vs, r1, r2⟩ := hs.row hok hnz hb off ((k.cells.drop off).take (len * k.sz)) (fun q c hq => by
          rw [List.getElem?_take] at hq
          split at hq
          · rw [List.getElem?_drop] at hq; exact hq
          · simp at hq)
        refine .il len cs b off cap' vs g1 g2 (by rw [hl]; exact r1.1) (fun q u hq => .inr ⟨⟨i, e, hi, h1, hb⟩, (r2 q u hq).1⟩) ?_
        exact pt hl r1.1 r1.2 (fun j c c' x y => ih j c c' x y)
      · obtain ⟨qq, hval⟩ := hval
        rw [hval]
        subst hl0
        have : cs = [] := by apply List.eq_nil_of_length_eq_zero; rw [hl]; simp
        subst this
        cases qq with
        | none => exact .il0
        | some ad => exact .il1 ad
  | agg cs cs' hl _ ih =>
    intro v hr
    cases hr with
    | agg _ vs h1 h2 => exact .agg cs' vs (by rw [hl, h1]) (pt hl h1 h2 (fun j c c' x y => ih j c c' x y))
  | tup cs cs' hl _ ih =>
    intro v hr
    cases hr with
    | tup _ vs h1 h2 => exact .tup cs' vs (by rw [hl, h1]) (pt hl h1 h2 (fun j c c' x y => ih j c c' x y))
theorem GR.froz {H0 ext : List Blk} {R : AV → List Blk → Prop} {r r' : AV} (hf : Froz (H0 ++ ext) H0.length r r') (h : R r' H0) : GR H0 R r (H0 ++ ext) := by
  intro B W0 F0 m0 w0 F m w v hs0 hF hm hr hs
  have h1 := froz_rel hs hf hr
  have h2 := hs.take (k := H0.length) (by rw [List.take_left]; exact hs0.bel)
  rw [List.take_left] at h2
  have hF' : FLe F (fun b o v => F b o v ∨ ((∃ i e, H0.length ≤ i ∧ m[i]? = some e ∧ e.blk = some b) ∧ w.cell? ⟨b, o, none⟩ = some v)) := fun b o v h => .inl h
  refine ⟨_, m.take H0.length, r', H0, hF.trans hF', hm.take (by rw [hs0.len]; exact Nat.le_refl _), h1, ?_, h⟩
  have sub : ∀ {i : Nat} {e : Ent}, (m.take H0.length)[i]? = some e → i < H0.length ∧ m[i]? = some e := by
    intro i e he
    rw [List.getElem?_take] at he
    split at he
    · exact ⟨by assumption, he⟩
    · simp at he
  refine ⟨h2.len, h2.below, h2.base, ?_, ?_, h2.dist, ?_, h2.glob⟩
  · intro b o u hu
    rcases hu with hu | ⟨⟨i, e, hi, he, hb⟩, hc⟩
    · exact h2.fz b o u hu
    · obtain ⟨k, hk, hok⟩ := hs.getm he
      exact ⟨hc, hok.one hb hc⟩
  · intro i e b o u he hb hu
    obtain ⟨hlt, he'⟩ := sub he
    rcases hu with hu | ⟨⟨j, e', hj, hje, hjb⟩, _⟩
    · exact h2.apart i e b o u he hb hu
    · have := hs.dist i j e e' b he' hje hb hjb
      omega
  · intro i e k he hk
    exact (h2.blk i e k he hk).mono hF' (MLe.refl _) (fun _ _ => rfl)
end Go.Av
namespace Go.Av
variable [Go.Av.DoorC]
section
variable {H : List Blk} {p ver ty sz off n : Nat} {cells cs : List AV}
theorem pc_ld (hp : H[p]? = some ⟨ver, ty, sz, cells⟩) : acell1 H (.pc p ver off) = cells[off]? := by simp [acell1, hp]
theorem pc_alive (hp : H[p]? = some ⟨ver, ty, sz, cells⟩) : alive H (.pc p ver off) = True := by simp [alive, hp]
theorem pc_lds (hp : H[p]? = some ⟨ver, ty, sz, cells⟩) (hl : off + n ≤ cells.length) : acells H n (.pc p ver off) = some ((cells.drop off).take n) := by simp [acells, hp, hl]
theorem pc_st (hp : H[p]? = some ⟨ver, ty, sz, cells⟩) (hl : off + cs.length ≤ cells.length) : astore H cs (.pc p ver off) = some (H.set p ⟨ver, ty, sz, setMany cells off cs⟩) := by simp [astore, hp, hl]
end
def PcL (ver off : Nat) : Option Blk → Option AV
  | some k => if k.ver = ver then k.cells[off]? else none
  | none => none
def PcV (ver : Nat) : Option Blk → Prop
  | some k => k.ver = ver
  | none => False
def PcG (ver off c : Nat) : Option Blk → Option (List AV)
  | some k => if k.ver = ver ∧ off + c ≤ k.cells.length then some ((k.cells.drop off).take c) else none
  | none => none
def PcS (H bs : List Blk) (j ver off : Nat) (cs : List AV) : Option Blk → Option (List Blk)
  | some k => if k.ver = ver ∧ off + cs.length ≤ k.cells.length then some (H ++ bs.set j { k with cells := setMany k.cells off cs }) else none
  | none => none
def NmV (ver off len : Nat) : Option Blk → Option (Nat × List AV)
  | some k => if k.ver = ver then some (len, (k.cells.drop off).take (len * k.sz)) else none
  | none => none
section
variable (H bs : List Blk) (j ver ty sz off n len : Nat) (cs cells : List AV)
theorem acell1_own : acell1 (H ++ bs) (.pc (H.length + j) ver off) = PcL ver off bs[j]? := by
  simp only [acell1, hget]; rfl
theorem acell1_own0 : acell1 (H ++ bs) (.pc H.length ver off) = PcL ver off bs[0]? := acell1_own H bs 0 ver off
theorem alive_own : alive (H ++ bs) (.pc (H.length + j) ver off) = PcV ver bs[j]? := by
  simp only [alive, hget]
  cases bs[j]? <;> simp [PcV]
theorem alive_own0 : alive (H ++ bs) (.pc H.length ver off) = PcV ver bs[0]? := alive_own H bs 0 ver off
theorem acells_own : acells (H ++ bs) n (.pc (H.length + j) ver off) = PcG ver off n bs[j]? := by
  simp only [acells, hget]; rfl
theorem acells_own0 : acells (H ++ bs) n (.pc H.length ver off) = PcG ver off n bs[0]? := acells_own H bs 0 ver off n
theorem astore_own : astore (H ++ bs) cs (.pc (H.length + j) ver off) = PcS H bs j ver off cs bs[j]? := by
  simp only [astore, hget]
  cases bs[j]? <;> simp [PcS, hset]
theorem astore_own0 : astore (H ++ bs) cs (.pc H.length ver off) = PcS H bs 0 ver off cs bs[0]? := astore_own H bs 0 ver off cs
theorem aview_own : aview (H ++ bs) (.nm (H.length + j) ver off len) = NmV ver off len bs[j]? := by
  simp only [aview, hget]; rfl
theorem aview_own0 : aview (H ++ bs) (.nm H.length ver off len) = NmV ver off len bs[0]? := aview_own H bs 0 ver off len
theorem PcL_some : PcL ver off (some ⟨ver, ty, sz, cells⟩) = cells[off]? := by simp [PcL]
theorem PcV_some : PcV ver (some ⟨ver, ty, sz, cells⟩) = True := by simp [PcV]
theorem PcG_some : PcG ver off n (some ⟨ver, ty, sz, cells⟩) = if off + n ≤ cells.length then some ((cells.drop off).take n) else none := by simp [PcG]
theorem PcS_some : PcS H bs j ver off cs (some ⟨ver, ty, sz, cells⟩) = if off + cs.length ≤ cells.length then some (H ++ bs.set j ⟨ver, ty, sz, setMany cells off cs⟩) else none := by simp [PcS]
theorem NmV_some : NmV ver 0 len (some ⟨ver, ty, 1, cells⟩) = some (len, cells.take len) := by simp [NmV]
theorem setMany_nil : setMany cells off [] = cells := (rfl)
theorem setMany_cons (c : AV) : setMany cells off (c :: cs) = setMany (cells.set off c) (off + 1) cs := (rfl)
theorem partsOf_agg : partsOf (.agg cs) = cs := (rfl)
theorem cell1_nm (i : Nat) : (AV.nm i ver off len).cell1 = true := (rfl)
theorem cell1_nil : nilS.cell1 = true := (rfl)
theorem cell1_il : (AV.il len cs).cell1 = true := (rfl)
theorem cell1_Bv (b : Bool) : (Bv b).cell1 = true := (rfl)
theorem cell1_pc (i : Nat) : (AV.pc i ver off).cell1 = true := (rfl)
theorem partsOf_nm (i : Nat) : partsOf (.nm i ver off len) = [.nm i ver off len] := (rfl)
theorem partsOf_il : partsOf (.il len cs) = [.il len cs] := (rfl)
theorem partsOf_nil : partsOf nilS = [nilS] := (rfl)
theorem partsOf_Bv (b : Bool) : partsOf (Bv b) = [Bv b] := (rfl)
theorem afill_nil : afill cells [] = some cells := (rfl)
theorem afill_cons (v : AV) (rest : List (Nat × Nat × AV)) : afill cells ((off, n, v) :: rest) = if (partsOf v).length = n ∧ off + n ≤ cells.length then afill (setMany cells off (partsOf v)) rest else none := (rfl)
end
end Go.Av
namespace Go.Av
variable [Go.Av.DoorC]
theorem Sim.start (w : World) (hg : Glob w.heap.size w := by exact True.intro) : Sim w.heap.size w (fun _ _ _ => False) [] [] w :=
  ⟨rfl, Blw.refl _ _, Nat.le_refl _, fun _ _ _ h => h.elim, fun _ _ _ _ _ h => by simp at h, fun _ _ _ _ _ h => by simp at h, fun _ _ _ h => by simp at h, hg⟩
theorem ACalls.top {P : Program} {f : FuncId} {args : List AV} {w : World} {b : Bool} (h : ACalls P f args [] fun r _ => r = Bv b) (vs : List Value) (hr : Rels (fun _ _ _ => False) [] args vs) (hg : Glob w.heap.size w := by exact True.intro) :
    Calls P f vs.toArray w fun e w' => e = .returned (.bool b) ∧ RowKit.Below w.heap.size w w' := by
  refine (h w.heap.size w (fun _ _ _ => False) [] w vs hr (Sim.start w hg)).mono ?_
  rintro e w' ⟨F', m', H', r, v, rfl, _, _, hrel, hs, rfl⟩
  exact ⟨by rw [hrel.lit_inv], hs.below.toB⟩
end Go.Av
namespace Go.Av
variable [Go.Av.DoorC]
open Go.RowKit Go.ChangeShapes Go.WideShapes
def F0 (w : World) : Fz := fun b o v => w.cell? ⟨b, o, none⟩ = some v ∧ v.oneCell' = true
theorem Sim.startF (w : World) (hg : Glob w.heap.size w := by exact True.intro) : Sim w.heap.size w (F0 w) [] [] w :=
  ⟨rfl, Blw.refl _ _, Nat.le_refl _, fun _ _ _ h => h, fun _ _ _ _ _ h => by simp at h, fun _ _ _ _ _ h => by simp at h, fun _ _ _ h => by simp at h, hg⟩
theorem ACalls.topF {P : Program} {f : FuncId} {args : List AV} {w : World} {b : Bool} (h : ACalls P f args [] fun r _ => r = Bv b) (vs : List Value) (hr : Rels (F0 w) [] args vs) (hg : Glob w.heap.size w := by exact True.intro) :
    Calls P f vs.toArray w fun e w' => e = .returned (.bool b) ∧ RowKit.Below w.heap.size w w' := by
  refine (h w.heap.size w (F0 w) [] w vs hr (Sim.startF w hg)).mono ?_
  rintro e w' ⟨F', m', H', r, v, rfl, _, _, hrel, hs, rfl⟩
  exact ⟨by rw [hrel.lit_inv], hs.below.toB⟩
def Reads (w : World) (az : List AV) (cs : List Value) : Prop := Rels (F0 w) [] az cs ∧ ∀ a ∈ az, a.cell1 = true
theorem Addr.add_add' (a : Addr) (x y : Nat) : (a.add x).add y = a.add (x + y) := by
  unfold Addr.add
  by_cases hx : x = 0
  · subst hx; simp
  · by_cases hy : y = 0
    · subst hy; simp
    · simp [hx, hy, show x + y ≠ 0 by omega, Nat.add_assoc]
section
variable {H : Type} {enc : TypeId × Value → H} {P : Program} {w : World} {held : Bool} {t e : TypeId} {fuel : Nat} {cs : List Value} {x : DataW H × List MemPlace}
theorem Reads.append {az bs : List AV} {us vs : List Value} (h : Reads w az us) (h' : Reads w bs vs) : Reads w (az ++ bs) (us ++ vs) :=
  ⟨h.1.append h'.1, fun a ha => by
    rcases List.mem_append.1 ha with ha | ha
    · exact h.2 a ha
    · exact h'.2 a ha⟩
theorem Reads.one {az : List AV} (h : Reads w az cs) : ∀ (j : Nat) (v : Value), cs[j]? = some v → v.oneCell' = true := by
  intro j v hj
  have hlt : j < az.length := by rw [h.1.1]; exact (List.getElem?_eq_some_iff.1 hj).1
  exact (h.1.2 j _ v (List.getElem?_eq_getElem hlt) hj).cell1 (h.2 _ (List.getElem_mem hlt))
theorem reads_slice {α : Type} {g : α → List AV} {Q : α → Prop} (ht : P.underlying t = some (.slice e)) (hc : 0 < P.cellsOf e)
    (hel : ∀ (fuel : Nat) (cs : List Value) (x : DataW H × List MemPlace), DataW.trod enc P w 0 (fun _ => true) held fuel e cs = some x → ∃ y, Reads w (g y) cs ∧ Q y)
    (h : DataW.trod enc P w 0 (fun _ => true) held fuel t cs = some x) : ∃ ys : List α, Reads w [.il ys.length (ys.flatMap g)] cs ∧ ∀ y ∈ ys, Q y := by
  rcases Go.Deep.open_slice ht h with ⟨rfl, _⟩ | ⟨a, len, cap, m, n, D, Pl, rfl, _, hl, hm, hmm, _, hx⟩
  · exact ⟨[], ⟨Rels.cons .il0 (Rels.nil _ _), by simp [AV.cell1]⟩, by simp⟩
  simp only [if_true] at hmm
  subst hmm
  have key : ∀ k, k ≤ len → ∃ (ys : List α) (vs : List Value), ys.length = k ∧ vs.length = k * P.cellsOf e ∧ Reads w (ys.flatMap g) vs ∧ (∀ (j : Nat) (v : Value), vs[j]? = some v → w.cell? (a.add j) = some v) ∧ ∀ y ∈ ys, Q y := by
    intro k
    induction k with
    | zero => intro _; exact ⟨[], [], rfl, by simp, ⟨Rels.nil _ _, by simp⟩, by simp, by simp⟩
    | succ k ih =>
      intro hk
      obtain ⟨ys, vs, h1, h2, h3, h4, h5⟩ := ih (by omega)
      obtain ⟨cs', g1, g2⟩ := hx k (by omega)
      obtain ⟨y, g3, g4⟩ := hel _ _ _ g2
      obtain ⟨_, g5, g6⟩ := World.cells?_some g1
      refine ⟨ys ++ [y], vs ++ cs', by simp [h1], by rw [List.length_append, h2, g5, Nat.succ_mul], ?_, ?_, ?_⟩
      · rw [List.flatMap_append]; simpa using h3.append g3
      · intro j v hj
        by_cases hjl : j < vs.length
        · rw [List.getElem?_append_left hjl] at hj; exact h4 j v hj
        · rw [List.getElem?_append_right (by omega)] at hj
          have hlt := (List.getElem?_eq_some_iff.1 hj).1
          have := g6 (j - vs.length) (by omega)
          rw [Addr.add_add'] at this
          rw [show k * P.cellsOf e + (j - vs.length) = j by omega] at this
          rw [this]; exact hj
      · intro z hz
        rcases List.mem_append.1 hz with hz | hz
        · exact h5 z hz
        · rw [List.mem_singleton.1 hz]; exact g4
  obtain ⟨ys, vs, h1, h2, h3, h4, h5⟩ := key len (Nat.le_refl _)
  refine ⟨ys, ⟨Rels.cons ?_ (Rels.nil _ _), by simp [AV.cell1]⟩, h5⟩
  by_cases hcap : m = 0
  · subst hcap
    have hl0 : len = 0 := by omega
    subst hl0
    have : ys = [] := List.eq_nil_of_length_eq_zero h1
    subst this
    exact .il1 a
  · have hsp : a.spot = none := by
      obtain ⟨cs', g1, _⟩ := hx 0 (by omega)
      obtain ⟨_, g5, g6⟩ := World.cells?_some g1
      have := g6 0 (by omega)
      rw [Addr.add_add', Nat.zero_mul] at this
      rw [List.getElem?_eq_getElem (by omega)] at this
      simp only [Addr.add, Nat.add_zero, if_true] at this
      unfold World.cell? at this
      split at this
      · split at this
        · simp at this
        · simpa using ‹¬ a.spot.isSome = true›
      · simp at this
    obtain ⟨b, o, sp⟩ := a
    simp only at hsp
    subst hsp
    rw [← h1] at hl ⊢
    refine .il _ _ b o _ vs hl hm h3.1.1 (fun j v hj => ⟨?_, h3.one j v hj⟩) h3.1.2
    rw [← Addr.add_none]; exact h4 j v hj
theorem flatMap_one {α : Type} (f : α → AV) (l : List α) : (l.flatMap fun y => [f y]) = l.map f := by
  induction l with
  | nil => rfl
  | cons a l ih => simp [ih]
theorem Reads.rel1 {a : AV} {v : Value} (h : Reads w [a] v.cells.toList) (hv : v.oneCell' = true) : Rel (F0 w) [] a v := by
  have : v.cells.toList = [v] := by cases v <;> simp_all [Value.cells, Value.oneCell']
  rw [this] at h
  exact h.1.2 0 a v rfl rfl
theorem trodAll_below (hl : laidOutB P = true) {W W' : World} (hb : Below W.heap.size W W') : ∀ {ts : List TypeId} {vs : List Value} {ds : List (DataW H)} {ps : List MemPlace}, (∀ t ∈ ts, P.readableRec t = true ∧ t < P.types.size) →
    DataW.TrodAll enc P W 0 (fun _ => true) true ts vs ds ps → (∀ x ∈ ps, x.block < W.heap.size) → DataW.TrodAll enc P W' 0 (fun b => decide (b < W.heap.size)) true ts vs ds ps
  | [], _, _, _, _, h, _ => by
    obtain ⟨rfl, rfl, rfl⟩ := trodAll_nil h
    exact rfl
  | t :: ts, _, _, _, hr, h, hlt => by
    obtain ⟨v, vs', d, ds', p, q, rfl, rfl, rfl, h1, h2⟩ := trodAll_cons h
    refine ⟨p, q, ?_, trodAll_below hl hb (fun t ht => hr t (List.mem_cons_of_mem _ ht)) h2 (fun x hx => hlt x (List.mem_append_right _ hx)), rfl⟩
    have := hr t List.mem_cons_self
    exact Below.trod hl this.1 this.2 h1 hb (fun x hx => hlt x (List.mem_append_left _ hx))
end
end Go.Av
