/- The abstract layer, part 6: from the program's operations to the abstract ones. -/
import Derived.Test.YtonfknfphdeenaaAv5
set_option linter.unusedSimpArgs false
set_option linter.unusedVariables false
set_option maxHeartbeats 4000000
set_option maxRecDepth 100000
namespace Go.Av
open Go.RowKit

def buildParts (P : Program) (fs : Array Field) : List (Nat × Operand) → Option (List (Nat × Nat × Nat × Operand))
  | [] => some []
  | (i, x) :: rest => match fs[i]? with
    | some f => match P.info? f.type, buildParts P fs rest with
      | some t, some r => some ((i, f.offset, t.size, x) :: r)
      | _, _ => none
    | none => none

def SO.of (P : Program) (o : Oper) : Option SO :=
  match o.op with
  | .move x => some (.mv x)
  | .assign x => some (.mv x)
  | .pick c a b => some (.pick c a b)
  | .binOp op t x y _ => match P.underlying t with
    | some .bool => match op with
      | .eql => some (.binb false x y)
      | .neq => some (.binb true x y)
      | _ => none
    | some (.int _) => some (.bin op x y)
    | some (.slice _) => match y with
      | .const (.slice none 0 0) => match op with
        | .eql => some (.isnil false x)
        | .neq => some (.isnil true x)
        | _ => none
      | _ => none
    | some (.struct fs) => if isPairI P t fs then (match op with
        | .eql => some (.eqs false x y)
        | .neq => some (.eqs true x y)
        | _ => none) else none
    | _ => none
  | .unOp op _ x => some (.un op x)
  | .load t a => match P.info? t, P.underlying t with
    | some i, some d => if isAggD d then (if 0 < i.size then some (.load i.size true a) else none) else some (.load 1 false a)
    | _, _ => none
  | .store t a x => match P.info? t with
    | some i => if 0 < i.size then some (.store i.size a x) else none
    | none => none
  | .nilCheck x => some (.nilc x)
  | .fieldAddr s x f => match P.underlying s with
    | some (.struct fs) => match fs[f]? with
      | some fl => match P.info? fl.type with
        | some i => if i.size = 0 then none else some (.faddr fl.offset x)
        | none => none
      | none => none
    | _ => none
  | .field s x f => match P.underlying s with
    | some (.struct fs) => match fs[f]? with
      | some fl => match P.info? fl.type, P.underlying fl.type with
        | some i, some d => some (.fld fl.offset i.size (isAggD d) x)
        | _, _ => none
      | none => none
    | _ => none
  | .indexAddr t s i => match P.underlying t with
    | some (.slice e) => match P.info? e with
      | some ie => some (.iaddr ie.size s i)
      | none => none
    | some (.array ln e) => match P.info? e, i with
      | some ie, .const (.int _ z) => if 0 ≤ z ∧ z < ln then some (.faddr (z.toNat * ie.size) s) else none
      | _, _ => none
    | _ => none
  | .extract x n => some (.ext x n)
  | .alloc t => match P.info? t with
    | some i => match i.zero with
      | some z => if z.cells.toList.all Value.oneCell' then some (.alloc t z.cells.toList) else none
      | none => none
    | none => none
  | .box t x => some (.box t x)
  | .build t ps => match P.underlying t, P.info? t with
    | some (.struct fs), some i => match i.zero, buildParts P fs ps.toList with
      | some z, some parts => if fs.all (fun f => (P.info? f.type).isSome) then some (.build z.cells.toList (parts.map fun p => (p.2.1, p.2.2.1, p.2.2.2))) else none
      | _, _ => none
    | some (.array _ e), some i => match i.zero, P.info? e with
      | some z, some ie => some (.build z.cells.toList (ps.toList.map fun p => (p.1 * ie.size, ie.size, p.2)))
      | _, _ => none
    | _, _ => none
  | .buildSlice t n ps => match P.underlying t with
    | some (.slice e) => match P.info? e with
      | some i => match i.zero with
        | some z => if 0 < i.size ∧ n * i.size ≤ 16777216 ∧ z.cells.size = i.size then some (.bslice e i.size n ((List.range (n * i.size)).map fun q => z.cells.toList.getD (q % i.size) undef) ps.toList) else none
        | none => none
      | none => none
    | _ => none
  | .makeSlice t l c => match P.underlying t with
    | some (.slice e) => match P.info? e with
      | some i => match i.zero with
        | some z => if i.size = 1 ∧ z.oneCell' then some (.mslice e i.bytes z l c) else none
        | none => none
      | none => none
    | _ => none
  | .slice t x lo hi mx => match mx with
    | none => match P.underlying t with
      | some (.slice e) => match P.info? e with
        | some i => if 0 < i.size then some (.slc i.size x lo hi) else none
        | none => none
      | _ => none
    | some m => match lo, hi, m with
      | none, some (.const (.int _ a)), .const (.int _ b) => if a = 0 ∧ b = 0 then (match P.underlying t with
        | some (.slice e) => match P.info? e with
          | some i => some (.slc0 e i.size x)
          | none => none
        | _ => none) else none
      | _, _, _ => none
  | .makeFunc fn first caps => match fn, first.toList with
    | .func f, [] => some (.mkf f caps.toList)
    | _, _ => none
  | .convert s d x => match P.underlying s, P.underlying d with
    | some (.int _), some (.int k) => some (.conv k x)
    | _, _ => none
  | .call c => match c.callee with
    | .builtin .len => match c.args.toList, c.argTypes.toList with
      | [x], [t] => match P.underlying t with
        | some (.slice _) => some (.len x)
        | _ => none
      | _, _ => none
    | .builtin .append => match c.args.toList, c.argTypes.toList with
      | [s, x], [t, t'] => if t = t' then match P.underlying t with
        | some (.slice e) => match P.info? e with
          | some i => match i.zero with
            | some z => if 0 < i.size ∧ z.cells.size = i.size ∧ z.cells.toList.all Value.oneCell' then some (.app e i.size i.bytes s x) else none
            | none => none
          | none => none
        | _ => none
        else none
      | _, _ => none
    | .builtin .max => match c.args.toList with
      | [x, y] => some (.mm true x y)
      | _ => none
    | .builtin .min => match c.args.toList with
      | [x, y] => some (.mm false x y)
      | _ => none
    | .value (.func f) => if callable P f then some (.call f c.args.toList) else none
    | .value x => some (.callv x c.args.toList)
    | _ => some .bad
  | _ => some .bad

/-- Calls as calls that leave abstract memory alone. -/
def SO.quiet : SO → SO
  | .call f args => .qcall f args
  | .callv x args => .qcallv x args
  | .len x => .qlen x
  | s => s

section
variable {P : Program} {cx : Ctx} {F : Fz} {m : List Ent} {E : Nat → AV} {H : List Blk} {a : Act} {w : World} {o : Oper} {K : AV → List Blk → Prop} {Q : Exit → Act → World → Prop}

theorem snd_aaddr (hs : St cx F m E H a w) (hd : ∀ t, o.dst = some t → t < cx.n) {s : TypeId} {x : Operand} {kk : IntKind} {z : Int} (ho : o.op = .indexAddr s x (.const (.int kk z))) {ln : Nat} {e : TypeId} {i : TypeInfo} (hu : P.underlying s = some (.array ln e))
    (hi : P.info? e = some i) (hz : 0 ≤ z ∧ z < ln) (ha : alive H (ev E x)) {v : AV}
    (hv : (∃ j ver q, ev E x = .pc j ver q ∧ v = .pc j ver (q + z.toNat * i.size)) ∨ (∃ s k, ev E x = .el s k ∧ v = .el s (k + z.toNat * i.size))) (hk : K v H) : o.wp P a w (Fin cx E o.dst K F m) Q := by
  obtain ⟨p, hp⟩ := alive_ptr hs (hs.ev x) ha
  have hc : a.eval (.const (.int kk z)) = .int kk z := rfl
  have hrun : (execOp a.eval o).run P w = .ok (.value (.pointer (some (p.add (z.toNat * i.size))))) w := by
    simp [execOp, ho, hp, hc, Instr.indexAt, asIntOf, run_underlying hu, Instr.sureAddr, hz.1, hz.2, run_sizeOf' hi]
  have h1 := hs.ev x
  rw [hp] at h1
  refine snd_pure hs hd hrun ?_ hk
  rcases hv with ⟨j, ver, q, he, rfl⟩ | ⟨s, k, he, rfl⟩
  · rw [he] at h1
    generalize hp' : (Value.pointer (some p)) = pv at h1
    cases h1 with
    | pc _ _ _ e p' g1 g2 g3 =>
      cases hp'
      refine .pc j ver (q + z.toNat * i.size) e _ g1 g2 ?_
      intro hver
      obtain ⟨b, hb, hpp⟩ := g3 hver
      simp only [Option.some.injEq] at hpp
      exact ⟨b, hb, by rw [hpp, Addr.add_none]⟩
  · rw [he] at h1 ha
    obtain ⟨n, cells, hview⟩ := ha
    generalize hp' : (Value.pointer (some p)) = pv at h1
    cases h1 with
    | el _ _ sv p' g1 g2 =>
      cases hp'
      refine .el s (k + z.toNat * i.size) sv _ g1 ?_
      intro ad len cap hsv
      have hpp := g2 ad len cap hsv
      simp only [Option.some.injEq] at hpp
      subst hpp
      obtain ⟨_, hcase⟩ := aview_sound hs.sim g1 hview
      rcases hcase with ⟨b, o, cap, vs, hval, _⟩ | ⟨_, h0, _⟩
      · rw [hval] at hsv
        simp only [Value.slice.injEq, Option.some.injEq] at hsv
        obtain ⟨rfl, _, _⟩ := hsv
        rw [Addr.add_add _ _ _ rfl]
      · omega


theorem toArray_of_toList {α : Type} {xs : Array α} {l : List α} (h : xs.toList = l) : xs = l.toArray := by subst h; simp

theorem call_eq {c : Call} {b : Callee} {xs : List Operand} {ts : List TypeId} (h1 : c.callee = b) (h2 : c.args.toList = xs) (h3 : c.argTypes.toList = ts) : c = { callee := b, args := xs.toArray, argTypes := ts.toArray } := by
  obtain ⟨c1, c2, c3⟩ := c
  simp only at h1 h2 h3
  rw [h1, toArray_of_toList h2, toArray_of_toList h3]

theorem places_run (fs : List Field) (hfs : ∀ f ∈ fs, (P.info? f.type).isSome = true) : ∃ pl : List (Nat × Nat), (∀ w, (fs.mapM fun f => do pure (f.offset, ← sizeOf f.type) : Sem (List (Nat × Nat))).run P w = .ok pl w) ∧
    ∀ (j : Nat) (f : Field) (i : TypeInfo), fs[j]? = some f → P.info? f.type = some i → pl[j]? = some (f.offset, i.size) := by
  induction fs with
  | nil => exact ⟨[], fun w => rfl, fun j f i h => by simp at h⟩
  | cons f fs ih =>
    obtain ⟨pl, h1, h2⟩ := ih (fun g hg => hfs g (by simp [hg]))
    obtain ⟨i, hi⟩ := Option.isSome_iff_exists.1 (hfs f (by simp))
    refine ⟨(f.offset, i.size) :: pl, ?_, ?_⟩
    · intro w
      rw [List.mapM_cons]
      simp only [Sem.run_bind, run_sizeOf' hi, Result.andThen_ok, Sem.run_pure, h1]
    · intro j g i' hj hi'
      cases j with
      | zero => simp at hj; subst hj; rw [hi] at hi'; cases hi'; simp
      | succ j => simp at hj ⊢; exact h2 j g i' hj hi'

theorem buildParts_spec {fs : Array Field} : ∀ {l : List (Nat × Operand)} {parts : List (Nat × Nat × Nat × Operand)}, buildParts P fs l = some parts → l = parts.map (fun p => (p.1, p.2.2.2)) ∧
    ∀ p ∈ parts, ∃ f i, fs[p.1]? = some f ∧ P.info? f.type = some i ∧ p.2.1 = f.offset ∧ p.2.2.1 = i.size
  | [], parts, h => by simp [buildParts] at h; subst h; simp
  | (i, x) :: rest, parts, h => by
    simp only [buildParts] at h
    split at h
    case h_2 => simp at h
    case h_1 f hf =>
      split at h
      case h_2 => simp at h
      case h_1 t r ht hr =>
        simp only [Option.some.injEq] at h
        subst h
        obtain ⟨g1, g2⟩ := buildParts_spec hr
        refine ⟨by simp [← g1], ?_⟩
        intro p hp
        simp only [List.mem_cons] at hp
        rcases hp with rfl | hp
        · exact ⟨f, t, hf, ht, rfl, rfl⟩
        · exact g2 p hp

theorem op_sound {so : SO} (hof : SO.of P o = some so) (hs : St cx F m E H a w) (hd : ∀ t, o.dst = some t → t < cx.n) (hk : swpOp P so (ev E) H K) : o.wp P a w (Fin cx E o.dst K F m) Q := by
  unfold SO.of at hof
  split at hof
  case h_1 x ho => simp only [Option.some.injEq] at hof; subst hof; exact snd_mv hs hd (.inl ho) hk
  case h_2 x ho => simp only [Option.some.injEq] at hof; subst hof; exact snd_mv hs hd (.inr ho) hk
  case h_3 c x y ho =>
    simp only [Option.some.injEq] at hof; subst hof
    simp only [swpOp] at hk
    split at hk
    · rename_i t hc; exact snd_pick hs hd ho hc hk
    · exact hk.elim
  case h_4 op t x y t' ho =>
    split at hof
    · rename_i hu
      split at hof
      · simp only [Option.some.injEq] at hof; subst hof
        simp only [swpOp] at hk
        split at hk
        · rename_i b b' e1 e2; exact snd_binb (neg := false) hs hd ho hu e1 e2 hk
        · exact hk.elim
      · simp only [Option.some.injEq] at hof; subst hof
        simp only [swpOp] at hk
        split at hk
        · rename_i b b' e1 e2; exact snd_binb (neg := true) hs hd ho hu e1 e2 hk
        · exact hk.elim
      · simp at hof
    · simp only [Option.some.injEq] at hof; subst hof; exact snd_bin hs hd ho hk
    · rename_i e hu
      split at hof
      · split at hof
        · simp only [Option.some.injEq] at hof; subst hof
          simp only [swpOp] at hk
          split at hk
          · rename_i n cells hv; exact snd_isnil (neg := false) hs hd ho hu hv hk
          · exact hk.elim
        · simp only [Option.some.injEq] at hof; subst hof
          simp only [swpOp] at hk
          split at hk
          · rename_i n cells hv; exact snd_isnil (neg := true) hs hd ho hu hv hk
          · exact hk.elim
        · simp at hof
      · simp at hof
    · rename_i fs hu
      split at hof
      · rename_i hpi
        split at hof
        · simp only [Option.some.injEq] at hof; subst hof
          simp only [swpOp] at hk
          split at hk
          · rename_i e1 e2; exact snd_eqs (neg := false) hs hd ho hu hpi e1 e2 hk
          · exact hk.elim
        · simp only [Option.some.injEq] at hof; subst hof
          simp only [swpOp] at hk
          split at hk
          · rename_i e1 e2; exact snd_eqs (neg := true) hs hd ho hu hpi e1 e2 hk
          · exact hk.elim
        · simp at hof
      · simp at hof
    · simp at hof
  case h_5 op t x ho =>
    simp only [Option.some.injEq] at hof; subst hof
    simp only [swpOp] at hk
    split at hk
    · rename_i b he; exact snd_not hs hd ho he hk
    · rename_i k n he; exact snd_neg hs hd ho he hk
    · exact hk.elim
  case h_6 t x ho =>
    split at hof
    case h_2 => simp at hof
    case h_1 i d hi hu =>
      split at hof
      · rename_i hag
        split at hof
        · rename_i hpos
          simp only [Option.some.injEq] at hof; subst hof
          simp only [swpOp] at hk
          split at hk
          · rename_i cs hcs; exact snd_load hs hd ho hi hu hag (by simp) hpos hcs (by simpa using hk)
          · exact hk.elim
        · simp at hof
      · rename_i hag
        simp only [Option.some.injEq] at hof; subst hof
        simp only [swpOp] at hk
        split at hk
        · rename_i cs hcs; exact snd_load (agg := false) hs hd ho hi hu (by simpa using hag) (by simp) (by omega) hcs (by
            simp only [Bool.false_eq_true, if_false] at hk ⊢
            split at hk
            · rename_i y; exact ⟨y, rfl, hk⟩
            · exact hk.elim)
        · exact hk.elim
  case h_7 t x y ho =>
    split at hof
    case h_2 => simp at hof
    case h_1 i hi =>
      split at hof
      · rename_i hpos
        simp only [Option.some.injEq] at hof; subst hof
        obtain ⟨h1, h2, h3⟩ := hk
        split at h3
        · rename_i H' hst; exact snd_store hs hd ho hi hpos h1 h2 hst h3
        · exact h3.elim
      · simp at hof
  case h_8 x ho =>
    simp only [Option.some.injEq] at hof; subst hof
    simp only [swpOp] at hk
    split at hk
    · rename_i i ver off he; exact snd_nilc hs hd ho (by rw [he]; exact hk.1) (by rw [he]; exact hk.2)
    · rename_i s k he; exact snd_nilc hs hd ho (by rw [he]; exact hk.1) (by rw [he]; exact hk.2)
    · rename_i f cs he; exact snd_nilc_fn hs hd ho he (by rw [he]; exact hk)
    · exact hk.elim
  case h_9 s x f ho =>
    split at hof
    case h_2 => simp at hof
    case h_1 fs hu =>
      split at hof
      case h_2 => simp at hof
      case h_1 fl hf =>
        split at hof
        case h_2 => simp at hof
        case h_1 i hi =>
          split at hof
          · simp at hof
          · rename_i hsz
            simp only [Option.some.injEq] at hof; subst hof
            simp only [swpOp] at hk
            split at hk
            · rename_i j ver q he; exact snd_faddr hs hd ho hu hf hi hsz (by rw [he]; exact hk.1) (.inl ⟨j, ver, q, he, rfl⟩) hk.2
            · rename_i s k he; exact snd_faddr hs hd ho hu hf hi hsz (by rw [he]; exact hk.1) (.inr ⟨s, k, he, rfl⟩) hk.2
            · exact hk.elim
  case h_10 s x f ho =>
    split at hof
    case h_2 => simp at hof
    case h_1 fs hu =>
      split at hof
      case h_2 => simp at hof
      case h_1 fl hf =>
        split at hof
        case h_2 => simp at hof
        case h_1 i d hi hud =>
          simp only [Option.some.injEq] at hof; subst hof
          simp only [swpOp] at hk
          split at hk
          · rename_i cs he; exact snd_field hs hd ho hu hf hi hud he hk
          · exact hk.elim
  case h_11 t s i ho =>
    split at hof
    case h_1 e hu =>
      split at hof
      case h_2 => simp at hof
      case h_1 ie hi =>
        simp only [Option.some.injEq] at hof; subst hof
        simp only [swpOp] at hk
        split at hk
        · rename_i n cells k z hv hz; exact snd_iaddr hs hd ho hu hi hv hz hk.1 hk.2.1 hk.2.2
        · exact hk.elim
    case h_2 ln e hu =>
      split at hof
      case h_2 => simp at hof
      case h_1 ie kk z hi =>
        split at hof
        case isFalse => simp at hof
        case isTrue hz =>
          simp only [Option.some.injEq] at hof; subst hof
          simp only [swpOp] at hk
          split at hk
          · rename_i j ver q he; exact snd_aaddr hs hd ho hu hi hz (by rw [he]; exact hk.1) (.inl ⟨j, ver, q, he, rfl⟩) hk.2
          · rename_i s k he; exact snd_aaddr hs hd ho hu hi hz (by rw [he]; exact hk.1) (.inr ⟨s, k, he, rfl⟩) hk.2
          · exact hk.elim
    case h_3 => simp at hof
  case h_12 x n ho =>
    simp only [Option.some.injEq] at hof; subst hof
    simp only [swpOp] at hk
    split at hk
    · rename_i cs he
      split at hk
      · rename_i v hv; exact snd_ext hs hd ho he hv hk
      · exact hk.elim
    · exact hk.elim
  case h_13 t ho =>
    split at hof
    case h_2 => simp at hof
    case h_1 i hi =>
      split at hof
      case h_2 => simp at hof
      case h_1 z hz =>
        split at hof
        · rename_i h1
          simp only [Option.some.injEq] at hof; subst hof
          exact snd_alloc hs hd ho hi hz h1 hk
        · simp at hof
  case h_14 t x ho =>
    simp only [Option.some.injEq] at hof; subst hof
    exact snd_box hs hd ho hk.1 hk.2
  case h_15 t ps ho =>
    split at hof
    case h_3 => simp at hof
    case h_2 n e i hu hi =>
      split at hof
      case h_2 => simp at hof
      case h_1 z ie hz hie =>
        simp only [Option.some.injEq] at hof; subst hof
        obtain ⟨h1, hk⟩ := hk
        rw [List.map_map] at hk
        split at hk
        · rename_i cs hcs
          refine snd_builda hs hd ho hu hi hz hie ?_ hcs hk
          intro p hp
          rw [List.all_map] at h1
          exact List.all_eq_true.1 h1 p hp
        · exact hk.elim
    case h_1 fs i hu hi =>
      split at hof
      case h_2 => simp at hof
      case h_1 z parts hz hp =>
        split at hof
        case isFalse => simp at hof
        case isTrue hall =>
          simp only [Option.some.injEq] at hof; subst hof
          obtain ⟨g1, g2⟩ := buildParts_spec hp
          obtain ⟨pl, p1, p2⟩ := places_run (P := P) fs.toList (fun f hf => Array.all_eq_true_iff_forall_mem.1 hall f (by simpa using hf))
          obtain ⟨h1, hk⟩ := hk
          rw [List.map_map] at hk
          split at hk
          · rename_i cs hcs
            refine snd_build hs hd ho hu hi hz (places := pl.toArray) ?_ parts g1 ?_ ?_ hcs hk
            · intro w
              rw [Array.mapM_eq_mapM_toList, Sem.run_map, p1]
              rfl
            · intro p hp
              obtain ⟨f, t', hf, ht, e1, e2⟩ := g2 p hp
              rw [e1, e2]
              simpa using p2 p.1 f t' (by simpa using hf) ht
            · intro p hp
              rw [List.all_map] at h1
              exact List.all_eq_true.1 h1 p hp
          · exact hk.elim
  case h_16 t n ps ho =>
    split at hof
    case h_2 => simp at hof
    case h_1 e hu =>
      split at hof
      case h_2 => simp at hof
      case h_1 i hi =>
        split at hof
        case h_2 => simp at hof
        case h_1 z hz =>
          split at hof
          case isFalse => simp at hof
          case isTrue hc =>
            simp only [Option.some.injEq] at hof; subst hof
            obtain ⟨h1, hk⟩ := hk
            rw [List.map_map] at hk
            split at hk
            · rename_i cs hcs
              exact snd_bslice hs hd ho hu hi hz hc.1 hc.2.1 hc.2.2 (fun p hp => List.all_eq_true.1 h1 p hp) hcs hk.1 hk.2
            · exact hk.elim
  case h_17 t l c ho =>
    split at hof
    case h_2 => simp at hof
    case h_1 e hu =>
      split at hof
      case h_2 => simp at hof
      case h_1 i hi =>
        split at hof
        case h_2 => simp at hof
        case h_1 z hz =>
          split at hof
          case isFalse => simp at hof
          case isTrue hc =>
            simp only [Option.some.injEq] at hof; subst hof
            simp only [swpOp] at hk
            split at hk
            · rename_i x y hx hy
              obtain ⟨h0, h1, h2, h3, h4⟩ := hk
              exact snd_mslice hs hd ho hu hi hz hc.1 hc.2 hx hy h0 h1 h2 h3 h4
            · exact hk.elim
  case h_18 t x lo hi mx ho =>
    split at hof
    case h_2 m =>
      split at hof
      case h_2 => simp at hof
      case h_1 kh a' km b' =>
        split at hof
        case isFalse => simp at hof
        case isTrue hab =>
          obtain ⟨rfl, rfl⟩ := hab
          split at hof
          case h_2 => simp at hof
          case h_1 e hu =>
            split at hof
            case h_2 => simp at hof
            case h_1 i hi' =>
              simp only [Option.some.injEq] at hof; subst hof
              simp only [swpOp] at hk
              split at hk
              · rename_i p hp; exact snd_slc0 hs hd ho hu hi' hp hk
              · exact hk.elim
    case h_1 =>
      split at hof
      case h_2 => simp at hof
      case h_1 e hu =>
        split at hof
        case h_2 => simp at hof
        case h_1 i hi' =>
          split at hof
          · rename_i hsz
            simp only [Option.some.injEq] at hof; subst hof
            exact snd_slc hs hd ho hu hi' hsz hk
          · simp at hof
  case h_19 fn first caps ho =>
    split at hof
    case h_2 => simp at hof
    case h_1 f hfirst =>
      simp only [Option.some.injEq] at hof; subst hof
      have := toArray_of_toList hfirst
      subst this
      exact snd_mkf hs hd ho hk
  case h_20 s d x ho =>
    split at hof
    case h_2 => simp at hof
    case h_1 k' k hsrc hdst =>
      simp only [Option.some.injEq] at hof; subst hof
      simp only [swpOp] at hk
      split at hk
      · rename_i z n he; exact snd_conv hs hd ho hsrc hdst he hk
      · exact hk.elim
  case h_21 c ho =>
    split at hof
    case h_1 hcal =>
      split at hof
      case h_2 => simp at hof
      case h_1 x t hx ht =>
        split at hof
        case h_2 => simp at hof
        case h_1 e hu =>
          simp only [Option.some.injEq] at hof; subst hof
          simp only [swpOp] at hk
          split at hk
          · rename_i n cells hv; exact snd_len hs hd (ho.trans (congrArg Op.call (call_eq hcal hx ht))) hu hv hk
          · exact hk.elim
    case h_2 hcal =>
      split at hof
      case h_2 => simp at hof
      case h_1 s x t t' hx ht =>
        split at hof
        case isFalse => simp at hof
        case isTrue htt =>
          subst htt
          split at hof
          case h_2 => simp at hof
          case h_1 e hu =>
            split at hof
            case h_2 => simp at hof
            case h_1 i hi =>
              split at hof
              case h_2 => simp at hof
              case h_1 z hz =>
                split at hof
                case isFalse => simp at hof
                case isTrue hc =>
                  simp only [Option.some.injEq] at hof; subst hof
                  exact snd_app hs hd (ho.trans (congrArg Op.call (call_eq hcal hx ht))) hu hi hz hc.2.1 hc.2.2 hc.1 hk
    case h_3 hcal =>
      split at hof
      case h_2 => simp at hof
      case h_1 x y hx =>
        simp only [Option.some.injEq] at hof; subst hof
        simp only [swpOp] at hk
        split at hk
        · rename_i k n k' z e1 e2; exact snd_mm (mx := true) hs hd (ho.trans (congrArg Op.call (call_eq hcal hx rfl))) e1 e2 hk
        · exact hk.elim
    case h_4 hcal =>
      split at hof
      case h_2 => simp at hof
      case h_1 x y hx =>
        simp only [Option.some.injEq] at hof; subst hof
        simp only [swpOp] at hk
        split at hk
        · rename_i k n k' z e1 e2; exact snd_mm (mx := false) hs hd (ho.trans (congrArg Op.call (call_eq hcal hx rfl))) e1 e2 hk
        · exact hk.elim
    case h_5 f hcal =>
      split at hof
      · rename_i hc
        simp only [Option.some.injEq] at hof; subst hof
        exact snd_callf hs hd ho hcal hc hk
      · simp at hof
    case h_6 x _ hcal =>
      simp only [Option.some.injEq] at hof; subst hof
      simp only [swpOp] at hk
      split at hk
      · rename_i f cs he; exact snd_callv hs hd ho hcal he hk.1 hk.2
      · exact hk.elim
    case h_7 => simp only [Option.some.injEq] at hof; subst hof; exact hk.elim
  case h_22 => simp only [Option.some.injEq] at hof; subst hof; exact hk.elim
end
end Go.Av
