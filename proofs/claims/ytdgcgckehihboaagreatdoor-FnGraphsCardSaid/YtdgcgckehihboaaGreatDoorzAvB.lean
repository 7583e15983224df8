/- The abstract layer, part 6: from the program's operations to the abstract ones. The abstract layer, part 7: rows of operations; rows that leave their order open. The abstract layer, part 8: a row that leaves its order open comes to what one of its orders comes to. The abstract layer, part 9: rows of operations in every order; code; calls. The abstract layer, part 10: code. The abstract layer, part 11: functions; steps of the book-keeping. -/
import Derived.Test.YtdgcgckehihboaaGreatDoorzAvA
set_option linter.unusedSimpArgs false
set_option linter.unusedVariables false
set_option linter.unusedSectionVars false
set_option maxHeartbeats 4000000
set_option maxRecDepth 100000
namespace Go.Av
variable [Go.Av.DoorC]
open Go.RowKit
def buildParts (P : Program) (fs : Array Field) : List (Nat × Operand) → Option (List (Nat × Nat × Nat × Operand))
  | [] => some []
  | (i, x) :: rest => match fs[i]? with
    | some f => match P.info? f.type, buildParts P fs rest with
      | some t, some r => some ((i, f.offset, t.size, x) :: r)
      | _, _ => none
    | none => none
def SO.of (P : Program) (o : Oper) : Option SO :=
  match o.op with
  | .move x => some (.mv x)
  | .assign x => some (.mv x)
  | .pick c a b => some (.pick c a b)
  | .binOp op t x y _ => match P.underlying t with
    | some .bool => match op with
      | .eql => some (.binb false x y)
      | .neq => some (.binb true x y)
      | _ => none
    | some (.int _) => some (.bin op x y)
    | some (.slice _) => match y with
      | .const (.slice none 0 0) => match op with
        | .eql => some (.isnil false x)
        | .neq => some (.isnil true x)
        | _ => none
      | _ => none
    | some (.struct fs) => if isPairI P t fs then (match op with
        | .eql => some (.eqs false x y)
        | .neq => some (.eqs true x y)
        | _ => none) else none
    | some .string => match op with
      | .add => some (.sop .add [x, y])
      | .eql => some (.sop (.eql false) [x, y])
      | .neq => some (.sop (.eql true) [x, y])
      | _ => none
    | some (.interface _) => match y with
      | .const .nilIface => match op with
        | .eql => some (.sop (.nil false) [x])
        | .neq => some (.sop (.nil true) [x])
        | _ => none
      | _ => none
    | _ => none
  | .unOp op _ x => some (.un op x)
  | .load t a => match P.info? t, P.underlying t with
    | some i, some d => if isAggD d then (if 0 < i.size then some (.load i.size true a) else none) else some (.load 1 false a)
    | _, _ => none
  | .store t a x => match P.info? t with
    | some i => if 0 < i.size then some (.store i.size a x) else none
    | none => none
  | .nilCheck x => some (.nilc x)
  | .fieldAddr s x f => match P.underlying s with
    | some (.struct fs) => match fs[f]? with
      | some fl => match P.info? fl.type with
        | some i => if i.size = 0 then none else some (.faddr fl.offset x)
        | none => none
      | none => none
    | _ => none
  | .field s x f => match P.underlying s with
    | some (.struct fs) => match fs[f]? with
      | some fl => match P.info? fl.type, P.underlying fl.type with
        | some i, some d => some (.fld fl.offset i.size (isAggD d) x)
        | _, _ => none
      | none => none
    | _ => none
  | .indexAddr t s i => match P.underlying t with
    | some (.slice e) => match P.info? e with
      | some ie => some (.iaddr ie.size s i)
      | none => none
    | some (.array ln e) => match P.info? e, i with
      | some ie, .const (.int _ z) => if 0 ≤ z ∧ z < ln then some (.faddr (z.toNat * ie.size) s) else none
      | _, _ => none
    | _ => none
  | .extract x n => some (.ext x n)
  | .alloc t => match P.info? t with
    | some i => match i.zero with
      | some z => if z.cells.toList.all Value.oneCell' then some (.alloc t z.cells.toList) else none
      | none => none
    | none => none
  | .box t x => some (.box t x)
  | .build t ps => match P.underlying t, P.info? t with
    | some (.struct fs), some i => match i.zero, buildParts P fs ps.toList with
      | some z, some parts => if fs.all (fun f => (P.info? f.type).isSome) then some (.build z.cells.toList (parts.map fun p => (p.2.1, p.2.2.1, p.2.2.2))) else none
      | _, _ => none
    | some (.array _ e), some i => match i.zero, P.info? e with
      | some z, some ie => some (.build z.cells.toList (ps.toList.map fun p => (p.1 * ie.size, ie.size, p.2)))
      | _, _ => none
    | _, _ => none
  | .buildSlice t n ps => match P.underlying t with
    | some (.slice e) => match P.info? e with
      | some i => match i.zero with
        | some z => if 0 < i.size ∧ n * i.size ≤ 16777216 ∧ z.cells.size = i.size then some (.bslice e i.size n ((List.range (n * i.size)).map fun q => z.cells.toList.getD (q % i.size) undef) ps.toList) else none
        | none => none
      | none => none
    | _ => none
  | .makeSlice t l c => match P.underlying t with
    | some (.slice e) => match P.info? e with
      | some i => match i.zero with
        | some z => if i.size = 1 ∧ z.oneCell' then some (.mslice e i.bytes z l c) else if 0 < i.size ∧ z.cells.size = i.size ∧ z.cells.toList.all Value.oneCell' = true then some (.msliceN e i.bytes z.cells.toList l c) else none
        | none => none
      | none => none
    | _ => none
  | .slice t x lo hi mx => match mx with
    | none => match P.underlying t with
      | some (.slice e) => match P.info? e with
        | some i => if 0 < i.size then some (.slc i.size x lo hi) else none
        | none => none
      | some .string => some (.sop (.slc lo.isSome hi.isSome) (x :: (lo.toList ++ hi.toList)))
      | _ => none
    | some m => match lo, hi, m with
      | none, some (.const (.int _ a)), .const (.int _ b) => if a = 0 ∧ b = 0 then (match P.underlying t with
        | some (.slice e) => match P.info? e with
          | some i => some (.slc0 e i.size x)
          | none => none
        | _ => none) else none
      | _, _, _ => none
  | .makeFunc fn first caps => match fn, first.toList with
    | .func f, [] => some (.mkf f caps.toList)
    | _, _ => none
  | .convert s d x => match P.underlying s, P.underlying d with
    | some (.int _), some (.int k) => some (.conv k x)
    | some (.slice e), some .string => match P.underlying e with
      | some (.int .u8) => some (.str x)
      | _ => none
    | _, _ => none
  | .makeMap t r => match r with
    | none => some (.mkmap t)
    | some (.const (.int _ _)) => match P.underlying t with
      | some (.map _ _) => some (.mkmap t)
      | _ => none
    | _ => none
  | .lookup t x k ok => if ok then some .bad else match P.underlying t with
    | some (.map kt et) => match P.underlying kt, P.info? et with
      | some .string, some i => match i.zero with
        | some z => some (.mget 0 z x k)
        | none => none
      | _, some i => if isArrP P kt then (match i.zero with
        | some z => some (.mget 1 z x k)
        | none => none) else some .bad
      | _, _ => some .bad
    | _ => some .bad
  | .mapUpdate t x k y => match P.underlying t with
    | some (.map kt _) => match P.underlying kt with
      | some .string => some (.mput 0 x k y)
      | _ => if isArrP P kt then some (.mput 1 x k y) else some .bad
    | _ => some .bad
  | .insert t x k y => match P.underlying t with
    | some (.map kt _) => match P.underlying kt with
      | some .string => some (.mput 0 x k y)
      | _ => if isArrP P kt then some (.mput 1 x k y) else some .bad
    | _ => some .bad
  | .call c => match c.callee with
    | .builtin .len => match c.args.toList, c.argTypes.toList with
      | [x], [t] => match P.underlying t with
        | some (.slice _) => some (.len x)
        | some .string => some (.sop .len [x])
        | _ => none
      | _, _ => none
    | .builtin .append => match c.args.toList, c.argTypes.toList with
      | [s, x], [t, t'] => if t = t' then match P.underlying t with
        | some (.slice e) => match P.info? e with
          | some i => match i.zero with
            | some z => if 0 < i.size ∧ z.cells.size = i.size ∧ z.cells.toList.all Value.oneCell' then some (.app e i.size i.bytes s x) else none
            | none => none
          | none => none
        | _ => none
        else none
      | _, _ => none
    | .builtin .max => match c.args.toList with
      | [x, y] => some (.mm true x y)
      | _ => none
    | .builtin .min => match c.args.toList with
      | [x, y] => some (.mm false x y)
      | _ => none
    | .builtin .clear => match c.args.toList, c.argTypes.toList with
      | [x], [t] => match P.underlying t with
        | some (.slice e) => match P.info? e with
          | some i => match i.zero with
            | some z => if z.oneCell' then some (.clr z x) else some .bad
            | none => some .bad
          | none => some .bad
        | _ => some .bad
      | _, _ => some .bad
    | .value (.func f) => if callable P f then some (.call f c.args.toList) else none
    | .value x => some (.callv x c.args.toList)
    | _ => some .bad
  | .index t x i => match P.underlying t with
    | some .string => some (.sop .idx [x, i])
    | _ => some .bad
  | _ => some .bad
def SO.quiet : SO → SO
  | .call f args => .qcall f args
  | .callv x args => .qcallv x args
  | .len x => .qlen x
  | s => s
def SO.fresh : SO → SO
  | .call f args => .fcall f args
  | s => s
section
variable {P : Program} {cx : Ctx} {F : Fz} {m : List Ent} {E : Nat → AV} {H : List Blk} {a : Act} {w : World} {o : Oper} {K : AV → List Blk → Prop} {Q : Exit → Act → World → Prop}
theorem snd_aaddr (hs : St cx F m E H a w) (hd : ∀ t, o.dst = some t → t < cx.n) {s : TypeId} {x : Operand} {kk : IntKind} {z : Int} (ho : o.op = .indexAddr s x (.const (.int kk z))) {ln : Nat} {e : TypeId} {i : TypeInfo} (hu : P.underlying s = some (.array ln e))
    (hi : P.info? e = some i) (hz : 0 ≤ z ∧ z < ln) (ha : alive H (ev E x)) {v : AV}
    (hv : (∃ j ver q, ev E x = .pc j ver q ∧ v = .pc j ver (q + z.toNat * i.size)) ∨ (∃ s k, ev E x = .el s k ∧ v = .el s (k + z.toNat * i.size))) (hk : K v H) : o.wp P a w (Fin cx E o.dst K F m) Q := by
  obtain ⟨p, hp⟩ := alive_ptr hs (hs.ev x) ha
  have hc : a.eval (.const (.int kk z)) = .int kk z := rfl
  have hrun : (execOp a.eval o).run P w = .ok (.value (.pointer (some (p.add (z.toNat * i.size))))) w := by
    simp [execOp, ho, hp, hc, Instr.indexAt, asIntOf, run_underlying hu, Instr.sureAddr, hz.1, hz.2, run_sizeOf' hi]
  have h1 := hs.ev x
  rw [hp] at h1
  refine snd_pure hs hd hrun ?_ hk
  rcases hv with ⟨j, ver, q, he, rfl⟩ | ⟨s, k, he, rfl⟩
  · rw [he] at h1
    generalize hp' : (Value.pointer (some p)) = pv at h1
    cases h1 with
    | pc _ _ _ e p' g1 g2 g3 =>
      cases hp'
      refine .pc j ver (q + z.toNat * i.size) e _ g1 g2 ?_
      intro hver
      obtain ⟨b, hb, hpp, hnz⟩ := g3 hver
      simp only [Option.some.injEq] at hpp
      exact ⟨b, hb, by rw [hpp, Addr.add_none], hnz⟩
  · rw [he] at h1 ha
    obtain ⟨n, cells, hview⟩ := ha
    generalize hp' : (Value.pointer (some p)) = pv at h1
    cases h1 with
    | el _ _ sv p' g1 g2 =>
      cases hp'
      refine .el s (k + z.toNat * i.size) sv _ g1 ?_
      intro ad len cap hsv
      have hpp := g2 ad len cap hsv
      simp only [Option.some.injEq] at hpp
      subst hpp
      obtain ⟨_, hcase⟩ := aview_sound hs.sim g1 hview
      rcases hcase with ⟨b, o, cap, vs, hval, _⟩ | ⟨_, h0, _⟩
      · rw [hval] at hsv
        simp only [Value.slice.injEq, Option.some.injEq] at hsv
        obtain ⟨rfl, _, _⟩ := hsv
        rw [Addr.add_add _ _ _ rfl]
      · omega
theorem toArray_of_toList {α : Type} {xs : Array α} {l : List α} (h : xs.toList = l) : xs = l.toArray := by subst h; simp
theorem call_eq {c : Call} {b : Callee} {xs : List Operand} {ts : List TypeId} (h1 : c.callee = b) (h2 : c.args.toList = xs) (h3 : c.argTypes.toList = ts) : c = { callee := b, args := xs.toArray, argTypes := ts.toArray } := by
  obtain ⟨c1, c2, c3⟩ := c
  simp only at h1 h2 h3
  rw [h1, toArray_of_toList h2, toArray_of_toList h3]
theorem places_run (fs : List Field) (hfs : ∀ f ∈ fs, (P.info? f.type).isSome = true) : ∃ pl : List (Nat × Nat), (∀ w, (fs.mapM fun f => do pure (f.offset, ← sizeOf f.type) : Sem (List (Nat × Nat))).run P w = .ok pl w) ∧
    ∀ (j : Nat) (f : Field) (i : TypeInfo), fs[j]? = some f → P.info? f.type = some i → pl[j]? = some (f.offset, i.size) := by
  induction fs with
  | nil => exact ⟨[], fun w => rfl, fun j f i h => by simp at h⟩
  | cons f fs ih =>
    obtain ⟨pl, h1, h2⟩ := ih (fun g hg => hfs g (by simp [hg]))
    obtain ⟨i, hi⟩ := Option.isSome_iff_exists.1 (hfs f (by simp))
    refine ⟨(f.offset, i.size) :: pl, ?_, ?_⟩
    · intro w
      rw [List.mapM_cons]
      simp only [Sem.run_bind, run_sizeOf' hi, Result.andThen_ok, Sem.run_pure, h1]
    · intro j g i' hj hi'
      cases j with
      | zero => simp at hj; subst hj; rw [hi] at hi'; cases hi'; simp
      | succ j => simp at hj ⊢; exact h2 j g i' hj hi'
theorem buildParts_spec {fs : Array Field} : ∀ {l : List (Nat × Operand)} {parts : List (Nat × Nat × Nat × Operand)}, buildParts P fs l = some parts → l = parts.map (fun p => (p.1, p.2.2.2)) ∧
    ∀ p ∈ parts, ∃ f i, fs[p.1]? = some f ∧ P.info? f.type = some i ∧ p.2.1 = f.offset ∧ p.2.2.1 = i.size
  | [], parts, h => by simp [buildParts] at h; subst h; simp
  | (i, x) :: rest, parts, h => by
    simp only [buildParts] at h
    split at h
    case h_2 => simp at h
    case h_1 f hf =>
      split at h
      case h_2 => simp at h
      case h_1 t r ht hr =>
        simp only [Option.some.injEq] at h
        subst h
        obtain ⟨g1, g2⟩ := buildParts_spec hr
        refine ⟨by simp [← g1], ?_⟩
        intro p hp
        simp only [List.mem_cons] at hp
        rcases hp with rfl | hp
        · exact ⟨f, t, hf, ht, rfl, rfl⟩
        · exact g2 p hp
theorem op_sound {so : SO} (hof : SO.of P o = some so) (hs : St cx F m E H a w) (hd : ∀ t, o.dst = some t → t < cx.n) (hk : swpOp P so (ev E) H K) : o.wp P a w (Fin cx E o.dst K F m) Q := by
  unfold SO.of at hof
  split at hof
  case h_1 x ho => simp only [Option.some.injEq] at hof; subst hof; exact snd_mv hs hd (.inl ho) hk
  case h_2 x ho => simp only [Option.some.injEq] at hof; subst hof; exact snd_mv hs hd (.inr ho) hk
  case h_3 c x y ho =>
    simp only [Option.some.injEq] at hof; subst hof
    simp only [swpOp] at hk
    split at hk
    · rename_i t hc; exact snd_pick hs hd ho hc hk
    · exact hk.elim
  case h_4 op t x y t' ho =>
    split at hof
    · rename_i hu
      split at hof
      · simp only [Option.some.injEq] at hof; subst hof
        simp only [swpOp] at hk
        split at hk
        · rename_i b b' e1 e2; exact snd_binb (neg := false) hs hd ho hu e1 e2 hk
        · exact hk.elim
      · simp only [Option.some.injEq] at hof; subst hof
        simp only [swpOp] at hk
        split at hk
        · rename_i b b' e1 e2; exact snd_binb (neg := true) hs hd ho hu e1 e2 hk
        · exact hk.elim
      · simp at hof
    · simp only [Option.some.injEq] at hof; subst hof; exact snd_bin hs hd ho hk
    · rename_i e hu
      split at hof
      · split at hof
        · simp only [Option.some.injEq] at hof; subst hof
          simp only [swpOp] at hk
          split at hk
          · rename_i n cells hv; exact snd_isnil (neg := false) hs hd ho hu hv hk
          · exact hk.elim
        · simp only [Option.some.injEq] at hof; subst hof
          simp only [swpOp] at hk
          split at hk
          · rename_i n cells hv; exact snd_isnil (neg := true) hs hd ho hu hv hk
          · exact hk.elim
        · simp at hof
      · simp at hof
    · rename_i fs hu
      split at hof
      · rename_i hpi
        split at hof
        · simp only [Option.some.injEq] at hof; subst hof
          simp only [swpOp] at hk
          split at hk
          · rename_i e1 e2; exact snd_eqs (neg := false) hs hd ho hu hpi e1 e2 hk
          · exact hk.elim
        · simp only [Option.some.injEq] at hof; subst hof
          simp only [swpOp] at hk
          split at hk
          · rename_i e1 e2; exact snd_eqs (neg := true) hs hd ho hu hpi e1 e2 hk
          · exact hk.elim
        · simp at hof
      · simp at hof
    · rename_i hu
      split at hof
      · simp only [Option.some.injEq] at hof; subst hof; exact snd_sadd hs hd ho hk
      · simp only [Option.some.injEq] at hof; subst hof; exact snd_seql (neg := false) hs hd ho hk
      · simp only [Option.some.injEq] at hof; subst hof; exact snd_seql (neg := true) hs hd ho hk
      · simp at hof
    · rename_i ms hu
      split at hof
      · split at hof
        · simp only [Option.some.injEq] at hof; subst hof; exact snd_snil (neg := false) hs hd ho hu hk
        · simp only [Option.some.injEq] at hof; subst hof; exact snd_snil (neg := true) hs hd ho hu hk
        · simp at hof
      · simp at hof
    · simp at hof
  case h_5 op t x ho =>
    simp only [Option.some.injEq] at hof; subst hof
    simp only [swpOp] at hk
    split at hk
    · rename_i b he; exact snd_not hs hd ho he hk
    · rename_i k n he; exact snd_neg hs hd ho he hk
    · exact hk.elim
  case h_6 t x ho =>
    split at hof
    case h_2 => simp at hof
    case h_1 i d hi hu =>
      split at hof
      · rename_i hag
        split at hof
        · rename_i hpos
          simp only [Option.some.injEq] at hof; subst hof
          simp only [swpOp] at hk
          split at hk
          · rename_i cs hcs; exact snd_load hs hd ho hi hu hag (by simp) hpos hcs (by simpa using hk)
          · exact hk.elim
        · simp at hof
      · rename_i hag
        simp only [Option.some.injEq] at hof; subst hof
        simp only [swpOp] at hk
        split at hk
        · rename_i cs hcs; exact snd_load (agg := false) hs hd ho hi hu (by simpa using hag) (by simp) (by omega) hcs (by
            simp only [Bool.false_eq_true, if_false] at hk ⊢
            split at hk
            · rename_i y; exact ⟨y, rfl, hk⟩
            · exact hk.elim)
        · exact hk.elim
  case h_7 t x y ho =>
    split at hof
    case h_2 => simp at hof
    case h_1 i hi =>
      split at hof
      · rename_i hpos
        simp only [Option.some.injEq] at hof; subst hof
        obtain ⟨h1, h2, h3⟩ := hk
        split at h3
        · rename_i H' hst; exact snd_store hs hd ho hi hpos h1 h2 hst h3
        · exact h3.elim
      · simp at hof
  case h_8 x ho =>
    simp only [Option.some.injEq] at hof; subst hof
    simp only [swpOp] at hk
    split at hk
    · rename_i i ver off he; exact snd_nilc hs hd ho (by rw [he]; exact hk.1) (by rw [he]; exact hk.2)
    · rename_i s k he; exact snd_nilc hs hd ho (by rw [he]; exact hk.1) (by rw [he]; exact hk.2)
    · rename_i f cs he; exact snd_nilc_fn hs hd ho he (by rw [he]; exact hk)
    · exact hk.elim
  case h_9 s x f ho =>
    split at hof
    case h_2 => simp at hof
    case h_1 fs hu =>
      split at hof
      case h_2 => simp at hof
      case h_1 fl hf =>
        split at hof
        case h_2 => simp at hof
        case h_1 i hi =>
          split at hof
          · simp at hof
          · rename_i hsz
            simp only [Option.some.injEq] at hof; subst hof
            simp only [swpOp] at hk
            split at hk
            · rename_i j ver q he; exact snd_faddr hs hd ho hu hf hi hsz (by rw [he]; exact hk.1) (.inl ⟨j, ver, q, he, rfl⟩) hk.2
            · rename_i s k he; exact snd_faddr hs hd ho hu hf hi hsz (by rw [he]; exact hk.1) (.inr ⟨s, k, he, rfl⟩) hk.2
            · exact hk.elim
  case h_10 s x f ho =>
    split at hof
    case h_2 => simp at hof
    case h_1 fs hu =>
      split at hof
      case h_2 => simp at hof
      case h_1 fl hf =>
        split at hof
        case h_2 => simp at hof
        case h_1 i d hi hud =>
          simp only [Option.some.injEq] at hof; subst hof
          simp only [swpOp] at hk
          split at hk
          · rename_i cs he; exact snd_field hs hd ho hu hf hi hud he hk
          · exact hk.elim
  case h_11 t s i ho =>
    split at hof
    case h_1 e hu =>
      split at hof
      case h_2 => simp at hof
      case h_1 ie hi =>
        simp only [Option.some.injEq] at hof; subst hof
        simp only [swpOp] at hk
        split at hk
        · rename_i n cells k z hv hz; exact snd_iaddr hs hd ho hu hi hv hz hk.1 hk.2.1 hk.2.2
        · exact hk.elim
    case h_2 ln e hu =>
      split at hof
      case h_2 => simp at hof
      case h_1 ie kk z hi =>
        split at hof
        case isFalse => simp at hof
        case isTrue hz =>
          simp only [Option.some.injEq] at hof; subst hof
          simp only [swpOp] at hk
          split at hk
          · rename_i j ver q he; exact snd_aaddr hs hd ho hu hi hz (by rw [he]; exact hk.1) (.inl ⟨j, ver, q, he, rfl⟩) hk.2
          · rename_i s k he; exact snd_aaddr hs hd ho hu hi hz (by rw [he]; exact hk.1) (.inr ⟨s, k, he, rfl⟩) hk.2
          · exact hk.elim
    case h_3 => simp at hof
  case h_12 x n ho =>
    simp only [Option.some.injEq] at hof; subst hof
    simp only [swpOp] at hk
    split at hk
    · rename_i cs he
      split at hk
      · rename_i v hv; exact snd_ext hs hd ho he hv hk
      · exact hk.elim
    · exact hk.elim
  case h_13 t ho =>
    split at hof
    case h_2 => simp at hof
    case h_1 i hi =>
      split at hof
      case h_2 => simp at hof
      case h_1 z hz =>
        split at hof
        · rename_i h1
          simp only [Option.some.injEq] at hof; subst hof
          exact snd_alloc hs hd ho hi hz h1 hk
        · simp at hof
  case h_14 t x ho =>
    simp only [Option.some.injEq] at hof; subst hof
    exact snd_box hs hd ho hk.1 hk.2
  case h_15 t ps ho =>
    split at hof
    case h_3 => simp at hof
    case h_2 n e i hu hi =>
      split at hof
      case h_2 => simp at hof
      case h_1 z ie hz hie =>
        simp only [Option.some.injEq] at hof; subst hof
        obtain ⟨h1, hk⟩ := hk
        rw [List.map_map] at hk
        split at hk
        · rename_i cs hcs
          refine snd_builda hs hd ho hu hi hz hie ?_ hcs hk
          intro p hp
          rw [List.all_map] at h1
          exact List.all_eq_true.1 h1 p hp
        · exact hk.elim
    case h_1 fs i hu hi =>
      split at hof
      case h_2 => simp at hof
      case h_1 z parts hz hp =>
        split at hof
        case isFalse => simp at hof
        case isTrue hall =>
          simp only [Option.some.injEq] at hof; subst hof
          obtain ⟨g1, g2⟩ := buildParts_spec hp
          obtain ⟨pl, p1, p2⟩ := places_run (P := P) fs.toList (fun f hf => Array.all_eq_true_iff_forall_mem.1 hall f (by simpa using hf))
          obtain ⟨h1, hk⟩ := hk
          rw [List.map_map] at hk
          split at hk
          · rename_i cs hcs
            refine snd_build hs hd ho hu hi hz (places := pl.toArray) ?_ parts g1 ?_ ?_ hcs hk
            · intro w
              rw [Array.mapM_eq_mapM_toList, Sem.run_map, p1]
              rfl
            · intro p hp
              obtain ⟨f, t', hf, ht, e1, e2⟩ := g2 p hp
              rw [e1, e2]
              simpa using p2 p.1 f t' (by simpa using hf) ht
            · intro p hp
              rw [List.all_map] at h1
              exact List.all_eq_true.1 h1 p hp
          · exact hk.elim
  case h_16 t n ps ho =>
    split at hof
    case h_2 => simp at hof
    case h_1 e hu =>
      split at hof
      case h_2 => simp at hof
      case h_1 i hi =>
        split at hof
        case h_2 => simp at hof
        case h_1 z hz =>
          split at hof
          case isFalse => simp at hof
          case isTrue hc =>
            simp only [Option.some.injEq] at hof; subst hof
            obtain ⟨h1, hk⟩ := hk
            rw [List.map_map] at hk
            split at hk
            · rename_i cs hcs
              exact snd_bslice hs hd ho hu hi hz hc.1 hc.2.1 hc.2.2 (fun p hp => List.all_eq_true.1 h1 p hp) hcs hk.1 hk.2
            · exact hk.elim
  case h_17 t l c ho =>
    split at hof
    case h_2 => simp at hof
    case h_1 e hu =>
      split at hof
      case h_2 => simp at hof
      case h_1 i hi =>
        split at hof
        case h_2 => simp at hof
        case h_1 z hz =>
          split at hof
          case isFalse =>
            split at hof
            case isFalse => simp at hof
            case isTrue hc =>
              simp only [Option.some.injEq] at hof; subst hof
              simp only [swpOp] at hk
              split at hk
              · rename_i x y hx hy
                obtain ⟨h0, h1, h2, h3, h4⟩ := hk
                exact snd_msliceN hs hd ho hu hi hz hc.1 hc.2.1 hc.2.2 hx hy h0 h1 h2 h3 h4
              · exact hk.elim
          case isTrue hc =>
            simp only [Option.some.injEq] at hof; subst hof
            simp only [swpOp] at hk
            split at hk
            · rename_i x y hx hy
              obtain ⟨h0, h1, h2, h3, h4⟩ := hk
              exact snd_mslice hs hd ho hu hi hz hc.1 hc.2 hx hy h0 h1 h2 h3 h4
            · exact hk.elim
  case h_18 t x lo hi mx ho =>
    split at hof
    case h_2 m =>
      split at hof
      case h_2 => simp at hof
      case h_1 kh a' km b' =>
        split at hof
        case isFalse => simp at hof
        case isTrue hab =>
          obtain ⟨rfl, rfl⟩ := hab
          split at hof
          case h_2 => simp at hof
          case h_1 e hu =>
            split at hof
            case h_2 => simp at hof
            case h_1 i hi' =>
              simp only [Option.some.injEq] at hof; subst hof
              simp only [swpOp] at hk
              split at hk
              · rename_i p hp; exact snd_slc0 hs hd ho hu hi' hp hk
              · exact hk.elim
    case h_1 =>
      split at hof
      case h_3 => simp at hof
      case h_1 e hu =>
        split at hof
        case h_2 => simp at hof
        case h_1 i hi' =>
          split at hof
          · rename_i hsz
            simp only [Option.some.injEq] at hof; subst hof
            exact snd_slc hs hd ho hu hi' hsz hk
          · simp at hof
      case h_2 hu => simp only [Option.some.injEq] at hof; subst hof; exact snd_sslc hs hd ho hu hk
  case h_19 fn first caps ho =>
    split at hof
    case h_2 => simp at hof
    case h_1 f hfirst =>
      simp only [Option.some.injEq] at hof; subst hof
      have := toArray_of_toList hfirst
      subst this
      exact snd_mkf hs hd ho hk
  case h_20 s d x ho =>
    split at hof
    case h_3 => simp at hof
    case h_2 e hsrc hdst =>
      split at hof
      · rename_i he
        simp only [Option.some.injEq] at hof; subst hof
        exact snd_str hs hd ho hsrc he hdst hk
      · simp at hof
    case h_1 k' k hsrc hdst =>
      simp only [Option.some.injEq] at hof; subst hof
      simp only [swpOp] at hk
      split at hk
      · rename_i z n he; exact snd_conv hs hd ho hsrc hdst he hk
      · exact hk.elim
  case h_21 t r ho =>
    split at hof
    · simp only [Option.some.injEq] at hof; subst hof
      exact snd_mkmap hs hd ho (.inl rfl) hk
    · rename_i k n
      split at hof
      · rename_i ki ei hu
        simp only [Option.some.injEq] at hof; subst hof
        exact snd_mkmap hs hd ho (.inr ⟨k, n, ki, ei, rfl, hu⟩) hk
      · simp at hof
    · simp at hof
  case h_22 t x k ok ho =>
    split at hof
    · simp only [Option.some.injEq] at hof; subst hof; exact hk.elim
    · rename_i hok
      have : ok = false := by simpa using hok
      subst this
      split at hof
      · rename_i kt et hu
        split at hof
        · rename_i i hkt hi
          split at hof
          · rename_i z hz
            simp only [Option.some.injEq] at hof; subst hof
            exact snd_mget hs hd ho hu hkt hi hz hk
          · simp at hof
        · rename_i i hi _
          split at hof
          · rename_i hkt
            split at hof
            · rename_i z hz
              simp only [Option.some.injEq] at hof; subst hof
              exact snd_mget1 hs hd ho hu hkt hi hz hk
            · simp at hof
          · simp only [Option.some.injEq] at hof; subst hof; exact hk.elim
        · simp only [Option.some.injEq] at hof; subst hof; exact hk.elim
      · simp only [Option.some.injEq] at hof; subst hof; exact hk.elim
  case h_23 t x k y ho =>
    split at hof
    · rename_i kt et hu
      split at hof
      · rename_i hkt
        simp only [Option.some.injEq] at hof; subst hof
        exact snd_mput hs hd (.inl ho) hu hkt hk
      · split at hof
        · rename_i hkt
          simp only [Option.some.injEq] at hof; subst hof
          exact snd_mput1 hs hd (.inl ho) hu hkt hk
        · simp only [Option.some.injEq] at hof; subst hof; exact hk.elim
    · simp only [Option.some.injEq] at hof; subst hof; exact hk.elim
  case h_24 t x k y ho =>
    split at hof
    · rename_i kt et hu
      split at hof
      · rename_i hkt
        simp only [Option.some.injEq] at hof; subst hof
        exact snd_mput hs hd (.inr ho) hu hkt hk
      · split at hof
        · rename_i hkt
          simp only [Option.some.injEq] at hof; subst hof
          exact snd_mput1 hs hd (.inr ho) hu hkt hk
        · simp only [Option.some.injEq] at hof; subst hof; exact hk.elim
    · simp only [Option.some.injEq] at hof; subst hof; exact hk.elim
  case h_25 c ho =>
    split at hof
    case h_1 hcal =>
      split at hof
      case h_2 => simp at hof
      case h_1 x t hx ht =>
        split at hof
        case h_3 => simp at hof
        case h_2 hu => simp only [Option.some.injEq] at hof; subst hof; exact snd_slen hs hd (ho.trans (congrArg Op.call (call_eq hcal hx ht))) hu hk
        case h_1 e hu =>
          simp only [Option.some.injEq] at hof; subst hof
          simp only [swpOp] at hk
          split at hk
          · rename_i n cells hv; exact snd_len hs hd (ho.trans (congrArg Op.call (call_eq hcal hx ht))) hu hv hk
          · exact hk.elim
    case h_2 hcal =>
      split at hof
      case h_2 => simp at hof
      case h_1 s x t t' hx ht =>
        split at hof
        case isFalse => simp at hof
        case isTrue htt =>
          subst htt
          split at hof
          case h_2 => simp at hof
          case h_1 e hu =>
            split at hof
            case h_2 => simp at hof
            case h_1 i hi =>
              split at hof
              case h_2 => simp at hof
              case h_1 z hz =>
                split at hof
                case isFalse => simp at hof
                case isTrue hc =>
                  simp only [Option.some.injEq] at hof; subst hof
                  exact snd_app hs hd (ho.trans (congrArg Op.call (call_eq hcal hx ht))) hu hi hz hc.2.1 hc.2.2 hc.1 hk
    case h_3 hcal =>
      split at hof
      case h_2 => simp at hof
      case h_1 x y hx =>
        simp only [Option.some.injEq] at hof; subst hof
        simp only [swpOp] at hk
        split at hk
        · rename_i k n k' z e1 e2; exact snd_mm (mx := true) hs hd (ho.trans (congrArg Op.call (call_eq hcal hx rfl))) e1 e2 hk
        · exact hk.elim
    case h_4 hcal =>
      split at hof
      case h_2 => simp at hof
      case h_1 x y hx =>
        simp only [Option.some.injEq] at hof; subst hof
        simp only [swpOp] at hk
        split at hk
        · rename_i k n k' z e1 e2; exact snd_mm (mx := false) hs hd (ho.trans (congrArg Op.call (call_eq hcal hx rfl))) e1 e2 hk
        · exact hk.elim
    case h_5 hcal =>
      split at hof
      case h_2 => simp only [Option.some.injEq] at hof; subst hof; exact hk.elim
      case h_1 x t hx ht =>
        split at hof
        case h_2 => simp only [Option.some.injEq] at hof; subst hof; exact hk.elim
        case h_1 e hu =>
          split at hof
          case h_2 => simp only [Option.some.injEq] at hof; subst hof; exact hk.elim
          case h_1 i hi =>
            split at hof
            case h_2 => simp only [Option.some.injEq] at hof; subst hof; exact hk.elim
            case h_1 z hz =>
              split at hof
              case isFalse => simp only [Option.some.injEq] at hof; subst hof; exact hk.elim
              case isTrue hz1 =>
                simp only [Option.some.injEq] at hof; subst hof
                exact snd_clr hs hd (ho.trans (congrArg Op.call (call_eq hcal hx ht))) hu hi hz hz1 hk
    case h_6 f hcal =>
      split at hof
      · rename_i hc
        simp only [Option.some.injEq] at hof; subst hof
        exact snd_callf hs hd ho hcal hc hk
      · simp at hof
    case h_7 x _ hcal =>
      simp only [Option.some.injEq] at hof; subst hof
      simp only [swpOp] at hk
      split at hk
      · rename_i f cs he; exact snd_callv hs hd ho hcal he hk.1 hk.2
      · exact hk.elim
    case h_8 => simp only [Option.some.injEq] at hof; subst hof; exact hk.elim
  case h_26 t x i ho =>
    split at hof
    · rename_i hu; simp only [Option.some.injEq] at hof; subst hof; exact snd_sidx hs hd ho hu hk
    · simp only [Option.some.injEq] at hof; subst hof; exact hk.elim
  case h_27 => simp only [Option.some.injEq] at hof; subst hof; exact hk.elim
end
end Go.Av
namespace Go.Av
variable [Go.Av.DoorC]
open Go.RowKit
structure SOper where
  dst : Option Nat
  op : SO
  guard : Option (Nat × Bool)
def aStepV (P : Program) (s : SOper) (E : Nat → AV) (H : List Blk) (K : AV → List Blk → Prop) : Prop :=
  match s.guard with
  | none => swpOp P s.op (ev E) H K
  | some (t, want) => match E t with
    | .lit (.bool b) => (b = want → swpOp P s.op (ev E) H K) ∧ (b ≠ want → K (.lit undef) H)
    | .lit _ => K (.lit undef) H
    | _ => False
def guardOf (ops : Array Oper) : Option (Nat × Bool) → Option (Option (Nat × Bool))
  | none => some none
  | some (j, want) => match ops[j]? with
    | some oj => match oj.dst with
      | some t => some (some (t, want))
      | none => none
    | none => none
def dstOk (n : Nat) : Option Nat → Bool
  | some t => decide (t < n)
  | none => true
def SOper.of (P : Program) (n : Nat) (q : Bool) (ops : Array Oper) (o : Oper) : Option SOper :=
  match SO.of P o, guardOf ops o.guard with
  | some so, some g => if dstOk n o.dst then some ⟨o.dst, if q then so.quiet else so, g⟩ else none
  | _, _ => none
section
variable {P : Program} {cx : Ctx} {F : Fz} {m : List Ent} {E : Nat → AV} {H : List Blk} {a : Act} {w : World} {o : Oper}
theorem Calls.of_fn {f : FuncId} {args : List AV} {v : AV} {K : AV → List Blk → Prop} (h : AFn P f args H v) (hk : K v H) : ACalls P f args H K :=
  h.calls.mono (by rintro r H' ⟨rfl, rfl⟩; exact hk)
theorem swpOp_unquiet {so : SO} {ρ : Operand → AV} {K : AV → List Blk → Prop} (h : swpOp P so.quiet ρ H K) : swpOp P so ρ H K := by
  cases so <;> try exact h
  case call f args => obtain ⟨v, h1, h2⟩ := h; exact Calls.of_fn h1 h2
  case callv x args =>
    simp only [SO.quiet, swpOp] at h ⊢
    split at h
    · obtain ⟨hc, v, h1, h2⟩ := h; exact ⟨hc, Calls.of_fn h1 h2⟩
    · exact h.elim
  case len x =>
    simp only [SO.quiet, swpOp] at h ⊢
    split at h
    · exact fun _ => h
    · exact h.elim
theorem swpBin_mono {op : BinOp} {x y : AV} {K K' : AV → Prop} (hk : ∀ v, K v → K' v) (h : swpBin op x y K) : swpBin op x y K' := by
  unfold swpBin at *
  split
  · simp only at h
    cases op <;> simp only at h ⊢ <;> first | exact ⟨h.1, hk _ h.2⟩ | exact ⟨h.1, h.2.1, hk _ h.2.2⟩
  · simp_all
theorem swpOp_mono {so : SO} {ρ : Operand → AV} {K K' : AV → List Blk → Prop} (hk : ∀ v H, K v H → K' v H) (h : swpOp P so ρ H K) : swpOp P so ρ H K' := by
  cases so with
  | bin op x y => exact swpBin_mono (fun v hv => hk v _ hv) h
  | slc sz x lo hi =>
    simp only [swpOp, swpSlc] at h ⊢
    split at h
    case h_2 => exact h.elim
    case h_1 =>
      split at h
      case h_2 => exact h.elim
      case h_1 => exact ⟨h.1, h.2.1, h.2.2.1, h.2.2.2.1, hk _ _ h.2.2.2.2⟩
  | app ty sz bytes s x =>
    simp only [swpOp, swpApp] at h ⊢
    split at h
    case h_2 => exact h.elim
    case h_1 n xs hv =>
      obtain ⟨h1, h2, h3⟩ := h
      refine ⟨h1, h2, ?_⟩
      split at h3
      · split at h3
        · obtain ⟨g1, g2, g3, g4, g5, g6, g7⟩ := h3
          exact ⟨g1, g2, g3, g4, g5, g6, hk _ _ g7⟩
        · exact h3.elim
      · obtain ⟨g1, g2, g3⟩ := h3
        exact ⟨g1, g2, hk _ _ g3⟩
      · exact h3.elim
  | slc0 ty sz x => simp only [swpOp] at h ⊢; split at h <;> first | exact hk _ _ h | exact h.elim
  | isnil neg x => simp only [swpOp] at h ⊢; split at h <;> first | exact fun b hb => hk _ _ (h b hb) | exact h.elim
  | mkmap ty => exact hk _ _ h
  | mget kd zero m k =>
    simp only [swpOp] at h ⊢
    split at h
    · obtain ⟨ty, ps, key, g1, g2, g3, g4, g5⟩ := h; exact ⟨ty, ps, key, g1, g2, g3, g4, hk _ _ g5⟩
    · exact h.elim
  | mput kd m k v =>
    simp only [swpOp] at h ⊢
    split at h
    · obtain ⟨ty, ps, key, g1, g2, g3, g4, g5, g6⟩ := h; exact ⟨ty, ps, key, g1, g2, g3, g4, g5, hk _ _ g6⟩
    · exact h.elim
  | str x =>
    simp only [swpOp] at h ⊢
    split at h
    · obtain ⟨ns, g1, g2, g3⟩ := h; exact ⟨ns, g1, g2, hk _ _ g3⟩
    · exact h.elim
  | clr z x =>
    simp only [swpOp] at h ⊢
    split at h
    · obtain ⟨ty, cells, g1, g2, g3, g4⟩ := h; exact ⟨ty, cells, g1, g2, g3, hk _ _ g4⟩
    · exact h.elim
  | sop k xs =>
    simp only [swpOp] at h ⊢
    obtain ⟨v, g1, g2⟩ := sopW_some h
    rw [g1]; exact hk _ _ g2
  | bad => exact h.elim
  | call f args => exact ACalls.mono h (fun r H' hr => hk r H' hr)
  | callv x args =>
    simp only [swpOp] at h ⊢
    split at h
    · exact ⟨h.1, ACalls.mono h.2 (fun r H' hr => hk r H' hr)⟩
    · exact h.elim
  | qcall f args => obtain ⟨v, h1, h2⟩ := h; exact ⟨v, h1, hk _ _ h2⟩
  | fcall f args => exact ACalls.mono h (fun r H' hr => ⟨hk r H' hr.1, hr.2⟩)
  | qcallv x args =>
    simp only [swpOp] at h ⊢
    split at h
    · obtain ⟨hc, v, h1, h2⟩ := h; exact ⟨hc, v, h1, hk _ _ h2⟩
    · exact h.elim
  | qlen x => simp only [swpOp] at h ⊢; split at h <;> first | exact hk _ _ h | exact h.elim
  | len x =>
    simp only [swpOp] at h ⊢
    split at h
    · exact fun g => hk _ _ (h g)
    · exact h.elim
  | mv x => exact hk _ _ h
  | mkf f caps => exact hk _ _ h
  | alloc ty zero => exact hk _ _ h
  | box ty x => exact ⟨h.1, hk _ _ h.2⟩
  | store c a v =>
    obtain ⟨h1, h2, h3⟩ := h
    refine ⟨h1, h2, ?_⟩
    split at h3
    · exact hk _ _ h3
    · exact h3.elim
  | build zero parts =>
    obtain ⟨h1, h2⟩ := h
    refine ⟨h1, ?_⟩
    split at h2
    · exact hk _ _ h2
    · exact h2.elim
  | bslice ty sz len zero parts =>
    obtain ⟨h1, h2⟩ := h
    refine ⟨h1, ?_⟩
    split at h2
    · exact ⟨h2.1, hk _ _ h2.2⟩
    · exact h2.elim
  | pick c a b => simp only [swpOp] at h ⊢; split at h <;> first | exact hk _ _ h | exact h.elim
  | binb neg x y => simp only [swpOp] at h ⊢; split at h <;> first | exact hk _ _ h | exact h.elim
  | eqs neg x y => simp only [swpOp] at h ⊢; split at h <;> first | exact hk _ _ h | exact h.elim
  | un op x => simp only [swpOp] at h ⊢; split at h <;> first | exact hk _ _ h | exact h.elim
  | load c agg a =>
    simp only [swpOp] at h ⊢
    split at h
    · split
      · rename_i hag; rw [if_pos hag] at h; exact hk _ _ h
      · rename_i hag; rw [if_neg hag] at h
        split at h
        · exact hk _ _ h
        · exact h.elim
    · exact h.elim
  | nilc x => simp only [swpOp] at h ⊢; split at h <;> first | exact ⟨h.1, hk _ _ h.2⟩ | exact hk _ _ h | exact h.elim
  | faddr off a => simp only [swpOp] at h ⊢; split at h <;> first | exact ⟨h.1, hk _ _ h.2⟩ | exact h.elim
  | fld off c agg x =>
    simp only [swpOp] at h ⊢
    split at h
    · split
      · rename_i hag; rw [if_pos hag] at h; exact ⟨h.1, hk _ _ h.2⟩
      · rename_i hag; rw [if_neg hag] at h
        split at h
        · exact hk _ _ h
        · exact h.elim
    · exact h.elim
  | iaddr sz s i => simp only [swpOp] at h ⊢; split at h <;> first | exact ⟨h.1, h.2.1, hk _ _ h.2.2⟩ | exact h.elim
  | ext x n =>
    simp only [swpOp] at h ⊢
    split at h
    · split at h
      · exact hk _ _ h
      · exact h.elim
    · exact h.elim
  | mslice ty bytes zero l c => simp only [swpOp] at h ⊢; split at h <;> first | exact ⟨h.1, h.2.1, h.2.2.1, h.2.2.2.1, hk _ _ h.2.2.2.2⟩ | exact h.elim
  | msliceN ty bytes zs l c => simp only [swpOp] at h ⊢; split at h <;> first | exact ⟨h.1, h.2.1, h.2.2.1, h.2.2.2.1, hk _ _ h.2.2.2.2⟩ | exact h.elim
  | mm mx x y => simp only [swpOp] at h ⊢; split at h <;> first | exact hk _ _ h | exact h.elim
  | conv k x => simp only [swpOp] at h ⊢; split at h <;> first | exact hk _ _ h | exact h.elim
theorem aStepV_mono {s : SOper} {K K' : AV → List Blk → Prop} (hk : ∀ v H, K v H → K' v H) (h : aStepV P s E H K) : aStepV P s E H K' := by
  unfold aStepV at *
  split
  · rename_i hg; simp only [hg] at h; exact swpOp_mono hk h
  · rename_i t want hg
    simp only [hg] at h
    split at h
    · rename_i b hb; exact ⟨fun g => swpOp_mono hk (h.1 g), fun g => hk _ _ (h.2 g)⟩
    · exact hk _ _ h
    · exact h.elim
def Goes (cx : Ctx) (F : Fz) (m : List Ent) (K : (Nat → AV) → List Blk → Prop) : Act → World → Prop :=
  fun a' w' => ∃ F' m' E' H', K E' H' ∧ FLe F F' ∧ MLe m m' ∧ St cx F' m' E' H' a' w'
theorem step_sound {ops : Array Oper} {q : Bool} {s : SOper} (hof : SOper.of P cx.n q ops o = some s) (hs : St cx F m E H a w) {K : (Nat → AV) → List Blk → Prop} (hk : aStepV P s E H (fun v H' => K (updO E s.dst v) H')) {Q : Exit → Act → World → Prop} :
    if Region.wanted o (yielded ops a.tmps) then o.wp P a w (Goes cx F m K) Q else Goes cx F m K (a.put o.dst undef) w := by
  unfold SOper.of at hof
  split at hof
  case h_2 => simp at hof
  case h_1 so g hso hg =>
    split at hof
    case isFalse => simp at hof
    case isTrue hdst =>
      simp only [Option.some.injEq] at hof
      subst hof
      have hd : ∀ t, o.dst = some t → t < cx.n := by
        intro t ht; rw [ht] at hdst; simpa [dstOk] using hdst
      have fin : swpOp P so (ev E) H (fun v H' => K (updO E o.dst v) H') → o.wp P a w (Goes cx F m K) Q := by
        intro h
        refine Oper.wp_mono ?_ (op_sound (Q := Q) hso hs hd h)
        rintro a' w' ⟨F', m', v, H', h1, h2, h3, h4⟩
        exact ⟨F', m', _, H', h1, h2, h3, h4⟩
      have skip : K (updO E o.dst (.lit undef)) H → Goes cx F m K (a.put o.dst undef) w := by
        intro h
        exact ⟨F, m, _, H, h, FLe.refl _, MLe.refl _, hs.put (FLe.refl _) (MLe.refl _) hs.sim hd (.lit _)⟩
      have unq : ∀ {H : List Blk} {K : AV → List Blk → Prop}, swpOp P (if q then so.quiet else so) (ev E) H K → swpOp P so (ev E) H K := by
        intro H K h
        cases q
        · exact h
        · exact swpOp_unquiet h
      simp only [aStepV] at hk
      cases hgo : o.guard with
      | none =>
        rw [hgo] at hg
        simp only [guardOf, Option.some.injEq] at hg
        subst hg
        simp only [Region.wanted, hgo, if_true]
        exact fin (unq hk)
      | some jw =>
        obtain ⟨j, want⟩ := jw
        rw [hgo] at hg
        simp only [guardOf] at hg
        split at hg
        case h_2 => simp at hg
        case h_1 oj hoj =>
          split at hg
          case h_2 => simp at hg
          case h_1 t ht =>
            simp only [Option.some.injEq] at hg
            subst hg
            simp only at hk
            have hy : yielded ops a.tmps j = match a.tmps[t]? with | some (.bool b) => some b | _ => none := by
              simp only [yielded, hoj, ht, Option.bind_some]
              cases a.tmps[t]? with
              | none => rfl
              | some u => cases u <;> rfl
            have hrel := hs.env t
            simp only [Region.wanted, hgo, hy]
            split at hk
            · rename_i b hb
              rw [hb] at hrel
              have hv := hrel.lit_inv
              have hget : a.tmps[t]? = some (.bool b) := by
                cases h : a.tmps[t]? with
                | none => simp [h, undef] at hv
                | some v => simp [h] at hv; rw [hv]
              simp only [hget]
              by_cases hbw : b = want
              · subst hbw; simp only [BEq.rfl, if_true]; exact fin (unq (hk.1 rfl))
              · have : (some b == some want) = false := by simpa using hbw
                simp only [this, Bool.false_eq_true, if_false]
                exact skip (hk.2 hbw)
            · rename_i v hnb hv0
              rw [hv0] at hrel
              have hv := hrel.lit_inv
              have : (match a.tmps[t]? with | some (.bool b) => some b | _ => (none : Option Bool)) = none := by
                cases h : a.tmps[t]? with
                | none => rfl
                | some u =>
                  simp [h] at hv
                  subst hv
                  cases u <;> first | rfl | exact absurd rfl (hnb _)
              rw [this]
              simp only [show ((none : Option Bool) == some want) = false from rfl, Bool.false_eq_true, if_false]
              exact skip hk
            · exact hk.elim
end
end Go.Av
namespace Go.Av
variable [Go.Av.DoorC]
open Go.RowKit
def opTmps : List Operand → List Nat
  | [] => []
  | .tmp t :: rest => t :: opTmps rest
  | _ :: rest => opTmps rest
def SO.opnds : SO → List Operand
  | .mv x | .un _ x | .load _ _ x | .nilc x | .faddr _ x | .fld _ _ _ x | .ext x _ | .len x | .qlen x | .box _ x | .conv _ x | .slc0 _ _ x | .isnil _ x | .str x | .clr _ x => [x]
  | .pick c a b => [c, a, b]
  | .mget _ _ x k => [x, k]
  | .mput _ x k v => [x, k, v]
  | .bin _ x y | .binb _ x y | .eqs _ x y | .store _ x y | .iaddr _ x y | .mslice _ _ _ x y | .msliceN _ _ _ x y | .app _ _ _ x y | .mm _ x y => [x, y]
  | .alloc _ _ | .mkmap _ | .bad => []
  | .build _ ps => ps.map fun p => p.2.2
  | .bslice _ _ _ _ ps => ps.map fun p => p.2
  | .slc _ x lo hi => x :: (lo.toList ++ hi.toList)
  | .mkf _ cs => cs
  | .sop _ xs => xs
  | .call _ az | .qcall _ az | .fcall _ az => az
  | .callv x az | .qcallv x az => x :: az
def SO.kind : SO → Nat
  | .mv _ | .pick .. | .bin .. | .binb .. | .eqs .. | .un .. | .fld .. | .ext .. | .build .. | .mkf .. | .mm .. | .conv .. | .sop .. => 0
  | .load .. | .nilc _ | .faddr .. | .iaddr .. | .qlen _ | .slc .. | .qcall .. | .qcallv .. | .mget .. | .str _ => 1
  | .alloc .. | .box .. | .bslice .. | .mslice .. | .msliceN .. | .mkmap _ | .fcall .. => 2
  | _ => 3
def SOper.looks (s : SOper) : List Nat := opTmps s.op.opnds ++ match s.guard with
  | some (t, _) => [t]
  | none => []
section
variable {P : Program}
theorem ev_congr {E E' : Nat → AV} {xs : List Operand} (h : ∀ t ∈ opTmps xs, E t = E' t) : ∀ x ∈ xs, ev E x = ev E' x := by
  induction xs with
  | nil => intro x hx; simp at hx
  | cons y ys ih =>
    intro x hx
    simp only [List.mem_cons] at hx
    rcases hx with rfl | hx
    · cases x with
      | tmp t => exact h t (by simp [opTmps])
      | _ => rfl
    · refine ih (fun t ht => h t ?_) x hx
      cases y <;> simp [opTmps, ht]
theorem swpOp_congr {so : SO} {E E' : Nat → AV} (h : ∀ t ∈ opTmps so.opnds, E t = E' t) (H : List Blk) (K : AV → List Blk → Prop) : swpOp P so (ev E) H K = swpOp P so (ev E') H K := by
  have hx := ev_congr h
  have hl : ∀ (xs : List Operand), (∀ x ∈ xs, x ∈ so.opnds) → xs.map (ev E) = xs.map (ev E') := fun xs hs => List.map_congr_left fun x hm => hx x (hs x hm)
  cases so <;> simp only [SO.opnds] at hx hl <;> simp only [swpOp]
  case mv x => rw [hx x (by simp)]
  case pick c a b => rw [hx c (by simp), hx a (by simp), hx b (by simp)]
  case bin op x y => rw [hx x (by simp), hx y (by simp)]
  case binb n x y => rw [hx x (by simp), hx y (by simp)]
  case eqs n x y => rw [hx x (by simp), hx y (by simp)]
  case un op x => rw [hx x (by simp)]
  case load c agg a => rw [hx a (by simp)]
  case store c a v => rw [hx a (by simp), hx v (by simp)]
  case nilc x => rw [hx x (by simp)]
  case faddr off a => rw [hx a (by simp)]
  case fld off c agg x => rw [hx x (by simp)]
  case iaddr sz s i => rw [hx s (by simp), hx i (by simp)]
  case ext x n => rw [hx x (by simp)]
  case len x => rw [hx x (by simp)]
  case qlen x => rw [hx x (by simp)]
  case box ty x => rw [hx x (by simp)]
  case build zero ps =>
    have e1 : (ps.map fun p => (p.1, p.2.1, ev E p.2.2)) = ps.map fun p => (p.1, p.2.1, ev E' p.2.2) := List.map_congr_left fun p hp => by rw [hx p.2.2 (List.mem_map_of_mem hp)]
    have e2 : (ps.all fun p => (partsOf (ev E p.2.2)).all AV.cell1) = ps.all fun p => (partsOf (ev E' p.2.2)).all AV.cell1 := by
      rw [Bool.eq_iff_iff, List.all_eq_true, List.all_eq_true]
      constructor <;> intro g p hp
      · rw [← hx p.2.2 (List.mem_map_of_mem hp)]; exact g p hp
      · rw [hx p.2.2 (List.mem_map_of_mem hp)]; exact g p hp
    rw [e1, e2]
  case bslice ty sz len zero ps =>
    have e1 : (ps.map fun p => (p.1 * sz, sz, ev E p.2)) = ps.map fun p => (p.1 * sz, sz, ev E' p.2) := List.map_congr_left fun p hp => by rw [hx p.2 (List.mem_map_of_mem hp)]
    have e2 : (ps.all fun p => (partsOf (ev E p.2)).all AV.cell1) = ps.all fun p => (partsOf (ev E' p.2)).all AV.cell1 := by
      rw [Bool.eq_iff_iff, List.all_eq_true, List.all_eq_true]
      constructor <;> intro g p hp
      · rw [← hx p.2 (List.mem_map_of_mem hp)]; exact g p hp
      · rw [hx p.2 (List.mem_map_of_mem hp)]; exact g p hp
    rw [e1, e2]
  case mslice ty b z l c => rw [hx l (by simp), hx c (by simp)]
  case msliceN ty b z l c => rw [hx l (by simp), hx c (by simp)]
  case slc sz x lo hi =>
    have e1 : lo.map (ev E) = lo.map (ev E') := by cases lo with | none => rfl | some y => simp only [Option.map_some]; rw [hx y (by simp)]
    have e2 : hi.map (ev E) = hi.map (ev E') := by cases hi with | none => rfl | some y => simp only [Option.map_some]; rw [hx y (by simp)]
    rw [hx x (by simp), e1, e2]
  case app ty sz b s x => rw [hx s (by simp), hx x (by simp)]
  case mkf f cs => rw [hl cs (fun x h => h)]
  case call f az => rw [hl az (fun x h => h)]
  case callv x az => rw [hx x (by simp), hl az (fun x h => by simp [h])]
  case qcall f az => rw [hl az (fun x h => h)]
  case fcall f az => rw [hl az (fun x h => h)]
  case qcallv x az => rw [hx x (by simp), hl az (fun x h => by simp [h])]
  case mm mx x y => rw [hx x (by simp), hx y (by simp)]
  case conv k x => rw [hx x (by simp)]
  case slc0 ty sz x => rw [hx x (by simp)]
  case isnil neg x => rw [hx x (by simp)]
  case mget kd z x k => rw [hx x (by simp), hx k (by simp)]
  case mput kd x k v => rw [hx x (by simp), hx k (by simp), hx v (by simp)]
  case str x => rw [hx x (by simp)]
  case sop k xs => rw [hl xs (fun x h => h)]
  case clr z x => rw [hx x (by simp)]
theorem aStepV_congr {s : SOper} {E E' : Nat → AV} (h : ∀ t ∈ s.looks, E t = E' t) (H : List Blk) (K : AV → List Blk → Prop) : aStepV P s E H K = aStepV P s E' H K := by
  unfold SOper.looks at h
  have h1 := swpOp_congr (P := P) (so := s.op) (E := E) (E' := E') (fun t ht => h t (List.mem_append_left _ ht)) H K
  unfold aStepV
  cases hg : s.guard with
  | none => exact h1
  | some p =>
    obtain ⟨t, want⟩ := p
    have h2 : E t = E' t := h t (by simp [hg])
    simp only [h2, h1]
theorem aview_append {H : List Blk} {s : AV} {r : Nat × List AV} (h : aview H s = some r) (ext : List Blk) : aview (H ++ ext) s = some r := by
  unfold aview at *
  split at h
  · exact h
  · split at h
    · rename_i k hk
      have hlt := (List.getElem?_eq_some_iff.1 hk).1
      simp only [List.getElem?_append_left hlt, hk]
      exact h
    · simp at h
  · exact h
  · simp at h
theorem acells_append {H : List Blk} {c : Nat} {s : AV} {r : List AV} (h : acells H c s = some r) (ext : List Blk) : acells (H ++ ext) c s = some r := by
  unfold acells at *
  split at h
  · split at h
    · rename_i k hk
      have hlt := (List.getElem?_eq_some_iff.1 hk).1
      simp only [List.getElem?_append_left hlt, hk]
      exact h
    · simp at h
  · split at h
    · rename_i len cells hv
      simp only [aview_append hv ext]
      exact h
    · simp at h
  · simp at h
theorem alive_append {H : List Blk} {s : AV} (h : alive H s) (ext : List Blk) : alive (H ++ ext) s := by
  cases s with
  | pc i ver off =>
    obtain ⟨k, hk, hv⟩ := h
    have hlt := (List.getElem?_eq_some_iff.1 hk).1
    exact ⟨k, by rw [List.getElem?_append_left hlt]; exact hk, hv⟩
  | el s k => obtain ⟨n, cells, hv⟩ := h; exact ⟨n, cells, aview_append hv ext⟩
  | _ => exact h.elim
theorem AFn.append {f : FuncId} {args : List AV} {H : List Blk} {v : AV} (h : AFn P f args H v) (ext : List Blk) : AFn P f args (H ++ ext) v := by
  intro ext'
  rw [List.append_assoc]
  exact h (ext ++ ext')
theorem kind0 {so : SO} (hk : so.kind = 0) {ρ : Operand → AV} {H : List Blk} {K : AV → List Blk → Prop} (h : swpOp P so ρ H K) :
    ∃ v, K v H ∧ ∀ (H2 : List Blk) (K2 : AV → List Blk → Prop), K2 v H2 → swpOp P so ρ H2 K2 := by
  cases so <;> first | (simp [SO.kind] at hk; done) | skip
  case mv x => exact ⟨_, h, fun _ _ g => g⟩
  case pick c a b =>
    simp only [swpOp] at h ⊢
    split at h
    · exact ⟨_, h, fun _ _ g => g⟩
    · exact h.elim
  case bin op x y =>
    simp only [swpOp, swpBin] at h ⊢
    split at h
    · cases op <;> simp only at h ⊢ <;> first | exact ⟨_, h.2, fun _ _ g => ⟨h.1, g⟩⟩ | exact ⟨_, h.2.2, fun _ _ g => ⟨h.1, h.2.1, g⟩⟩
    · exact h.elim
  case sop k xs =>
    simp only [swpOp] at h ⊢
    obtain ⟨v, g1, g2⟩ := sopW_some h
    rw [g1]
    exact ⟨v, g2, fun _ _ g => g⟩
  case binb neg x y =>
    simp only [swpOp] at h ⊢
    split at h
    · exact ⟨_, h, fun _ _ g => g⟩
    · exact h.elim
  case eqs neg x y =>
    simp only [swpOp] at h ⊢
    split at h
    · exact ⟨_, h, fun _ _ g => g⟩
    · exact h.elim
  case un op x =>
    simp only [swpOp] at h ⊢
    split at h
    · exact ⟨_, h, fun _ _ g => g⟩
    · exact ⟨_, h, fun _ _ g => g⟩
    · exact h.elim
  case fld off c agg x =>
    simp only [swpOp] at h ⊢
    split at h
    · cases agg
      · simp only [Bool.false_eq_true, if_false] at h ⊢
        split at h
        · exact ⟨_, h, fun _ _ g => g⟩
        · exact h.elim
      · simp only [if_true] at h ⊢
        exact ⟨_, h.2, fun _ _ g => ⟨h.1, g⟩⟩
    · exact h.elim
  case ext x n =>
    simp only [swpOp] at h ⊢
    split at h
    · split at h
      · exact ⟨_, h, fun _ _ g => g⟩
      · exact h.elim
    · exact h.elim
  case build zero ps =>
    simp only [swpOp] at h ⊢
    obtain ⟨h1, h2⟩ := h
    split at h2
    · exact ⟨_, h2, fun _ _ g => ⟨h1, g⟩⟩
    · exact h2.elim
  case mkf f cs => exact ⟨_, h, fun _ _ g => g⟩
  case mm mx x y =>
    simp only [swpOp] at h ⊢
    split at h
    · exact ⟨_, h, fun _ _ g => g⟩
    · exact h.elim
  case conv k x =>
    simp only [swpOp] at h ⊢
    split at h
    · exact ⟨_, h, fun _ _ g => g⟩
    · exact h.elim
theorem kind1 {so : SO} (hk : so.kind = 1) {ρ : Operand → AV} {H : List Blk} {K : AV → List Blk → Prop} (h : swpOp P so ρ H K) :
    ∃ v, K v H ∧ ∀ (ext : List Blk) (K2 : AV → List Blk → Prop), K2 v (H ++ ext) → swpOp P so ρ (H ++ ext) K2 := by
  cases so <;> first | (simp [SO.kind] at hk; done) | skip
  case load c agg a =>
    simp only [swpOp] at h ⊢
    split at h
    · rename_i cs hcs
      split at h
      · rename_i hag
        refine ⟨_, h, fun ext K2 g => ?_⟩
        simp only [acells_append hcs ext, hag, if_true]; exact g
      · rename_i hag
        split at h
        · refine ⟨_, h, fun ext K2 g => ?_⟩
          simp only [acells_append hcs ext, hag]; exact g
        · exact h.elim
    · exact h.elim
  case nilc x =>
    simp only [swpOp] at h ⊢
    split at h
    · exact ⟨_, h.2, fun ext K2 g => ⟨alive_append h.1 ext, g⟩⟩
    · exact ⟨_, h.2, fun ext K2 g => ⟨alive_append h.1 ext, g⟩⟩
    · exact ⟨_, h, fun ext K2 g => g⟩
    · exact h.elim
  case faddr off a =>
    simp only [swpOp] at h ⊢
    split at h
    · exact ⟨_, h.2, fun ext K2 g => ⟨alive_append h.1 ext, g⟩⟩
    · exact ⟨_, h.2, fun ext K2 g => ⟨alive_append h.1 ext, g⟩⟩
    · exact h.elim
  case iaddr sz s i =>
    simp only [swpOp] at h ⊢
    split at h
    · rename_i n cells k x hv hx
      refine ⟨_, h.2.2, fun ext K2 g => ?_⟩
      simp only [aview_append hv ext, hx]
      exact ⟨h.1, h.2.1, g⟩
    · exact h.elim
  case qlen x =>
    simp only [swpOp] at h ⊢
    split at h
    · rename_i n cells hv
      refine ⟨_, h, fun ext K2 g => ?_⟩
      simp only [aview_append hv ext]
      exact g
    · exact h.elim
  case slc sz x lo hi =>
    simp only [swpOp, swpSlc] at h ⊢
    split at h
    case h_2 => exact h.elim
    case h_1 n cells hv =>
      split at h
      case h_2 => exact h.elim
      case h_1 l hh h1 h2 =>
        refine ⟨_, h.2.2.2.2, fun ext K2 g => ?_⟩
        simp only [aview_append hv ext, h1, h2]
        refine ⟨h.1, h.2.1, h.2.2.1, ?_, g⟩
        intro i ver off len hx
        have := h.2.2.2.1 i ver off len hx
        cases hi' : H[i]? with
        | none => rw [hi'] at this; simp at this
        | some k =>
          have hlt := (List.getElem?_eq_some_iff.1 hi').1
          rw [List.getElem?_append_left hlt]; exact this
  case mget kd z x k =>
    simp only [swpOp] at h ⊢
    split at h
    · obtain ⟨ty, ps, key, g1, g2, g3, g4, g5⟩ := h
      refine ⟨_, g5, fun ext K2 g => ⟨ty, ps, key, ?_, g2, g3, g4, g⟩⟩
      rw [List.getElem?_append_left (List.getElem?_eq_some_iff.1 g1).1]; exact g1
    · exact h.elim
  case str x =>
    simp only [swpOp] at h ⊢
    split at h
    · rename_i n cells hv
      obtain ⟨ns, g1, g2, g3⟩ := h
      refine ⟨_, g3, fun ext K2 g => ?_⟩
      simp only [aview_append hv ext]
      exact ⟨ns, g1, g2, g⟩
    · exact h.elim
  case qcall f az =>
    obtain ⟨v, h1, h2⟩ := h
    exact ⟨v, h2, fun ext K2 g => ⟨v, h1.append ext, g⟩⟩
  case qcallv x az =>
    simp only [swpOp] at h ⊢
    split at h
    · obtain ⟨hc, v, h1, h2⟩ := h
      exact ⟨v, h2, fun ext K2 g => ⟨hc, v, h1.append ext, g⟩⟩
    · exact h.elim
theorem kind012 {so : SO} (hk : so.kind ≤ 2) {ρ : Operand → AV} {H : List Blk} {K : AV → List Blk → Prop} (h : swpOp P so ρ H K) : swpOp P so ρ H fun v H' => K v H' ∧ ∃ ext, H' = H ++ ext := by
  by_cases h0 : so.kind = 0
  · obtain ⟨v, h1, h2⟩ := kind0 h0 h
    exact h2 H _ ⟨h1, [], by simp⟩
  · by_cases h1 : so.kind = 1
    · obtain ⟨v, h2, h3⟩ := kind1 h1 h
      have := h3 [] (fun v H' => K v H' ∧ ∃ ext, H' = H ++ ext) ⟨by simpa using h2, [], by simp⟩
      simpa using this
    · cases so <;> first | (simp [SO.kind] at h0 h1 hk; done) | skip
      case alloc ty zero => exact ⟨h, _, rfl⟩
      case mkmap ty => exact ⟨h, _, rfl⟩
      case fcall f az => exact ACalls.mono h (fun r H' hr => ⟨hr, hr.2⟩)
      case box ty x => exact ⟨h.1, h.2, _, rfl⟩
      case bslice ty sz len zero ps =>
        simp only [swpOp] at h ⊢
        obtain ⟨g1, g2⟩ := h
        refine ⟨g1, ?_⟩
        split at g2
        · exact ⟨g2.1, g2.2, _, rfl⟩
        · exact g2.elim
      case mslice ty b z l c =>
        simp only [swpOp] at h ⊢
        split at h
        · exact ⟨h.1, h.2.1, h.2.2.1, h.2.2.2.1, h.2.2.2.2, _, rfl⟩
        · exact h.elim
      case msliceN ty b z l c =>
        simp only [swpOp] at h ⊢
        split at h
        · exact ⟨h.1, h.2.1, h.2.2.1, h.2.2.2.1, h.2.2.2.2, _, rfl⟩
        · exact h.elim
theorem aStepV_quiet {s : SOper} (hk : s.op.kind ≤ 1) {E : Nat → AV} {H : List Blk} {K : AV → List Blk → Prop} (h : aStepV P s E H K) :
    ∃ v, K v H ∧ (∀ (ext : List Blk) (K2 : AV → List Blk → Prop), K2 v (H ++ ext) → aStepV P s E (H ++ ext) K2) ∧ (s.op.kind = 0 → ∀ (H2 : List Blk) (K2 : AV → List Blk → Prop), K2 v H2 → aStepV P s E H2 K2) := by
  have core : swpOp P s.op (ev E) H K → ∃ v, K v H ∧ (∀ (ext : List Blk) (K2 : AV → List Blk → Prop), K2 v (H ++ ext) → swpOp P s.op (ev E) (H ++ ext) K2) ∧ (s.op.kind = 0 → ∀ (H2 : List Blk) (K2 : AV → List Blk → Prop), K2 v H2 → swpOp P s.op (ev E) H2 K2) := by
    intro h
    by_cases h0 : s.op.kind = 0
    · obtain ⟨v, h1, h2⟩ := kind0 h0 h
      exact ⟨v, h1, fun ext K2 g => h2 _ _ g, fun _ H2 K2 g => h2 _ _ g⟩
    · obtain ⟨v, h1, h2⟩ := kind1 (by omega) h
      exact ⟨v, h1, h2, fun h => absurd h h0⟩
  unfold aStepV at h ⊢
  cases hg : s.guard with
  | none =>
    simp only [hg] at h ⊢
    exact core h
  | some p =>
    obtain ⟨t, want⟩ := p
    simp only [hg] at h ⊢
    split at h
    · rename_i b hb
      by_cases hbw : b = want
      · obtain ⟨v, h1, h2, h3⟩ := core (h.1 hbw)
        exact ⟨v, h1, fun ext K2 g => ⟨fun _ => h2 ext K2 g, fun hn => absurd hbw hn⟩, fun h0 H2 K2 g => ⟨fun _ => h3 h0 H2 K2 g, fun hn => absurd hbw hn⟩⟩
      · exact ⟨.lit undef, h.2 hbw, fun ext K2 g => ⟨fun hn => absurd hn hbw, fun _ => g⟩, fun h0 H2 K2 g => ⟨fun hn => absurd hn hbw, fun _ => g⟩⟩
    · exact ⟨.lit undef, h, fun ext K2 g => g, fun h0 H2 K2 g => g⟩
    · exact h.elim
theorem aStepV_ext {s : SOper} (hk : s.op.kind ≤ 2) {E : Nat → AV} {H : List Blk} {K : AV → List Blk → Prop} (h : aStepV P s E H K) : aStepV P s E H fun v H' => K v H' ∧ ∃ ext, H' = H ++ ext := by
  unfold aStepV at h ⊢
  cases hg : s.guard with
  | none =>
    simp only [hg] at h ⊢
    exact kind012 hk h
  | some p =>
    obtain ⟨t, want⟩ := p
    simp only [hg] at h ⊢
    split at h
    · exact ⟨fun g => kind012 hk (h.1 g), fun g => ⟨h.2 g, [], by simp⟩⟩
    · exact ⟨h, [], by simp⟩
    · exact h.elim
end
end Go.Av
namespace Go.Av
variable [Go.Av.DoorC]
open Go.RowKit
section
variable {P : Program} {n : Nat} {L : List Nat} {ops : Array Oper}
def ssOf (P : Program) (n : Nat) (L : List Nat) (ops : Array Oper) (i : Nat) : Option SOper :=
  match ops[i]? with
  | some o => if L.contains (i + 1000) then (SOper.of P n false ops o).map fun s => { s with op := s.op.fresh } else SOper.of P n (!L.contains i) ops o
  | none => none
theorem swpOp_unfresh {P : Program} {so : SO} {ρ : Operand → AV} {H : List Blk} {K : AV → List Blk → Prop} (h : swpOp P so.fresh ρ H K) : swpOp P so ρ H K := by
  cases so <;> try exact h
  case call f args => exact ACalls.mono h (fun r H' hr => hr.1)
theorem aStepV_unfresh {P : Program} {s : SOper} {E : Nat → AV} {H : List Blk} {K : AV → List Blk → Prop} (h : aStepV P { s with op := s.op.fresh } E H K) : aStepV P s E H K := by
  unfold aStepV at h ⊢
  cases hg : s.guard with
  | none => simp only [hg] at h ⊢; exact swpOp_unfresh h
  | some p =>
    obtain ⟨t, want⟩ := p
    simp only [hg] at h ⊢
    split at h
    · exact ⟨fun e => swpOp_unfresh (h.1 e), h.2⟩
    · exact h
    · exact h.elim
theorem ssOf_of {P : Program} {n : Nat} {L : List Nat} {ops : Array Oper} {i : Nat} {s : SOper} (h : ssOf P n L ops i = some s) :
    ∃ o q s0, ops[i]? = some o ∧ SOper.of P n q ops o = some s0 ∧ s0.dst = s.dst ∧ ∀ (E : Nat → AV) (H : List Blk) (K : AV → List Blk → Prop), aStepV P s E H K → aStepV P s0 E H K := by
  unfold ssOf at h
  split at h
  case h_2 => simp at h
  case h_1 o ho =>
    split at h
    · cases h0 : SOper.of P n false ops o with
      | none => rw [h0] at h; simp at h
      | some s0 =>
        rw [h0] at h
        simp only [Option.map_some, Option.some.injEq] at h
        subst h
        exact ⟨o, false, s0, ho, h0, rfl, fun E H K hk => aStepV_unfresh hk⟩
    · exact ⟨o, _, s, ho, h, rfl, fun E H K hk => hk⟩
def AAny (P : Program) (n : Nat) (L : List Nat) (ops : Array Oper) (Q : (Nat → AV) → List Blk → Prop) : Nat → Array Bool → (Nat → AV) → List Blk → Prop
  | 0, listed, E, H => Region.ready .any ops listed = [] ∧ Q E H
  | f + 1, listed, E, H => (Region.ready .any ops listed = [] → Q E H) ∧ ∀ i ∈ Region.ready .any ops listed, ∃ s, ssOf P n L ops i = some s ∧
      aStepV P s E H fun v H' => AAny P n L ops Q f (listed.setIfInBounds i true) (updO E s.dst v) H'
theorem AAny_sound {cx : Ctx} {Q : (Nat → AV) → List Blk → Prop} : ∀ (f : Nat) (listed : Array Bool) (F : Fz) (m : List Ent) (E : Nat → AV) (H : List Blk) (a : Act) (w : World), St cx F m E H a w → AAny P cx.n L ops Q f listed E H →
    wpAny P .any ops (fun x a' w' => x = .normal ∧ Goes cx F m Q a' w') f listed a w
  | 0, listed, F, m, E, H, a, w, hs, h => ⟨h.1, rfl, F, m, E, H, h.2, FLe.refl _, MLe.refl _, hs⟩
  | f + 1, listed, F, m, E, H, a, w, hs, h => by
    refine ⟨fun h0 => ⟨rfl, F, m, E, H, h.1 h0, FLe.refl _, MLe.refl _, hs⟩, fun i hi => ?_⟩
    obtain ⟨s, hsi, hst⟩ := h.2 i hi
    obtain ⟨o, q, s0, ho, hs0, hd0, hun⟩ := ssOf_of hsi
    unfold wpOp
    simp only [ho]
    replace hst := hun _ _ _ hst
    rw [← hd0] at hst
    have h1 := step_sound (Q := (fun x a' w' => x = .normal ∧ Goes cx F m Q a' w')) hs0 hs (K := fun E' H' => AAny P cx.n L ops Q f (listed.setIfInBounds i true) E' H') hst
    have go : ∀ a' w', Goes cx F m (fun E' H' => AAny P cx.n L ops Q f (listed.setIfInBounds i true) E' H') a' w' → wpAny P .any ops (fun x a' w' => x = .normal ∧ Goes cx F m Q a' w') f (listed.setIfInBounds i true) a' w' := by
      rintro a' w' ⟨F', m', E', H', g1, g2, g3, g4⟩
      have := AAny_sound f _ F' m' E' H' a' w' g4 g1
      refine wpAny_mono ?_ _ _ _ _ this
      rintro x a'' w'' ⟨rfl, F'', m'', E'', H'', k1, k2, k3, k4⟩
      exact ⟨rfl, F'', m'', E'', H'', k1, g2.trans k2, g3.trans k3, k4⟩
    split
    · rename_i hw; rw [if_pos hw] at h1; exact .inl (Oper.wp_mono go h1)
    · rename_i hw; rw [if_neg hw] at h1; exact go _ _ h1
where
  wpAny_mono {ops : Array Oper} {Q Q' : Exit → Act → World → Prop} (hq : ∀ x a w, Q x a w → Q' x a w) : ∀ (f : Nat) (listed : Array Bool) (a : Act) (w : World), wpAny P .any ops Q f listed a w → wpAny P .any ops Q' f listed a w
    | 0, _, _, _, h => ⟨h.1, hq _ _ _ h.2⟩
    | f + 1, listed, a, w, h => by
      refine ⟨fun h0 => hq _ _ _ (h.1 h0), fun i hi => ?_⟩
      have := h.2 i hi
      unfold wpOp at this ⊢
      split
      · rename_i ho; simp only [ho] at this; exact wpAny_mono hq f _ _ _ this
      · rename_i o ho
        simp only [ho] at this
        split
        · rename_i hw
          rw [if_pos hw] at this
          rcases this with h1 | ⟨h1, a0, w0, h2⟩
          · exact .inl (wp_monoQ hq (fun a w g => wpAny_mono hq f _ a w g) h1)
          · exact .inr ⟨h1, a0, w0, hq _ _ _ h2⟩
        · rename_i hw
          rw [if_neg hw] at this
          exact wpAny_mono hq f _ _ _ this
  wp_monoQ {o : Oper} {a : Act} {w : World} {K K' : Act → World → Prop} {Q Q' : Exit → Act → World → Prop} (hq : ∀ x a w, Q x a w → Q' x a w) (hk : ∀ a w, K a w → K' a w) (h : o.wp P a w K Q) : o.wp P a w K' Q' := by
    unfold Oper.wp at *
    generalize (execOp a.eval o).run P w = r at *
    cases r with
    | ok n w' =>
      cases n <;> simp only [Oper.upon] at h ⊢ <;>
        first
          | exact hk _ _ h
          | exact Calls.mono h (fun e w'' he => by
              cases e <;> first
                | exact hk _ _ he
                | exact hq _ _ _ he
                | (obtain ⟨a0, w0, h2⟩ := he; exact ⟨a0, w0, hq _ _ _ h2⟩))
          | exact Rows.mono h (fun _ _ he => hk _ _ he)
    | halt x w' => cases x <;> simp only [Oper.upon] at h ⊢ <;> exact hq _ _ _ h
def apartB (si sj : SOper) : Bool :=
  (match si.dst with
   | some d => !(sj.looks.contains d) && sj.dst != some d
   | none => true) &&
  (match sj.dst with
   | some d => !(si.looks.contains d)
   | none => true)
def edgeIn (o : Oper) (i : Nat) (D : List Nat) : Bool := o.after.any fun e => Region.binds .any e && (e.on == i || D.contains e.on)
def descOf (ops : Array Oper) (i : Nat) : List Nat :=
  (List.range ops.size).foldl (fun D k => if k != i && (match ops[k]? with | some o => edgeIn o i D | none => false) then D ++ [k] else D) []
def freeB (P : Program) (n : Nat) (L : List Nat) (ops : Array Oper) (listed : Array Bool) (i : Nat) (si : SOper) : Bool :=
  let D := descOf ops i
  (D.all fun d => d != i && !(listed.getD d true) && (match ops[d]? with | some o => edgeIn o i D | none => false)) &&
  (List.range ops.size).all fun j => j == i || listed.getD j true || D.contains j || match ssOf P n L ops j with
    | some sj => apartB si sj && (decide (sj.op.kind ≤ 2) || si.op.kind == 0)
    | none => false
def lexB (P : Program) (n : Nat) (L : List Nat) (ops : Array Oper) : List Nat → Array Bool → Bool
  | [], listed => (Region.ready .any ops listed).isEmpty
  | i :: σ, listed => (Region.ready .any ops listed).contains i && (match ssOf P n L ops i with
    | some si => (if si.op.kind ≤ 1 then freeB P n L ops listed i si else Region.ready .any ops listed == [i])
    | none => false) && lexB P n L ops σ (listed.setIfInBounds i true)
theorem updO_comm {E : Nat → AV} {x y : Option Nat} {v u : AV} (h : ∀ d, x = some d → y ≠ some d) : updO (updO E x v) y u = updO (updO E y u) x v := by
  cases x with
  | none => rfl
  | some d =>
    cases y with
    | none => rfl
    | some e =>
      have hne : d ≠ e := fun he => h d rfl (he ▸ rfl)
      funext k
      simp only [updO]
      by_cases h1 : k = e
      · by_cases h2 : k = d
        · exact absurd (h2.symm.trans h1) hne
        · rw [if_pos h1, if_neg h2, if_pos h1]
      · by_cases h2 : k = d
        · rw [if_neg h1, if_pos h2, if_pos h2]
        · rw [if_neg h1, if_neg h2, if_neg h2, if_neg h1]
theorem updO_looks {E : Nat → AV} {d : Option Nat} {v : AV} {s : SOper} (h : ∀ t, d = some t → t ∉ s.looks) : ∀ t ∈ s.looks, updO E d v t = E t := by
  intro t ht
  cases d with
  | none => rfl
  | some k =>
    have : t ≠ k := fun e => h k rfl (e ▸ ht)
    simp [updO, this]
theorem any_first {Q : (Nat → AV) → List Blk → Prop} {i : Nat} {si : SOper} (hsi : ssOf P n L ops i = some si) (hkind : si.op.kind ≤ 1) (D : List Nat)
    (hD : ∀ d ∈ D, d ≠ i ∧ ∃ od, ops[d]? = some od ∧ ∃ e ∈ od.after, Region.binds .any e = true ∧ (e.on = i ∨ e.on ∈ D)) :
    ∀ (f : Nat) (listed : Array Bool) (E : Nat → AV) (H : List Blk), (∀ d ∈ D, listed.getD d true = false) → i ∈ Region.ready .any ops listed →
      (∀ j, j ≠ i → listed.getD j true = false → j ∉ D → ∀ sj, ssOf P n L ops j = some sj → apartB si sj = true ∧ (sj.op.kind ≤ 2 ∨ si.op.kind = 0)) →
      aStepV P si E H (fun v H' => AAny P n L ops Q f (listed.setIfInBounds i true) (updO E si.dst v) H') → AAny P n L ops Q (f + 1) listed E H := by
  intro f
  induction f with
  | zero =>
    intro listed E H _ hr _ h
    refine ⟨fun h0 => by rw [h0] at hr; simp at hr, fun j hj => ?_⟩
    by_cases hji : j = i
    · subst hji; exact ⟨si, hsi, h⟩
    · obtain ⟨v, h1, _⟩ := aStepV_quiet hkind h
      have := ready_mono hj hji
      rw [h1.1] at this; simp at this
  | succ f ih =>
    intro listed E H hun hr hfree h
    refine ⟨fun h0 => by rw [h0] at hr; simp at hr, fun j hj => ?_⟩
    by_cases hji : j = i
    · subst hji; exact ⟨si, hsi, h⟩
    · obtain ⟨v, h1, hst1, hst0⟩ := aStepV_quiet hkind h
      obtain ⟨sj, hsj, hj2⟩ := h1.2 j (ready_mono hj hji)
      refine ⟨sj, hsj, ?_⟩
      have hjun := (mem_ready.1 hj).1
      have hiun := (mem_ready.1 hr).1
      have hjD : j ∉ D := by
        intro hjd
        obtain ⟨_, od, hod, e, he, hb, hon⟩ := hD j hjd
        obtain ⟨_, o', ho', hall⟩ := mem_ready.1 hj
        rw [hod] at ho'; cases ho'
        have hl := hall e he hb
        have huni : ∀ k, listed.getD k true = false → listed.getD k false = true → False := by
          intro k hk1 hk2
          rcases Nat.lt_or_ge k listed.size with h' | h'
          · simp [h'] at hk1 hk2; rw [hk1] at hk2; cases hk2
          · simp [Array.getElem?_eq_none h'] at hk2
        rcases hon with hon | hon
        · rw [hon] at hl; exact huni i hiun hl
        · exact huni _ (hun _ hon) hl
      obtain ⟨hap, hkj⟩ := hfree j hji hjun hjD sj hsj
      have a1 : ∀ t, si.dst = some t → t ∉ sj.looks := by
        intro t ht; simp [apartB, ht] at hap; exact hap.1.1
      have a2 : ∀ t, si.dst = some t → sj.dst ≠ some t := by
        intro t ht; simp [apartB, ht] at hap; exact hap.1.2
      have a3 : ∀ t, sj.dst = some t → t ∉ si.looks := by
        intro t ht; simp [apartB, ht] at hap; exact hap.2
      rw [aStepV_congr (updO_looks a1)] at hj2
      have fin : ∀ (vj : AV) (Hj : List Blk), (aStepV P si E Hj fun v' H' => v' = v ∧ H' = Hj) → AAny P n L ops Q f ((listed.setIfInBounds i true).setIfInBounds j true) (updO (updO E si.dst v) sj.dst vj) Hj →
          AAny P n L ops Q (f + 1) (listed.setIfInBounds j true) (updO E sj.dst vj) Hj := by
        intro vj Hj hq hA
        refine ih (listed.setIfInBounds j true) (updO E sj.dst vj) Hj ?_ (ready_mono hr (Ne.symm hji)) ?_ ?_
        · intro d hd
          rw [getD_set_ne true (fun (e : j = d) => hjD (e ▸ hd))]; exact hun d hd
        · intro k hki hk hkD sk hsk
          refine hfree k hki ?_ hkD sk hsk
          by_cases hjk : j = k
          · subst hjk; exact hjun
          · rw [getD_set_ne true hjk] at hk; exact hk
        · rw [aStepV_congr (updO_looks a3)]
          refine aStepV_mono ?_ hq
          rintro v' H' ⟨rfl, rfl⟩
          rw [Array.setIfInBounds_comm _ _ hji]
          rw [updO_comm a2] at hA
          exact hA
      by_cases hk2 : sj.op.kind ≤ 2
      · refine aStepV_mono ?_ (aStepV_ext hk2 hj2)
        rintro vj Hj ⟨hA, ext, rfl⟩
        exact fin vj _ (hst1 ext _ ⟨rfl, rfl⟩) hA
      · have h0 : si.op.kind = 0 := by omega
        refine aStepV_mono ?_ hj2
        intro vj Hj hA
        exact fin vj Hj (hst0 h0 Hj _ ⟨rfl, rfl⟩) hA
def lexS (P : Program) (n : Nat) (L : List Nat) (ops : Array Oper) (Q : (Nat → AV) → List Blk → Prop) : List Nat → (Nat → AV) → List Blk → Prop
  | [], E, H => Q E H
  | i :: σ, E, H => match ssOf P n L ops i with
    | some s => aStepV P s E H fun v H' => lexS P n L ops Q σ (updO E s.dst v) H'
    | none => False
def firstB (P : Program) (n : Nat) (L : List Nat) (ops : Array Oper) (listed : Array Bool) (i : Nat) : Bool := match ssOf P n L ops i with
  | some si => (if si.op.kind ≤ 1 then freeB P n L ops listed i si else Region.ready .any ops listed == [i])
  | none => false
theorem first_any {Q : (Nat → AV) → List Blk → Prop} {i f : Nat} {listed : Array Bool} {si : SOper} {E : Nat → AV} {H : List Blk} (hr' : i ∈ Region.ready .any ops listed) (hsi : ssOf P n L ops i = some si) (hc : firstB P n L ops listed i = true)
    (hmono : aStepV P si E H (fun v H' => AAny P n L ops Q f (listed.setIfInBounds i true) (updO E si.dst v) H')) : AAny P n L ops Q (f + 1) listed E H := by
  unfold firstB at hc
  simp only [hsi] at hc
  split at hc
  · rename_i hk
    simp only [freeB, Bool.and_eq_true, List.all_eq_true, List.mem_range] at hc
    obtain ⟨hc1, hc2⟩ := hc
    refine any_first hsi hk (descOf ops i) ?_ f listed E H ?_ hr' ?_ hmono
    · intro d hd
      have := hc1 d hd
      simp only [bne_iff_ne] at this
      refine ⟨this.1.1, ?_⟩
      have h3 := this.2
      split at h3
      · rename_i od hod
        refine ⟨od, hod, ?_⟩
        unfold edgeIn at h3
        obtain ⟨e, he, hb⟩ := Array.any_eq_true'.1 h3
        simp at hb
        exact ⟨e, he, hb.1, hb.2⟩
      · simp at h3
    · intro d hd
      have := hc1 d hd
      simpa using this.1.2
    · intro j hji hjun hjD sj hsj
      have hlt : j < ops.size := by
        obtain ⟨o, _, _, ho, _⟩ := ssOf_of hsj
        exact (Array.getElem?_eq_some_iff.1 ho).1
      have := hc2 j hlt
      simp only [hsj, hjun, Bool.or_eq_true, beq_iff_eq, hji, false_or, Bool.false_eq_true, Bool.and_eq_true, decide_eq_true_eq] at this
      rcases this with h3 | h3
      · exact absurd (by simpa using h3) hjD
      · exact h3
  · have hrd : Region.ready .any ops listed = [i] := by simpa using hc
    refine ⟨fun h0 => by rw [h0] at hr'; simp at hr', fun j hj => ?_⟩
    rw [hrd] at hj
    simp at hj
    subst hj
    exact ⟨si, hsi, hmono⟩
theorem any_lex {Q : (Nat → AV) → List Blk → Prop} : ∀ (σ : List Nat) (listed : Array Bool) (E : Nat → AV) (H : List Blk), lexB P n L ops σ listed = true → lexS P n L ops Q σ E H → AAny P n L ops Q σ.length listed E H
  | [], listed, E, H, hB, h => ⟨by simpa [lexB] using hB, h⟩
  | i :: σ, listed, E, H, hB, h => by
    simp only [lexB, Bool.and_eq_true] at hB
    obtain ⟨⟨hr, hc⟩, hB'⟩ := hB
    have hr' : i ∈ Region.ready .any ops listed := by simpa using hr
    simp only [lexS] at h
    cases hsi : ssOf P n L ops i with
    | none => simp [hsi] at hc
    | some si =>
      simp only [hsi] at h
      exact first_any hr' hsi hc (aStepV_mono (fun v H' g => any_lex σ _ _ _ hB' g) h)
inductive OT where
  | done
  | one (i : Nat) (t : OT)
  | both (a b : OT)
def OT.heads : OT → List Nat
  | .done => []
  | .one i _ => [i]
  | .both a b => a.heads ++ b.heads
def OT.height : OT → Nat
  | .done => 0
  | .one _ t => t.height + 1
  | .both a b => max a.height b.height
def lexTB (P : Program) (n : Nat) (L : List Nat) (ops : Array Oper) : Bool → OT → Array Bool → Bool
  | fk, .done, listed => !fk && (Region.ready .any ops listed).isEmpty
  | fk, .one i t, listed => (Region.ready .any ops listed).contains i && (ssOf P n L ops i).isSome && (fk || firstB P n L ops listed i) && lexTB P n L ops false t (listed.setIfInBounds i true)
  | fk, .both a b, listed => lexTB P n L ops true a listed && lexTB P n L ops true b listed && (fk || (Region.ready .any ops listed).all fun i => (OT.both a b).heads.contains i)
def lexTS (P : Program) (n : Nat) (L : List Nat) (ops : Array Oper) (Q : (Nat → AV) → List Blk → Prop) : OT → (Nat → AV) → List Blk → Prop
  | .done, E, H => Q E H
  | .one i t, E, H => match ssOf P n L ops i with
    | some s => aStepV P s E H fun v H' => lexTS P n L ops Q t (updO E s.dst v) H'
    | none => False
  | .both a b, E, H => lexTS P n L ops Q a E H ∧ lexTS P n L ops Q b E H
theorem lexTB_head : ∀ (t : OT) (listed : Array Bool), lexTB P n L ops true t listed = true → 1 ≤ t.height ∧ ∃ i ∈ t.heads, i ∈ Region.ready .any ops listed
  | .done, listed, h => by simp [lexTB] at h
  | .one i t, listed, h => by
    simp only [lexTB, Bool.and_eq_true] at h
    exact ⟨by simp [OT.height], i, by simp [OT.heads], by simpa using h.1.1.1⟩
  | .both a b, listed, h => by
    simp only [lexTB, Bool.and_eq_true] at h
    obtain ⟨h1, i, h2, h3⟩ := lexTB_head a listed h.1.1
    exact ⟨by simp only [OT.height]; omega, i, by simp [OT.heads, h2], h3⟩
theorem any_lexT {Q : (Nat → AV) → List Blk → Prop} : ∀ t : OT,
    (∀ (f : Nat) (listed : Array Bool) (E : Nat → AV) (H : List Blk), t.height ≤ f → lexTB P n L ops false t listed = true → lexTS P n L ops Q t E H → AAny P n L ops Q f listed E H) ∧
    (∀ (f : Nat) (listed : Array Bool) (E : Nat → AV) (H : List Blk), t.height ≤ f + 1 → lexTB P n L ops true t listed = true → lexTS P n L ops Q t E H → ∀ i ∈ t.heads, ∃ s, ssOf P n L ops i = some s ∧ aStepV P s E H fun v H' => AAny P n L ops Q f (listed.setIfInBounds i true) (updO E s.dst v) H')
  | .done => by
    refine ⟨fun f listed E H _ hB h => ?_, fun f listed E H _ _ _ i hi => by simp [OT.heads] at hi⟩
    have h0 : Region.ready .any ops listed = [] := by simpa [lexTB] using hB
    cases f with
    | zero => exact ⟨h0, h⟩
    | succ f => exact ⟨fun _ => h, fun i hi => by rw [h0] at hi; simp at hi⟩
  | .one i t => by
    have ih := (any_lexT (Q := Q) t).1
    have key : ∀ (f : Nat) (listed : Array Bool) (E : Nat → AV) (H : List Blk), t.height ≤ f → lexTB P n L ops false t (listed.setIfInBounds i true) = true → lexTS P n L ops Q (.one i t) E H → ∃ s, ssOf P n L ops i = some s ∧ aStepV P s E H fun v H' => AAny P n L ops Q f (listed.setIfInBounds i true) (updO E s.dst v) H' := by
      intro f listed E H hf hB h
      simp only [lexTS] at h
      cases hsi : ssOf P n L ops i with
      | none => simp [hsi] at h
      | some s =>
        simp only [hsi] at h
        exact ⟨s, rfl, aStepV_mono (fun v H' g => ih f _ _ _ hf hB g) h⟩
    refine ⟨fun f listed E H hf hB h => ?_, fun f listed E H hf hB h j hj => ?_⟩
    · simp only [lexTB, Bool.and_eq_true, Bool.false_or] at hB
      obtain ⟨⟨⟨hr, _⟩, hc⟩, hB'⟩ := hB
      simp only [OT.height] at hf
      cases f with
      | zero => omega
      | succ f =>
        obtain ⟨s, hs, hst⟩ := key f listed E H (by omega) hB' h
        exact first_any (by simpa using hr) hs hc hst
    · simp only [OT.heads, List.mem_singleton] at hj
      subst hj
      simp only [lexTB, Bool.and_eq_true] at hB
      simp only [OT.height] at hf
      exact key f listed E H (by omega) hB.2 h
  | .both a b => by
    have iha := any_lexT (Q := Q) a
    have ihb := any_lexT (Q := Q) b
    have key : ∀ (fk : Bool) (f : Nat) (listed : Array Bool) (E : Nat → AV) (H : List Blk), (OT.both a b).height ≤ f + 1 → lexTB P n L ops fk (.both a b) listed = true → lexTS P n L ops Q (.both a b) E H → ∀ i ∈ (OT.both a b).heads, ∃ s, ssOf P n L ops i = some s ∧ aStepV P s E H fun v H' => AAny P n L ops Q f (listed.setIfInBounds i true) (updO E s.dst v) H' := by
      intro fk f listed E H hf hB h i hi
      simp only [lexTB, Bool.and_eq_true] at hB
      simp only [OT.height] at hf
      simp only [lexTS] at h
      rcases List.mem_append.1 hi with hi | hi
      · exact iha.2 f listed E H (by omega) hB.1.1 h.1 i hi
      · exact ihb.2 f listed E H (by omega) hB.1.2 h.2 i hi
    refine ⟨fun f listed E H hf hB h => ?_, fun f listed E H hf hB h i hi => key true f listed E H hf hB h i hi⟩
    have hB2 := hB
    simp only [lexTB, Bool.and_eq_true, Bool.false_or, List.all_eq_true] at hB2
    obtain ⟨⟨ha, _⟩, hall⟩ := hB2
    obtain ⟨h1, i0, _, hi0⟩ := lexTB_head a listed ha
    cases f with
    | zero => simp only [OT.height] at hf; omega
    | succ f =>
      refine ⟨fun h0 => by rw [h0] at hi0; simp at hi0, fun i hi => ?_⟩
      exact key false f listed E H (by omega) hB h i (by simpa using hall i hi)
inductive OU where
  | done
  | one (i : Nat) (t : OU)
  | sem (i : Nat) (t : OU)
  | both (a b : OU)
def OU.heads : OU → List Nat
  | .done => []
  | .one i _ => [i]
  | .sem i _ => [i]
  | .both a b => a.heads ++ b.heads
def OU.height : OU → Nat
  | .done => 0
  | .one _ t => t.height + 1
  | .sem _ t => t.height + 1
  | .both a b => max a.height b.height
def OU.sems : OU → Bool
  | .done => false
  | .one _ t => t.sems
  | .sem _ _ => true
  | .both a b => a.sems || b.sems
def SO.late : SO → Bool
  | .store .. => true
  | _ => false
def lateB (P : Program) (n : Nat) (L : List Nat) (ops : Array Oper) (i : Nat) : Bool := match ssOf P n L ops i with
  | some s => s.op.late
  | none => false
def semB (P : Program) (n : Nat) (L : List Nat) (ops : Array Oper) (listed : Array Bool) (i : Nat) : Bool := match ssOf P n L ops i with
  | some si =>
    let D := descOf ops i
    decide (si.op.kind ≤ 1) && (D.all fun d => d != i && !(listed.getD d true) && (match ops[d]? with | some o => edgeIn o i D | none => false)) &&
    ((List.range ops.size).all fun j => j == i || listed.getD j true || D.contains j || match ssOf P n L ops j with
      | some sj => apartB si sj && (!sj.op.late || si.op.kind == 0)
      | none => false)
  | none => false
def lexUB (P : Program) (n : Nat) (L : List Nat) (ops : Array Oper) : Bool → OU → Array Bool → Bool
  | fk, .done, listed => !fk && (Region.ready .any ops listed).isEmpty
  | fk, .one i t, listed => (Region.ready .any ops listed).contains i && (ssOf P n L ops i).isSome && (fk || Region.ready .any ops listed == [i]) && (!t.sems || !lateB P n L ops i) && lexUB P n L ops false t (listed.setIfInBounds i true)
  | fk, .sem i t, listed => !fk && (Region.ready .any ops listed).contains i && semB P n L ops listed i && lexUB P n L ops false t (listed.setIfInBounds i true)
  | fk, .both a b, listed => lexUB P n L ops true a listed && lexUB P n L ops true b listed && (fk || (Region.ready .any ops listed).all fun i => (OU.both a b).heads.contains i)
def lexUS (P : Program) (n : Nat) (L : List Nat) (ops : Array Oper) (S : List Blk → Prop) (Q : (Nat → AV) → List Blk → Prop) : OU → (Nat → AV) → List Blk → Prop
  | .done, E, H => Q E H
  | .one i t, E, H => match ssOf P n L ops i with
    | some s => aStepV P s E H fun v H' => (s.op.late = false → S H → S H') ∧ lexUS P n L ops S Q t (updO E s.dst v) H'
    | none => False
  | .sem i t, E, H => match ssOf P n L ops i with
    | some s => ∃ v, (∀ H', S H' → aStepV P s E H' fun v' H'' => v' = v ∧ H'' = H') ∧ lexUS P n L ops S Q t (updO E s.dst v) H
    | none => False
  | .both a b, E, H => lexUS P n L ops S Q a E H ∧ lexUS P n L ops S Q b E H
def AAnyS (P : Program) (n : Nat) (L : List Nat) (ops : Array Oper) (S : List Blk → Prop) (Q : (Nat → AV) → List Blk → Prop) : Nat → Array Bool → (Nat → AV) → List Blk → Prop
  | 0, listed, E, H => Region.ready .any ops listed = [] ∧ Q E H
  | f + 1, listed, E, H => (Region.ready .any ops listed = [] → Q E H) ∧ ∀ i ∈ Region.ready .any ops listed, ∃ s, ssOf P n L ops i = some s ∧
      aStepV P s E H fun v H' => (s.op.late = false → S H → S H') ∧ AAnyS P n L ops S Q f (listed.setIfInBounds i true) (updO E s.dst v) H'
theorem AAnyS_any {S : List Blk → Prop} {Q : (Nat → AV) → List Blk → Prop} : ∀ (f : Nat) (listed : Array Bool) (E : Nat → AV) (H : List Blk), AAnyS P n L ops S Q f listed E H → AAny P n L ops Q f listed E H
  | 0, _, _, _, h => h
  | f + 1, listed, E, H, h => ⟨h.1, fun i hi => by
    obtain ⟨s, hs, hst⟩ := h.2 i hi
    exact ⟨s, hs, aStepV_mono (fun v H' g => AAnyS_any f _ _ _ g.2) hst⟩⟩
theorem anyS_first {S T : List Blk → Prop} {Q : (Nat → AV) → List Blk → Prop} {i : Nat} {si : SOper} (hsi : ssOf P n L ops i = some si) (D : List Nat)
    (hD : ∀ d ∈ D, d ≠ i ∧ ∃ od, ops[d]? = some od ∧ ∃ e ∈ od.after, Region.binds .any e = true ∧ (e.on = i ∨ e.on ∈ D)) (v : AV) :
    ∀ (f : Nat) (listed : Array Bool) (E : Nat → AV) (H : List Blk), (∀ d ∈ D, listed.getD d true = false) → i ∈ Region.ready .any ops listed →
      (∀ j, j ≠ i → listed.getD j true = false → j ∉ D → ∀ sj, ssOf P n L ops j = some sj → apartB si sj = true ∧ ∀ H H', (sj.op.late = false → S H → S H') → T H → T H') → T H →
      (∀ H', T H' → aStepV P si E H' fun v' H'' => v' = v ∧ H'' = H') → AAnyS P n L ops S Q f (listed.setIfInBounds i true) (updO E si.dst v) H → AAnyS P n L ops S Q (f + 1) listed E H := by
  intro f
  induction f with
  | zero =>
    intro listed E H _ hr _ hT hst h
    refine ⟨fun h0 => by rw [h0] at hr; simp at hr, fun j hj => ?_⟩
    by_cases hji : j = i
    · subst hji
      refine ⟨si, hsi, aStepV_mono ?_ (hst H hT)⟩
      rintro v' H' ⟨rfl, rfl⟩
      exact ⟨fun _ g => g, h⟩
    · have := ready_mono hj hji
      rw [h.1] at this; simp at this
  | succ f ih =>
    intro listed E H hun hr hfree hT hst h
    refine ⟨fun h0 => by rw [h0] at hr; simp at hr, fun j hj => ?_⟩
    by_cases hji : j = i
    · subst hji
      refine ⟨si, hsi, aStepV_mono ?_ (hst H hT)⟩
      rintro v' H' ⟨rfl, rfl⟩
      exact ⟨fun _ g => g, h⟩
    · obtain ⟨sj, hsj, hj2⟩ := h.2 j (ready_mono hj hji)
      refine ⟨sj, hsj, ?_⟩
      have hjun := (mem_ready.1 hj).1
      have hiun := (mem_ready.1 hr).1
      have hjD : j ∉ D := by
        intro hjd
        obtain ⟨_, od, hod, e, he, hb, hon⟩ := hD j hjd
        obtain ⟨_, o', ho', hall⟩ := mem_ready.1 hj
        rw [hod] at ho'; cases ho'
        have hl := hall e he hb
        have huni : ∀ k, listed.getD k true = false → listed.getD k false = true → False := by
          intro k hk1 hk2
          rcases Nat.lt_or_ge k listed.size with h' | h'
          · simp [h'] at hk1 hk2; rw [hk1] at hk2; cases hk2
          · simp [Array.getElem?_eq_none h'] at hk2
        rcases hon with hon | hon
        · rw [hon] at hl; exact huni i hiun hl
        · exact huni _ (hun _ hon) hl
      obtain ⟨hap, hlate⟩ := hfree j hji hjun hjD sj hsj
      have a1 : ∀ t, si.dst = some t → t ∉ sj.looks := by
        intro t ht; simp [apartB, ht] at hap; exact hap.1.1
      have a2 : ∀ t, si.dst = some t → sj.dst ≠ some t := by
        intro t ht; simp [apartB, ht] at hap; exact hap.1.2
      have a3 : ∀ t, sj.dst = some t → t ∉ si.looks := by
        intro t ht; simp [apartB, ht] at hap; exact hap.2
      rw [aStepV_congr (updO_looks a1)] at hj2
      refine aStepV_mono ?_ hj2
      rintro vj Hj ⟨hSj, hA⟩
      refine ⟨hSj, ih (listed.setIfInBounds j true) (updO E sj.dst vj) Hj ?_ (ready_mono hr (Ne.symm hji)) ?_ (hlate _ _ hSj hT) ?_ ?_⟩
      · intro d hd
        rw [getD_set_ne true (fun (e : j = d) => hjD (e ▸ hd))]; exact hun d hd
      · intro k hki hk hkD sk hsk
        refine hfree k hki ?_ hkD sk hsk
        by_cases hjk : j = k
        · subst hjk; exact hjun
        · rw [getD_set_ne true hjk] at hk; exact hk
      · intro H' hS'
        rw [aStepV_congr (updO_looks a3)]
        exact hst H' hS'
      · rw [Array.setIfInBounds_comm _ _ hji]
        rw [updO_comm a2] at hA
        exact hA
theorem lexUB_head : ∀ (t : OU) (listed : Array Bool), lexUB P n L ops true t listed = true → 1 ≤ t.height ∧ ∃ i ∈ t.heads, i ∈ Region.ready .any ops listed
  | .done, listed, h => by simp [lexUB] at h
  | .sem i t, listed, h => by simp [lexUB] at h
  | .one i t, listed, h => by
    simp only [lexUB, Bool.and_eq_true] at h
    exact ⟨by simp [OU.height], i, by simp [OU.heads], by simpa using h.1.1.1.1⟩
  | .both a b, listed, h => by
    simp only [lexUB, Bool.and_eq_true] at h
    obtain ⟨h1, i, h2, h3⟩ := lexUB_head a listed h.1.1
    exact ⟨by simp only [OU.height]; omega, i, by simp [OU.heads, h2], h3⟩
theorem any_lexU {S : List Blk → Prop} {Q : (Nat → AV) → List Blk → Prop} : ∀ t : OU,
    (∀ (f : Nat) (listed : Array Bool) (E : Nat → AV) (H : List Blk), t.height ≤ f → lexUB P n L ops false t listed = true → (t.sems = true → S H) → lexUS P n L ops S Q t E H → AAnyS P n L ops S Q f listed E H) ∧
    (∀ (f : Nat) (listed : Array Bool) (E : Nat → AV) (H : List Blk), t.height ≤ f + 1 → lexUB P n L ops true t listed = true → (t.sems = true → S H) → lexUS P n L ops S Q t E H → ∀ i ∈ t.heads, ∃ s, ssOf P n L ops i = some s ∧ aStepV P s E H fun v H' => (s.op.late = false → S H → S H') ∧ AAnyS P n L ops S Q f (listed.setIfInBounds i true) (updO E s.dst v) H')
  | .done => by
    refine ⟨fun f listed E H _ hB _ h => ?_, fun f listed E H _ _ _ _ i hi => by simp [OU.heads] at hi⟩
    have h0 : Region.ready .any ops listed = [] := by simpa [lexUB] using hB
    cases f with
    | zero => exact ⟨h0, h⟩
    | succ f => exact ⟨fun _ => h, fun i hi => by rw [h0] at hi; simp at hi⟩
  | .sem i t => by
    have ih := (any_lexU (S := S) (Q := Q) t).1
    refine ⟨fun f listed E H hf hB hS h => ?_, fun f listed E H _ hB _ _ => by simp [lexUB] at hB⟩
    simp only [lexUB, Bool.and_eq_true, Bool.not_false] at hB
    obtain ⟨⟨⟨_, hr⟩, hc⟩, hB'⟩ := hB
    have hr' : i ∈ Region.ready .any ops listed := by simpa using hr
    simp only [OU.height] at hf
    cases f with
    | zero => omega
    | succ f =>
      simp only [lexUS] at h
      cases hsi : ssOf P n L ops i with
      | none => simp [hsi] at h
      | some si =>
        simp only [hsi] at h
        obtain ⟨v, hst, hA⟩ := h
        unfold semB at hc
        simp only [hsi, Bool.and_eq_true, List.all_eq_true, List.mem_range, decide_eq_true_eq] at hc
        obtain ⟨⟨hk1, hc1⟩, hc2⟩ := hc
        have go : ∀ T : List Blk → Prop, T H → (∀ H', T H' → aStepV P si E H' fun v' H'' => v' = v ∧ H'' = H') → (∀ sj : SOper, (!sj.op.late || si.op.kind == 0) = true → ∀ H H', (sj.op.late = false → S H → S H') → T H → T H') → AAnyS P n L ops S Q (f + 1) listed E H := by
          intro T hT hstT hkeep
          refine anyS_first hsi (descOf ops i) ?_ v f listed E H ?_ hr' ?_ hT hstT (ih f _ _ _ (by omega) hB' (fun _ => hS rfl) hA)
          · intro d hd
            have := hc1 d hd
            simp only [bne_iff_ne] at this
            refine ⟨this.1.1, ?_⟩
            have h3 := this.2
            split at h3
            · rename_i od hod
              refine ⟨od, hod, ?_⟩
              unfold edgeIn at h3
              obtain ⟨e, he, hb⟩ := Array.any_eq_true'.1 h3
              simp at hb
              exact ⟨e, he, hb.1, hb.2⟩
            · simp at h3
          · intro d hd
            have := hc1 d hd
            simpa using this.1.2
          · intro j hji hjun hjD sj hsj
            have hlt : j < ops.size := by
              obtain ⟨o, _, _, ho, _⟩ := ssOf_of hsj
              exact (Array.getElem?_eq_some_iff.1 ho).1
            have := hc2 j hlt
            simp only [hsj, hjun, Bool.or_eq_true, beq_iff_eq, hji, false_or, Bool.false_eq_true] at this
            rcases this with h3 | h3
            · exact absurd (by simpa using h3) hjD
            · rw [Bool.and_eq_true] at h3
              exact ⟨h3.1, hkeep sj (by simpa using h3.2)⟩
        by_cases hk0 : si.op.kind = 0
        · obtain ⟨v', h1, _, h0⟩ := aStepV_quiet hk1 (hst H (hS rfl))
          refine go (fun _ => True) trivial (fun H' _ => h0 hk0 H' _ ⟨h1.1, rfl⟩) (fun _ _ _ _ _ _ => trivial)
        · refine go S (hS rfl) hst fun sj hsj H H' hq hT => hq ?_ hT
          simpa [hk0] using hsj
  | .one i t => by
    have ih := (any_lexU (S := S) (Q := Q) t).1
    have key : ∀ (f : Nat) (listed : Array Bool) (E : Nat → AV) (H : List Blk), t.height ≤ f → (!t.sems || !lateB P n L ops i) = true → lexUB P n L ops false t (listed.setIfInBounds i true) = true → (t.sems = true → S H) → lexUS P n L ops S Q (.one i t) E H → ∃ s, ssOf P n L ops i = some s ∧ aStepV P s E H fun v H' => (s.op.late = false → S H → S H') ∧ AAnyS P n L ops S Q f (listed.setIfInBounds i true) (updO E s.dst v) H' := by
      intro f listed E H hf hW hB hS h
      simp only [lexUS] at h
      cases hsi : ssOf P n L ops i with
      | none => simp [hsi] at h
      | some s =>
        simp only [hsi] at h
        unfold lateB at hW
        simp only [hsi] at hW
        refine ⟨s, rfl, aStepV_mono (fun v H' g => ⟨g.1, ih f _ _ _ hf hB (fun e => g.1 ?_ (hS e)) g.2⟩) h⟩
        rw [e] at hW
        simpa using hW
    refine ⟨fun f listed E H hf hB hS h => ?_, fun f listed E H hf hB hS h j hj => ?_⟩
    · simp only [lexUB, Bool.and_eq_true, Bool.false_or] at hB
      obtain ⟨⟨⟨⟨hr, _⟩, hc⟩, hW⟩, hB'⟩ := hB
      have hrd : Region.ready .any ops listed = [i] := by simpa using hc
      simp only [OU.height] at hf
      cases f with
      | zero => omega
      | succ f =>
        refine ⟨fun h0 => by rw [h0] at hrd; simp at hrd, fun j hj => ?_⟩
        rw [hrd] at hj
        simp at hj
        subst hj
        exact key f listed E H (by omega) hW hB' hS h
    · simp only [OU.heads, List.mem_singleton] at hj
      subst hj
      simp only [lexUB, Bool.and_eq_true] at hB
      simp only [OU.height] at hf
      exact key f listed E H (by omega) hB.1.2 hB.2 hS h
  | .both a b => by
    have iha := any_lexU (S := S) (Q := Q) a
    have ihb := any_lexU (S := S) (Q := Q) b
    have key : ∀ (fk : Bool) (f : Nat) (listed : Array Bool) (E : Nat → AV) (H : List Blk), (OU.both a b).height ≤ f + 1 → lexUB P n L ops fk (.both a b) listed = true → ((OU.both a b).sems = true → S H) → lexUS P n L ops S Q (.both a b) E H → ∀ i ∈ (OU.both a b).heads, ∃ s, ssOf P n L ops i = some s ∧ aStepV P s E H fun v H' => (s.op.late = false → S H → S H') ∧ AAnyS P n L ops S Q f (listed.setIfInBounds i true) (updO E s.dst v) H' := by
      intro fk f listed E H hf hB hS h i hi
      simp only [lexUB, Bool.and_eq_true] at hB
      simp only [OU.height] at hf
      simp only [lexUS] at h
      rcases List.mem_append.1 hi with hi | hi
      · exact iha.2 f listed E H (by omega) hB.1.1 (fun e => hS (by simp [OU.sems, e])) h.1 i hi
      · exact ihb.2 f listed E H (by omega) hB.1.2 (fun e => hS (by simp [OU.sems, e])) h.2 i hi
    refine ⟨fun f listed E H hf hB hS h => ?_, fun f listed E H hf hB hS h i hi => key true f listed E H hf hB hS h i hi⟩
    have hB2 := hB
    simp only [lexUB, Bool.and_eq_true, Bool.false_or, List.all_eq_true] at hB2
    obtain ⟨⟨ha, _⟩, hall⟩ := hB2
    obtain ⟨h1, i0, _, hi0⟩ := lexUB_head a listed ha
    cases f with
    | zero => simp only [OU.height] at hf; omega
    | succ f =>
      refine ⟨fun h0 => by rw [h0] at hi0; simp at hi0, fun i hi => ?_⟩
      exact key false f listed E H (by omega) hB hS h i (by simpa using hall i hi)
end
end Go.Av
namespace Go.Av
variable [Go.Av.DoorC]
open Go.RowKit
abbrev Env := List (Nat × AV)
def aget : Env → Nat → AV
  | [], _ => .junk
  | (k, v) :: r, j => if j = k then v else aget r j
def aput : Env → Nat → AV → Env
  | [], k, v => [(k, v)]
  | (j, u) :: r, k, v => if k = j then (j, v) :: r else (j, u) :: aput r k v
def aputO (E : Env) (d : Option Nat) (v : AV) : Env :=
  match d with
  | some k => aput E k v
  | none => E
def keep (ks : List Nat) (E : Env) : Env := ks.map fun k => (k, aget E k)
theorem aget_aput (E : Env) (k : Nat) (v : AV) (j : Nat) : aget (aput E k v) j = if j = k then v else aget E j := by
  induction E with
  | nil => simp [aput, aget]
  | cons p r ih =>
    obtain ⟨i, u⟩ := p
    simp only [aput]
    split
    · rename_i h; subst h; simp only [aget]; split <;> rfl
    · rename_i h
      simp only [aget, ih]
      by_cases h1 : j = i
      · by_cases h2 : j = k
        · exact absurd (h2.symm.trans h1) h
        · simp [h1]; intro h3; exact absurd h3.symm h
      · simp [h1]
theorem aget_aputO (E : Env) (d : Option Nat) (v : AV) : aget (aputO E d v) = updO (aget E) d v := by
  cases d with
  | none => rfl
  | some k => funext j; exact aget_aput E k v j
theorem aget_keep (ks : List Nat) (E : Env) (j : Nat) : aget (keep ks E) j = aget E j ∨ aget (keep ks E) j = .junk := by
  induction ks with
  | nil => exact .inr rfl
  | cons k ks ih =>
    simp only [keep, List.map_cons, aget]
    split
    · rename_i h; subst h; exact .inl rfl
    · exact ih
inductive ST where
  | done
  | one (s : SOper) (t : ST)
  | both (a b : ST)
def OT.toST (P : Program) (n : Nat) (L : List Nat) (ops : Array Oper) : OT → Option ST
  | .done => some .done
  | .one i t => match ssOf P n L ops i, t.toST P n L ops with
    | some s, some x => some (.one s x)
    | _, _ => none
  | .both a b => match a.toST P n L ops, b.toST P n L ops with
    | some x, some y => some (.both x y)
    | _, _ => none
inductive SU where
  | done
  | one (s : SOper) (t : SU)
  | sem (s : SOper) (t : SU)
  | both (a b : SU)
def OU.toSU (P : Program) (n : Nat) (L : List Nat) (ops : Array Oper) : OU → Option SU
  | .done => some .done
  | .one i t => match ssOf P n L ops i, t.toSU P n L ops with
    | some s, some x => some (.one s x)
    | _, _ => none
  | .sem i t => match ssOf P n L ops i, t.toSU P n L ops with
    | some s, some x => some (.sem s x)
    | _, _ => none
  | .both a b => match a.toSU P n L ops, b.toSU P n L ops with
    | some x, some y => some (.both x y)
    | _, _ => none
inductive SC where
  | skip
  | reg (ops : List SOper) (live : List Nat)
  | mix (t : ST) (live : List Nat)
  | mixU (t : SU) (live : List Nat)
  | seq (a b : SC)
  | cond (c : Operand) (a b : SC)
  | block (id : Nat) (c : SC)
  | loop (live : List Nat) (c : SC)
  | exit (id : Nat)
  | ret
inductive SX where
  | nrm
  | ext (id : Nat)
  | ret
def SX.exit : SX → Exit
  | .nrm => .normal
  | .ext id => .exit id
  | .ret => .ret
inductive Corr (P : Program) (n : Nat) : Code → SC → Prop
  | skip : Corr P n .skip .skip
  | reg (id : Nat) (ops : Array Oper) (sl : List SOper) (live : List Nat) (h : ops.toList.mapM (SOper.of P n false ops) = some sl) : Corr P n (.region id ops false) (.reg sl live)
  | draw (id : Nat) (L : List Nat) (ops : Array Oper) (σ : List Nat) (sl : List SOper) (live : List Nat) (hm : P.follows .mixedOrders = true) (h : σ.mapM (ssOf P n L ops) = some sl) (hB : lexB P n L ops σ (Array.replicate ops.size false) = true) (hl : σ.length = ops.size) :
      Corr P n (.region id ops true) (.reg sl live)
  | mix (id : Nat) (L : List Nat) (ops : Array Oper) (o : OT) (t : ST) (live : List Nat) (hm : P.follows .mixedOrders = true) (h : o.toST P n L ops = some t) (hB : lexTB P n L ops false o (Array.replicate ops.size false) = true) (hl : o.height ≤ ops.size) :
      Corr P n (.region id ops true) (.mix t live)
  | mixU (id : Nat) (L : List Nat) (ops : Array Oper) (o : OU) (t : SU) (live : List Nat) (hm : P.follows .mixedOrders = true) (h : o.toSU P n L ops = some t) (hB : lexUB P n L ops false o (Array.replicate ops.size false) = true) (hl : o.height ≤ ops.size) :
      Corr P n (.region id ops true) (.mixU t live)
  | seq (a b : Code) (x y : SC) (h1 : Corr P n a x) (h2 : Corr P n b y) : Corr P n (.seq a b) (.seq x y)
  | cond (c : Operand) (a b : Code) (x y : SC) (h1 : Corr P n a x) (h2 : Corr P n b y) : Corr P n (.cond c a b) (.cond c x y)
  | block (id : Nat) (c : Code) (x : SC) (h : Corr P n c x) : Corr P n (.block id c) (.block id x)
  | loop (live : List Nat) (c : Code) (x : SC) (h : Corr P n c x) : Corr P n (.loop c) (.loop live x)
  | exit (id : Nat) : Corr P n (.exit id) (.exit id)
  | ret : Corr P n .ret .ret
def swpOps (P : Program) : List SOper → Env → List Blk → (Env → List Blk → Prop) → Prop
  | [], E, H, K => K E H
  | s :: rest, E, H, K => aStepV P s (aget E) H fun v H' => swpOps P rest (aputO E s.dst v) H' K
def swpT (P : Program) : ST → Env → List Blk → (Env → List Blk → Prop) → Prop
  | .done, E, H, K => K E H
  | .one s t, E, H, K => aStepV P s (aget E) H fun v H' => swpT P t (aputO E s.dst v) H' K
  | .both a b, E, H, K => swpT P a E H K ∧ swpT P b E H K
def swpU (P : Program) (S : List Blk → Prop) : SU → Env → List Blk → (Env → List Blk → Prop) → Prop
  | .done, E, H, K => K E H
  | .one s t, E, H, K => aStepV P s (aget E) H fun v H' => (s.op.late = false → S H → S H') ∧ swpU P S t (aputO E s.dst v) H' K
  | .sem s t, E, H, K => ∃ v, (∀ H', S H' → aStepV P s (aget E) H' fun v' H'' => v' = v ∧ H'' = H') ∧ swpU P S t (aputO E s.dst v) H K
  | .both a b, E, H, K => swpU P S a E H K ∧ swpU P S b E H K
section
variable {P : Program} {cx : Ctx} {F : Fz} {m : List Ent} {H : List Blk} {a : Act} {w : World}
def Ends (cx : Ctx) (Q : SX → Env → List Blk → Prop) : Exit → Act → World → Prop :=
  fun e a' w' => ∃ x F' m' E' H', e = SX.exit x ∧ Q x E' H' ∧ St cx F' m' (aget E') H' a' w'
theorem St.weaken {E E' : Nat → AV} (hs : St cx F m E H a w) (h : ∀ k, E' k = E k ∨ E' k = .junk) : St cx F m E' H a w :=
  ⟨hs.defers, hs.size, fun k => by rcases h k with h | h <;> rw [h]; exact hs.env k; exact .junk _, hs.sim, hs.fle, hs.mle⟩
theorem St.keep {E : Env} (hs : St cx F m (aget E) H a w) (ks : List Nat) : St cx F m (aget (keep ks E)) H a w := hs.weaken (aget_keep ks E)
theorem mapM_cons_some {α β : Type} {f : α → Option β} {x : α} {xs : List α} {ys : List β} (h : (x :: xs).mapM f = some ys) : ∃ y ys', ys = y :: ys' ∧ f x = some y ∧ xs.mapM f = some ys' := by
  rw [List.mapM_cons] at h
  cases h1 : f x with
  | none => simp [h1] at h
  | some y =>
    cases h2 : xs.mapM f with
    | none => simp [h1, h2] at h
    | some ys' => simp [h1, h2] at h; exact ⟨y, ys', h.symm, rfl, rfl⟩
theorem ops_sound {ops : Array Oper} {K : Env → List Blk → Prop} : ∀ (l : List Oper) (sl : List SOper) (E : Env) (H : List Blk) (F : Fz) (m : List Ent) (a : Act) (w : World), l.mapM (SOper.of P cx.n false ops) = some sl → swpOps P sl E H K →
    St cx F m (aget E) H a w → wpList P ops (fun e a' w' => e = .normal ∧ ∃ F' m' E' H', K E' H' ∧ St cx F' m' (aget E') H' a' w') l a w
  | [], sl, E, H, F, m, a, w, h, hk, hs => by
    simp at h; subst h
    exact ⟨rfl, F, m, E, H, hk, hs⟩
  | o :: l, sl, E, H, F, m, a, w, h, hk, hs => by
    obtain ⟨s, sl', rfl, h1, h2⟩ := mapM_cons_some h
    have h3 := step_sound (Q := fun e a' w' => e = .normal ∧ ∃ F' m' E' H', K E' H' ∧ St cx F' m' (aget E') H' a' w') h1 hs (K := fun E' H' => ∃ El, aget El = E' ∧ swpOps P sl' El H' K)
      (aStepV_mono (fun v H' g => ⟨aputO E s.dst v, aget_aputO _ _ _, g⟩) hk)
    have go : ∀ a' w', Goes cx F m (fun E' H' => ∃ El, aget El = E' ∧ swpOps P sl' El H' K) a' w' → wpList P ops (fun e a' w' => e = .normal ∧ ∃ F' m' E' H', K E' H' ∧ St cx F' m' (aget E') H' a' w') l a' w' := by
      rintro a' w' ⟨F', m', E', H', ⟨El, rfl, g1⟩, g2, g3, g4⟩
      exact ops_sound l sl' El H' F' m' a' w' h2 g1 g4
    unfold wpList
    split
    · rename_i hw; rw [if_pos hw] at h3; exact .inl (Oper.wp_mono go h3)
    · rename_i hw; rw [if_neg hw] at h3; exact go _ _ h3
theorem lexS_of {n : Nat} {L : List Nat} {ops : Array Oper} {K : Env → List Blk → Prop} : ∀ (σ : List Nat) (sl : List SOper) (E : Env) (H : List Blk), σ.mapM (ssOf P n L ops) = some sl → swpOps P sl E H K → lexS P n L ops (fun E' H' => ∃ El, aget El = E' ∧ K El H') σ (aget E) H
  | [], sl, E, H, h, hk => by simp at h; subst h; exact ⟨E, rfl, hk⟩
  | i :: σ, sl, E, H, h, hk => by
    obtain ⟨s, sl', rfl, h1, h2⟩ := mapM_cons_some h
    simp only [lexS, h1]
    refine aStepV_mono (fun v H' g => ?_) hk
    have := lexS_of σ sl' (aputO E s.dst v) H' h2 g
    rw [aget_aputO] at this; exact this
theorem lexTS_of {n : Nat} {L : List Nat} {ops : Array Oper} {K : Env → List Blk → Prop} : ∀ (o : OT) (t : ST) (E : Env) (H : List Blk), o.toST P n L ops = some t → swpT P t E H K → lexTS P n L ops (fun E' H' => ∃ El, aget El = E' ∧ K El H') o (aget E) H
  | .done, t, E, H, h, hk => by simp only [OT.toST, Option.some.injEq] at h; subst h; exact ⟨E, rfl, hk⟩
  | .one i o, t, E, H, h, hk => by
    simp only [OT.toST] at h
    split at h
    · rename_i s x h1 h2
      simp only [Option.some.injEq] at h; subst h
      simp only [lexTS, h1]
      refine aStepV_mono (fun v H' g => ?_) hk
      have := lexTS_of o x (aputO E s.dst v) H' h2 g
      rw [aget_aputO] at this; exact this
    · simp at h
  | .both a b, t, E, H, h, hk => by
    simp only [OT.toST] at h
    split at h
    · rename_i x y h1 h2
      simp only [Option.some.injEq] at h; subst h
      exact ⟨lexTS_of a x E H h1 hk.1, lexTS_of b y E H h2 hk.2⟩
    · simp at h
theorem lexUS_of {n : Nat} {L : List Nat} {ops : Array Oper} {S : List Blk → Prop} {K : Env → List Blk → Prop} : ∀ (o : OU) (t : SU) (E : Env) (H : List Blk), o.toSU P n L ops = some t → swpU P S t E H K → lexUS P n L ops S (fun E' H' => ∃ El, aget El = E' ∧ K El H') o (aget E) H
  | .done, t, E, H, h, hk => by simp only [OU.toSU, Option.some.injEq] at h; subst h; exact ⟨E, rfl, hk⟩
  | .one i o, t, E, H, h, hk => by
    simp only [OU.toSU] at h
    split at h
    · rename_i s x h1 h2
      simp only [Option.some.injEq] at h; subst h
      simp only [lexUS, h1]
      refine aStepV_mono (fun v H' g => ⟨g.1, ?_⟩) hk
      have := lexUS_of o x (aputO E s.dst v) H' h2 g.2
      rw [aget_aputO] at this; exact this
    · simp at h
  | .sem i o, t, E, H, h, hk => by
    simp only [OU.toSU] at h
    split at h
    · rename_i s x h1 h2
      simp only [Option.some.injEq] at h; subst h
      simp only [lexUS, h1]
      obtain ⟨v, hst, hk⟩ := hk
      refine ⟨v, hst, ?_⟩
      have := lexUS_of o x (aputO E s.dst v) H h2 hk
      rw [aget_aputO] at this; exact this
    · simp at h
  | .both a b, t, E, H, h, hk => by
    simp only [OU.toSU] at h
    split at h
    · rename_i x y h1 h2
      simp only [Option.some.injEq] at h; subst h
      exact ⟨lexUS_of a x E H h1 hk.1, lexUS_of b y E H h2 hk.2⟩
    · simp at h
theorem mixU_sound {code : Code} {t : SU} {live : List Nat} (hc : Corr P cx.n code (.mixU t live)) {S : List Blk → Prop} (hS : S H) {E : Env} {Q : SX → Env → List Blk → Prop} (hk : swpU P S t E H fun E' H' => Q .nrm (keep live E') H') (hs : St cx F m (aget E) H a w) :
    code.wp P (Ends cx Q) a w := by
  cases hc with
  | mixU id L os o _ _ hm h hB hl =>
    refine wp_region_any hm ?_
    have h1 := lexUS_of (n := cx.n) o t E H h hk
    have h2 := AAnyS_any _ _ _ _ ((any_lexU o).1 os.size _ _ _ hl hB (fun _ => hS) h1)
    have hs' : St cx F m (aget E) H a w.drew := ⟨hs.defers, hs.size, hs.env, hs.sim.drew, hs.fle, hs.mle⟩
    have h3 := AAny_sound _ _ F m (aget E) H a w.drew hs' h2
    refine AAny_sound.wpAny_mono ?_ _ _ _ _ h3
    rintro x a' w' ⟨rfl, F', m', E', H', ⟨El, rfl, g1⟩, _, _, g2⟩
    exact ⟨.nrm, F', m', _, H', rfl, g1, g2.keep live⟩
theorem mix_sound {code : Code} {t : ST} {live : List Nat} (hc : Corr P cx.n code (.mix t live)) {E : Env} {Q : SX → Env → List Blk → Prop} (hk : swpT P t E H fun E' H' => Q .nrm (keep live E') H') (hs : St cx F m (aget E) H a w) :
    code.wp P (Ends cx Q) a w := by
  cases hc with
  | mix id L os o _ _ hm h hB hl =>
    refine wp_region_any hm ?_
    have h1 := lexTS_of (n := cx.n) o t E H h hk
    have h2 := (any_lexT o).1 os.size _ _ _ hl hB h1
    have hs' : St cx F m (aget E) H a w.drew := ⟨hs.defers, hs.size, hs.env, hs.sim.drew, hs.fle, hs.mle⟩
    have h3 := AAny_sound _ _ F m (aget E) H a w.drew hs' h2
    refine AAny_sound.wpAny_mono ?_ _ _ _ _ h3
    rintro x a' w' ⟨rfl, F', m', E', H', ⟨El, rfl, g1⟩, _, _, g2⟩
    exact ⟨.nrm, F', m', _, H', rfl, g1, g2.keep live⟩
theorem reg_sound {code : Code} {ops : List SOper} {live : List Nat} (hc : Corr P cx.n code (.reg ops live)) {E : Env} {Q : SX → Env → List Blk → Prop} (hk : swpOps P ops E H fun E' H' => Q .nrm (keep live E') H') (hs : St cx F m (aget E) H a w) :
    code.wp P (Ends cx Q) a w := by
  cases hc with
  | reg id os _ _ h =>
    refine wp_region_list ?_
    have h1 := ops_sound (ops := os) os.toList ops E H F m a w h hk hs
    have : ∀ (l : List Oper) (a : Act) (w : World), wpList P os (fun e a' w' => e = .normal ∧ ∃ F' m' E' H', Q .nrm (keep live E') H' ∧ St cx F' m' (aget E') H' a' w') l a w → wpList P os (Ends cx Q) l a w := by
      intro l
      induction l with
      | nil =>
        rintro a w ⟨_, F', m', E', H', g1, g2⟩
        exact ⟨.nrm, F', m', _, H', rfl, g1, g2.keep live⟩
      | cons o l ih =>
        intro a w h
        unfold wpList at h ⊢
        split
        · rename_i hw
          rw [if_pos hw] at h
          rcases h with h | ⟨h2, a0, w0, h3⟩
          · exact .inl (AAny_sound.wp_monoQ (fun x a w g => by
              obtain ⟨rfl, F', m', E', H', g1, g2⟩ := g
              exact ⟨.nrm, F', m', _, H', rfl, g1, g2.keep live⟩) (fun a w g => ih a w g) h)
          · simp at h3
        · rename_i hw; rw [if_neg hw] at h; exact ih _ _ h
    exact this _ _ _ h1
  | draw id L os σ _ _ hm h hB hl =>
    refine wp_region_any hm ?_
    have h1 := lexS_of (n := cx.n) σ ops E H h hk
    have h2 := any_lex σ _ _ _ hB h1
    rw [hl] at h2
    have hs' : St cx F m (aget E) H a w.drew := ⟨hs.defers, hs.size, hs.env, hs.sim.drew, hs.fle, hs.mle⟩
    have h3 := AAny_sound _ _ F m (aget E) H a w.drew hs' h2
    refine AAny_sound.wpAny_mono ?_ _ _ _ _ h3
    rintro x a' w' ⟨rfl, F', m', E', H', ⟨El, rfl, g1⟩, _, _, g2⟩
    exact ⟨.nrm, F', m', _, H', rfl, g1, g2.keep live⟩
end
def SW (P : Program) (n k0 : Nat) (c : SC) (Q : SX → Env → List Blk → Prop) (E : Env) (H : List Blk) : Prop :=
  ∀ code, Corr P n code c → ∀ (cx : Ctx) (F : Fz) (m : List Ent) (a : Act) (w : World), cx.n = n → cx.m0.length = k0 → St cx F m (aget E) H a w → code.wp P (Ends cx Q) a w
def SThen (P : Program) (n k0 : Nat) (b : SC) (Q : SX → Env → List Blk → Prop) : SX → Env → List Blk → Prop
  | .nrm, E, H => SW P n k0 b Q E H
  | x, E, H => Q x E H
def SBlk (id : Nat) (Q : SX → Env → List Blk → Prop) : SX → Env → List Blk → Prop
  | .ext id', E, H => if id' = id then Q .nrm E H else Q (.ext id') E H
  | x, E, H => Q x E H
def Gh (k0 : Nat) (E : Env) (H : List Blk) (E' : Env) (H' : List Blk) : Prop :=
  ∀ (cx : Ctx) (F : Fz) (m : List Ent) (a : Act) (w : World), cx.m0.length = k0 → St cx F m (aget E) H a w → ∃ F' m', St cx F' m' (aget E') H' a w
def SLoop (k0 : Nat) (live : List Nat) (I : Nat → Env → List Blk → Prop) (k : Nat) (Q : SX → Env → List Blk → Prop) : SX → Env → List Blk → Prop
  | .nrm, E, H => ∃ k' E' H', k' < k ∧ Gh k0 (keep live E) H E' H' ∧ I k' E' H'
  | x, E, H => Q x E H
section
variable {P : Program} {n k0 : Nat} {Q : SX → Env → List Blk → Prop} {E : Env} {H : List Blk}
theorem Gh.refl (E : Env) (H : List Blk) : Gh k0 E H E H := fun _ F m _ _ _ h => ⟨F, m, h⟩
theorem Gh.trans {E1 E2 : Env} {H1 H2 : List Blk} (h : Gh k0 E H E1 H1) (k : Gh k0 E1 H1 E2 H2) : Gh k0 E H E2 H2 := by
  intro cx F m a w hk hs
  obtain ⟨F', m', h1⟩ := h cx F m a w hk hs
  exact k cx F' m' a w hk h1
theorem SW.ghost {c : SC} {E' : Env} {H' : List Blk} (h : Gh k0 E H E' H') (hk : SW P n k0 c Q E' H') : SW P n k0 c Q E H := by
  intro code hc cx F m a w hn h0 hs
  obtain ⟨F', m', h1⟩ := h cx F m a w h0 hs
  exact hk code hc cx F' m' a w hn h0 h1
theorem SW.mono {c : SC} {Q' : SX → Env → List Blk → Prop} (hq : ∀ x E H, Q x E H → Q' x E H) (h : SW P n k0 c Q E H) : SW P n k0 c Q' E H := by
  intro code hc cx F m a w hn h0 hs
  refine wp_mono (h code hc cx F m a w hn h0 hs) ?_
  rintro e a' w' ⟨x, F', m', E', H', rfl, g1, g2⟩
  exact ⟨x, F', m', E', H', rfl, hq _ _ _ g1, g2⟩
theorem SW.skip (h : Q .nrm E H) : SW P n k0 .skip Q E H := by
  intro code hc cx F m a w hn h0 hs
  cases hc
  exact wp_skip ⟨.nrm, F, m, E, H, rfl, h, hs⟩
theorem SW.exit {id : Nat} (h : Q (.ext id) E H) : SW P n k0 (.exit id) Q E H := by
  intro code hc cx F m a w hn h0 hs
  cases hc
  exact wp_exit ⟨.ext id, F, m, E, H, rfl, h, hs⟩
theorem SW.ret (h : Q .ret E H) : SW P n k0 .ret Q E H := by
  intro code hc cx F m a w hn h0 hs
  cases hc
  exact wp_ret ⟨.ret, F, m, E, H, rfl, h, hs⟩
theorem SW.reg {ops : List SOper} {live : List Nat} (h : swpOps P ops E H fun E' H' => Q .nrm (keep live E') H') : SW P n k0 (.reg ops live) Q E H := by
  intro code hc cx F m a w hn h0 hs
  subst hn
  exact reg_sound hc h hs
theorem SW.mix {t : ST} {live : List Nat} (h : swpT P t E H fun E' H' => Q .nrm (keep live E') H') : SW P n k0 (.mix t live) Q E H := by
  intro code hc cx F m a w hn h0 hs
  subst hn
  exact mix_sound hc h hs
theorem swpU_mono {S : List Blk → Prop} {K K' : Env → List Blk → Prop} (hq : ∀ E H, K E H → K' E H) : ∀ (t : SU) (E : Env) (H : List Blk), swpU P S t E H K → swpU P S t E H K'
  | .done, E, H, h => hq _ _ h
  | .one s t, E, H, h => aStepV_mono (fun v H' g => ⟨g.1, swpU_mono hq t _ _ g.2⟩) h
  | .sem s t, E, H, ⟨v, h1, h2⟩ => ⟨v, h1, swpU_mono hq t _ _ h2⟩
  | .both a b, E, H, h => ⟨swpU_mono hq a E H h.1, swpU_mono hq b E H h.2⟩
theorem SW.mixU {t : SU} {live : List Nat} (S : List Blk → Prop) (R : Env → List Blk → Prop) (hS : S H) (h : swpU P S t E H R) (hk : ∀ E' H', R E' H' → Q .nrm (keep live E') H') : SW P n k0 (.mixU t live) Q E H := by
  intro code hc cx F m a w hn hk0 hs
  subst hn
  exact mixU_sound hc hS (swpU_mono hk t E H h) hs
theorem swpT_mono {K K' : Env → List Blk → Prop} (hq : ∀ E H, K E H → K' E H) : ∀ (t : ST) (E : Env) (H : List Blk), swpT P t E H K → swpT P t E H K'
  | .done, E, H, h => hq E H h
  | .one s t, E, H, h => aStepV_mono (fun v H' g => swpT_mono hq t _ _ g) h
  | .both a b, E, H, h => ⟨swpT_mono hq a E H h.1, swpT_mono hq b E H h.2⟩
theorem SW.mixR {t : ST} {live : List Nat} (R : Env → List Blk → Prop) (h : swpT P t E H R) (hk : ∀ E' H', R E' H' → Q .nrm (keep live E') H') : SW P n k0 (.mix t live) Q E H := SW.mix (swpT_mono hk t E H h)
theorem SW.seq {x y : SC} (h : SW P n k0 x (SThen P n k0 y Q) E H) : SW P n k0 (.seq x y) Q E H := by
  intro code hc cx F m a w hn h0 hs
  cases hc with
  | seq c1 c2 _ _ h1 h2 =>
    refine wp_seq (wp_mono (h c1 h1 cx F m a w hn h0 hs) ?_)
    rintro e a' w' ⟨x, F', m', E', H', rfl, g1, g2⟩
    cases x with
    | nrm => exact g1 c2 h2 cx F' m' a' w' hn h0 g2
    | ext id => exact ⟨.ext id, F', m', E', H', rfl, g1, g2⟩
    | ret => exact ⟨.ret, F', m', E', H', rfl, g1, g2⟩
theorem SW.cond {c : Operand} {x y : SC} {t : Bool} (hc : ev (aget E) c = Bv t) (h1 : t = true → SW P n k0 x Q E H) (h2 : t = false → SW P n k0 y Q E H) : SW P n k0 (.cond c x y) Q E H := by
  intro code hcorr cx F m a w hn h0 hs
  cases hcorr with
  | cond _ c1 c2 _ _ g1 g2 =>
    have hr := hs.ev c
    rw [hc] at hr
    have hv := hr.lit_inv
    exact wp_cond_split hv (fun ht => h1 ht c1 g1 cx F m a w hn h0 hs) (fun ht => h2 ht c2 g2 cx F m a w hn h0 hs)
theorem SW.block {id : Nat} {x : SC} (h : SW P n k0 x (SBlk id Q) E H) : SW P n k0 (.block id x) Q E H := by
  intro code hc cx F m a w hn h0 hs
  cases hc with
  | block _ c _ hc' =>
    refine wp_block (wp_mono (h c hc' cx F m a w hn h0 hs) ?_)
    rintro e a' w' ⟨x, F', m', E', H', rfl, g1, g2⟩
    cases x with
    | nrm => exact ⟨.nrm, F', m', E', H', rfl, g1, g2⟩
    | ret => exact ⟨.ret, F', m', E', H', rfl, g1, g2⟩
    | ext id' =>
      simp only [SX.exit, Exit.inBlock]
      simp only [SBlk] at g1
      split
      · rename_i hid; rw [if_pos hid] at g1; exact ⟨.nrm, F', m', E', H', rfl, g1, g2⟩
      · rename_i hid; rw [if_neg hid] at g1; exact ⟨.ext id', F', m', E', H', rfl, g1, g2⟩
theorem wp_loop_rel {c : Code} {Q : Exit → Act → World → Prop} (R : Nat → Act → World → Prop) (round : ∀ k a w, R k a w → c.wp P (Exit.then (fun a' w' => ∃ k', k' < k ∧ R k' a' w') Q) a w) {k : Nat} {a : Act} {w : World} (h : R k a w) : (Code.loop c).wp P Q a w := by
  intro b kk cs
  have key : ∀ k a w, R k a w → ∃ e a' w', Q e a' w' ∧ Arrives P (lone (b.at a (.code c :: .inLoop c :: kk)) cs w) b kk cs e a' w' := by
    intro k
    induction k using Nat.strongRecOn with
    | _ k ih =>
      intro a w hR
      obtain ⟨e, a₁, w₁, hq, harr⟩ := round k a w hR b (.inLoop c :: kk) cs
      cases e with
      | normal =>
        obtain ⟨k', hlt, hR'⟩ := hq
        obtain ⟨e₂, a₂, w₂, hq₂, harr₂⟩ := ih k' hlt a₁ w₁ hR'
        exact ⟨e₂, a₂, w₂, hq₂, .of_steps (Steps.trans harr (.one step_inLoop)) harr₂⟩
      | exit id => exact ⟨_, a₁, w₁, hq, .pass (x := .inLoop c) rfl (fun _ _ => .inl (by simp)) harr⟩
      | goto l => exact ⟨_, a₁, w₁, hq, .pass (x := .inLoop c) rfl (fun _ _ => .inl (by simp)) harr⟩
      | ret => exact ⟨_, a₁, w₁, hq, .pass (x := .inLoop c) rfl (fun _ _ => .inl (by simp)) harr⟩
      | panic ch => exact ⟨_, a₁, w₁, hq, .pass (x := .inLoop c) rfl (fun _ _ => .inl (by simp)) harr⟩
      | outgrown => exact ⟨_, a₁, w₁, hq, .pass (x := .inLoop c) rfl (fun _ _ => .inl (by simp)) harr⟩
  obtain ⟨e, a', w', hq, harr⟩ := key k a w h
  exact ⟨e, a', w', hq, .of_steps (.one step_loop) harr⟩
theorem SW.loop {live : List Nat} {x : SC} (I : Nat → Env → List Blk → Prop) (k : Nat) (h : I k (keep live E) H) (round : ∀ k E H, I k E H → SW P n k0 x (SLoop k0 live I k Q) E H) : SW P n k0 (.loop live x) Q E H := by
  intro code hc cx F m a w hn h0 hs
  cases hc with
  | loop _ c _ hc' =>
    refine wp_loop_rel (P := P) (fun k a w => ∃ F m E H, I k E H ∧ St cx F m (aget E) H a w) ?_ (k := k) ⟨F, m, _, H, h, hs.keep live⟩
    rintro k a w ⟨F, m, E, H, hI, hs⟩
    refine wp_mono (round k E H hI c hc' cx F m a w hn h0 hs) ?_
    rintro e a' w' ⟨x, F', m', E', H', rfl, g1, g2⟩
    cases x with
    | nrm =>
      obtain ⟨k', E2, H2, hlt, hg, hI'⟩ := g1
      obtain ⟨F2, m2, h2⟩ := hg cx F' m' a' w' h0 (g2.keep live)
      exact ⟨k', hlt, F2, m2, E2, H2, hI', h2⟩
    | ext id => exact ⟨.ext id, F', m', E', H', rfl, g1, g2⟩
    | ret => exact ⟨.ret, F', m', E', H', rfl, g1, g2⟩
end
def orderGo (P : Program) (n : Nat) (L : List Nat) (ops : Array Oper) : Nat → Array Bool → List Nat → List Nat
  | 0, _, acc => acc.reverse
  | f + 1, listed, acc =>
    let rs := Region.ready .any ops listed
    match (rs.find? fun i => match ssOf P n L ops i with | some s => decide (s.op.kind ≤ 1) | none => false) with
    | some i => orderGo P n L ops f (listed.setIfInBounds i true) (i :: acc)
    | none => match rs with
      | i :: _ => orderGo P n L ops f (listed.setIfInBounds i true) (i :: acc)
      | [] => acc.reverse
def orderT (P : Program) (n : Nat) (L : List Nat) (ops : Array Oper) : Nat → Array Bool → OT
  | 0, _ => .done
  | f + 1, listed =>
    let rs := Region.ready .any ops listed
    match rs.find? (firstB P n L ops listed) with
    | some i => .one i (orderT P n L ops f (listed.setIfInBounds i true))
    | none => match rs with
      | [] => .done
      | i :: r => r.foldl (fun acc j => .both acc (.one j (orderT P n L ops f (listed.setIfInBounds j true)))) (.one i (orderT P n L ops f (listed.setIfInBounds i true)))
def orderU (P : Program) (n : Nat) (L : List Nat) (ops : Array Oper) : Nat → Array Bool → OU
  | 0, _ => .done
  | f + 1, listed =>
    let rs := Region.ready .any ops listed
    match if rs.length == 1 then none else rs.find? (semB P n L ops listed) with
    | some i => .sem i (orderU P n L ops f (listed.setIfInBounds i true))
    | none => match rs with
      | [] => .done
      | i :: r => r.foldl (fun acc j => .both acc (.one j (orderU P n L ops f (listed.setIfInBounds j true)))) (.one i (orderU P n L ops f (listed.setIfInBounds i true)))
def loudOf : List Nat → List Nat × List Nat
  | [] => ([], [])
  | k :: r => match loudOf r with
    | (a, b) => if 1000000 ≤ k then ((k - 1000000) :: a, b) else (a, k :: b)
def strip (P : Program) (n : Nat) : Code → List (List Nat) → Option (SC × List (List Nat))
  | .skip, az => some (.skip, az)
  | .region _ ops false, az => match az, ops.toList.mapM (SOper.of P n false ops) with
    | live :: as', some sl => some (.reg sl live, as')
    | _, _ => none
  | .region _ ops true, az => match az with
    | live0 :: as' => match loudOf live0 with
      | (L, live) => if L.contains 5000 then (match orderU P n L ops ops.size (Array.replicate ops.size false) with
        | o => match o.toSU P n L ops with
          | some t => if P.follows .mixedOrders && lexUB P n L ops false o (Array.replicate ops.size false) && decide (o.height ≤ ops.size) then some (.mixU t live, as') else none
          | none => none) else match orderGo P n L ops ops.size (Array.replicate ops.size false) [] with
        | σ => match σ.mapM (ssOf P n L ops) with
          | some sl => if P.follows .mixedOrders && lexB P n L ops σ (Array.replicate ops.size false) && σ.length == ops.size then some (.reg sl live, as') else match orderT P n L ops ops.size (Array.replicate ops.size false) with
            | o => match o.toST P n L ops with
              | some t => if P.follows .mixedOrders && lexTB P n L ops false o (Array.replicate ops.size false) && decide (o.height ≤ ops.size) then some (.mix t live, as') else none
              | none => none
          | none => none
    | [] => none
  | .seq a b, az => match strip P n a az with
    | some (x, as') => match strip P n b as' with
      | some (y, as'') => some (.seq x y, as'')
      | none => none
    | none => none
  | .cond c a b, az => match strip P n a az with
    | some (x, as') => match strip P n b as' with
      | some (y, as'') => some (.cond c x y, as'')
      | none => none
    | none => none
  | .block id c, az => match strip P n c az with
    | some (x, as') => some (.block id x, as')
    | none => none
  | .loop c, az => match az with
    | live :: as' => match strip P n c as' with
      | some (x, as'') => some (.loop live x, as'')
      | none => none
    | [] => none
  | .exit id, az => some (.exit id, az)
  | .ret, az => some (.ret, az)
  | _, _ => none
theorem strip_sound {P : Program} {n : Nat} : ∀ {c : Code} {az as' : List (List Nat)} {x : SC}, strip P n c az = some (x, as') → Corr P n c x := by
  intro c
  induction c with
  | skip => intro az as' x h; simp only [strip, Option.some.injEq, Prod.mk.injEq] at h; rw [← h.1]; exact .skip
  | region id ops d =>
    intro az as' x h
    cases d
    · simp only [strip] at h
      split at h
      · rename_i live as'' sl hsl
        simp only [Option.some.injEq, Prod.mk.injEq] at h; rw [← h.1]; exact .reg id ops sl live hsl
      · simp at h
    · simp only [strip] at h
      split at h
      · rename_i live0 as''
        split at h
        · split at h
          · rename_i tt ht
            split at h
            · rename_i hc
              simp only [Bool.and_eq_true, decide_eq_true_eq] at hc
              simp only [Option.some.injEq, Prod.mk.injEq] at h; rw [← h.1]; exact .mixU id _ ops _ tt _ hc.1.1 ht hc.1.2 hc.2
            · simp at h
          · simp at h
        split at h
        · rename_i sl hsl
          split at h
          · rename_i hc
            simp only [Bool.and_eq_true, beq_iff_eq] at hc
            simp only [Option.some.injEq, Prod.mk.injEq] at h; rw [← h.1]; exact .draw id _ ops _ sl _ hc.1.1 hsl hc.1.2 hc.2
          · split at h
            · rename_i tt ht
              split at h
              · rename_i hc
                simp only [Bool.and_eq_true, decide_eq_true_eq] at hc
                simp only [Option.some.injEq, Prod.mk.injEq] at h; rw [← h.1]; exact .mix id _ ops _ tt _ hc.1.1 ht hc.1.2 hc.2
              · simp at h
            · simp at h
        · simp at h
      · simp at h
  | seq a b iha ihb =>
    intro az as' x h
    simp only [strip] at h
    split at h
    · rename_i y as1 h1
      split at h
      · rename_i z as2 h2
        simp only [Option.some.injEq, Prod.mk.injEq] at h; rw [← h.1]; exact .seq _ _ _ _ (iha h1) (ihb h2)
      · simp at h
    · simp at h
  | cond c a b iha ihb =>
    intro az as' x h
    simp only [strip] at h
    split at h
    · rename_i y as1 h1
      split at h
      · rename_i z as2 h2
        simp only [Option.some.injEq, Prod.mk.injEq] at h; rw [← h.1]; exact .cond _ _ _ _ _ (iha h1) (ihb h2)
      · simp at h
    · simp at h
  | block id c ih =>
    intro az as' x h
    simp only [strip] at h
    split at h
    · rename_i y as1 h1
      simp only [Option.some.injEq, Prod.mk.injEq] at h; rw [← h.1]; exact .block _ _ _ (ih h1)
    · simp at h
  | loop c ih =>
    intro az as' x h
    simp only [strip] at h
    split at h
    · rename_i live as1
      split at h
      · rename_i y as2 h1
        simp only [Option.some.injEq, Prod.mk.injEq] at h; rw [← h.1]; exact .loop _ _ _ (ih h1)
      · simp at h
    · simp at h
  | exit id => intro az as' x h; simp only [strip, Option.some.injEq, Prod.mk.injEq] at h; rw [← h.1]; exact .exit id
  | ret => intro az as' x h; simp only [strip, Option.some.injEq, Prod.mk.injEq] at h; rw [← h.1]; exact .ret
  | rangeFunc => intro az as' x h; simp [strip] at h
  | scope => intro az as' x h; simp [strip] at h
  | label => intro az as' x h; simp [strip] at h
  | goto => intro az as' x h; simp [strip] at h
  | refuse => intro az as' x h; simp [strip] at h
end Go.Av
namespace Go.Av
variable [Go.Av.DoorC]
open Go.RowKit
inductive RV where
  | tmp (t : Nat)
  | cell (t : Nat) (c : Nat)
def rvOf (P : Program) : ResultVar → Option RV
  | .tmp t => some (.tmp t)
  | .cell a t => match P.info? t, P.underlying t with
    | some i, some d => if isAggD d && decide (0 < i.size) then some (.cell a i.size) else none
    | _, _ => none
def rvAV (E : Env) (H : List Blk) : RV → Option AV
  | .tmp t => some (aget E t)
  | .cell t c => match acells H c (aget E t) with
    | some cs => some (.agg cs)
    | none => none
def rvsAV (E : Env) (H : List Blk) (rs : List RV) : Option AV :=
  match rs.mapM (rvAV E H) with
  | some [v] => some v
  | some vs => some (.tup vs)
  | none => none
def GR (H0 : List Blk) (R : AV → List Blk → Prop) (r : AV) (H : List Blk) : Prop :=
  ∀ (B : Nat) (W0 : World) (F0 : Fz) (m0 : List Ent) (w0 : World) (F : Fz) (m : List Ent) (w : World) (v : Value), Sim B W0 F0 m0 H0 w0 → FLe F0 F → MLe m0 m → Rel F m r v → Sim B W0 F m H w →
    ∃ F' m' r' H', FLe F0 F' ∧ MLe m0 m' ∧ Rel F' m' r' v ∧ Sim B W0 F' m' H' w ∧ R r' H'
def argEnv : Nat → List AV → Env
  | _, [] => []
  | k, v :: vs => (k, v) :: argEnv (k + 1) vs
theorem aget_argEnv (vs : List AV) : ∀ (k j : Nat), aget (argEnv k vs) j = if k ≤ j then vs.getD (j - k) .junk else .junk := by
  induction vs with
  | nil => intro k j; simp [argEnv, aget]
  | cons v vs ih =>
    intro k j
    simp only [argEnv, aget, ih]
    by_cases h1 : j = k
    · subst h1; simp
    · by_cases h2 : k ≤ j
      · have h3 : k + 1 ≤ j := by omega
        have h4 : j - k = (j - (k + 1)) + 1 := by omega
        simp [h1, h2, h3, h4]
      · have h3 : ¬ k + 1 ≤ j := by omega
        simp [h1, h2, h3]
def FunPost (rs : List RV) (H0 : List Blk) (R : AV → List Blk → Prop) : SX → Env → List Blk → Prop
  | .ext _, _, _ => False
  | _, E, H => ∃ r, rvsAV E H rs = some r ∧ GR H0 R r H
def resSem (tmps : Array Value) : ResultVar → Sem Value
  | .tmp t => pure (tmps.getD t undef)
  | .cell a t => do loadVar t (← asAddr (tmps.getD a undef))
section
variable {P : Program}
theorem results_sound {cx : Ctx} {F : Fz} {m : List Ent} {E : Env} {H : List Blk} {a : Act} {w : World} (hs : St cx F m (aget E) H a w) :
    ∀ (vs : List ResultVar) (rs : List RV) (avs : List AV), vs.mapM (rvOf P) = some rs → rs.mapM (rvAV E H) = some avs →
      ∃ us : List Value, (vs.mapM (resSem a.tmps)).run P w = .ok us w ∧ Rels F m avs us
  | [], rs, avs, h1, h2 => by
    simp at h1; subst h1; simp at h2; subst h2
    exact ⟨[], rfl, Rels.nil _ _⟩
  | x :: vs, rs, avs, h1, h2 => by
    obtain ⟨r, rs', rfl, g1, g2⟩ := mapM_cons_some h1
    obtain ⟨v, avs', rfl, k1, k2⟩ := mapM_cons_some h2
    obtain ⟨us, j1, j2⟩ := results_sound hs vs rs' avs' g2 k2
    have one : ∃ u, (resSem a.tmps x).run P w = .ok u w ∧ Rel F m v u := by
      cases x with
      | tmp t =>
        simp only [rvOf, Option.some.injEq] at g1
        subst g1
        simp only [rvAV, Option.some.injEq] at k1
        subst k1
        exact ⟨_, rfl, hs.env t⟩
      | cell t ty =>
        simp only [rvOf] at g1
        split at g1
        case h_2 => simp at g1
        case h_1 i d hi hd =>
          split at g1
          case isFalse => simp at g1
          case isTrue hc =>
            simp only [Bool.and_eq_true, decide_eq_true_eq] at hc
            simp only [Option.some.injEq] at g1
            subst g1
            simp only [rvAV] at k1
            split at k1
            case h_2 => simp at k1
            case h_1 cs hcs =>
              simp only [Option.some.injEq] at k1
              subst k1
              obtain ⟨b, of, us, hp, hr, hl, hcells⟩ := acells_sound hs.sim (hs.env t) hcs hc.2
              refine ⟨.agg us.toArray, ?_, .agg cs us hr.1 hr.2⟩
              have hlv : us.length = i.size := by rw [← hr.1, hl]
              have hrun := run_loadCells_list (P := P) w ⟨b, of, none⟩ us (fun j v hj => by rw [Addr.add_none]; exact (hcells j v hj).1)
              rw [hlv] at hrun
              have hp' : a.tmps.getD t undef = Value.pointer (some ⟨b, of, none⟩) := hp
              simp only [resSem, hp', asAddr, Sem.run_bind, Sem.run_pure, Result.andThen_ok, loadVar, run_isAgg' hd, hc.1, if_true, run_sizeOf' hi, hrun]
    obtain ⟨u, o1, o2⟩ := one
    refine ⟨u :: us, ?_, Rels.cons o2 j2⟩
    rw [List.mapM_cons, Sem.run_bind, o1, Result.andThen_ok, Sem.run_bind, j1, Result.andThen_ok, Sem.run_pure]
theorem ACalls_of {f : FuncId} {fn : Func} {code : Code} {sc : SC} {rs : List RV} {args : List AV} {H : List Blk} {R : AV → List Blk → Prop} (hf : P.funcs[f]? = some fn) (hb : fn.body = some code) (hc : Corr P fn.ntmps code sc)
    (hrs : fn.results.toList.mapM (rvOf P) = some rs) (hl : args.length ≤ fn.ntmps) (h : SW P fn.ntmps H.length sc (FunPost rs H R) (argEnv 0 args) H) : ACalls P f args H R := by
  intro B W0 F m w vs hr hsim
  refine calls_of_wp hf hb ?_
  have hlv : vs.length = args.length := hr.1.symm
  have hs : St ⟨B, W0, F, m, fn.ntmps⟩ F m (aget (argEnv 0 args)) H { tmps := vs.toArray ++ Array.replicate (fn.ntmps - vs.toArray.size) undef, defers := [] } w := by
    refine ⟨rfl, by simp; omega, ?_, hsim, FLe.refl _, MLe.refl _⟩
    intro k
    rw [aget_argEnv]
    simp only [Nat.zero_le, if_true, Nat.sub_zero]
    by_cases hk : k < args.length
    · have h1 : args.getD k .junk = args[k] := by simp [List.getD, List.getElem?_eq_getElem hk]
      have hk' : k < vs.length := by omega
      have h2 : (vs.toArray ++ Array.replicate (fn.ntmps - vs.toArray.size) undef).getD k undef = vs[k] := by
        simp [Array.getElem?_append, hk']
      rw [h1, h2]
      exact hr.2 k _ _ (List.getElem?_eq_getElem hk) (List.getElem?_eq_getElem hk')
    · have h1 : args.getD k .junk = .junk := by simp [List.getD, List.getElem?_eq_none (Nat.le_of_not_lt hk)]
      rw [h1]; exact .junk _
  refine wp_mono (h code hc ⟨B, W0, F, m, fn.ntmps⟩ F m _ w rfl hsim.len hs) ?_
  rintro e a' w' ⟨x, F', m', E', H', rfl, hq, hs'⟩
  have fin : (∃ r, rvsAV E' H' rs = some r ∧ GR H R r H') → a'.defers = [] ∧ ∃ v, (results fn a'.tmps).run P w' = .ok v w' ∧
      ∃ F' m' H' r u, Ending.returned v = .returned u ∧ FLe F F' ∧ MLe m m' ∧ Rel F' m' r u ∧ Sim B W0 F' m' H' w' ∧ R r H' := by
    rintro ⟨r, hr1, hg⟩
    unfold rvsAV at hr1
    cases hm : rs.mapM (rvAV E' H') with
    | none => simp [hm] at hr1
    | some avs =>
      obtain ⟨us, hrun, hrels⟩ := results_sound (P := P) hs' _ _ _ hrs hm
      have hres : (results fn a'.tmps).run P w' = .ok (if h : us.length = 1 then us[0] else .tuple us.toArray) w' := by
        have e1 : results fn a'.tmps = (do let vs ← fn.results.mapM (resSem a'.tmps); pure (if h : vs.size = 1 then vs[0] else .tuple vs)) := rfl
        rw [e1, Sem.run_bind, Array.mapM_eq_mapM_toList, Sem.run_map, hrun]
        simp only [Result.andThen_ok, Sem.run_pure]
        congr 1
      refine ⟨hs'.defers, _, hres, ?_⟩
      have hrel : Rel F' m' r (if h : us.length = 1 then us[0] else .tuple us.toArray) := by
        rw [hm] at hr1
        match avs, hrels with
        | [], hrels =>
          have := hrels.inv_nil; subst this
          simp only [Option.some.injEq] at hr1; subst hr1
          exact .tup [] [] rfl (fun j c v h => by simp at h)
        | [v], hrels =>
          obtain ⟨u, us', rfl, h1, h2⟩ := hrels.inv_cons
          have := h2.inv_nil; subst this
          simp only [Option.some.injEq] at hr1; subst hr1
          simpa using h1
        | v1 :: v2 :: vs', hrels =>
          simp only [Option.some.injEq] at hr1; subst hr1
          have hne : us.length ≠ 1 := by rw [← hrels.1]; simp
          rw [dif_neg hne]
          exact .tup _ us hrels.1 hrels.2
      obtain ⟨F2, m2, r', H2, g1, g2, g3, g4, g5⟩ := hg B W0 F m w F' m' w' _ hsim hs'.fle hs'.mle hrel hs'.sim
      exact ⟨F2, m2, H2, r', _, rfl, g1, g2, g3, g4, g5⟩
  cases x with
  | nrm => exact fin hq
  | ret => exact fin hq
  | ext id => exact hq.elim
theorem GR.of {H0 : List Blk} {R : AV → List Blk → Prop} {r : AV} {H : List Blk} (h : R r H) : GR H0 R r H :=
  fun _ _ _ _ _ F m _ _ _ hF hm hr hs => ⟨F, m, r, H, hF, hm, hr, hs, h⟩
inductive Bel (k : Nat) : AV → Prop
  | lit (v : Value) : Bel k (.lit v)
  | junk : Bel k .junk
  | il (len : Nat) (cells : List AV) (h : ∀ c ∈ cells, Bel k c) : Bel k (.il len cells)
  | nm (i ver off len : Nat) (h : i < k) : Bel k (.nm i ver off len)
  | pc (i ver off : Nat) (h : i < k) : Bel k (.pc i ver off)
  | mp (i ver : Nat) (h : i < k) : Bel k (.mp i ver)
  | el (s : AV) (j : Nat) (h : Bel k s) : Bel k (.el s j)
  | agg (cs : List AV) (h : ∀ c ∈ cs, Bel k c) : Bel k (.agg cs)
  | tup (cs : List AV) (h : ∀ c ∈ cs, Bel k c) : Bel k (.tup cs)
  | fn (f : FuncId) (cs : List AV) (h : ∀ c ∈ cs, Bel k c) : Bel k (.fn f cs)
section
variable {B : Nat} {W0 : World} {F : Fz} {m : List Ent} {H : List Blk} {w : World}
theorem Rel.bel {c : AV} {v : Value} (h : Rel F m c v) : Bel m.length c := by
  have mem : ∀ {cs : List AV} {vs : List Value}, cs.length = vs.length → (∀ (j : Nat) (c : AV) (v : Value), cs[j]? = some c → vs[j]? = some v → Bel m.length c) → ∀ c ∈ cs, Bel m.length c := by
    intro cs vs h1 h2 c hc
    obtain ⟨j, hj⟩ := List.getElem?_of_mem hc
    have hlt : j < vs.length := by rw [← h1]; exact (List.getElem?_eq_some_iff.1 hj).1
    exact h2 j c _ hj (List.getElem?_eq_getElem hlt)
  induction h with
  | lit v => exact .lit v
  | junk v => exact .junk
  | il0 => exact .il 0 [] (fun c h => by simp at h)
  | il1 => exact .il 0 [] (fun c h => by simp at h)
  | il len cells b o cap vs h1 h2 h3 h4 _ ih => exact .il _ _ (mem h3 ih)
  | nm i ver off len e a n cap h1 h2 h3 => exact .nm _ _ _ _ (List.getElem?_eq_some_iff.1 h1).1
  | pc i ver off e p h1 h2 h3 => exact .pc _ _ _ (List.getElem?_eq_some_iff.1 h1).1
  | mp i ver e p h1 h2 h3 => exact .mp _ _ (List.getElem?_eq_some_iff.1 h1).1
  | el s k sv p _ h2 ih => exact .el _ _ ih
  | agg cs vs h1 _ ih => exact .agg _ (mem h1 ih)
  | tup cs vs h1 _ ih => exact .tup _ (mem h1 ih)
  | fn f cs vs h1 _ ih => exact .fn _ _ (mem h1 ih)
theorem Rel.take {c : AV} {v : Value} (h : Rel F m c v) {k : Nat} (hb : Bel k c) : Rel F (m.take k) c v := by
  induction h with
  | lit v => exact .lit v
  | junk v => exact .junk v
  | il0 => exact .il0
  | il1 ad => exact .il1 ad
  | il len cells b o cap vs h1 h2 h3 h4 _ ih =>
    cases hb with
    | il _ _ hb => exact .il len cells b o cap vs h1 h2 h3 h4 (fun j c v g1 g2 => ih j c v g1 g2 (hb c (List.mem_of_getElem? g1)))
  | nm i ver off len e a n cap h1 h2 h3 =>
    cases hb with
    | nm _ _ _ _ hb => exact .nm i ver off len e a n cap (by rw [List.getElem?_take_of_lt hb]; exact h1) h2 h3
  | pc i ver off e p h1 h2 h3 =>
    cases hb with
    | pc _ _ _ hb => exact .pc i ver off e p (by rw [List.getElem?_take_of_lt hb]; exact h1) h2 h3
  | mp i ver e p h1 h2 h3 =>
    cases hb with
    | mp _ _ hb => exact .mp i ver e p (by rw [List.getElem?_take_of_lt hb]; exact h1) h2 h3
  | el s j sv p _ h2 ih =>
    cases hb with
    | el _ _ hb => exact .el s j sv p (ih hb) h2
  | agg cs vs h1 _ ih =>
    cases hb with
    | agg _ hb => exact .agg cs vs h1 (fun j c v g1 g2 => ih j c v g1 g2 (hb c (List.mem_of_getElem? g1)))
  | tup cs vs h1 _ ih =>
    cases hb with
    | tup _ hb => exact .tup cs vs h1 (fun j c v g1 g2 => ih j c v g1 g2 (hb c (List.mem_of_getElem? g1)))
  | fn f cs vs h1 _ ih =>
    cases hb with
    | fn _ _ hb => exact .fn f cs vs h1 (fun j c v g1 g2 => ih j c v g1 g2 (hb c (List.mem_of_getElem? g1)))
theorem entCells_lit {es : Array MapEntry} {c : AV} (h : c ∈ entCells es) : ∃ v, c = .lit v := by
  obtain ⟨x, _, h⟩ := List.mem_flatMap.1 h
  simp only [List.mem_cons, List.not_mem_nil, or_false] at h
  rcases h with rfl | rfl <;> exact ⟨_, rfl⟩
theorem Sim.take (h : Sim B W0 F m H w) {k : Nat} (hb : ∀ b ∈ H.take k, ∀ c ∈ b.cells, Bel k c) : Sim B W0 F (m.take k) (H.take k) w := by
  have sub : ∀ {i : Nat} {e : Ent}, (m.take k)[i]? = some e → m[i]? = some e := by
    intro i e he
    rw [List.getElem?_take] at he
    split at he
    · exact he
    · simp at he
  refine ⟨by simp [h.len], h.below, h.base, h.fz, fun i e b o v he => h.apart i e b o v (sub he), fun i j e e' b he he' => h.dist i j e e' b (sub he) (sub he'), ?_, h.glob⟩
  intro i e kk he hk
  have hk' : H[i]? = some kk := by
    rw [List.getElem?_take] at hk
    split at hk
    · exact hk
    · simp at hk
  obtain ⟨g1, g2, g3, g4, g5⟩ := h.blk i e kk (sub he) hk'
  refine ⟨g1, g2, g3, g4, fun b hbk => ?_⟩
  obtain ⟨o1, ⟨o0, arr, o2, o3, o4, o5, o6⟩ | o7⟩ := g5 b hbk
  · exact ⟨o1, .inl ⟨o0, arr, o2, o3, o4, fun j c v x y => (o5 j c v x y).take (hb kk (List.mem_of_getElem? hk) c (List.mem_of_getElem? x)), o6⟩⟩
  · exact ⟨o1, .inr o7⟩
theorem Sim.bel (h : Sim B W0 F m H w) : ∀ b ∈ H, ∀ c ∈ b.cells, Bel H.length c := by
  intro k hk c hc
  obtain ⟨i, hi⟩ := List.getElem?_of_mem hk
  obtain ⟨e, he, hok⟩ := h.get hi
  obtain ⟨j, hj⟩ := List.getElem?_of_mem hc
  cases hb : e.blk with
  | none => have := (hok.2.2.2.1 hb).1; rw [this] at hc; simp at hc
  | some b =>
    obtain ⟨_, ⟨_, arr, _, hs, hl, hr, _⟩ | ⟨_, es, clock, _, hce⟩⟩ := hok.2.2.2.2 b hb
    · have hlt : j < arr.size := by have := (List.getElem?_eq_some_iff.1 hj).1; omega
      rw [← h.len]
      exact (hr j c _ hj (Array.getElem?_eq_getElem hlt)).bel
    · rw [hce] at hc
      obtain ⟨v, rfl⟩ := entCells_lit hc
      exact .lit v
theorem GR.drop {H0 ext : List Blk} {R : AV → List Blk → Prop} {r : AV} (hb : Bel H0.length r) (h : R r H0) : GR H0 R r (H0 ++ ext) := by
  intro B W0 F0 m0 w0 F m w v hs0 hF hm hr hs
  have h1 := hs.take (k := H0.length) (by
    rw [List.take_left]
    exact hs0.bel)
  rw [List.take_left] at h1
  exact ⟨F, m.take H0.length, r, H0, hF, hm.take (by rw [hs0.len]; exact Nat.le_refl _), hr.take hb, h1, h⟩
def frz1 (i ver : Nat) (sz : Nat) (cells : List AV) : AV → AV
  | .nm j v off len => if j = i ∧ v = ver then .il len ((cells.drop off).take (len * sz)) else .nm j v off len
  | c => c
def frz2 (i ver : Nat) (sz : Nat) (cells : List AV) : AV → AV
  | .agg cs => .agg (cs.map (frz1 i ver sz cells))
  | c => frz1 i ver sz cells c
def frz3 (i ver : Nat) (sz : Nat) (cells : List AV) : AV → AV
  | .tup cs => .tup (cs.map (frz2 i ver sz cells))
  | c => frz2 i ver sz cells c
def frzH (i ver : Nat) (sz : Nat) (cells : List AV) (H : List Blk) : List Blk :=
  (H.map fun b => { b with cells := b.cells.map (frz1 i ver sz cells) }).set i ⟨ver + 1, 0, sz, []⟩
theorem frz_core (h : Sim B W0 F m H w) {i : Nat} {k : Blk} (hk : H[i]? = some k) : ∃ F' m', FLe F F' ∧ MLe m m' ∧ Sim B W0 F' m' (frzH i k.ver k.sz k.cells H) w ∧
    ∀ (c : AV) (v : Value), Rel F m c v → Rel F' m' (frz1 i k.ver k.sz k.cells c) v := by
  obtain ⟨e, he, hok⟩ := h.get hk
  have hm : MLe m (m.set i ⟨none, 0, 0, k.sz, k.ver + 1⟩) := MLe.set he (.inr (by rw [hok.1]; exact Nat.lt_succ_self _))
  have hlt : i < m.length := (List.getElem?_eq_some_iff.1 he).1
  have hrel : ∀ (c : AV) (v : Value), Rel F m c v → Rel (fun b o v => F b o v ∨ (e.blk = some b ∧ o < k.cells.length ∧ w.cell? ⟨b, o, none⟩ = some v)) (m.set i ⟨none, 0, 0, k.sz, k.ver + 1⟩) (frz1 i k.ver k.sz k.cells c) v := by
    intro c v hr
    have hF : FLe F (fun b o v => F b o v ∨ (e.blk = some b ∧ o < k.cells.length ∧ w.cell? ⟨b, o, none⟩ = some v)) := fun b o v hf => .inl hf
    cases hr with
    | nm j ver off len e' a n' cap h1 h2 h3 =>
      simp only [frz1]
      split
      · rename_i hc
        obtain ⟨rfl, rfl⟩ := hc
        rw [he] at h1; cases h1
        obtain ⟨cap', g1, g2, g3⟩ := h3 hok.1.symm
        rcases g3 with ⟨b, hb, hv, hsz, hnz⟩ | ⟨hb, hv, hl0, ho0⟩
        · rw [hv]
          obtain ⟨vs, r1, r2⟩ := h.row hok hnz hb off ((k.cells.drop off).take (len * k.sz)) (fun q c hq => by
            rw [List.getElem?_take] at hq
            split at hq
            · rw [List.getElem?_drop] at hq; exact hq
            · simp at hq)
          refine .il len _ b off cap' vs g1 g2 r1.1 ?_ (fun q c v x y => (r1.2 q c v x y).mono hF hm)
          intro q v hq
          right
          refine ⟨hb, ?_, (r2 q v hq).1⟩
          have hq2 := (List.getElem?_eq_some_iff.1 hq).1
          rw [← r1.1] at hq2
          simp only [List.length_take, List.length_drop] at hq2
          omega
        · obtain ⟨q, hv⟩ := hv
          rw [hv]
          subst hl0
          simp
          cases q with
          | none => exact .il0
          | some ad => exact .il1 ad
      · rename_i hc
        exact (Rel.nm j ver off len e' a n' cap h1 h2 h3).mono hF hm
    | lit v => exact .lit v
    | junk v => exact .junk v
    | il0 => exact .il0
    | il1 ad => exact .il1 ad
    | il len cells b o cap vs h1 h2 h3 h4 h5 => exact (Rel.il len cells b o cap vs h1 h2 h3 h4 h5).mono hF hm
    | pc j ver off e' p h1 h2 h3 => exact (Rel.pc j ver off e' p h1 h2 h3).mono hF hm
    | mp j ver e' p h1 h2 h3 => exact (Rel.mp j ver e' p h1 h2 h3).mono hF hm
    | el s j sv p h1 h2 => exact (Rel.el s j sv p h1 h2).mono hF hm
    | agg cs vs h1 h2 => exact (Rel.agg cs vs h1 h2).mono hF hm
    | tup cs vs h1 h2 => exact (Rel.tup cs vs h1 h2).mono hF hm
    | fn f cs vs h1 h2 => exact (Rel.fn f cs vs h1 h2).mono hF hm
  have sub : ∀ {j : Nat} {x : Ent} {b : Nat}, (m.set i ⟨none, 0, 0, k.sz, k.ver + 1⟩)[j]? = some x → x.blk = some b → i ≠ j ∧ m[j]? = some x := by
    intro j x b hj hb
    by_cases hij : i = j
    · subst hij
      rw [List.getElem?_set_self hlt] at hj
      cases hj
      simp at hb
    · rw [List.getElem?_set_ne hij] at hj
      exact ⟨hij, hj⟩
  refine ⟨fun b o v => F b o v ∨ (e.blk = some b ∧ o < k.cells.length ∧ w.cell? ⟨b, o, none⟩ = some v), m.set i ⟨none, 0, 0, k.sz, k.ver + 1⟩, fun b o v hf => .inl hf, hm, ?_, hrel⟩
  refine ⟨by simp [frzH, h.len], h.below, h.base, ?_, ?_, ?_, ?_, h.glob⟩
  · intro b o v hf
    rcases hf with hf | ⟨hb, ho, hc⟩
    · exact h.fz b o v hf
    · by_cases hnz : e.sz = 0
      · obtain ⟨_, es, clock, hh, _⟩ := hok.mps hnz hb
        simp [World.cell?, hh] at hc
      obtain ⟨v', g1, _, g3⟩ := h.cell hok hnz hb (List.getElem?_eq_getElem ho)
      rw [hc] at g1; cases g1
      exact ⟨hc, g3⟩
  · intro j x b o v hj hb hf
    obtain ⟨hij, hj'⟩ := sub hj hb
    rcases hf with hf | ⟨hb', _, _⟩
    · exact h.apart j x b o v hj' hb hf
    · exact hij (h.dist i j e x b he hj' hb' hb)
  · intro j l x y b hj hl hbj hbl
    exact h.dist j l x y b (sub hj hbj).2 (sub hl hbl).2 hbj hbl
  · intro j x kk hj hkk
    by_cases hij : i = j
    · subst hij
      rw [List.getElem?_set_self hlt] at hj
      have hltH : i < (H.map fun b => ({ b with cells := b.cells.map (frz1 i k.ver k.sz k.cells) } : Blk)).length := by rw [List.length_map, ← h.len]; exact hlt
      rw [frzH, List.getElem?_set_self hltH] at hkk
      cases hj; cases hkk
      exact ⟨rfl, rfl, rfl, fun _ => ⟨rfl, rfl⟩, fun b hb => by simp at hb⟩
    · rw [List.getElem?_set_ne hij] at hj
      rw [frzH, List.getElem?_set_ne hij, List.getElem?_map] at hkk
      cases hH : H[j]? with
      | none => rw [hH] at hkk; simp at hkk
      | some k0 =>
        rw [hH] at hkk
        simp only [Option.map_some, Option.some.injEq] at hkk
        subst hkk
        obtain ⟨g1, g2, g3, g4, g5⟩ := h.blk j x k0 hj hH
        refine ⟨g1, g2, g3, fun hn => ⟨by simp [(g4 hn).1], (g4 hn).2⟩, fun b hb => ?_⟩
        obtain ⟨o1, ⟨o0, arr, o2, o3, o4, o5, o6⟩ | ⟨o0, es, clock, o2, o3⟩⟩ := g5 b hb
        rotate_left
        · refine ⟨o1, .inr ⟨o0, es, clock, o2, ?_⟩⟩
          simp only
          rw [o3]
          refine (List.map_congr_left (fun c hc => ?_)).trans (List.map_id _)
          obtain ⟨v, rfl⟩ := entCells_lit hc
          rfl
        refine ⟨o1, .inl ⟨o0, arr, o2, o3, by simpa using o4, ?_, o6⟩⟩
        intro q c v hq hv
        rw [List.getElem?_map] at hq
        cases hc : k0.cells[q]? with
        | none => rw [hc] at hq; simp at hq
        | some c0 =>
          rw [hc] at hq
          simp only [Option.map_some, Option.some.injEq] at hq
          subst hq
          exact hrel _ _ (o5 q c0 v hc hv)
theorem Rels.map {F F' : Fz} {m m' : List Ent} {g : AV → AV} (hg : ∀ (c : AV) (v : Value), Rel F m c v → Rel F' m' (g c) v) {cs : List AV} {vs : List Value} (h : Rels F m cs vs) : Rels F' m' (cs.map g) vs := by
  refine ⟨by simp [h.1], ?_⟩
  intro j c v h1 h2
  rw [List.getElem?_map] at h1
  cases hc : cs[j]? with
  | none => rw [hc] at h1; simp at h1
  | some c0 =>
    rw [hc] at h1
    simp only [Option.map_some, Option.some.injEq] at h1
    subst h1
    exact hg _ _ (h.2 j c0 v hc h2)
theorem frz2_rel {F F' : Fz} {m m' : List Ent} {i ver sz : Nat} {cells : List AV} (hg : ∀ (c : AV) (v : Value), Rel F m c v → Rel F' m' (frz1 i ver sz cells c) v) (c : AV) (v : Value) (h : Rel F m c v) : Rel F' m' (frz2 i ver sz cells c) v := by
  cases c with
  | agg cs =>
    cases h with
    | agg _ vs h1 h2 => have := Rels.map hg (⟨h1, h2⟩ : Rels F m cs vs); exact .agg _ vs this.1 this.2
  | _ => exact hg _ _ h
theorem frz3_rel {F F' : Fz} {m m' : List Ent} {i ver sz : Nat} {cells : List AV} (hg : ∀ (c : AV) (v : Value), Rel F m c v → Rel F' m' (frz1 i ver sz cells c) v) (c : AV) (v : Value) (h : Rel F m c v) : Rel F' m' (frz3 i ver sz cells c) v := by
  cases c with
  | tup cs =>
    cases h with
    | tup _ vs h1 h2 => have := Rels.map (frz2_rel hg) (⟨h1, h2⟩ : Rels F m cs vs); exact .tup _ vs this.1 this.2
  | _ => exact frz2_rel hg _ _ h
theorem GR.freeze {H0 : List Blk} {R : AV → List Blk → Prop} {r : AV} {H : List Blk} (i : Nat) {k : Blk} (hk : H[i]? = some k) (h : GR H0 R (frz3 i k.ver k.sz k.cells r) (frzH i k.ver k.sz k.cells H)) : GR H0 R r H := by
  intro B W0 F0 m0 w0 F m w v hs0 hF hm hr hs
  obtain ⟨F', m', g1, g2, g3, g4⟩ := frz_core hs hk
  exact h B W0 F0 m0 w0 F' m' w v hs0 (hF.trans g1) (hm.trans g2) (frz3_rel g4 _ _ hr) g3
theorem aget_map (g : AV → AV) (hg : g .junk = .junk) (E : Env) (j : Nat) : aget (E.map fun p => (p.1, g p.2)) j = g (aget E j) := by
  induction E with
  | nil => exact hg.symm
  | cons p E ih =>
    obtain ⟨k, v⟩ := p
    simp only [List.map_cons, aget]
    split
    · rfl
    · exact ih
theorem Gh.freeze {k0 : Nat} {E : Env} {H : List Blk} (i : Nat) {k : Blk} (hk : H[i]? = some k) : Gh k0 E H (E.map fun p => (p.1, frz3 i k.ver k.sz k.cells p.2)) (frzH i k.ver k.sz k.cells H) := by
  intro cx F m a w h0 hs
  obtain ⟨F', m', g1, g2, g3, g4⟩ := frz_core hs.sim hk
  refine ⟨F', m', hs.defers, hs.size, ?_, g3, hs.fle.trans g1, hs.mle.trans g2⟩
  intro j
  have : aget (E.map fun p => (p.1, frz3 i k.ver k.sz k.cells p.2)) j = frz3 i k.ver k.sz k.cells (aget E j) := aget_map (frz3 i k.ver k.sz k.cells) rfl E j
  rw [this]
  exact frz3_rel g4 _ _ (hs.env j)
theorem Gh.drop {k0 : Nat} {E : Env} {H ext : List Blk} (h0 : k0 ≤ H.length) (hE : ∀ j, Bel H.length (aget E j)) (hH : ∀ b ∈ H, ∀ c ∈ b.cells, Bel H.length c) : Gh k0 E (H ++ ext) E H := by
  intro cx F m a w hk hs
  have h1 := hs.sim.take (k := H.length) (by rw [List.take_left]; exact hH)
  rw [List.take_left] at h1
  exact ⟨F, m.take H.length, hs.defers, hs.size, fun j => (hs.env j).take (hE j), h1, hs.fle, hs.mle.take (by rw [hk]; exact h0)⟩
theorem Gh.name {k0 : Nat} {E : Env} {H : List Blk} (t ty sz : Nat) (hn : aget E t = .lit (.slice none 0 0)) : Gh k0 E H (aput E t (.nm H.length 0 0 0)) (H ++ [⟨0, ty, sz, []⟩]) := by
  intro cx F m a w hk hs
  have h1 := hs.sim.pushNil ty sz
  have hm1 := MLe.append m [⟨none, 0, ty, sz, 0⟩]
  refine ⟨F, _, hs.defers, hs.size, ?_, h1, hs.fle, hs.mle.trans hm1⟩
  intro j
  rw [aget_aput]
  split
  · rename_i hj
    subst hj
    have hr := hs.env j
    rw [hn] at hr
    have hv := hr.lit_inv
    rw [hv, ← hs.sim.len]
    exact .nm m.length 0 0 0 ⟨none, 0, ty, sz, 0⟩ none 0 0 (by simp) (Nat.le_refl _) (fun _ => ⟨0, Nat.le_refl _, Nat.zero_le _, .inr ⟨rfl, ⟨_, rfl⟩, rfl, rfl⟩⟩)
  · exact (hs.env j).mono (FLe.refl _) hm1
end
theorem GR.name {H0 : List Blk} {R : AV → List Blk → Prop} {H : List Blk} (ty sz : Nat) (h : GR H0 R (.nm H.length 0 0 0) (H ++ [⟨0, ty, sz, []⟩])) : GR H0 R (.lit (.slice none 0 0)) H := by
  intro B W0 F0 m0 w0 F m w v hs0 hF hm hr hs
  have h1 := hs.pushNil ty sz
  have hm1 := MLe.append m [⟨none, 0, ty, sz, 0⟩]
  refine h B W0 F0 m0 w0 F _ w v hs0 hF (hm.trans hm1) ?_ h1
  rw [hr.lit_inv, ← hs.len]
  exact .nm m.length 0 0 0 ⟨none, 0, ty, sz, 0⟩ none 0 0 (by simp) (Nat.le_refl _) (fun _ => ⟨0, Nat.le_refl _, Nat.zero_le _, .inr ⟨rfl, ⟨_, rfl⟩, rfl, rfl⟩⟩)
end
end Go.Av
namespace Go.Av
variable [Go.Av.DoorC]
def stripF (P : Program) (f : FuncId) (anns : List (List Nat)) : Option (SC × List RV × Nat) :=
  match P.funcs[f]? with
  | some fn => match fn.body with
    | some c => match strip P fn.ntmps c anns, fn.results.toList.mapM (rvOf P) with
      | some (sc, _), some rs => some (sc, rs, fn.ntmps)
      | _, _ => none
    | none => none
  | none => none
theorem ACalls.intro {P : Program} {f : FuncId} {anns : List (List Nat)} {sc : SC} {rs : List RV} {n : Nat} (hs : stripF P f anns = some (sc, rs, n)) {args : List AV} {H : List Blk} {R : AV → List Blk → Prop} (hl : args.length ≤ n)
    (h : SW P n H.length sc (FunPost rs H R) (argEnv 0 args) H) : ACalls P f args H R := by
  unfold stripF at hs
  split at hs
  case h_2 => simp at hs
  case h_1 fn hf =>
    split at hs
    case h_2 => simp at hs
    case h_1 c hb =>
      split at hs
      case h_2 => simp at hs
      case h_1 sc' az rs' h1 h2 =>
        simp only [Option.some.injEq, Prod.mk.injEq] at hs
        obtain ⟨rfl, rfl, rfl⟩ := hs
        exact ACalls_of hf hb (strip_sound h1) h2 hl h
theorem AFn.intro {P : Program} {f : FuncId} {args : List AV} {H : List Blk} {v : AV} (h : ∀ ext, ACalls P f args (H ++ ext) fun r H' => r = v ∧ H' = H ++ ext) : AFn P f args H v := h
end Go.Av
