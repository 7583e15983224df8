/- The abstract layer, part 11: functions; steps of the book-keeping. -/
import Derived.Test.YtonfknfphdeenaaAv10
set_option linter.unusedSimpArgs false
set_option linter.unusedVariables false
set_option maxHeartbeats 4000000
set_option maxRecDepth 100000
namespace Go.Av
open Go.RowKit

/-- Results: slots; or structs in memory (the slot of their address, the number of their cells). -/
inductive RV where
  | tmp (t : Nat)
  | cell (t : Nat) (c : Nat)

def rvOf (P : Program) : ResultVar → Option RV
  | .tmp t => some (.tmp t)
  | .cell a t => match P.info? t, P.underlying t with
    | some i, some d => if isAggD d && decide (0 < i.size) then some (.cell a i.size) else none
    | _, _ => none

def rvAV (E : Env) (H : List Blk) : RV → Option AV
  | .tmp t => some (aget E t)
  | .cell t c => match acells H c (aget E t) with
    | some cs => some (.agg cs)
    | none => none

def rvsAV (E : Env) (H : List Blk) (rs : List RV) : Option AV :=
  match rs.mapM (rvAV E H) with
  | some [v] => some v
  | some vs => some (.tup vs)
  | none => none

/-- What the function's frame comes to gives R, if need be behind steps of the book-keeping. -/
def GR (H0 : List Blk) (R : AV → List Blk → Prop) (r : AV) (H : List Blk) : Prop :=
  ∀ (B : Nat) (W0 : World) (F0 : Fz) (m0 : List Ent) (w0 : World) (F : Fz) (m : List Ent) (w : World) (v : Value), Sim B W0 F0 m0 H0 w0 → FLe F0 F → MLe m0 m → Rel F m r v → Sim B W0 F m H w →
    ∃ F' m' r' H', FLe F0 F' ∧ MLe m0 m' ∧ Rel F' m' r' v ∧ Sim B W0 F' m' H' w ∧ R r' H'

def argEnv : Nat → List AV → Env
  | _, [] => []
  | k, v :: vs => (k, v) :: argEnv (k + 1) vs

theorem aget_argEnv (vs : List AV) : ∀ (k j : Nat), aget (argEnv k vs) j = if k ≤ j then vs.getD (j - k) .junk else .junk := by
  induction vs with
  | nil => intro k j; simp [argEnv, aget]
  | cons v vs ih =>
    intro k j
    simp only [argEnv, aget, ih]
    by_cases h1 : j = k
    · subst h1; simp
    · by_cases h2 : k ≤ j
      · have h3 : k + 1 ≤ j := by omega
        have h4 : j - k = (j - (k + 1)) + 1 := by omega
        simp [h1, h2, h3, h4]
      · have h3 : ¬ k + 1 ≤ j := by omega
        simp [h1, h2, h3]

def FunPost (rs : List RV) (H0 : List Blk) (R : AV → List Blk → Prop) : SX → Env → List Blk → Prop
  | .ext _, _, _ => False
  | _, E, H => ∃ r, rvsAV E H rs = some r ∧ GR H0 R r H

/-- A result variable, read. -/
def resSem (tmps : Array Value) : ResultVar → Sem Value
  | .tmp t => pure (tmps.getD t undef)
  | .cell a t => do loadVar t (← asAddr (tmps.getD a undef))

section
variable {P : Program}

theorem results_sound {cx : Ctx} {F : Fz} {m : List Ent} {E : Env} {H : List Blk} {a : Act} {w : World} (hs : St cx F m (aget E) H a w) :
    ∀ (vs : List ResultVar) (rs : List RV) (avs : List AV), vs.mapM (rvOf P) = some rs → rs.mapM (rvAV E H) = some avs →
      ∃ us : List Value, (vs.mapM (resSem a.tmps)).run P w = .ok us w ∧ Rels F m avs us
  | [], rs, avs, h1, h2 => by
    simp at h1; subst h1; simp at h2; subst h2
    exact ⟨[], rfl, Rels.nil _ _⟩
  | x :: vs, rs, avs, h1, h2 => by
    obtain ⟨r, rs', rfl, g1, g2⟩ := mapM_cons_some h1
    obtain ⟨v, avs', rfl, k1, k2⟩ := mapM_cons_some h2
    obtain ⟨us, j1, j2⟩ := results_sound hs vs rs' avs' g2 k2
    have one : ∃ u, (resSem a.tmps x).run P w = .ok u w ∧ Rel F m v u := by
      cases x with
      | tmp t =>
        simp only [rvOf, Option.some.injEq] at g1
        subst g1
        simp only [rvAV, Option.some.injEq] at k1
        subst k1
        exact ⟨_, rfl, hs.env t⟩
      | cell t ty =>
        simp only [rvOf] at g1
        split at g1
        case h_2 => simp at g1
        case h_1 i d hi hd =>
          split at g1
          case isFalse => simp at g1
          case isTrue hc =>
            simp only [Bool.and_eq_true, decide_eq_true_eq] at hc
            simp only [Option.some.injEq] at g1
            subst g1
            simp only [rvAV] at k1
            split at k1
            case h_2 => simp at k1
            case h_1 cs hcs =>
              simp only [Option.some.injEq] at k1
              subst k1
              obtain ⟨b, of, us, hp, hr, hl, hcells⟩ := acells_sound hs.sim (hs.env t) hcs hc.2
              refine ⟨.agg us.toArray, ?_, .agg cs us hr.1 hr.2⟩
              have hlv : us.length = i.size := by rw [← hr.1, hl]
              have hrun := run_loadCells_list (P := P) w ⟨b, of, none⟩ us (fun j v hj => by rw [Addr.add_none]; exact (hcells j v hj).1)
              rw [hlv] at hrun
              have hp' : a.tmps.getD t undef = Value.pointer (some ⟨b, of, none⟩) := hp
              simp only [resSem, hp', asAddr, Sem.run_bind, Sem.run_pure, Result.andThen_ok, loadVar, run_isAgg' hd, hc.1, if_true, run_sizeOf' hi, hrun]
    obtain ⟨u, o1, o2⟩ := one
    refine ⟨u :: us, ?_, Rels.cons o2 j2⟩
    rw [List.mapM_cons, Sem.run_bind, o1, Result.andThen_ok, Sem.run_bind, j1, Result.andThen_ok, Sem.run_pure]

/-- The contract of a function, from its code. -/
theorem ACalls_of {f : FuncId} {fn : Func} {code : Code} {sc : SC} {rs : List RV} {args : List AV} {H : List Blk} {R : AV → List Blk → Prop} (hf : P.funcs[f]? = some fn) (hb : fn.body = some code) (hc : Corr P fn.ntmps code sc)
    (hrs : fn.results.toList.mapM (rvOf P) = some rs) (hl : args.length ≤ fn.ntmps) (h : SW P fn.ntmps H.length sc (FunPost rs H R) (argEnv 0 args) H) : ACalls P f args H R := by
  intro B W0 F m w vs hr hsim
  refine calls_of_wp hf hb ?_
  have hlv : vs.length = args.length := hr.1.symm
  have hs : St ⟨B, W0, F, m, fn.ntmps⟩ F m (aget (argEnv 0 args)) H { tmps := vs.toArray ++ Array.replicate (fn.ntmps - vs.toArray.size) undef, defers := [] } w := by
    refine ⟨rfl, by simp; omega, ?_, hsim, FLe.refl _, MLe.refl _⟩
    intro k
    rw [aget_argEnv]
    simp only [Nat.zero_le, if_true, Nat.sub_zero]
    by_cases hk : k < args.length
    · have h1 : args.getD k .junk = args[k] := by simp [List.getD, List.getElem?_eq_getElem hk]
      have hk' : k < vs.length := by omega
      have h2 : (vs.toArray ++ Array.replicate (fn.ntmps - vs.toArray.size) undef).getD k undef = vs[k] := by
        simp [Array.getElem?_append, hk']
      rw [h1, h2]
      exact hr.2 k _ _ (List.getElem?_eq_getElem hk) (List.getElem?_eq_getElem hk')
    · have h1 : args.getD k .junk = .junk := by simp [List.getD, List.getElem?_eq_none (Nat.le_of_not_lt hk)]
      rw [h1]; exact .junk _
  refine wp_mono (h code hc ⟨B, W0, F, m, fn.ntmps⟩ F m _ w rfl hsim.len hs) ?_
  rintro e a' w' ⟨x, F', m', E', H', rfl, hq, hs'⟩
  have fin : (∃ r, rvsAV E' H' rs = some r ∧ GR H R r H') → a'.defers = [] ∧ ∃ v, (results fn a'.tmps).run P w' = .ok v w' ∧
      ∃ F' m' H' r u, Ending.returned v = .returned u ∧ FLe F F' ∧ MLe m m' ∧ Rel F' m' r u ∧ Sim B W0 F' m' H' w' ∧ R r H' := by
    rintro ⟨r, hr1, hg⟩
    unfold rvsAV at hr1
    cases hm : rs.mapM (rvAV E' H') with
    | none => simp [hm] at hr1
    | some avs =>
      obtain ⟨us, hrun, hrels⟩ := results_sound (P := P) hs' _ _ _ hrs hm
      have hres : (results fn a'.tmps).run P w' = .ok (if h : us.length = 1 then us[0] else .tuple us.toArray) w' := by
        have e1 : results fn a'.tmps = (do let vs ← fn.results.mapM (resSem a'.tmps); pure (if h : vs.size = 1 then vs[0] else .tuple vs)) := rfl
        rw [e1, Sem.run_bind, Array.mapM_eq_mapM_toList, Sem.run_map, hrun]
        simp only [Result.andThen_ok, Sem.run_pure]
        congr 1
      refine ⟨hs'.defers, _, hres, ?_⟩
      have hrel : Rel F' m' r (if h : us.length = 1 then us[0] else .tuple us.toArray) := by
        rw [hm] at hr1
        match avs, hrels with
        | [], hrels =>
          have := hrels.inv_nil; subst this
          simp only [Option.some.injEq] at hr1; subst hr1
          exact .tup [] [] rfl (fun j c v h => by simp at h)
        | [v], hrels =>
          obtain ⟨u, us', rfl, h1, h2⟩ := hrels.inv_cons
          have := h2.inv_nil; subst this
          simp only [Option.some.injEq] at hr1; subst hr1
          simpa using h1
        | v1 :: v2 :: vs', hrels =>
          simp only [Option.some.injEq] at hr1; subst hr1
          have hne : us.length ≠ 1 := by rw [← hrels.1]; simp
          rw [dif_neg hne]
          exact .tup _ us hrels.1 hrels.2
      obtain ⟨F2, m2, r', H2, g1, g2, g3, g4, g5⟩ := hg B W0 F m w F' m' w' _ hsim hs'.fle hs'.mle hrel hs'.sim
      exact ⟨F2, m2, H2, r', _, rfl, g1, g2, g3, g4, g5⟩
  cases x with
  | nrm => exact fin hq
  | ret => exact fin hq
  | ext id => exact hq.elim

/-! Steps of the book-keeping. -/

theorem GR.of {H0 : List Blk} {R : AV → List Blk → Prop} {r : AV} {H : List Blk} (h : R r H) : GR H0 R r H :=
  fun _ _ _ _ _ F m _ _ _ hF hm hr hs => ⟨F, m, r, H, hF, hm, hr, hs, h⟩

inductive Bel (k : Nat) : AV → Prop
  | lit (v : Value) : Bel k (.lit v)
  | junk : Bel k .junk
  | il (len : Nat) (cells : List AV) (h : ∀ c ∈ cells, Bel k c) : Bel k (.il len cells)
  | nm (i ver off len : Nat) (h : i < k) : Bel k (.nm i ver off len)
  | pc (i ver off : Nat) (h : i < k) : Bel k (.pc i ver off)
  | el (s : AV) (j : Nat) (h : Bel k s) : Bel k (.el s j)
  | agg (cs : List AV) (h : ∀ c ∈ cs, Bel k c) : Bel k (.agg cs)
  | tup (cs : List AV) (h : ∀ c ∈ cs, Bel k c) : Bel k (.tup cs)
  | fn (f : FuncId) (cs : List AV) (h : ∀ c ∈ cs, Bel k c) : Bel k (.fn f cs)

section
variable {B : Nat} {W0 : World} {F : Fz} {m : List Ent} {H : List Blk} {w : World}

theorem Rel.bel {c : AV} {v : Value} (h : Rel F m c v) : Bel m.length c := by
  have mem : ∀ {cs : List AV} {vs : List Value}, cs.length = vs.length → (∀ (j : Nat) (c : AV) (v : Value), cs[j]? = some c → vs[j]? = some v → Bel m.length c) → ∀ c ∈ cs, Bel m.length c := by
    intro cs vs h1 h2 c hc
    obtain ⟨j, hj⟩ := List.getElem?_of_mem hc
    have hlt : j < vs.length := by rw [← h1]; exact (List.getElem?_eq_some_iff.1 hj).1
    exact h2 j c _ hj (List.getElem?_eq_getElem hlt)
  induction h with
  | lit v => exact .lit v
  | junk v => exact .junk
  | il0 => exact .il 0 [] (fun c h => by simp at h)
  | il1 => exact .il 0 [] (fun c h => by simp at h)
  | il len cells b o cap vs h1 h2 h3 h4 _ ih => exact .il _ _ (mem h3 ih)
  | nm i ver off len e a n cap h1 h2 h3 => exact .nm _ _ _ _ (List.getElem?_eq_some_iff.1 h1).1
  | pc i ver off e p h1 h2 h3 => exact .pc _ _ _ (List.getElem?_eq_some_iff.1 h1).1
  | el s k sv p _ h2 ih => exact .el _ _ ih
  | agg cs vs h1 _ ih => exact .agg _ (mem h1 ih)
  | tup cs vs h1 _ ih => exact .tup _ (mem h1 ih)
  | fn f cs vs h1 _ ih => exact .fn _ _ (mem h1 ih)

theorem Rel.take {c : AV} {v : Value} (h : Rel F m c v) {k : Nat} (hb : Bel k c) : Rel F (m.take k) c v := by
  induction h with
  | lit v => exact .lit v
  | junk v => exact .junk v
  | il0 => exact .il0
  | il1 ad => exact .il1 ad
  | il len cells b o cap vs h1 h2 h3 h4 _ ih =>
    cases hb with
    | il _ _ hb => exact .il len cells b o cap vs h1 h2 h3 h4 (fun j c v g1 g2 => ih j c v g1 g2 (hb c (List.mem_of_getElem? g1)))
  | nm i ver off len e a n cap h1 h2 h3 =>
    cases hb with
    | nm _ _ _ _ hb => exact .nm i ver off len e a n cap (by rw [List.getElem?_take_of_lt hb]; exact h1) h2 h3
  | pc i ver off e p h1 h2 h3 =>
    cases hb with
    | pc _ _ _ hb => exact .pc i ver off e p (by rw [List.getElem?_take_of_lt hb]; exact h1) h2 h3
  | el s j sv p _ h2 ih =>
    cases hb with
    | el _ _ hb => exact .el s j sv p (ih hb) h2
  | agg cs vs h1 _ ih =>
    cases hb with
    | agg _ hb => exact .agg cs vs h1 (fun j c v g1 g2 => ih j c v g1 g2 (hb c (List.mem_of_getElem? g1)))
  | tup cs vs h1 _ ih =>
    cases hb with
    | tup _ hb => exact .tup cs vs h1 (fun j c v g1 g2 => ih j c v g1 g2 (hb c (List.mem_of_getElem? g1)))
  | fn f cs vs h1 _ ih =>
    cases hb with
    | fn _ _ hb => exact .fn f cs vs h1 (fun j c v g1 g2 => ih j c v g1 g2 (hb c (List.mem_of_getElem? g1)))

/-- Names from k on are forgotten. -/
theorem Sim.take (h : Sim B W0 F m H w) {k : Nat} (hb : ∀ b ∈ H.take k, ∀ c ∈ b.cells, Bel k c) : Sim B W0 F (m.take k) (H.take k) w := by
  have sub : ∀ {i : Nat} {e : Ent}, (m.take k)[i]? = some e → m[i]? = some e := by
    intro i e he
    rw [List.getElem?_take] at he
    split at he
    · exact he
    · simp at he
  refine ⟨by simp [h.len], h.below, h.base, h.fz, fun i e b o v he => h.apart i e b o v (sub he), fun i j e e' b he he' => h.dist i j e e' b (sub he) (sub he'), ?_⟩
  intro i e kk he hk
  have hk' : H[i]? = some kk := by
    rw [List.getElem?_take] at hk
    split at hk
    · exact hk
    · simp at hk
  obtain ⟨g1, g2, g3, g4, g5⟩ := h.blk i e kk (sub he) hk'
  refine ⟨g1, g2, g3, g4, fun b hbk => ?_⟩
  obtain ⟨o1, arr, o2, o3, o4, o5, o6⟩ := g5 b hbk
  exact ⟨o1, arr, o2, o3, o4, fun j c v x y => (o5 j c v x y).take (hb kk (List.mem_of_getElem? hk) c (List.mem_of_getElem? x)), o6⟩

theorem Sim.bel (h : Sim B W0 F m H w) : ∀ b ∈ H, ∀ c ∈ b.cells, Bel H.length c := by
  intro k hk c hc
  obtain ⟨i, hi⟩ := List.getElem?_of_mem hk
  obtain ⟨e, he, hok⟩ := h.get hi
  obtain ⟨j, hj⟩ := List.getElem?_of_mem hc
  cases hb : e.blk with
  | none => have := (hok.2.2.2.1 hb).1; rw [this] at hc; simp at hc
  | some b =>
    obtain ⟨_, arr, _, hs, hl, hr, _⟩ := hok.2.2.2.2 b hb
    have hlt : j < arr.size := by have := (List.getElem?_eq_some_iff.1 hj).1; omega
    rw [← h.len]
    exact (hr j c _ hj (Array.getElem?_eq_getElem hlt)).bel

/-- The call's own names are forgotten. -/
theorem GR.drop {H0 ext : List Blk} {R : AV → List Blk → Prop} {r : AV} (hb : Bel H0.length r) (h : R r H0) : GR H0 R r (H0 ++ ext) := by
  intro B W0 F0 m0 w0 F m w v hs0 hF hm hr hs
  have h1 := hs.take (k := H0.length) (by
    rw [List.take_left]
    exact hs0.bel)
  rw [List.take_left] at h1
  exact ⟨F, m.take H0.length, r, H0, hF, hm.take (by rw [hs0.len]; exact Nat.le_refl _), hr.take hb, h1, h⟩

/-- The value of a slice whose block is never written again. -/
def frz1 (i ver : Nat) (sz : Nat) (cells : List AV) : AV → AV
  | .nm j v off len => if j = i ∧ v = ver then .il len ((cells.drop off).take (len * sz)) else .nm j v off len
  | c => c

def frz2 (i ver : Nat) (sz : Nat) (cells : List AV) : AV → AV
  | .agg cs => .agg (cs.map (frz1 i ver sz cells))
  | c => frz1 i ver sz cells c

def frz3 (i ver : Nat) (sz : Nat) (cells : List AV) : AV → AV
  | .tup cs => .tup (cs.map (frz2 i ver sz cells))
  | c => frz2 i ver sz cells c

def frzH (i ver : Nat) (sz : Nat) (cells : List AV) (H : List Blk) : List Blk :=
  (H.map fun b => { b with cells := b.cells.map (frz1 i ver sz cells) }).set i ⟨ver + 1, 0, sz, []⟩

theorem frz_core (h : Sim B W0 F m H w) {i : Nat} {k : Blk} (hk : H[i]? = some k) : ∃ F' m', FLe F F' ∧ MLe m m' ∧ Sim B W0 F' m' (frzH i k.ver k.sz k.cells H) w ∧
    ∀ (c : AV) (v : Value), Rel F m c v → Rel F' m' (frz1 i k.ver k.sz k.cells c) v := by
  obtain ⟨e, he, hok⟩ := h.get hk
  have hm : MLe m (m.set i ⟨none, 0, 0, k.sz, k.ver + 1⟩) := MLe.set he (.inr (by rw [hok.1]; exact Nat.lt_succ_self _))
  have hlt : i < m.length := (List.getElem?_eq_some_iff.1 he).1
  have hrel : ∀ (c : AV) (v : Value), Rel F m c v → Rel (fun b o v => F b o v ∨ (e.blk = some b ∧ o < k.cells.length ∧ w.cell? ⟨b, o, none⟩ = some v)) (m.set i ⟨none, 0, 0, k.sz, k.ver + 1⟩) (frz1 i k.ver k.sz k.cells c) v := by
    intro c v hr
    have hF : FLe F (fun b o v => F b o v ∨ (e.blk = some b ∧ o < k.cells.length ∧ w.cell? ⟨b, o, none⟩ = some v)) := fun b o v hf => .inl hf
    cases hr with
    | nm j ver off len e' a n' cap h1 h2 h3 =>
      simp only [frz1]
      split
      · rename_i hc
        obtain ⟨rfl, rfl⟩ := hc
        rw [he] at h1; cases h1
        obtain ⟨cap', g1, g2, g3⟩ := h3 hok.1.symm
        rcases g3 with ⟨b, hb, hv, hsz⟩ | ⟨hb, hv, hl0, ho0⟩
        · rw [hv]
          obtain ⟨vs, r1, r2⟩ := h.row hok hb off ((k.cells.drop off).take (len * k.sz)) (fun q c hq => by
            rw [List.getElem?_take] at hq
            split at hq
            · rw [List.getElem?_drop] at hq; exact hq
            · simp at hq)
          refine .il len _ b off cap' vs g1 g2 r1.1 ?_ (fun q c v x y => (r1.2 q c v x y).mono hF hm)
          intro q v hq
          right
          refine ⟨hb, ?_, (r2 q v hq).1⟩
          have hq2 := (List.getElem?_eq_some_iff.1 hq).1
          rw [← r1.1] at hq2
          simp only [List.length_take, List.length_drop] at hq2
          omega
        · obtain ⟨q, hv⟩ := hv
          rw [hv]
          subst hl0
          simp
          cases q with
          | none => exact .il0
          | some ad => exact .il1 ad
      · rename_i hc
        exact (Rel.nm j ver off len e' a n' cap h1 h2 h3).mono hF hm
    | lit v => exact .lit v
    | junk v => exact .junk v
    | il0 => exact .il0
    | il1 ad => exact .il1 ad
    | il len cells b o cap vs h1 h2 h3 h4 h5 => exact (Rel.il len cells b o cap vs h1 h2 h3 h4 h5).mono hF hm
    | pc j ver off e' p h1 h2 h3 => exact (Rel.pc j ver off e' p h1 h2 h3).mono hF hm
    | el s j sv p h1 h2 => exact (Rel.el s j sv p h1 h2).mono hF hm
    | agg cs vs h1 h2 => exact (Rel.agg cs vs h1 h2).mono hF hm
    | tup cs vs h1 h2 => exact (Rel.tup cs vs h1 h2).mono hF hm
    | fn f cs vs h1 h2 => exact (Rel.fn f cs vs h1 h2).mono hF hm
  have sub : ∀ {j : Nat} {x : Ent} {b : Nat}, (m.set i ⟨none, 0, 0, k.sz, k.ver + 1⟩)[j]? = some x → x.blk = some b → i ≠ j ∧ m[j]? = some x := by
    intro j x b hj hb
    by_cases hij : i = j
    · subst hij
      rw [List.getElem?_set_self hlt] at hj
      cases hj
      simp at hb
    · rw [List.getElem?_set_ne hij] at hj
      exact ⟨hij, hj⟩
  refine ⟨fun b o v => F b o v ∨ (e.blk = some b ∧ o < k.cells.length ∧ w.cell? ⟨b, o, none⟩ = some v), m.set i ⟨none, 0, 0, k.sz, k.ver + 1⟩, fun b o v hf => .inl hf, hm, ?_, hrel⟩
  refine ⟨by simp [frzH, h.len], h.below, h.base, ?_, ?_, ?_, ?_⟩
  · intro b o v hf
    rcases hf with hf | ⟨hb, ho, hc⟩
    · exact h.fz b o v hf
    · obtain ⟨v', g1, _, g3⟩ := h.cell hok hb (List.getElem?_eq_getElem ho)
      rw [hc] at g1; cases g1
      exact ⟨hc, g3⟩
  · intro j x b o v hj hb hf
    obtain ⟨hij, hj'⟩ := sub hj hb
    rcases hf with hf | ⟨hb', _, _⟩
    · exact h.apart j x b o v hj' hb hf
    · exact hij (h.dist i j e x b he hj' hb' hb)
  · intro j l x y b hj hl hbj hbl
    exact h.dist j l x y b (sub hj hbj).2 (sub hl hbl).2 hbj hbl
  · intro j x kk hj hkk
    by_cases hij : i = j
    · subst hij
      rw [List.getElem?_set_self hlt] at hj
      have hltH : i < (H.map fun b => ({ b with cells := b.cells.map (frz1 i k.ver k.sz k.cells) } : Blk)).length := by rw [List.length_map, ← h.len]; exact hlt
      rw [frzH, List.getElem?_set_self hltH] at hkk
      cases hj; cases hkk
      exact ⟨rfl, rfl, rfl, fun _ => ⟨rfl, rfl⟩, fun b hb => by simp at hb⟩
    · rw [List.getElem?_set_ne hij] at hj
      rw [frzH, List.getElem?_set_ne hij, List.getElem?_map] at hkk
      cases hH : H[j]? with
      | none => rw [hH] at hkk; simp at hkk
      | some k0 =>
        rw [hH] at hkk
        simp only [Option.map_some, Option.some.injEq] at hkk
        subst hkk
        obtain ⟨g1, g2, g3, g4, g5⟩ := h.blk j x k0 hj hH
        refine ⟨g1, g2, g3, fun hn => ⟨by simp [(g4 hn).1], (g4 hn).2⟩, fun b hb => ?_⟩
        obtain ⟨o1, arr, o2, o3, o4, o5, o6⟩ := g5 b hb
        refine ⟨o1, arr, o2, o3, by simpa using o4, ?_, o6⟩
        intro q c v hq hv
        rw [List.getElem?_map] at hq
        cases hc : k0.cells[q]? with
        | none => rw [hc] at hq; simp at hq
        | some c0 =>
          rw [hc] at hq
          simp only [Option.map_some, Option.some.injEq] at hq
          subst hq
          exact hrel _ _ (o5 q c0 v hc hv)

theorem Rels.map {F F' : Fz} {m m' : List Ent} {g : AV → AV} (hg : ∀ (c : AV) (v : Value), Rel F m c v → Rel F' m' (g c) v) {cs : List AV} {vs : List Value} (h : Rels F m cs vs) : Rels F' m' (cs.map g) vs := by
  refine ⟨by simp [h.1], ?_⟩
  intro j c v h1 h2
  rw [List.getElem?_map] at h1
  cases hc : cs[j]? with
  | none => rw [hc] at h1; simp at h1
  | some c0 =>
    rw [hc] at h1
    simp only [Option.map_some, Option.some.injEq] at h1
    subst h1
    exact hg _ _ (h.2 j c0 v hc h2)

theorem frz2_rel {F F' : Fz} {m m' : List Ent} {i ver sz : Nat} {cells : List AV} (hg : ∀ (c : AV) (v : Value), Rel F m c v → Rel F' m' (frz1 i ver sz cells c) v) (c : AV) (v : Value) (h : Rel F m c v) : Rel F' m' (frz2 i ver sz cells c) v := by
  cases c with
  | agg cs =>
    cases h with
    | agg _ vs h1 h2 => have := Rels.map hg (⟨h1, h2⟩ : Rels F m cs vs); exact .agg _ vs this.1 this.2
  | _ => exact hg _ _ h

theorem frz3_rel {F F' : Fz} {m m' : List Ent} {i ver sz : Nat} {cells : List AV} (hg : ∀ (c : AV) (v : Value), Rel F m c v → Rel F' m' (frz1 i ver sz cells c) v) (c : AV) (v : Value) (h : Rel F m c v) : Rel F' m' (frz3 i ver sz cells c) v := by
  cases c with
  | tup cs =>
    cases h with
    | tup _ vs h1 h2 => have := Rels.map (frz2_rel hg) (⟨h1, h2⟩ : Rels F m cs vs); exact .tup _ vs this.1 this.2
  | _ => exact frz2_rel hg _ _ h

/-- A slice of the call's own is never written again. -/
theorem GR.freeze {H0 : List Blk} {R : AV → List Blk → Prop} {r : AV} {H : List Blk} (i : Nat) {k : Blk} (hk : H[i]? = some k) (h : GR H0 R (frz3 i k.ver k.sz k.cells r) (frzH i k.ver k.sz k.cells H)) : GR H0 R r H := by
  intro B W0 F0 m0 w0 F m w v hs0 hF hm hr hs
  obtain ⟨F', m', g1, g2, g3, g4⟩ := frz_core hs hk
  exact h B W0 F0 m0 w0 F' m' w v hs0 (hF.trans g1) (hm.trans g2) (frz3_rel g4 _ _ hr) g3

theorem aget_map (g : AV → AV) (hg : g .junk = .junk) (E : Env) (j : Nat) : aget (E.map fun p => (p.1, g p.2)) j = g (aget E j) := by
  induction E with
  | nil => exact hg.symm
  | cons p E ih =>
    obtain ⟨k, v⟩ := p
    simp only [List.map_cons, aget]
    split
    · rfl
    · exact ih

theorem Gh.freeze {k0 : Nat} {E : Env} {H : List Blk} (i : Nat) {k : Blk} (hk : H[i]? = some k) : Gh k0 E H (E.map fun p => (p.1, frz3 i k.ver k.sz k.cells p.2)) (frzH i k.ver k.sz k.cells H) := by
  intro cx F m a w h0 hs
  obtain ⟨F', m', g1, g2, g3, g4⟩ := frz_core hs.sim hk
  refine ⟨F', m', hs.defers, hs.size, ?_, g3, hs.fle.trans g1, hs.mle.trans g2⟩
  intro j
  have : aget (E.map fun p => (p.1, frz3 i k.ver k.sz k.cells p.2)) j = frz3 i k.ver k.sz k.cells (aget E j) := aget_map (frz3 i k.ver k.sz k.cells) rfl E j
  rw [this]
  exact frz3_rel g4 _ _ (hs.env j)

theorem Gh.drop {k0 : Nat} {E : Env} {H ext : List Blk} (h0 : k0 ≤ H.length) (hE : ∀ j, Bel H.length (aget E j)) (hH : ∀ b ∈ H, ∀ c ∈ b.cells, Bel H.length c) : Gh k0 E (H ++ ext) E H := by
  intro cx F m a w hk hs
  have h1 := hs.sim.take (k := H.length) (by rw [List.take_left]; exact hH)
  rw [List.take_left] at h1
  exact ⟨F, m.take H.length, hs.defers, hs.size, fun j => (hs.env j).take (hE j), h1, hs.fle, hs.mle.take (by rw [hk]; exact h0)⟩

/-- A nil slice that is to be appended to gets a name. -/
theorem Gh.name {k0 : Nat} {E : Env} {H : List Blk} (t ty sz : Nat) (hn : aget E t = .lit (.slice none 0 0)) : Gh k0 E H (aput E t (.nm H.length 0 0 0)) (H ++ [⟨0, ty, sz, []⟩]) := by
  intro cx F m a w hk hs
  have h1 := hs.sim.pushNil ty sz
  have hm1 := MLe.append m [⟨none, 0, ty, sz, 0⟩]
  refine ⟨F, _, hs.defers, hs.size, ?_, h1, hs.fle, hs.mle.trans hm1⟩
  intro j
  rw [aget_aput]
  split
  · rename_i hj
    subst hj
    have hr := hs.env j
    rw [hn] at hr
    have hv := hr.lit_inv
    rw [hv, ← hs.sim.len]
    exact .nm m.length 0 0 0 ⟨none, 0, ty, sz, 0⟩ none 0 0 (by simp) (Nat.le_refl _) (fun _ => ⟨0, Nat.le_refl _, Nat.zero_le _, .inr ⟨rfl, ⟨_, rfl⟩, rfl, rfl⟩⟩)
  · exact (hs.env j).mono (FLe.refl _) hm1
end
/-- A nil slice that is handed back gets a name. -/
theorem GR.name {H0 : List Blk} {R : AV → List Blk → Prop} {H : List Blk} (ty sz : Nat) (h : GR H0 R (.nm H.length 0 0 0) (H ++ [⟨0, ty, sz, []⟩])) : GR H0 R (.lit (.slice none 0 0)) H := by
  intro B W0 F0 m0 w0 F m w v hs0 hF hm hr hs
  have h1 := hs.pushNil ty sz
  have hm1 := MLe.append m [⟨none, 0, ty, sz, 0⟩]
  refine h B W0 F0 m0 w0 F _ w v hs0 hF (hm.trans hm1) ?_ h1
  rw [hr.lit_inv, ← hs.len]
  exact .nm m.length 0 0 0 ⟨none, 0, ty, sz, 0⟩ none 0 0 (by simp) (Nat.le_refl _) (fun _ => ⟨0, Nat.le_refl _, Nat.zero_le _, .inr ⟨rfl, ⟨_, rfl⟩, rfl, rfl⟩⟩)
end
end Go.Av

namespace Go.Av
/-- A function's code, told abstractly; its results; the number of its slots. -/
def stripF (P : Program) (f : FuncId) (anns : List (List Nat)) : Option (SC × List RV × Nat) :=
  match P.funcs[f]? with
  | some fn => match fn.body with
    | some c => match strip P fn.ntmps c anns, fn.results.toList.mapM (rvOf P) with
      | some (sc, _), some rs => some (sc, rs, fn.ntmps)
      | _, _ => none
    | none => none
  | none => none

theorem ACalls.intro {P : Program} {f : FuncId} {anns : List (List Nat)} {sc : SC} {rs : List RV} {n : Nat} (hs : stripF P f anns = some (sc, rs, n)) {args : List AV} {H : List Blk} {R : AV → List Blk → Prop} (hl : args.length ≤ n)
    (h : SW P n H.length sc (FunPost rs H R) (argEnv 0 args) H) : ACalls P f args H R := by
  unfold stripF at hs
  split at hs
  case h_2 => simp at hs
  case h_1 fn hf =>
    split at hs
    case h_2 => simp at hs
    case h_1 c hb =>
      split at hs
      case h_2 => simp at hs
      case h_1 sc' as rs' h1 h2 =>
        simp only [Option.some.injEq, Prod.mk.injEq] at hs
        obtain ⟨rfl, rfl, rfl⟩ := hs
        exact ACalls_of hf hb (strip_sound h1) h2 hl h

/-- A contract for every memory. -/
theorem AFn.intro {P : Program} {f : FuncId} {args : List AV} {H : List Blk} {v : AV} (h : ∀ ext, ACalls P f args (H ++ ext) fun r H' => r = v ∧ H' = H ++ ext) : AFn P f args H v := h
end Go.Av
