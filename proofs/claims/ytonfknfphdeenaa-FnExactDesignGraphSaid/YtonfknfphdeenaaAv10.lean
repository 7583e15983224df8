/- The abstract layer, part 10: code. -/
import Derived.Test.YtonfknfphdeenaaAv9
set_option linter.unusedSimpArgs false
set_option linter.unusedVariables false
set_option maxHeartbeats 4000000
set_option maxRecDepth 100000
namespace Go.Av
open Go.RowKit

abbrev Env := List (Nat × AV)

def aget : Env → Nat → AV
  | [], _ => .junk
  | (k, v) :: r, j => if j = k then v else aget r j

def aput : Env → Nat → AV → Env
  | [], k, v => [(k, v)]
  | (j, u) :: r, k, v => if k = j then (j, v) :: r else (j, u) :: aput r k v

def aputO (E : Env) (d : Option Nat) (v : AV) : Env :=
  match d with
  | some k => aput E k v
  | none => E

def keep (ks : List Nat) (E : Env) : Env := ks.map fun k => (k, aget E k)

theorem aget_aput (E : Env) (k : Nat) (v : AV) (j : Nat) : aget (aput E k v) j = if j = k then v else aget E j := by
  induction E with
  | nil => simp [aput, aget]
  | cons p r ih =>
    obtain ⟨i, u⟩ := p
    simp only [aput]
    split
    · rename_i h; subst h; simp only [aget]; split <;> rfl
    · rename_i h
      simp only [aget, ih]
      by_cases h1 : j = i
      · by_cases h2 : j = k
        · exact absurd (h2.symm.trans h1) h
        · simp [h1]; intro h3; exact absurd h3.symm h
      · simp [h1]

theorem aget_aputO (E : Env) (d : Option Nat) (v : AV) : aget (aputO E d v) = updO (aget E) d v := by
  cases d with
  | none => rfl
  | some k => funext j; exact aget_aput E k v j

theorem aget_keep (ks : List Nat) (E : Env) (j : Nat) : aget (keep ks E) j = aget E j ∨ aget (keep ks E) j = .junk := by
  induction ks with
  | nil => exact .inr rfl
  | cons k ks ih =>
    simp only [keep, List.map_cons, aget]
    split
    · rename_i h; subst h; exact .inl rfl
    · exact ih

/-- Code, told abstractly. Behind a row and at a loop's head only the listed slots are kept. -/
inductive SC where
  | skip
  | reg (ops : List SOper) (live : List Nat)
  | seq (a b : SC)
  | cond (c : Operand) (a b : SC)
  | block (id : Nat) (c : SC)
  | loop (live : List Nat) (c : SC)
  | exit (id : Nat)
  | ret

inductive SX where
  | nrm
  | ext (id : Nat)
  | ret

def SX.exit : SX → Exit
  | .nrm => .normal
  | .ext id => .exit id
  | .ret => .ret

inductive Corr (P : Program) (n : Nat) : Code → SC → Prop
  | skip : Corr P n .skip .skip
  | reg (id : Nat) (ops : Array Oper) (sl : List SOper) (live : List Nat) (h : ops.toList.mapM (SOper.of P n false ops) = some sl) : Corr P n (.region id ops false) (.reg sl live)
  | draw (id : Nat) (L : List Nat) (ops : Array Oper) (σ : List Nat) (sl : List SOper) (live : List Nat) (hm : P.follows .mixedOrders = true) (h : σ.mapM (ssOf P n L ops) = some sl) (hB : lexB P n L ops σ (Array.replicate ops.size false) = true) (hl : σ.length = ops.size) :
      Corr P n (.region id ops true) (.reg sl live)
  | seq (a b : Code) (x y : SC) (h1 : Corr P n a x) (h2 : Corr P n b y) : Corr P n (.seq a b) (.seq x y)
  | cond (c : Operand) (a b : Code) (x y : SC) (h1 : Corr P n a x) (h2 : Corr P n b y) : Corr P n (.cond c a b) (.cond c x y)
  | block (id : Nat) (c : Code) (x : SC) (h : Corr P n c x) : Corr P n (.block id c) (.block id x)
  | loop (live : List Nat) (c : Code) (x : SC) (h : Corr P n c x) : Corr P n (.loop c) (.loop live x)
  | exit (id : Nat) : Corr P n (.exit id) (.exit id)
  | ret : Corr P n .ret .ret

def swpOps (P : Program) : List SOper → Env → List Blk → (Env → List Blk → Prop) → Prop
  | [], E, H, K => K E H
  | s :: rest, E, H, K => aStepV P s (aget E) H fun v H' => swpOps P rest (aputO E s.dst v) H' K

section
variable {P : Program} {cx : Ctx} {F : Fz} {m : List Ent} {H : List Blk} {a : Act} {w : World}

/-- Where code comes to. -/
def Ends (cx : Ctx) (Q : SX → Env → List Blk → Prop) : Exit → Act → World → Prop :=
  fun e a' w' => ∃ x F' m' E' H', e = SX.exit x ∧ Q x E' H' ∧ St cx F' m' (aget E') H' a' w'

theorem St.weaken {E E' : Nat → AV} (hs : St cx F m E H a w) (h : ∀ k, E' k = E k ∨ E' k = .junk) : St cx F m E' H a w :=
  ⟨hs.defers, hs.size, fun k => by rcases h k with h | h <;> rw [h]; exact hs.env k; exact .junk _, hs.sim, hs.fle, hs.mle⟩

theorem St.keep {E : Env} (hs : St cx F m (aget E) H a w) (ks : List Nat) : St cx F m (aget (keep ks E)) H a w := hs.weaken (aget_keep ks E)

theorem mapM_cons_some {α β : Type} {f : α → Option β} {x : α} {xs : List α} {ys : List β} (h : (x :: xs).mapM f = some ys) : ∃ y ys', ys = y :: ys' ∧ f x = some y ∧ xs.mapM f = some ys' := by
  rw [List.mapM_cons] at h
  cases h1 : f x with
  | none => simp [h1] at h
  | some y =>
    cases h2 : xs.mapM f with
    | none => simp [h1, h2] at h
    | some ys' => simp [h1, h2] at h; exact ⟨y, ys', h.symm, rfl, rfl⟩

theorem SOper.of_dst {n : Nat} {q : Bool} {ops : Array Oper} {o : Oper} {s : SOper} (h : SOper.of P n q ops o = some s) : s.dst = o.dst := by
  unfold SOper.of at h
  split at h
  · split at h
    · simp only [Option.some.injEq] at h; rw [← h]
    · simp at h
  · simp at h

theorem ops_sound {ops : Array Oper} {K : Env → List Blk → Prop} : ∀ (l : List Oper) (sl : List SOper) (E : Env) (H : List Blk) (F : Fz) (m : List Ent) (a : Act) (w : World), l.mapM (SOper.of P cx.n false ops) = some sl → swpOps P sl E H K →
    St cx F m (aget E) H a w → wpList P ops (fun e a' w' => e = .normal ∧ ∃ F' m' E' H', K E' H' ∧ St cx F' m' (aget E') H' a' w') l a w
  | [], sl, E, H, F, m, a, w, h, hk, hs => by
    simp at h; subst h
    exact ⟨rfl, F, m, E, H, hk, hs⟩
  | o :: l, sl, E, H, F, m, a, w, h, hk, hs => by
    obtain ⟨s, sl', rfl, h1, h2⟩ := mapM_cons_some h
    have h3 := step_sound (Q := fun e a' w' => e = .normal ∧ ∃ F' m' E' H', K E' H' ∧ St cx F' m' (aget E') H' a' w') h1 hs (K := fun E' H' => ∃ El, aget El = E' ∧ swpOps P sl' El H' K)
      (aStepV_mono (fun v H' g => ⟨aputO E s.dst v, aget_aputO _ _ _, g⟩) hk)
    have go : ∀ a' w', Goes cx F m (fun E' H' => ∃ El, aget El = E' ∧ swpOps P sl' El H' K) a' w' → wpList P ops (fun e a' w' => e = .normal ∧ ∃ F' m' E' H', K E' H' ∧ St cx F' m' (aget E') H' a' w') l a' w' := by
      rintro a' w' ⟨F', m', E', H', ⟨El, rfl, g1⟩, g2, g3, g4⟩
      exact ops_sound l sl' El H' F' m' a' w' h2 g1 g4
    unfold wpList
    split
    · rename_i hw; rw [if_pos hw] at h3; exact .inl (Oper.wp_mono go h3)
    · rename_i hw; rw [if_neg hw] at h3; exact go _ _ h3

theorem lexS_of {n : Nat} {L : List Nat} {ops : Array Oper} {K : Env → List Blk → Prop} : ∀ (σ : List Nat) (sl : List SOper) (E : Env) (H : List Blk), σ.mapM (ssOf P n L ops) = some sl → swpOps P sl E H K → lexS P n L ops (fun E' H' => ∃ El, aget El = E' ∧ K El H') σ (aget E) H
  | [], sl, E, H, h, hk => by simp at h; subst h; exact ⟨E, rfl, hk⟩
  | i :: σ, sl, E, H, h, hk => by
    obtain ⟨s, sl', rfl, h1, h2⟩ := mapM_cons_some h
    simp only [lexS, h1]
    refine aStepV_mono (fun v H' g => ?_) hk
    have := lexS_of σ sl' (aputO E s.dst v) H' h2 g
    rw [aget_aputO] at this; exact this

theorem reg_sound {code : Code} {ops : List SOper} {live : List Nat} (hc : Corr P cx.n code (.reg ops live)) {E : Env} {Q : SX → Env → List Blk → Prop} (hk : swpOps P ops E H fun E' H' => Q .nrm (keep live E') H') (hs : St cx F m (aget E) H a w) :
    code.wp P (Ends cx Q) a w := by
  cases hc with
  | reg id os _ _ h =>
    refine wp_region_list ?_
    have h1 := ops_sound (ops := os) os.toList ops E H F m a w h hk hs
    have : ∀ (l : List Oper) (a : Act) (w : World), wpList P os (fun e a' w' => e = .normal ∧ ∃ F' m' E' H', Q .nrm (keep live E') H' ∧ St cx F' m' (aget E') H' a' w') l a w → wpList P os (Ends cx Q) l a w := by
      intro l
      induction l with
      | nil =>
        rintro a w ⟨_, F', m', E', H', g1, g2⟩
        exact ⟨.nrm, F', m', _, H', rfl, g1, g2.keep live⟩
      | cons o l ih =>
        intro a w h
        unfold wpList at h ⊢
        split
        · rename_i hw
          rw [if_pos hw] at h
          rcases h with h | ⟨h2, a0, w0, h3⟩
          · exact .inl (AAny_sound.wp_monoQ (fun x a w g => by
              obtain ⟨rfl, F', m', E', H', g1, g2⟩ := g
              exact ⟨.nrm, F', m', _, H', rfl, g1, g2.keep live⟩) (fun a w g => ih a w g) h)
          · simp at h3
        · rename_i hw; rw [if_neg hw] at h; exact ih _ _ h
    exact this _ _ _ h1
  | draw id L os σ _ _ hm h hB hl =>
    refine wp_region_any hm ?_
    have h1 := lexS_of (n := cx.n) σ ops E H h hk
    have h2 := any_lex σ _ _ _ hB h1
    rw [hl] at h2
    have hs' : St cx F m (aget E) H a w.drew := ⟨hs.defers, hs.size, hs.env, hs.sim.drew, hs.fle, hs.mle⟩
    have h3 := AAny_sound _ _ F m (aget E) H a w.drew hs' h2
    refine AAny_sound.wpAny_mono ?_ _ _ _ _ h3
    rintro x a' w' ⟨rfl, F', m', E', H', ⟨El, rfl, g1⟩, _, _, g2⟩
    exact ⟨.nrm, F', m', _, H', rfl, g1, g2.keep live⟩

end

/-- What code comes to from such a state. -/
def SW (P : Program) (n k0 : Nat) (c : SC) (Q : SX → Env → List Blk → Prop) (E : Env) (H : List Blk) : Prop :=
  ∀ code, Corr P n code c → ∀ (cx : Ctx) (F : Fz) (m : List Ent) (a : Act) (w : World), cx.n = n → cx.m0.length = k0 → St cx F m (aget E) H a w → code.wp P (Ends cx Q) a w

def SThen (P : Program) (n k0 : Nat) (b : SC) (Q : SX → Env → List Blk → Prop) : SX → Env → List Blk → Prop
  | .nrm, E, H => SW P n k0 b Q E H
  | x, E, H => Q x E H

def SBlk (id : Nat) (Q : SX → Env → List Blk → Prop) : SX → Env → List Blk → Prop
  | .ext id', E, H => if id' = id then Q .nrm E H else Q (.ext id') E H
  | x, E, H => Q x E H

/-- Steps of the book-keeping alone. -/
def Gh (k0 : Nat) (E : Env) (H : List Blk) (E' : Env) (H' : List Blk) : Prop :=
  ∀ (cx : Ctx) (F : Fz) (m : List Ent) (a : Act) (w : World), cx.m0.length = k0 → St cx F m (aget E) H a w → ∃ F' m', St cx F' m' (aget E') H' a w

def SLoop (k0 : Nat) (live : List Nat) (I : Nat → Env → List Blk → Prop) (k : Nat) (Q : SX → Env → List Blk → Prop) : SX → Env → List Blk → Prop
  | .nrm, E, H => ∃ k' E' H', k' < k ∧ Gh k0 (keep live E) H E' H' ∧ I k' E' H'
  | x, E, H => Q x E H

section
variable {P : Program} {n k0 : Nat} {Q : SX → Env → List Blk → Prop} {E : Env} {H : List Blk}

theorem Gh.refl (E : Env) (H : List Blk) : Gh k0 E H E H := fun _ F m _ _ _ h => ⟨F, m, h⟩
theorem Gh.trans {E1 E2 : Env} {H1 H2 : List Blk} (h : Gh k0 E H E1 H1) (k : Gh k0 E1 H1 E2 H2) : Gh k0 E H E2 H2 := by
  intro cx F m a w hk hs
  obtain ⟨F', m', h1⟩ := h cx F m a w hk hs
  exact k cx F' m' a w hk h1

theorem SW.ghost {c : SC} {E' : Env} {H' : List Blk} (h : Gh k0 E H E' H') (hk : SW P n k0 c Q E' H') : SW P n k0 c Q E H := by
  intro code hc cx F m a w hn h0 hs
  obtain ⟨F', m', h1⟩ := h cx F m a w h0 hs
  exact hk code hc cx F' m' a w hn h0 h1

theorem SW.mono {c : SC} {Q' : SX → Env → List Blk → Prop} (hq : ∀ x E H, Q x E H → Q' x E H) (h : SW P n k0 c Q E H) : SW P n k0 c Q' E H := by
  intro code hc cx F m a w hn h0 hs
  refine wp_mono (h code hc cx F m a w hn h0 hs) ?_
  rintro e a' w' ⟨x, F', m', E', H', rfl, g1, g2⟩
  exact ⟨x, F', m', E', H', rfl, hq _ _ _ g1, g2⟩

theorem SW.skip (h : Q .nrm E H) : SW P n k0 .skip Q E H := by
  intro code hc cx F m a w hn h0 hs
  cases hc
  exact wp_skip ⟨.nrm, F, m, E, H, rfl, h, hs⟩

theorem SW.exit {id : Nat} (h : Q (.ext id) E H) : SW P n k0 (.exit id) Q E H := by
  intro code hc cx F m a w hn h0 hs
  cases hc
  exact wp_exit ⟨.ext id, F, m, E, H, rfl, h, hs⟩

theorem SW.ret (h : Q .ret E H) : SW P n k0 .ret Q E H := by
  intro code hc cx F m a w hn h0 hs
  cases hc
  exact wp_ret ⟨.ret, F, m, E, H, rfl, h, hs⟩

theorem SW.reg {ops : List SOper} {live : List Nat} (h : swpOps P ops E H fun E' H' => Q .nrm (keep live E') H') : SW P n k0 (.reg ops live) Q E H := by
  intro code hc cx F m a w hn h0 hs
  subst hn
  exact reg_sound hc h hs

theorem SW.seq {x y : SC} (h : SW P n k0 x (SThen P n k0 y Q) E H) : SW P n k0 (.seq x y) Q E H := by
  intro code hc cx F m a w hn h0 hs
  cases hc with
  | seq c1 c2 _ _ h1 h2 =>
    refine wp_seq (wp_mono (h c1 h1 cx F m a w hn h0 hs) ?_)
    rintro e a' w' ⟨x, F', m', E', H', rfl, g1, g2⟩
    cases x with
    | nrm => exact g1 c2 h2 cx F' m' a' w' hn h0 g2
    | ext id => exact ⟨.ext id, F', m', E', H', rfl, g1, g2⟩
    | ret => exact ⟨.ret, F', m', E', H', rfl, g1, g2⟩

theorem SW.cond {c : Operand} {x y : SC} {t : Bool} (hc : ev (aget E) c = Bv t) (h1 : t = true → SW P n k0 x Q E H) (h2 : t = false → SW P n k0 y Q E H) : SW P n k0 (.cond c x y) Q E H := by
  intro code hcorr cx F m a w hn h0 hs
  cases hcorr with
  | cond _ c1 c2 _ _ g1 g2 =>
    have hr := hs.ev c
    rw [hc] at hr
    have hv := hr.lit_inv
    exact wp_cond_split hv (fun ht => h1 ht c1 g1 cx F m a w hn h0 hs) (fun ht => h2 ht c2 g2 cx F m a w hn h0 hs)

theorem SW.block {id : Nat} {x : SC} (h : SW P n k0 x (SBlk id Q) E H) : SW P n k0 (.block id x) Q E H := by
  intro code hc cx F m a w hn h0 hs
  cases hc with
  | block _ c _ hc' =>
    refine wp_block (wp_mono (h c hc' cx F m a w hn h0 hs) ?_)
    rintro e a' w' ⟨x, F', m', E', H', rfl, g1, g2⟩
    cases x with
    | nrm => exact ⟨.nrm, F', m', E', H', rfl, g1, g2⟩
    | ret => exact ⟨.ret, F', m', E', H', rfl, g1, g2⟩
    | ext id' =>
      simp only [SX.exit, Exit.inBlock]
      simp only [SBlk] at g1
      split
      · rename_i hid; rw [if_pos hid] at g1; exact ⟨.nrm, F', m', E', H', rfl, g1, g2⟩
      · rename_i hid; rw [if_neg hid] at g1; exact ⟨.ext id', F', m', E', H', rfl, g1, g2⟩

theorem wp_loop_rel {c : Code} {Q : Exit → Act → World → Prop} (R : Nat → Act → World → Prop) (round : ∀ k a w, R k a w → c.wp P (Exit.then (fun a' w' => ∃ k', k' < k ∧ R k' a' w') Q) a w) {k : Nat} {a : Act} {w : World} (h : R k a w) : (Code.loop c).wp P Q a w := by
  intro b kk cs
  have key : ∀ k a w, R k a w → ∃ e a' w', Q e a' w' ∧ Arrives P (lone (b.at a (.code c :: .inLoop c :: kk)) cs w) b kk cs e a' w' := by
    intro k
    induction k using Nat.strongRecOn with
    | _ k ih =>
      intro a w hR
      obtain ⟨e, a₁, w₁, hq, harr⟩ := round k a w hR b (.inLoop c :: kk) cs
      cases e with
      | normal =>
        obtain ⟨k', hlt, hR'⟩ := hq
        obtain ⟨e₂, a₂, w₂, hq₂, harr₂⟩ := ih k' hlt a₁ w₁ hR'
        exact ⟨e₂, a₂, w₂, hq₂, .of_steps (Steps.trans harr (.one step_inLoop)) harr₂⟩
      | exit id => exact ⟨_, a₁, w₁, hq, .pass (x := .inLoop c) rfl (fun _ _ => .inl (by simp)) harr⟩
      | goto l => exact ⟨_, a₁, w₁, hq, .pass (x := .inLoop c) rfl (fun _ _ => .inl (by simp)) harr⟩
      | ret => exact ⟨_, a₁, w₁, hq, .pass (x := .inLoop c) rfl (fun _ _ => .inl (by simp)) harr⟩
      | panic ch => exact ⟨_, a₁, w₁, hq, .pass (x := .inLoop c) rfl (fun _ _ => .inl (by simp)) harr⟩
      | outgrown => exact ⟨_, a₁, w₁, hq, .pass (x := .inLoop c) rfl (fun _ _ => .inl (by simp)) harr⟩
  obtain ⟨e, a', w', hq, harr⟩ := key k a w h
  exact ⟨e, a', w', hq, .of_steps (.one step_loop) harr⟩

/-- A loop: I k: at most k rounds more are to come. -/
theorem SW.loop {live : List Nat} {x : SC} (I : Nat → Env → List Blk → Prop) (k : Nat) (h : I k (keep live E) H) (round : ∀ k E H, I k E H → SW P n k0 x (SLoop k0 live I k Q) E H) : SW P n k0 (.loop live x) Q E H := by
  intro code hc cx F m a w hn h0 hs
  cases hc with
  | loop _ c _ hc' =>
    refine wp_loop_rel (P := P) (fun k a w => ∃ F m E H, I k E H ∧ St cx F m (aget E) H a w) ?_ (k := k) ⟨F, m, _, H, h, hs.keep live⟩
    rintro k a w ⟨F, m, E, H, hI, hs⟩
    refine wp_mono (round k E H hI c hc' cx F m a w hn h0 hs) ?_
    rintro e a' w' ⟨x, F', m', E', H', rfl, g1, g2⟩
    cases x with
    | nrm =>
      obtain ⟨k', E2, H2, hlt, hg, hI'⟩ := g1
      obtain ⟨F2, m2, h2⟩ := hg cx F' m' a' w' h0 (g2.keep live)
      exact ⟨k', hlt, F2, m2, E2, H2, hI', h2⟩
    | ext id => exact ⟨.ext id, F', m', E', H', rfl, g1, g2⟩
    | ret => exact ⟨.ret, F', m', E', H', rfl, g1, g2⟩
end

/-! From the program's code. -/

def orderGo (P : Program) (n : Nat) (L : List Nat) (ops : Array Oper) : Nat → Array Bool → List Nat → List Nat
  | 0, _, acc => acc.reverse
  | f + 1, listed, acc =>
    let rs := Region.ready .any ops listed
    match (rs.find? fun i => match ssOf P n L ops i with | some s => decide (s.op.kind ≤ 1) | none => false) with
    | some i => orderGo P n L ops f (listed.setIfInBounds i true) (i :: acc)
    | none => match rs with
      | i :: _ => orderGo P n L ops f (listed.setIfInBounds i true) (i :: acc)
      | [] => acc.reverse

/-- What is listed behind a row: from 1000000 on, the calls that may write memory; below, the slots that live on. -/
def loudOf : List Nat → List Nat × List Nat
  | [] => ([], [])
  | k :: r => match loudOf r with
    | (a, b) => if 1000000 ≤ k then ((k - 1000000) :: a, b) else (a, k :: b)

def strip (P : Program) (n : Nat) : Code → List (List Nat) → Option (SC × List (List Nat))
  | .skip, as => some (.skip, as)
  | .region _ ops false, as => match as, ops.toList.mapM (SOper.of P n false ops) with
    | live :: as', some sl => some (.reg sl live, as')
    | _, _ => none
  | .region _ ops true, as => match as with
    | live0 :: as' => match loudOf live0 with
      | (L, live) => match orderGo P n L ops ops.size (Array.replicate ops.size false) [] with
        | σ => match σ.mapM (ssOf P n L ops) with
          | some sl => if P.follows .mixedOrders && lexB P n L ops σ (Array.replicate ops.size false) && σ.length == ops.size then some (.reg sl live, as') else none
          | none => none
    | [] => none
  | .seq a b, as => match strip P n a as with
    | some (x, as') => match strip P n b as' with
      | some (y, as'') => some (.seq x y, as'')
      | none => none
    | none => none
  | .cond c a b, as => match strip P n a as with
    | some (x, as') => match strip P n b as' with
      | some (y, as'') => some (.cond c x y, as'')
      | none => none
    | none => none
  | .block id c, as => match strip P n c as with
    | some (x, as') => some (.block id x, as')
    | none => none
  | .loop c, as => match as with
    | live :: as' => match strip P n c as' with
      | some (x, as'') => some (.loop live x, as'')
      | none => none
    | [] => none
  | .exit id, as => some (.exit id, as)
  | .ret, as => some (.ret, as)
  | _, _ => none

theorem strip_sound {P : Program} {n : Nat} : ∀ {c : Code} {as as' : List (List Nat)} {x : SC}, strip P n c as = some (x, as') → Corr P n c x := by
  intro c
  induction c with
  | skip => intro as as' x h; simp only [strip, Option.some.injEq, Prod.mk.injEq] at h; rw [← h.1]; exact .skip
  | region id ops d =>
    intro as as' x h
    cases d
    · simp only [strip] at h
      split at h
      · rename_i live as'' sl hsl
        simp only [Option.some.injEq, Prod.mk.injEq] at h; rw [← h.1]; exact .reg id ops sl live hsl
      · simp at h
    · simp only [strip] at h
      split at h
      · rename_i live0 as''
        split at h
        · rename_i sl hsl
          split at h
          · rename_i hc
            simp only [Bool.and_eq_true, beq_iff_eq] at hc
            simp only [Option.some.injEq, Prod.mk.injEq] at h; rw [← h.1]; exact .draw id _ ops _ sl _ hc.1.1 hsl hc.1.2 hc.2
          · simp at h
        · simp at h
      · simp at h
  | seq a b iha ihb =>
    intro as as' x h
    simp only [strip] at h
    split at h
    · rename_i y as1 h1
      split at h
      · rename_i z as2 h2
        simp only [Option.some.injEq, Prod.mk.injEq] at h; rw [← h.1]; exact .seq _ _ _ _ (iha h1) (ihb h2)
      · simp at h
    · simp at h
  | cond c a b iha ihb =>
    intro as as' x h
    simp only [strip] at h
    split at h
    · rename_i y as1 h1
      split at h
      · rename_i z as2 h2
        simp only [Option.some.injEq, Prod.mk.injEq] at h; rw [← h.1]; exact .cond _ _ _ _ _ (iha h1) (ihb h2)
      · simp at h
    · simp at h
  | block id c ih =>
    intro as as' x h
    simp only [strip] at h
    split at h
    · rename_i y as1 h1
      simp only [Option.some.injEq, Prod.mk.injEq] at h; rw [← h.1]; exact .block _ _ _ (ih h1)
    · simp at h
  | loop c ih =>
    intro as as' x h
    simp only [strip] at h
    split at h
    · rename_i live as1
      split at h
      · rename_i y as2 h1
        simp only [Option.some.injEq, Prod.mk.injEq] at h; rw [← h.1]; exact .loop _ _ _ (ih h1)
      · simp at h
    · simp at h
  | exit id => intro as as' x h; simp only [strip, Option.some.injEq, Prod.mk.injEq] at h; rw [← h.1]; exact .exit id
  | ret => intro as as' x h; simp only [strip, Option.some.injEq, Prod.mk.injEq] at h; rw [← h.1]; exact .ret
  | rangeFunc => intro as as' x h; simp [strip] at h
  | scope => intro as as' x h; simp [strip] at h
  | label => intro as as' x h; simp [strip] at h
  | goto => intro as as' x h; simp [strip] at h
  | refuse => intro as as' x h; simp [strip] at h
end Go.Av
