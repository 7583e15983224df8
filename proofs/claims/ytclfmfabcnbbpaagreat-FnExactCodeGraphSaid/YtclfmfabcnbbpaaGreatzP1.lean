/-
  CodeGraph of the program and of the reference answer alike for every code, and the call leaves its argument alone and shares no memory. No condition.
-/
import Derived.Test.YtclfmfabcnbbpaaGreatRows
import Derived.Test.YtclfmfabcnbbpaaGreatzWH
import Derived.WalkKit
import Derived.ProofKit
import Derived.OpenShut
import Derived.Below
import Derived.Carry
import Derived.Deep.Strs
import Derived.Lib.SmallJoins
set_option linter.unusedSimpArgs false
set_option linter.unusedVariables false
set_option maxHeartbeats 400000000
namespace Go.Proofs.YtclfmfabcnbbpaaGreat.fnExactCodeGraph
open Go.ChangeShapes Go.WideShapes Go.ChangeAt Go.RowKit Go.Av
theorem own : ownKnob Tryz.prog.godebug = none:=by kernel_rfl
theorem laid : laidOutB Tryz.prog = true:=by kernel_rfl
theorem andI {a b : Bool} (h1 : a = true) (h2 : b = true) : (a && b) = true:=by rw [h1,h2];rfl
theorem reads2 {H : Type} {enc : TypeId × Value → H} {w : World} {fuel : Nat} {cs : List Value} {x : DataW H × List MemPlace} (h : DataW.trod enc Tryz.prog w 0 (fun _=>true) true fuel 2 cs = some x) : ∃ (y : Int),Reads w [I y] cs ∧ (Lit.int .i64 y).wf = true:=by
 exact reads_int Tryz.underlying2 h
theorem reads22 {H : Type} {enc : TypeId × Value → H} {w : World} {fuel : Nat} {cs : List Value} {x : DataW H × List MemPlace} (h : DataW.trod enc Tryz.prog w 0 (fun _=>true) true fuel 22 cs = some x) : ∃ (y : List Int),Reads w [ilS y] cs ∧ (∀ n ∈ y,(Lit.int .i64 n).wf = true):=by
 exact reads_ints Tryz.underlying22 (by rw [show Tryz.prog.cellsOf 2 = 1 by kernel_rfl];decide) Tryz.underlying2 h
theorem trod_struct3 {H : Type} {enc : TypeId × Value → H} {P : Program} {w : World} {base : Nat} {spare : Nat → Bool} {held : Bool} {t : TypeId} {f0 f1 f2 : Field} {fuel : Nat} {cs : List Value} {x : DataW H × List MemPlace} (ht : P.underlying t = some (.struct #[f0,f1,f2])) (h : DataW.trod enc P w base spare held fuel t cs = some x) :
  ∃ y0 y1 y2 n,x = (.agg [y0.1,y1.1,y2.1],y0.2 ++ (y1.2 ++ y2.2)) ∧ cs.length = P.cellsOf t ∧ DataW.trod enc P w base spare held n f0.type ((cs.drop f0.offset).take (P.cellsOf f0.type)) = some y0 ∧
   DataW.trod enc P w base spare held n f1.type ((cs.drop f1.offset).take (P.cellsOf f1.type)) = some y1 ∧ DataW.trod enc P w base spare held n f2.type ((cs.drop f2.offset).take (P.cellsOf f2.type)) = some y2:=by
 obtain ⟨xs,n,_,rfl,hl,hlen,hf⟩:=DataW.trod_struct ht h
 match xs,hlen with
 | [y0,y1,y2],_=>exact ⟨y0,y1,y2,n,by simp,hl,by simpa using hf 0 f0 rfl,by simpa using hf 1 f1 rfl,by simpa using hf 2 f2 rfl⟩
theorem reads24 {H : Type} {enc : TypeId × Value → H} {w : World} {fuel : Nat} {cs : List Value} {x : DataW H × List MemPlace} (h : DataW.trod enc Tryz.prog w 0 (fun _=>true) true fuel 24 cs = some x) : ∃ (y0 : Int) (y1 : Int) (y2 : List Int),Reads w [I y0,I y1,ilS y2] cs ∧ ((Lit.int .i64 y0).wf = true ∧ (Lit.int .i64 y1).wf = true ∧ (∀ n ∈ y2,(Lit.int .i64 n).wf = true)):=by
 obtain ⟨z0,z1,z2,n,_,hl,h0,h1,h2⟩:=trod_struct3 Tryz.underlying24 h
 obtain ⟨y0,r0,g0⟩:=reads2 h0
 obtain ⟨y1,r1,g1⟩:=reads2 h1
 obtain ⟨y2,r2,g2⟩:=reads22 h2
 exact ⟨y0,y1,y2,reads_struct3 hl (by kernel_rfl) (by kernel_rfl) (by kernel_rfl) (by kernel_rfl) r0 r1 r2,g0,g1,g2⟩
theorem reads25 {H : Type} {enc : TypeId × Value → H} {w : World} {fuel : Nat} {cs : List Value} {x : DataW H × List MemPlace} (h : DataW.trod enc Tryz.prog w 0 (fun _=>true) true fuel 25 cs = some x) : ∃ (y : List (List Int)),Reads w [ilSS y] cs ∧ (∀ xs ∈ y,∀ n ∈ xs,(Lit.int .i64 n).wf = true):=by
 exact reads_intss Tryz.underlying25 (by rw [show Tryz.prog.cellsOf 22 = 1 by kernel_rfl];decide) Tryz.underlying22 (by rw [show Tryz.prog.cellsOf 2 = 1 by kernel_rfl];decide) Tryz.underlying2 h
theorem reads27 {H : Type} {enc : TypeId × Value → H} {w : World} {fuel : Nat} {cs : List Value} {x : DataW H × List MemPlace} (h : DataW.trod enc Tryz.prog w 0 (fun _=>true) true fuel 27 cs = some x) : ∃ (y00 : Int) (y01 : Int) (y02 : List Int) (y1 : List (List Int)),Reads w [I y00,I y01,ilS y02,ilSS y1] cs ∧ (((Lit.int .i64 y00).wf = true ∧ (Lit.int .i64 y01).wf = true ∧ (∀ n ∈ y02,(Lit.int .i64 n).wf = true)) ∧ (∀ xs ∈ y1,∀ n ∈ xs,(Lit.int .i64 n).wf = true)):=by
 obtain ⟨z0,z1,n,_,hl,h0,h1⟩:=trod_struct2 Tryz.underlying27 h
 obtain ⟨y00,y01,y02,r0,g0⟩:=reads24 h0
 obtain ⟨y1,r1,g1⟩:=reads25 h1
 exact ⟨y00,y01,y02,y1,reads_struct2 hl (by kernel_rfl) (by kernel_rfl) (by kernel_rfl) r0 r1,g0,g1⟩
theorem readable : ∀ t ∈ (#[27] : Array TypeId).toList,Tryz.prog.readableRec t = true ∧ t < Tryz.prog.types.size:=by
 intro t ht
 simp only [List.mem_cons,List.not_mem_nil,or_false] at ht
 subst ht
 all_goals exact ⟨by kernel_rfl,of_decide_eq_true (by kernel_rfl)⟩
set_option maxRecDepth 100000 in
theorem lifted (os : Os) (started : os.Started) (H : Type) (enc : TypeId × Value → H) :
  ReturnsInHanded {} Tryz.checked os 3 .any (Rows.fnExactCodeGraphSpec.pre6 enc Tryz.prog Tryz.f3 Rows.fnExactCodeGraphRow.domain false) (Rows.fnExactCodeGraphSpec.post enc Tryz.prog Tryz.f3 false true false false):=by
 refine returnsInHanded_of_change (C:=Tryz.checked) own started (by kernel_rfl) Tryz.func3
  (ChangeSpec.witness6 (enc:=enc) (C:=Tryz.checked) false ⟨#[],#[.agg #[.int .i64 0,.int .i64 0,.slice none 0 0,.slice none 0 0]],[]⟩ 8 (by kernel_rfl) (by kernel_rfl) (by kernel_rfl) (by kernel_rfl)) ?_
 intro W base args ds gs before hval0 hW hcnd _
 have hval : ∀ (j : Nat) t v,Tryz.f3.params[j]? = some t → args[j]? = some v → Value.okWide Tryz.prog W .any base t v:=hval0
 have hW':=hW
 obtain ⟨p,q,hA0,hV,rfl,hfz,hnd⟩:=hW
 have hA : DataW.TrodAll enc Tryz.prog W 0 (fun _=>true) true Tryz.f3.params.toList args.toList ds p:=hA0
 rw [Tryz.params3] at hA hval
 have hlt : ∀ x ∈ p,x.block < W.heap.size:=fun x hx=>hW'.lt x (List.mem_append_left _ hx)
 have hAk:=hA
 obtain ⟨v0,vs0,d0,ds0,p0,q0,hargs,rfl,rfl,h0,r0⟩:=trodAll_cons hA
 obtain ⟨rfl,rfl,rfl⟩:=trodAll_nil r0
 obtain rfl : args = #[v0]:=by cases args;simp_all
 obtain ⟨rfl,rfl⟩:=trodVars_none hV
 obtain ⟨fu0,hf0⟩:=h0
 obtain ⟨arr0,rfl,_⟩:=okWide_struct Tryz.underlying27 (hval 0 27 v0 rfl rfl)
 obtain ⟨a0_00,a0_01,a0_02,a0_1,e0,w0⟩:=reads27 hf0
 have k0:=e0.relagg
 clear hA0 hval0
 simp only [List.append_nil] at hW'
 refine (ACalls.topF (args:=[.agg [I a0_00,I a0_01,ilS a0_02,ilSS a0_1]]) (lawCodeGraph_ok [] a0_00 a0_01 a0_02 a0_1 w0.1.2.1) _ (Rels.cons k0 (Rels.nil _ _))).mono fun e W' ⟨he,hg⟩=>?_
 subst he
 exact ⟨_,rfl,⟨_,_,_,[],_,[],hW',trodAll_mk1 (shut_bool Tryz.underlying4 _),trodAll_below laid hg (by rw [Tryz.params3];exact readable) (by rw [Tryz.params3];exact hAk) hlt,rfl,hg.frame _,fun h=>by cases h⟩⟩
theorem over : Rows.fnExactCodeGraphRow.holds Tryz.pinned (OpenSpec.ofChange Rows.fnExactCodeGraphSpec) :=
 OpenClaim.holds_of_wide 3 Tryz.f3 rfl rfl rfl rfl rfl rfl rfl ⟨rfl,rfl,rfl,rfl,rfl⟩ rfl rfl rfl rfl rfl (by kernel_rfl) Tryz.func3 (by unfold joinedFacts;(repeat' with_reducible refine andI ?_ ?_);all_goals (as_aux_lemma=>kernel_rfl))
  (of_decide_eq_true (by kernel_rfl)) (by unfold Func.isWrapper;first|(rw [if_pos (by decide +kernel)];kernel_rfl)|(rw [if_neg (by decide +kernel)];exact ⟨rfl,rfl⟩))
  (fun os started H enc _=>lifted os started H enc)
theorem proved : Rows.FnExactCodeGraphSaid :=
 over
#print axioms proved
end Go.Proofs.YtclfmfabcnbbpaaGreat.fnExactCodeGraph