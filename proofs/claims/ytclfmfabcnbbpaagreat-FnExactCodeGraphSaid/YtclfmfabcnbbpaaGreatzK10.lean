/- Differences; new lists. -/
import Derived.Test.YtclfmfabcnbbpaaGreatzK6
import Derived.Test.YtclfmfabcnbbpaaGreatzK8
import Derived.Test.YtclfmfabcnbbpaaGreatzAv17
set_option linter.unusedSimpArgs false
set_option linter.unusedVariables false
set_option maxHeartbeats 4000000
set_option maxRecDepth 100000
namespace Go.Proofs.YtclfmfabcnbbpaaGreat
open Go.Av
def NewL (P : Program) (f : FuncId) (args : List AV) (xs : List Int) : Prop :=
 ∀ H,ACalls P f args H fun r H'=>∃ ext,H' = H ++ ext ∧ OwnS H' (Btw H.length H'.length) H'.length r xs
theorem NewL.lend {P : Program} {f : FuncId} {args args' : List AV} {xs : List Int} (h : NewL P f args' xs) {H : List Blk} (hf : Frozs H args args') : ACalls P f args H fun r H'=>∃ ext,H' = H ++ ext ∧ OwnS H' (Btw H.length H'.length) H'.length r xs:=by
 refine ((h []).lend hf ?_).mono ?_
 ·rintro r H0 ⟨ext,rfl,ho⟩
  exact ho.ov
 ·rintro r H' ⟨r0,H0,⟨ext,rfl,ho⟩,rfl,rfl⟩
  refine ⟨_,rfl,?_⟩
  have h2:=ho.sh (H:=H) (N':=Btw H.length (H ++ H0.map (shB H.length)).length) (fun i hi=>by
   unfold Btw at hi ⊢
   simp at hi ⊢;omega)
  have e : H.length + H0.length = (H ++ H0.map (shB H.length)).length:=by simp
  rw [e] at h2
  exact h2
theorem NewL.lendf {P : Program} {f : FuncId} {args args' : List AV} {xs : List Int} (h : NewL P f args' xs) {H : List Blk} (hf : Frozs H args args') : ACalls P f args H fun r H'=>r = ilS xs ∧ H' = H:=by
 refine (h.lend hf).gr ?_
 rintro r H' ⟨ext,rfl,ho⟩
 exact GR.froz (ho.froz (fun i hi=>hi.1)) ⟨rfl,rfl⟩
theorem NewL.lendq {P : Program} {f : FuncId} {args args' : List AV} {xs : List Int} (h : NewL P f args' xs) {H : List Blk} (hf : Frozs H args args') : AFn P f args H (ilS xs):=fun ext=>h.lendf (hf.append ext)
theorem NewL.pfn {P : Program} {f : FuncId} {args : List AV} {xs : List Int} (h : NewL P f args xs) : PFn P f args (ilS xs):=by
 intro H
 refine (h H).gr ?_
 rintro r H' ⟨ext,rfl,ho⟩
 exact GR.froz (ho.froz (fun i hi=>hi.1)) ⟨rfl,rfl⟩
theorem newL_of {H : List Blk} {k ver ty : Nat} {xs : List Int} {ext : List Blk} (hk : H.length ≤ k) (hr : (H ++ ext)[k]? = some ⟨ver,ty,1,xs.map I⟩) : ∃ ext',H ++ ext = H ++ ext' ∧ OwnS (H ++ ext) (Btw H.length (H ++ ext).length) (H ++ ext).length (.nm k ver 0 xs.length) xs:=by
 have:=(List.getElem?_eq_some_iff.1 hr).1
 exact ⟨ext,rfl,.inl ⟨k,ver,ty,rfl,⟨hk,this⟩,by omega,hr⟩⟩
end Go.Proofs.YtclfmfabcnbbpaaGreat