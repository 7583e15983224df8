/- Pairs of points: how many blocks hold them. -/
import Derived.Test.YtclfmfabcnbbpaaGreatzK19
import Derived.Test.YtclfmfabcnbbpaaGreatzK10
set_option linter.unusedSimpArgs false
set_option linter.unusedVariables false
set_option maxHeartbeats 4000000
set_option maxRecDepth 100000
namespace Go.Proofs.YtclfmfabcnbbpaaGreat
open Go.Av
def NewS (P : Program) (f : FuncId) (args : List AV) (xs : List Int) : Prop :=
 ∀ H,ACalls P f args H fun r H'=>r = .nm H.length 0 0 xs.length ∧ H' = H ++ [⟨0,2,1,xs.map I⟩]
theorem NewS.newL {P : Program} {f : FuncId} {args : List AV} {xs : List Int} (h : NewS P f args xs) : NewL P f args xs:=by
 intro H
 refine (h H).mono ?_
 rintro r H' ⟨rfl,rfl⟩
 exact newL_of (k:=H.length) (ver:=0) (ty:=2) (xs:=xs) (ext:=[⟨0,2,1,xs.map I⟩]) (Nat.le_refl _) (by simp)
theorem NewS.pfn {P : Program} {f : FuncId} {args : List AV} {xs : List Int} (h : NewS P f args xs) : PFn P f args (ilS xs):=h.newL.pfn
theorem asc_nodupA : ∀ {l : List Int} {lo hi : Int},asc lo hi l = true → l.Nodup
 | [],_,_,_=>List.nodup_nil
 | x :: l,lo,hi,h=>by
  simp only [asc,Bool.and_eq_true,decide_eq_true_eq] at h
  refine List.nodup_cons.2 ⟨fun hx=>?_,asc_nodupA h.2⟩
  have:=asc_mem h.2 x hx;omega
end Go.Proofs.YtclfmfabcnbbpaaGreat