/- Sorting by the library's function, by a comparison that only looks. -/
import Derived.Test.YtclfmfabcnbbpaaGreatzS1
import Derived.Test.YtclfmfabcnbbpaaGreatzK1
import Derived.Test.YtclfmfabcnbbpaaGreatzAvC
import Derived.Test.YtclfmfabcnbbpaaGreatzL2
set_option linter.unusedSimpArgs false
set_option linter.unusedVariables false
set_option maxHeartbeats 4000000
set_option maxRecDepth 100000
namespace Go.Sort
end Go.Sort
namespace Go.Av
open Go.RowKit Go.Sort Go.Proofs
theorem Blw.grownS {w w' : World} (h : Blw w.heap.size w w') : ∃ q os',w' = grow (w.drewN q) os':=by
 refine ⟨w'.drawn - w.drawn,w'.heap.extract w.heap.size w'.heap.size,?_⟩
 obtain ⟨h1,h2,h3,h4,h5,h6⟩:=h
 cases w' with
 | mk heap tape drawn os output =>
 cases w with
 | mk heap0 tape0 drawn0 os0 output0 =>
 simp only at h1 h2 h3 h4 h5 h6
 subst h1;subst h2;subst h3
 have e1 : drawn = drawn0 + (drawn - drawn0):=by omega
 have e2 : heap = heap0 ++ heap.extract heap0.size heap.size:=by
  apply Array.ext_getElem?
  intro k
  by_cases hk : k < heap0.size
  ·rw [Array.getElem?_append_left hk,h5 k hk]
  ·rw [Array.getElem?_append_right (by omega),Array.getElem?_extract]
   by_cases hk2 : k < heap.size
   ·rw [if_pos (by omega)];congr 1;omega
   ·rw [if_neg (by omega),Array.getElem?_eq_none (by omega)]
 show (⟨heap,tape,drawn,os,output⟩ : World) = ⟨heap0 ++ heap.extract heap0.size heap.size,tape,drawn0 + (drawn - drawn0),os,output⟩
 rw [← e2,← e1]
end Go.Av
namespace Go.Proofs.YtclfmfabcnbbpaaGreat
open Go.Av Go.Sort
end Go.Proofs.YtclfmfabcnbbpaaGreat