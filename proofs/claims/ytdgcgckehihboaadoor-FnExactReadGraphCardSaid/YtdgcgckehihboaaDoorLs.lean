/-
  No sorting functions of the library are reached by this program.
-/
import Derived.Test.YtdgcgckehihboaaDoorProg
namespace Go.Proofs
end Go.Proofs
