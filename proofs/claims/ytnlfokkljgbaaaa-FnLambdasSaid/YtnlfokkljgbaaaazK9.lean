/- TripleCover. -/
import Derived.Test.YtnlfokkljgbaaaaProg
import Derived.KernelRfl
import Derived.Test.YtnlfokkljgbaaaazK8
import Derived.Test.YtnlfokkljgbaaaazL6
import Derived.Test.YtnlfokkljgbaaaazAv17
set_option linter.unusedSimpArgs false
set_option linter.unusedVariables false
set_option maxHeartbeats 4000000
set_option maxRecDepth 100000
namespace Go.Proofs.Ytnlfokkljgbaaaa
open Go.Av
def pairS (n a b : Int) : Int := w64 (w64 (w64 (w64 ((w64 (a * (2 * n - a - 1))).tdiv 2) + b) - a) - 1)
def triS (n a b c : Nat) : List Int := [pairS n a b, pairS n a c, pairS n b c]
def tc (n a b c : Nat) : List (List Int) := ((List.range c).filter fun c => decide (b < c)).map fun c => triS n a b c
def tb (n a b : Nat) : List (List Int) := ((List.range b).filter fun b => decide (a < b)).flatMap fun b => tc n a b n
theorem Bx.of {Hb H' : List Blk} {p : Nat} {hd : AV} {xss yss : List (List Int)} (h : Bx Hb p hd xss H') (e : xss = yss) : Bx Hb p hd yss H' := e ▸ h
end Go.Proofs.Ytnlfokkljgbaaaa
