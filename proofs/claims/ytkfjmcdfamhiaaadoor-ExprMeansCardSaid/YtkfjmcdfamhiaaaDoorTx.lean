/-
  Plain: an expression's text (chapter 12.2), as a machine with a stack of pieces. No program in sight.
-/
import Derived.Test.YtkfjmcdfamhiaaaDoorEv
import Derived.Test.YtkfjmcdfamhiaaaDoorEp
import Derived.Test.YtkfjmcdfamhiaaaDoorDt
namespace Go.Proofs.YtkfjmcdfamhiaaaDoor.Tx
open Go.Proofs.YtkfjmcdfamhiaaaDoor.Dp Go.Proofs.YtkfjmcdfamhiaaaDoor.Fr

/-- A written expression: its text, how tightly it binds, how deep it is. -/
abbrev P := List UInt8 × Int × Int
def rk (k : Int) : Int := if k = 3 ∨ k = 4 then 1 else if k = 5 ∨ k = 6 then 2 else 3
def insideV (p : P) (least : Int) : P := if least ≤ p.2.1 then p else (40 :: (p.1 ++ [41]), 3, p.2.2 + 1)
def sign (k : Int) : UInt8 := if k = 4 then 45 else if k = 5 then 120 else if k = 6 then 47 else 43
def pairV (k : Int) (a b : P) : P := ((insideV a (rk k)).1 ++ sign k :: (insideV b (rk k + 1)).1, 0, max (insideV a (rk k)).2.2 (insideV b (rk k + 1)).2.2)
end Go.Proofs.YtkfjmcdfamhiaaaDoor.Tx
