/- The shift's layer: one that was made, over the logic of partial memories. No conditions. -/
import Derived.Test.YtapppaccnkojkaaSActiveTellsRW15b
set_option linter.unusedVariables false
set_option linter.unusedSimpArgs false
namespace Go.Proofs.Ytapppaccnkojkaa.R
open Go Go.RowKit Go.Proofs.Ytapppaccnkojkaa
set_option maxRecDepth 100000
set_option maxHeartbeats 8000000
section
variable {W0 : World}
/-- What was looked at of a half of a bit. -/
structure Lk where
  seen : Bool
  a : Bool
  b : Bool
  c : Bool
  d : Bool
def Lk.cs (x : Lk) : List Value := [.bool x.seen, .bool x.a, .bool x.b, .bool x.c, .bool x.d]
def cs2 (x : Lk × Lk) : List Value := x.1.cs ++ x.2.cs
/-- What a line says of a bit, and whether it says one. -/
def Lk.at (x : Lk) (line : Int) : Bool := if line = 0 then x.a else if line = 1 then x.b else if line = 2 then x.c else x.d
end
end Go.Proofs.Ytapppaccnkojkaa.R
