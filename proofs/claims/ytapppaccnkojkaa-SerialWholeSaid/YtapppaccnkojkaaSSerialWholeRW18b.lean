/- The gate's layer: who is let, a pulse that is let. No conditions. -/
import Derived.Test.YtapppaccnkojkaaSSerialWholeRW18
import Derived.Test.YtapppaccnkojkaaSSerialWholeRW14c
set_option linter.unusedVariables false
set_option linter.unusedSimpArgs false
namespace Go.Proofs.Ytapppaccnkojkaa.R
open Go Go.RowKit Go.Proofs.Ytapppaccnkojkaa
set_option maxRecDepth 100000
set_option maxHeartbeats 8000000
section
variable {W0 : World}
theorem i64_lit (n : Int) (h : -9223372036854775808 ≤ n ∧ n ≤ 9223372036854775807) : inI64 n := h
end
end Go.Proofs.Ytapppaccnkojkaa.R
