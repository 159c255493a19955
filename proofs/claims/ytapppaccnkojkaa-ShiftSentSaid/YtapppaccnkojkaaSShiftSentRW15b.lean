/- The shift's layer: what was looked at, over the logic of partial memories. No conditions. -/
import Derived.Test.YtapppaccnkojkaaSShiftSentRW15
set_option linter.unusedVariables false
set_option linter.unusedSimpArgs false
namespace Go.Proofs.Ytapppaccnkojkaa.R
open Go Go.RowKit Go.Proofs.Ytapppaccnkojkaa
set_option maxRecDepth 100000
set_option maxHeartbeats 8000000
section
variable {W0 : World}
end
end Go.Proofs.Ytapppaccnkojkaa.R
