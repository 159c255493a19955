/- The check's layer: one that nobody made, one that was made. No conditions. -/
import Derived.Test.YtapppaccnkojkaaSSerialWholeRW18
import Derived.Test.YtapppaccnkojkaaSSerialWholeRW14c
import Derived.Test.YtapppaccnkojkaaRKp
set_option linter.unusedVariables false
set_option linter.unusedSimpArgs false
namespace Go.Proofs.Ytapppaccnkojkaa.R
open Go Go.RowKit Go.Proofs.Ytapppaccnkojkaa
set_option maxRecDepth 100000
set_option maxHeartbeats 8000000
section
variable {W0 : World}
end
end Go.Proofs.Ytapppaccnkojkaa.R
