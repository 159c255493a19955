/- The plan's layer: windows, over the logic of partial memories. No conditions. -/
import Derived.Test.YtapppaccnkojkaaSSerialWholeRW07
import Derived.Test.YtapppaccnkojkaaRAuto
import Derived.Test.YtapppaccnkojkaaROpen
import Derived.Test.YtapppaccnkojkaaSSerialWholeRSl
set_option linter.unusedVariables false
set_option linter.unusedSimpArgs false
namespace Go.Proofs.Ytapppaccnkojkaa.R
open Go Go.RowKit Go.Proofs.Ytapppaccnkojkaa
set_option maxRecDepth 100000




set_option maxHeartbeats 400000
section
variable {W0 : World}
end
end Go.Proofs.Ytapppaccnkojkaa.R
