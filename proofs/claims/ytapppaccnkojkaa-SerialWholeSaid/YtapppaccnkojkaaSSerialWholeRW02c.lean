/- Layer 2: putting a bit, and taking the whole. No conditions. -/
import Derived.Test.YtapppaccnkojkaaSSerialWholeRW02b
set_option linter.unusedVariables false
set_option linter.unusedSimpArgs false
namespace Go.Proofs.Ytapppaccnkojkaa.R
open Go Go.RowKit Go.Proofs.Ytapppaccnkojkaa
set_option maxRecDepth 100000
set_option maxHeartbeats 1000000
section
variable {W0 : World}
end
end Go.Proofs.Ytapppaccnkojkaa.R
