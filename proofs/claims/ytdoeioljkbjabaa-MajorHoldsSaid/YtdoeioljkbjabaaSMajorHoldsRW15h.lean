/- The shift's layer: a bit that all lines say. No conditions. -/
import Derived.Test.YtdoeioljkbjabaaSMajorHoldsRW15g
import Derived.Test.YtdoeioljkbjabaaREq
set_option linter.unusedVariables false
set_option linter.unusedSimpArgs false
namespace Go.Proofs.Ytdoeioljkbjabaa.R
open Go Go.RowKit Go.Proofs.Ytdoeioljkbjabaa
set_option maxRecDepth 100000
set_option maxHeartbeats 8000000
section
variable {W0 : World}
end
end Go.Proofs.Ytdoeioljkbjabaa.R
