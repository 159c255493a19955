/- The serial layer: looks, over the logic of partial memories. No conditions. -/
import Derived.Test.YtdoeioljkbjababSGateTellsRW14
set_option linter.unusedVariables false
set_option linter.unusedSimpArgs false
namespace Go.Proofs.Ytdoeioljkbjabab.R
open Go Go.RowKit Go.Proofs.Ytdoeioljkbjabab
set_option maxRecDepth 100000
set_option maxHeartbeats 8000000
section
variable {W0 : World}
end
end Go.Proofs.Ytdoeioljkbjabab.R
