import Derived.Test.YtdoeioljkbjabaaSMajorHoldsRT
import Derived.Test.YtdoeioljkbjabaaRLib2
import Derived.Test.YtdoeioljkbjabaaSMajorHoldsRW02h
set_option linter.unusedVariables false
set_option linter.unusedSimpArgs false
namespace Go.Proofs.Ytdoeioljkbjabaa.R
open Go Go.RowKit Go.Proofs.Ytdoeioljkbjabaa
set_option maxRecDepth 100000
set_option maxHeartbeats 400000
section
variable {W0 : World}
end
end Go.Proofs.Ytdoeioljkbjabaa.R
