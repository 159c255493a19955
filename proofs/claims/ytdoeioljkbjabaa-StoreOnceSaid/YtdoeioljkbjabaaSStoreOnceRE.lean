/- The laws' parameters as Lean structures, and what their cells read as. Written by genrow2.py. No conditions. -/
import Derived.Test.YtdoeioljkbjabaaROpen
import Derived.Test.YtdoeioljkbjabaaRows
import Derived.KernelRfl
set_option linter.unusedVariables false
set_option linter.unusedSimpArgs false
namespace Go.Proofs.Ytdoeioljkbjabaa.R
open Go Go.ChangeShapes Go.WideShapes
end Go.Proofs.Ytdoeioljkbjabaa.R
