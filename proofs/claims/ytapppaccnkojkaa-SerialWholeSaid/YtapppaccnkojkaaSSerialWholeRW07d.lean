/- The plan's layer: what a module has of a frame, over the logic of partial memories. No conditions. -/
import Derived.Test.YtapppaccnkojkaaSSerialWholeRW07c
set_option linter.unusedVariables false
set_option linter.unusedSimpArgs false
namespace Go.Proofs.Ytapppaccnkojkaa.R
open Go Go.RowKit Go.Proofs.Ytapppaccnkojkaa
set_option maxRecDepth 100000
set_option maxHeartbeats 8000000
section
variable {W0 : World}
def SlotV.cs (s : SlotV) : List Value := [.int .i64 s.kind, .int .i64 s.start, .int .i64 s.long, .int .i64 s.words, .int .i64 s.addr, .int .i64 s.many, .int .i64 s.cand, .bool s.take]
end
end Go.Proofs.Ytapppaccnkojkaa.R
