/- The gate's layer: who is let, a pulse that is let. No conditions. -/
import Derived.Test.YtdoeioljkbjababSCheckSeesRW18
import Derived.Test.YtdoeioljkbjababSCheckSeesRW14c
set_option linter.unusedVariables false
set_option linter.unusedSimpArgs false
namespace Go.Proofs.Ytdoeioljkbjabab.R
open Go Go.RowKit Go.Proofs.Ytdoeioljkbjabab
set_option maxRecDepth 100000
set_option maxHeartbeats 8000000
section
variable {W0 : World}
theorem words_15 (s : SlotV) (c : Int) (ws : List Int) (y : Bool) (p : Int) : 0 ≤ wordsL s c ws y p ∧ wordsL s c ws y p ≤ 15 := by
  unfold wordsL drv; (repeat' split) <;> omega
theorem i64_lit (n : Int) (h : -9223372036854775808 ≤ n ∧ n ≤ 9223372036854775807) : inI64 n := h
end
end Go.Proofs.Ytdoeioljkbjabab.R
