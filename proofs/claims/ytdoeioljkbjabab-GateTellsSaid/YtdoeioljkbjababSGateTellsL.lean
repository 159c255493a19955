/- The law GateTells, over the logic of partial memories: whatever slot, role and numbers come, it is true. No conditions. -/
import Derived.Test.YtdoeioljkbjababSGateTellsL1
import Derived.Test.YtdoeioljkbjababSGateTellsL2
import Derived.Test.YtdoeioljkbjababSGateTellsL3
set_option linter.unusedVariables false
set_option linter.unusedSimpArgs false
namespace Go.Proofs.Ytdoeioljkbjabab.R
open Go Go.RowKit Go.Proofs.Ytdoeioljkbjabab
section
variable {W0 : World}
theorem GateTells {W0 : World} {m : Mem} {a0 : E23} (w0 : (E23.wf W0) a0) {a1 : E72} (w1 : (E72.wf W0) a1) {a2 : E68} (w2 : (E68.wf W0) a2) :
    CallA Try.prog W0 8 #[.agg a0.cs.toArray, .agg a1.cs.toArray, .agg a2.cs.toArray] m (fun v _ => v = .bool true) := by
  by_cases h : a1.Sends = true ∧ a0.Kind = 0
  · by_cases hn : 0 ≤ atN ⟨a0.Kind, a0.Start, a0.Long % 1048576, a0.Words % 16, a0.Addr, a0.Many % 8, a0.Cand, a0.Take⟩ (max (-5) (min a1.Cand 500)) (max (-1099511627776) (min a2.e0 1099511627776))
    · exact GateTells3 w0 w1 w2 ⟨h.1, h.2, hn⟩
    · exact GateTells2 w0 w1 w2 ⟨h.1, h.2, by omega⟩
  · refine GateTells1 w0 w1 w2 ?_
    cases hs : a1.Sends
    · exact .inl rfl
    · exact .inr ⟨rfl, fun hk => h ⟨hs, hk⟩⟩
end
end Go.Proofs.Ytdoeioljkbjabab.R
