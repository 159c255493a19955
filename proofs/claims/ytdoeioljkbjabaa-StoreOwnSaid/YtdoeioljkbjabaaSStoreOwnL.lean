/- The law StoreOwn, over the logic of partial memories: whatever is written, it is true. No conditions. -/
import Derived.Test.YtdoeioljkbjabaaSStoreOwnRW13c
import Derived.Test.YtdoeioljkbjabaaSStoreOwnRW13e
import Derived.Test.YtdoeioljkbjabaaSStoreOwnRE
import Derived.Test.YtdoeioljkbjabaaSStoreOwnL1a
import Derived.Test.YtdoeioljkbjabaaSStoreOwnL1b
import Derived.Test.YtdoeioljkbjabaaSStoreOwnL2a
import Derived.Test.YtdoeioljkbjabaaSStoreOwnL2b
import Derived.Test.YtdoeioljkbjabaaSStoreOwnL3a
import Derived.Test.YtdoeioljkbjabaaSStoreOwnL3b
import Derived.Test.YtdoeioljkbjabaaSStoreOwnL4a
import Derived.Test.YtdoeioljkbjabaaSStoreOwnL4b
set_option linter.unusedVariables false
set_option linter.unusedSimpArgs false
namespace Go.Proofs.Ytdoeioljkbjabaa.R
open Go Go.RowKit Go.Proofs.Ytdoeioljkbjabaa
set_option maxRecDepth 100000
set_option maxHeartbeats 8000000
section
variable {W0 : World}
theorem StoreOwn {W0 : World} {m : Mem} {a0 : E41} (w0 : (E41.wf W0) a0) {a1 : E41} (w1 : (E41.wf W0) a1) {a2 : Int} (w2 : inI64 a2) :
    CallA Try.prog W0 7 #[.agg a0.cs.toArray, .agg a1.cs.toArray, .int .i64 a2] m (fun v _ => v = .bool true) := by
  have ha : ((right a0.At a0.W.l.length = true ∧ a0.At ≤ a2 % 64 ∧ a2 % 64 - a0.At < a0.W.l.length) ∨ right a0.At a0.W.l.length = false) ∨ (right a0.At a0.W.l.length = true ∧ (a2 % 64 < a0.At ∨ (a0.At ≤ a2 % 64 ∧ (a0.W.l.length : Int) ≤ a2 % 64 - a0.At))) := by
    cases hr : right a0.At a0.W.l.length
    · exact .inl (.inr rfl)
    · by_cases h1 : a0.At ≤ a2 % 64
      · by_cases h2 : a2 % 64 - a0.At < a0.W.l.length
        · exact .inl (.inl ⟨rfl, h1, h2⟩)
        · exact .inr ⟨rfl, .inr ⟨h1, by omega⟩⟩
      · exact .inr ⟨rfl, .inl (by omega)⟩
  cases hr : right a1.At a1.W.l.length
  · rcases ha with ha | ha
    · exact StoreOwn2a w0 w1 w2 hr ha
    · exact StoreOwn2b w0 w1 w2 hr ha
  · by_cases h1 : a1.At ≤ a2 % 64
    · by_cases h2 : a2 % 64 - a1.At < a1.W.l.length
      · rcases ha with ha | ha
        · exact StoreOwn1a w0 w1 w2 ⟨hr, h1, h2⟩ ha
        · exact StoreOwn1b w0 w1 w2 ⟨hr, h1, h2⟩ ha
      · rcases ha with ha | ha
        · exact StoreOwn4a w0 w1 w2 ⟨hr, h1, by omega⟩ ha
        · exact StoreOwn4b w0 w1 w2 ⟨hr, h1, by omega⟩ ha
    · rcases ha with ha | ha
      · exact StoreOwn3a w0 w1 w2 ⟨hr, by omega⟩ ha
      · exact StoreOwn3b w0 w1 w2 ⟨hr, by omega⟩ ha
end
end Go.Proofs.Ytdoeioljkbjabaa.R
