/- Layer 2: bits of words, words of bits, a word that is known. No conditions. -/
import Derived.Test.YtapppaccnkojkaaSSerialWholeRW02c
set_option linter.unusedVariables false
set_option linter.unusedSimpArgs false
namespace Go.Proofs.Ytapppaccnkojkaa.R
open Go Go.RowKit Go.Proofs.Ytapppaccnkojkaa
set_option maxRecDepth 100000
set_option maxHeartbeats 1000000
section
variable {W0 : World}
def bitsOf (ws : List Int) : List Bool := (List.range (8 * ws.length)).map fun i => bitAt ws (i : Nat)
theorem bitsOf_length (ws : List Int) : (bitsOf ws).length = 8 * ws.length := by simp [bitsOf]
theorem bitsOf_get (ws : List Int) {i : Nat} (h : i < 8 * ws.length) : (bitsOf ws)[i]? = some (bitAt ws (i : Nat)) := by simp [bitsOf, h]
end
end Go.Proofs.Ytapppaccnkojkaa.R
