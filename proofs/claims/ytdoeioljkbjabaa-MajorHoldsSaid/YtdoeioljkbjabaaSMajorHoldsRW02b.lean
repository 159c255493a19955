/- Layer 2, words of bits: what the reference and the messages do. No conditions. -/
import Derived.Test.YtdoeioljkbjabaaSMajorHoldsRW02
set_option linter.unusedVariables false
set_option linter.unusedSimpArgs false
namespace Go.Proofs.Ytdoeioljkbjabaa.R
open Go Go.RowKit Go.Proofs.Ytdoeioljkbjabaa
set_option maxRecDepth 100000
set_option maxHeartbeats 1000000
section
variable {W0 : World}
/-- Bits as a number, the highest first. -/
def pv (bs : List Bool) : Int := bs.foldl (fun v b => 2 * v + if b then 1 else 0) 0
def packB (bs : List Bool) (i : Nat) : Int := pv ((bs.drop (8 * i)).take 8)
def pack (bs : List Bool) : List Int := (List.range (bs.length / 8)).map (packB bs)
theorem pack_length (bs : List Bool) : (pack bs).length = bs.length / 8 := by simp [pack]
theorem pack_get (bs : List Bool) {i : Nat} (h : i < bs.length / 8) : (pack bs)[i]? = some (packB bs i) := by simp [pack, h]
end
end Go.Proofs.Ytdoeioljkbjabaa.R
