/- The serial layer: what both sides come to at a place of a slot that is made. No conditions. -/
import Derived.Test.YtapppaccnkojkaaSActiveTellsRW18b
import Derived.Test.YtapppaccnkojkaaSActiveTellsRW15c
set_option linter.unusedVariables false
set_option linter.unusedSimpArgs false
namespace Go.Proofs.Ytapppaccnkojkaa.R
open Go Go.RowKit Go.Proofs.Ytapppaccnkojkaa
set_option maxRecDepth 100000
set_option maxHeartbeats 8000000
section
variable {W0 : World}
/-- A slot of so many words and candidates, where a candidate's words begin, and where it ends. -/
abbrev slotS (w k : Int) (lo : Int) : SlotV := ⟨0, 0, lo, w, 0, k, -1, false⟩
structure Plc (w k lo cd : Int) : Prop where
  w8 : 1 ≤ w ∧ w ≤ 8
  k4 : 1 ≤ k ∧ k ≤ 4
  lo_ : lo = 20 * (10 + 8 * w + 4 * (k - 1))
  c4 : 0 ≤ cd ∧ cd < k
theorem Plc.bg {w k lo cd : Int} (h : Plc w k lo cd) : R.bg (slotS w k lo) cd = 40 + 80 * cd := by
  have := h.k4; have := h.c4
  unfold R.bg; rw [if_pos (by simp; omega)]
theorem or_drv : ∀ b : Bool, orL [drv false b, drv true b] = if b then 9 else 6 := by decide
theorem or_00 : orL [0, 0] = 0 := by decide
/-- The level that is sent at a place. -/
def levelAt (s : SlotV) (c : Int) (ws : List Int) (p : Int) : Bool := lvl (bitAt ws (atN s c p)) (atT s c p)
theorem whole_words (s : SlotV) (c : Int) (ws : List Int) (p : Int) : orL [wordsL s c ws false p, wordsL s c ws true p] = if inB ws.length (atN s c p) then (if levelAt s c ws p then 9 else 6) else 0 := by
  unfold wordsL
  split
  · exact or_drv _
  · exact or_00
end
end Go.Proofs.Ytapppaccnkojkaa.R
