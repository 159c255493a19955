/- The check's layer: looks that are counted, a partner that is apart. No conditions. -/
import Derived.Test.YtapppaccnkojkaaSSerialWholeRW19b
set_option linter.unusedVariables false
set_option linter.unusedSimpArgs false
namespace Go.Proofs.Ytapppaccnkojkaa.R
open Go Go.RowKit Go.Proofs.Ytapppaccnkojkaa
set_option maxRecDepth 100000
set_option maxHeartbeats 8000000
section
variable {W0 : World}
/-- How many looks there were ahead of a place. -/
def cntC (b w p : Int) : Int := max 0 (min (16 * w) ((p - b + 4) / 10))
theorem look_iff {s : SlotV} {c p : Int} (hw : 1 ≤ s.words ∧ s.words ≤ 8) : lookI s c p = true ↔ bg s c ≠ 0 ∧ bg s c ≤ p ∧ p < bg s c + 160 * s.words ∧ (p - bg s c) % 10 = 5 := by
  have hl : longW s.words = 8 * s.words := by unfold longW; rw [if_neg (by omega)]
  have hb : 0 ≤ bg s c := by unfold bg; split <;> omega
  unfold lookI atN atT wiB wiD
  by_cases h : bg s c = 0 ∨ p < bg s c
  · rw [if_pos h]; simp; omega
  · rw [if_neg h, if_neg h, hl]
    by_cases h2 : p - bg s c < 20 * (8 * s.words)
    · simp [h2]; omega
    · simp [h2]; omega
theorem look_cnt {s : SlotV} {c p : Int} (hw : 1 ≤ s.words ∧ s.words ≤ 8) (hb : bg s c ≠ 0) : cntC (bg s c) s.words (p + 1) = if lookI s c p then cntC (bg s c) s.words p + 1 else cntC (bg s c) s.words p := by
  have := look_iff (s := s) (c := c) (p := p) hw
  have h0 : 0 ≤ bg s c := by unfold bg; split <;> omega
  unfold cntC
  split
  · rename_i h
    have := this.1 h
    omega
  · rename_i h
    have : ¬ (bg s c ≠ 0 ∧ bg s c ≤ p ∧ p < bg s c + 160 * s.words ∧ (p - bg s c) % 10 = 5) := fun e => h (this.2 e)
    omega
end
end Go.Proofs.Ytapppaccnkojkaa.R
