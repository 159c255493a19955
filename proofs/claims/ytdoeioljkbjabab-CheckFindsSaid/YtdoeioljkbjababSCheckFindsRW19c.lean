/- The check's layer: looks that are counted, a partner that is apart. No conditions. -/
import Derived.Test.YtdoeioljkbjababSCheckFindsRW19b
set_option linter.unusedVariables false
set_option linter.unusedSimpArgs false
namespace Go.Proofs.Ytdoeioljkbjabab.R
open Go Go.RowKit Go.Proofs.Ytdoeioljkbjabab
set_option maxRecDepth 100000
set_option maxHeartbeats 8000000
section
variable {W0 : World}
/-- How many looks there were ahead of a place. -/
def cntC (b w p : Int) : Int := max 0 (min (16 * w) ((p - b + 4) / 10))
theorem look_iff {s : SlotV} {c p : Int} (hw : 1 ≤ s.words ∧ s.words ≤ 8) : lookI s c p = true ↔ bg s c ≠ 0 ∧ bg s c ≤ p ∧ p < bg s c + 160 * s.words ∧ (p - bg s c) % 10 = 5 := by
  have hl : longW s.words = 8 * s.words := by unfold longW; rw [if_neg (by omega)]
  have hb : 0 ≤ bg s c := by unfold bg; split <;> omega
  unfold lookI atN atT wiB wiD
  by_cases h : bg s c = 0 ∨ p < bg s c
  · rw [if_pos h]; simp; omega
  · rw [if_neg h, if_neg h, hl]
    by_cases h2 : p - bg s c < 20 * (8 * s.words)
    · simp [h2]; omega
    · simp [h2]; omega
theorem look_cnt {s : SlotV} {c p : Int} (hw : 1 ≤ s.words ∧ s.words ≤ 8) (hb : bg s c ≠ 0) : cntC (bg s c) s.words (p + 1) = if lookI s c p then cntC (bg s c) s.words p + 1 else cntC (bg s c) s.words p := by
  have := look_iff (s := s) (c := c) (p := p) hw
  have h0 : 0 ≤ bg s c := by unfold bg; split <;> omega
  unfold cntC
  split
  · rename_i h
    have := this.1 h
    omega
  · rename_i h
    have : ¬ (bg s c ≠ 0 ∧ bg s c ≤ p ∧ p < bg s c + 160 * s.words ∧ (p - bg s c) % 10 = 5) := fun e => h (this.2 e)
    omega
theorem look_words {s : SlotV} {c p a : Int} {ws : List Int} {y : Bool} (hw : 1 ≤ s.words ∧ s.words ≤ 8) (ha : -4 ≤ a ∧ a ≤ 4) (hl : lookI s c p = true) : wordsL s c ws y (p + a) = wordsL s c ws y p := by
  have h := (look_iff hw).1 hl
  have hlw : longW s.words = 8 * s.words := by unfold longW; rw [if_neg (by omega)]
  have e1 : ∀ q, bg s c ≤ q → q < bg s c + 160 * s.words → atN s c q = (q - bg s c) / 20 ∧ atT s c q = (q - bg s c) % 20 := fun q h1 h2 => by
    have hB : wiB s c q = true := by unfold wiB; rw [if_neg (by omega), hlw]; simp; omega
    have hD : wiD s c q = q - bg s c := by unfold wiD; rw [if_neg (by omega)]
    unfold atN atT
    rw [hB, hD]; exact ⟨rfl, rfl⟩
  obtain ⟨n1, t1⟩ := e1 p h.2.1 h.2.2.1
  obtain ⟨n2, t2⟩ := e1 (p + a) (by omega) (by omega)
  have hn : (p + a - bg s c) / 20 = (p - bg s c) / 20 := by omega
  unfold wordsL
  rw [n1, n2, t1, t2, hn]
  congr 2
  unfold lvl
  have g1 : ¬ ((p + a - bg s c) % 20 < 0 ∨ 20 ≤ (p + a - bg s c) % 20) := by omega
  have g2 : ¬ ((p - bg s c) % 20 < 0 ∨ 20 ≤ (p - bg s c) % 20) := by omega
  rw [if_neg g1, if_neg g2]
  by_cases h5 : (p - bg s c) % 20 < 10
  · rw [if_pos h5, if_pos (by omega)]
  · rw [if_neg h5, if_neg (by omega)]
theorem look_drv {s : SlotV} {c p : Int} {ws : List Int} {y : Bool} (hw : 1 ≤ s.words ∧ s.words ≤ 8) (hn : s.words ≤ ws.length) (hl : lookI s c p = true) : ∃ b, wordsL s c ws y p = drv y b := by
  have h := (look_iff hw).1 hl
  have hlw : longW s.words = 8 * s.words := by unfold longW; rw [if_neg (by omega)]
  have hB : wiB s c p = true := by unfold wiB; rw [if_neg (by omega), hlw]; simp; omega
  have hD : wiD s c p = p - bg s c := by unfold wiD; rw [if_neg (by omega)]
  have hN : atN s c p = (p - bg s c) / 20 := by unfold atN; rw [hB, hD]; rfl
  unfold wordsL
  rw [if_pos (by unfold inB; rw [hN]; simp; omega)]
  exact ⟨_, rfl⟩
theorem bad_same (l : Int) : badL l l = false := by simp [badL]
theorem bad_0 (y b : Bool) : badL 0 (drv y b) = true := by cases y <;> cases b <;> decide
theorem bad_1 (y b : Bool) : badL (pulL y) (drv y b) = true := by cases y <;> cases b <;> decide
theorem bad_2 (y b : Bool) : badL (bits .andNot .u8 (pulL y) (drv y b)) (drv y b) = true := by cases y <;> cases b <;> decide
end
end Go.Proofs.Ytdoeioljkbjabab.R
