/- The serial layer: what both sides come to at a place of a slot that is made. No conditions. -/
import Derived.Test.YtapppaccnkojkaaSSerialWholeRW18b
import Derived.Test.YtapppaccnkojkaaSSerialWholeRW15c
set_option linter.unusedVariables false
set_option linter.unusedSimpArgs false
namespace Go.Proofs.Ytapppaccnkojkaa.R
open Go Go.RowKit Go.Proofs.Ytapppaccnkojkaa
set_option maxRecDepth 100000
set_option maxHeartbeats 8000000
section
variable {W0 : World}
/-- A slot of so many words and candidates, where a candidate's words begin, and where it ends. -/
abbrev slotS (w k : Int) (lo : Int) : SlotV := ⟨0, 0, lo, w, 0, k, -1, false⟩
structure Plc (w k lo cd : Int) : Prop where
  w8 : 1 ≤ w ∧ w ≤ 8
  k4 : 1 ≤ k ∧ k ≤ 4
  lo_ : lo = 20 * (10 + 8 * w + 4 * (k - 1))
  c4 : 0 ≤ cd ∧ cd < k
theorem Plc.bg {w k lo cd : Int} (h : Plc w k lo cd) : R.bg (slotS w k lo) cd = 40 + 80 * cd := by
  have := h.k4; have := h.c4
  unfold R.bg; rw [if_pos (by simp; omega)]
theorem or_drv : ∀ b : Bool, orL [drv false b, drv true b] = if b then 9 else 6 := by decide
theorem or_pul : orL [pulL false, pulL true] = 15 := by decide
theorem or_00 : orL [0, 0] = 0 := by decide
/-- The level that is sent at a place. -/
def levelAt (s : SlotV) (c : Int) (ws : List Int) (p : Int) : Bool := lvl (bitAt ws (atN s c p)) (atT s c p)
theorem whole_words (s : SlotV) (c : Int) (ws : List Int) (p : Int) : orL [wordsL s c ws false p, wordsL s c ws true p] = if inB ws.length (atN s c p) then (if levelAt s c ws p then 9 else 6) else 0 := by
  unfold wordsL
  split
  · exact or_drv _
  · exact or_00
def inPul (s : SlotV) (p : Int) : Bool := decide ((pulseOf s.kind s.long).1 ≤ p) && decide (p < (pulseOf s.kind s.long).2)
theorem whole_pulse (s : SlotV) (p : Int) : orL [pulseL s false p, pulseL s true p] = if inPul s p then 15 else 0 := by
  unfold pulseL inPul
  by_cases h : p < (pulseOf s.kind s.long).1 ∨ (pulseOf s.kind s.long).2 ≤ p
  · rw [if_pos h, if_pos h, if_neg (by simp; omega)]; exact or_00
  · rw [if_neg h, if_neg h, if_pos (by simp; omega)]; exact or_pul
theorem cnts : cntL 9 = 2 ∧ cntL 6 = 2 ∧ cntL 0 = 0 ∧ cntL 15 = 4 := by decide
theorem sent_pulse {w k lo cd : Int} (h : Plc w k lo cd) {n : Nat} {p : Int} (hi : inB n (atN (slotS w k lo) cd p) = true) : inPul (slotS w k lo) p = false := by
  have hb := h.bg
  have h1 := h.w8; have h2 := h.k4; have h3 := h.lo_; have h4 := h.c4
  have hl : longW w = 8 * w := by unfold longW; rw [if_neg (by omega)]
  have hlt : p < 40 + 80 * cd + 160 * w := by
    unfold inB atN at hi
    split at hi
    · rename_i hB
      unfold wiB at hB
      rw [hb] at hB
      split at hB
      · cases hB
      · simp only [decide_eq_true_eq, hl] at hB; omega
    · simp at hi
  unfold inPul pulseOf
  simp; omega
theorem look_pulse {w k lo cd : Int} (h : Plc w k lo cd) {p : Int} (hi : lookI (slotS w k lo) cd p = true) : inPul (slotS w k lo) p = false := by
  have hb := h.bg
  have h1 := h.w8; have h2 := h.k4; have h3 := h.lo_; have h4 := h.c4
  refine sent_pulse h (n := 64) (p := p) ?_
  unfold lookI at hi
  simp only [Bool.and_eq_true, decide_eq_true_eq] at hi
  have := hi.1
  have hl : longW w = 8 * w := by unfold longW; rw [if_neg (by omega)]
  unfold inB
  simp only [Bool.and_eq_true, decide_eq_true_eq]
  refine ⟨this, ?_⟩
  unfold atN wiB wiD
  rw [hb]
  by_cases hA : 40 + 80 * cd = 0 ∨ p < 40 + 80 * cd
  · simp only [if_pos hA]; simp
  · simp only [if_neg hA, decide_eq_true_eq, hl]; split <;> omega
end
end Go.Proofs.Ytapppaccnkojkaa.R
