/- The active layer: where a candidate that sends is seen first. No conditions. -/
import Derived.Test.YtapppaccnkojkaaSActiveTellsRW17b
import Derived.Test.YtapppaccnkojkaaSActiveTellsRW14e
set_option linter.unusedVariables false
set_option linter.unusedSimpArgs false
namespace Go.Proofs.Ytapppaccnkojkaa.R
open Go Go.RowKit Go.Proofs.Ytapppaccnkojkaa
set_option maxRecDepth 100000
set_option maxHeartbeats 8000000
section
variable {W0 : World}
/-- How many lines are high of a level, with one that may stand otherwise. -/
def hiC (st : Bool) (line : Int) (b v : Bool) : Int := if st then cntL (setL (if v then 9 else 6) line b) else 2
theorem hiC_two : ∀ (line : Fin 4) (st b v : Bool), hiC st line.val b v < 2 → 2 ≤ hiC st line.val b (!v) := by decide
theorem hiC_none : ∀ (line : Fin 4) (b : Bool), cntL (setL 0 line.val b) < 2 := by decide
theorem line4 {line : Int} (h : 0 ≤ line ∧ line < 4) : ∃ f : Fin 4, line = (f.val : Int) := ⟨⟨line.toNat, by omega⟩, by simp; omega⟩
/-- What stands at a place. -/
def standL (s : SlotV) (c : Int) (ws : List Int) (st : Bool) (line : Int) (b : Bool) (q : Int) : Int :=
  if st then setL (orL [wordsL s c ws false q, wordsL s c ws true q]) line b else orL [wordsL s c ws false q, wordsL s c ws true q]
theorem standL_u8 (s : SlotV) (c : Int) (ws : List Int) (st : Bool) (line : Int) (b : Bool) (q : Int) : U8 (standL s c ws st line b q) := by
  have h : U8 (orL [wordsL s c ws false q, wordsL s c ws true q]) := by
    show U8 (bits .or .u8 _ _)
    exact u8_bits _ _ _
  unfold standL
  split
  · exact h.set
  · exact h
/-- Where it is seen first. -/
def firstS (cd mv : Int) (ws : List Int) (st : Bool) (line : Int) (b : Bool) : Int := 40 + 80 * cd - mv + if 2 ≤ hiC st line b (bitAt ws 0) then 0 else 10
theorem at_first {w k lo cd : Int} (h : Plc w k lo cd) {q : Int} (h1 : 40 + 80 * cd ≤ q) (h2 : q < 40 + 80 * cd + 20) : atN (slotS w k lo) cd q = 0 ∧ atT (slotS w k lo) cd q = q - (40 + 80 * cd) := by
  have hb := h.bg
  have h3 := h.w8
  have h4 := h.c4
  have hl : longW w = 8 * w := by unfold longW; rw [if_neg (by omega)]
  have hB : wiB (slotS w k lo) cd q = true := by unfold wiB; rw [hb, if_neg (by omega)]; simp [hl]; omega
  have hD : wiD (slotS w k lo) cd q = q - (40 + 80 * cd) := by unfold wiD; rw [hb, if_neg (by omega)]
  unfold atN atT
  rw [hB, hD]
  constructor <;> simp <;> omega
theorem at_ahead {w k lo cd : Int} (h : Plc w k lo cd) {q : Int} (h1 : q < 40 + 80 * cd) : atN (slotS w k lo) cd q = -1 := by
  have hb := h.bg
  have hB : wiB (slotS w k lo) cd q = false := by unfold wiB; rw [hb, if_pos (Or.inr h1)]
  unfold atN
  rw [hB]; rfl
theorem stand_ahead {w k lo cd : Int} (h : Plc w k lo cd) {q : Int} (h1 : q < 40 + 80 * cd) {line : Int} (hl : 0 ≤ line ∧ line < 4) (ws : List Int) (st b : Bool) : cntL (standL (slotS w k lo) cd ws st line b q) < 2 := by
  obtain ⟨f, rfl⟩ := line4 hl
  have ha := at_ahead h h1
  have hi : inB ws.length (-1) = false := by simp [inB]
  have e : orL [wordsL (slotS w k lo) cd ws false q, wordsL (slotS w k lo) cd ws true q] = 0 := by rw [whole_words, ha, hi]; rfl
  unfold standL
  rw [e]
  split
  · exact hiC_none f b
  · decide
theorem stand_in {w k lo cd : Int} (h : Plc w k lo cd) {q : Int} (h1 : 40 + 80 * cd ≤ q) (h2 : q < 40 + 80 * cd + 20) {line : Int} {ws : List Int} (hw : 1 ≤ ws.length) (st b : Bool) :
    cntL (standL (slotS w k lo) cd ws st line b q) = hiC st line b (if q < 40 + 80 * cd + 10 then bitAt ws 0 else !bitAt ws 0) := by
  obtain ⟨ha, ht⟩ := at_first h h1 h2
  have hi : inB ws.length 0 = true := by simp [inB]; omega
  have e : orL [wordsL (slotS w k lo) cd ws false q, wordsL (slotS w k lo) cd ws true q] = if (if q < 40 + 80 * cd + 10 then bitAt ws 0 else !bitAt ws 0) then 9 else 6 := by
    rw [whole_words, ha, hi]
    simp only [↓reduceIte]
    have : levelAt (slotS w k lo) cd ws q = if q < 40 + 80 * cd + 10 then bitAt ws 0 else !bitAt ws 0 := by
      unfold levelAt lvl
      rw [ha, ht, if_neg (by omega)]
      by_cases hq : q < 40 + 80 * cd + 10
      · rw [if_pos (by omega), if_pos hq]
      · rw [if_neg (by omega), if_neg hq]
    rw [this]
  unfold standL hiC
  rw [e]
  cases st
  · simp only [Bool.false_eq_true, ↓reduceIte]
    cases (if q < 40 + 80 * cd + 10 then bitAt ws 0 else !bitAt ws 0) <;> decide
  · rfl
/-- What is seen ahead of the first place, and there. -/
theorem first_step {w k lo cd : Int} (h : Plc w k lo cd) {mv line p : Int} (hm : -5 ≤ mv ∧ mv ≤ 5) (hl : 0 ≤ line ∧ line < 4) {ws : List Int} (hw : 1 ≤ ws.length) (st b : Bool) (hp : p ≤ firstS cd mv ws st line b) :
    seen (80 * max 1 (min k 1000)) (-1) p (standL (slotS w k lo) cd ws st line b (p + mv)) = decide (p = firstS cd mv ws st line b) := by
  have h4 := h.c4; have h5 := h.k4
  have hF : firstS cd mv ws st line b = 40 + 80 * cd - mv + if 2 ≤ hiC st line b (bitAt ws 0) then 0 else 10 := rfl
  have hlt : firstS cd mv ws st line b < 80 * max 1 (min k 1000) := by rw [hF]; split <;> omega
  have hge : 20 ≤ firstS cd mv ws st line b := by rw [hF]; split <;> omega
  unfold seen
  by_cases he : p = firstS cd mv ws st line b
  · have hc : 2 ≤ cntL (standL (slotS w k lo) cd ws st line b (p + mv)) := by
      by_cases h2 : 2 ≤ hiC st line b (bitAt ws 0)
      · rw [if_pos h2] at hF
        rw [stand_in h (by omega) (by omega) hw, if_pos (by omega)]; exact h2
      · rw [if_neg h2] at hF
        rw [stand_in h (by omega) (by omega) hw, if_neg (by omega)]
        obtain ⟨f, rfl⟩ := line4 hl
        exact hiC_two f st b _ (by omega)
    simp only [he] at hc ⊢
    simp [hc]; omega
  · have hc : ¬ 2 ≤ cntL (standL (slotS w k lo) cd ws st line b (p + mv)) := by
      by_cases ha : p + mv < 40 + 80 * cd
      · have := stand_ahead h ha hl ws st b; omega
      · by_cases h2 : 2 ≤ hiC st line b (bitAt ws 0)
        · rw [if_pos h2] at hF; omega
        · rw [if_neg h2] at hF
          rw [stand_in h (by omega) (by omega) hw, if_pos (by omega)]; exact h2
    simp [he, hc]
end
end Go.Proofs.Ytapppaccnkojkaa.R
