/- Layer 2: putting a bit, and taking the whole. No conditions. -/
import Derived.Test.YtdoeioljkbjabaaSMajorHoldsRW02b
set_option linter.unusedVariables false
set_option linter.unusedSimpArgs false
namespace Go.Proofs.Ytdoeioljkbjabaa.R
open Go Go.RowKit Go.Proofs.Ytdoeioljkbjabaa
set_option maxRecDepth 100000
set_option maxHeartbeats 1000000
section
variable {W0 : World}
/-- A byte with one bit told. -/
def setB (x : Int) (k : Nat) (b : Bool) : Int :=
  let y := bits .andNot .u8 x (IntKind.u8.wrap (1 * 2 ^ (min (7 - k) 8)))
  if b then bits .or .u8 y (IntKind.u8.wrap (1 * 2 ^ (min (7 - k) 8))) else y
theorem setB_pv : ∀ (b0 b1 b2 b3 b4 b5 b6 b7 b : Bool) (k : Fin 8), setB (pv [b0, b1, b2, b3, b4, b5, b6, b7]) k.val b = pv ([b0, b1, b2, b3, b4, b5, b6, b7].set k.val b) := by decide +kernel
theorem setB_list (l : List Bool) (h : l.length = 8) {k : Nat} (hk : k < 8) (b : Bool) : setB (pv l) k b = pv (l.set k b) := by
  match l, h with
  | [b0, b1, b2, b3, b4, b5, b6, b7], _ => exact setB_pv b0 b1 b2 b3 b4 b5 b6 b7 b ⟨k, hk⟩
theorem packB_set (bs : List Bool) {n : Nat} (hn : n < bs.length) (h8 : 8 * (bs.length / 8) = bs.length) (b : Bool) (i : Nat) (hi : i < bs.length / 8) :
    packB (bs.set n b) i = if i = n / 8 then setB (packB bs i) (n % 8) b else packB bs i := by
  unfold packB
  rw [List.drop_set]
  split
  · rename_i h1
    rw [if_neg (by omega)]
  · rename_i h1
    rw [List.take_set]
    split
    · rename_i e
      subst e
      rw [setB_list _ (by simp; omega) (by omega)]
      congr 2
      omega
    · rename_i e
      rw [List.set_eq_of_length_le (by simp; omega)]
theorem pack_set (bs : List Bool) {n : Nat} (hn : n < bs.length) (h8 : 8 * (bs.length / 8) = bs.length) (b : Bool) : pack (bs.set n b) = (pack bs).set (n / 8) (setB (packB bs (n / 8)) (n % 8) b) := by
  apply List.ext_getElem?
  intro i
  rw [List.getElem?_set]
  by_cases hi : i < bs.length / 8
  · rw [pack_get _ (by simpa using hi), packB_set bs hn h8 b i hi, pack_get _ hi, pack_length]
    by_cases e : n / 8 = i
    · subst e; simp [hi]
    · have : ¬ i = n / 8 := fun h => e h.symm
      simp [e, this]
  · rw [List.getElem?_eq_none (by rw [pack_length]; simp; omega), List.getElem?_eq_none (by rw [pack_length]; omega)]
    have : ¬ n / 8 = i := by omega
    simp [this]
end
end Go.Proofs.Ytdoeioljkbjabaa.R
