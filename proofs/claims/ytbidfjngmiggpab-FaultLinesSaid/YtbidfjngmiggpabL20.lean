/- Plain facts about the printed functions of layer 20 (fault). -/
import Derived.Test.YtbidfjngmiggpabPBase
import Derived.Test.YtbidfjngmiggpabQx1
import Derived.Test.YtbidfjngmiggpabQx10
import Derived.Test.YtbidfjngmiggpabQx2
import Derived.Test.YtbidfjngmiggpabQx3
import Derived.Test.YtbidfjngmiggpabQx4
import Derived.Test.YtbidfjngmiggpabQx5
import Derived.Test.YtbidfjngmiggpabQx7
import Derived.Test.YtbidfjngmiggpabQx9
set_option linter.unusedVariables false
set_option linter.unusedSimpArgs false
namespace Go.Proofs.Ytbidfjngmiggpab.L20
open Go Go.RowKit Go.Proofs.YtbidfjngmiggpabW.PrintWords Go.Proofs.YtbidfjngmiggpabW.PrintLast Go.Proofs.YtbidfjngmiggpabW.PrintMore Go.Proofs.Ytbidfjngmiggpab.Q Go.Proofs.Ytbidfjngmiggpab.PBase

/-- The byte that counts at a tick. -/
def byteAt (kind frm : Int) (p : List Int) (tick : Int) : Int × Bool :=
  if (kind = 1 ∨ kind = 2) ∧ frm ≤ tick ∧ p.length ≠ 0 then (rd p ((tick - frm) % p.length), true) else (0, false)
theorem At_is (kind m : Int) (y : Bool) (line frm : Int) (p : List Int) (tick : Int) (h : frm ≤ tick → tick - frm ≤ 9223372036854775807) :
    fault_Fault_At.f kind m y line frm p tick = some (byteAt kind frm p tick) := by
  have main : frm ≤ tick → p.length ≠ 0 → 0 ≤ Int.tmod (wrap64 (tick - frm)) (p.length : Int) ∧ Int.tmod (wrap64 (tick - frm)) (p.length : Int) < (p.length : Int) ∧ Int.tmod (wrap64 (tick - frm)) (p.length : Int) = (tick - frm) % p.length := by
    intro h1 h2
    have := h h1
    rw [w64 _ (by omega) (by omega), Int.tmod_eq_emod_of_nonneg (by omega)]
    exact ⟨Int.emod_nonneg _ (by omega), Int.emod_lt_of_pos _ (by omega), rfl⟩
  unfold fault_Fault_At.f byteAt
  by_cases k1 : kind = 1
  · rw [if_pos k1]
    by_cases h1 : tick < frm
    · rw [if_pos h1, if_neg (by omega)]
    · rw [if_neg h1]
      by_cases h2 : (p.length : Int) = 0
      · rw [if_pos h2, if_neg (by omega)]
      · obtain ⟨m1, m2, m3⟩ := main (by omega) (by omega)
        rw [if_neg h2, if_pos m1, if_pos m2, m3, if_pos ⟨.inl k1, by omega, by omega⟩]
  · rw [if_neg k1]
    by_cases k2 : kind = 2
    · rw [if_pos k2]
      by_cases h1 : tick < frm
      · rw [if_pos h1, if_neg (by omega)]
      · rw [if_neg h1]
        by_cases h2 : (p.length : Int) = 0
        · rw [if_pos h2, if_neg (by omega)]
        · obtain ⟨m1, m2, m3⟩ := main (by omega) (by omega)
          rw [if_neg h2, if_pos m1, if_pos m2, m3, if_pos ⟨.inr k2, by omega, by omega⟩]
    · rw [if_neg k2, if_neg (by omega)]
theorem one_ev : Ev (fun k => busbarlaw20_one.f k) true := Ev.of (fun k => busbarlaw20_one.mono k) (k := 3) (by decide +kernel)
/-- A line that stands otherwise. -/
def setL (l line : Int) (high : Bool) : Int := if 0 ≤ line ∧ line ≤ 3 then (if high then Go.bits .or .u8 (Go.bits .andNot .u8 l (shl .u8 1 line)) (shl .u8 1 line) else Go.bits .andNot .u8 l (shl .u8 1 line)) else l
theorem Set_is (l line : Int) (high : Bool) : wires_Lines_Set.f l line high = some (setL l line high) := by
  unfold wires_Lines_Set.f wires_is.f setL
  by_cases h0 : 0 ≤ line
  · by_cases h1 : line ≤ 3
    · cases high <;> simp [h0, h1]
    · simp [h0, h1]
  · simp [h0, show ¬ line ≥ 0 by omega]
def linesL (kind line frm : Int) (p : List Int) (l tick : Int) : Int :=
  if (byteAt kind frm p tick).2 = true ∧ kind = 1 then
    (if Go.bits .and .u8 (byteAt kind frm p tick).1 3 = 0 then setL l line false else if Go.bits .and .u8 (byteAt kind frm p tick).1 3 = 1 then setL l line true else l)
  else l
theorem Lines_is (k : Nat) (kind m : Int) (y : Bool) (line frm : Int) (p : List Int) (l tick : Int) (h : frm ≤ tick → tick - frm ≤ 9223372036854775807) :
    fault_Fault_Lines.f (k + 1) kind m y line frm p l tick = some (linesL kind line frm p l tick) := by
  unfold fault_Fault_Lines.f linesL
  rw [At_is _ _ _ _ _ _ _ h]
  simp only [Option.bind_some, fault_Fault_Lines.j0, Set_is]
  by_cases h1 : (byteAt kind frm p tick).2 = true
  · by_cases h2 : kind = 1
    · subst h2
      simp [h1]
      repeat' split
      all_goals rfl
    · simp [h1, h2]
  · simp [h1]
theorem one_is (k : Nat) : busbarlaw20_one.f (k + 3) = some true := by
  refine at_rounds (g := fun k => busbarlaw20_one.f k) (fun k => busbarlaw20_one.mono k) (k := 3) (by omega) ?_
  decide +kernel
def rightOf (kind m line frm : Int) (p : List Int) (modules : Int) : Int :=
  if kind = 0 then 0 else if (kind ≠ 1 ∧ kind ≠ 2) ∨ frm < 0 ∨ p.length = 0 ∨ (p.length : Int) > 256 then 2 else
  if kind = 1 ∧ (line < 0 ∨ line > 3) then 2 else if kind = 2 ∧ (m < 0 ∨ m ≥ modules) then 2 else 0
theorem Right_is (k : Nat) (kind m : Int) (y : Bool) (line frm : Int) (p : List Int) (modules : Int) :
    fault_Fault_Right.f (k + 2) kind m y line frm p modules = some (rightOf kind m line frm p modules) := by
  unfold fault_Fault_Right.f rightOf
  simp only [fault_Fault_Right.j0, fault_Fault_Right.j1]
  by_cases k0 : kind = 0
  · simp [k0]
  by_cases k1 : kind = 1
  · subst k1
    by_cases h1 : frm < 0
    · simp [h1]
    by_cases h2 : p.length = 0
    · simp [h1, h2]
    by_cases h3 : (p.length : Int) > 256
    · simp [h1, h2, h3]
    by_cases h4 : line < 0
    · simp [h1, h2, h3, h4]
    by_cases h5 : line > 3
    · simp [h1, h2, h3, h4, h5]
    simp [h1, h2, h3, h4, h5]
  by_cases k2 : kind = 2
  · subst k2
    by_cases h1 : frm < 0
    · simp [h1]
    by_cases h2 : p.length = 0
    · simp [h1, h2]
    by_cases h3 : (p.length : Int) > 256
    · simp [h1, h2, h3]
    by_cases h4 : m < 0
    · simp [h1, h2, h3, h4]
    by_cases h5 : m ≥ modules
    · simp [h1, h2, h3, h4, h5]
    simp [h1, h2, h3, h4, h5]
  simp [k0, k1, k2]
theorem Of_is (kind m : Int) (y : Bool) (line frm : Int) (p : List Int) (module : Int) : fault_Fault_Of.f kind m y line frm p module = some (decide (kind = 2) && (m == module)) := by
  unfold fault_Fault_Of.f
  by_cases h : kind = 2 <;> simp [h]
theorem Byte_is (kind frm : Int) (p : List Int) (tick : Int) (h : frm ≤ tick → tick - frm ≤ 9223372036854775807) (hp : ∀ x ∈ p, 0 ≤ x ∧ x ≤ 255) :
    busbarref20_Byte.f kind frm p tick = some (byteAt kind frm p tick) := by
  have main : frm ≤ tick → p.length ≠ 0 → 0 ≤ Int.tmod (wrap64 (tick - frm)) (p.length : Int) ∧ Int.tmod (wrap64 (tick - frm)) (p.length : Int) < (p.length : Int) ∧ Int.tmod (wrap64 (tick - frm)) (p.length : Int) = (tick - frm) % p.length := by
    intro h1 h2
    have := h h1
    rw [w64 _ (by omega) (by omega), Int.tmod_eq_emod_of_nonneg (by omega)]
    exact ⟨Int.emod_nonneg _ (by omega), Int.emod_lt_of_pos _ (by omega), rfl⟩
  have wr : ∀ i : Int, 0 ≤ i → i < p.length → wrap64 (rd p i) = rd p i := fun i h0 h1 => by
    have := hp _ (rd_mem p i h0 h1)
    exact w64 _ (by omega) (by omega)
  unfold busbarref20_Byte.f byteAt
  by_cases k1 : kind = 1
  · rw [if_pos k1]
    by_cases h1 : tick < frm
    · rw [if_pos h1, if_neg (by omega)]
    · rw [if_neg h1]
      by_cases h2 : (p.length : Int) = 0
      · rw [if_pos h2, if_neg (by omega)]
      · obtain ⟨m1, m2, m3⟩ := main (by omega) (by omega)
        rw [if_neg h2, if_pos m1, if_pos m2, wr _ m1 m2, m3, if_pos ⟨.inl k1, by omega, by omega⟩]
  · rw [if_neg k1]
    by_cases k2 : kind = 2
    · rw [if_pos k2]
      by_cases h1 : tick < frm
      · rw [if_pos h1, if_neg (by omega)]
      · rw [if_neg h1]
        by_cases h2 : (p.length : Int) = 0
        · rw [if_pos h2, if_neg (by omega)]
        · obtain ⟨m1, m2, m3⟩ := main (by omega) (by omega)
          rw [if_neg h2, if_pos m1, if_pos m2, wr _ m1 m2, m3, if_pos ⟨.inr k2, by omega, by omega⟩]
    · rw [if_neg k2, if_neg (by omega)]
theorem byteAt_range (kind frm : Int) (p : List Int) (tick : Int) (hp : ∀ x ∈ p, 0 ≤ x ∧ x ≤ 255) : 0 ≤ (byteAt kind frm p tick).1 ∧ (byteAt kind frm p tick).1 ≤ 255 := by
  unfold byteAt
  split
  · rename_i h
    exact hp _ (rd_mem p _ (Int.emod_nonneg _ (by omega)) (Int.emod_lt_of_pos _ (by omega)))
  · exact ⟨by decide, by decide⟩
end Go.Proofs.Ytbidfjngmiggpab.L20
