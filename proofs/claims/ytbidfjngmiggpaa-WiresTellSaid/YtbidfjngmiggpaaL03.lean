/- Plain facts about the printed functions of layer 3 (wires). -/
import Derived.Test.YtbidfjngmiggpaaPBase
import Derived.Test.YtbidfjngmiggpaaQx1
import Derived.Test.YtbidfjngmiggpaaQx13
import Derived.Test.YtbidfjngmiggpaaQx16
import Derived.Test.YtbidfjngmiggpaaQx2
import Derived.Test.YtbidfjngmiggpaaQx3
import Derived.Test.YtbidfjngmiggpaaQx4
import Derived.Test.YtbidfjngmiggpaaQx7
import Derived.Test.YtbidfjngmiggpaaQx8
set_option linter.unusedVariables false
set_option linter.unusedSimpArgs false
namespace Go.Proofs.Ytbidfjngmiggpaa.L03
open Go Go.RowKit Go.Proofs.YtbidfjngmiggpaaW.PrintWords Go.Proofs.YtbidfjngmiggpaaW.PrintLast Go.Proofs.YtbidfjngmiggpaaW.PrintMore Go.Proofs.Ytbidfjngmiggpaa.Q Go.Proofs.Ytbidfjngmiggpaa.PBase

theorem and_u8 (a b : Nat) (ha : a < 256) (hb : b < 256) : Go.bits .and .u8 (a : Int) (b : Int) = ((a &&& b : Nat) : Int) := (bits_nat .u8 8 (by decide) wraps_u8 a b ha hb).1
theorem or_u8 (a b : Nat) (ha : a < 256) (hb : b < 256) : Go.bits .or .u8 (a : Int) (b : Int) = ((a ||| b : Nat) : Int) := (bits_nat .u8 8 (by decide) wraps_u8 a b ha hb).2
theorem or_lt (a b : Nat) (ha : a < 256) (hb : b < 256) : a ||| b < 256 := Nat.or_lt_two_pow (n := 8) ha hb
theorem and_lt (a b : Nat) (ha : a < 256) : a &&& b < 256 := Nat.lt_of_le_of_lt Nat.and_le_left ha
theorem tb_eq (n i : Nat) : ((n / 2 ^ i % 2 : Nat) == 1) = n.testBit i := by
  rw [Nat.testBit_eq_decide_div_mod_eq]
  generalize n / 2 ^ i % 2 = y
  rw [Bool.eq_iff_iff, beq_iff_eq, decide_eq_true_eq]
theorem High_is (n i : Nat) (hn : n < 256) (hi : i < 4) : wires_Lines_High.f (n : Int) (i : Int) = some (n.testBit i) := by
  unfold wires_Lines_High.f wires_is.f
  rw [if_pos (by omega)]
  have e : shr .u8 (n : Int) (i : Int) = ((n / 2 ^ i : Nat) : Int) := by
    unfold shr
    rw [Int.toNat_natCast, Nat.min_eq_left (by show i ≤ 8; omega)]
    simp
  have hlt : n / 2 ^ i < 256 := Nat.lt_of_le_of_lt (Nat.div_le_self _ _) hn
  have e2 : Go.bits .and .u8 ((n / 2 ^ i : Nat) : Int) 1 = ((n / 2 ^ i % 2 : Nat) : Int) := by
    generalize n / 2 ^ i = q at hlt
    have := bits_mask .u8 8 (by decide) wraps_u8 1 (by decide) (q : Int) (by omega) (by show (q : Int) < 256; omega)
    rw [show ((2 : Int) ^ 1 - 1) = 1 by decide] at this
    rw [this]
    omega
  rw [Option.bind_some, decide_eq_true (by omega), if_pos rfl, if_pos (by omega), e, e2, ← tb_eq]
  congr 1
  generalize n / 2 ^ i = q
  rw [Bool.eq_iff_iff, beq_iff_eq, beq_iff_eq]
  omega
theorem High_out (n : Int) (i : Int) (h : i < 0 ∨ 3 < i) : wires_Lines_High.f n i = some false := by
  unfold wires_Lines_High.f wires_is.f
  by_cases h0 : i ≥ 0
  · rw [if_pos h0, Option.bind_some, decide_eq_false (by omega), if_neg (by decide)]
  · rw [if_neg h0, Option.bind_some, if_neg (by decide)]
theorem RHigh_is (n i : Nat) (hn : n < 256) (hi : i < 4) : busbarref03_High.f (n : Int) (i : Int) = some (n.testBit i) := by
  unfold busbarref03_High.f
  have e0 : IntKind.u64.wrap (i : Int) = (i : Int) := by
    simp [IntKind.wrap, IntKind.bits, IntKind.signed]
    omega
  have e : shr .i64 (n : Int) (i : Int) = ((n / 2 ^ i : Nat) : Int) := by
    unfold shr
    rw [Int.toNat_natCast, Nat.min_eq_left (by show i ≤ 64; omega)]
    simp
  rw [if_pos (by omega), if_pos (by omega), e0, if_pos (by omega), e, Int.tmod_eq_emod_of_nonneg (Int.natCast_nonneg _), ← tb_eq]
  congr 1
  generalize n / 2 ^ i = q
  rw [Bool.eq_iff_iff, beq_iff_eq, beq_iff_eq]
  omega
theorem RHigh_out (n : Int) (i : Int) (h : i < 0 ∨ 3 < i) : busbarref03_High.f n i = some false := by
  unfold busbarref03_High.f
  by_cases h0 : i ≥ 0
  · rw [if_pos h0, if_neg (by omega)]
  · rw [if_neg h0]
/-! ### Or -/
def Byte (x : Int) : Prop := 0 ≤ x ∧ x ≤ 255
def orL : List Int → Nat
  | [] => 0
  | x :: r => x.toNat ||| orL r
theorem orL_lt : ∀ l : List Int, (∀ x ∈ l, Byte x) → orL l < 256
  | [], _ => by decide
  | x :: r, h => or_lt _ _ (by have := h x (by simp); unfold Byte at this; omega) (orL_lt r (fun y hy => h y (by simp [hy])))
theorem Or_l0 (l : List Int) (hl : ∀ x ∈ l, Byte x) (hn : l.length ≤ 1000000000000) : ∀ (d n c : Nat), n + d = l.length → c < 256 →
    Ev (fun k => wires_Or.l0 k (c : Int) l (l.length : Int) (n : Int)) ((c ||| orL (l.drop n) : Nat) : Int) := by
  intro d
  induction d with
  | zero =>
    intro n c h hc
    rw [List.drop_of_length_le (by omega)]
    refine Ev.step (f := fun _ => some (c : Int)) (fun k => ?_) (by simp only [orL, Nat.or_zero]; exact Ev.now _)
    rw [wires_Or.l0, if_neg (by omega)]
  | succ d ih =>
    intro n c h hc
    have hlt : n < l.length := by omega
    have hb := hl _ (rd_mem l (n : Int) (by omega) (by omega))
    unfold Byte at hb
    obtain ⟨y, hy⟩ : ∃ y : Nat, rd l (n : Int) = (y : Int) := ⟨(rd l (n : Int)).toNat, by omega⟩
    have e : l.drop n = (y : Int) :: l.drop (n + 1) := by
      rw [List.drop_eq_getElem_cons hlt]
      congr 1
      rw [← hy, rd_nat, List.getD_eq_getElem?_getD, List.getElem?_eq_getElem hlt]
      rfl
    have := ih (n + 1) (c ||| y) (by omega) (or_lt _ _ hc (by omega))
    rw [e, orL, Int.toNat_natCast, ← Nat.or_assoc]
    refine Ev.step (fun k => ?_) this
    rw [wires_Or.l0, if_pos (by omega), if_pos (by omega), if_pos (by omega), hy, or_u8 c y hc (by omega), w64 _ (by omega) (by omega)]
    rfl
theorem Or_is (l : List Int) (hl : ∀ x ∈ l, Byte x) (hn : l.length ≤ 1000000000000) : Ev (fun k => wires_Or.f k l) ((orL l : Nat) : Int) := by
  have := Or_l0 l hl hn l.length 0 0 (by omega) (by omega)
  unfold wires_Or.f
  simpa using this
theorem Or_nat (l : List Nat) (hl : ∀ x ∈ l, x < 256) (hn : l.length ≤ 1000) : Ev (fun k => wires_Or.f k (l.map (fun n : Nat => (n : Int)))) ((orL (l.map (fun n : Nat => (n : Int))) : Nat) : Int) :=
  Or_is _ (fun x hx => by
    obtain ⟨n, hn, rfl⟩ := List.mem_map.1 hx
    have := hl n hn
    exact ⟨by omega, by omega⟩) (by rw [List.length_map]; omega)
/-! ### Count, Side, Drive -/
def cnt (n : Nat) : Nat := (n.testBit 0).toNat + (n.testBit 1).toNat + (n.testBit 2).toNat + (n.testBit 3).toNat
theorem Count_dec : ∀ n : Fin 256, wires_Lines_Count.f (n.val : Int) = some (cnt n.val : Int) := by decide +kernel
theorem Count_is (n : Nat) (h : n < 256) : wires_Lines_Count.f (n : Int) = some (cnt n : Int) := Count_dec ⟨n, h⟩
def sideN (y : Bool) : Nat := if y then 12 else 3
theorem Pulse_is (y : Bool) : wires_Pulse.f y = some (sideN y : Int) := by cases y <;> rfl
theorem Side_is (n : Nat) (h : n < 256) (y : Bool) : wires_Lines_Side.f (n : Int) y = some ((n &&& sideN y : Nat) : Int) := by
  unfold wires_Lines_Side.f
  rw [Pulse_is, Option.bind_some, and_u8 n (sideN y) h (by cases y <;> decide)]
theorem side_lt (n : Nat) (h : n < 256) (y : Bool) : n &&& sideN y < 256 := and_lt _ _ h
theorem side_bit (n i : Nat) (hi : i < 4) (y : Bool) : (n &&& sideN y).testBit i = (n.testBit i && (decide (2 ≤ i) == y)) := by
  rw [Nat.testBit_and]
  congr 1
  obtain rfl | rfl | rfl | rfl : i = 0 ∨ i = 1 ∨ i = 2 ∨ i = 3 := by omega
  all_goals cases y <;> decide
theorem one_is : busbarlaw03_one.f = some true := by decide +kernel
end Go.Proofs.Ytbidfjngmiggpaa.L03
