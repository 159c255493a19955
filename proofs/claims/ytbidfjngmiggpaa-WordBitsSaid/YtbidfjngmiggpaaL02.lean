/- Plain facts about the printed functions of layer 2 (word). -/
import Derived.Test.YtbidfjngmiggpaaPBase
import Derived.Test.YtbidfjngmiggpaaQx15
import Derived.Test.YtbidfjngmiggpaaQx18
import Derived.Test.YtbidfjngmiggpaaQx19
import Derived.Test.YtbidfjngmiggpaaQx20
import Derived.Test.YtbidfjngmiggpaaQx21
import Derived.Test.YtbidfjngmiggpaaQx23
set_option linter.unusedVariables false
set_option linter.unusedSimpArgs false
namespace Go.Proofs.Ytbidfjngmiggpaa.L02
open Go Go.RowKit Go.Proofs.YtbidfjngmiggpaaW.PrintWords Go.Proofs.YtbidfjngmiggpaaW.PrintLast Go.Proofs.YtbidfjngmiggpaaW.PrintMore Go.Proofs.Ytbidfjngmiggpaa.Q Go.Proofs.Ytbidfjngmiggpaa.PBase

def Byte (x : Int) : Prop := 0 ≤ x ∧ x ≤ 255
/-- Bit j of a number. -/
def bitN (x : Int) (j : Nat) : Bool := x / 2 ^ j % 2 == 1
def byteBits (x : Int) : List Bool := (List.range 8).map fun i => bitN x (7 - i)
def bitsOf : List Int → List Bool
  | [] => []
  | x :: r => byteBits x ++ bitsOf r
theorem byteBits_length (x : Int) : (byteBits x).length = 8 := by simp [byteBits]
theorem bitsOf_length : ∀ l : List Int, (bitsOf l).length = 8 * l.length
  | [] => rfl
  | x :: r => by rw [bitsOf, List.length_append, byteBits_length, bitsOf_length r, List.length_cons]; omega
theorem byteBits_get (x : Int) (j : Nat) (h : j < 8) : (byteBits x).getD j false = bitN x (7 - j) := by
  simp [byteBits, List.getD_eq_getElem?_getD, List.getElem?_range h]
theorem bitsOf_get : ∀ (l : List Int) (n j : Nat), n < l.length → j < 8 → (bitsOf l).getD (8 * n + j) false = bitN (l.getD n 0) (7 - j)
  | [], n, j, h, _ => by simp at h
  | x :: r, 0, j, h, hj => by
    rw [bitsOf, List.getD_eq_getElem?_getD, List.getElem?_append_left (by rw [byteBits_length]; omega), ← List.getD_eq_getElem?_getD, show 8 * 0 + j = j by omega, byteBits_get x j hj]
    rfl
  | x :: r, n + 1, j, h, hj => by
    rw [bitsOf, List.getD_eq_getElem?_getD, List.getElem?_append_right (by rw [byteBits_length]; omega), byteBits_length, show 8 * (n + 1) + j - 8 = 8 * n + j by omega, ← List.getD_eq_getElem?_getD, bitsOf_get r n j (by simpa using h) hj]
    rfl
theorem bitsOf_append : ∀ a b : List Int, bitsOf (a ++ b) = bitsOf a ++ bitsOf b
  | [], b => rfl
  | x :: r, b => by rw [List.cons_append, bitsOf, bitsOf_append r b, bitsOf, List.append_assoc]
theorem shr8 (x : Int) (j : Nat) (hj : j ≤ 7) : shr .u8 x (j : Int) = x / 2 ^ j := by
  unfold shr
  rw [Int.toNat_natCast, Nat.min_eq_left (by show j ≤ 8; omega)]
theorem shr64 (x : Int) (j : Nat) (hj : j ≤ 7) : shr .i64 x (j : Int) = x / 2 ^ j := by
  unfold shr
  rw [Int.toNat_natCast, Nat.min_eq_left (by show j ≤ 64; omega)]
theorem div_range (x : Int) (h : Byte x) (j : Nat) : 0 ≤ x / 2 ^ j ∧ x / 2 ^ j ≤ 255 := by
  have hp : (0 : Int) < 2 ^ j := Int.pow_pos (by decide)
  have h1 : (1 : Int) ≤ 2 ^ j := by omega
  constructor
  · exact Int.ediv_nonneg h.1 (by omega)
  · exact Int.le_trans (Int.ediv_le_self _ h.1) h.2
theorem and1_u8 (x : Int) (h : Byte x) : Go.bits .and .u8 x 1 = x % 2 := bits_mask .u8 8 (by decide) wraps_u8 1 (by decide) x h.1 (by have := h.2; show x < 256; omega)
theorem bit_u8 (x : Int) (h : Byte x) (j : Nat) (hj : j ≤ 7) : (Go.bits .and .u8 (shr .u8 x (j : Int)) 1 == 1) = bitN x j := by
  rw [shr8 x j hj, and1_u8 _ (div_range x h j)]
  rfl
def bitAt (l : List Int) (n : Int) : Bool × Bool := if 0 ≤ n ∧ n < 8 * (l.length : Int) then ((bitsOf l).getD n.toNat false, true) else (false, false)
theorem Bit_is (l : List Int) (hl : ∀ x ∈ l, Byte x) (hn : l.length ≤ 1000000000000) (n : Int) (h0 : -9223372036854775808 ≤ n) (h1 : n ≤ 9223372036854775807) :
    word_Bit.f l n = some (bitAt l n) := by
  unfold word_Bit.f bitAt
  by_cases c0 : n < 0
  · rw [if_pos c0, if_neg (by omega)]
  · rw [if_neg c0, Int.tdiv_eq_ediv_of_nonneg (by omega), Int.tmod_eq_emod_of_nonneg (by omega), w64 (n / 8) (by omega) (by omega)]
    by_cases c1 : n / 8 ≥ (l.length : Int)
    · rw [if_pos c1, if_neg (by omega)]
    · rw [if_neg c1, if_pos (by omega), w64 (7 - n % 8) (by omega) (by omega), if_pos (by omega), if_pos (by omega)]
      have e : n.toNat = 8 * (n / 8).toNat + (n % 8).toNat := by omega
      rw [e, bitsOf_get l _ _ (by omega) (by omega)]
      have hx := hl _ (rd_mem l (n / 8) (by omega) (by omega))
      rw [show (7 - n % 8 : Int) = ((7 - (n % 8).toNat : Nat) : Int) by omega, bit_u8 _ hx _ (by omega)]
      rfl
/-! ### Bits -/
theorem set_take (B : List Bool) (n d : Nat) (h : n + (d + 1) = B.length) : (B.take n ++ List.replicate (d + 1) false).set n (B.getD n false) = B.take (n + 1) ++ List.replicate d false := by
  rw [List.set_append_right _ _ (by simp; omega), show n - (B.take n).length = 0 by simp; omega, List.replicate_succ, List.set_cons_zero]
  rw [List.take_succ_eq_append_getElem (by omega), List.append_assoc, List.getD_eq_getElem?_getD, List.getElem?_eq_getElem (by omega)]
  rfl
theorem Bits_l0 (l : List Int) (hl : ∀ x ∈ l, Byte x) (hn : l.length ≤ 1000000000000) : ∀ (d n : Nat), n + d = (bitsOf l).length →
    Ev (fun k => word_Bits.l0 k l ((bitsOf l).take n ++ List.replicate d false) ((bitsOf l).length : Int) (n : Int)) (bitsOf l) := by
  have hlen := bitsOf_length l
  intro d
  induction d with
  | zero =>
    intro n h
    refine Ev.step (f := fun _ => some (bitsOf l)) (fun k => ?_) (Ev.now _)
    simp only [word_Bits.l0]
    rw [if_neg (by omega), List.take_of_length_le (by omega)]
    simp
  | succ d ih =>
    intro n h
    refine Ev.step (f := fun k => word_Bits.l0 k l ((bitsOf l).take (n + 1) ++ List.replicate d false) ((bitsOf l).length : Int) ((n + 1 : Nat) : Int)) (fun k => ?_) (ih (n + 1) (by omega))
    simp only [word_Bits.l0]
    have hll : ((bitsOf l).take n ++ List.replicate (d + 1) false).length = (bitsOf l).length := by simp; omega
    rw [if_pos (by omega), Bit_is l hl hn _ (by omega) (by omega), Option.bind_some, if_pos (by omega), if_pos (by omega), w64 _ (by omega) (by omega)]
    unfold bitAt
    rw [if_pos (by omega), Int.toNat_natCast, set_take _ _ _ (by omega)]
    rfl
theorem Bits_is (l : List Int) (hl : ∀ x ∈ l, Byte x) (hn : l.length ≤ 1000000000000) : Ev (fun k => word_Bits.f k l) (bitsOf l) := by
  have hlen := bitsOf_length l
  have := Bits_l0 l hl hn (bitsOf l).length 0 (by omega)
  unfold word_Bits.f
  rw [w64 _ (by omega) (by omega)]
  simp only [if_pos (show (0 : Int) ≤ (l.length : Int) * 8 by omega), if_pos (show ((l.length : Int) * 8).toNat ≤ 281474976710656 by omega), Option.bind_some, List.length_replicate]
  rw [show ((l.length : Int) * 8).toNat = (bitsOf l).length by omega]
  simpa using this
/-! ### Bools -/
theorem Bools_same (x : List Bool) (hx : x.length ≤ 1000000000000) : ∀ (d i : Nat), i + d = x.length → Ev (fun k => busbarlaw02_Bools.l0 k x x (i : Int)) 1
  | 0, i, h => by
    refine Ev.step (f := fun _ => some 1) (fun k => ?_) (Ev.now _)
    simp only [busbarlaw02_Bools.l0]
    rw [if_neg (by omega)]
  | d + 1, i, h => by
    refine Ev.step (f := fun k => busbarlaw02_Bools.l0 k x x ((i + 1 : Nat) : Int)) (fun k => ?_) (Bools_same x hx d (i + 1) (by omega))
    simp only [busbarlaw02_Bools.l0]
    rw [if_pos (by omega), if_pos (by omega), if_pos (by omega), if_neg (by simp), w64 _ (by omega) (by omega)]
    rfl
theorem Bools_is (x : List Bool) (hx : x.length ≤ 1000000000000) : Ev (fun k => busbarlaw02_Bools.f k x x) 1 := by
  unfold busbarlaw02_Bools.f
  simp only [if_true]
  exact Bools_same x hx x.length 0 (by omega)
/-! ### Parity -/
def xorB : List Bool → Bool
  | [] => false
  | b :: r => b ^^ xorB r
theorem xorB_append : ∀ a b : List Bool, xorB (a ++ b) = (xorB a ^^ xorB b)
  | [], b => by simp [xorB]
  | x :: r, b => by rw [List.cons_append, xorB, xorB_append r b, xorB, Bool.xor_assoc]
def parN (x : Nat) : Bool := x.testBit 7 ^^ (x.testBit 6 ^^ (x.testBit 5 ^^ (x.testBit 4 ^^ (x.testBit 3 ^^ (x.testBit 2 ^^ (x.testBit 1 ^^ x.testBit 0))))))
theorem bitN_nat (x j : Nat) : bitN (x : Int) j = x.testBit j := by
  unfold bitN
  rw [Nat.testBit_eq_decide_div_mod_eq, show ((x : Int) / 2 ^ j % 2) = ((x / 2 ^ j % 2 : Nat) : Int) by simp]
  generalize x / 2 ^ j % 2 = y
  rw [Bool.eq_iff_iff, beq_iff_eq, decide_eq_true_eq]
  omega
theorem parN_bits (x : Nat) : parN x = xorB (byteBits (x : Int)) := by
  have e : byteBits (x : Int) = [bitN x 7, bitN x 6, bitN x 5, bitN x 4, bitN x 3, bitN x 2, bitN x 1, bitN x 0] := rfl
  rw [e]
  simp only [bitN_nat, xorB, parN, Bool.xor_false]
theorem ones_nat : ∀ x : Fin 256, (bits_OnesCount8.f (x.val : Int)).map (fun t => Int.tmod t 2 == 1) = some (parN x.val) := by decide +kernel
theorem ones_is (x : Nat) (h : x < 256) : (bits_OnesCount8.f (x : Int)).bind (fun t => some (Int.tmod t 2 == 1)) = some (parN x) := by
  have := ones_nat ⟨x, h⟩
  simp only at this
  rw [← this]
  cases bits_OnesCount8.f (x : Int) <;> rfl
theorem xor_u8 (a b : Nat) (ha : a < 256) (hb : b < 256) : Go.bits .xor .u8 (a : Int) (b : Int) = ((a ^^^ b : Nat) : Int) := by
  have h : a ^^^ b < 2 ^ 8 := Nat.xor_lt_two_pow (n := 8) ha hb
  have e : IntKind.u8.bits = 8 := rfl
  simp only [Go.bits, BitVec.ofInt_natCast, BitVec.toNat_xor, BitVec.toNat_ofNat, e]
  rw [Nat.mod_eq_of_lt (show a < 2 ^ 8 from ha), Nat.mod_eq_of_lt (show b < 2 ^ 8 from hb), IntKind.wrap_u8]
  omega
theorem parN_xor (a b : Nat) : parN (a ^^^ b) = (parN a ^^ parN b) := by
  simp only [parN, Nat.testBit_xor]
  cases a.testBit 7 <;> cases a.testBit 6 <;> cases a.testBit 5 <;> cases a.testBit 4 <;> cases a.testBit 3 <;> cases a.testBit 2 <;> cases a.testBit 1 <;> cases a.testBit 0 <;> simp
theorem Parity_l0 (l : List Int) (hl : ∀ x ∈ l, Byte x) (hn : l.length ≤ 1000000000000) : ∀ (d n c : Nat), n + d = l.length → c < 256 →
    Ev (fun k => word_Parity.l0 k (c : Int) l (l.length : Int) (n : Int)) (parN c ^^ xorB (bitsOf (l.drop n))) := by
  intro d
  induction d with
  | zero =>
    intro n c h hc
    refine Ev.step (f := fun _ => some (parN c ^^ xorB (bitsOf (l.drop n)))) (fun k => ?_) (Ev.now _)
    simp only [word_Parity.l0]
    rw [if_neg (by omega), ones_is c hc, List.drop_of_length_le (by omega)]
    simp [bitsOf, xorB]
  | succ d ih =>
    intro n c h hc
    have hlt : n < l.length := by omega
    obtain ⟨y, hy⟩ : ∃ y : Nat, rd l (n : Int) = (y : Int) := ⟨(rd l (n : Int)).toNat, by have := (hl _ (rd_mem l (n : Int) (by omega) (by omega))).1; omega⟩
    have hy2 : y < 256 := by have := (hl _ (rd_mem l (n : Int) (by omega) (by omega))).2; omega
    have hx : c ^^^ y < 256 := Nat.xor_lt_two_pow (n := 8) hc hy2
    have e : l.drop n = (y : Int) :: l.drop (n + 1) := by
      rw [List.drop_eq_getElem_cons hlt]
      congr 1
      rw [← hy, rd_nat, List.getD_eq_getElem?_getD, List.getElem?_eq_getElem hlt]
      rfl
    have := ih (n + 1) (c ^^^ y) (by omega) hx
    rw [e, bitsOf, xorB_append, ← parN_bits, ← Bool.xor_assoc, ← parN_xor]
    refine Ev.step (fun k => ?_) this
    simp only [word_Parity.l0]
    rw [if_pos (by omega), if_pos (by omega), if_pos (by omega), hy, xor_u8 c y hc hy2, w64 _ (by omega) (by omega)]
    rfl
theorem Parity_is (l : List Int) (hl : ∀ x ∈ l, Byte x) (hn : l.length ≤ 1000000000000) : Ev (fun k => word_Parity.f k l) (xorB (bitsOf l)) := by
  have := Parity_l0 l hl hn l.length 0 0 (by omega) (by omega)
  unfold word_Parity.f
  have e : parN 0 = false := rfl
  rw [e] at this
  simpa using this
theorem one_is : Ev (fun k => busbarlaw02_one.f k) true := by
  refine Ev.of (fun k => busbarlaw02_one.mono k) (k := 20) ?_
  decide +kernel
end Go.Proofs.Ytbidfjngmiggpaa.L02
