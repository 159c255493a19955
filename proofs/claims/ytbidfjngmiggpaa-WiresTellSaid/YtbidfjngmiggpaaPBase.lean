/- Plain facts about the numbers and lists of the printed functions. No conditions but what each states. -/
import Derived.Test.YtbidfjngmiggpaaWMore
import Derived.Laws.BitsLemmas
set_option linter.unusedVariables false
set_option linter.unusedSimpArgs false
namespace Go.Proofs.Ytbidfjngmiggpaa.PBase
open Go Go.RowKit Go.Proofs.YtbidfjngmiggpaaW.PrintWords Go.Proofs.YtbidfjngmiggpaaW.PrintLast Go.Proofs.YtbidfjngmiggpaaW.PrintMore

theorem w64 (x : Int) (h0 : -9223372036854775808 ≤ x) (h1 : x ≤ 9223372036854775807) : wrap64 x = x := by unfold wrap64; omega
theorem wf64 {x : Int} (h : (Lit.int .i64 x).wf = true) : -9223372036854775808 ≤ x ∧ x ≤ 9223372036854775807 := by
  simp only [Lit.wf, Bool.and_eq_true, decide_eq_true_eq] at h
  have e1 : IntKind.i64.min = -9223372036854775808 := rfl
  have e2 : IntKind.i64.max = 9223372036854775807 := rfl
  omega
theorem wf8 {x : Int} (h : (Lit.int .u8 x).wf = true) : 0 ≤ x ∧ x ≤ 255 := by
  simp only [Lit.wf, Bool.and_eq_true, decide_eq_true_eq] at h
  have e1 : IntKind.u8.min = 0 := rfl
  have e2 : IntKind.u8.max = 255 := rfl
  omega
theorem bits_and_mask (x : Int) (i : Nat) (hi : i ≤ 62) : Go.bits .and .i64 x (2 ^ i - 1) = x % 2 ^ i := by
  have hpos : 0 < 2 ^ i := Nat.two_pow_pos i
  have hle : 2 ^ i ≤ 2 ^ 62 := Nat.pow_le_pow_right (by decide) hi
  have hc : ((2 : Int) ^ i - 1) = ((2 ^ i - 1 : Nat) : Int) := by
    rw [Int.natCast_sub hpos]; simp
  have hcp : ((2 : Int) ^ i) = ((2 ^ i : Nat) : Int) := by simp
  rw [hc]
  simp only [Go.bits, BitVec.ofInt_natCast, BitVec.toNat_and, BitVec.toNat_ofNat, BitVec.toNat_ofInt]
  have e1 : (2 ^ i - 1) % 2 ^ IntKind.i64.bits = 2 ^ i - 1 := Nat.mod_eq_of_lt (by show _ < 2 ^ 64; omega)
  rw [e1, Nat.and_two_pow_sub_one_eq_mod]
  have hx0 : 0 ≤ x % ((2 ^ IntKind.i64.bits : Nat) : Int) := Int.emod_nonneg _ (by decide)
  have e2 : (((x % ((2 ^ IntKind.i64.bits : Nat) : Int)).toNat % 2 ^ i : Nat) : Int) = x % 2 ^ i := by
    rw [Int.natCast_emod, Int.toNat_of_nonneg hx0, ← hcp]
    refine Int.emod_emod_of_dvd x ?_
    have : (2 : Int) ^ i ∣ 2 ^ 64 := ⟨2 ^ (64 - i), by rw [← Int.pow_add]; congr 1; omega⟩
    exact this
  rw [e2]
  have h0 : 0 ≤ x % 2 ^ i := Int.emod_nonneg _ (by rw [hcp]; omega)
  have h1 : x % 2 ^ i < 2 ^ i := Int.emod_lt_of_pos _ (by rw [hcp]; omega)
  rw [IntKind.wrap_i64]
  have h2 : (2 : Int) ^ i ≤ 4611686018427387904 := by rw [hcp]; have : 2 ^ 62 = 4611686018427387904 := rfl; omega
  omega
theorem and65535 (x : Int) : Go.bits .and .i64 x 65535 = x % 65536 := bits_and_mask x 16 (by decide)
theorem and1048575 (x : Int) : Go.bits .and .i64 x 1048575 = x % 1048576 := bits_and_mask x 20 (by decide)
theorem and255 (x : Int) : Go.bits .and .i64 x 255 = x % 256 := bits_and_mask x 8 (by decide)
theorem and63 (x : Int) : Go.bits .and .i64 x 63 = x % 64 := bits_and_mask x 6 (by decide)
theorem and31 (x : Int) : Go.bits .and .i64 x 31 = x % 32 := bits_and_mask x 5 (by decide)
theorem and7 (x : Int) : Go.bits .and .i64 x 7 = x % 8 := bits_and_mask x 3 (by decide)
theorem and3 (x : Int) : Go.bits .and .i64 x 3 = x % 4 := bits_and_mask x 2 (by decide)
theorem and1 (x : Int) : Go.bits .and .i64 x 1 = x % 2 := bits_and_mask x 1 (by decide)
theorem succ_of {k : Nat} (h : 0 < k) : ∃ m, k = m + 1 := ⟨k - 1, by omega⟩
theorem rd_mem (l : List Int) (i : Int) (h0 : 0 ≤ i) (h1 : i < l.length) : rd l i ∈ l := by
  unfold rd
  rw [List.getD_eq_getElem?_getD, List.getElem?_eq_getElem (show i.toNat < l.length by omega)]
  exact List.getElem_mem _
theorem rd_nat (l : List Int) (i : Nat) : rd l (i : Int) = l.getD i 0 := by unfold rd; rw [Int.toNat_natCast]
theorem rdOf_nat {α : Type} (d : α) (l : List α) (i : Nat) : rdOf d l (i : Int) = l.getD i d := by unfold rdOf; rw [Int.toNat_natCast]
end Go.Proofs.Ytbidfjngmiggpaa.PBase
