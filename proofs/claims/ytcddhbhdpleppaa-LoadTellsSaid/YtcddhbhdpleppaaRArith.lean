/- Numbers as the walk leaves them. No conditions. -/
import Derived.Laws.BitsLemmas
import Derived.Test.YtcddhbhdpleppaaRVc
namespace Go.Proofs.Ytcddhbhdpleppaa.R
open Go Go.RowKit
theorem w64 {x : Int} (h1 : -9223372036854775808 ≤ x) (h2 : x ≤ 9223372036854775807) : IntKind.i64.wrap x = x := by
  rw [IntKind.wrap_i64]; omega
theorem w8 {x : Int} (h1 : 0 ≤ x) (h2 : x ≤ 255) : IntKind.u8.wrap x = x := by
  unfold IntKind.wrap; simp [IntKind.bits, IntKind.signed]; omega
theorem tdiv_pos {a b : Int} (h : 0 ≤ a) : a.tdiv b = a / b := Int.tdiv_eq_ediv_of_nonneg h
theorem tmod_pos {a b : Int} (h : 0 ≤ a) : a.tmod b = a % b := Int.tmod_eq_emod_of_nonneg h
theorem fdiv_pos {a b : Int} (h : 0 ≤ b) : a.fdiv b = a / b := Int.fdiv_eq_ediv_of_nonneg _ h
theorem u8_cases {x : Int} (h1 : 0 ≤ x) (h2 : x < 256) : ∃ n : Fin 256, x = (n.val : Int) := ⟨⟨x.toNat, by omega⟩, by simp; omega⟩
theorem and_one {x : Int} (h1 : 0 ≤ x) (h2 : x < 256) : bits .and .u8 x 1 = x % 2 := by
  obtain ⟨n, rfl⟩ := u8_cases h1 h2
  revert n; decide +kernel
theorem i64_mask (n : Int) (k : Nat) (hk : k < 63) : bits .and .i64 n ((2 : Int) ^ k - 1) = n % 2 ^ k := by
  have hp : (2 : Nat) ^ k < 2 ^ 63 := Nat.pow_lt_pow_right (by omega) hk
  have hp0 : 0 < (2 : Nat) ^ k := Nat.pow_pos (by omega)
  have h127 : (BitVec.ofInt 64 ((2 : Int) ^ k - 1)).toNat = 2 ^ k - 1 := by
    rw [BitVec.toNat_ofInt]
    have : ((2 : Int) ^ k - 1) = ((2 ^ k - 1 : Nat) : Int) := by
      rw [Int.natCast_sub (by omega)]; simp
    rw [this, show ((2 ^ 64 : Nat) : Int) = ((2 ^ 64 : Nat) : Int) from rfl, ← Int.natCast_emod, Int.toNat_natCast, Nat.mod_eq_of_lt (by omega)]
  have key : (BitVec.ofInt 64 n &&& BitVec.ofInt 64 ((2 : Int) ^ k - 1)).toNat = (n % ((2 ^ 64 : Nat) : Int)).toNat % 2 ^ k := by
    rw [BitVec.toNat_and, BitVec.toNat_ofInt, h127, Nat.and_two_pow_sub_one_eq_mod]
  show IntKind.i64.wrap ((BitVec.ofInt 64 n &&& BitVec.ofInt 64 ((2 : Int) ^ k - 1)).toNat : Nat) = n % 2 ^ k
  have hlt : (n % ((2 ^ 64 : Nat) : Int)).toNat % 2 ^ k < 2 ^ 63 := Nat.lt_trans (Nat.mod_lt _ hp0) hp
  rw [key, w64 (by omega) (by omega)]
  have h0 : 0 ≤ n % ((2 ^ 64 : Nat) : Int) := Int.emod_nonneg _ (by omega)
  rw [Int.natCast_emod, Int.toNat_of_nonneg h0]
  have hd : ((2 ^ k : Nat) : Int) ∣ ((2 ^ 64 : Nat) : Int) := Int.natCast_dvd_natCast.2 (Nat.pow_dvd_pow 2 (by omega))
  rw [Int.emod_emod_of_dvd _ hd]; simp
def u8 (l : List Int) : List Value := l.map (Value.int .u8)
def i64 (l : List Int) : List Value := l.map (Value.int .i64)
def bl (l : List Bool) : List Value := l.map Value.bool
theorem u8_get (l : List Int) (i : Nat) : (u8 l)[i]? = l[i]?.map (Value.int .u8) := by simp [u8]
theorem bl_get (l : List Bool) (i : Nat) : (bl l)[i]? = l[i]?.map Value.bool := by simp [bl]
theorem i64_get (l : List Int) (i : Nat) : (i64 l)[i]? = l[i]?.map (Value.int .i64) := by simp [i64]
theorem bl_length (l : List Bool) : (bl l).length = l.length := by simp [bl]
theorem u8_length (l : List Int) : (u8 l).length = l.length := by simp [u8]
theorem u8_set (l : List Int) (i : Nat) (x : Int) : (u8 l).set i (.int .u8 x) = u8 (l.set i x) := by simp [u8]
theorem bl_set (l : List Bool) (i : Nat) (x : Bool) : (bl l).set i (.bool x) = bl (l.set i x) := by simp [bl]
def Byte (l : List Int) : Prop := ∀ x ∈ l, 0 ≤ x ∧ x < 256
theorem Byte.get {l : List Int} (h : Byte l) {i : Nat} {x : Int} (hx : l[i]? = some x) : 0 ≤ x ∧ x < 256 := h x (List.mem_of_getElem? hx)
theorem Byte.set {l : List Int} (h : Byte l) {i : Nat} {x : Int} (h1 : 0 ≤ x) (h2 : x < 256) : Byte (l.set i x) := fun y hy => by
  rcases List.mem_or_eq_of_mem_set hy with h' | h'
  · exact h y h'
  · subst h'; exact ⟨h1, h2⟩
end Go.Proofs.Ytcddhbhdpleppaa.R
