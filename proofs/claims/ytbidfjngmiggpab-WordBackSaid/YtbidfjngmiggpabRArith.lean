/- Numbers as the walk leaves them. No conditions. -/
import Derived.Test.YtbidfjngmiggpabRDraw
namespace Go.Proofs.Ytbidfjngmiggpab.R
open Go Go.RowKit
theorem w64 {x : Int} (h1 : -9223372036854775808 ≤ x) (h2 : x ≤ 9223372036854775807) : IntKind.i64.wrap x = x := by
  rw [IntKind.wrap_i64]; omega
theorem w8 {x : Int} (h1 : 0 ≤ x) (h2 : x ≤ 255) : IntKind.u8.wrap x = x := by
  unfold IntKind.wrap; simp [IntKind.bits, IntKind.signed]; omega
theorem tdiv_pos {a b : Int} (h : 0 ≤ a) : a.tdiv b = a / b := Int.tdiv_eq_ediv_of_nonneg h
theorem tmod_pos {a b : Int} (h : 0 ≤ a) : a.tmod b = a % b := Int.tmod_eq_emod_of_nonneg h
theorem fdiv_pos {a b : Int} (h : 0 ≤ b) : a.fdiv b = a / b := Int.fdiv_eq_ediv_of_nonneg _ h
theorem u8_cases {x : Int} (h1 : 0 ≤ x) (h2 : x < 256) : ∃ n : Fin 256, x = (n.val : Int) := ⟨⟨x.toNat, by omega⟩, by simp; omega⟩
theorem and_one {x : Int} (h1 : 0 ≤ x) (h2 : x < 256) : bits .and .u8 x 1 = x % 2 := by
  obtain ⟨n, rfl⟩ := u8_cases h1 h2
  revert n; decide +kernel
def u8 (l : List Int) : List Value := l.map (Value.int .u8)
def i64 (l : List Int) : List Value := l.map (Value.int .i64)
def bl (l : List Bool) : List Value := l.map Value.bool
theorem u8_get (l : List Int) (i : Nat) : (u8 l)[i]? = l[i]?.map (Value.int .u8) := by simp [u8]
theorem bl_get (l : List Bool) (i : Nat) : (bl l)[i]? = l[i]?.map Value.bool := by simp [bl]
theorem i64_get (l : List Int) (i : Nat) : (i64 l)[i]? = l[i]?.map (Value.int .i64) := by simp [i64]
theorem bl_length (l : List Bool) : (bl l).length = l.length := by simp [bl]
theorem u8_length (l : List Int) : (u8 l).length = l.length := by simp [u8]
theorem u8_set (l : List Int) (i : Nat) (x : Int) : (u8 l).set i (.int .u8 x) = u8 (l.set i x) := by simp [u8]
theorem bl_set (l : List Bool) (i : Nat) (x : Bool) : (bl l).set i (.bool x) = bl (l.set i x) := by simp [bl]
def Byte (l : List Int) : Prop := ∀ x ∈ l, 0 ≤ x ∧ x < 256
theorem Byte.get {l : List Int} (h : Byte l) {i : Nat} {x : Int} (hx : l[i]? = some x) : 0 ≤ x ∧ x < 256 := h x (List.mem_of_getElem? hx)
theorem Byte.set {l : List Int} (h : Byte l) {i : Nat} {x : Int} (h1 : 0 ≤ x) (h2 : x < 256) : Byte (l.set i x) := fun y hy => by
  rcases List.mem_or_eq_of_mem_set hy with h' | h'
  · exact h y h'
  · subst h'; exact ⟨h1, h2⟩
end Go.Proofs.Ytbidfjngmiggpab.R
