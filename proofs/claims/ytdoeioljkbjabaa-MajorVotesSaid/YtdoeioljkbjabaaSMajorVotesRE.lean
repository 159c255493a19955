/- The laws' parameters as Lean structures, and what their cells read as. Written by genrow2.py. No conditions. -/
import Derived.Test.YtdoeioljkbjabaaROpen
import Derived.Test.YtdoeioljkbjabaaRows
import Derived.KernelRfl
set_option linter.unusedVariables false
set_option linter.unusedSimpArgs false
namespace Go.Proofs.Ytdoeioljkbjabaa.R
open Go Go.ChangeShapes Go.WideShapes
structure E75 where
  e0 : Bool
  e1 : Bool
  e2 : Bool
  e3 : Bool
def E75.cs (x : E75) : List Value := [.bool x.e0, .bool x.e1, .bool x.e2, .bool x.e3]
def E75.wf (W : World) (x : E75) : Prop := True
theorem rdE75 (W : World) : Rd Try.prog W 75 4 E75.cs (E75.wf W) := ⟨(show Try.prog.cellsOf 75 = 4 from by kernel_rfl), fun enc base sp held fuel cs x h => by
  have hl := (elem_open Try.underlying75 h).1
  have hf := (elem_open Try.underlying75 h).2
  rw [(show Try.prog.cellsOf 75 = 4 from by kernel_rfl)] at hl
  obtain ⟨c0, r_0, rfl, hl0⟩ := cons_of hl
  clear hl
  obtain ⟨c1, r_1, rfl, hl1⟩ := cons_of hl0
  clear hl0
  obtain ⟨c2, r_2, rfl, hl2⟩ := cons_of hl1
  clear hl1
  obtain ⟨c3, r_3, rfl, hl3⟩ := cons_of hl2
  clear hl2
  obtain rfl := nil_of hl3
  obtain ⟨n_0, y_0, h_0⟩ := hf 0 (by decide)
  simp only [(show Try.prog.cellsOf 4 = 1 from by kernel_rfl), List.drop_succ_cons, List.drop_zero, List.take_succ_cons, List.take_zero, Nat.zero_mul, Nat.one_mul, Nat.reduceMul] at h_0
  obtain ⟨a0, k0, w0⟩ := (Rd.bool Try.underlying4 (show Try.prog.cellsOf 4 = 1 from by kernel_rfl)).rd _ _ _ _ _ _ _ h_0
  simp only [eB, List.cons.injEq, and_true] at k0
  obtain ⟨n_1, y_1, h_1⟩ := hf 1 (by decide)
  simp only [(show Try.prog.cellsOf 4 = 1 from by kernel_rfl), List.drop_succ_cons, List.drop_zero, List.take_succ_cons, List.take_zero, Nat.zero_mul, Nat.one_mul, Nat.reduceMul] at h_1
  obtain ⟨a1, k1, w1⟩ := (Rd.bool Try.underlying4 (show Try.prog.cellsOf 4 = 1 from by kernel_rfl)).rd _ _ _ _ _ _ _ h_1
  simp only [eB, List.cons.injEq, and_true] at k1
  obtain ⟨n_2, y_2, h_2⟩ := hf 2 (by decide)
  simp only [(show Try.prog.cellsOf 4 = 1 from by kernel_rfl), List.drop_succ_cons, List.drop_zero, List.take_succ_cons, List.take_zero, Nat.zero_mul, Nat.one_mul, Nat.reduceMul] at h_2
  obtain ⟨a2, k2, w2⟩ := (Rd.bool Try.underlying4 (show Try.prog.cellsOf 4 = 1 from by kernel_rfl)).rd _ _ _ _ _ _ _ h_2
  simp only [eB, List.cons.injEq, and_true] at k2
  obtain ⟨n_3, y_3, h_3⟩ := hf 3 (by decide)
  simp only [(show Try.prog.cellsOf 4 = 1 from by kernel_rfl), List.drop_succ_cons, List.drop_zero, List.take_succ_cons, List.take_zero, Nat.zero_mul, Nat.one_mul, Nat.reduceMul] at h_3
  obtain ⟨a3, k3, w3⟩ := (Rd.bool Try.underlying4 (show Try.prog.cellsOf 4 = 1 from by kernel_rfl)).rd _ _ _ _ _ _ _ h_3
  simp only [eB, List.cons.injEq, and_true] at k3
  exact ⟨⟨a0, a1, a2, a3⟩, by simp only [E75.cs, List.cons.injEq, and_true]; exact ⟨k0, k1, k2, k3⟩, trivial⟩⟩
end Go.Proofs.Ytdoeioljkbjabaa.R
