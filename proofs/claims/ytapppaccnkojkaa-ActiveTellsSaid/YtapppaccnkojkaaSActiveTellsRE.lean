/- The laws' parameters as Lean structures, and what their cells read as. Written by genrow2.py. No conditions. -/
import Derived.Test.YtapppaccnkojkaaROpen
import Derived.Test.YtapppaccnkojkaaRows
import Derived.KernelRfl
set_option linter.unusedVariables false
set_option linter.unusedSimpArgs false
namespace Go.Proofs.Ytapppaccnkojkaa.R
open Go Go.ChangeShapes Go.WideShapes
structure E53 where
  e0 : Int
  e1 : Int
def E53.cs (x : E53) : List Value := [.int .i64 x.e0, .int .i64 x.e1]
def E53.wf (W : World) (x : E53) : Prop := inI64 x.e0 ∧ inI64 x.e1
theorem rdE53 (W : World) : Rd Try.prog W 53 2 E53.cs (E53.wf W) := ⟨(show Try.prog.cellsOf 53 = 2 from by kernel_rfl), fun enc base sp held fuel cs x h => by
  have hl := (elem_open Try.underlying53 h).1
  have hf := (elem_open Try.underlying53 h).2
  rw [(show Try.prog.cellsOf 53 = 2 from by kernel_rfl)] at hl
  obtain ⟨c0, r_0, rfl, hl0⟩ := cons_of hl
  clear hl
  obtain ⟨c1, r_1, rfl, hl1⟩ := cons_of hl0
  clear hl0
  obtain rfl := nil_of hl1
  obtain ⟨n_0, y_0, h_0⟩ := hf 0 (by decide)
  simp only [(show Try.prog.cellsOf 3 = 1 from by kernel_rfl), List.drop_succ_cons, List.drop_zero, List.take_succ_cons, List.take_zero, Nat.zero_mul, Nat.one_mul, Nat.reduceMul] at h_0
  obtain ⟨a0, k0, w0⟩ := (Rd.i64 Try.underlying3 (show Try.prog.cellsOf 3 = 1 from by kernel_rfl)).rd _ _ _ _ _ _ _ h_0
  simp only [eI64, List.cons.injEq, and_true] at k0
  obtain ⟨n_1, y_1, h_1⟩ := hf 1 (by decide)
  simp only [(show Try.prog.cellsOf 3 = 1 from by kernel_rfl), List.drop_succ_cons, List.drop_zero, List.take_succ_cons, List.take_zero, Nat.zero_mul, Nat.one_mul, Nat.reduceMul] at h_1
  obtain ⟨a1, k1, w1⟩ := (Rd.i64 Try.underlying3 (show Try.prog.cellsOf 3 = 1 from by kernel_rfl)).rd _ _ _ _ _ _ _ h_1
  simp only [eI64, List.cons.injEq, and_true] at k1
  exact ⟨⟨a0, a1⟩, by simp only [E53.cs, List.cons.injEq, and_true]; exact ⟨k0, k1⟩, ⟨w0, w1⟩⟩⟩
structure E96 where
  e0 : Int
  e1 : Int
  e2 : Int
  e3 : Int
def E96.cs (x : E96) : List Value := [.int .i64 x.e0, .int .i64 x.e1, .int .i64 x.e2, .int .i64 x.e3]
def E96.wf (W : World) (x : E96) : Prop := inI64 x.e0 ∧ inI64 x.e1 ∧ inI64 x.e2 ∧ inI64 x.e3
theorem rdE96 (W : World) : Rd Try.prog W 96 4 E96.cs (E96.wf W) := ⟨(show Try.prog.cellsOf 96 = 4 from by kernel_rfl), fun enc base sp held fuel cs x h => by
  have hl := (elem_open Try.underlying96 h).1
  have hf := (elem_open Try.underlying96 h).2
  rw [(show Try.prog.cellsOf 96 = 4 from by kernel_rfl)] at hl
  obtain ⟨c0, r_0, rfl, hl0⟩ := cons_of hl
  clear hl
  obtain ⟨c1, r_1, rfl, hl1⟩ := cons_of hl0
  clear hl0
  obtain ⟨c2, r_2, rfl, hl2⟩ := cons_of hl1
  clear hl1
  obtain ⟨c3, r_3, rfl, hl3⟩ := cons_of hl2
  clear hl2
  obtain rfl := nil_of hl3
  obtain ⟨n_0, y_0, h_0⟩ := hf 0 (by decide)
  simp only [(show Try.prog.cellsOf 3 = 1 from by kernel_rfl), List.drop_succ_cons, List.drop_zero, List.take_succ_cons, List.take_zero, Nat.zero_mul, Nat.one_mul, Nat.reduceMul] at h_0
  obtain ⟨a0, k0, w0⟩ := (Rd.i64 Try.underlying3 (show Try.prog.cellsOf 3 = 1 from by kernel_rfl)).rd _ _ _ _ _ _ _ h_0
  simp only [eI64, List.cons.injEq, and_true] at k0
  obtain ⟨n_1, y_1, h_1⟩ := hf 1 (by decide)
  simp only [(show Try.prog.cellsOf 3 = 1 from by kernel_rfl), List.drop_succ_cons, List.drop_zero, List.take_succ_cons, List.take_zero, Nat.zero_mul, Nat.one_mul, Nat.reduceMul] at h_1
  obtain ⟨a1, k1, w1⟩ := (Rd.i64 Try.underlying3 (show Try.prog.cellsOf 3 = 1 from by kernel_rfl)).rd _ _ _ _ _ _ _ h_1
  simp only [eI64, List.cons.injEq, and_true] at k1
  obtain ⟨n_2, y_2, h_2⟩ := hf 2 (by decide)
  simp only [(show Try.prog.cellsOf 3 = 1 from by kernel_rfl), List.drop_succ_cons, List.drop_zero, List.take_succ_cons, List.take_zero, Nat.zero_mul, Nat.one_mul, Nat.reduceMul] at h_2
  obtain ⟨a2, k2, w2⟩ := (Rd.i64 Try.underlying3 (show Try.prog.cellsOf 3 = 1 from by kernel_rfl)).rd _ _ _ _ _ _ _ h_2
  simp only [eI64, List.cons.injEq, and_true] at k2
  obtain ⟨n_3, y_3, h_3⟩ := hf 3 (by decide)
  simp only [(show Try.prog.cellsOf 3 = 1 from by kernel_rfl), List.drop_succ_cons, List.drop_zero, List.take_succ_cons, List.take_zero, Nat.zero_mul, Nat.one_mul, Nat.reduceMul] at h_3
  obtain ⟨a3, k3, w3⟩ := (Rd.i64 Try.underlying3 (show Try.prog.cellsOf 3 = 1 from by kernel_rfl)).rd _ _ _ _ _ _ _ h_3
  simp only [eI64, List.cons.injEq, and_true] at k3
  exact ⟨⟨a0, a1, a2, a3⟩, by simp only [E96.cs, List.cons.injEq, and_true]; exact ⟨k0, k1, k2, k3⟩, ⟨w0, w1, w2, w3⟩⟩⟩
end Go.Proofs.Ytapppaccnkojkaa.R
