/- The laws' parameters as Lean structures, and what their cells read as. Written by genrow2.py. No conditions. -/
import Derived.Test.YtapppaccnkojkaaROpen
import Derived.Test.YtapppaccnkojkaaRows
import Derived.KernelRfl
set_option linter.unusedVariables false
set_option linter.unusedSimpArgs false
namespace Go.Proofs.Ytapppaccnkojkaa.R
open Go Go.ChangeShapes Go.WideShapes
structure E63 where
  Module : Int
  L : Int
def E63.cs (x : E63) : List Value := [.int .i64 x.Module, .int .u8 x.L]
theorem E63.len (x : E63) : x.cs.length = 2 := rfl
def E63.wf (W : World) (x : E63) : Prop := inI64 x.Module ∧ inU8 x.L
theorem rdE63 (W : World) : Rd Try.prog W 63 2 E63.cs (E63.wf W) := ⟨(show Try.prog.cellsOf 63 = 2 from by kernel_rfl), fun enc base sp held fuel cs x h => by
  have hl := (field_open Try.underlying63 h).1
  have hf := (field_open Try.underlying63 h).2
  rw [(show Try.prog.cellsOf 63 = 2 from by kernel_rfl)] at hl
  obtain ⟨c0, r_0, rfl, hl0⟩ := cons_of hl
  clear hl
  obtain ⟨c1, r_1, rfl, hl1⟩ := cons_of hl0
  clear hl0
  obtain rfl := nil_of hl1
  obtain ⟨n_0, y_0, h_0⟩ := hf 0 _ rfl
  replace h_0 : DataW.trod _ _ _ _ _ _ _ 3 ((List.drop 0 _).take (Try.prog.cellsOf 3)) = some y_0 := h_0
  simp only [(show Try.prog.cellsOf 3 = 1 from by kernel_rfl), List.drop_succ_cons, List.drop_zero, List.take_succ_cons, List.take_zero] at h_0
  obtain ⟨a0, k0, w0⟩ := (Rd.i64 Try.underlying3 (show Try.prog.cellsOf 3 = 1 from by kernel_rfl)).rd _ _ _ _ _ _ _ h_0
  simp only [eI64, List.cons.injEq, and_true] at k0
  obtain ⟨n_1, y_1, h_1⟩ := hf 1 _ rfl
  replace h_1 : DataW.trod _ _ _ _ _ _ _ 48 ((List.drop 1 _).take (Try.prog.cellsOf 48)) = some y_1 := h_1
  simp only [(show Try.prog.cellsOf 48 = 1 from by kernel_rfl), List.drop_succ_cons, List.drop_zero, List.take_succ_cons, List.take_zero] at h_1
  obtain ⟨a1, k1, w1⟩ := (Rd.u8 Try.underlying48 (show Try.prog.cellsOf 48 = 1 from by kernel_rfl)).rd _ _ _ _ _ _ _ h_1
  simp only [eU8, List.cons.injEq, and_true] at k1
  exact ⟨⟨a0, a1⟩, by simp only [E63.cs, List.cons.injEq, and_true]; exact ⟨k0, k1⟩, ⟨w0, w1⟩⟩⟩
end Go.Proofs.Ytapppaccnkojkaa.R
