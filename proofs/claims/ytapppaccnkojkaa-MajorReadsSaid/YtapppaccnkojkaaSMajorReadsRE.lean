/- The laws' parameters as Lean structures, and what their cells read as. Written by genrow2.py. No conditions. -/
import Derived.Test.YtapppaccnkojkaaROpen
import Derived.Test.YtapppaccnkojkaaRows
import Derived.KernelRfl
set_option linter.unusedVariables false
set_option linter.unusedSimpArgs false
namespace Go.Proofs.Ytapppaccnkojkaa.R
open Go Go.ChangeShapes Go.WideShapes
structure E50 where
  N : Int
  Second : Bool
  L : Int
def E50.cs (x : E50) : List Value := [.int .i64 x.N, .bool x.Second, .int .u8 x.L]
theorem E50.len (x : E50) : x.cs.length = 3 := rfl
def E50.wf (W : World) (x : E50) : Prop := inI64 x.N ∧ inU8 x.L
theorem rdE50 (W : World) : Rd Try.prog W 50 3 E50.cs (E50.wf W) := ⟨(show Try.prog.cellsOf 50 = 3 from by kernel_rfl), fun enc base sp held fuel cs x h => by
  have hl := (field_open Try.underlying50 h).1
  have hf := (field_open Try.underlying50 h).2
  rw [(show Try.prog.cellsOf 50 = 3 from by kernel_rfl)] at hl
  obtain ⟨c0, r_0, rfl, hl0⟩ := cons_of hl
  clear hl
  obtain ⟨c1, r_1, rfl, hl1⟩ := cons_of hl0
  clear hl0
  obtain ⟨c2, r_2, rfl, hl2⟩ := cons_of hl1
  clear hl1
  obtain rfl := nil_of hl2
  obtain ⟨n_0, y_0, h_0⟩ := hf 0 _ rfl
  replace h_0 : DataW.trod _ _ _ _ _ _ _ 3 ((List.drop 0 _).take (Try.prog.cellsOf 3)) = some y_0 := h_0
  simp only [(show Try.prog.cellsOf 3 = 1 from by kernel_rfl), List.drop_succ_cons, List.drop_zero, List.take_succ_cons, List.take_zero] at h_0
  obtain ⟨a0, k0, w0⟩ := (Rd.i64 Try.underlying3 (show Try.prog.cellsOf 3 = 1 from by kernel_rfl)).rd _ _ _ _ _ _ _ h_0
  simp only [eI64, List.cons.injEq, and_true] at k0
  obtain ⟨n_1, y_1, h_1⟩ := hf 1 _ rfl
  replace h_1 : DataW.trod _ _ _ _ _ _ _ 4 ((List.drop 1 _).take (Try.prog.cellsOf 4)) = some y_1 := h_1
  simp only [(show Try.prog.cellsOf 4 = 1 from by kernel_rfl), List.drop_succ_cons, List.drop_zero, List.take_succ_cons, List.take_zero] at h_1
  obtain ⟨a1, k1, w1⟩ := (Rd.bool Try.underlying4 (show Try.prog.cellsOf 4 = 1 from by kernel_rfl)).rd _ _ _ _ _ _ _ h_1
  simp only [eB, List.cons.injEq, and_true] at k1
  obtain ⟨n_2, y_2, h_2⟩ := hf 2 _ rfl
  replace h_2 : DataW.trod _ _ _ _ _ _ _ 48 ((List.drop 2 _).take (Try.prog.cellsOf 48)) = some y_2 := h_2
  simp only [(show Try.prog.cellsOf 48 = 1 from by kernel_rfl), List.drop_succ_cons, List.drop_zero, List.take_succ_cons, List.take_zero] at h_2
  obtain ⟨a2, k2, w2⟩ := (Rd.u8 Try.underlying48 (show Try.prog.cellsOf 48 = 1 from by kernel_rfl)).rd _ _ _ _ _ _ _ h_2
  simp only [eU8, List.cons.injEq, and_true] at k2
  exact ⟨⟨a0, a1, a2⟩, by simp only [E50.cs, List.cons.injEq, and_true]; exact ⟨k0, k1, k2⟩, ⟨w0, w2⟩⟩⟩
end Go.Proofs.Ytapppaccnkojkaa.R
