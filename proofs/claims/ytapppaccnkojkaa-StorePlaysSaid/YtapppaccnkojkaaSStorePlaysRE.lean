/- The laws' parameters as Lean structures, and what their cells read as. Written by genrow2.py. No conditions. -/
import Derived.Test.YtapppaccnkojkaaROpen
import Derived.Test.YtapppaccnkojkaaRows
import Derived.KernelRfl
set_option linter.unusedVariables false
set_option linter.unusedSimpArgs false
namespace Go.Proofs.Ytapppaccnkojkaa.R
open Go Go.ChangeShapes Go.WideShapes
structure E30 where
  Kind : Int
  At : Int
  Many : Int
  W : Sl Int
def E30.cs (x : E30) : List Value := [.int .i64 x.Kind, .int .i64 x.At, .int .i64 x.Many, x.W.v]
def E30.wf (W : World) (x : E30) : Prop := inI64 x.Kind ∧ inI64 x.At ∧ inI64 x.Many ∧ (Sl.wf W 1 eU8 inU8) x.W
theorem rdE30 (W : World) : Rd Try.prog W 30 4 E30.cs (E30.wf W) := ⟨(show Try.prog.cellsOf 30 = 4 from by kernel_rfl), fun enc base sp held fuel cs x h => by
  have hl := (field_open Try.underlying30 h).1
  have hf := (field_open Try.underlying30 h).2
  rw [(show Try.prog.cellsOf 30 = 4 from by kernel_rfl)] at hl
  obtain ⟨c0, r_0, rfl, hl0⟩ := cons_of hl
  clear hl
  obtain ⟨c1, r_1, rfl, hl1⟩ := cons_of hl0
  clear hl0
  obtain ⟨c2, r_2, rfl, hl2⟩ := cons_of hl1
  clear hl1
  obtain ⟨c3, r_3, rfl, hl3⟩ := cons_of hl2
  clear hl2
  obtain rfl := nil_of hl3
  obtain ⟨n_0, y_0, h_0⟩ := hf 0 _ rfl
  replace h_0 : DataW.trod _ _ _ _ _ _ _ 3 ((List.drop 0 _).take (Try.prog.cellsOf 3)) = some y_0 := h_0
  simp only [(show Try.prog.cellsOf 3 = 1 from by kernel_rfl), List.drop_succ_cons, List.drop_zero, List.take_succ_cons, List.take_zero] at h_0
  obtain ⟨a0, k0, w0⟩ := (Rd.i64 Try.underlying3 (show Try.prog.cellsOf 3 = 1 from by kernel_rfl)).rd _ _ _ _ _ _ _ h_0
  simp only [eI64, List.cons.injEq, and_true] at k0
  obtain ⟨n_1, y_1, h_1⟩ := hf 1 _ rfl
  replace h_1 : DataW.trod _ _ _ _ _ _ _ 3 ((List.drop 1 _).take (Try.prog.cellsOf 3)) = some y_1 := h_1
  simp only [(show Try.prog.cellsOf 3 = 1 from by kernel_rfl), List.drop_succ_cons, List.drop_zero, List.take_succ_cons, List.take_zero] at h_1
  obtain ⟨a1, k1, w1⟩ := (Rd.i64 Try.underlying3 (show Try.prog.cellsOf 3 = 1 from by kernel_rfl)).rd _ _ _ _ _ _ _ h_1
  simp only [eI64, List.cons.injEq, and_true] at k1
  obtain ⟨n_2, y_2, h_2⟩ := hf 2 _ rfl
  replace h_2 : DataW.trod _ _ _ _ _ _ _ 3 ((List.drop 2 _).take (Try.prog.cellsOf 3)) = some y_2 := h_2
  simp only [(show Try.prog.cellsOf 3 = 1 from by kernel_rfl), List.drop_succ_cons, List.drop_zero, List.take_succ_cons, List.take_zero] at h_2
  obtain ⟨a2, k2, w2⟩ := (Rd.i64 Try.underlying3 (show Try.prog.cellsOf 3 = 1 from by kernel_rfl)).rd _ _ _ _ _ _ _ h_2
  simp only [eI64, List.cons.injEq, and_true] at k2
  obtain ⟨n_3, y_3, h_3⟩ := hf 3 _ rfl
  replace h_3 : DataW.trod _ _ _ _ _ _ _ 28 ((List.drop 3 _).take (Try.prog.cellsOf 28)) = some y_3 := h_3
  simp only [(show Try.prog.cellsOf 28 = 1 from by kernel_rfl), List.drop_succ_cons, List.drop_zero, List.take_succ_cons, List.take_zero] at h_3
  obtain ⟨a3, k3, w3⟩ := (Rd.slice Try.underlying28 (show Try.prog.cellsOf 28 = 1 from by kernel_rfl) (Rd.u8 Try.underlying5 (show Try.prog.cellsOf 5 = 1 from by kernel_rfl))).rd _ _ _ _ _ _ _ h_3
  simp only [eSl, List.cons.injEq, and_true] at k3
  exact ⟨⟨a0, a1, a2, a3⟩, by simp only [E30.cs, List.cons.injEq, and_true]; exact ⟨k0, k1, k2, k3⟩, ⟨w0, w1, w2, w3⟩⟩⟩
end Go.Proofs.Ytapppaccnkojkaa.R
