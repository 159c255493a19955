/- The laws' parameters as Lean structures, and what their cells read as. Written by genrow2.py. No conditions. -/
import Derived.Test.YtcddhbhdpleppaaROpen
import Derived.Test.YtcddhbhdpleppaaRows
import Derived.KernelRfl
set_option linter.unusedVariables false
set_option linter.unusedSimpArgs false
namespace Go.Proofs.Ytcddhbhdpleppaa.R
open Go Go.ChangeShapes Go.WideShapes
structure E56 where
  Kind : Int
  Bits : Int
  Words : Int
  Addr : Int
  From : Sl Int
  To : Sl Int
def E56.cs (x : E56) : List Value := [.int .i64 x.Kind, .int .i64 x.Bits, .int .i64 x.Words, .int .i64 x.Addr, x.From.v, x.To.v]
theorem E56.len (x : E56) : x.cs.length = 6 := rfl
def E56.wf (W : World) (x : E56) : Prop := inI64 x.Kind ∧ inI64 x.Bits ∧ inI64 x.Words ∧ inI64 x.Addr ∧ (Sl.wf W 1 eI64 inI64) x.From ∧ (Sl.wf W 1 eI64 inI64) x.To
theorem rdE56 (W : World) : Rd Try.prog W 56 6 E56.cs (E56.wf W) := ⟨(show Try.prog.cellsOf 56 = 6 from by kernel_rfl), fun enc base sp held fuel cs x h => by
  have hl := (field_open Try.underlying56 h).1
  have hf := (field_open Try.underlying56 h).2
  rw [(show Try.prog.cellsOf 56 = 6 from by kernel_rfl)] at hl
  obtain ⟨c0, r_0, rfl, hl0⟩ := cons_of hl
  clear hl
  obtain ⟨c1, r_1, rfl, hl1⟩ := cons_of hl0
  clear hl0
  obtain ⟨c2, r_2, rfl, hl2⟩ := cons_of hl1
  clear hl1
  obtain ⟨c3, r_3, rfl, hl3⟩ := cons_of hl2
  clear hl2
  obtain ⟨c4, r_4, rfl, hl4⟩ := cons_of hl3
  clear hl3
  obtain ⟨c5, r_5, rfl, hl5⟩ := cons_of hl4
  clear hl4
  obtain rfl := nil_of hl5
  obtain ⟨n_0, y_0, h_0⟩ := hf 0 _ rfl
  replace h_0 : DataW.trod _ _ _ _ _ _ _ 3 ((List.drop 0 _).take (Try.prog.cellsOf 3)) = some y_0 := h_0
  simp only [(show Try.prog.cellsOf 3 = 1 from by kernel_rfl), List.drop_succ_cons, List.drop_zero, List.take_succ_cons, List.take_zero] at h_0
  obtain ⟨a0, k0, w0⟩ := (Rd.i64 Try.underlying3 (show Try.prog.cellsOf 3 = 1 from by kernel_rfl)).rd _ _ _ _ _ _ _ h_0
  simp only [eI64, List.cons.injEq, and_true] at k0
  obtain ⟨n_1, y_1, h_1⟩ := hf 1 _ rfl
  replace h_1 : DataW.trod _ _ _ _ _ _ _ 3 ((List.drop 1 _).take (Try.prog.cellsOf 3)) = some y_1 := h_1
  simp only [(show Try.prog.cellsOf 3 = 1 from by kernel_rfl), List.drop_succ_cons, List.drop_zero, List.take_succ_cons, List.take_zero] at h_1
  obtain ⟨a1, k1, w1⟩ := (Rd.i64 Try.underlying3 (show Try.prog.cellsOf 3 = 1 from by kernel_rfl)).rd _ _ _ _ _ _ _ h_1
  simp only [eI64, List.cons.injEq, and_true] at k1
  obtain ⟨n_2, y_2, h_2⟩ := hf 2 _ rfl
  replace h_2 : DataW.trod _ _ _ _ _ _ _ 3 ((List.drop 2 _).take (Try.prog.cellsOf 3)) = some y_2 := h_2
  simp only [(show Try.prog.cellsOf 3 = 1 from by kernel_rfl), List.drop_succ_cons, List.drop_zero, List.take_succ_cons, List.take_zero] at h_2
  obtain ⟨a2, k2, w2⟩ := (Rd.i64 Try.underlying3 (show Try.prog.cellsOf 3 = 1 from by kernel_rfl)).rd _ _ _ _ _ _ _ h_2
  simp only [eI64, List.cons.injEq, and_true] at k2
  obtain ⟨n_3, y_3, h_3⟩ := hf 3 _ rfl
  replace h_3 : DataW.trod _ _ _ _ _ _ _ 3 ((List.drop 3 _).take (Try.prog.cellsOf 3)) = some y_3 := h_3
  simp only [(show Try.prog.cellsOf 3 = 1 from by kernel_rfl), List.drop_succ_cons, List.drop_zero, List.take_succ_cons, List.take_zero] at h_3
  obtain ⟨a3, k3, w3⟩ := (Rd.i64 Try.underlying3 (show Try.prog.cellsOf 3 = 1 from by kernel_rfl)).rd _ _ _ _ _ _ _ h_3
  simp only [eI64, List.cons.injEq, and_true] at k3
  obtain ⟨n_4, y_4, h_4⟩ := hf 4 _ rfl
  replace h_4 : DataW.trod _ _ _ _ _ _ _ 38 ((List.drop 4 _).take (Try.prog.cellsOf 38)) = some y_4 := h_4
  simp only [(show Try.prog.cellsOf 38 = 1 from by kernel_rfl), List.drop_succ_cons, List.drop_zero, List.take_succ_cons, List.take_zero] at h_4
  obtain ⟨a4, k4, w4⟩ := (Rd.slice Try.underlying38 (show Try.prog.cellsOf 38 = 1 from by kernel_rfl) (Rd.i64 Try.underlying3 (show Try.prog.cellsOf 3 = 1 from by kernel_rfl))).rd _ _ _ _ _ _ _ h_4
  simp only [eSl, List.cons.injEq, and_true] at k4
  obtain ⟨n_5, y_5, h_5⟩ := hf 5 _ rfl
  replace h_5 : DataW.trod _ _ _ _ _ _ _ 38 ((List.drop 5 _).take (Try.prog.cellsOf 38)) = some y_5 := h_5
  simp only [(show Try.prog.cellsOf 38 = 1 from by kernel_rfl), List.drop_succ_cons, List.drop_zero, List.take_succ_cons, List.take_zero] at h_5
  obtain ⟨a5, k5, w5⟩ := (Rd.slice Try.underlying38 (show Try.prog.cellsOf 38 = 1 from by kernel_rfl) (Rd.i64 Try.underlying3 (show Try.prog.cellsOf 3 = 1 from by kernel_rfl))).rd _ _ _ _ _ _ _ h_5
  simp only [eSl, List.cons.injEq, and_true] at k5
  exact ⟨⟨a0, a1, a2, a3, a4, a5⟩, by simp only [E56.cs, List.cons.injEq, and_true]; exact ⟨k0, k1, k2, k3, k4, k5⟩, ⟨w0, w1, w2, w3, w4, w5⟩⟩⟩
structure E48 where
  e0 : Sl E56
  e1 : Sl E56
def E48.cs (x : E48) : List Value := [x.e0.v, x.e1.v]
theorem E48.len (x : E48) : x.cs.length = 2 := rfl
def E48.wf (W : World) (x : E48) : Prop := (Sl.wf W 6 E56.cs (E56.wf W)) x.e0 ∧ (Sl.wf W 6 E56.cs (E56.wf W)) x.e1
theorem rdE48 (W : World) : Rd Try.prog W 48 2 E48.cs (E48.wf W) := ⟨(show Try.prog.cellsOf 48 = 2 from by kernel_rfl), fun enc base sp held fuel cs x h => by
  have hl := (elem_open Try.underlying48 h).1
  have hf := (elem_open Try.underlying48 h).2
  rw [(show Try.prog.cellsOf 48 = 2 from by kernel_rfl)] at hl
  obtain ⟨c0, r_0, rfl, hl0⟩ := cons_of hl
  clear hl
  obtain ⟨c1, r_1, rfl, hl1⟩ := cons_of hl0
  clear hl0
  obtain rfl := nil_of hl1
  obtain ⟨n_0, y_0, h_0⟩ := hf 0 (by decide)
  simp only [(show Try.prog.cellsOf 47 = 1 from by kernel_rfl), List.drop_succ_cons, List.drop_zero, List.take_succ_cons, List.take_zero, Nat.zero_mul, Nat.one_mul, Nat.reduceMul] at h_0
  obtain ⟨a0, k0, w0⟩ := (Rd.slice Try.underlying47 (show Try.prog.cellsOf 47 = 1 from by kernel_rfl) (rdE56 W)).rd _ _ _ _ _ _ _ h_0
  simp only [eSl, List.cons.injEq, and_true] at k0
  obtain ⟨n_1, y_1, h_1⟩ := hf 1 (by decide)
  simp only [(show Try.prog.cellsOf 47 = 1 from by kernel_rfl), List.drop_succ_cons, List.drop_zero, List.take_succ_cons, List.take_zero, Nat.zero_mul, Nat.one_mul, Nat.reduceMul] at h_1
  obtain ⟨a1, k1, w1⟩ := (Rd.slice Try.underlying47 (show Try.prog.cellsOf 47 = 1 from by kernel_rfl) (rdE56 W)).rd _ _ _ _ _ _ _ h_1
  simp only [eSl, List.cons.injEq, and_true] at k1
  exact ⟨⟨a0, a1⟩, by simp only [E48.cs, List.cons.injEq, and_true]; exact ⟨k0, k1⟩, ⟨w0, w1⟩⟩⟩
structure E50 where
  Modules : Int
  Frames : E48
def E50.cs (x : E50) : List Value := [.int .i64 x.Modules, x.Frames.e0.v, x.Frames.e1.v]
theorem E50.len (x : E50) : x.cs.length = 3 := rfl
def E50.wf (W : World) (x : E50) : Prop := inI64 x.Modules ∧ (E48.wf W) x.Frames
theorem rdE50 (W : World) : Rd Try.prog W 50 3 E50.cs (E50.wf W) := ⟨(show Try.prog.cellsOf 50 = 3 from by kernel_rfl), fun enc base sp held fuel cs x h => by
  have hl := (field_open Try.underlying50 h).1
  have hf := (field_open Try.underlying50 h).2
  rw [(show Try.prog.cellsOf 50 = 3 from by kernel_rfl)] at hl
  obtain ⟨c0, r_0, rfl, hl0⟩ := cons_of hl
  clear hl
  obtain ⟨c1, r_1, rfl, hl1⟩ := cons_of hl0
  clear hl0
  obtain ⟨c2, r_2, rfl, hl2⟩ := cons_of hl1
  clear hl1
  obtain rfl := nil_of hl2
  obtain ⟨n_0, y_0, h_0⟩ := hf 0 _ rfl
  replace h_0 : DataW.trod _ _ _ _ _ _ _ 3 ((List.drop 0 _).take (Try.prog.cellsOf 3)) = some y_0 := h_0
  simp only [(show Try.prog.cellsOf 3 = 1 from by kernel_rfl), List.drop_succ_cons, List.drop_zero, List.take_succ_cons, List.take_zero] at h_0
  obtain ⟨a0, k0, w0⟩ := (Rd.i64 Try.underlying3 (show Try.prog.cellsOf 3 = 1 from by kernel_rfl)).rd _ _ _ _ _ _ _ h_0
  simp only [eI64, List.cons.injEq, and_true] at k0
  obtain ⟨n_1, y_1, h_1⟩ := hf 1 _ rfl
  replace h_1 : DataW.trod _ _ _ _ _ _ _ 48 ((List.drop 1 _).take (Try.prog.cellsOf 48)) = some y_1 := h_1
  simp only [(show Try.prog.cellsOf 48 = 2 from by kernel_rfl), List.drop_succ_cons, List.drop_zero, List.take_succ_cons, List.take_zero] at h_1
  obtain ⟨a1, k1, w1⟩ := (rdE48 W).rd _ _ _ _ _ _ _ h_1
  simp only [E48.cs, List.cons.injEq, and_true] at k1
  exact ⟨⟨a0, a1⟩, by simp only [E50.cs, List.cons.injEq, and_true]; exact ⟨k0, k1.1, k1.2⟩, ⟨w0, w1⟩⟩⟩
end Go.Proofs.Ytcddhbhdpleppaa.R
