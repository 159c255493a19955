/- The laws' parameters as Lean structures, and what their cells read as. Written by genrow2.py. No conditions. -/
import Derived.Test.YtbidfjngmiggpabROpen
import Derived.Test.YtbidfjngmiggpabRows
import Derived.KernelRfl
set_option linter.unusedVariables false
set_option linter.unusedSimpArgs false
namespace Go.Proofs.Ytbidfjngmiggpab.R
open Go Go.ChangeShapes Go.WideShapes
structure E24 where
  Kind : Int
  Module : Int
  Y : Bool
  Line : Int
  From : Int
  Pattern : Sl Int
def E24.cs (x : E24) : List Value := [.int .i64 x.Kind, .int .i64 x.Module, .bool x.Y, .int .i64 x.Line, .int .i64 x.From, x.Pattern.v]
theorem E24.len (x : E24) : x.cs.length = 6 := rfl
def E24.wf (W : World) (x : E24) : Prop := inI64 x.Kind ∧ inI64 x.Module ∧ inI64 x.Line ∧ inI64 x.From ∧ (Sl.wf W 1 eU8 inU8) x.Pattern
theorem rdE24 (W : World) : Rd Try.prog W 24 6 E24.cs (E24.wf W) := ⟨(show Try.prog.cellsOf 24 = 6 from by kernel_rfl), fun enc base sp held fuel cs x h => by
  have hl := (field_open Try.underlying24 h).1
  have hf := (field_open Try.underlying24 h).2
  rw [(show Try.prog.cellsOf 24 = 6 from by kernel_rfl)] at hl
  obtain ⟨c0, r_0, rfl, hl0⟩ := cons_of hl
  clear hl
  obtain ⟨c1, r_1, rfl, hl1⟩ := cons_of hl0
  clear hl0
  obtain ⟨c2, r_2, rfl, hl2⟩ := cons_of hl1
  clear hl1
  obtain ⟨c3, r_3, rfl, hl3⟩ := cons_of hl2
  clear hl2
  obtain ⟨c4, r_4, rfl, hl4⟩ := cons_of hl3
  clear hl3
  obtain ⟨c5, r_5, rfl, hl5⟩ := cons_of hl4
  clear hl4
  obtain rfl := nil_of hl5
  obtain ⟨n_0, y_0, h_0⟩ := hf 0 _ rfl
  replace h_0 : DataW.trod _ _ _ _ _ _ _ 3 ((List.drop 0 _).take (Try.prog.cellsOf 3)) = some y_0 := h_0
  simp only [(show Try.prog.cellsOf 3 = 1 from by kernel_rfl), List.drop_succ_cons, List.drop_zero, List.take_succ_cons, List.take_zero] at h_0
  obtain ⟨a0, k0, w0⟩ := (Rd.i64 Try.underlying3 (show Try.prog.cellsOf 3 = 1 from by kernel_rfl)).rd _ _ _ _ _ _ _ h_0
  simp only [eI64, List.cons.injEq, and_true] at k0
  obtain ⟨n_1, y_1, h_1⟩ := hf 1 _ rfl
  replace h_1 : DataW.trod _ _ _ _ _ _ _ 3 ((List.drop 1 _).take (Try.prog.cellsOf 3)) = some y_1 := h_1
  simp only [(show Try.prog.cellsOf 3 = 1 from by kernel_rfl), List.drop_succ_cons, List.drop_zero, List.take_succ_cons, List.take_zero] at h_1
  obtain ⟨a1, k1, w1⟩ := (Rd.i64 Try.underlying3 (show Try.prog.cellsOf 3 = 1 from by kernel_rfl)).rd _ _ _ _ _ _ _ h_1
  simp only [eI64, List.cons.injEq, and_true] at k1
  obtain ⟨n_2, y_2, h_2⟩ := hf 2 _ rfl
  replace h_2 : DataW.trod _ _ _ _ _ _ _ 4 ((List.drop 2 _).take (Try.prog.cellsOf 4)) = some y_2 := h_2
  simp only [(show Try.prog.cellsOf 4 = 1 from by kernel_rfl), List.drop_succ_cons, List.drop_zero, List.take_succ_cons, List.take_zero] at h_2
  obtain ⟨a2, k2, w2⟩ := (Rd.bool Try.underlying4 (show Try.prog.cellsOf 4 = 1 from by kernel_rfl)).rd _ _ _ _ _ _ _ h_2
  simp only [eB, List.cons.injEq, and_true] at k2
  obtain ⟨n_3, y_3, h_3⟩ := hf 3 _ rfl
  replace h_3 : DataW.trod _ _ _ _ _ _ _ 3 ((List.drop 3 _).take (Try.prog.cellsOf 3)) = some y_3 := h_3
  simp only [(show Try.prog.cellsOf 3 = 1 from by kernel_rfl), List.drop_succ_cons, List.drop_zero, List.take_succ_cons, List.take_zero] at h_3
  obtain ⟨a3, k3, w3⟩ := (Rd.i64 Try.underlying3 (show Try.prog.cellsOf 3 = 1 from by kernel_rfl)).rd _ _ _ _ _ _ _ h_3
  simp only [eI64, List.cons.injEq, and_true] at k3
  obtain ⟨n_4, y_4, h_4⟩ := hf 4 _ rfl
  replace h_4 : DataW.trod _ _ _ _ _ _ _ 3 ((List.drop 4 _).take (Try.prog.cellsOf 3)) = some y_4 := h_4
  simp only [(show Try.prog.cellsOf 3 = 1 from by kernel_rfl), List.drop_succ_cons, List.drop_zero, List.take_succ_cons, List.take_zero] at h_4
  obtain ⟨a4, k4, w4⟩ := (Rd.i64 Try.underlying3 (show Try.prog.cellsOf 3 = 1 from by kernel_rfl)).rd _ _ _ _ _ _ _ h_4
  simp only [eI64, List.cons.injEq, and_true] at k4
  obtain ⟨n_5, y_5, h_5⟩ := hf 5 _ rfl
  replace h_5 : DataW.trod _ _ _ _ _ _ _ 22 ((List.drop 5 _).take (Try.prog.cellsOf 22)) = some y_5 := h_5
  simp only [(show Try.prog.cellsOf 22 = 1 from by kernel_rfl), List.drop_succ_cons, List.drop_zero, List.take_succ_cons, List.take_zero] at h_5
  obtain ⟨a5, k5, w5⟩ := (Rd.slice Try.underlying22 (show Try.prog.cellsOf 22 = 1 from by kernel_rfl) (Rd.u8 Try.underlying5 (show Try.prog.cellsOf 5 = 1 from by kernel_rfl))).rd _ _ _ _ _ _ _ h_5
  simp only [eSl, List.cons.injEq, and_true] at k5
  exact ⟨⟨a0, a1, a2, a3, a4, a5⟩, by simp only [E24.cs, List.cons.injEq, and_true]; exact ⟨k0, k1, k2, k3, k4, k5⟩, ⟨w0, w1, w3, w4, w5⟩⟩⟩
structure E26 where
  e0 : Int
  e1 : Int
  e2 : Int
def E26.cs (x : E26) : List Value := [.int .i64 x.e0, .int .i64 x.e1, .int .i64 x.e2]
theorem E26.len (x : E26) : x.cs.length = 3 := rfl
def E26.wf (W : World) (x : E26) : Prop := inI64 x.e0 ∧ inI64 x.e1 ∧ inI64 x.e2
theorem rdE26 (W : World) : Rd Try.prog W 26 3 E26.cs (E26.wf W) := ⟨(show Try.prog.cellsOf 26 = 3 from by kernel_rfl), fun enc base sp held fuel cs x h => by
  have hl := (elem_open Try.underlying26 h).1
  have hf := (elem_open Try.underlying26 h).2
  rw [(show Try.prog.cellsOf 26 = 3 from by kernel_rfl)] at hl
  obtain ⟨c0, r_0, rfl, hl0⟩ := cons_of hl
  clear hl
  obtain ⟨c1, r_1, rfl, hl1⟩ := cons_of hl0
  clear hl0
  obtain ⟨c2, r_2, rfl, hl2⟩ := cons_of hl1
  clear hl1
  obtain rfl := nil_of hl2
  obtain ⟨n_0, y_0, h_0⟩ := hf 0 (by decide)
  simp only [(show Try.prog.cellsOf 3 = 1 from by kernel_rfl), List.drop_succ_cons, List.drop_zero, List.take_succ_cons, List.take_zero, Nat.zero_mul, Nat.one_mul, Nat.reduceMul] at h_0
  obtain ⟨a0, k0, w0⟩ := (Rd.i64 Try.underlying3 (show Try.prog.cellsOf 3 = 1 from by kernel_rfl)).rd _ _ _ _ _ _ _ h_0
  simp only [eI64, List.cons.injEq, and_true] at k0
  obtain ⟨n_1, y_1, h_1⟩ := hf 1 (by decide)
  simp only [(show Try.prog.cellsOf 3 = 1 from by kernel_rfl), List.drop_succ_cons, List.drop_zero, List.take_succ_cons, List.take_zero, Nat.zero_mul, Nat.one_mul, Nat.reduceMul] at h_1
  obtain ⟨a1, k1, w1⟩ := (Rd.i64 Try.underlying3 (show Try.prog.cellsOf 3 = 1 from by kernel_rfl)).rd _ _ _ _ _ _ _ h_1
  simp only [eI64, List.cons.injEq, and_true] at k1
  obtain ⟨n_2, y_2, h_2⟩ := hf 2 (by decide)
  simp only [(show Try.prog.cellsOf 3 = 1 from by kernel_rfl), List.drop_succ_cons, List.drop_zero, List.take_succ_cons, List.take_zero, Nat.zero_mul, Nat.one_mul, Nat.reduceMul] at h_2
  obtain ⟨a2, k2, w2⟩ := (Rd.i64 Try.underlying3 (show Try.prog.cellsOf 3 = 1 from by kernel_rfl)).rd _ _ _ _ _ _ _ h_2
  simp only [eI64, List.cons.injEq, and_true] at k2
  exact ⟨⟨a0, a1, a2⟩, by simp only [E26.cs, List.cons.injEq, and_true]; exact ⟨k0, k1, k2⟩, ⟨w0, w1, w2⟩⟩⟩
structure E36 where
  e0 : Bool
  e1 : Bool
def E36.cs (x : E36) : List Value := [.bool x.e0, .bool x.e1]
theorem E36.len (x : E36) : x.cs.length = 2 := rfl
def E36.wf (W : World) (x : E36) : Prop := True
theorem rdE36 (W : World) : Rd Try.prog W 36 2 E36.cs (E36.wf W) := ⟨(show Try.prog.cellsOf 36 = 2 from by kernel_rfl), fun enc base sp held fuel cs x h => by
  have hl := (elem_open Try.underlying36 h).1
  have hf := (elem_open Try.underlying36 h).2
  rw [(show Try.prog.cellsOf 36 = 2 from by kernel_rfl)] at hl
  obtain ⟨c0, r_0, rfl, hl0⟩ := cons_of hl
  clear hl
  obtain ⟨c1, r_1, rfl, hl1⟩ := cons_of hl0
  clear hl0
  obtain rfl := nil_of hl1
  obtain ⟨n_0, y_0, h_0⟩ := hf 0 (by decide)
  simp only [(show Try.prog.cellsOf 4 = 1 from by kernel_rfl), List.drop_succ_cons, List.drop_zero, List.take_succ_cons, List.take_zero, Nat.zero_mul, Nat.one_mul, Nat.reduceMul] at h_0
  obtain ⟨a0, k0, w0⟩ := (Rd.bool Try.underlying4 (show Try.prog.cellsOf 4 = 1 from by kernel_rfl)).rd _ _ _ _ _ _ _ h_0
  simp only [eB, List.cons.injEq, and_true] at k0
  obtain ⟨n_1, y_1, h_1⟩ := hf 1 (by decide)
  simp only [(show Try.prog.cellsOf 4 = 1 from by kernel_rfl), List.drop_succ_cons, List.drop_zero, List.take_succ_cons, List.take_zero, Nat.zero_mul, Nat.one_mul, Nat.reduceMul] at h_1
  obtain ⟨a1, k1, w1⟩ := (Rd.bool Try.underlying4 (show Try.prog.cellsOf 4 = 1 from by kernel_rfl)).rd _ _ _ _ _ _ _ h_1
  simp only [eB, List.cons.injEq, and_true] at k1
  exact ⟨⟨a0, a1⟩, by simp only [E36.cs, List.cons.injEq, and_true]; exact ⟨k0, k1⟩, trivial⟩⟩
structure E50 where
  N : Int
  Bit : Bool
  Known : Bool
def E50.cs (x : E50) : List Value := [.int .i64 x.N, .bool x.Bit, .bool x.Known]
theorem E50.len (x : E50) : x.cs.length = 3 := rfl
def E50.wf (W : World) (x : E50) : Prop := inI64 x.N
theorem rdE50 (W : World) : Rd Try.prog W 50 3 E50.cs (E50.wf W) := ⟨(show Try.prog.cellsOf 50 = 3 from by kernel_rfl), fun enc base sp held fuel cs x h => by
  have hl := (field_open Try.underlying50 h).1
  have hf := (field_open Try.underlying50 h).2
  rw [(show Try.prog.cellsOf 50 = 3 from by kernel_rfl)] at hl
  obtain ⟨c0, r_0, rfl, hl0⟩ := cons_of hl
  clear hl
  obtain ⟨c1, r_1, rfl, hl1⟩ := cons_of hl0
  clear hl0
  obtain ⟨c2, r_2, rfl, hl2⟩ := cons_of hl1
  clear hl1
  obtain rfl := nil_of hl2
  obtain ⟨n_0, y_0, h_0⟩ := hf 0 _ rfl
  replace h_0 : DataW.trod _ _ _ _ _ _ _ 3 ((List.drop 0 _).take (Try.prog.cellsOf 3)) = some y_0 := h_0
  simp only [(show Try.prog.cellsOf 3 = 1 from by kernel_rfl), List.drop_succ_cons, List.drop_zero, List.take_succ_cons, List.take_zero] at h_0
  obtain ⟨a0, k0, w0⟩ := (Rd.i64 Try.underlying3 (show Try.prog.cellsOf 3 = 1 from by kernel_rfl)).rd _ _ _ _ _ _ _ h_0
  simp only [eI64, List.cons.injEq, and_true] at k0
  obtain ⟨n_1, y_1, h_1⟩ := hf 1 _ rfl
  replace h_1 : DataW.trod _ _ _ _ _ _ _ 4 ((List.drop 1 _).take (Try.prog.cellsOf 4)) = some y_1 := h_1
  simp only [(show Try.prog.cellsOf 4 = 1 from by kernel_rfl), List.drop_succ_cons, List.drop_zero, List.take_succ_cons, List.take_zero] at h_1
  obtain ⟨a1, k1, w1⟩ := (Rd.bool Try.underlying4 (show Try.prog.cellsOf 4 = 1 from by kernel_rfl)).rd _ _ _ _ _ _ _ h_1
  simp only [eB, List.cons.injEq, and_true] at k1
  obtain ⟨n_2, y_2, h_2⟩ := hf 2 _ rfl
  replace h_2 : DataW.trod _ _ _ _ _ _ _ 4 ((List.drop 2 _).take (Try.prog.cellsOf 4)) = some y_2 := h_2
  simp only [(show Try.prog.cellsOf 4 = 1 from by kernel_rfl), List.drop_succ_cons, List.drop_zero, List.take_succ_cons, List.take_zero] at h_2
  obtain ⟨a2, k2, w2⟩ := (Rd.bool Try.underlying4 (show Try.prog.cellsOf 4 = 1 from by kernel_rfl)).rd _ _ _ _ _ _ _ h_2
  simp only [eB, List.cons.injEq, and_true] at k2
  exact ⟨⟨a0, a1, a2⟩, by simp only [E50.cs, List.cons.injEq, and_true]; exact ⟨k0, k1, k2⟩, w0⟩⟩
structure E62 where
  e0 : Int
  e1 : Int
def E62.cs (x : E62) : List Value := [.int .i64 x.e0, .int .i64 x.e1]
theorem E62.len (x : E62) : x.cs.length = 2 := rfl
def E62.wf (W : World) (x : E62) : Prop := inI64 x.e0 ∧ inI64 x.e1
theorem rdE62 (W : World) : Rd Try.prog W 62 2 E62.cs (E62.wf W) := ⟨(show Try.prog.cellsOf 62 = 2 from by kernel_rfl), fun enc base sp held fuel cs x h => by
  have hl := (elem_open Try.underlying62 h).1
  have hf := (elem_open Try.underlying62 h).2
  rw [(show Try.prog.cellsOf 62 = 2 from by kernel_rfl)] at hl
  obtain ⟨c0, r_0, rfl, hl0⟩ := cons_of hl
  clear hl
  obtain ⟨c1, r_1, rfl, hl1⟩ := cons_of hl0
  clear hl0
  obtain rfl := nil_of hl1
  obtain ⟨n_0, y_0, h_0⟩ := hf 0 (by decide)
  simp only [(show Try.prog.cellsOf 3 = 1 from by kernel_rfl), List.drop_succ_cons, List.drop_zero, List.take_succ_cons, List.take_zero, Nat.zero_mul, Nat.one_mul, Nat.reduceMul] at h_0
  obtain ⟨a0, k0, w0⟩ := (Rd.i64 Try.underlying3 (show Try.prog.cellsOf 3 = 1 from by kernel_rfl)).rd _ _ _ _ _ _ _ h_0
  simp only [eI64, List.cons.injEq, and_true] at k0
  obtain ⟨n_1, y_1, h_1⟩ := hf 1 (by decide)
  simp only [(show Try.prog.cellsOf 3 = 1 from by kernel_rfl), List.drop_succ_cons, List.drop_zero, List.take_succ_cons, List.take_zero, Nat.zero_mul, Nat.one_mul, Nat.reduceMul] at h_1
  obtain ⟨a1, k1, w1⟩ := (Rd.i64 Try.underlying3 (show Try.prog.cellsOf 3 = 1 from by kernel_rfl)).rd _ _ _ _ _ _ _ h_1
  simp only [eI64, List.cons.injEq, and_true] at k1
  exact ⟨⟨a0, a1⟩, by simp only [E62.cs, List.cons.injEq, and_true]; exact ⟨k0, k1⟩, ⟨w0, w1⟩⟩⟩
end Go.Proofs.Ytbidfjngmiggpab.R
