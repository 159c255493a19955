/- The laws' parameters as Lean structures, and what their cells read as. Written by genrow2.py. No conditions. -/
import Derived.Test.YtdoeioljkbjababROpen
import Derived.Test.YtdoeioljkbjababRows
import Derived.KernelRfl
set_option linter.unusedVariables false
set_option linter.unusedSimpArgs false
namespace Go.Proofs.Ytdoeioljkbjabab.R
open Go Go.ChangeShapes Go.WideShapes
structure E23 where
  Kind : Int
  Start : Int
  Long : Int
  Words : Int
  Addr : Int
  Many : Int
  Cand : Int
  Take : Bool
def E23.cs (x : E23) : List Value := [.int .i64 x.Kind, .int .i64 x.Start, .int .i64 x.Long, .int .i64 x.Words, .int .i64 x.Addr, .int .i64 x.Many, .int .i64 x.Cand, .bool x.Take]
def E23.wf (W : World) (x : E23) : Prop := inI64 x.Kind ∧ inI64 x.Start ∧ inI64 x.Long ∧ inI64 x.Words ∧ inI64 x.Addr ∧ inI64 x.Many ∧ inI64 x.Cand
theorem rdE23 (W : World) : Rd Try.prog W 23 8 E23.cs (E23.wf W) := ⟨(show Try.prog.cellsOf 23 = 8 from by kernel_rfl), fun enc base sp held fuel cs x h => by
  have hl := (field_open Try.underlying23 h).1
  have hf := (field_open Try.underlying23 h).2
  rw [(show Try.prog.cellsOf 23 = 8 from by kernel_rfl)] at hl
  obtain ⟨c0, r_0, rfl, hl0⟩ := cons_of hl
  clear hl
  obtain ⟨c1, r_1, rfl, hl1⟩ := cons_of hl0
  clear hl0
  obtain ⟨c2, r_2, rfl, hl2⟩ := cons_of hl1
  clear hl1
  obtain ⟨c3, r_3, rfl, hl3⟩ := cons_of hl2
  clear hl2
  obtain ⟨c4, r_4, rfl, hl4⟩ := cons_of hl3
  clear hl3
  obtain ⟨c5, r_5, rfl, hl5⟩ := cons_of hl4
  clear hl4
  obtain ⟨c6, r_6, rfl, hl6⟩ := cons_of hl5
  clear hl5
  obtain ⟨c7, r_7, rfl, hl7⟩ := cons_of hl6
  clear hl6
  obtain rfl := nil_of hl7
  obtain ⟨n_0, y_0, h_0⟩ := hf 0 _ rfl
  replace h_0 : DataW.trod _ _ _ _ _ _ _ 3 ((List.drop 0 _).take (Try.prog.cellsOf 3)) = some y_0 := h_0
  simp only [(show Try.prog.cellsOf 3 = 1 from by kernel_rfl), List.drop_succ_cons, List.drop_zero, List.take_succ_cons, List.take_zero] at h_0
  obtain ⟨a0, k0, w0⟩ := (Rd.i64 Try.underlying3 (show Try.prog.cellsOf 3 = 1 from by kernel_rfl)).rd _ _ _ _ _ _ _ h_0
  simp only [eI64, List.cons.injEq, and_true] at k0
  obtain ⟨n_1, y_1, h_1⟩ := hf 1 _ rfl
  replace h_1 : DataW.trod _ _ _ _ _ _ _ 3 ((List.drop 1 _).take (Try.prog.cellsOf 3)) = some y_1 := h_1
  simp only [(show Try.prog.cellsOf 3 = 1 from by kernel_rfl), List.drop_succ_cons, List.drop_zero, List.take_succ_cons, List.take_zero] at h_1
  obtain ⟨a1, k1, w1⟩ := (Rd.i64 Try.underlying3 (show Try.prog.cellsOf 3 = 1 from by kernel_rfl)).rd _ _ _ _ _ _ _ h_1
  simp only [eI64, List.cons.injEq, and_true] at k1
  obtain ⟨n_2, y_2, h_2⟩ := hf 2 _ rfl
  replace h_2 : DataW.trod _ _ _ _ _ _ _ 3 ((List.drop 2 _).take (Try.prog.cellsOf 3)) = some y_2 := h_2
  simp only [(show Try.prog.cellsOf 3 = 1 from by kernel_rfl), List.drop_succ_cons, List.drop_zero, List.take_succ_cons, List.take_zero] at h_2
  obtain ⟨a2, k2, w2⟩ := (Rd.i64 Try.underlying3 (show Try.prog.cellsOf 3 = 1 from by kernel_rfl)).rd _ _ _ _ _ _ _ h_2
  simp only [eI64, List.cons.injEq, and_true] at k2
  obtain ⟨n_3, y_3, h_3⟩ := hf 3 _ rfl
  replace h_3 : DataW.trod _ _ _ _ _ _ _ 3 ((List.drop 3 _).take (Try.prog.cellsOf 3)) = some y_3 := h_3
  simp only [(show Try.prog.cellsOf 3 = 1 from by kernel_rfl), List.drop_succ_cons, List.drop_zero, List.take_succ_cons, List.take_zero] at h_3
  obtain ⟨a3, k3, w3⟩ := (Rd.i64 Try.underlying3 (show Try.prog.cellsOf 3 = 1 from by kernel_rfl)).rd _ _ _ _ _ _ _ h_3
  simp only [eI64, List.cons.injEq, and_true] at k3
  obtain ⟨n_4, y_4, h_4⟩ := hf 4 _ rfl
  replace h_4 : DataW.trod _ _ _ _ _ _ _ 3 ((List.drop 4 _).take (Try.prog.cellsOf 3)) = some y_4 := h_4
  simp only [(show Try.prog.cellsOf 3 = 1 from by kernel_rfl), List.drop_succ_cons, List.drop_zero, List.take_succ_cons, List.take_zero] at h_4
  obtain ⟨a4, k4, w4⟩ := (Rd.i64 Try.underlying3 (show Try.prog.cellsOf 3 = 1 from by kernel_rfl)).rd _ _ _ _ _ _ _ h_4
  simp only [eI64, List.cons.injEq, and_true] at k4
  obtain ⟨n_5, y_5, h_5⟩ := hf 5 _ rfl
  replace h_5 : DataW.trod _ _ _ _ _ _ _ 3 ((List.drop 5 _).take (Try.prog.cellsOf 3)) = some y_5 := h_5
  simp only [(show Try.prog.cellsOf 3 = 1 from by kernel_rfl), List.drop_succ_cons, List.drop_zero, List.take_succ_cons, List.take_zero] at h_5
  obtain ⟨a5, k5, w5⟩ := (Rd.i64 Try.underlying3 (show Try.prog.cellsOf 3 = 1 from by kernel_rfl)).rd _ _ _ _ _ _ _ h_5
  simp only [eI64, List.cons.injEq, and_true] at k5
  obtain ⟨n_6, y_6, h_6⟩ := hf 6 _ rfl
  replace h_6 : DataW.trod _ _ _ _ _ _ _ 3 ((List.drop 6 _).take (Try.prog.cellsOf 3)) = some y_6 := h_6
  simp only [(show Try.prog.cellsOf 3 = 1 from by kernel_rfl), List.drop_succ_cons, List.drop_zero, List.take_succ_cons, List.take_zero] at h_6
  obtain ⟨a6, k6, w6⟩ := (Rd.i64 Try.underlying3 (show Try.prog.cellsOf 3 = 1 from by kernel_rfl)).rd _ _ _ _ _ _ _ h_6
  simp only [eI64, List.cons.injEq, and_true] at k6
  obtain ⟨n_7, y_7, h_7⟩ := hf 7 _ rfl
  replace h_7 : DataW.trod _ _ _ _ _ _ _ 4 ((List.drop 7 _).take (Try.prog.cellsOf 4)) = some y_7 := h_7
  simp only [(show Try.prog.cellsOf 4 = 1 from by kernel_rfl), List.drop_succ_cons, List.drop_zero, List.take_succ_cons, List.take_zero] at h_7
  obtain ⟨a7, k7, w7⟩ := (Rd.bool Try.underlying4 (show Try.prog.cellsOf 4 = 1 from by kernel_rfl)).rd _ _ _ _ _ _ _ h_7
  simp only [eB, List.cons.injEq, and_true] at k7
  exact ⟨⟨a0, a1, a2, a3, a4, a5, a6, a7⟩, by simp only [E23.cs, List.cons.injEq, and_true]; exact ⟨k0, k1, k2, k3, k4, k5, k6, k7⟩, ⟨w0, w1, w2, w3, w4, w5, w6⟩⟩⟩
structure E68 where
  e0 : Int
  e1 : Int
def E68.cs (x : E68) : List Value := [.int .i64 x.e0, .int .i64 x.e1]
def E68.wf (W : World) (x : E68) : Prop := inI64 x.e0 ∧ inI64 x.e1
theorem rdE68 (W : World) : Rd Try.prog W 68 2 E68.cs (E68.wf W) := ⟨(show Try.prog.cellsOf 68 = 2 from by kernel_rfl), fun enc base sp held fuel cs x h => by
  have hl := (elem_open Try.underlying68 h).1
  have hf := (elem_open Try.underlying68 h).2
  rw [(show Try.prog.cellsOf 68 = 2 from by kernel_rfl)] at hl
  obtain ⟨c0, r_0, rfl, hl0⟩ := cons_of hl
  clear hl
  obtain ⟨c1, r_1, rfl, hl1⟩ := cons_of hl0
  clear hl0
  obtain rfl := nil_of hl1
  obtain ⟨n_0, y_0, h_0⟩ := hf 0 (by decide)
  simp only [(show Try.prog.cellsOf 3 = 1 from by kernel_rfl), List.drop_succ_cons, List.drop_zero, List.take_succ_cons, List.take_zero, Nat.zero_mul, Nat.one_mul, Nat.reduceMul] at h_0
  obtain ⟨a0, k0, w0⟩ := (Rd.i64 Try.underlying3 (show Try.prog.cellsOf 3 = 1 from by kernel_rfl)).rd _ _ _ _ _ _ _ h_0
  simp only [eI64, List.cons.injEq, and_true] at k0
  obtain ⟨n_1, y_1, h_1⟩ := hf 1 (by decide)
  simp only [(show Try.prog.cellsOf 3 = 1 from by kernel_rfl), List.drop_succ_cons, List.drop_zero, List.take_succ_cons, List.take_zero, Nat.zero_mul, Nat.one_mul, Nat.reduceMul] at h_1
  obtain ⟨a1, k1, w1⟩ := (Rd.i64 Try.underlying3 (show Try.prog.cellsOf 3 = 1 from by kernel_rfl)).rd _ _ _ _ _ _ _ h_1
  simp only [eI64, List.cons.injEq, and_true] at k1
  exact ⟨⟨a0, a1⟩, by simp only [E68.cs, List.cons.injEq, and_true]; exact ⟨k0, k1⟩, ⟨w0, w1⟩⟩⟩
structure E72 where
  Sends : Bool
  Cand : Int
  Words : Sl Int
  Pulses : Bool
def E72.cs (x : E72) : List Value := [.bool x.Sends, .int .i64 x.Cand, x.Words.v, .bool x.Pulses]
def E72.wf (W : World) (x : E72) : Prop := inI64 x.Cand ∧ (Sl.wf W 1 eU8 inU8) x.Words
theorem rdE72 (W : World) : Rd Try.prog W 72 4 E72.cs (E72.wf W) := ⟨(show Try.prog.cellsOf 72 = 4 from by kernel_rfl), fun enc base sp held fuel cs x h => by
  have hl := (field_open Try.underlying72 h).1
  have hf := (field_open Try.underlying72 h).2
  rw [(show Try.prog.cellsOf 72 = 4 from by kernel_rfl)] at hl
  obtain ⟨c0, r_0, rfl, hl0⟩ := cons_of hl
  clear hl
  obtain ⟨c1, r_1, rfl, hl1⟩ := cons_of hl0
  clear hl0
  obtain ⟨c2, r_2, rfl, hl2⟩ := cons_of hl1
  clear hl1
  obtain ⟨c3, r_3, rfl, hl3⟩ := cons_of hl2
  clear hl2
  obtain rfl := nil_of hl3
  obtain ⟨n_0, y_0, h_0⟩ := hf 0 _ rfl
  replace h_0 : DataW.trod _ _ _ _ _ _ _ 4 ((List.drop 0 _).take (Try.prog.cellsOf 4)) = some y_0 := h_0
  simp only [(show Try.prog.cellsOf 4 = 1 from by kernel_rfl), List.drop_succ_cons, List.drop_zero, List.take_succ_cons, List.take_zero] at h_0
  obtain ⟨a0, k0, w0⟩ := (Rd.bool Try.underlying4 (show Try.prog.cellsOf 4 = 1 from by kernel_rfl)).rd _ _ _ _ _ _ _ h_0
  simp only [eB, List.cons.injEq, and_true] at k0
  obtain ⟨n_1, y_1, h_1⟩ := hf 1 _ rfl
  replace h_1 : DataW.trod _ _ _ _ _ _ _ 3 ((List.drop 1 _).take (Try.prog.cellsOf 3)) = some y_1 := h_1
  simp only [(show Try.prog.cellsOf 3 = 1 from by kernel_rfl), List.drop_succ_cons, List.drop_zero, List.take_succ_cons, List.take_zero] at h_1
  obtain ⟨a1, k1, w1⟩ := (Rd.i64 Try.underlying3 (show Try.prog.cellsOf 3 = 1 from by kernel_rfl)).rd _ _ _ _ _ _ _ h_1
  simp only [eI64, List.cons.injEq, and_true] at k1
  obtain ⟨n_2, y_2, h_2⟩ := hf 2 _ rfl
  replace h_2 : DataW.trod _ _ _ _ _ _ _ 36 ((List.drop 2 _).take (Try.prog.cellsOf 36)) = some y_2 := h_2
  simp only [(show Try.prog.cellsOf 36 = 1 from by kernel_rfl), List.drop_succ_cons, List.drop_zero, List.take_succ_cons, List.take_zero] at h_2
  obtain ⟨a2, k2, w2⟩ := (Rd.slice Try.underlying36 (show Try.prog.cellsOf 36 = 1 from by kernel_rfl) (Rd.u8 Try.underlying5 (show Try.prog.cellsOf 5 = 1 from by kernel_rfl))).rd _ _ _ _ _ _ _ h_2
  simp only [eSl, List.cons.injEq, and_true] at k2
  obtain ⟨n_3, y_3, h_3⟩ := hf 3 _ rfl
  replace h_3 : DataW.trod _ _ _ _ _ _ _ 4 ((List.drop 3 _).take (Try.prog.cellsOf 4)) = some y_3 := h_3
  simp only [(show Try.prog.cellsOf 4 = 1 from by kernel_rfl), List.drop_succ_cons, List.drop_zero, List.take_succ_cons, List.take_zero] at h_3
  obtain ⟨a3, k3, w3⟩ := (Rd.bool Try.underlying4 (show Try.prog.cellsOf 4 = 1 from by kernel_rfl)).rd _ _ _ _ _ _ _ h_3
  simp only [eB, List.cons.injEq, and_true] at k3
  exact ⟨⟨a0, a1, a2, a3⟩, by simp only [E72.cs, List.cons.injEq, and_true]; exact ⟨k0, k1, k2, k3⟩, ⟨w1, w2⟩⟩⟩
end Go.Proofs.Ytdoeioljkbjabab.R
