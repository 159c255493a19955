/- The laws' parameters as Lean structures, and what their cells read as. Written by genrow2.py. No conditions. -/
import Derived.Test.YtdoeioljkbjabaaROpen
import Derived.Test.YtdoeioljkbjabaaRows
import Derived.KernelRfl
set_option linter.unusedVariables false
set_option linter.unusedSimpArgs false
namespace Go.Proofs.Ytdoeioljkbjabaa.R
open Go Go.ChangeShapes Go.WideShapes
structure E41 where
  Kind : Int
  At : Int
  Many : Int
  W : Sl Int
def E41.cs (x : E41) : List Value := [.int .i64 x.Kind, .int .i64 x.At, .int .i64 x.Many, x.W.v]
theorem E41.len (x : E41) : x.cs.length = 4 := rfl
def E41.wf (W : World) (x : E41) : Prop := inI64 x.Kind ∧ inI64 x.At ∧ inI64 x.Many ∧ (Sl.wf W 1 eU8 inU8) x.W
theorem rdE41 (W : World) : Rd Try.prog W 41 4 E41.cs (E41.wf W) := ⟨(show Try.prog.cellsOf 41 = 4 from by kernel_rfl), fun enc base sp held fuel cs x h => by
  have hl := (field_open Try.underlying41 h).1
  have hf := (field_open Try.underlying41 h).2
  rw [(show Try.prog.cellsOf 41 = 4 from by kernel_rfl)] at hl
  obtain ⟨c0, r_0, rfl, hl0⟩ := cons_of hl
  clear hl
  obtain ⟨c1, r_1, rfl, hl1⟩ := cons_of hl0
  clear hl0
  obtain ⟨c2, r_2, rfl, hl2⟩ := cons_of hl1
  clear hl1
  obtain ⟨c3, r_3, rfl, hl3⟩ := cons_of hl2
  clear hl2
  obtain rfl := nil_of hl3
  obtain ⟨n_0, y_0, h_0⟩ := hf 0 _ rfl
  replace h_0 : DataW.trod _ _ _ _ _ _ _ 3 ((List.drop 0 _).take (Try.prog.cellsOf 3)) = some y_0 := h_0
  simp only [(show Try.prog.cellsOf 3 = 1 from by kernel_rfl), List.drop_succ_cons, List.drop_zero, List.take_succ_cons, List.take_zero] at h_0
  obtain ⟨a0, k0, w0⟩ := (Rd.i64 Try.underlying3 (show Try.prog.cellsOf 3 = 1 from by kernel_rfl)).rd _ _ _ _ _ _ _ h_0
  simp only [eI64, List.cons.injEq, and_true] at k0
  obtain ⟨n_1, y_1, h_1⟩ := hf 1 _ rfl
  replace h_1 : DataW.trod _ _ _ _ _ _ _ 3 ((List.drop 1 _).take (Try.prog.cellsOf 3)) = some y_1 := h_1
  simp only [(show Try.prog.cellsOf 3 = 1 from by kernel_rfl), List.drop_succ_cons, List.drop_zero, List.take_succ_cons, List.take_zero] at h_1
  obtain ⟨a1, k1, w1⟩ := (Rd.i64 Try.underlying3 (show Try.prog.cellsOf 3 = 1 from by kernel_rfl)).rd _ _ _ _ _ _ _ h_1
  simp only [eI64, List.cons.injEq, and_true] at k1
  obtain ⟨n_2, y_2, h_2⟩ := hf 2 _ rfl
  replace h_2 : DataW.trod _ _ _ _ _ _ _ 3 ((List.drop 2 _).take (Try.prog.cellsOf 3)) = some y_2 := h_2
  simp only [(show Try.prog.cellsOf 3 = 1 from by kernel_rfl), List.drop_succ_cons, List.drop_zero, List.take_succ_cons, List.take_zero] at h_2
  obtain ⟨a2, k2, w2⟩ := (Rd.i64 Try.underlying3 (show Try.prog.cellsOf 3 = 1 from by kernel_rfl)).rd _ _ _ _ _ _ _ h_2
  simp only [eI64, List.cons.injEq, and_true] at k2
  obtain ⟨n_3, y_3, h_3⟩ := hf 3 _ rfl
  replace h_3 : DataW.trod _ _ _ _ _ _ _ 39 ((List.drop 3 _).take (Try.prog.cellsOf 39)) = some y_3 := h_3
  simp only [(show Try.prog.cellsOf 39 = 1 from by kernel_rfl), List.drop_succ_cons, List.drop_zero, List.take_succ_cons, List.take_zero] at h_3
  obtain ⟨a3, k3, w3⟩ := (Rd.slice Try.underlying39 (show Try.prog.cellsOf 39 = 1 from by kernel_rfl) (Rd.u8 Try.underlying5 (show Try.prog.cellsOf 5 = 1 from by kernel_rfl))).rd _ _ _ _ _ _ _ h_3
  simp only [eSl, List.cons.injEq, and_true] at k3
  exact ⟨⟨a0, a1, a2, a3⟩, by simp only [E41.cs, List.cons.injEq, and_true]; exact ⟨k0, k1, k2, k3⟩, ⟨w0, w1, w2, w3⟩⟩⟩
structure E31 where
  Kind : Int
  Start : Int
  Long : Int
  Words : Int
  Addr : Int
  Many : Int
  Cand : Int
  Take : Bool
def E31.cs (x : E31) : List Value := [.int .i64 x.Kind, .int .i64 x.Start, .int .i64 x.Long, .int .i64 x.Words, .int .i64 x.Addr, .int .i64 x.Many, .int .i64 x.Cand, .bool x.Take]
theorem E31.len (x : E31) : x.cs.length = 8 := rfl
def E31.wf (W : World) (x : E31) : Prop := inI64 x.Kind ∧ inI64 x.Start ∧ inI64 x.Long ∧ inI64 x.Words ∧ inI64 x.Addr ∧ inI64 x.Many ∧ inI64 x.Cand
theorem rdE31 (W : World) : Rd Try.prog W 31 8 E31.cs (E31.wf W) := ⟨(show Try.prog.cellsOf 31 = 8 from by kernel_rfl), fun enc base sp held fuel cs x h => by
  have hl := (field_open Try.underlying31 h).1
  have hf := (field_open Try.underlying31 h).2
  rw [(show Try.prog.cellsOf 31 = 8 from by kernel_rfl)] at hl
  obtain ⟨c0, r_0, rfl, hl0⟩ := cons_of hl
  clear hl
  obtain ⟨c1, r_1, rfl, hl1⟩ := cons_of hl0
  clear hl0
  obtain ⟨c2, r_2, rfl, hl2⟩ := cons_of hl1
  clear hl1
  obtain ⟨c3, r_3, rfl, hl3⟩ := cons_of hl2
  clear hl2
  obtain ⟨c4, r_4, rfl, hl4⟩ := cons_of hl3
  clear hl3
  obtain ⟨c5, r_5, rfl, hl5⟩ := cons_of hl4
  clear hl4
  obtain ⟨c6, r_6, rfl, hl6⟩ := cons_of hl5
  clear hl5
  obtain ⟨c7, r_7, rfl, hl7⟩ := cons_of hl6
  clear hl6
  obtain rfl := nil_of hl7
  obtain ⟨n_0, y_0, h_0⟩ := hf 0 _ rfl
  replace h_0 : DataW.trod _ _ _ _ _ _ _ 3 ((List.drop 0 _).take (Try.prog.cellsOf 3)) = some y_0 := h_0
  simp only [(show Try.prog.cellsOf 3 = 1 from by kernel_rfl), List.drop_succ_cons, List.drop_zero, List.take_succ_cons, List.take_zero] at h_0
  obtain ⟨a0, k0, w0⟩ := (Rd.i64 Try.underlying3 (show Try.prog.cellsOf 3 = 1 from by kernel_rfl)).rd _ _ _ _ _ _ _ h_0
  simp only [eI64, List.cons.injEq, and_true] at k0
  obtain ⟨n_1, y_1, h_1⟩ := hf 1 _ rfl
  replace h_1 : DataW.trod _ _ _ _ _ _ _ 3 ((List.drop 1 _).take (Try.prog.cellsOf 3)) = some y_1 := h_1
  simp only [(show Try.prog.cellsOf 3 = 1 from by kernel_rfl), List.drop_succ_cons, List.drop_zero, List.take_succ_cons, List.take_zero] at h_1
  obtain ⟨a1, k1, w1⟩ := (Rd.i64 Try.underlying3 (show Try.prog.cellsOf 3 = 1 from by kernel_rfl)).rd _ _ _ _ _ _ _ h_1
  simp only [eI64, List.cons.injEq, and_true] at k1
  obtain ⟨n_2, y_2, h_2⟩ := hf 2 _ rfl
  replace h_2 : DataW.trod _ _ _ _ _ _ _ 3 ((List.drop 2 _).take (Try.prog.cellsOf 3)) = some y_2 := h_2
  simp only [(show Try.prog.cellsOf 3 = 1 from by kernel_rfl), List.drop_succ_cons, List.drop_zero, List.take_succ_cons, List.take_zero] at h_2
  obtain ⟨a2, k2, w2⟩ := (Rd.i64 Try.underlying3 (show Try.prog.cellsOf 3 = 1 from by kernel_rfl)).rd _ _ _ _ _ _ _ h_2
  simp only [eI64, List.cons.injEq, and_true] at k2
  obtain ⟨n_3, y_3, h_3⟩ := hf 3 _ rfl
  replace h_3 : DataW.trod _ _ _ _ _ _ _ 3 ((List.drop 3 _).take (Try.prog.cellsOf 3)) = some y_3 := h_3
  simp only [(show Try.prog.cellsOf 3 = 1 from by kernel_rfl), List.drop_succ_cons, List.drop_zero, List.take_succ_cons, List.take_zero] at h_3
  obtain ⟨a3, k3, w3⟩ := (Rd.i64 Try.underlying3 (show Try.prog.cellsOf 3 = 1 from by kernel_rfl)).rd _ _ _ _ _ _ _ h_3
  simp only [eI64, List.cons.injEq, and_true] at k3
  obtain ⟨n_4, y_4, h_4⟩ := hf 4 _ rfl
  replace h_4 : DataW.trod _ _ _ _ _ _ _ 3 ((List.drop 4 _).take (Try.prog.cellsOf 3)) = some y_4 := h_4
  simp only [(show Try.prog.cellsOf 3 = 1 from by kernel_rfl), List.drop_succ_cons, List.drop_zero, List.take_succ_cons, List.take_zero] at h_4
  obtain ⟨a4, k4, w4⟩ := (Rd.i64 Try.underlying3 (show Try.prog.cellsOf 3 = 1 from by kernel_rfl)).rd _ _ _ _ _ _ _ h_4
  simp only [eI64, List.cons.injEq, and_true] at k4
  obtain ⟨n_5, y_5, h_5⟩ := hf 5 _ rfl
  replace h_5 : DataW.trod _ _ _ _ _ _ _ 3 ((List.drop 5 _).take (Try.prog.cellsOf 3)) = some y_5 := h_5
  simp only [(show Try.prog.cellsOf 3 = 1 from by kernel_rfl), List.drop_succ_cons, List.drop_zero, List.take_succ_cons, List.take_zero] at h_5
  obtain ⟨a5, k5, w5⟩ := (Rd.i64 Try.underlying3 (show Try.prog.cellsOf 3 = 1 from by kernel_rfl)).rd _ _ _ _ _ _ _ h_5
  simp only [eI64, List.cons.injEq, and_true] at k5
  obtain ⟨n_6, y_6, h_6⟩ := hf 6 _ rfl
  replace h_6 : DataW.trod _ _ _ _ _ _ _ 3 ((List.drop 6 _).take (Try.prog.cellsOf 3)) = some y_6 := h_6
  simp only [(show Try.prog.cellsOf 3 = 1 from by kernel_rfl), List.drop_succ_cons, List.drop_zero, List.take_succ_cons, List.take_zero] at h_6
  obtain ⟨a6, k6, w6⟩ := (Rd.i64 Try.underlying3 (show Try.prog.cellsOf 3 = 1 from by kernel_rfl)).rd _ _ _ _ _ _ _ h_6
  simp only [eI64, List.cons.injEq, and_true] at k6
  obtain ⟨n_7, y_7, h_7⟩ := hf 7 _ rfl
  replace h_7 : DataW.trod _ _ _ _ _ _ _ 4 ((List.drop 7 _).take (Try.prog.cellsOf 4)) = some y_7 := h_7
  simp only [(show Try.prog.cellsOf 4 = 1 from by kernel_rfl), List.drop_succ_cons, List.drop_zero, List.take_succ_cons, List.take_zero] at h_7
  obtain ⟨a7, k7, w7⟩ := (Rd.bool Try.underlying4 (show Try.prog.cellsOf 4 = 1 from by kernel_rfl)).rd _ _ _ _ _ _ _ h_7
  simp only [eB, List.cons.injEq, and_true] at k7
  exact ⟨⟨a0, a1, a2, a3, a4, a5, a6, a7⟩, by simp only [E31.cs, List.cons.injEq, and_true]; exact ⟨k0, k1, k2, k3, k4, k5, k6, k7⟩, ⟨w0, w1, w2, w3, w4, w5, w6⟩⟩⟩
structure E71 where
  N : Int
  Second : Bool
  L : Int
def E71.cs (x : E71) : List Value := [.int .i64 x.N, .bool x.Second, .int .u8 x.L]
theorem E71.len (x : E71) : x.cs.length = 3 := rfl
def E71.wf (W : World) (x : E71) : Prop := inI64 x.N ∧ inU8 x.L
theorem rdE71 (W : World) : Rd Try.prog W 71 3 E71.cs (E71.wf W) := ⟨(show Try.prog.cellsOf 71 = 3 from by kernel_rfl), fun enc base sp held fuel cs x h => by
  have hl := (field_open Try.underlying71 h).1
  have hf := (field_open Try.underlying71 h).2
  rw [(show Try.prog.cellsOf 71 = 3 from by kernel_rfl)] at hl
  obtain ⟨c0, r_0, rfl, hl0⟩ := cons_of hl
  clear hl
  obtain ⟨c1, r_1, rfl, hl1⟩ := cons_of hl0
  clear hl0
  obtain ⟨c2, r_2, rfl, hl2⟩ := cons_of hl1
  clear hl1
  obtain rfl := nil_of hl2
  obtain ⟨n_0, y_0, h_0⟩ := hf 0 _ rfl
  replace h_0 : DataW.trod _ _ _ _ _ _ _ 3 ((List.drop 0 _).take (Try.prog.cellsOf 3)) = some y_0 := h_0
  simp only [(show Try.prog.cellsOf 3 = 1 from by kernel_rfl), List.drop_succ_cons, List.drop_zero, List.take_succ_cons, List.take_zero] at h_0
  obtain ⟨a0, k0, w0⟩ := (Rd.i64 Try.underlying3 (show Try.prog.cellsOf 3 = 1 from by kernel_rfl)).rd _ _ _ _ _ _ _ h_0
  simp only [eI64, List.cons.injEq, and_true] at k0
  obtain ⟨n_1, y_1, h_1⟩ := hf 1 _ rfl
  replace h_1 : DataW.trod _ _ _ _ _ _ _ 4 ((List.drop 1 _).take (Try.prog.cellsOf 4)) = some y_1 := h_1
  simp only [(show Try.prog.cellsOf 4 = 1 from by kernel_rfl), List.drop_succ_cons, List.drop_zero, List.take_succ_cons, List.take_zero] at h_1
  obtain ⟨a1, k1, w1⟩ := (Rd.bool Try.underlying4 (show Try.prog.cellsOf 4 = 1 from by kernel_rfl)).rd _ _ _ _ _ _ _ h_1
  simp only [eB, List.cons.injEq, and_true] at k1
  obtain ⟨n_2, y_2, h_2⟩ := hf 2 _ rfl
  replace h_2 : DataW.trod _ _ _ _ _ _ _ 22 ((List.drop 2 _).take (Try.prog.cellsOf 22)) = some y_2 := h_2
  simp only [(show Try.prog.cellsOf 22 = 1 from by kernel_rfl), List.drop_succ_cons, List.drop_zero, List.take_succ_cons, List.take_zero] at h_2
  obtain ⟨a2, k2, w2⟩ := (Rd.u8 Try.underlying22 (show Try.prog.cellsOf 22 = 1 from by kernel_rfl)).rd _ _ _ _ _ _ _ h_2
  simp only [eU8, List.cons.injEq, and_true] at k2
  exact ⟨⟨a0, a1, a2⟩, by simp only [E71.cs, List.cons.injEq, and_true]; exact ⟨k0, k1, k2⟩, ⟨w0, w2⟩⟩⟩
structure E101 where
  Kind : Int
  Bits : Int
  Words : Int
  Addr : Int
  From : Sl Int
  To : Sl Int
def E101.cs (x : E101) : List Value := [.int .i64 x.Kind, .int .i64 x.Bits, .int .i64 x.Words, .int .i64 x.Addr, x.From.v, x.To.v]
theorem E101.len (x : E101) : x.cs.length = 6 := rfl
def E101.wf (W : World) (x : E101) : Prop := inI64 x.Kind ∧ inI64 x.Bits ∧ inI64 x.Words ∧ inI64 x.Addr ∧ (Sl.wf W 1 eI64 inI64) x.From ∧ (Sl.wf W 1 eI64 inI64) x.To
theorem rdE101 (W : World) : Rd Try.prog W 101 6 E101.cs (E101.wf W) := ⟨(show Try.prog.cellsOf 101 = 6 from by kernel_rfl), fun enc base sp held fuel cs x h => by
  have hl := (field_open Try.underlying101 h).1
  have hf := (field_open Try.underlying101 h).2
  rw [(show Try.prog.cellsOf 101 = 6 from by kernel_rfl)] at hl
  obtain ⟨c0, r_0, rfl, hl0⟩ := cons_of hl
  clear hl
  obtain ⟨c1, r_1, rfl, hl1⟩ := cons_of hl0
  clear hl0
  obtain ⟨c2, r_2, rfl, hl2⟩ := cons_of hl1
  clear hl1
  obtain ⟨c3, r_3, rfl, hl3⟩ := cons_of hl2
  clear hl2
  obtain ⟨c4, r_4, rfl, hl4⟩ := cons_of hl3
  clear hl3
  obtain ⟨c5, r_5, rfl, hl5⟩ := cons_of hl4
  clear hl4
  obtain rfl := nil_of hl5
  obtain ⟨n_0, y_0, h_0⟩ := hf 0 _ rfl
  replace h_0 : DataW.trod _ _ _ _ _ _ _ 3 ((List.drop 0 _).take (Try.prog.cellsOf 3)) = some y_0 := h_0
  simp only [(show Try.prog.cellsOf 3 = 1 from by kernel_rfl), List.drop_succ_cons, List.drop_zero, List.take_succ_cons, List.take_zero] at h_0
  obtain ⟨a0, k0, w0⟩ := (Rd.i64 Try.underlying3 (show Try.prog.cellsOf 3 = 1 from by kernel_rfl)).rd _ _ _ _ _ _ _ h_0
  simp only [eI64, List.cons.injEq, and_true] at k0
  obtain ⟨n_1, y_1, h_1⟩ := hf 1 _ rfl
  replace h_1 : DataW.trod _ _ _ _ _ _ _ 3 ((List.drop 1 _).take (Try.prog.cellsOf 3)) = some y_1 := h_1
  simp only [(show Try.prog.cellsOf 3 = 1 from by kernel_rfl), List.drop_succ_cons, List.drop_zero, List.take_succ_cons, List.take_zero] at h_1
  obtain ⟨a1, k1, w1⟩ := (Rd.i64 Try.underlying3 (show Try.prog.cellsOf 3 = 1 from by kernel_rfl)).rd _ _ _ _ _ _ _ h_1
  simp only [eI64, List.cons.injEq, and_true] at k1
  obtain ⟨n_2, y_2, h_2⟩ := hf 2 _ rfl
  replace h_2 : DataW.trod _ _ _ _ _ _ _ 3 ((List.drop 2 _).take (Try.prog.cellsOf 3)) = some y_2 := h_2
  simp only [(show Try.prog.cellsOf 3 = 1 from by kernel_rfl), List.drop_succ_cons, List.drop_zero, List.take_succ_cons, List.take_zero] at h_2
  obtain ⟨a2, k2, w2⟩ := (Rd.i64 Try.underlying3 (show Try.prog.cellsOf 3 = 1 from by kernel_rfl)).rd _ _ _ _ _ _ _ h_2
  simp only [eI64, List.cons.injEq, and_true] at k2
  obtain ⟨n_3, y_3, h_3⟩ := hf 3 _ rfl
  replace h_3 : DataW.trod _ _ _ _ _ _ _ 3 ((List.drop 3 _).take (Try.prog.cellsOf 3)) = some y_3 := h_3
  simp only [(show Try.prog.cellsOf 3 = 1 from by kernel_rfl), List.drop_succ_cons, List.drop_zero, List.take_succ_cons, List.take_zero] at h_3
  obtain ⟨a3, k3, w3⟩ := (Rd.i64 Try.underlying3 (show Try.prog.cellsOf 3 = 1 from by kernel_rfl)).rd _ _ _ _ _ _ _ h_3
  simp only [eI64, List.cons.injEq, and_true] at k3
  obtain ⟨n_4, y_4, h_4⟩ := hf 4 _ rfl
  replace h_4 : DataW.trod _ _ _ _ _ _ _ 99 ((List.drop 4 _).take (Try.prog.cellsOf 99)) = some y_4 := h_4
  simp only [(show Try.prog.cellsOf 99 = 1 from by kernel_rfl), List.drop_succ_cons, List.drop_zero, List.take_succ_cons, List.take_zero] at h_4
  obtain ⟨a4, k4, w4⟩ := (Rd.slice Try.underlying99 (show Try.prog.cellsOf 99 = 1 from by kernel_rfl) (Rd.i64 Try.underlying3 (show Try.prog.cellsOf 3 = 1 from by kernel_rfl))).rd _ _ _ _ _ _ _ h_4
  simp only [eSl, List.cons.injEq, and_true] at k4
  obtain ⟨n_5, y_5, h_5⟩ := hf 5 _ rfl
  replace h_5 : DataW.trod _ _ _ _ _ _ _ 99 ((List.drop 5 _).take (Try.prog.cellsOf 99)) = some y_5 := h_5
  simp only [(show Try.prog.cellsOf 99 = 1 from by kernel_rfl), List.drop_succ_cons, List.drop_zero, List.take_succ_cons, List.take_zero] at h_5
  obtain ⟨a5, k5, w5⟩ := (Rd.slice Try.underlying99 (show Try.prog.cellsOf 99 = 1 from by kernel_rfl) (Rd.i64 Try.underlying3 (show Try.prog.cellsOf 3 = 1 from by kernel_rfl))).rd _ _ _ _ _ _ _ h_5
  simp only [eSl, List.cons.injEq, and_true] at k5
  exact ⟨⟨a0, a1, a2, a3, a4, a5⟩, by simp only [E101.cs, List.cons.injEq, and_true]; exact ⟨k0, k1, k2, k3, k4, k5⟩, ⟨w0, w1, w2, w3, w4, w5⟩⟩⟩
structure E86 where
  e0 : Sl E101
  e1 : Sl E101
def E86.cs (x : E86) : List Value := [x.e0.v, x.e1.v]
theorem E86.len (x : E86) : x.cs.length = 2 := rfl
def E86.wf (W : World) (x : E86) : Prop := (Sl.wf W 6 E101.cs (E101.wf W)) x.e0 ∧ (Sl.wf W 6 E101.cs (E101.wf W)) x.e1
theorem rdE86 (W : World) : Rd Try.prog W 86 2 E86.cs (E86.wf W) := ⟨(show Try.prog.cellsOf 86 = 2 from by kernel_rfl), fun enc base sp held fuel cs x h => by
  have hl := (elem_open Try.underlying86 h).1
  have hf := (elem_open Try.underlying86 h).2
  rw [(show Try.prog.cellsOf 86 = 2 from by kernel_rfl)] at hl
  obtain ⟨c0, r_0, rfl, hl0⟩ := cons_of hl
  clear hl
  obtain ⟨c1, r_1, rfl, hl1⟩ := cons_of hl0
  clear hl0
  obtain rfl := nil_of hl1
  obtain ⟨n_0, y_0, h_0⟩ := hf 0 (by decide)
  simp only [(show Try.prog.cellsOf 85 = 1 from by kernel_rfl), List.drop_succ_cons, List.drop_zero, List.take_succ_cons, List.take_zero, Nat.zero_mul, Nat.one_mul, Nat.reduceMul] at h_0
  obtain ⟨a0, k0, w0⟩ := (Rd.slice Try.underlying85 (show Try.prog.cellsOf 85 = 1 from by kernel_rfl) (rdE101 W)).rd _ _ _ _ _ _ _ h_0
  simp only [eSl, List.cons.injEq, and_true] at k0
  obtain ⟨n_1, y_1, h_1⟩ := hf 1 (by decide)
  simp only [(show Try.prog.cellsOf 85 = 1 from by kernel_rfl), List.drop_succ_cons, List.drop_zero, List.take_succ_cons, List.take_zero, Nat.zero_mul, Nat.one_mul, Nat.reduceMul] at h_1
  obtain ⟨a1, k1, w1⟩ := (Rd.slice Try.underlying85 (show Try.prog.cellsOf 85 = 1 from by kernel_rfl) (rdE101 W)).rd _ _ _ _ _ _ _ h_1
  simp only [eSl, List.cons.injEq, and_true] at k1
  exact ⟨⟨a0, a1⟩, by simp only [E86.cs, List.cons.injEq, and_true]; exact ⟨k0, k1⟩, ⟨w0, w1⟩⟩⟩
structure E88 where
  Modules : Int
  Frames : E86
def E88.cs (x : E88) : List Value := [.int .i64 x.Modules, x.Frames.e0.v, x.Frames.e1.v]
theorem E88.len (x : E88) : x.cs.length = 3 := rfl
def E88.wf (W : World) (x : E88) : Prop := inI64 x.Modules ∧ (E86.wf W) x.Frames
theorem rdE88 (W : World) : Rd Try.prog W 88 3 E88.cs (E88.wf W) := ⟨(show Try.prog.cellsOf 88 = 3 from by kernel_rfl), fun enc base sp held fuel cs x h => by
  have hl := (field_open Try.underlying88 h).1
  have hf := (field_open Try.underlying88 h).2
  rw [(show Try.prog.cellsOf 88 = 3 from by kernel_rfl)] at hl
  obtain ⟨c0, r_0, rfl, hl0⟩ := cons_of hl
  clear hl
  obtain ⟨c1, r_1, rfl, hl1⟩ := cons_of hl0
  clear hl0
  obtain ⟨c2, r_2, rfl, hl2⟩ := cons_of hl1
  clear hl1
  obtain rfl := nil_of hl2
  obtain ⟨n_0, y_0, h_0⟩ := hf 0 _ rfl
  replace h_0 : DataW.trod _ _ _ _ _ _ _ 3 ((List.drop 0 _).take (Try.prog.cellsOf 3)) = some y_0 := h_0
  simp only [(show Try.prog.cellsOf 3 = 1 from by kernel_rfl), List.drop_succ_cons, List.drop_zero, List.take_succ_cons, List.take_zero] at h_0
  obtain ⟨a0, k0, w0⟩ := (Rd.i64 Try.underlying3 (show Try.prog.cellsOf 3 = 1 from by kernel_rfl)).rd _ _ _ _ _ _ _ h_0
  simp only [eI64, List.cons.injEq, and_true] at k0
  obtain ⟨n_1, y_1, h_1⟩ := hf 1 _ rfl
  replace h_1 : DataW.trod _ _ _ _ _ _ _ 86 ((List.drop 1 _).take (Try.prog.cellsOf 86)) = some y_1 := h_1
  simp only [(show Try.prog.cellsOf 86 = 2 from by kernel_rfl), List.drop_succ_cons, List.drop_zero, List.take_succ_cons, List.take_zero] at h_1
  obtain ⟨a1, k1, w1⟩ := (rdE86 W).rd _ _ _ _ _ _ _ h_1
  simp only [E86.cs, List.cons.injEq, and_true] at k1
  exact ⟨⟨a0, a1⟩, by simp only [E88.cs, List.cons.injEq, and_true]; exact ⟨k0, k1.1, k1.2⟩, ⟨w0, w1⟩⟩⟩
structure E75 where
  e0 : Bool
  e1 : Bool
  e2 : Bool
  e3 : Bool
def E75.cs (x : E75) : List Value := [.bool x.e0, .bool x.e1, .bool x.e2, .bool x.e3]
theorem E75.len (x : E75) : x.cs.length = 4 := rfl
def E75.wf (W : World) (x : E75) : Prop := True
theorem rdE75 (W : World) : Rd Try.prog W 75 4 E75.cs (E75.wf W) := ⟨(show Try.prog.cellsOf 75 = 4 from by kernel_rfl), fun enc base sp held fuel cs x h => by
  have hl := (elem_open Try.underlying75 h).1
  have hf := (elem_open Try.underlying75 h).2
  rw [(show Try.prog.cellsOf 75 = 4 from by kernel_rfl)] at hl
  obtain ⟨c0, r_0, rfl, hl0⟩ := cons_of hl
  clear hl
  obtain ⟨c1, r_1, rfl, hl1⟩ := cons_of hl0
  clear hl0
  obtain ⟨c2, r_2, rfl, hl2⟩ := cons_of hl1
  clear hl1
  obtain ⟨c3, r_3, rfl, hl3⟩ := cons_of hl2
  clear hl2
  obtain rfl := nil_of hl3
  obtain ⟨n_0, y_0, h_0⟩ := hf 0 (by decide)
  simp only [(show Try.prog.cellsOf 4 = 1 from by kernel_rfl), List.drop_succ_cons, List.drop_zero, List.take_succ_cons, List.take_zero, Nat.zero_mul, Nat.one_mul, Nat.reduceMul] at h_0
  obtain ⟨a0, k0, w0⟩ := (Rd.bool Try.underlying4 (show Try.prog.cellsOf 4 = 1 from by kernel_rfl)).rd _ _ _ _ _ _ _ h_0
  simp only [eB, List.cons.injEq, and_true] at k0
  obtain ⟨n_1, y_1, h_1⟩ := hf 1 (by decide)
  simp only [(show Try.prog.cellsOf 4 = 1 from by kernel_rfl), List.drop_succ_cons, List.drop_zero, List.take_succ_cons, List.take_zero, Nat.zero_mul, Nat.one_mul, Nat.reduceMul] at h_1
  obtain ⟨a1, k1, w1⟩ := (Rd.bool Try.underlying4 (show Try.prog.cellsOf 4 = 1 from by kernel_rfl)).rd _ _ _ _ _ _ _ h_1
  simp only [eB, List.cons.injEq, and_true] at k1
  obtain ⟨n_2, y_2, h_2⟩ := hf 2 (by decide)
  simp only [(show Try.prog.cellsOf 4 = 1 from by kernel_rfl), List.drop_succ_cons, List.drop_zero, List.take_succ_cons, List.take_zero, Nat.zero_mul, Nat.one_mul, Nat.reduceMul] at h_2
  obtain ⟨a2, k2, w2⟩ := (Rd.bool Try.underlying4 (show Try.prog.cellsOf 4 = 1 from by kernel_rfl)).rd _ _ _ _ _ _ _ h_2
  simp only [eB, List.cons.injEq, and_true] at k2
  obtain ⟨n_3, y_3, h_3⟩ := hf 3 (by decide)
  simp only [(show Try.prog.cellsOf 4 = 1 from by kernel_rfl), List.drop_succ_cons, List.drop_zero, List.take_succ_cons, List.take_zero, Nat.zero_mul, Nat.one_mul, Nat.reduceMul] at h_3
  obtain ⟨a3, k3, w3⟩ := (Rd.bool Try.underlying4 (show Try.prog.cellsOf 4 = 1 from by kernel_rfl)).rd _ _ _ _ _ _ _ h_3
  simp only [eB, List.cons.injEq, and_true] at k3
  exact ⟨⟨a0, a1, a2, a3⟩, by simp only [E75.cs, List.cons.injEq, and_true]; exact ⟨k0, k1, k2, k3⟩, trivial⟩⟩
structure E74 where
  e0 : Int
  e1 : Int
def E74.cs (x : E74) : List Value := [.int .i64 x.e0, .int .i64 x.e1]
theorem E74.len (x : E74) : x.cs.length = 2 := rfl
def E74.wf (W : World) (x : E74) : Prop := inI64 x.e0 ∧ inI64 x.e1
theorem rdE74 (W : World) : Rd Try.prog W 74 2 E74.cs (E74.wf W) := ⟨(show Try.prog.cellsOf 74 = 2 from by kernel_rfl), fun enc base sp held fuel cs x h => by
  have hl := (elem_open Try.underlying74 h).1
  have hf := (elem_open Try.underlying74 h).2
  rw [(show Try.prog.cellsOf 74 = 2 from by kernel_rfl)] at hl
  obtain ⟨c0, r_0, rfl, hl0⟩ := cons_of hl
  clear hl
  obtain ⟨c1, r_1, rfl, hl1⟩ := cons_of hl0
  clear hl0
  obtain rfl := nil_of hl1
  obtain ⟨n_0, y_0, h_0⟩ := hf 0 (by decide)
  simp only [(show Try.prog.cellsOf 3 = 1 from by kernel_rfl), List.drop_succ_cons, List.drop_zero, List.take_succ_cons, List.take_zero, Nat.zero_mul, Nat.one_mul, Nat.reduceMul] at h_0
  obtain ⟨a0, k0, w0⟩ := (Rd.i64 Try.underlying3 (show Try.prog.cellsOf 3 = 1 from by kernel_rfl)).rd _ _ _ _ _ _ _ h_0
  simp only [eI64, List.cons.injEq, and_true] at k0
  obtain ⟨n_1, y_1, h_1⟩ := hf 1 (by decide)
  simp only [(show Try.prog.cellsOf 3 = 1 from by kernel_rfl), List.drop_succ_cons, List.drop_zero, List.take_succ_cons, List.take_zero, Nat.zero_mul, Nat.one_mul, Nat.reduceMul] at h_1
  obtain ⟨a1, k1, w1⟩ := (Rd.i64 Try.underlying3 (show Try.prog.cellsOf 3 = 1 from by kernel_rfl)).rd _ _ _ _ _ _ _ h_1
  simp only [eI64, List.cons.injEq, and_true] at k1
  exact ⟨⟨a0, a1⟩, by simp only [E74.cs, List.cons.injEq, and_true]; exact ⟨k0, k1⟩, ⟨w0, w1⟩⟩⟩
structure E107 where
  e0 : Bool
  e1 : Bool
def E107.cs (x : E107) : List Value := [.bool x.e0, .bool x.e1]
theorem E107.len (x : E107) : x.cs.length = 2 := rfl
def E107.wf (W : World) (x : E107) : Prop := True
theorem rdE107 (W : World) : Rd Try.prog W 107 2 E107.cs (E107.wf W) := ⟨(show Try.prog.cellsOf 107 = 2 from by kernel_rfl), fun enc base sp held fuel cs x h => by
  have hl := (elem_open Try.underlying107 h).1
  have hf := (elem_open Try.underlying107 h).2
  rw [(show Try.prog.cellsOf 107 = 2 from by kernel_rfl)] at hl
  obtain ⟨c0, r_0, rfl, hl0⟩ := cons_of hl
  clear hl
  obtain ⟨c1, r_1, rfl, hl1⟩ := cons_of hl0
  clear hl0
  obtain rfl := nil_of hl1
  obtain ⟨n_0, y_0, h_0⟩ := hf 0 (by decide)
  simp only [(show Try.prog.cellsOf 4 = 1 from by kernel_rfl), List.drop_succ_cons, List.drop_zero, List.take_succ_cons, List.take_zero, Nat.zero_mul, Nat.one_mul, Nat.reduceMul] at h_0
  obtain ⟨a0, k0, w0⟩ := (Rd.bool Try.underlying4 (show Try.prog.cellsOf 4 = 1 from by kernel_rfl)).rd _ _ _ _ _ _ _ h_0
  simp only [eB, List.cons.injEq, and_true] at k0
  obtain ⟨n_1, y_1, h_1⟩ := hf 1 (by decide)
  simp only [(show Try.prog.cellsOf 4 = 1 from by kernel_rfl), List.drop_succ_cons, List.drop_zero, List.take_succ_cons, List.take_zero, Nat.zero_mul, Nat.one_mul, Nat.reduceMul] at h_1
  obtain ⟨a1, k1, w1⟩ := (Rd.bool Try.underlying4 (show Try.prog.cellsOf 4 = 1 from by kernel_rfl)).rd _ _ _ _ _ _ _ h_1
  simp only [eB, List.cons.injEq, and_true] at k1
  exact ⟨⟨a0, a1⟩, by simp only [E107.cs, List.cons.injEq, and_true]; exact ⟨k0, k1⟩, trivial⟩⟩
end Go.Proofs.Ytdoeioljkbjabaa.R
