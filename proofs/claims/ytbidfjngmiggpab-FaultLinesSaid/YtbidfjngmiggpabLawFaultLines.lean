/- The statement FaultLines: whatever the input, the law returns true. No conditions. Written by genrow.py. -/
import Derived.Test.YtbidfjngmiggpabPureFaultLines
import Derived.Test.YtbidfjngmiggpabRows
import Derived.Test.YtbidfjngmiggpabQx11
import Derived.Test.YtbidfjngmiggpabOpen
import Derived.WalkKit
import Derived.ProofKit
import Derived.OpenShut
import Derived.ShutString
import Derived.ChangeOld
import Derived.Below
import Derived.SizedLaws
namespace Go.Proofs.Ytbidfjngmiggpab.faultLines
open Go Go.ChangeShapes Go.WideShapes Go.ChangeAt Go.RowKit
open Go.Proofs.Ytbidfjngmiggpab.Open Go.Proofs.YtbidfjngmiggpabW.PrintWords Go.Proofs.YtbidfjngmiggpabW.PrintLast Go.Proofs.Ytbidfjngmiggpab.Q Go.Proofs.Ytbidfjngmiggpab.RdFaultLines
open Go.ChangeMaps (open_string shut_string)
set_option linter.unusedVariables false
set_option linter.unusedSimpArgs false
theorem own : ownKnob Try.prog.godebug = none := by kernel_rfl
theorem laidOut : laidOutB Try.prog = true := by kernel_rfl
set_option maxRecDepth 100000 in
theorem lifted (os : Os) (started : os.Started) (H : Type) (enc : TypeId × Value → H) :
    ReturnsInHanded {} Try.checked os 3 .any (Rows.faultLinesSpec.pre6 enc Try.prog Try.f3 Rows.faultLinesRow.domain false) (Rows.faultLinesSpec.post enc Try.prog Try.f3 false true false false) := by
  refine returnsInHanded_of_change_sized (C := Try.checked) own started (by kernel_rfl) Try.func3
    (ChangeSpec.witness6 (enc := enc) (C := Try.checked) false ⟨#[], #[.agg #[.int .i64 0, .int .i64 0, .bool false, .int .i64 0, .int .i64 0, .slice none 0 0], .int .u8 0, .agg #[.int .i64 0, .int .i64 0, .int .i64 0]], []⟩ 8 (by kernel_rfl) (by kernel_rfl) (by kernel_rfl) (by kernel_rfl)) ?_
  intro W base args ds gs before hval0 hW hcnd hsz0 _
  have hval : ∀ (j : Nat) t v, Try.f3.params[j]? = some t → args[j]? = some v → Value.okWide Try.prog W .any base t v := hval0
  have hW' := hW
  obtain ⟨p, q, hA0, hV, rfl, hfz, hnd⟩ := hW
  have hA : DataW.TrodAll enc Try.prog W 0 (fun _ => true) true Try.f3.params.toList args.toList ds p := hA0
  rw [Try.params3] at hA hval
  obtain ⟨v0, vs0, d0, ds0, p0, q0, hargs, rfl, rfl, h0, r0⟩ := trodAll_cons hA
  obtain ⟨v1, vs1, d1, ds1, p1, q1, rfl, rfl, rfl, h1, r1⟩ := trodAll_cons r0
  obtain ⟨v2, vs2, d2, ds2, p2, q2, rfl, rfl, rfl, h2, r2⟩ := trodAll_cons r1
  obtain ⟨rfl, rfl, rfl⟩ := trodAll_nil r2
  obtain rfl : args = #[v0, v1, v2] := by cases args; simp_all
  obtain ⟨rfl, rfl⟩ := trodVars_none hV
  have k0 := h0
  have lt0 : ∀ x ∈ p0, x.block < W.heap.size := by obtain ⟨m, hm⟩ := k0; exact DataW.trod_lt m _ _ _ hm
  obtain ⟨cs0, rfl, e0, hl0⟩ := agg_open (Or.inl ⟨_, Try.underlying24⟩) (hval 0 24 v0 rfl rfl)
  obtain ⟨fuel0, hf0⟩ := h0
  rw [e0] at hf0
  clear e0
  rw [(show Try.prog.cellsOf 24 = 6 from by kernel_rfl)] at hl0
  obtain ⟨z0_0, r0_0, rfl, hl0_0⟩ := cons_of hl0
  clear hl0
  obtain ⟨z0_1, r0_1, rfl, hl0_1⟩ := cons_of hl0_0
  clear hl0_0
  obtain ⟨z0_2, r0_2, rfl, hl0_2⟩ := cons_of hl0_1
  clear hl0_1
  obtain ⟨z0_3, r0_3, rfl, hl0_3⟩ := cons_of hl0_2
  clear hl0_2
  obtain ⟨z0_4, r0_4, rfl, hl0_4⟩ := cons_of hl0_3
  clear hl0_3
  obtain ⟨z0_5, r0_5, rfl, hl0_5⟩ := cons_of hl0_4
  clear hl0_4
  obtain rfl := nil_of hl0_5
  have q0_hl := (field_open Try.underlying24 hf0).1
  have q0_hf := (field_open Try.underlying24 hf0).2
  obtain ⟨q0_n_0, q0_y_0, q0_h_0⟩ := q0_hf 0 _ rfl
  replace q0_h_0 : DataW.trod _ _ _ _ _ _ _ 3 ((List.drop 0 _).take (Try.prog.cellsOf 3)) = some q0_y_0 := q0_h_0
  simp only [(show Try.prog.cellsOf 3 = 1 from by kernel_rfl), List.drop_succ_cons, List.drop_zero, List.take_succ_cons, List.take_zero] at q0_h_0
  obtain ⟨q0_n_1, q0_y_1, q0_h_1⟩ := q0_hf 1 _ rfl
  replace q0_h_1 : DataW.trod _ _ _ _ _ _ _ 3 ((List.drop 1 _).take (Try.prog.cellsOf 3)) = some q0_y_1 := q0_h_1
  simp only [(show Try.prog.cellsOf 3 = 1 from by kernel_rfl), List.drop_succ_cons, List.drop_zero, List.take_succ_cons, List.take_zero] at q0_h_1
  obtain ⟨q0_n_2, q0_y_2, q0_h_2⟩ := q0_hf 2 _ rfl
  replace q0_h_2 : DataW.trod _ _ _ _ _ _ _ 4 ((List.drop 2 _).take (Try.prog.cellsOf 4)) = some q0_y_2 := q0_h_2
  simp only [(show Try.prog.cellsOf 4 = 1 from by kernel_rfl), List.drop_succ_cons, List.drop_zero, List.take_succ_cons, List.take_zero] at q0_h_2
  obtain ⟨q0_n_3, q0_y_3, q0_h_3⟩ := q0_hf 3 _ rfl
  replace q0_h_3 : DataW.trod _ _ _ _ _ _ _ 3 ((List.drop 3 _).take (Try.prog.cellsOf 3)) = some q0_y_3 := q0_h_3
  simp only [(show Try.prog.cellsOf 3 = 1 from by kernel_rfl), List.drop_succ_cons, List.drop_zero, List.take_succ_cons, List.take_zero] at q0_h_3
  obtain ⟨q0_n_4, q0_y_4, q0_h_4⟩ := q0_hf 4 _ rfl
  replace q0_h_4 : DataW.trod _ _ _ _ _ _ _ 3 ((List.drop 4 _).take (Try.prog.cellsOf 3)) = some q0_y_4 := q0_h_4
  simp only [(show Try.prog.cellsOf 3 = 1 from by kernel_rfl), List.drop_succ_cons, List.drop_zero, List.take_succ_cons, List.take_zero] at q0_h_4
  obtain ⟨q0_n_5, q0_y_5, q0_h_5⟩ := q0_hf 5 _ rfl
  replace q0_h_5 : DataW.trod _ _ _ _ _ _ _ 22 ((List.drop 5 _).take (Try.prog.cellsOf 22)) = some q0_y_5 := q0_h_5
  simp only [(show Try.prog.cellsOf 22 = 1 from by kernel_rfl), List.drop_succ_cons, List.drop_zero, List.take_succ_cons, List.take_zero] at q0_h_5
  obtain ⟨a0_0, e_, _, w0_0⟩ := DataW.trod_int Try.underlying3 q0_h_0
  obtain rfl := (List.cons.inj e_).1
  obtain ⟨a0_1, e_, _, w0_1⟩ := DataW.trod_int Try.underlying3 q0_h_1
  obtain rfl := (List.cons.inj e_).1
  obtain ⟨a0_2, e_, _⟩ := DataW.trod_bool Try.underlying4 q0_h_2
  obtain rfl := (List.cons.inj e_).1
  obtain ⟨a0_3, e_, _, w0_3⟩ := DataW.trod_int Try.underlying3 q0_h_3
  obtain rfl := (List.cons.inj e_).1
  obtain ⟨a0_4, e_, _, w0_4⟩ := DataW.trod_int Try.underlying3 q0_h_4
  obtain rfl := (List.cons.inj e_).1
  obtain ⟨A0_5, c0_5, l0_5, e_, hc0_5, hm0_5, hr0_5, hw0_5⟩ := slice_open Try.underlying22 (Rd.int Try.underlying5 (show Try.prog.cellsOf 5 = 1 from by kernel_rfl)) q0_h_5
  obtain rfl := (List.cons.inj e_).1
  have k1 := h1
  have lt1 : ∀ x ∈ p1, x.block < W.heap.size := by obtain ⟨m, hm⟩ := k1; exact DataW.trod_lt m _ _ _ hm
  obtain ⟨a1, rfl, rfl, rfl, w1⟩ := open_int Try.underlying25 (hval 1 25 v1 rfl rfl) h1
  have k2 := h2
  have lt2 : ∀ x ∈ p2, x.block < W.heap.size := by obtain ⟨m, hm⟩ := k2; exact DataW.trod_lt m _ _ _ hm
  obtain ⟨cs2, rfl, e2, hl2⟩ := agg_open (Or.inr ⟨_, _, Try.underlying26⟩) (hval 2 26 v2 rfl rfl)
  obtain ⟨fuel2, hf2⟩ := h2
  rw [e2] at hf2
  clear e2
  rw [(show Try.prog.cellsOf 26 = 3 from by kernel_rfl)] at hl2
  obtain ⟨z2_0, r2_0, rfl, hl2_0⟩ := cons_of hl2
  clear hl2
  obtain ⟨z2_1, r2_1, rfl, hl2_1⟩ := cons_of hl2_0
  clear hl2_0
  obtain ⟨z2_2, r2_2, rfl, hl2_2⟩ := cons_of hl2_1
  clear hl2_1
  obtain rfl := nil_of hl2_2
  have q2_hl := (elem_open Try.underlying26 hf2).1
  have q2_hf := (elem_open Try.underlying26 hf2).2
  obtain ⟨q2_n_0, q2_y_0, q2_h_0⟩ := q2_hf 0 (by decide)
  simp only [(show Try.prog.cellsOf 3 = 1 from by kernel_rfl), List.drop_succ_cons, List.drop_zero, List.take_succ_cons, List.take_zero, Nat.zero_mul, Nat.one_mul, Nat.reduceMul] at q2_h_0
  obtain ⟨q2_n_1, q2_y_1, q2_h_1⟩ := q2_hf 1 (by decide)
  simp only [(show Try.prog.cellsOf 3 = 1 from by kernel_rfl), List.drop_succ_cons, List.drop_zero, List.take_succ_cons, List.take_zero, Nat.zero_mul, Nat.one_mul, Nat.reduceMul] at q2_h_1
  obtain ⟨q2_n_2, q2_y_2, q2_h_2⟩ := q2_hf 2 (by decide)
  simp only [(show Try.prog.cellsOf 3 = 1 from by kernel_rfl), List.drop_succ_cons, List.drop_zero, List.take_succ_cons, List.take_zero, Nat.zero_mul, Nat.one_mul, Nat.reduceMul] at q2_h_2
  obtain ⟨a2_0, e_, _, w2_0⟩ := DataW.trod_int Try.underlying3 q2_h_0
  obtain rfl := (List.cons.inj e_).1
  obtain ⟨a2_1, e_, _, w2_1⟩ := DataW.trod_int Try.underlying3 q2_h_1
  obtain rfl := (List.cons.inj e_).1
  obtain ⟨a2_2, e_, _, w2_2⟩ := DataW.trod_int Try.underlying3 q2_h_2
  obtain rfl := (List.cons.inj e_).1
  obtain ⟨k, h⟩ := Pure.FaultLines a0_0 a0_1 a0_2 a0_3 a0_4 l0_5 a1 a2_0 a2_1 a2_2 w0_0 w0_1 w0_3 w0_4 hm0_5 hw0_5 w1 w2_0 w2_1 w2_2
  refine (Q.busbarlaw20_FaultLines.calls k a0_0 a0_1 a0_2 a0_3 a0_4 _ _ l0_5 a1 a2_0 a2_1 a2_2 true W hr0_5 hc0_5 h).mono fun e W' ⟨he, bel0⟩ => ?_
  have bel : Below W.heap.size W W' := bel0
  subst he
  exact ⟨_, rfl, _, _, _, [], _, [], hW', trodAll_mk1 (shut_bool Try.underlying4 _), (trodAll_cons_mk (Below.trod laidOut (by kernel_rfl) (of_decide_eq_true (by kernel_rfl)) k0 bel lt0) (trodAll_cons_mk (Below.trod laidOut (by kernel_rfl) (of_decide_eq_true (by kernel_rfl)) k1 bel lt1) (trodAll_cons_mk (Below.trod laidOut (by kernel_rfl) (of_decide_eq_true (by kernel_rfl)) k2 bel lt2) trodAll_mk0))), rfl, bel.frame _, fun h => by cases h⟩
theorem over : Rows.faultLinesRow.holds Try.pinned (OpenSpec.ofChange Rows.faultLinesSpec) :=
  OpenClaim.holds_of_wide 3 Try.f3 rfl rfl rfl rfl rfl rfl rfl ⟨rfl, rfl, rfl, rfl, rfl⟩ rfl rfl rfl rfl rfl (by kernel_rfl) Try.func3 (by kernel_rfl)
    (of_decide_eq_true (by kernel_rfl)) (by unfold Func.isWrapper; first | (rw [if_pos (by decide +kernel)]; kernel_rfl) | (rw [if_neg (by decide +kernel)]; exact ⟨rfl, rfl⟩))
    (fun os started H enc _ => lifted os started H enc)
theorem proved : Rows.FaultLinesSaid := over
#print axioms proved
end Go.Proofs.Ytbidfjngmiggpab.faultLines
namespace Go.Proofs.Ytbidfjngmiggpab
/-- The row, under a short name, for the claim. -/
theorem faultLines_holds : Rows.FaultLinesSaid := faultLines.proved
end Go.Proofs.Ytbidfjngmiggpab
