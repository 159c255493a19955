/- The statement CellLevels: whatever the input, the law returns true. No conditions. Written by genrow.py. -/
import Derived.Test.YtbidfjngmiggpabPureCellLevels
import Derived.Test.YtbidfjngmiggpabRows
import Derived.Test.YtbidfjngmiggpabQx22
import Derived.Test.YtbidfjngmiggpabOpen
import Derived.WalkKit
import Derived.ProofKit
import Derived.OpenShut
import Derived.ShutString
import Derived.ChangeOld
import Derived.Below
import Derived.SizedLaws
namespace Go.Proofs.Ytbidfjngmiggpab.cellLevels
open Go Go.ChangeShapes Go.WideShapes Go.ChangeAt Go.RowKit
open Go.Proofs.Ytbidfjngmiggpab.Open Go.Proofs.YtbidfjngmiggpabW.PrintWords Go.Proofs.YtbidfjngmiggpabW.PrintLast Go.Proofs.Ytbidfjngmiggpab.Q Go.Proofs.Ytbidfjngmiggpab.RdCellLevels
open Go.ChangeMaps (open_string shut_string)
set_option linter.unusedVariables false
set_option linter.unusedSimpArgs false
theorem own : ownKnob Try.prog.godebug = none := by kernel_rfl
theorem laidOut : laidOutB Try.prog = true := by kernel_rfl
set_option maxRecDepth 100000 in
theorem lifted (os : Os) (started : os.Started) (H : Type) (enc : TypeId × Value → H) :
    ReturnsInHanded {} Try.checked os 4 .any (Rows.cellLevelsSpec.pre6 enc Try.prog Try.f4 Rows.cellLevelsRow.domain false) (Rows.cellLevelsSpec.post enc Try.prog Try.f4 false true false false) := by
  refine returnsInHanded_of_change_sized (C := Try.checked) own started (by kernel_rfl) Try.func4
    (ChangeSpec.witness6 (enc := enc) (C := Try.checked) false ⟨#[], #[.bool false, .int .i64 0, .agg #[.bool false, .bool false]], []⟩ 8 (by kernel_rfl) (by kernel_rfl) (by kernel_rfl) (by kernel_rfl)) ?_
  intro W base args ds gs before hval0 hW hcnd hsz0 _
  have hval : ∀ (j : Nat) t v, Try.f4.params[j]? = some t → args[j]? = some v → Value.okWide Try.prog W .any base t v := hval0
  have hW' := hW
  obtain ⟨p, q, hA0, hV, rfl, hfz, hnd⟩ := hW
  have hA : DataW.TrodAll enc Try.prog W 0 (fun _ => true) true Try.f4.params.toList args.toList ds p := hA0
  rw [Try.params4] at hA hval
  obtain ⟨v0, vs0, d0, ds0, p0, q0, hargs, rfl, rfl, h0, r0⟩ := trodAll_cons hA
  obtain ⟨v1, vs1, d1, ds1, p1, q1, rfl, rfl, rfl, h1, r1⟩ := trodAll_cons r0
  obtain ⟨v2, vs2, d2, ds2, p2, q2, rfl, rfl, rfl, h2, r2⟩ := trodAll_cons r1
  obtain ⟨rfl, rfl, rfl⟩ := trodAll_nil r2
  obtain rfl : args = #[v0, v1, v2] := by cases args; simp_all
  obtain ⟨rfl, rfl⟩ := trodVars_none hV
  have k0 := h0
  have lt0 : ∀ x ∈ p0, x.block < W.heap.size := by obtain ⟨m, hm⟩ := k0; exact DataW.trod_lt m _ _ _ hm
  obtain ⟨a0, rfl, rfl, rfl⟩ := open_bool Try.underlying4 (hval 0 4 v0 rfl rfl) h0
  have k1 := h1
  have lt1 : ∀ x ∈ p1, x.block < W.heap.size := by obtain ⟨m, hm⟩ := k1; exact DataW.trod_lt m _ _ _ hm
  obtain ⟨a1, rfl, rfl, rfl, w1⟩ := open_int Try.underlying3 (hval 1 3 v1 rfl rfl) h1
  have k2 := h2
  have lt2 : ∀ x ∈ p2, x.block < W.heap.size := by obtain ⟨m, hm⟩ := k2; exact DataW.trod_lt m _ _ _ hm
  obtain ⟨cs2, rfl, e2, hl2⟩ := agg_open (Or.inr ⟨_, _, Try.underlying36⟩) (hval 2 36 v2 rfl rfl)
  obtain ⟨fuel2, hf2⟩ := h2
  rw [e2] at hf2
  clear e2
  rw [(show Try.prog.cellsOf 36 = 2 from by kernel_rfl)] at hl2
  obtain ⟨z2_0, r2_0, rfl, hl2_0⟩ := cons_of hl2
  clear hl2
  obtain ⟨z2_1, r2_1, rfl, hl2_1⟩ := cons_of hl2_0
  clear hl2_0
  obtain rfl := nil_of hl2_1
  have q2_hl := (elem_open Try.underlying36 hf2).1
  have q2_hf := (elem_open Try.underlying36 hf2).2
  obtain ⟨q2_n_0, q2_y_0, q2_h_0⟩ := q2_hf 0 (by decide)
  simp only [(show Try.prog.cellsOf 4 = 1 from by kernel_rfl), List.drop_succ_cons, List.drop_zero, List.take_succ_cons, List.take_zero, Nat.zero_mul, Nat.one_mul, Nat.reduceMul] at q2_h_0
  obtain ⟨q2_n_1, q2_y_1, q2_h_1⟩ := q2_hf 1 (by decide)
  simp only [(show Try.prog.cellsOf 4 = 1 from by kernel_rfl), List.drop_succ_cons, List.drop_zero, List.take_succ_cons, List.take_zero, Nat.zero_mul, Nat.one_mul, Nat.reduceMul] at q2_h_1
  obtain ⟨a2_0, e_, _⟩ := DataW.trod_bool Try.underlying4 q2_h_0
  obtain rfl := (List.cons.inj e_).1
  obtain ⟨a2_1, e_, _⟩ := DataW.trod_bool Try.underlying4 q2_h_1
  obtain rfl := (List.cons.inj e_).1
  obtain ⟨k, h⟩ := Pure.CellLevels a0 a1 a2_0 a2_1 w1
  refine (Q.busbarlaw01_CellLevels.calls k a0 a1 a2_0 a2_1 true W  h).mono fun e W' ⟨he, bel0⟩ => ?_
  have bel : Below W.heap.size W W' := bel0
  subst he
  exact ⟨_, rfl, _, _, _, [], _, [], hW', trodAll_mk1 (shut_bool Try.underlying4 _), (trodAll_cons_mk (Below.trod laidOut (by kernel_rfl) (of_decide_eq_true (by kernel_rfl)) k0 bel lt0) (trodAll_cons_mk (Below.trod laidOut (by kernel_rfl) (of_decide_eq_true (by kernel_rfl)) k1 bel lt1) (trodAll_cons_mk (Below.trod laidOut (by kernel_rfl) (of_decide_eq_true (by kernel_rfl)) k2 bel lt2) trodAll_mk0))), rfl, bel.frame _, fun h => by cases h⟩
theorem over : Rows.cellLevelsRow.holds Try.pinned (OpenSpec.ofChange Rows.cellLevelsSpec) :=
  OpenClaim.holds_of_wide 4 Try.f4 rfl rfl rfl rfl rfl rfl rfl ⟨rfl, rfl, rfl, rfl, rfl⟩ rfl rfl rfl rfl rfl (by kernel_rfl) Try.func4 (by kernel_rfl)
    (of_decide_eq_true (by kernel_rfl)) (by unfold Func.isWrapper; first | (rw [if_pos (by decide +kernel)]; kernel_rfl) | (rw [if_neg (by decide +kernel)]; exact ⟨rfl, rfl⟩))
    (fun os started H enc _ => lifted os started H enc)
theorem proved : Rows.CellLevelsSaid := over
#print axioms proved
end Go.Proofs.Ytbidfjngmiggpab.cellLevels
namespace Go.Proofs.Ytbidfjngmiggpab
/-- The row, under a short name, for the claim. -/
theorem cellLevels_holds : Rows.CellLevelsSaid := cellLevels.proved
end Go.Proofs.Ytbidfjngmiggpab
