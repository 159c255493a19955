-- Written by a program of this session out of the translation. Not trusted: Lean checks it.
import Derived.Test.YtbidfjngmiggpaaQx0
import Derived.Test.YtbidfjngmiggpaaQx2
import Derived.Test.YtbidfjngmiggpaaQx4
import Derived.Test.YtbidfjngmiggpaaQx12
import Derived.Test.YtbidfjngmiggpaaQx13
import Derived.Test.YtbidfjngmiggpaaQx16
import Derived.Test.YtbidfjngmiggpaaQx25
import Derived.Test.YtbidfjngmiggpaaQx26
namespace Go.Proofs.Ytbidfjngmiggpaa.Q
open Go.RowKit Go.Proofs.YtbidfjngmiggpaaW.PrintWords Go.Proofs.YtbidfjngmiggpaaW.PrintLast Go.Proofs.YtbidfjngmiggpaaW.PrintMore
attribute [local go_sem] max2_int min2_int max_two min_two max_three min_three max_four min_four   -- for this text's walks alone
set_option linter.unusedVariables false
set_option linter.unusedSimpArgs false

/-! ### busbarlaw03_WiresTell: function 6 -/
mutual
def busbarlaw03_WiresTell.l0 : Nat → Int → Int → Bool → Int → Int → Bool → Bool → Bool → Bool → Option (Bool)
  | 0, _, _, _, _, _, _, _, _, _ => none
  | k + 1, x0, x1, x2, x7, x9, x236000, x236001, x236002, x236003 => if x9 < 4 then (if x9 = 0 then (busbarlaw03_WiresTell.j1 k x0 x1 x2 x7 x9 true x236000 x236001 x236002 x236003) else (busbarlaw03_WiresTell.j1 k x0 x1 x2 x7 x9 (x9 == 3) x236000 x236001 x236002 x236003)) else ((wires_Lines_Set.f x0 x1 x2).bind fun t238 => (busbarlaw03_WiresTell.l1 k x0 x1 x2 x7 t238 0))
def busbarlaw03_WiresTell.j1 : Nat → Int → Int → Bool → Int → Int → Bool → Bool → Bool → Bool → Bool → Option (Bool)
  | 0, _, _, _, _, _, _, _, _, _, _ => none
  | k + 1, x0, x1, x2, x7, x9, x10, x236000, x236001, x236002, x236003 => (wires_Lines_High.f x0 x9).bind fun t236 => ((busbarref03_High.f x7 x9).bind fun t237 => (if (t236 != t237) = true then (some false) else (if 0 ≤ x9 then (if x9 = 0 then (if (x236000 != (t237 == x10)) = true then (some false) else (busbarlaw03_WiresTell.l0 k x0 x1 x2 x7 (0 + 1) x236000 x236001 x236002 x236003)) else (if x9 = 1 then (if (x236001 != (t237 == x10)) = true then (some false) else (busbarlaw03_WiresTell.l0 k x0 x1 x2 x7 (1 + 1) x236000 x236001 x236002 x236003)) else (if x9 = 2 then (if (x236002 != (t237 == x10)) = true then (some false) else (busbarlaw03_WiresTell.l0 k x0 x1 x2 x7 (2 + 1) x236000 x236001 x236002 x236003)) else (if x9 = 3 then (if (x236003 != (t237 == x10)) = true then (some false) else (busbarlaw03_WiresTell.l0 k x0 x1 x2 x7 (3 + 1) x236000 x236001 x236002 x236003)) else (none))))) else (none))))
def busbarlaw03_WiresTell.l1 : Nat → Int → Int → Bool → Int → Int → Int → Option (Bool)
  | 0, _, _, _, _, _, _ => none
  | k + 1, x0, x1, x2, x7, x11, x12 => if x12 < 4 then ((busbarref03_High.f x7 x12).bind fun t239 => (if x12 = x1 then ((wires_Lines_High.f x11 x12).bind fun t240 => (if (t240 != x2) = true then (some false) else (busbarlaw03_WiresTell.l1 k x0 x1 x2 x7 x11 (wrap64 (x12 + 1))))) else ((wires_Lines_High.f x11 x12).bind fun t241 => (if (t241 != t239) = true then (some false) else (busbarlaw03_WiresTell.l1 k x0 x1 x2 x7 x11 (wrap64 (x12 + 1))))))) else ((wires_Lines_High.f x0 x1).bind fun t242 => ((busbarref03_High.f x7 x1).bind fun t243 => (if (t242 == t243) = true then ((wires_Lines_Count.f x0).bind fun t244 => ((busbarref03_Count.f k x7).bind fun t245 => (if t244 = t245 then (if x1 ≥ 0 then (if x1 ≤ 3 then ((busbarlaw03_one.f).bind fun t246 => (some t246)) else (if x11 = x0 then ((busbarlaw03_one.f).bind fun t247 => (some t247)) else (some false))) else (if x11 = x0 then ((busbarlaw03_one.f).bind fun t248 => (some t248)) else (some false))) else (some false)))) else (some false))))
end
def busbarlaw03_WiresTell.f (k : Nat) (a0 : Int) (a1 : Int) (a2 : Bool) : Option (Bool) := (wires_Lines_Says.f a0).bind fun bt231 => (busbarlaw03_WiresTell.l0 k a0 a1 a2 (wrap64 (a0)) 0 bt231.1 bt231.2.1 bt231.2.2.1 bt231.2.2.2)
theorem busbarlaw03_WiresTell.mono_l : ∀ k, (∀ y0 y1 y2 y3 y4 y5 y6 y7 y8, LeO (busbarlaw03_WiresTell.l0 k y0 y1 y2 y3 y4 y5 y6 y7 y8) (busbarlaw03_WiresTell.l0 (k + 1) y0 y1 y2 y3 y4 y5 y6 y7 y8)) ∧ (∀ y0 y1 y2 y3 y4 y5 y6 y7 y8 y9, LeO (busbarlaw03_WiresTell.j1 k y0 y1 y2 y3 y4 y5 y6 y7 y8 y9) (busbarlaw03_WiresTell.j1 (k + 1) y0 y1 y2 y3 y4 y5 y6 y7 y8 y9)) ∧ (∀ y0 y1 y2 y3 y4 y5, LeO (busbarlaw03_WiresTell.l1 k y0 y1 y2 y3 y4 y5) (busbarlaw03_WiresTell.l1 (k + 1) y0 y1 y2 y3 y4 y5))
  | 0 => ⟨fun _ _ _ _ _ _ _ _ _ r h => by simp [busbarlaw03_WiresTell.l0] at h, fun _ _ _ _ _ _ _ _ _ _ r h => by simp [busbarlaw03_WiresTell.j1] at h, fun _ _ _ _ _ _ r h => by simp [busbarlaw03_WiresTell.l1] at h⟩
  | k + 1 => by
    obtain ⟨ih0, ih1, ih2⟩ := busbarlaw03_WiresTell.mono_l k
    refine ⟨?_, ?_, ?_⟩
    · intro y0 y1 y2 y3 y4 y5 y6 y7 y8
      unfold busbarlaw03_WiresTell.l0
      repeat' first
      | (with_reducible exact ih0 _ _ _ _ _ _ _ _ _)
      | (with_reducible exact ih1 _ _ _ _ _ _ _ _ _ _)
      | (with_reducible exact ih2 _ _ _ _ _ _)
      | (with_reducible exact busbarref03_Count.mono _ _)
      | (with_reducible exact LeO.refl _)
      | (with_reducible exact LeO.none _)
      | (with_reducible refine LeO.ite ?_ ?_)
      | (with_reducible refine LeO.bind ?_ (fun _ => ?_))
      | exact ih0 _ _ _ _ _ _ _ _ _
      | exact ih1 _ _ _ _ _ _ _ _ _ _
      | exact ih2 _ _ _ _ _ _
      | exact busbarref03_Count.mono _ _
      | exact LeO.none _
      | refine LeO.ite ?_ ?_
      | refine LeO.bind ?_ (fun _ => ?_)
    · intro y0 y1 y2 y3 y4 y5 y6 y7 y8 y9
      unfold busbarlaw03_WiresTell.j1
      repeat' first
      | (with_reducible exact ih0 _ _ _ _ _ _ _ _ _)
      | (with_reducible exact ih1 _ _ _ _ _ _ _ _ _ _)
      | (with_reducible exact ih2 _ _ _ _ _ _)
      | (with_reducible exact busbarref03_Count.mono _ _)
      | (with_reducible exact LeO.refl _)
      | (with_reducible exact LeO.none _)
      | (with_reducible refine LeO.ite ?_ ?_)
      | (with_reducible refine LeO.bind ?_ (fun _ => ?_))
      | exact ih0 _ _ _ _ _ _ _ _ _
      | exact ih1 _ _ _ _ _ _ _ _ _ _
      | exact ih2 _ _ _ _ _ _
      | exact busbarref03_Count.mono _ _
      | exact LeO.none _
      | refine LeO.ite ?_ ?_
      | refine LeO.bind ?_ (fun _ => ?_)
    · intro y0 y1 y2 y3 y4 y5
      unfold busbarlaw03_WiresTell.l1
      repeat' first
      | (with_reducible exact ih0 _ _ _ _ _ _ _ _ _)
      | (with_reducible exact ih1 _ _ _ _ _ _ _ _ _ _)
      | (with_reducible exact ih2 _ _ _ _ _ _)
      | (with_reducible exact busbarref03_Count.mono _ _)
      | (with_reducible exact LeO.refl _)
      | (with_reducible exact LeO.none _)
      | (with_reducible refine LeO.ite ?_ ?_)
      | (with_reducible refine LeO.bind ?_ (fun _ => ?_))
      | exact ih0 _ _ _ _ _ _ _ _ _
      | exact ih1 _ _ _ _ _ _ _ _ _ _
      | exact ih2 _ _ _ _ _ _
      | exact busbarref03_Count.mono _ _
      | exact LeO.none _
      | refine LeO.ite ?_ ?_
      | refine LeO.bind ?_ (fun _ => ?_)
theorem busbarlaw03_WiresTell.mono : ∀ a0 a1 a2 k, LeO (busbarlaw03_WiresTell.f k a0 a1 a2) (busbarlaw03_WiresTell.f (k + 1) a0 a1 a2) := by
  intro a0 a1 a2 k
  obtain ⟨ih0, ih1, ih2⟩ := busbarlaw03_WiresTell.mono_l k
  unfold busbarlaw03_WiresTell.f
  repeat' first
      | (with_reducible exact ih0 _ _ _ _ _ _ _ _ _)
      | (with_reducible exact ih1 _ _ _ _ _ _ _ _ _ _)
      | (with_reducible exact ih2 _ _ _ _ _ _)
      | (with_reducible exact busbarref03_Count.mono _ _)
      | (with_reducible exact LeO.refl _)
      | (with_reducible exact LeO.none _)
      | (with_reducible refine LeO.ite ?_ ?_)
      | (with_reducible refine LeO.bind ?_ (fun _ => ?_))
      | exact ih0 _ _ _ _ _ _ _ _ _
      | exact ih1 _ _ _ _ _ _ _ _ _ _
      | exact ih2 _ _ _ _ _ _
      | exact busbarref03_Count.mono _ _
      | exact LeO.none _
      | refine LeO.ite ?_ ?_
      | refine LeO.bind ?_ (fun _ => ?_)
set_option maxHeartbeats 8000000 in
set_option maxRecDepth 100000 in
theorem busbarlaw03_WiresTell.calls (k : Nat) (a0 : Int) (a1 : Int) (a2 : Bool) (r : Bool) (w : World) (h : busbarlaw03_WiresTell.f k a0 a1 a2 = some r) :
    Calls Try.prog 6 #[.int .u8 a0, .int .i64 a1, .bool a2] w fun e w' => e = .returned (.bool r) ∧ Below w.heap.size w w' := by
  have hu40 := Try.underlying40
  have HB := Aside0.mk (Below.refl w.heap.size w)
  have H : ((wires_Lines_Says.f a0).bind fun bt231 => (busbarlaw03_WiresTell.l0 k a0 a1 a2 (wrap64 (a0)) 0 bt231.1 bt231.2.1 bt231.2.2.1 bt231.2.2.2)) = some r := h
  clear h
  replace H := Option.bind_eq_some_iff.mp H
  obtain ⟨⟨t231, t232, t233, t234⟩, A40, H⟩ := H
  replace H : (busbarlaw03_WiresTell.l0 k a0 a1 a2 (wrap64 (a0)) 0 t231 t232 t233 t234) = some r := H
  have A4 := Aside0.mk A40
  clear A40
  have H' := Aside0.mk H
  clear H
  go_enter Try.func6, Try.ntmps6
  go_wp2_with (first | (go_at_call 28; (with_reducible refine (wires_Lines_Says.calls a0 t231 t232 t233 t234 _ A4.out).mono ?_); rintro e w5 ⟨rfl, hb⟩; have n0_ := Aside0.mk (below_step (by repeat (first | (with_reducible first | exact HB.out | apply below_alloc | apply pw_below_drewN | apply below_drew1) | exact HB.out)) hb); clear HB; have HB := n0_; clear n0_; (try clear hb); (try clear hb2); (try clear hk); (try clear hi)) | ((with_reducible refine gate_dst (N := 8) rfl ?_); refine box_event ?hg (N := 8) ?hd (cs := #[.bool false, .bool false, .bool false, .bool false]) (t := 40) ?hr ?_; (case hd => rfl); (case hg => rfl); (case hr => first | (go_simp; done) | (go_simp; rfl)); intro gb235 hg w6 hbox hb; have n0_ := Aside0.mk (below_step (by repeat (first | (with_reducible first | exact HB.out | apply below_alloc | apply pw_below_drewN | apply below_drew1) | exact HB.out)) hb); have n1_ := Aside0.mk (hbox); have n2_ := Aside0.mk ((by rw [hg]; exact (below_size (by repeat (first | (with_reducible first | exact HB.out | apply below_alloc | apply pw_below_drewN | apply below_drew1) | exact HB.out))) : w.heap.size ≤ gb235)); have n3_ := Aside0.mk ((by rw [hg]; exact (below_size (by repeat (first | (with_reducible first | exact HB.out | apply below_alloc | apply pw_below_drewN | apply below_drew1) | exact HB.out))) : w.heap.size ≤ gb235)); clear HB; have HB := n0_; have BK235 := n1_; have GW235 := n2_; have GE235 := n3_; clear n0_ n1_ n2_ n3_; clear hb hbox hg; have hcz7_0 : w6.cell? ⟨gb235, 0, none⟩ = some (.bool false) := (blk_cell BK235.out 0).trans rfl; have hcz7_1 : w6.cell? ⟨gb235, 1, none⟩ = some (.bool false) := (blk_cell BK235.out 1).trans rfl; have hcz7_2 : w6.cell? ⟨gb235, 2, none⟩ = some (.bool false) := (blk_cell BK235.out 2).trans rfl; have hcz7_3 : w6.cell? ⟨gb235, 3, none⟩ = some (.bool false) := (blk_cell BK235.out 3).trans rfl; have hfz7_0 := blk_frozen BK235.out 0; have hfz7_1 := blk_frozen BK235.out 1; have hfz7_2 := blk_frozen BK235.out 2; have hfz7_3 := blk_frozen BK235.out 3))
  repeat (go_quiet (first | (go_at_call 28; (with_reducible refine (wires_Lines_Says.calls a0 t231 t232 t233 t234 _ A4.out).mono ?_); rintro e w5 ⟨rfl, hb⟩; have n0_ := Aside0.mk (below_step (by repeat (first | (with_reducible first | exact HB.out | apply below_alloc | apply pw_below_drewN | apply below_drew1) | exact HB.out)) hb); clear HB; have HB := n0_; clear n0_; (try clear hb); (try clear hb2); (try clear hk); (try clear hi)) | ((with_reducible refine gate_dst (N := 8) rfl ?_); refine box_event ?hg (N := 8) ?hd (cs := #[.bool false, .bool false, .bool false, .bool false]) (t := 40) ?hr ?_; (case hd => rfl); (case hg => rfl); (case hr => first | (go_simp; done) | (go_simp; rfl)); intro gb235 hg w6 hbox hb; have n0_ := Aside0.mk (below_step (by repeat (first | (with_reducible first | exact HB.out | apply below_alloc | apply pw_below_drewN | apply below_drew1) | exact HB.out)) hb); have n1_ := Aside0.mk (hbox); have n2_ := Aside0.mk ((by rw [hg]; exact (below_size (by repeat (first | (with_reducible first | exact HB.out | apply below_alloc | apply pw_below_drewN | apply below_drew1) | exact HB.out))) : w.heap.size ≤ gb235)); have n3_ := Aside0.mk ((by rw [hg]; exact (below_size (by repeat (first | (with_reducible first | exact HB.out | apply below_alloc | apply pw_below_drewN | apply below_drew1) | exact HB.out))) : w.heap.size ≤ gb235)); clear HB; have HB := n0_; have BK235 := n1_; have GW235 := n2_; have GE235 := n3_; clear n0_ n1_ n2_ n3_; clear hb hbox hg; have hcz7_0 : w6.cell? ⟨gb235, 0, none⟩ = some (.bool false) := (blk_cell BK235.out 0).trans rfl; have hcz7_1 : w6.cell? ⟨gb235, 1, none⟩ = some (.bool false) := (blk_cell BK235.out 1).trans rfl; have hcz7_2 : w6.cell? ⟨gb235, 2, none⟩ = some (.bool false) := (blk_cell BK235.out 2).trans rfl; have hcz7_3 : w6.cell? ⟨gb235, 3, none⟩ = some (.bool false) := (blk_cell BK235.out 3).trans rfl; have hfz7_0 := blk_frozen BK235.out 0; have hfz7_1 := blk_frozen BK235.out 1; have hfz7_2 := blk_frozen BK235.out 2; have hfz7_3 := blk_frozen BK235.out 3)); try go_wp2_with (first | (go_at_call 28; (with_reducible refine (wires_Lines_Says.calls a0 t231 t232 t233 t234 _ A4.out).mono ?_); rintro e w5 ⟨rfl, hb⟩; have n0_ := Aside0.mk (below_step (by repeat (first | (with_reducible first | exact HB.out | apply below_alloc | apply pw_below_drewN | apply below_drew1) | exact HB.out)) hb); clear HB; have HB := n0_; clear n0_; (try clear hb); (try clear hb2); (try clear hk); (try clear hi)) | ((with_reducible refine gate_dst (N := 8) rfl ?_); refine box_event ?hg (N := 8) ?hd (cs := #[.bool false, .bool false, .bool false, .bool false]) (t := 40) ?hr ?_; (case hd => rfl); (case hg => rfl); (case hr => first | (go_simp; done) | (go_simp; rfl)); intro gb235 hg w6 hbox hb; have n0_ := Aside0.mk (below_step (by repeat (first | (with_reducible first | exact HB.out | apply below_alloc | apply pw_below_drewN | apply below_drew1) | exact HB.out)) hb); have n1_ := Aside0.mk (hbox); have n2_ := Aside0.mk ((by rw [hg]; exact (below_size (by repeat (first | (with_reducible first | exact HB.out | apply below_alloc | apply pw_below_drewN | apply below_drew1) | exact HB.out))) : w.heap.size ≤ gb235)); have n3_ := Aside0.mk ((by rw [hg]; exact (below_size (by repeat (first | (with_reducible first | exact HB.out | apply below_alloc | apply pw_below_drewN | apply below_drew1) | exact HB.out))) : w.heap.size ≤ gb235)); clear HB; have HB := n0_; have BK235 := n1_; have GW235 := n2_; have GE235 := n3_; clear n0_ n1_ n2_ n3_; clear hb hbox hg; have hcz7_0 : w6.cell? ⟨gb235, 0, none⟩ = some (.bool false) := (blk_cell BK235.out 0).trans rfl; have hcz7_1 : w6.cell? ⟨gb235, 1, none⟩ = some (.bool false) := (blk_cell BK235.out 1).trans rfl; have hcz7_2 : w6.cell? ⟨gb235, 2, none⟩ = some (.bool false) := (blk_cell BK235.out 2).trans rfl; have hcz7_3 : w6.cell? ⟨gb235, 3, none⟩ = some (.bool false) := (blk_cell BK235.out 3).trans rfl; have hfz7_0 := blk_frozen BK235.out 0; have hfz7_1 := blk_frozen BK235.out 1; have hfz7_2 := blk_frozen BK235.out 2; have hfz7_3 := blk_frozen BK235.out 3)))
  go_loopg [9] k (fun kq v9 w' => ∃ (x9_1 : Int), v9 = .int .i64 x9_1 ∧ Aside0 (busbarlaw03_WiresTell.l0 kq a0 a1 a2 (wrap64 (a0)) x9_1 t231 t232 t233 t234 = some r) ∧ Aside0 (kq ≤ k) ∧ Aside0 (w'.heap[gb235]? = some (.cells #[.bool t231, .bool t232, .bool t233, .bool t234] 40 (0, 0))) ∧ Aside0 (Below w.heap.size w w'))
  case atStart => exact ⟨(0), (by first | rfl | (simp; done) | (simp [*]; done)), H', ⟨Nat.le_refl _⟩, ⟨by (with_reducible repeat (first | refine blk_drewN ?_ _ | refine blk_drew ?_ | refine blk_alloc ?_ _)); refine blk_put (cs := #[.bool t231, .bool t232, .bool t233, .bool false]) ?_ 3 _ rfl; (with_reducible repeat (first | refine blk_drewN ?_ _ | refine blk_drew ?_ | refine blk_alloc ?_ _)); refine blk_put (cs := #[.bool t231, .bool t232, .bool false, .bool false]) ?_ 2 _ rfl; (with_reducible repeat (first | refine blk_drewN ?_ _ | refine blk_drew ?_ | refine blk_alloc ?_ _)); refine blk_put (cs := #[.bool t231, .bool false, .bool false, .bool false]) ?_ 1 _ rfl; (with_reducible repeat (first | refine blk_drewN ?_ _ | refine blk_drew ?_ | refine blk_alloc ?_ _)); refine blk_put (cs := #[.bool false, .bool false, .bool false, .bool false]) ?_ 0 _ rfl; (with_reducible repeat (first | refine blk_drewN ?_ _ | refine blk_drew ?_ | refine blk_alloc ?_ _)); exact BK235.out⟩, ⟨by repeat (first | (with_reducible first | exact HB.out | apply below_alloc | apply pw_below_drewN | apply below_drew1 | refine below_set ?_ GE235.out) | exact HB.out)⟩⟩
  case round =>
    clear H'
    try clear p2
    try clear c6
    try clear p6
    try clear hcz7_0
    try clear hcz7_1
    try clear hcz7_2
    try clear hcz7_3
    try clear hfz7_0
    try clear hfz7_1
    try clear hfz7_2
    try clear hfz7_3
    obtain ⟨x9_1, rfl, HA, HK1, BK235, HB⟩ := hrel
    cases gk with
    | zero => exact absurd HA.out (by simp [busbarlaw03_WiresTell.l0])
    | succ k1 =>
      have H := HA.out
      clear HA
      simp only [busbarlaw03_WiresTell.l0] at H
      by_cases c8 : x9_1 < 4
      · rw [if_pos c8] at H
        have c8b0 : decide (x9_1 < 4) = true := decide_eq_true c8
        (try (have c8b1 : decide ((4 : Int) ≤ x9_1) = false := decide_eq_false (Int.not_le.mpr c8)))
        clear c8
        have HC9 := Aside0.mk H
        clear H
        go_upto_region 6 with (fail)
        repeat (go_quiet (fail); go_upto_region 6 with (fail))
        go_cut [10] (fun v10 wc => ∃ (kq : Nat) (x10_8 : Bool), v10 = .bool x10_8 ∧ Aside0 (busbarlaw03_WiresTell.j1 kq a0 a1 a2 (wrap64 (a0)) x9_1 x10_8 t231 t232 t233 t234 = some r) ∧ Aside0 (kq ≤ k1) ∧ Aside0 (wc.heap[gb235]? = some (.cells #[.bool t231, .bool t232, .bool t233, .bool t234] 40 (0, 0))) ∧ Aside0 (Below w.heap.size w wc))
        case first =>
          have H := HC9.out
          clear HC9
          by_cases c10 : x9_1 = 0
          · rw [if_pos c10] at H
            have c10b0 : (x9_1 == 0) = true := beq_iff_eq.mpr c10
            have c10b1 : (x9_1 != 0) = false := bne_eq_false_iff_eq.mpr c10
            clear c10
            (first | rw [c10b0] | (simp only [i64_w, i32_w]; rw [c10b0]) | skip)
            have H' := Aside0.mk H
            clear H
            go_wp2
            repeat (go_quiet (fail); try go_wp2)
            go_meet
            case rel => exact ⟨_, (true), (by first | rfl | (simp; done) | (simp [*]; done)), H', ⟨by have := HK1.out; first | omega | exact Nat.le_refl _⟩, ⟨by (with_reducible repeat (first | refine blk_drewN ?_ _ | refine blk_drew ?_ | refine blk_alloc ?_ _)); exact BK235.out⟩, ⟨by repeat (first | (with_reducible first | exact HB.out | apply below_alloc | apply pw_below_drewN | apply below_drew1 | refine below_set ?_ GE235.out) | exact HB.out)⟩⟩
          · rw [if_neg c10] at H
            have c10b0 : (x9_1 == 0) = false := beq_eq_false_iff_ne.mpr c10
            have c10b1 : (x9_1 != 0) = true := bne_iff_ne.mpr c10
            (first | rw [c10b0] | (simp only [i64_w, i32_w]; rw [c10b0]) | skip)
            have H' := Aside0.mk H
            clear H
            go_wp2
            repeat (go_quiet (fail); try go_wp2)
            go_meet
            case rel => exact ⟨_, ((x9_1 == 3)), (by first | rfl | (simp; done) | (simp [*]; done)), H', ⟨by have := HK1.out; first | omega | exact Nat.le_refl _⟩, ⟨by (with_reducible repeat (first | refine blk_drewN ?_ _ | refine blk_drew ?_ | refine blk_alloc ?_ _)); exact BK235.out⟩, ⟨by repeat (first | (with_reducible first | exact HB.out | apply below_alloc | apply pw_below_drewN | apply below_drew1 | refine below_set ?_ GE235.out) | exact HB.out)⟩⟩
        case rest =>
          clear HC9
          try clear c1
          try clear p2
          try clear c6
          try clear p6
          try clear c8
          try clear c8b0
          try clear c8b1
          try clear c10
          try clear c10b0
          try clear c10b1
          try clear hcz7_0
          try clear hcz7_1
          try clear hcz7_2
          try clear hcz7_3
          try clear hfz7_0
          try clear hfz7_1
          try clear hfz7_2
          try clear hfz7_3
          try clear p2
          try clear p6
          obtain ⟨kq, x10_8, rfl, HA, HJ8, BK235, HB⟩ := hcut
          cases kq with
          | zero => exact absurd HA.out (by simp [busbarlaw03_WiresTell.j1])
          | succ kj8 =>
            have H := HA.out
            clear HA
            simp only [busbarlaw03_WiresTell.j1] at H
            replace H := Option.bind_eq_some_iff.mp H
            obtain ⟨t236, A110, H⟩ := H
            replace H : ((busbarref03_High.f (wrap64 (a0)) x9_1).bind fun t237 => (if (t236 != t237) = true then (some false) else (if 0 ≤ x9_1 then (if x9_1 = 0 then (if (t231 != (t237 == x10_8)) = true then (some false) else (busbarlaw03_WiresTell.l0 kj8 a0 a1 a2 (wrap64 (a0)) (0 + 1) t231 t232 t233 t234)) else (if x9_1 = 1 then (if (t232 != (t237 == x10_8)) = true then (some false) else (busbarlaw03_WiresTell.l0 kj8 a0 a1 a2 (wrap64 (a0)) (1 + 1) t231 t232 t233 t234)) else (if x9_1 = 2 then (if (t233 != (t237 == x10_8)) = true then (some false) else (busbarlaw03_WiresTell.l0 kj8 a0 a1 a2 (wrap64 (a0)) (2 + 1) t231 t232 t233 t234)) else (if x9_1 = 3 then (if (t234 != (t237 == x10_8)) = true then (some false) else (busbarlaw03_WiresTell.l0 kj8 a0 a1 a2 (wrap64 (a0)) (3 + 1) t231 t232 t233 t234)) else (none))))) else (none)))) = some r := H
            have A11 := Aside0.mk A110
            clear A110
            replace H := Option.bind_eq_some_iff.mp H
            obtain ⟨t237, A120, H⟩ := H
            replace H : (if (t236 != t237) = true then (some false) else (if 0 ≤ x9_1 then (if x9_1 = 0 then (if (t231 != (t237 == x10_8)) = true then (some false) else (busbarlaw03_WiresTell.l0 kj8 a0 a1 a2 (wrap64 (a0)) (0 + 1) t231 t232 t233 t234)) else (if x9_1 = 1 then (if (t232 != (t237 == x10_8)) = true then (some false) else (busbarlaw03_WiresTell.l0 kj8 a0 a1 a2 (wrap64 (a0)) (1 + 1) t231 t232 t233 t234)) else (if x9_1 = 2 then (if (t233 != (t237 == x10_8)) = true then (some false) else (busbarlaw03_WiresTell.l0 kj8 a0 a1 a2 (wrap64 (a0)) (2 + 1) t231 t232 t233 t234)) else (if x9_1 = 3 then (if (t234 != (t237 == x10_8)) = true then (some false) else (busbarlaw03_WiresTell.l0 kj8 a0 a1 a2 (wrap64 (a0)) (3 + 1) t231 t232 t233 t234)) else (none))))) else (none))) = some r := H
            have A12 := Aside0.mk A120
            clear A120
            by_cases c13 : (t236 != t237) = true
            · rw [if_pos c13] at H
              have c13b0 : (t236 != t237) = true := c13
              (try (have c13b1 : decide (t236 = t237) = false := by simpa using c13))
              (try (have c13b2 : (t236 == t237) = false := by simpa using c13))
              (try (have c13b3 : ¬ (t236 = t237) := by simpa using c13))
              (try (have c13b4 : (!(t236 == t237)) = true := by have h_ := c13; simp only [bne] at h_; first | exact h_ | simpa using h_))
              clear c13
              obtain rfl := Option.some.inj H
              go_wp2_with (first | (go_at_call 17; (with_reducible refine (wires_Lines_High.calls a0 x9_1 t236 _ A11.out).mono ?_); rintro e w' ⟨rfl, ⟨nd, rfl⟩⟩; (try first | exact ⟨rfl, _, World.drewN_drewN _ _ _⟩ | exact ⟨rfl, _, Eq.trans (World.drewN_drewN _ _ _) (congrArg (World.drewN _) (Nat.add_assoc _ _ _))⟩)) | (go_at_call 16; (with_reducible refine (busbarref03_High.calls (wrap64 (a0)) x9_1 t237 _ A12.out).mono ?_); rintro e w' ⟨rfl, ⟨nd, rfl⟩⟩; (try first | exact ⟨rfl, _, World.drewN_drewN _ _ _⟩ | exact ⟨rfl, _, Eq.trans (World.drewN_drewN _ _ _) (congrArg (World.drewN _) (Nat.add_assoc _ _ _))⟩)))
              repeat (go_quiet (first | (go_at_call 17; (with_reducible refine (wires_Lines_High.calls a0 x9_1 t236 _ A11.out).mono ?_); rintro e w' ⟨rfl, ⟨nd, rfl⟩⟩; (try first | exact ⟨rfl, _, World.drewN_drewN _ _ _⟩ | exact ⟨rfl, _, Eq.trans (World.drewN_drewN _ _ _) (congrArg (World.drewN _) (Nat.add_assoc _ _ _))⟩)) | (go_at_call 16; (with_reducible refine (busbarref03_High.calls (wrap64 (a0)) x9_1 t237 _ A12.out).mono ?_); rintro e w' ⟨rfl, ⟨nd, rfl⟩⟩; (try first | exact ⟨rfl, _, World.drewN_drewN _ _ _⟩ | exact ⟨rfl, _, Eq.trans (World.drewN_drewN _ _ _) (congrArg (World.drewN _) (Nat.add_assoc _ _ _))⟩))); try go_wp2_with (first | (go_at_call 17; (with_reducible refine (wires_Lines_High.calls a0 x9_1 t236 _ A11.out).mono ?_); rintro e w' ⟨rfl, ⟨nd, rfl⟩⟩; (try first | exact ⟨rfl, _, World.drewN_drewN _ _ _⟩ | exact ⟨rfl, _, Eq.trans (World.drewN_drewN _ _ _) (congrArg (World.drewN _) (Nat.add_assoc _ _ _))⟩)) | (go_at_call 16; (with_reducible refine (busbarref03_High.calls (wrap64 (a0)) x9_1 t237 _ A12.out).mono ?_); rintro e w' ⟨rfl, ⟨nd, rfl⟩⟩; (try first | exact ⟨rfl, _, World.drewN_drewN _ _ _⟩ | exact ⟨rfl, _, Eq.trans (World.drewN_drewN _ _ _) (congrArg (World.drewN _) (Nat.add_assoc _ _ _))⟩))))
              go_ret
              exact ⟨by first | rfl | (simp [errW_none, errW_some] <;> rfl) | (simp [*, errW_none, errW_some] <;> rfl), by repeat (first | (with_reducible first | exact HB.out | apply below_alloc | apply pw_below_drewN | apply below_drew1 | refine below_set ?_ GE235.out) | exact HB.out)⟩
            · rw [if_neg c13] at H
              have c13b0 : (t236 != t237) = false := by simpa using c13
              (try (have c13b1 : decide (t236 = t237) = true := by simpa using c13))
              (try (have c13b2 : (t236 == t237) = true := by simpa using c13))
              (try (have c13b3 : (!(t236 == t237)) = false := by have h_ := c13; simp only [bne] at h_; first | exact h_ | simpa using h_))
              clear c13
              by_cases c14 : 0 ≤ x9_1
              · rw [if_pos c14] at H
                have c14b0 : decide (0 ≤ x9_1) = true := decide_eq_true c14
                (try (have c14b1 : decide ((x9_1 : Int) < 0) = false := decide_eq_false (Int.not_lt.mpr c14)))
                clear c14
                by_cases c15 : x9_1 = 0
                · subst c15
                  have H1 : (if (t231 != (t237 == x10_8)) = true then (some false) else (busbarlaw03_WiresTell.l0 kj8 a0 a1 a2 (wrap64 (a0)) (0 + 1) t231 t232 t233 t234)) = some r := by rw [if_pos rfl] at H; exact H
                  clear H
                  have H := H1
                  clear H1
                  by_cases c16 : (t231 != (t237 == x10_8)) = true
                  · rw [if_pos c16] at H
                    have c16b0 : (t231 != (t237 == x10_8)) = true := c16
                    (try (have c16b1 : decide (t231 = (t237 == x10_8)) = false := by simpa using c16))
                    (try (have c16b2 : (t231 == (t237 == x10_8)) = false := by simpa using c16))
                    (try (have c16b3 : ¬ (t231 = (t237 == x10_8)) := by simpa using c16))
                    (try (have c16b4 : (!(t231 == (t237 == x10_8))) = true := by have h_ := c16; simp only [bne] at h_; first | exact h_ | simpa using h_))
                    clear c16
                    obtain rfl := Option.some.inj H
                    go_wp2_with (first | (go_at_call 17; (with_reducible refine (wires_Lines_High.calls a0 0 t236 _ A11.out).mono ?_); rintro e w' ⟨rfl, ⟨nd, rfl⟩⟩; (try first | exact ⟨rfl, _, World.drewN_drewN _ _ _⟩ | exact ⟨rfl, _, Eq.trans (World.drewN_drewN _ _ _) (congrArg (World.drewN _) (Nat.add_assoc _ _ _))⟩)) | (go_at_call 16; (with_reducible refine (busbarref03_High.calls (wrap64 (a0)) 0 t237 _ A12.out).mono ?_); rintro e w' ⟨rfl, ⟨nd, rfl⟩⟩; (try first | exact ⟨rfl, _, World.drewN_drewN _ _ _⟩ | exact ⟨rfl, _, Eq.trans (World.drewN_drewN _ _ _) (congrArg (World.drewN _) (Nat.add_assoc _ _ _))⟩); have hcz17_0 : wc.cell? ⟨gb235, 0, none⟩ = some (.bool t231) := (blk_cell BK235.out 0).trans rfl; have hcz17_1 : wc.cell? ⟨gb235, 1, none⟩ = some (.bool t232) := (blk_cell BK235.out 1).trans rfl; have hcz17_2 : wc.cell? ⟨gb235, 2, none⟩ = some (.bool t233) := (blk_cell BK235.out 2).trans rfl; have hcz17_3 : wc.cell? ⟨gb235, 3, none⟩ = some (.bool t234) := (blk_cell BK235.out 3).trans rfl; have hfz17_0 := blk_frozen BK235.out 0; have hfz17_1 := blk_frozen BK235.out 1; have hfz17_2 := blk_frozen BK235.out 2; have hfz17_3 := blk_frozen BK235.out 3))
                    repeat (go_quiet (first | (go_at_call 17; (with_reducible refine (wires_Lines_High.calls a0 0 t236 _ A11.out).mono ?_); rintro e w' ⟨rfl, ⟨nd, rfl⟩⟩; (try first | exact ⟨rfl, _, World.drewN_drewN _ _ _⟩ | exact ⟨rfl, _, Eq.trans (World.drewN_drewN _ _ _) (congrArg (World.drewN _) (Nat.add_assoc _ _ _))⟩)) | (go_at_call 16; (with_reducible refine (busbarref03_High.calls (wrap64 (a0)) 0 t237 _ A12.out).mono ?_); rintro e w' ⟨rfl, ⟨nd, rfl⟩⟩; (try first | exact ⟨rfl, _, World.drewN_drewN _ _ _⟩ | exact ⟨rfl, _, Eq.trans (World.drewN_drewN _ _ _) (congrArg (World.drewN _) (Nat.add_assoc _ _ _))⟩); have hcz17_0 : wc.cell? ⟨gb235, 0, none⟩ = some (.bool t231) := (blk_cell BK235.out 0).trans rfl; have hcz17_1 : wc.cell? ⟨gb235, 1, none⟩ = some (.bool t232) := (blk_cell BK235.out 1).trans rfl; have hcz17_2 : wc.cell? ⟨gb235, 2, none⟩ = some (.bool t233) := (blk_cell BK235.out 2).trans rfl; have hcz17_3 : wc.cell? ⟨gb235, 3, none⟩ = some (.bool t234) := (blk_cell BK235.out 3).trans rfl; have hfz17_0 := blk_frozen BK235.out 0; have hfz17_1 := blk_frozen BK235.out 1; have hfz17_2 := blk_frozen BK235.out 2; have hfz17_3 := blk_frozen BK235.out 3)); try go_wp2_with (first | (go_at_call 17; (with_reducible refine (wires_Lines_High.calls a0 0 t236 _ A11.out).mono ?_); rintro e w' ⟨rfl, ⟨nd, rfl⟩⟩; (try first | exact ⟨rfl, _, World.drewN_drewN _ _ _⟩ | exact ⟨rfl, _, Eq.trans (World.drewN_drewN _ _ _) (congrArg (World.drewN _) (Nat.add_assoc _ _ _))⟩)) | (go_at_call 16; (with_reducible refine (busbarref03_High.calls (wrap64 (a0)) 0 t237 _ A12.out).mono ?_); rintro e w' ⟨rfl, ⟨nd, rfl⟩⟩; (try first | exact ⟨rfl, _, World.drewN_drewN _ _ _⟩ | exact ⟨rfl, _, Eq.trans (World.drewN_drewN _ _ _) (congrArg (World.drewN _) (Nat.add_assoc _ _ _))⟩); have hcz17_0 : wc.cell? ⟨gb235, 0, none⟩ = some (.bool t231) := (blk_cell BK235.out 0).trans rfl; have hcz17_1 : wc.cell? ⟨gb235, 1, none⟩ = some (.bool t232) := (blk_cell BK235.out 1).trans rfl; have hcz17_2 : wc.cell? ⟨gb235, 2, none⟩ = some (.bool t233) := (blk_cell BK235.out 2).trans rfl; have hcz17_3 : wc.cell? ⟨gb235, 3, none⟩ = some (.bool t234) := (blk_cell BK235.out 3).trans rfl; have hfz17_0 := blk_frozen BK235.out 0; have hfz17_1 := blk_frozen BK235.out 1; have hfz17_2 := blk_frozen BK235.out 2; have hfz17_3 := blk_frozen BK235.out 3)))
                    go_ret
                    exact ⟨by first | rfl | (simp [errW_none, errW_some] <;> rfl) | (simp [*, errW_none, errW_some] <;> rfl), by repeat (first | (with_reducible first | exact HB.out | apply below_alloc | apply pw_below_drewN | apply below_drew1 | refine below_set ?_ GE235.out) | exact HB.out)⟩
                  · rw [if_neg c16] at H
                    have c16b0 : (t231 != (t237 == x10_8)) = false := by simpa using c16
                    (try (have c16b1 : decide (t231 = (t237 == x10_8)) = true := by simpa using c16))
                    (try (have c16b2 : (t231 == (t237 == x10_8)) = true := by simpa using c16))
                    (try (have c16b3 : (!(t231 == (t237 == x10_8))) = false := by have h_ := c16; simp only [bne] at h_; first | exact h_ | simpa using h_))
                    clear c16
                    have H' := Aside0.mk H
                    clear H
                    go_wp2_with (first | (go_at_call 17; (with_reducible refine (wires_Lines_High.calls a0 0 t236 _ A11.out).mono ?_); rintro e w' ⟨rfl, ⟨nd, rfl⟩⟩; (try first | exact ⟨rfl, _, World.drewN_drewN _ _ _⟩ | exact ⟨rfl, _, Eq.trans (World.drewN_drewN _ _ _) (congrArg (World.drewN _) (Nat.add_assoc _ _ _))⟩)) | (go_at_call 16; (with_reducible refine (busbarref03_High.calls (wrap64 (a0)) 0 t237 _ A12.out).mono ?_); rintro e w' ⟨rfl, ⟨nd, rfl⟩⟩; (try first | exact ⟨rfl, _, World.drewN_drewN _ _ _⟩ | exact ⟨rfl, _, Eq.trans (World.drewN_drewN _ _ _) (congrArg (World.drewN _) (Nat.add_assoc _ _ _))⟩); have hcz18_0 : wc.cell? ⟨gb235, 0, none⟩ = some (.bool t231) := (blk_cell BK235.out 0).trans rfl; have hcz18_1 : wc.cell? ⟨gb235, 1, none⟩ = some (.bool t232) := (blk_cell BK235.out 1).trans rfl; have hcz18_2 : wc.cell? ⟨gb235, 2, none⟩ = some (.bool t233) := (blk_cell BK235.out 2).trans rfl; have hcz18_3 : wc.cell? ⟨gb235, 3, none⟩ = some (.bool t234) := (blk_cell BK235.out 3).trans rfl; have hfz18_0 := blk_frozen BK235.out 0; have hfz18_1 := blk_frozen BK235.out 1; have hfz18_2 := blk_frozen BK235.out 2; have hfz18_3 := blk_frozen BK235.out 3))
                    repeat (go_quiet (first | (go_at_call 17; (with_reducible refine (wires_Lines_High.calls a0 0 t236 _ A11.out).mono ?_); rintro e w' ⟨rfl, ⟨nd, rfl⟩⟩; (try first | exact ⟨rfl, _, World.drewN_drewN _ _ _⟩ | exact ⟨rfl, _, Eq.trans (World.drewN_drewN _ _ _) (congrArg (World.drewN _) (Nat.add_assoc _ _ _))⟩)) | (go_at_call 16; (with_reducible refine (busbarref03_High.calls (wrap64 (a0)) 0 t237 _ A12.out).mono ?_); rintro e w' ⟨rfl, ⟨nd, rfl⟩⟩; (try first | exact ⟨rfl, _, World.drewN_drewN _ _ _⟩ | exact ⟨rfl, _, Eq.trans (World.drewN_drewN _ _ _) (congrArg (World.drewN _) (Nat.add_assoc _ _ _))⟩); have hcz18_0 : wc.cell? ⟨gb235, 0, none⟩ = some (.bool t231) := (blk_cell BK235.out 0).trans rfl; have hcz18_1 : wc.cell? ⟨gb235, 1, none⟩ = some (.bool t232) := (blk_cell BK235.out 1).trans rfl; have hcz18_2 : wc.cell? ⟨gb235, 2, none⟩ = some (.bool t233) := (blk_cell BK235.out 2).trans rfl; have hcz18_3 : wc.cell? ⟨gb235, 3, none⟩ = some (.bool t234) := (blk_cell BK235.out 3).trans rfl; have hfz18_0 := blk_frozen BK235.out 0; have hfz18_1 := blk_frozen BK235.out 1; have hfz18_2 := blk_frozen BK235.out 2; have hfz18_3 := blk_frozen BK235.out 3)); try go_wp2_with (first | (go_at_call 17; (with_reducible refine (wires_Lines_High.calls a0 0 t236 _ A11.out).mono ?_); rintro e w' ⟨rfl, ⟨nd, rfl⟩⟩; (try first | exact ⟨rfl, _, World.drewN_drewN _ _ _⟩ | exact ⟨rfl, _, Eq.trans (World.drewN_drewN _ _ _) (congrArg (World.drewN _) (Nat.add_assoc _ _ _))⟩)) | (go_at_call 16; (with_reducible refine (busbarref03_High.calls (wrap64 (a0)) 0 t237 _ A12.out).mono ?_); rintro e w' ⟨rfl, ⟨nd, rfl⟩⟩; (try first | exact ⟨rfl, _, World.drewN_drewN _ _ _⟩ | exact ⟨rfl, _, Eq.trans (World.drewN_drewN _ _ _) (congrArg (World.drewN _) (Nat.add_assoc _ _ _))⟩); have hcz18_0 : wc.cell? ⟨gb235, 0, none⟩ = some (.bool t231) := (blk_cell BK235.out 0).trans rfl; have hcz18_1 : wc.cell? ⟨gb235, 1, none⟩ = some (.bool t232) := (blk_cell BK235.out 1).trans rfl; have hcz18_2 : wc.cell? ⟨gb235, 2, none⟩ = some (.bool t233) := (blk_cell BK235.out 2).trans rfl; have hcz18_3 : wc.cell? ⟨gb235, 3, none⟩ = some (.bool t234) := (blk_cell BK235.out 3).trans rfl; have hfz18_0 := blk_frozen BK235.out 0; have hfz18_1 := blk_frozen BK235.out 1; have hfz18_2 := blk_frozen BK235.out 2; have hfz18_3 := blk_frozen BK235.out 3)))
                    go_roundg kj8
                    case measure => have := HK1.out; have := HJ8.out; omega
                    case rel => exact ⟨(0 + 1), (by first | rfl | (simp; done) | (simp [*]; done)), H', ⟨by have := HK1.out; have := HJ8.out; omega⟩, ⟨by (with_reducible repeat (first | refine blk_drewN ?_ _ | refine blk_drew ?_ | refine blk_alloc ?_ _)); exact BK235.out⟩, ⟨by repeat (first | (with_reducible first | exact HB.out | apply below_alloc | apply pw_below_drewN | apply below_drew1 | refine below_set ?_ GE235.out) | exact HB.out)⟩⟩
                · rw [if_neg c15] at H
                  have c15b0 : (x9_1 == 0) = false := beq_eq_false_iff_ne.mpr c15
                  have c15b1 : (x9_1 != 0) = true := bne_iff_ne.mpr c15
                  by_cases c19 : x9_1 = 1
                  · subst c19
                    have H1 : (if (t232 != (t237 == x10_8)) = true then (some false) else (busbarlaw03_WiresTell.l0 kj8 a0 a1 a2 (wrap64 (a0)) (1 + 1) t231 t232 t233 t234)) = some r := by rw [if_pos rfl] at H; exact H
                    clear H
                    have H := H1
                    clear H1
                    by_cases c20 : (t232 != (t237 == x10_8)) = true
                    · rw [if_pos c20] at H
                      have c20b0 : (t232 != (t237 == x10_8)) = true := c20
                      (try (have c20b1 : decide (t232 = (t237 == x10_8)) = false := by simpa using c20))
                      (try (have c20b2 : (t232 == (t237 == x10_8)) = false := by simpa using c20))
                      (try (have c20b3 : ¬ (t232 = (t237 == x10_8)) := by simpa using c20))
                      (try (have c20b4 : (!(t232 == (t237 == x10_8))) = true := by have h_ := c20; simp only [bne] at h_; first | exact h_ | simpa using h_))
                      clear c20
                      obtain rfl := Option.some.inj H
                      go_wp2_with (first | (go_at_call 17; (with_reducible refine (wires_Lines_High.calls a0 1 t236 _ A11.out).mono ?_); rintro e w' ⟨rfl, ⟨nd, rfl⟩⟩; (try first | exact ⟨rfl, _, World.drewN_drewN _ _ _⟩ | exact ⟨rfl, _, Eq.trans (World.drewN_drewN _ _ _) (congrArg (World.drewN _) (Nat.add_assoc _ _ _))⟩)) | (go_at_call 16; (with_reducible refine (busbarref03_High.calls (wrap64 (a0)) 1 t237 _ A12.out).mono ?_); rintro e w' ⟨rfl, ⟨nd, rfl⟩⟩; (try first | exact ⟨rfl, _, World.drewN_drewN _ _ _⟩ | exact ⟨rfl, _, Eq.trans (World.drewN_drewN _ _ _) (congrArg (World.drewN _) (Nat.add_assoc _ _ _))⟩); have hcz21_0 : wc.cell? ⟨gb235, 0, none⟩ = some (.bool t231) := (blk_cell BK235.out 0).trans rfl; have hcz21_1 : wc.cell? ⟨gb235, 1, none⟩ = some (.bool t232) := (blk_cell BK235.out 1).trans rfl; have hcz21_2 : wc.cell? ⟨gb235, 2, none⟩ = some (.bool t233) := (blk_cell BK235.out 2).trans rfl; have hcz21_3 : wc.cell? ⟨gb235, 3, none⟩ = some (.bool t234) := (blk_cell BK235.out 3).trans rfl; have hfz21_0 := blk_frozen BK235.out 0; have hfz21_1 := blk_frozen BK235.out 1; have hfz21_2 := blk_frozen BK235.out 2; have hfz21_3 := blk_frozen BK235.out 3))
                      repeat (go_quiet (first | (go_at_call 17; (with_reducible refine (wires_Lines_High.calls a0 1 t236 _ A11.out).mono ?_); rintro e w' ⟨rfl, ⟨nd, rfl⟩⟩; (try first | exact ⟨rfl, _, World.drewN_drewN _ _ _⟩ | exact ⟨rfl, _, Eq.trans (World.drewN_drewN _ _ _) (congrArg (World.drewN _) (Nat.add_assoc _ _ _))⟩)) | (go_at_call 16; (with_reducible refine (busbarref03_High.calls (wrap64 (a0)) 1 t237 _ A12.out).mono ?_); rintro e w' ⟨rfl, ⟨nd, rfl⟩⟩; (try first | exact ⟨rfl, _, World.drewN_drewN _ _ _⟩ | exact ⟨rfl, _, Eq.trans (World.drewN_drewN _ _ _) (congrArg (World.drewN _) (Nat.add_assoc _ _ _))⟩); have hcz21_0 : wc.cell? ⟨gb235, 0, none⟩ = some (.bool t231) := (blk_cell BK235.out 0).trans rfl; have hcz21_1 : wc.cell? ⟨gb235, 1, none⟩ = some (.bool t232) := (blk_cell BK235.out 1).trans rfl; have hcz21_2 : wc.cell? ⟨gb235, 2, none⟩ = some (.bool t233) := (blk_cell BK235.out 2).trans rfl; have hcz21_3 : wc.cell? ⟨gb235, 3, none⟩ = some (.bool t234) := (blk_cell BK235.out 3).trans rfl; have hfz21_0 := blk_frozen BK235.out 0; have hfz21_1 := blk_frozen BK235.out 1; have hfz21_2 := blk_frozen BK235.out 2; have hfz21_3 := blk_frozen BK235.out 3)); try go_wp2_with (first | (go_at_call 17; (with_reducible refine (wires_Lines_High.calls a0 1 t236 _ A11.out).mono ?_); rintro e w' ⟨rfl, ⟨nd, rfl⟩⟩; (try first | exact ⟨rfl, _, World.drewN_drewN _ _ _⟩ | exact ⟨rfl, _, Eq.trans (World.drewN_drewN _ _ _) (congrArg (World.drewN _) (Nat.add_assoc _ _ _))⟩)) | (go_at_call 16; (with_reducible refine (busbarref03_High.calls (wrap64 (a0)) 1 t237 _ A12.out).mono ?_); rintro e w' ⟨rfl, ⟨nd, rfl⟩⟩; (try first | exact ⟨rfl, _, World.drewN_drewN _ _ _⟩ | exact ⟨rfl, _, Eq.trans (World.drewN_drewN _ _ _) (congrArg (World.drewN _) (Nat.add_assoc _ _ _))⟩); have hcz21_0 : wc.cell? ⟨gb235, 0, none⟩ = some (.bool t231) := (blk_cell BK235.out 0).trans rfl; have hcz21_1 : wc.cell? ⟨gb235, 1, none⟩ = some (.bool t232) := (blk_cell BK235.out 1).trans rfl; have hcz21_2 : wc.cell? ⟨gb235, 2, none⟩ = some (.bool t233) := (blk_cell BK235.out 2).trans rfl; have hcz21_3 : wc.cell? ⟨gb235, 3, none⟩ = some (.bool t234) := (blk_cell BK235.out 3).trans rfl; have hfz21_0 := blk_frozen BK235.out 0; have hfz21_1 := blk_frozen BK235.out 1; have hfz21_2 := blk_frozen BK235.out 2; have hfz21_3 := blk_frozen BK235.out 3)))
                      go_ret
                      exact ⟨by first | rfl | (simp [errW_none, errW_some] <;> rfl) | (simp [*, errW_none, errW_some] <;> rfl), by repeat (first | (with_reducible first | exact HB.out | apply below_alloc | apply pw_below_drewN | apply below_drew1 | refine below_set ?_ GE235.out) | exact HB.out)⟩
                    · rw [if_neg c20] at H
                      have c20b0 : (t232 != (t237 == x10_8)) = false := by simpa using c20
                      (try (have c20b1 : decide (t232 = (t237 == x10_8)) = true := by simpa using c20))
                      (try (have c20b2 : (t232 == (t237 == x10_8)) = true := by simpa using c20))
                      (try (have c20b3 : (!(t232 == (t237 == x10_8))) = false := by have h_ := c20; simp only [bne] at h_; first | exact h_ | simpa using h_))
                      clear c20
                      have H' := Aside0.mk H
                      clear H
                      go_wp2_with (first | (go_at_call 17; (with_reducible refine (wires_Lines_High.calls a0 1 t236 _ A11.out).mono ?_); rintro e w' ⟨rfl, ⟨nd, rfl⟩⟩; (try first | exact ⟨rfl, _, World.drewN_drewN _ _ _⟩ | exact ⟨rfl, _, Eq.trans (World.drewN_drewN _ _ _) (congrArg (World.drewN _) (Nat.add_assoc _ _ _))⟩)) | (go_at_call 16; (with_reducible refine (busbarref03_High.calls (wrap64 (a0)) 1 t237 _ A12.out).mono ?_); rintro e w' ⟨rfl, ⟨nd, rfl⟩⟩; (try first | exact ⟨rfl, _, World.drewN_drewN _ _ _⟩ | exact ⟨rfl, _, Eq.trans (World.drewN_drewN _ _ _) (congrArg (World.drewN _) (Nat.add_assoc _ _ _))⟩); have hcz22_0 : wc.cell? ⟨gb235, 0, none⟩ = some (.bool t231) := (blk_cell BK235.out 0).trans rfl; have hcz22_1 : wc.cell? ⟨gb235, 1, none⟩ = some (.bool t232) := (blk_cell BK235.out 1).trans rfl; have hcz22_2 : wc.cell? ⟨gb235, 2, none⟩ = some (.bool t233) := (blk_cell BK235.out 2).trans rfl; have hcz22_3 : wc.cell? ⟨gb235, 3, none⟩ = some (.bool t234) := (blk_cell BK235.out 3).trans rfl; have hfz22_0 := blk_frozen BK235.out 0; have hfz22_1 := blk_frozen BK235.out 1; have hfz22_2 := blk_frozen BK235.out 2; have hfz22_3 := blk_frozen BK235.out 3))
                      repeat (go_quiet (first | (go_at_call 17; (with_reducible refine (wires_Lines_High.calls a0 1 t236 _ A11.out).mono ?_); rintro e w' ⟨rfl, ⟨nd, rfl⟩⟩; (try first | exact ⟨rfl, _, World.drewN_drewN _ _ _⟩ | exact ⟨rfl, _, Eq.trans (World.drewN_drewN _ _ _) (congrArg (World.drewN _) (Nat.add_assoc _ _ _))⟩)) | (go_at_call 16; (with_reducible refine (busbarref03_High.calls (wrap64 (a0)) 1 t237 _ A12.out).mono ?_); rintro e w' ⟨rfl, ⟨nd, rfl⟩⟩; (try first | exact ⟨rfl, _, World.drewN_drewN _ _ _⟩ | exact ⟨rfl, _, Eq.trans (World.drewN_drewN _ _ _) (congrArg (World.drewN _) (Nat.add_assoc _ _ _))⟩); have hcz22_0 : wc.cell? ⟨gb235, 0, none⟩ = some (.bool t231) := (blk_cell BK235.out 0).trans rfl; have hcz22_1 : wc.cell? ⟨gb235, 1, none⟩ = some (.bool t232) := (blk_cell BK235.out 1).trans rfl; have hcz22_2 : wc.cell? ⟨gb235, 2, none⟩ = some (.bool t233) := (blk_cell BK235.out 2).trans rfl; have hcz22_3 : wc.cell? ⟨gb235, 3, none⟩ = some (.bool t234) := (blk_cell BK235.out 3).trans rfl; have hfz22_0 := blk_frozen BK235.out 0; have hfz22_1 := blk_frozen BK235.out 1; have hfz22_2 := blk_frozen BK235.out 2; have hfz22_3 := blk_frozen BK235.out 3)); try go_wp2_with (first | (go_at_call 17; (with_reducible refine (wires_Lines_High.calls a0 1 t236 _ A11.out).mono ?_); rintro e w' ⟨rfl, ⟨nd, rfl⟩⟩; (try first | exact ⟨rfl, _, World.drewN_drewN _ _ _⟩ | exact ⟨rfl, _, Eq.trans (World.drewN_drewN _ _ _) (congrArg (World.drewN _) (Nat.add_assoc _ _ _))⟩)) | (go_at_call 16; (with_reducible refine (busbarref03_High.calls (wrap64 (a0)) 1 t237 _ A12.out).mono ?_); rintro e w' ⟨rfl, ⟨nd, rfl⟩⟩; (try first | exact ⟨rfl, _, World.drewN_drewN _ _ _⟩ | exact ⟨rfl, _, Eq.trans (World.drewN_drewN _ _ _) (congrArg (World.drewN _) (Nat.add_assoc _ _ _))⟩); have hcz22_0 : wc.cell? ⟨gb235, 0, none⟩ = some (.bool t231) := (blk_cell BK235.out 0).trans rfl; have hcz22_1 : wc.cell? ⟨gb235, 1, none⟩ = some (.bool t232) := (blk_cell BK235.out 1).trans rfl; have hcz22_2 : wc.cell? ⟨gb235, 2, none⟩ = some (.bool t233) := (blk_cell BK235.out 2).trans rfl; have hcz22_3 : wc.cell? ⟨gb235, 3, none⟩ = some (.bool t234) := (blk_cell BK235.out 3).trans rfl; have hfz22_0 := blk_frozen BK235.out 0; have hfz22_1 := blk_frozen BK235.out 1; have hfz22_2 := blk_frozen BK235.out 2; have hfz22_3 := blk_frozen BK235.out 3)))
                      go_roundg kj8
                      case measure => have := HK1.out; have := HJ8.out; omega
                      case rel => exact ⟨(1 + 1), (by first | rfl | (simp; done) | (simp [*]; done)), H', ⟨by have := HK1.out; have := HJ8.out; omega⟩, ⟨by (with_reducible repeat (first | refine blk_drewN ?_ _ | refine blk_drew ?_ | refine blk_alloc ?_ _)); exact BK235.out⟩, ⟨by repeat (first | (with_reducible first | exact HB.out | apply below_alloc | apply pw_below_drewN | apply below_drew1 | refine below_set ?_ GE235.out) | exact HB.out)⟩⟩
                  · rw [if_neg c19] at H
                    have c19b0 : (x9_1 == 1) = false := beq_eq_false_iff_ne.mpr c19
                    have c19b1 : (x9_1 != 1) = true := bne_iff_ne.mpr c19
                    by_cases c23 : x9_1 = 2
                    · subst c23
                      have H1 : (if (t233 != (t237 == x10_8)) = true then (some false) else (busbarlaw03_WiresTell.l0 kj8 a0 a1 a2 (wrap64 (a0)) (2 + 1) t231 t232 t233 t234)) = some r := by rw [if_pos rfl] at H; exact H
                      clear H
                      have H := H1
                      clear H1
                      by_cases c24 : (t233 != (t237 == x10_8)) = true
                      · rw [if_pos c24] at H
                        have c24b0 : (t233 != (t237 == x10_8)) = true := c24
                        (try (have c24b1 : decide (t233 = (t237 == x10_8)) = false := by simpa using c24))
                        (try (have c24b2 : (t233 == (t237 == x10_8)) = false := by simpa using c24))
                        (try (have c24b3 : ¬ (t233 = (t237 == x10_8)) := by simpa using c24))
                        (try (have c24b4 : (!(t233 == (t237 == x10_8))) = true := by have h_ := c24; simp only [bne] at h_; first | exact h_ | simpa using h_))
                        clear c24
                        obtain rfl := Option.some.inj H
                        go_wp2_with (first | (go_at_call 17; (with_reducible refine (wires_Lines_High.calls a0 2 t236 _ A11.out).mono ?_); rintro e w' ⟨rfl, ⟨nd, rfl⟩⟩; (try first | exact ⟨rfl, _, World.drewN_drewN _ _ _⟩ | exact ⟨rfl, _, Eq.trans (World.drewN_drewN _ _ _) (congrArg (World.drewN _) (Nat.add_assoc _ _ _))⟩)) | (go_at_call 16; (with_reducible refine (busbarref03_High.calls (wrap64 (a0)) 2 t237 _ A12.out).mono ?_); rintro e w' ⟨rfl, ⟨nd, rfl⟩⟩; (try first | exact ⟨rfl, _, World.drewN_drewN _ _ _⟩ | exact ⟨rfl, _, Eq.trans (World.drewN_drewN _ _ _) (congrArg (World.drewN _) (Nat.add_assoc _ _ _))⟩); have hcz25_0 : wc.cell? ⟨gb235, 0, none⟩ = some (.bool t231) := (blk_cell BK235.out 0).trans rfl; have hcz25_1 : wc.cell? ⟨gb235, 1, none⟩ = some (.bool t232) := (blk_cell BK235.out 1).trans rfl; have hcz25_2 : wc.cell? ⟨gb235, 2, none⟩ = some (.bool t233) := (blk_cell BK235.out 2).trans rfl; have hcz25_3 : wc.cell? ⟨gb235, 3, none⟩ = some (.bool t234) := (blk_cell BK235.out 3).trans rfl; have hfz25_0 := blk_frozen BK235.out 0; have hfz25_1 := blk_frozen BK235.out 1; have hfz25_2 := blk_frozen BK235.out 2; have hfz25_3 := blk_frozen BK235.out 3))
                        repeat (go_quiet (first | (go_at_call 17; (with_reducible refine (wires_Lines_High.calls a0 2 t236 _ A11.out).mono ?_); rintro e w' ⟨rfl, ⟨nd, rfl⟩⟩; (try first | exact ⟨rfl, _, World.drewN_drewN _ _ _⟩ | exact ⟨rfl, _, Eq.trans (World.drewN_drewN _ _ _) (congrArg (World.drewN _) (Nat.add_assoc _ _ _))⟩)) | (go_at_call 16; (with_reducible refine (busbarref03_High.calls (wrap64 (a0)) 2 t237 _ A12.out).mono ?_); rintro e w' ⟨rfl, ⟨nd, rfl⟩⟩; (try first | exact ⟨rfl, _, World.drewN_drewN _ _ _⟩ | exact ⟨rfl, _, Eq.trans (World.drewN_drewN _ _ _) (congrArg (World.drewN _) (Nat.add_assoc _ _ _))⟩); have hcz25_0 : wc.cell? ⟨gb235, 0, none⟩ = some (.bool t231) := (blk_cell BK235.out 0).trans rfl; have hcz25_1 : wc.cell? ⟨gb235, 1, none⟩ = some (.bool t232) := (blk_cell BK235.out 1).trans rfl; have hcz25_2 : wc.cell? ⟨gb235, 2, none⟩ = some (.bool t233) := (blk_cell BK235.out 2).trans rfl; have hcz25_3 : wc.cell? ⟨gb235, 3, none⟩ = some (.bool t234) := (blk_cell BK235.out 3).trans rfl; have hfz25_0 := blk_frozen BK235.out 0; have hfz25_1 := blk_frozen BK235.out 1; have hfz25_2 := blk_frozen BK235.out 2; have hfz25_3 := blk_frozen BK235.out 3)); try go_wp2_with (first | (go_at_call 17; (with_reducible refine (wires_Lines_High.calls a0 2 t236 _ A11.out).mono ?_); rintro e w' ⟨rfl, ⟨nd, rfl⟩⟩; (try first | exact ⟨rfl, _, World.drewN_drewN _ _ _⟩ | exact ⟨rfl, _, Eq.trans (World.drewN_drewN _ _ _) (congrArg (World.drewN _) (Nat.add_assoc _ _ _))⟩)) | (go_at_call 16; (with_reducible refine (busbarref03_High.calls (wrap64 (a0)) 2 t237 _ A12.out).mono ?_); rintro e w' ⟨rfl, ⟨nd, rfl⟩⟩; (try first | exact ⟨rfl, _, World.drewN_drewN _ _ _⟩ | exact ⟨rfl, _, Eq.trans (World.drewN_drewN _ _ _) (congrArg (World.drewN _) (Nat.add_assoc _ _ _))⟩); have hcz25_0 : wc.cell? ⟨gb235, 0, none⟩ = some (.bool t231) := (blk_cell BK235.out 0).trans rfl; have hcz25_1 : wc.cell? ⟨gb235, 1, none⟩ = some (.bool t232) := (blk_cell BK235.out 1).trans rfl; have hcz25_2 : wc.cell? ⟨gb235, 2, none⟩ = some (.bool t233) := (blk_cell BK235.out 2).trans rfl; have hcz25_3 : wc.cell? ⟨gb235, 3, none⟩ = some (.bool t234) := (blk_cell BK235.out 3).trans rfl; have hfz25_0 := blk_frozen BK235.out 0; have hfz25_1 := blk_frozen BK235.out 1; have hfz25_2 := blk_frozen BK235.out 2; have hfz25_3 := blk_frozen BK235.out 3)))
                        go_ret
                        exact ⟨by first | rfl | (simp [errW_none, errW_some] <;> rfl) | (simp [*, errW_none, errW_some] <;> rfl), by repeat (first | (with_reducible first | exact HB.out | apply below_alloc | apply pw_below_drewN | apply below_drew1 | refine below_set ?_ GE235.out) | exact HB.out)⟩
                      · rw [if_neg c24] at H
                        have c24b0 : (t233 != (t237 == x10_8)) = false := by simpa using c24
                        (try (have c24b1 : decide (t233 = (t237 == x10_8)) = true := by simpa using c24))
                        (try (have c24b2 : (t233 == (t237 == x10_8)) = true := by simpa using c24))
                        (try (have c24b3 : (!(t233 == (t237 == x10_8))) = false := by have h_ := c24; simp only [bne] at h_; first | exact h_ | simpa using h_))
                        clear c24
                        have H' := Aside0.mk H
                        clear H
                        go_wp2_with (first | (go_at_call 17; (with_reducible refine (wires_Lines_High.calls a0 2 t236 _ A11.out).mono ?_); rintro e w' ⟨rfl, ⟨nd, rfl⟩⟩; (try first | exact ⟨rfl, _, World.drewN_drewN _ _ _⟩ | exact ⟨rfl, _, Eq.trans (World.drewN_drewN _ _ _) (congrArg (World.drewN _) (Nat.add_assoc _ _ _))⟩)) | (go_at_call 16; (with_reducible refine (busbarref03_High.calls (wrap64 (a0)) 2 t237 _ A12.out).mono ?_); rintro e w' ⟨rfl, ⟨nd, rfl⟩⟩; (try first | exact ⟨rfl, _, World.drewN_drewN _ _ _⟩ | exact ⟨rfl, _, Eq.trans (World.drewN_drewN _ _ _) (congrArg (World.drewN _) (Nat.add_assoc _ _ _))⟩); have hcz26_0 : wc.cell? ⟨gb235, 0, none⟩ = some (.bool t231) := (blk_cell BK235.out 0).trans rfl; have hcz26_1 : wc.cell? ⟨gb235, 1, none⟩ = some (.bool t232) := (blk_cell BK235.out 1).trans rfl; have hcz26_2 : wc.cell? ⟨gb235, 2, none⟩ = some (.bool t233) := (blk_cell BK235.out 2).trans rfl; have hcz26_3 : wc.cell? ⟨gb235, 3, none⟩ = some (.bool t234) := (blk_cell BK235.out 3).trans rfl; have hfz26_0 := blk_frozen BK235.out 0; have hfz26_1 := blk_frozen BK235.out 1; have hfz26_2 := blk_frozen BK235.out 2; have hfz26_3 := blk_frozen BK235.out 3))
                        repeat (go_quiet (first | (go_at_call 17; (with_reducible refine (wires_Lines_High.calls a0 2 t236 _ A11.out).mono ?_); rintro e w' ⟨rfl, ⟨nd, rfl⟩⟩; (try first | exact ⟨rfl, _, World.drewN_drewN _ _ _⟩ | exact ⟨rfl, _, Eq.trans (World.drewN_drewN _ _ _) (congrArg (World.drewN _) (Nat.add_assoc _ _ _))⟩)) | (go_at_call 16; (with_reducible refine (busbarref03_High.calls (wrap64 (a0)) 2 t237 _ A12.out).mono ?_); rintro e w' ⟨rfl, ⟨nd, rfl⟩⟩; (try first | exact ⟨rfl, _, World.drewN_drewN _ _ _⟩ | exact ⟨rfl, _, Eq.trans (World.drewN_drewN _ _ _) (congrArg (World.drewN _) (Nat.add_assoc _ _ _))⟩); have hcz26_0 : wc.cell? ⟨gb235, 0, none⟩ = some (.bool t231) := (blk_cell BK235.out 0).trans rfl; have hcz26_1 : wc.cell? ⟨gb235, 1, none⟩ = some (.bool t232) := (blk_cell BK235.out 1).trans rfl; have hcz26_2 : wc.cell? ⟨gb235, 2, none⟩ = some (.bool t233) := (blk_cell BK235.out 2).trans rfl; have hcz26_3 : wc.cell? ⟨gb235, 3, none⟩ = some (.bool t234) := (blk_cell BK235.out 3).trans rfl; have hfz26_0 := blk_frozen BK235.out 0; have hfz26_1 := blk_frozen BK235.out 1; have hfz26_2 := blk_frozen BK235.out 2; have hfz26_3 := blk_frozen BK235.out 3)); try go_wp2_with (first | (go_at_call 17; (with_reducible refine (wires_Lines_High.calls a0 2 t236 _ A11.out).mono ?_); rintro e w' ⟨rfl, ⟨nd, rfl⟩⟩; (try first | exact ⟨rfl, _, World.drewN_drewN _ _ _⟩ | exact ⟨rfl, _, Eq.trans (World.drewN_drewN _ _ _) (congrArg (World.drewN _) (Nat.add_assoc _ _ _))⟩)) | (go_at_call 16; (with_reducible refine (busbarref03_High.calls (wrap64 (a0)) 2 t237 _ A12.out).mono ?_); rintro e w' ⟨rfl, ⟨nd, rfl⟩⟩; (try first | exact ⟨rfl, _, World.drewN_drewN _ _ _⟩ | exact ⟨rfl, _, Eq.trans (World.drewN_drewN _ _ _) (congrArg (World.drewN _) (Nat.add_assoc _ _ _))⟩); have hcz26_0 : wc.cell? ⟨gb235, 0, none⟩ = some (.bool t231) := (blk_cell BK235.out 0).trans rfl; have hcz26_1 : wc.cell? ⟨gb235, 1, none⟩ = some (.bool t232) := (blk_cell BK235.out 1).trans rfl; have hcz26_2 : wc.cell? ⟨gb235, 2, none⟩ = some (.bool t233) := (blk_cell BK235.out 2).trans rfl; have hcz26_3 : wc.cell? ⟨gb235, 3, none⟩ = some (.bool t234) := (blk_cell BK235.out 3).trans rfl; have hfz26_0 := blk_frozen BK235.out 0; have hfz26_1 := blk_frozen BK235.out 1; have hfz26_2 := blk_frozen BK235.out 2; have hfz26_3 := blk_frozen BK235.out 3)))
                        go_roundg kj8
                        case measure => have := HK1.out; have := HJ8.out; omega
                        case rel => exact ⟨(2 + 1), (by first | rfl | (simp; done) | (simp [*]; done)), H', ⟨by have := HK1.out; have := HJ8.out; omega⟩, ⟨by (with_reducible repeat (first | refine blk_drewN ?_ _ | refine blk_drew ?_ | refine blk_alloc ?_ _)); exact BK235.out⟩, ⟨by repeat (first | (with_reducible first | exact HB.out | apply below_alloc | apply pw_below_drewN | apply below_drew1 | refine below_set ?_ GE235.out) | exact HB.out)⟩⟩
                    · rw [if_neg c23] at H
                      have c23b0 : (x9_1 == 2) = false := beq_eq_false_iff_ne.mpr c23
                      have c23b1 : (x9_1 != 2) = true := bne_iff_ne.mpr c23
                      by_cases c27 : x9_1 = 3
                      · subst c27
                        have H1 : (if (t234 != (t237 == x10_8)) = true then (some false) else (busbarlaw03_WiresTell.l0 kj8 a0 a1 a2 (wrap64 (a0)) (3 + 1) t231 t232 t233 t234)) = some r := by rw [if_pos rfl] at H; exact H
                        clear H
                        have H := H1
                        clear H1
                        by_cases c28 : (t234 != (t237 == x10_8)) = true
                        · rw [if_pos c28] at H
                          have c28b0 : (t234 != (t237 == x10_8)) = true := c28
                          (try (have c28b1 : decide (t234 = (t237 == x10_8)) = false := by simpa using c28))
                          (try (have c28b2 : (t234 == (t237 == x10_8)) = false := by simpa using c28))
                          (try (have c28b3 : ¬ (t234 = (t237 == x10_8)) := by simpa using c28))
                          (try (have c28b4 : (!(t234 == (t237 == x10_8))) = true := by have h_ := c28; simp only [bne] at h_; first | exact h_ | simpa using h_))
                          clear c28
                          obtain rfl := Option.some.inj H
                          go_wp2_with (first | (go_at_call 17; (with_reducible refine (wires_Lines_High.calls a0 3 t236 _ A11.out).mono ?_); rintro e w' ⟨rfl, ⟨nd, rfl⟩⟩; (try first | exact ⟨rfl, _, World.drewN_drewN _ _ _⟩ | exact ⟨rfl, _, Eq.trans (World.drewN_drewN _ _ _) (congrArg (World.drewN _) (Nat.add_assoc _ _ _))⟩)) | (go_at_call 16; (with_reducible refine (busbarref03_High.calls (wrap64 (a0)) 3 t237 _ A12.out).mono ?_); rintro e w' ⟨rfl, ⟨nd, rfl⟩⟩; (try first | exact ⟨rfl, _, World.drewN_drewN _ _ _⟩ | exact ⟨rfl, _, Eq.trans (World.drewN_drewN _ _ _) (congrArg (World.drewN _) (Nat.add_assoc _ _ _))⟩); have hcz29_0 : wc.cell? ⟨gb235, 0, none⟩ = some (.bool t231) := (blk_cell BK235.out 0).trans rfl; have hcz29_1 : wc.cell? ⟨gb235, 1, none⟩ = some (.bool t232) := (blk_cell BK235.out 1).trans rfl; have hcz29_2 : wc.cell? ⟨gb235, 2, none⟩ = some (.bool t233) := (blk_cell BK235.out 2).trans rfl; have hcz29_3 : wc.cell? ⟨gb235, 3, none⟩ = some (.bool t234) := (blk_cell BK235.out 3).trans rfl; have hfz29_0 := blk_frozen BK235.out 0; have hfz29_1 := blk_frozen BK235.out 1; have hfz29_2 := blk_frozen BK235.out 2; have hfz29_3 := blk_frozen BK235.out 3))
                          repeat (go_quiet (first | (go_at_call 17; (with_reducible refine (wires_Lines_High.calls a0 3 t236 _ A11.out).mono ?_); rintro e w' ⟨rfl, ⟨nd, rfl⟩⟩; (try first | exact ⟨rfl, _, World.drewN_drewN _ _ _⟩ | exact ⟨rfl, _, Eq.trans (World.drewN_drewN _ _ _) (congrArg (World.drewN _) (Nat.add_assoc _ _ _))⟩)) | (go_at_call 16; (with_reducible refine (busbarref03_High.calls (wrap64 (a0)) 3 t237 _ A12.out).mono ?_); rintro e w' ⟨rfl, ⟨nd, rfl⟩⟩; (try first | exact ⟨rfl, _, World.drewN_drewN _ _ _⟩ | exact ⟨rfl, _, Eq.trans (World.drewN_drewN _ _ _) (congrArg (World.drewN _) (Nat.add_assoc _ _ _))⟩); have hcz29_0 : wc.cell? ⟨gb235, 0, none⟩ = some (.bool t231) := (blk_cell BK235.out 0).trans rfl; have hcz29_1 : wc.cell? ⟨gb235, 1, none⟩ = some (.bool t232) := (blk_cell BK235.out 1).trans rfl; have hcz29_2 : wc.cell? ⟨gb235, 2, none⟩ = some (.bool t233) := (blk_cell BK235.out 2).trans rfl; have hcz29_3 : wc.cell? ⟨gb235, 3, none⟩ = some (.bool t234) := (blk_cell BK235.out 3).trans rfl; have hfz29_0 := blk_frozen BK235.out 0; have hfz29_1 := blk_frozen BK235.out 1; have hfz29_2 := blk_frozen BK235.out 2; have hfz29_3 := blk_frozen BK235.out 3)); try go_wp2_with (first | (go_at_call 17; (with_reducible refine (wires_Lines_High.calls a0 3 t236 _ A11.out).mono ?_); rintro e w' ⟨rfl, ⟨nd, rfl⟩⟩; (try first | exact ⟨rfl, _, World.drewN_drewN _ _ _⟩ | exact ⟨rfl, _, Eq.trans (World.drewN_drewN _ _ _) (congrArg (World.drewN _) (Nat.add_assoc _ _ _))⟩)) | (go_at_call 16; (with_reducible refine (busbarref03_High.calls (wrap64 (a0)) 3 t237 _ A12.out).mono ?_); rintro e w' ⟨rfl, ⟨nd, rfl⟩⟩; (try first | exact ⟨rfl, _, World.drewN_drewN _ _ _⟩ | exact ⟨rfl, _, Eq.trans (World.drewN_drewN _ _ _) (congrArg (World.drewN _) (Nat.add_assoc _ _ _))⟩); have hcz29_0 : wc.cell? ⟨gb235, 0, none⟩ = some (.bool t231) := (blk_cell BK235.out 0).trans rfl; have hcz29_1 : wc.cell? ⟨gb235, 1, none⟩ = some (.bool t232) := (blk_cell BK235.out 1).trans rfl; have hcz29_2 : wc.cell? ⟨gb235, 2, none⟩ = some (.bool t233) := (blk_cell BK235.out 2).trans rfl; have hcz29_3 : wc.cell? ⟨gb235, 3, none⟩ = some (.bool t234) := (blk_cell BK235.out 3).trans rfl; have hfz29_0 := blk_frozen BK235.out 0; have hfz29_1 := blk_frozen BK235.out 1; have hfz29_2 := blk_frozen BK235.out 2; have hfz29_3 := blk_frozen BK235.out 3)))
                          go_ret
                          exact ⟨by first | rfl | (simp [errW_none, errW_some] <;> rfl) | (simp [*, errW_none, errW_some] <;> rfl), by repeat (first | (with_reducible first | exact HB.out | apply below_alloc | apply pw_below_drewN | apply below_drew1 | refine below_set ?_ GE235.out) | exact HB.out)⟩
                        · rw [if_neg c28] at H
                          have c28b0 : (t234 != (t237 == x10_8)) = false := by simpa using c28
                          (try (have c28b1 : decide (t234 = (t237 == x10_8)) = true := by simpa using c28))
                          (try (have c28b2 : (t234 == (t237 == x10_8)) = true := by simpa using c28))
                          (try (have c28b3 : (!(t234 == (t237 == x10_8))) = false := by have h_ := c28; simp only [bne] at h_; first | exact h_ | simpa using h_))
                          clear c28
                          have H' := Aside0.mk H
                          clear H
                          go_wp2_with (first | (go_at_call 17; (with_reducible refine (wires_Lines_High.calls a0 3 t236 _ A11.out).mono ?_); rintro e w' ⟨rfl, ⟨nd, rfl⟩⟩; (try first | exact ⟨rfl, _, World.drewN_drewN _ _ _⟩ | exact ⟨rfl, _, Eq.trans (World.drewN_drewN _ _ _) (congrArg (World.drewN _) (Nat.add_assoc _ _ _))⟩)) | (go_at_call 16; (with_reducible refine (busbarref03_High.calls (wrap64 (a0)) 3 t237 _ A12.out).mono ?_); rintro e w' ⟨rfl, ⟨nd, rfl⟩⟩; (try first | exact ⟨rfl, _, World.drewN_drewN _ _ _⟩ | exact ⟨rfl, _, Eq.trans (World.drewN_drewN _ _ _) (congrArg (World.drewN _) (Nat.add_assoc _ _ _))⟩); have hcz30_0 : wc.cell? ⟨gb235, 0, none⟩ = some (.bool t231) := (blk_cell BK235.out 0).trans rfl; have hcz30_1 : wc.cell? ⟨gb235, 1, none⟩ = some (.bool t232) := (blk_cell BK235.out 1).trans rfl; have hcz30_2 : wc.cell? ⟨gb235, 2, none⟩ = some (.bool t233) := (blk_cell BK235.out 2).trans rfl; have hcz30_3 : wc.cell? ⟨gb235, 3, none⟩ = some (.bool t234) := (blk_cell BK235.out 3).trans rfl; have hfz30_0 := blk_frozen BK235.out 0; have hfz30_1 := blk_frozen BK235.out 1; have hfz30_2 := blk_frozen BK235.out 2; have hfz30_3 := blk_frozen BK235.out 3))
                          repeat (go_quiet (first | (go_at_call 17; (with_reducible refine (wires_Lines_High.calls a0 3 t236 _ A11.out).mono ?_); rintro e w' ⟨rfl, ⟨nd, rfl⟩⟩; (try first | exact ⟨rfl, _, World.drewN_drewN _ _ _⟩ | exact ⟨rfl, _, Eq.trans (World.drewN_drewN _ _ _) (congrArg (World.drewN _) (Nat.add_assoc _ _ _))⟩)) | (go_at_call 16; (with_reducible refine (busbarref03_High.calls (wrap64 (a0)) 3 t237 _ A12.out).mono ?_); rintro e w' ⟨rfl, ⟨nd, rfl⟩⟩; (try first | exact ⟨rfl, _, World.drewN_drewN _ _ _⟩ | exact ⟨rfl, _, Eq.trans (World.drewN_drewN _ _ _) (congrArg (World.drewN _) (Nat.add_assoc _ _ _))⟩); have hcz30_0 : wc.cell? ⟨gb235, 0, none⟩ = some (.bool t231) := (blk_cell BK235.out 0).trans rfl; have hcz30_1 : wc.cell? ⟨gb235, 1, none⟩ = some (.bool t232) := (blk_cell BK235.out 1).trans rfl; have hcz30_2 : wc.cell? ⟨gb235, 2, none⟩ = some (.bool t233) := (blk_cell BK235.out 2).trans rfl; have hcz30_3 : wc.cell? ⟨gb235, 3, none⟩ = some (.bool t234) := (blk_cell BK235.out 3).trans rfl; have hfz30_0 := blk_frozen BK235.out 0; have hfz30_1 := blk_frozen BK235.out 1; have hfz30_2 := blk_frozen BK235.out 2; have hfz30_3 := blk_frozen BK235.out 3)); try go_wp2_with (first | (go_at_call 17; (with_reducible refine (wires_Lines_High.calls a0 3 t236 _ A11.out).mono ?_); rintro e w' ⟨rfl, ⟨nd, rfl⟩⟩; (try first | exact ⟨rfl, _, World.drewN_drewN _ _ _⟩ | exact ⟨rfl, _, Eq.trans (World.drewN_drewN _ _ _) (congrArg (World.drewN _) (Nat.add_assoc _ _ _))⟩)) | (go_at_call 16; (with_reducible refine (busbarref03_High.calls (wrap64 (a0)) 3 t237 _ A12.out).mono ?_); rintro e w' ⟨rfl, ⟨nd, rfl⟩⟩; (try first | exact ⟨rfl, _, World.drewN_drewN _ _ _⟩ | exact ⟨rfl, _, Eq.trans (World.drewN_drewN _ _ _) (congrArg (World.drewN _) (Nat.add_assoc _ _ _))⟩); have hcz30_0 : wc.cell? ⟨gb235, 0, none⟩ = some (.bool t231) := (blk_cell BK235.out 0).trans rfl; have hcz30_1 : wc.cell? ⟨gb235, 1, none⟩ = some (.bool t232) := (blk_cell BK235.out 1).trans rfl; have hcz30_2 : wc.cell? ⟨gb235, 2, none⟩ = some (.bool t233) := (blk_cell BK235.out 2).trans rfl; have hcz30_3 : wc.cell? ⟨gb235, 3, none⟩ = some (.bool t234) := (blk_cell BK235.out 3).trans rfl; have hfz30_0 := blk_frozen BK235.out 0; have hfz30_1 := blk_frozen BK235.out 1; have hfz30_2 := blk_frozen BK235.out 2; have hfz30_3 := blk_frozen BK235.out 3)))
                          go_roundg kj8
                          case measure => have := HK1.out; have := HJ8.out; omega
                          case rel => exact ⟨(3 + 1), (by first | rfl | (simp; done) | (simp [*]; done)), H', ⟨by have := HK1.out; have := HJ8.out; omega⟩, ⟨by (with_reducible repeat (first | refine blk_drewN ?_ _ | refine blk_drew ?_ | refine blk_alloc ?_ _)); exact BK235.out⟩, ⟨by repeat (first | (with_reducible first | exact HB.out | apply below_alloc | apply pw_below_drewN | apply below_drew1 | refine below_set ?_ GE235.out) | exact HB.out)⟩⟩
                      · rw [if_neg c27] at H
                        exact absurd H (by simp)
              · rw [if_neg c14] at H
                exact absurd H (by simp)
      · rw [if_neg c8] at H
        have c8b0 : decide (x9_1 < 4) = false := decide_eq_false c8
        (try (have c8b1 : decide ((4 : Int) ≤ x9_1) = true := decide_eq_true (Int.not_lt.mp c8)))
        clear c8
        replace H := Option.bind_eq_some_iff.mp H
        obtain ⟨t238, A310, H⟩ := H
        replace H : (busbarlaw03_WiresTell.l1 k1 a0 a1 a2 (wrap64 (a0)) t238 0) = some r := H
        have A31 := Aside0.mk A310
        clear A310
        have H' := Aside0.mk H
        clear H
        go_wp2_with (first | (go_at_call 29; (with_reducible refine (wires_Lines_Set.calls a0 a1 a2 t238 _ A31.out).mono ?_); rintro e w' ⟨rfl, ⟨nd, rfl⟩⟩; (try first | exact ⟨rfl, _, World.drewN_drewN _ _ _⟩ | exact ⟨rfl, _, Eq.trans (World.drewN_drewN _ _ _) (congrArg (World.drewN _) (Nat.add_assoc _ _ _))⟩)))
        repeat (go_quiet (first | (go_at_call 29; (with_reducible refine (wires_Lines_Set.calls a0 a1 a2 t238 _ A31.out).mono ?_); rintro e w' ⟨rfl, ⟨nd, rfl⟩⟩; (try first | exact ⟨rfl, _, World.drewN_drewN _ _ _⟩ | exact ⟨rfl, _, Eq.trans (World.drewN_drewN _ _ _) (congrArg (World.drewN _) (Nat.add_assoc _ _ _))⟩))); try go_wp2_with (first | (go_at_call 29; (with_reducible refine (wires_Lines_Set.calls a0 a1 a2 t238 _ A31.out).mono ?_); rintro e w' ⟨rfl, ⟨nd, rfl⟩⟩; (try first | exact ⟨rfl, _, World.drewN_drewN _ _ _⟩ | exact ⟨rfl, _, Eq.trans (World.drewN_drewN _ _ _) (congrArg (World.drewN _) (Nat.add_assoc _ _ _))⟩))))
        go_loopg [12] k1 (fun kq v12 w' => ∃ (x12_2 : Int), v12 = .int .i64 x12_2 ∧ Aside0 (busbarlaw03_WiresTell.l1 kq a0 a1 a2 (wrap64 (a0)) t238 x12_2 = some r) ∧ Aside0 (kq ≤ k1) ∧ Aside0 (w'.heap[gb235]? = some (.cells #[.bool t231, .bool t232, .bool t233, .bool t234] 40 (0, 0))) ∧ Aside0 (Below w.heap.size w w'))
        case atStart => exact ⟨(0), (by first | rfl | (simp; done) | (simp [*]; done)), H', ⟨Nat.le_refl _⟩, ⟨by (with_reducible repeat (first | refine blk_drewN ?_ _ | refine blk_drew ?_ | refine blk_alloc ?_ _)); exact BK235.out⟩, ⟨by repeat (first | (with_reducible first | exact HB.out | apply below_alloc | apply pw_below_drewN | apply below_drew1 | refine below_set ?_ GE235.out) | exact HB.out)⟩⟩
        case round =>
          clear H'
          try clear c1
          try clear c2
          try clear p2
          try clear c6
          try clear p6
          try clear c8
          try clear c8b0
          try clear c8b1
          try clear c10
          try clear c10b0
          try clear c10b1
          try clear c13
          try clear c13b0
          try clear c13b1
          try clear c13b2
          try clear c14
          try clear c14b0
          try clear c14b1
          try clear c15
          try clear c15b0
          try clear c15b1
          try clear c16
          try clear c16b0
          try clear c16b1
          try clear c16b2
          try clear c19
          try clear c19b0
          try clear c19b1
          try clear c20
          try clear c20b0
          try clear c20b1
          try clear c20b2
          try clear c23
          try clear c23b0
          try clear c23b1
          try clear c24
          try clear c24b0
          try clear c24b1
          try clear c24b2
          try clear c27
          try clear c28
          try clear c28b0
          try clear c28b1
          try clear c28b2
          try clear hcz17_0
          try clear hcz17_1
          try clear hcz17_2
          try clear hcz17_3
          try clear hcz18_0
          try clear hcz18_1
          try clear hcz18_2
          try clear hcz18_3
          try clear hcz21_0
          try clear hcz21_1
          try clear hcz21_2
          try clear hcz21_3
          try clear hcz22_0
          try clear hcz22_1
          try clear hcz22_2
          try clear hcz22_3
          try clear hcz25_0
          try clear hcz25_1
          try clear hcz25_2
          try clear hcz25_3
          try clear hcz26_0
          try clear hcz26_1
          try clear hcz26_2
          try clear hcz26_3
          try clear hcz29_0
          try clear hcz29_1
          try clear hcz29_2
          try clear hcz29_3
          try clear hcz30_0
          try clear hcz30_1
          try clear hcz30_2
          try clear hcz30_3
          try clear hcz7_0
          try clear hcz7_1
          try clear hcz7_2
          try clear hcz7_3
          try clear hfz17_0
          try clear hfz17_1
          try clear hfz17_2
          try clear hfz17_3
          try clear hfz18_0
          try clear hfz18_1
          try clear hfz18_2
          try clear hfz18_3
          try clear hfz21_0
          try clear hfz21_1
          try clear hfz21_2
          try clear hfz21_3
          try clear hfz22_0
          try clear hfz22_1
          try clear hfz22_2
          try clear hfz22_3
          try clear hfz25_0
          try clear hfz25_1
          try clear hfz25_2
          try clear hfz25_3
          try clear hfz26_0
          try clear hfz26_1
          try clear hfz26_2
          try clear hfz26_3
          try clear hfz29_0
          try clear hfz29_1
          try clear hfz29_2
          try clear hfz29_3
          try clear hfz30_0
          try clear hfz30_1
          try clear hfz30_2
          try clear hfz30_3
          try clear hfz7_0
          try clear hfz7_1
          try clear hfz7_2
          try clear hfz7_3
          try clear p2
          try clear p6
          obtain ⟨x12_2, rfl, HA, HK2, BK235, HB⟩ := hrel
          cases gk with
          | zero => exact absurd HA.out (by simp [busbarlaw03_WiresTell.l1])
          | succ k2 =>
            have H := HA.out
            clear HA
            simp only [busbarlaw03_WiresTell.l1] at H
            by_cases c32 : x12_2 < 4
            · rw [if_pos c32] at H
              have c32b0 : decide (x12_2 < 4) = true := decide_eq_true c32
              (try (have c32b1 : decide ((4 : Int) ≤ x12_2) = false := decide_eq_false (Int.not_le.mpr c32)))
              clear c32
              replace H := Option.bind_eq_some_iff.mp H
              obtain ⟨t239, A330, H⟩ := H
              replace H : (if x12_2 = a1 then ((wires_Lines_High.f t238 x12_2).bind fun t240 => (if (t240 != a2) = true then (some false) else (busbarlaw03_WiresTell.l1 k2 a0 a1 a2 (wrap64 (a0)) t238 (wrap64 (x12_2 + 1))))) else ((wires_Lines_High.f t238 x12_2).bind fun t241 => (if (t241 != t239) = true then (some false) else (busbarlaw03_WiresTell.l1 k2 a0 a1 a2 (wrap64 (a0)) t238 (wrap64 (x12_2 + 1)))))) = some r := H
              have A33 := Aside0.mk A330
              clear A330
              by_cases c34 : x12_2 = a1
              · rw [if_pos c34] at H
                have c34b0 : (x12_2 == a1) = true := beq_iff_eq.mpr c34
                have c34b1 : (x12_2 != a1) = false := bne_eq_false_iff_eq.mpr c34
                clear c34
                replace H := Option.bind_eq_some_iff.mp H
                obtain ⟨t240, A350, H⟩ := H
                replace H : (if (t240 != a2) = true then (some false) else (busbarlaw03_WiresTell.l1 k2 a0 a1 a2 (wrap64 (a0)) t238 (wrap64 (x12_2 + 1)))) = some r := H
                have A35 := Aside0.mk A350
                clear A350
                by_cases c36 : (t240 != a2) = true
                · rw [if_pos c36] at H
                  have c36b0 : (t240 != a2) = true := c36
                  (try (have c36b1 : decide (t240 = a2) = false := by simpa using c36))
                  (try (have c36b2 : (t240 == a2) = false := by simpa using c36))
                  (try (have c36b3 : ¬ (t240 = a2) := by simpa using c36))
                  (try (have c36b4 : (!(t240 == a2)) = true := by have h_ := c36; simp only [bne] at h_; first | exact h_ | simpa using h_))
                  clear c36
                  obtain rfl := Option.some.inj H
                  go_wp2_with (first | (go_at_call 16; (with_reducible refine (busbarref03_High.calls (wrap64 (a0)) x12_2 t239 _ A33.out).mono ?_); rintro e w' ⟨rfl, ⟨nd, rfl⟩⟩; (try first | exact ⟨rfl, _, World.drewN_drewN _ _ _⟩ | exact ⟨rfl, _, Eq.trans (World.drewN_drewN _ _ _) (congrArg (World.drewN _) (Nat.add_assoc _ _ _))⟩)) | (go_at_call 17; (with_reducible refine (wires_Lines_High.calls t238 x12_2 t240 _ A35.out).mono ?_); rintro e w' ⟨rfl, ⟨nd, rfl⟩⟩; (try first | exact ⟨rfl, _, World.drewN_drewN _ _ _⟩ | exact ⟨rfl, _, Eq.trans (World.drewN_drewN _ _ _) (congrArg (World.drewN _) (Nat.add_assoc _ _ _))⟩)))
                  repeat (go_quiet (first | (go_at_call 16; (with_reducible refine (busbarref03_High.calls (wrap64 (a0)) x12_2 t239 _ A33.out).mono ?_); rintro e w' ⟨rfl, ⟨nd, rfl⟩⟩; (try first | exact ⟨rfl, _, World.drewN_drewN _ _ _⟩ | exact ⟨rfl, _, Eq.trans (World.drewN_drewN _ _ _) (congrArg (World.drewN _) (Nat.add_assoc _ _ _))⟩)) | (go_at_call 17; (with_reducible refine (wires_Lines_High.calls t238 x12_2 t240 _ A35.out).mono ?_); rintro e w' ⟨rfl, ⟨nd, rfl⟩⟩; (try first | exact ⟨rfl, _, World.drewN_drewN _ _ _⟩ | exact ⟨rfl, _, Eq.trans (World.drewN_drewN _ _ _) (congrArg (World.drewN _) (Nat.add_assoc _ _ _))⟩))); try go_wp2_with (first | (go_at_call 16; (with_reducible refine (busbarref03_High.calls (wrap64 (a0)) x12_2 t239 _ A33.out).mono ?_); rintro e w' ⟨rfl, ⟨nd, rfl⟩⟩; (try first | exact ⟨rfl, _, World.drewN_drewN _ _ _⟩ | exact ⟨rfl, _, Eq.trans (World.drewN_drewN _ _ _) (congrArg (World.drewN _) (Nat.add_assoc _ _ _))⟩)) | (go_at_call 17; (with_reducible refine (wires_Lines_High.calls t238 x12_2 t240 _ A35.out).mono ?_); rintro e w' ⟨rfl, ⟨nd, rfl⟩⟩; (try first | exact ⟨rfl, _, World.drewN_drewN _ _ _⟩ | exact ⟨rfl, _, Eq.trans (World.drewN_drewN _ _ _) (congrArg (World.drewN _) (Nat.add_assoc _ _ _))⟩))))
                  go_ret
                  exact ⟨by first | rfl | (simp [errW_none, errW_some] <;> rfl) | (simp [*, errW_none, errW_some] <;> rfl), by repeat (first | (with_reducible first | exact HB.out | apply below_alloc | apply pw_below_drewN | apply below_drew1 | refine below_set ?_ GE235.out) | exact HB.out)⟩
                · rw [if_neg c36] at H
                  have c36b0 : (t240 != a2) = false := by simpa using c36
                  (try (have c36b1 : decide (t240 = a2) = true := by simpa using c36))
                  (try (have c36b2 : (t240 == a2) = true := by simpa using c36))
                  (try (have c36b3 : (!(t240 == a2)) = false := by have h_ := c36; simp only [bne] at h_; first | exact h_ | simpa using h_))
                  clear c36
                  have H' := Aside0.mk H
                  clear H
                  go_wp2_with (first | (go_at_call 16; (with_reducible refine (busbarref03_High.calls (wrap64 (a0)) x12_2 t239 _ A33.out).mono ?_); rintro e w' ⟨rfl, ⟨nd, rfl⟩⟩; (try first | exact ⟨rfl, _, World.drewN_drewN _ _ _⟩ | exact ⟨rfl, _, Eq.trans (World.drewN_drewN _ _ _) (congrArg (World.drewN _) (Nat.add_assoc _ _ _))⟩)) | (go_at_call 17; (with_reducible refine (wires_Lines_High.calls t238 x12_2 t240 _ A35.out).mono ?_); rintro e w' ⟨rfl, ⟨nd, rfl⟩⟩; (try first | exact ⟨rfl, _, World.drewN_drewN _ _ _⟩ | exact ⟨rfl, _, Eq.trans (World.drewN_drewN _ _ _) (congrArg (World.drewN _) (Nat.add_assoc _ _ _))⟩)))
                  repeat (go_quiet (first | (go_at_call 16; (with_reducible refine (busbarref03_High.calls (wrap64 (a0)) x12_2 t239 _ A33.out).mono ?_); rintro e w' ⟨rfl, ⟨nd, rfl⟩⟩; (try first | exact ⟨rfl, _, World.drewN_drewN _ _ _⟩ | exact ⟨rfl, _, Eq.trans (World.drewN_drewN _ _ _) (congrArg (World.drewN _) (Nat.add_assoc _ _ _))⟩)) | (go_at_call 17; (with_reducible refine (wires_Lines_High.calls t238 x12_2 t240 _ A35.out).mono ?_); rintro e w' ⟨rfl, ⟨nd, rfl⟩⟩; (try first | exact ⟨rfl, _, World.drewN_drewN _ _ _⟩ | exact ⟨rfl, _, Eq.trans (World.drewN_drewN _ _ _) (congrArg (World.drewN _) (Nat.add_assoc _ _ _))⟩))); try go_wp2_with (first | (go_at_call 16; (with_reducible refine (busbarref03_High.calls (wrap64 (a0)) x12_2 t239 _ A33.out).mono ?_); rintro e w' ⟨rfl, ⟨nd, rfl⟩⟩; (try first | exact ⟨rfl, _, World.drewN_drewN _ _ _⟩ | exact ⟨rfl, _, Eq.trans (World.drewN_drewN _ _ _) (congrArg (World.drewN _) (Nat.add_assoc _ _ _))⟩)) | (go_at_call 17; (with_reducible refine (wires_Lines_High.calls t238 x12_2 t240 _ A35.out).mono ?_); rintro e w' ⟨rfl, ⟨nd, rfl⟩⟩; (try first | exact ⟨rfl, _, World.drewN_drewN _ _ _⟩ | exact ⟨rfl, _, Eq.trans (World.drewN_drewN _ _ _) (congrArg (World.drewN _) (Nat.add_assoc _ _ _))⟩))))
                  go_roundg k2
                  case measure => have := HK1.out; have := HK2.out; omega
                  case rel => exact ⟨(wrap64 (x12_2 + 1)), (by first | rfl | (simp; done) | (simp [*]; done)), H', ⟨by have := HK1.out; have := HK2.out; omega⟩, ⟨by (with_reducible repeat (first | refine blk_drewN ?_ _ | refine blk_drew ?_ | refine blk_alloc ?_ _)); exact BK235.out⟩, ⟨by repeat (first | (with_reducible first | exact HB.out | apply below_alloc | apply pw_below_drewN | apply below_drew1 | refine below_set ?_ GE235.out) | exact HB.out)⟩⟩
              · rw [if_neg c34] at H
                have c34b0 : (x12_2 == a1) = false := beq_eq_false_iff_ne.mpr c34
                have c34b1 : (x12_2 != a1) = true := bne_iff_ne.mpr c34
                replace H := Option.bind_eq_some_iff.mp H
                obtain ⟨t241, A370, H⟩ := H
                replace H : (if (t241 != t239) = true then (some false) else (busbarlaw03_WiresTell.l1 k2 a0 a1 a2 (wrap64 (a0)) t238 (wrap64 (x12_2 + 1)))) = some r := H
                have A37 := Aside0.mk A370
                clear A370
                by_cases c38 : (t241 != t239) = true
                · rw [if_pos c38] at H
                  have c38b0 : (t241 != t239) = true := c38
                  (try (have c38b1 : decide (t241 = t239) = false := by simpa using c38))
                  (try (have c38b2 : (t241 == t239) = false := by simpa using c38))
                  (try (have c38b3 : ¬ (t241 = t239) := by simpa using c38))
                  (try (have c38b4 : (!(t241 == t239)) = true := by have h_ := c38; simp only [bne] at h_; first | exact h_ | simpa using h_))
                  clear c38
                  obtain rfl := Option.some.inj H
                  go_wp2_with (first | (go_at_call 16; (with_reducible refine (busbarref03_High.calls (wrap64 (a0)) x12_2 t239 _ A33.out).mono ?_); rintro e w' ⟨rfl, ⟨nd, rfl⟩⟩; (try first | exact ⟨rfl, _, World.drewN_drewN _ _ _⟩ | exact ⟨rfl, _, Eq.trans (World.drewN_drewN _ _ _) (congrArg (World.drewN _) (Nat.add_assoc _ _ _))⟩)) | (go_at_call 17; (with_reducible refine (wires_Lines_High.calls t238 x12_2 t241 _ A37.out).mono ?_); rintro e w' ⟨rfl, ⟨nd, rfl⟩⟩; (try first | exact ⟨rfl, _, World.drewN_drewN _ _ _⟩ | exact ⟨rfl, _, Eq.trans (World.drewN_drewN _ _ _) (congrArg (World.drewN _) (Nat.add_assoc _ _ _))⟩)))
                  repeat (go_quiet (first | (go_at_call 16; (with_reducible refine (busbarref03_High.calls (wrap64 (a0)) x12_2 t239 _ A33.out).mono ?_); rintro e w' ⟨rfl, ⟨nd, rfl⟩⟩; (try first | exact ⟨rfl, _, World.drewN_drewN _ _ _⟩ | exact ⟨rfl, _, Eq.trans (World.drewN_drewN _ _ _) (congrArg (World.drewN _) (Nat.add_assoc _ _ _))⟩)) | (go_at_call 17; (with_reducible refine (wires_Lines_High.calls t238 x12_2 t241 _ A37.out).mono ?_); rintro e w' ⟨rfl, ⟨nd, rfl⟩⟩; (try first | exact ⟨rfl, _, World.drewN_drewN _ _ _⟩ | exact ⟨rfl, _, Eq.trans (World.drewN_drewN _ _ _) (congrArg (World.drewN _) (Nat.add_assoc _ _ _))⟩))); try go_wp2_with (first | (go_at_call 16; (with_reducible refine (busbarref03_High.calls (wrap64 (a0)) x12_2 t239 _ A33.out).mono ?_); rintro e w' ⟨rfl, ⟨nd, rfl⟩⟩; (try first | exact ⟨rfl, _, World.drewN_drewN _ _ _⟩ | exact ⟨rfl, _, Eq.trans (World.drewN_drewN _ _ _) (congrArg (World.drewN _) (Nat.add_assoc _ _ _))⟩)) | (go_at_call 17; (with_reducible refine (wires_Lines_High.calls t238 x12_2 t241 _ A37.out).mono ?_); rintro e w' ⟨rfl, ⟨nd, rfl⟩⟩; (try first | exact ⟨rfl, _, World.drewN_drewN _ _ _⟩ | exact ⟨rfl, _, Eq.trans (World.drewN_drewN _ _ _) (congrArg (World.drewN _) (Nat.add_assoc _ _ _))⟩))))
                  go_ret
                  exact ⟨by first | rfl | (simp [errW_none, errW_some] <;> rfl) | (simp [*, errW_none, errW_some] <;> rfl), by repeat (first | (with_reducible first | exact HB.out | apply below_alloc | apply pw_below_drewN | apply below_drew1 | refine below_set ?_ GE235.out) | exact HB.out)⟩
                · rw [if_neg c38] at H
                  have c38b0 : (t241 != t239) = false := by simpa using c38
                  (try (have c38b1 : decide (t241 = t239) = true := by simpa using c38))
                  (try (have c38b2 : (t241 == t239) = true := by simpa using c38))
                  (try (have c38b3 : (!(t241 == t239)) = false := by have h_ := c38; simp only [bne] at h_; first | exact h_ | simpa using h_))
                  clear c38
                  have H' := Aside0.mk H
                  clear H
                  go_wp2_with (first | (go_at_call 16; (with_reducible refine (busbarref03_High.calls (wrap64 (a0)) x12_2 t239 _ A33.out).mono ?_); rintro e w' ⟨rfl, ⟨nd, rfl⟩⟩; (try first | exact ⟨rfl, _, World.drewN_drewN _ _ _⟩ | exact ⟨rfl, _, Eq.trans (World.drewN_drewN _ _ _) (congrArg (World.drewN _) (Nat.add_assoc _ _ _))⟩)) | (go_at_call 17; (with_reducible refine (wires_Lines_High.calls t238 x12_2 t241 _ A37.out).mono ?_); rintro e w' ⟨rfl, ⟨nd, rfl⟩⟩; (try first | exact ⟨rfl, _, World.drewN_drewN _ _ _⟩ | exact ⟨rfl, _, Eq.trans (World.drewN_drewN _ _ _) (congrArg (World.drewN _) (Nat.add_assoc _ _ _))⟩)))
                  repeat (go_quiet (first | (go_at_call 16; (with_reducible refine (busbarref03_High.calls (wrap64 (a0)) x12_2 t239 _ A33.out).mono ?_); rintro e w' ⟨rfl, ⟨nd, rfl⟩⟩; (try first | exact ⟨rfl, _, World.drewN_drewN _ _ _⟩ | exact ⟨rfl, _, Eq.trans (World.drewN_drewN _ _ _) (congrArg (World.drewN _) (Nat.add_assoc _ _ _))⟩)) | (go_at_call 17; (with_reducible refine (wires_Lines_High.calls t238 x12_2 t241 _ A37.out).mono ?_); rintro e w' ⟨rfl, ⟨nd, rfl⟩⟩; (try first | exact ⟨rfl, _, World.drewN_drewN _ _ _⟩ | exact ⟨rfl, _, Eq.trans (World.drewN_drewN _ _ _) (congrArg (World.drewN _) (Nat.add_assoc _ _ _))⟩))); try go_wp2_with (first | (go_at_call 16; (with_reducible refine (busbarref03_High.calls (wrap64 (a0)) x12_2 t239 _ A33.out).mono ?_); rintro e w' ⟨rfl, ⟨nd, rfl⟩⟩; (try first | exact ⟨rfl, _, World.drewN_drewN _ _ _⟩ | exact ⟨rfl, _, Eq.trans (World.drewN_drewN _ _ _) (congrArg (World.drewN _) (Nat.add_assoc _ _ _))⟩)) | (go_at_call 17; (with_reducible refine (wires_Lines_High.calls t238 x12_2 t241 _ A37.out).mono ?_); rintro e w' ⟨rfl, ⟨nd, rfl⟩⟩; (try first | exact ⟨rfl, _, World.drewN_drewN _ _ _⟩ | exact ⟨rfl, _, Eq.trans (World.drewN_drewN _ _ _) (congrArg (World.drewN _) (Nat.add_assoc _ _ _))⟩))))
                  go_roundg k2
                  case measure => have := HK1.out; have := HK2.out; omega
                  case rel => exact ⟨(wrap64 (x12_2 + 1)), (by first | rfl | (simp; done) | (simp [*]; done)), H', ⟨by have := HK1.out; have := HK2.out; omega⟩, ⟨by (with_reducible repeat (first | refine blk_drewN ?_ _ | refine blk_drew ?_ | refine blk_alloc ?_ _)); exact BK235.out⟩, ⟨by repeat (first | (with_reducible first | exact HB.out | apply below_alloc | apply pw_below_drewN | apply below_drew1 | refine below_set ?_ GE235.out) | exact HB.out)⟩⟩
            · rw [if_neg c32] at H
              have c32b0 : decide (x12_2 < 4) = false := decide_eq_false c32
              (try (have c32b1 : decide ((4 : Int) ≤ x12_2) = true := decide_eq_true (Int.not_lt.mp c32)))
              clear c32
              replace H := Option.bind_eq_some_iff.mp H
              obtain ⟨t242, A390, H⟩ := H
              replace H : ((busbarref03_High.f (wrap64 (a0)) a1).bind fun t243 => (if (t242 == t243) = true then ((wires_Lines_Count.f a0).bind fun t244 => ((busbarref03_Count.f k2 (wrap64 (a0))).bind fun t245 => (if t244 = t245 then (if a1 ≥ 0 then (if a1 ≤ 3 then ((busbarlaw03_one.f).bind fun t246 => (some t246)) else (if t238 = a0 then ((busbarlaw03_one.f).bind fun t247 => (some t247)) else (some false))) else (if t238 = a0 then ((busbarlaw03_one.f).bind fun t248 => (some t248)) else (some false))) else (some false)))) else (some false))) = some r := H
              have A39 := Aside0.mk A390
              clear A390
              replace H := Option.bind_eq_some_iff.mp H
              obtain ⟨t243, A400, H⟩ := H
              replace H : (if (t242 == t243) = true then ((wires_Lines_Count.f a0).bind fun t244 => ((busbarref03_Count.f k2 (wrap64 (a0))).bind fun t245 => (if t244 = t245 then (if a1 ≥ 0 then (if a1 ≤ 3 then ((busbarlaw03_one.f).bind fun t246 => (some t246)) else (if t238 = a0 then ((busbarlaw03_one.f).bind fun t247 => (some t247)) else (some false))) else (if t238 = a0 then ((busbarlaw03_one.f).bind fun t248 => (some t248)) else (some false))) else (some false)))) else (some false)) = some r := H
              have A40 := Aside0.mk A400
              clear A400
              by_cases c41 : (t242 == t243) = true
              · rw [if_pos c41] at H
                have c41b0 : (t242 == t243) = true := c41
                (try (have c41b1 : decide (t242 = t243) = true := by simpa using c41))
                (try (have c41b2 : (t242 == t243) = true := by simpa using c41))
                clear c41
                replace H := Option.bind_eq_some_iff.mp H
                obtain ⟨t244, A420, H⟩ := H
                replace H : ((busbarref03_Count.f k2 (wrap64 (a0))).bind fun t245 => (if t244 = t245 then (if a1 ≥ 0 then (if a1 ≤ 3 then ((busbarlaw03_one.f).bind fun t246 => (some t246)) else (if t238 = a0 then ((busbarlaw03_one.f).bind fun t247 => (some t247)) else (some false))) else (if t238 = a0 then ((busbarlaw03_one.f).bind fun t248 => (some t248)) else (some false))) else (some false))) = some r := H
                have A42 := Aside0.mk A420
                clear A420
                replace H := Option.bind_eq_some_iff.mp H
                obtain ⟨t245, A430, H⟩ := H
                replace H : (if t244 = t245 then (if a1 ≥ 0 then (if a1 ≤ 3 then ((busbarlaw03_one.f).bind fun t246 => (some t246)) else (if t238 = a0 then ((busbarlaw03_one.f).bind fun t247 => (some t247)) else (some false))) else (if t238 = a0 then ((busbarlaw03_one.f).bind fun t248 => (some t248)) else (some false))) else (some false)) = some r := H
                have A43 := Aside0.mk A430
                clear A430
                by_cases c44 : t244 = t245
                · rw [if_pos c44] at H
                  have c44b0 : (t244 == t245) = true := beq_iff_eq.mpr c44
                  have c44b1 : (t244 != t245) = false := bne_eq_false_iff_eq.mpr c44
                  clear c44
                  by_cases c45 : a1 ≥ 0
                  · rw [if_pos c45] at H
                    have c45b0 : decide (0 ≤ a1) = true := decide_eq_true c45
                    (try (have c45b1 : decide ((a1 : Int) < 0) = false := decide_eq_false (Int.not_lt.mpr c45)))
                    clear c45
                    by_cases c46 : a1 ≤ 3
                    · rw [if_pos c46] at H
                      have c46b0 : decide (a1 ≤ 3) = true := decide_eq_true c46
                      (try (have c46b1 : decide ((3 : Int) < a1) = false := decide_eq_false (Int.not_lt.mpr c46)))
                      clear c46
                      replace H := Option.bind_eq_some_iff.mp H
                      obtain ⟨t246, A470, H⟩ := H
                      replace H : (some t246) = some r := H
                      have A47 := Aside0.mk A470
                      clear A470
                      obtain rfl := Option.some.inj H
                      go_wp2_with (first | (go_at_call 17; (with_reducible refine (wires_Lines_High.calls a0 a1 t242 _ A39.out).mono ?_); rintro e w' ⟨rfl, ⟨nd, rfl⟩⟩; (try first | exact ⟨rfl, _, World.drewN_drewN _ _ _⟩ | exact ⟨rfl, _, Eq.trans (World.drewN_drewN _ _ _) (congrArg (World.drewN _) (Nat.add_assoc _ _ _))⟩)) | (go_at_call 16; (with_reducible refine (busbarref03_High.calls (wrap64 (a0)) a1 t243 _ A40.out).mono ?_); rintro e w' ⟨rfl, ⟨nd, rfl⟩⟩; (try first | exact ⟨rfl, _, World.drewN_drewN _ _ _⟩ | exact ⟨rfl, _, Eq.trans (World.drewN_drewN _ _ _) (congrArg (World.drewN _) (Nat.add_assoc _ _ _))⟩)) | (go_at_call 23; (with_reducible refine (wires_Lines_Count.calls a0 t244 _ A42.out).mono ?_); rintro e w' ⟨rfl, ⟨nd, rfl⟩⟩; (try first | exact ⟨rfl, _, World.drewN_drewN _ _ _⟩ | exact ⟨rfl, _, Eq.trans (World.drewN_drewN _ _ _) (congrArg (World.drewN _) (Nat.add_assoc _ _ _))⟩)) | (go_at_call 30; (with_reducible refine (busbarref03_Count.calls k2 (wrap64 (a0)) t245 _ A43.out).mono ?_); rintro e w' ⟨rfl, ⟨nd, rfl⟩⟩; (try first | exact ⟨rfl, _, World.drewN_drewN _ _ _⟩ | exact ⟨rfl, _, Eq.trans (World.drewN_drewN _ _ _) (congrArg (World.drewN _) (Nat.add_assoc _ _ _))⟩)) | (go_at_call 22; (with_reducible refine (busbarlaw03_one.calls  t246 _ A47.out).mono ?_); rintro e w48 ⟨rfl, hb⟩; have n0_ := Aside0.mk (blk_below (g := gb235) (o := .cells #[.bool t231, .bool t232, .bool t233, .bool t234] 40 (0, 0)) (by (with_reducible repeat (first | refine blk_drewN ?_ _ | refine blk_drew ?_ | refine blk_alloc ?_ _)); exact BK235.out) hb); have n1_ := Aside0.mk (below_step (by repeat (first | (with_reducible first | exact HB.out | apply below_alloc | apply pw_below_drewN | apply below_drew1 | refine below_set ?_ GE235.out) | exact HB.out)) hb); clear BK235; clear HB; have BK235 := n0_; have HB := n1_; clear n0_ n1_; (try clear hb); (try clear hb2); (try clear hk); (try clear hi)))
                      repeat (go_quiet (first | (go_at_call 17; (with_reducible refine (wires_Lines_High.calls a0 a1 t242 _ A39.out).mono ?_); rintro e w' ⟨rfl, ⟨nd, rfl⟩⟩; (try first | exact ⟨rfl, _, World.drewN_drewN _ _ _⟩ | exact ⟨rfl, _, Eq.trans (World.drewN_drewN _ _ _) (congrArg (World.drewN _) (Nat.add_assoc _ _ _))⟩)) | (go_at_call 16; (with_reducible refine (busbarref03_High.calls (wrap64 (a0)) a1 t243 _ A40.out).mono ?_); rintro e w' ⟨rfl, ⟨nd, rfl⟩⟩; (try first | exact ⟨rfl, _, World.drewN_drewN _ _ _⟩ | exact ⟨rfl, _, Eq.trans (World.drewN_drewN _ _ _) (congrArg (World.drewN _) (Nat.add_assoc _ _ _))⟩)) | (go_at_call 23; (with_reducible refine (wires_Lines_Count.calls a0 t244 _ A42.out).mono ?_); rintro e w' ⟨rfl, ⟨nd, rfl⟩⟩; (try first | exact ⟨rfl, _, World.drewN_drewN _ _ _⟩ | exact ⟨rfl, _, Eq.trans (World.drewN_drewN _ _ _) (congrArg (World.drewN _) (Nat.add_assoc _ _ _))⟩)) | (go_at_call 30; (with_reducible refine (busbarref03_Count.calls k2 (wrap64 (a0)) t245 _ A43.out).mono ?_); rintro e w' ⟨rfl, ⟨nd, rfl⟩⟩; (try first | exact ⟨rfl, _, World.drewN_drewN _ _ _⟩ | exact ⟨rfl, _, Eq.trans (World.drewN_drewN _ _ _) (congrArg (World.drewN _) (Nat.add_assoc _ _ _))⟩)) | (go_at_call 22; (with_reducible refine (busbarlaw03_one.calls  t246 _ A47.out).mono ?_); rintro e w48 ⟨rfl, hb⟩; have n0_ := Aside0.mk (blk_below (g := gb235) (o := .cells #[.bool t231, .bool t232, .bool t233, .bool t234] 40 (0, 0)) (by (with_reducible repeat (first | refine blk_drewN ?_ _ | refine blk_drew ?_ | refine blk_alloc ?_ _)); exact BK235.out) hb); have n1_ := Aside0.mk (below_step (by repeat (first | (with_reducible first | exact HB.out | apply below_alloc | apply pw_below_drewN | apply below_drew1 | refine below_set ?_ GE235.out) | exact HB.out)) hb); clear BK235; clear HB; have BK235 := n0_; have HB := n1_; clear n0_ n1_; (try clear hb); (try clear hb2); (try clear hk); (try clear hi))); try go_wp2_with (first | (go_at_call 17; (with_reducible refine (wires_Lines_High.calls a0 a1 t242 _ A39.out).mono ?_); rintro e w' ⟨rfl, ⟨nd, rfl⟩⟩; (try first | exact ⟨rfl, _, World.drewN_drewN _ _ _⟩ | exact ⟨rfl, _, Eq.trans (World.drewN_drewN _ _ _) (congrArg (World.drewN _) (Nat.add_assoc _ _ _))⟩)) | (go_at_call 16; (with_reducible refine (busbarref03_High.calls (wrap64 (a0)) a1 t243 _ A40.out).mono ?_); rintro e w' ⟨rfl, ⟨nd, rfl⟩⟩; (try first | exact ⟨rfl, _, World.drewN_drewN _ _ _⟩ | exact ⟨rfl, _, Eq.trans (World.drewN_drewN _ _ _) (congrArg (World.drewN _) (Nat.add_assoc _ _ _))⟩)) | (go_at_call 23; (with_reducible refine (wires_Lines_Count.calls a0 t244 _ A42.out).mono ?_); rintro e w' ⟨rfl, ⟨nd, rfl⟩⟩; (try first | exact ⟨rfl, _, World.drewN_drewN _ _ _⟩ | exact ⟨rfl, _, Eq.trans (World.drewN_drewN _ _ _) (congrArg (World.drewN _) (Nat.add_assoc _ _ _))⟩)) | (go_at_call 30; (with_reducible refine (busbarref03_Count.calls k2 (wrap64 (a0)) t245 _ A43.out).mono ?_); rintro e w' ⟨rfl, ⟨nd, rfl⟩⟩; (try first | exact ⟨rfl, _, World.drewN_drewN _ _ _⟩ | exact ⟨rfl, _, Eq.trans (World.drewN_drewN _ _ _) (congrArg (World.drewN _) (Nat.add_assoc _ _ _))⟩)) | (go_at_call 22; (with_reducible refine (busbarlaw03_one.calls  t246 _ A47.out).mono ?_); rintro e w48 ⟨rfl, hb⟩; have n0_ := Aside0.mk (blk_below (g := gb235) (o := .cells #[.bool t231, .bool t232, .bool t233, .bool t234] 40 (0, 0)) (by (with_reducible repeat (first | refine blk_drewN ?_ _ | refine blk_drew ?_ | refine blk_alloc ?_ _)); exact BK235.out) hb); have n1_ := Aside0.mk (below_step (by repeat (first | (with_reducible first | exact HB.out | apply below_alloc | apply pw_below_drewN | apply below_drew1 | refine below_set ?_ GE235.out) | exact HB.out)) hb); clear BK235; clear HB; have BK235 := n0_; have HB := n1_; clear n0_ n1_; (try clear hb); (try clear hb2); (try clear hk); (try clear hi))))
                      go_ret
                      exact ⟨by first | rfl | (simp [errW_none, errW_some] <;> rfl) | (simp [*, errW_none, errW_some] <;> rfl), by repeat (first | (with_reducible first | exact HB.out | apply below_alloc | apply pw_below_drewN | apply below_drew1 | refine below_set ?_ GE235.out) | exact HB.out)⟩
                    · rw [if_neg c46] at H
                      have c46b0 : decide (a1 ≤ 3) = false := decide_eq_false c46
                      (try (have c46b1 : decide ((3 : Int) < a1) = true := decide_eq_true (Int.not_le.mp c46)))
                      clear c46
                      by_cases c49 : t238 = a0
                      · rw [if_pos c49] at H
                        have c49b0 : (t238 == a0) = true := beq_iff_eq.mpr c49
                        have c49b1 : (t238 != a0) = false := bne_eq_false_iff_eq.mpr c49
                        clear c49
                        replace H := Option.bind_eq_some_iff.mp H
                        obtain ⟨t247, A500, H⟩ := H
                        replace H : (some t247) = some r := H
                        have A50 := Aside0.mk A500
                        clear A500
                        obtain rfl := Option.some.inj H
                        go_wp2_with (first | (go_at_call 17; (with_reducible refine (wires_Lines_High.calls a0 a1 t242 _ A39.out).mono ?_); rintro e w' ⟨rfl, ⟨nd, rfl⟩⟩; (try first | exact ⟨rfl, _, World.drewN_drewN _ _ _⟩ | exact ⟨rfl, _, Eq.trans (World.drewN_drewN _ _ _) (congrArg (World.drewN _) (Nat.add_assoc _ _ _))⟩)) | (go_at_call 16; (with_reducible refine (busbarref03_High.calls (wrap64 (a0)) a1 t243 _ A40.out).mono ?_); rintro e w' ⟨rfl, ⟨nd, rfl⟩⟩; (try first | exact ⟨rfl, _, World.drewN_drewN _ _ _⟩ | exact ⟨rfl, _, Eq.trans (World.drewN_drewN _ _ _) (congrArg (World.drewN _) (Nat.add_assoc _ _ _))⟩)) | (go_at_call 23; (with_reducible refine (wires_Lines_Count.calls a0 t244 _ A42.out).mono ?_); rintro e w' ⟨rfl, ⟨nd, rfl⟩⟩; (try first | exact ⟨rfl, _, World.drewN_drewN _ _ _⟩ | exact ⟨rfl, _, Eq.trans (World.drewN_drewN _ _ _) (congrArg (World.drewN _) (Nat.add_assoc _ _ _))⟩)) | (go_at_call 30; (with_reducible refine (busbarref03_Count.calls k2 (wrap64 (a0)) t245 _ A43.out).mono ?_); rintro e w' ⟨rfl, ⟨nd, rfl⟩⟩; (try first | exact ⟨rfl, _, World.drewN_drewN _ _ _⟩ | exact ⟨rfl, _, Eq.trans (World.drewN_drewN _ _ _) (congrArg (World.drewN _) (Nat.add_assoc _ _ _))⟩)) | (go_at_call 22; (with_reducible refine (busbarlaw03_one.calls  t247 _ A50.out).mono ?_); rintro e w51 ⟨rfl, hb⟩; have n0_ := Aside0.mk (blk_below (g := gb235) (o := .cells #[.bool t231, .bool t232, .bool t233, .bool t234] 40 (0, 0)) (by (with_reducible repeat (first | refine blk_drewN ?_ _ | refine blk_drew ?_ | refine blk_alloc ?_ _)); exact BK235.out) hb); have n1_ := Aside0.mk (below_step (by repeat (first | (with_reducible first | exact HB.out | apply below_alloc | apply pw_below_drewN | apply below_drew1 | refine below_set ?_ GE235.out) | exact HB.out)) hb); clear BK235; clear HB; have BK235 := n0_; have HB := n1_; clear n0_ n1_; (try clear hb); (try clear hb2); (try clear hk); (try clear hi)))
                        repeat (go_quiet (first | (go_at_call 17; (with_reducible refine (wires_Lines_High.calls a0 a1 t242 _ A39.out).mono ?_); rintro e w' ⟨rfl, ⟨nd, rfl⟩⟩; (try first | exact ⟨rfl, _, World.drewN_drewN _ _ _⟩ | exact ⟨rfl, _, Eq.trans (World.drewN_drewN _ _ _) (congrArg (World.drewN _) (Nat.add_assoc _ _ _))⟩)) | (go_at_call 16; (with_reducible refine (busbarref03_High.calls (wrap64 (a0)) a1 t243 _ A40.out).mono ?_); rintro e w' ⟨rfl, ⟨nd, rfl⟩⟩; (try first | exact ⟨rfl, _, World.drewN_drewN _ _ _⟩ | exact ⟨rfl, _, Eq.trans (World.drewN_drewN _ _ _) (congrArg (World.drewN _) (Nat.add_assoc _ _ _))⟩)) | (go_at_call 23; (with_reducible refine (wires_Lines_Count.calls a0 t244 _ A42.out).mono ?_); rintro e w' ⟨rfl, ⟨nd, rfl⟩⟩; (try first | exact ⟨rfl, _, World.drewN_drewN _ _ _⟩ | exact ⟨rfl, _, Eq.trans (World.drewN_drewN _ _ _) (congrArg (World.drewN _) (Nat.add_assoc _ _ _))⟩)) | (go_at_call 30; (with_reducible refine (busbarref03_Count.calls k2 (wrap64 (a0)) t245 _ A43.out).mono ?_); rintro e w' ⟨rfl, ⟨nd, rfl⟩⟩; (try first | exact ⟨rfl, _, World.drewN_drewN _ _ _⟩ | exact ⟨rfl, _, Eq.trans (World.drewN_drewN _ _ _) (congrArg (World.drewN _) (Nat.add_assoc _ _ _))⟩)) | (go_at_call 22; (with_reducible refine (busbarlaw03_one.calls  t247 _ A50.out).mono ?_); rintro e w51 ⟨rfl, hb⟩; have n0_ := Aside0.mk (blk_below (g := gb235) (o := .cells #[.bool t231, .bool t232, .bool t233, .bool t234] 40 (0, 0)) (by (with_reducible repeat (first | refine blk_drewN ?_ _ | refine blk_drew ?_ | refine blk_alloc ?_ _)); exact BK235.out) hb); have n1_ := Aside0.mk (below_step (by repeat (first | (with_reducible first | exact HB.out | apply below_alloc | apply pw_below_drewN | apply below_drew1 | refine below_set ?_ GE235.out) | exact HB.out)) hb); clear BK235; clear HB; have BK235 := n0_; have HB := n1_; clear n0_ n1_; (try clear hb); (try clear hb2); (try clear hk); (try clear hi))); try go_wp2_with (first | (go_at_call 17; (with_reducible refine (wires_Lines_High.calls a0 a1 t242 _ A39.out).mono ?_); rintro e w' ⟨rfl, ⟨nd, rfl⟩⟩; (try first | exact ⟨rfl, _, World.drewN_drewN _ _ _⟩ | exact ⟨rfl, _, Eq.trans (World.drewN_drewN _ _ _) (congrArg (World.drewN _) (Nat.add_assoc _ _ _))⟩)) | (go_at_call 16; (with_reducible refine (busbarref03_High.calls (wrap64 (a0)) a1 t243 _ A40.out).mono ?_); rintro e w' ⟨rfl, ⟨nd, rfl⟩⟩; (try first | exact ⟨rfl, _, World.drewN_drewN _ _ _⟩ | exact ⟨rfl, _, Eq.trans (World.drewN_drewN _ _ _) (congrArg (World.drewN _) (Nat.add_assoc _ _ _))⟩)) | (go_at_call 23; (with_reducible refine (wires_Lines_Count.calls a0 t244 _ A42.out).mono ?_); rintro e w' ⟨rfl, ⟨nd, rfl⟩⟩; (try first | exact ⟨rfl, _, World.drewN_drewN _ _ _⟩ | exact ⟨rfl, _, Eq.trans (World.drewN_drewN _ _ _) (congrArg (World.drewN _) (Nat.add_assoc _ _ _))⟩)) | (go_at_call 30; (with_reducible refine (busbarref03_Count.calls k2 (wrap64 (a0)) t245 _ A43.out).mono ?_); rintro e w' ⟨rfl, ⟨nd, rfl⟩⟩; (try first | exact ⟨rfl, _, World.drewN_drewN _ _ _⟩ | exact ⟨rfl, _, Eq.trans (World.drewN_drewN _ _ _) (congrArg (World.drewN _) (Nat.add_assoc _ _ _))⟩)) | (go_at_call 22; (with_reducible refine (busbarlaw03_one.calls  t247 _ A50.out).mono ?_); rintro e w51 ⟨rfl, hb⟩; have n0_ := Aside0.mk (blk_below (g := gb235) (o := .cells #[.bool t231, .bool t232, .bool t233, .bool t234] 40 (0, 0)) (by (with_reducible repeat (first | refine blk_drewN ?_ _ | refine blk_drew ?_ | refine blk_alloc ?_ _)); exact BK235.out) hb); have n1_ := Aside0.mk (below_step (by repeat (first | (with_reducible first | exact HB.out | apply below_alloc | apply pw_below_drewN | apply below_drew1 | refine below_set ?_ GE235.out) | exact HB.out)) hb); clear BK235; clear HB; have BK235 := n0_; have HB := n1_; clear n0_ n1_; (try clear hb); (try clear hb2); (try clear hk); (try clear hi))))
                        go_ret
                        exact ⟨by first | rfl | (simp [errW_none, errW_some] <;> rfl) | (simp [*, errW_none, errW_some] <;> rfl), by repeat (first | (with_reducible first | exact HB.out | apply below_alloc | apply pw_below_drewN | apply below_drew1 | refine below_set ?_ GE235.out) | exact HB.out)⟩
                      · rw [if_neg c49] at H
                        have c49b0 : (t238 == a0) = false := beq_eq_false_iff_ne.mpr c49
                        have c49b1 : (t238 != a0) = true := bne_iff_ne.mpr c49
                        obtain rfl := Option.some.inj H
                        go_wp2_with (first | (go_at_call 17; (with_reducible refine (wires_Lines_High.calls a0 a1 t242 _ A39.out).mono ?_); rintro e w' ⟨rfl, ⟨nd, rfl⟩⟩; (try first | exact ⟨rfl, _, World.drewN_drewN _ _ _⟩ | exact ⟨rfl, _, Eq.trans (World.drewN_drewN _ _ _) (congrArg (World.drewN _) (Nat.add_assoc _ _ _))⟩)) | (go_at_call 16; (with_reducible refine (busbarref03_High.calls (wrap64 (a0)) a1 t243 _ A40.out).mono ?_); rintro e w' ⟨rfl, ⟨nd, rfl⟩⟩; (try first | exact ⟨rfl, _, World.drewN_drewN _ _ _⟩ | exact ⟨rfl, _, Eq.trans (World.drewN_drewN _ _ _) (congrArg (World.drewN _) (Nat.add_assoc _ _ _))⟩)) | (go_at_call 23; (with_reducible refine (wires_Lines_Count.calls a0 t244 _ A42.out).mono ?_); rintro e w' ⟨rfl, ⟨nd, rfl⟩⟩; (try first | exact ⟨rfl, _, World.drewN_drewN _ _ _⟩ | exact ⟨rfl, _, Eq.trans (World.drewN_drewN _ _ _) (congrArg (World.drewN _) (Nat.add_assoc _ _ _))⟩)) | (go_at_call 30; (with_reducible refine (busbarref03_Count.calls k2 (wrap64 (a0)) t245 _ A43.out).mono ?_); rintro e w' ⟨rfl, ⟨nd, rfl⟩⟩; (try first | exact ⟨rfl, _, World.drewN_drewN _ _ _⟩ | exact ⟨rfl, _, Eq.trans (World.drewN_drewN _ _ _) (congrArg (World.drewN _) (Nat.add_assoc _ _ _))⟩)))
                        repeat (go_quiet (first | (go_at_call 17; (with_reducible refine (wires_Lines_High.calls a0 a1 t242 _ A39.out).mono ?_); rintro e w' ⟨rfl, ⟨nd, rfl⟩⟩; (try first | exact ⟨rfl, _, World.drewN_drewN _ _ _⟩ | exact ⟨rfl, _, Eq.trans (World.drewN_drewN _ _ _) (congrArg (World.drewN _) (Nat.add_assoc _ _ _))⟩)) | (go_at_call 16; (with_reducible refine (busbarref03_High.calls (wrap64 (a0)) a1 t243 _ A40.out).mono ?_); rintro e w' ⟨rfl, ⟨nd, rfl⟩⟩; (try first | exact ⟨rfl, _, World.drewN_drewN _ _ _⟩ | exact ⟨rfl, _, Eq.trans (World.drewN_drewN _ _ _) (congrArg (World.drewN _) (Nat.add_assoc _ _ _))⟩)) | (go_at_call 23; (with_reducible refine (wires_Lines_Count.calls a0 t244 _ A42.out).mono ?_); rintro e w' ⟨rfl, ⟨nd, rfl⟩⟩; (try first | exact ⟨rfl, _, World.drewN_drewN _ _ _⟩ | exact ⟨rfl, _, Eq.trans (World.drewN_drewN _ _ _) (congrArg (World.drewN _) (Nat.add_assoc _ _ _))⟩)) | (go_at_call 30; (with_reducible refine (busbarref03_Count.calls k2 (wrap64 (a0)) t245 _ A43.out).mono ?_); rintro e w' ⟨rfl, ⟨nd, rfl⟩⟩; (try first | exact ⟨rfl, _, World.drewN_drewN _ _ _⟩ | exact ⟨rfl, _, Eq.trans (World.drewN_drewN _ _ _) (congrArg (World.drewN _) (Nat.add_assoc _ _ _))⟩))); try go_wp2_with (first | (go_at_call 17; (with_reducible refine (wires_Lines_High.calls a0 a1 t242 _ A39.out).mono ?_); rintro e w' ⟨rfl, ⟨nd, rfl⟩⟩; (try first | exact ⟨rfl, _, World.drewN_drewN _ _ _⟩ | exact ⟨rfl, _, Eq.trans (World.drewN_drewN _ _ _) (congrArg (World.drewN _) (Nat.add_assoc _ _ _))⟩)) | (go_at_call 16; (with_reducible refine (busbarref03_High.calls (wrap64 (a0)) a1 t243 _ A40.out).mono ?_); rintro e w' ⟨rfl, ⟨nd, rfl⟩⟩; (try first | exact ⟨rfl, _, World.drewN_drewN _ _ _⟩ | exact ⟨rfl, _, Eq.trans (World.drewN_drewN _ _ _) (congrArg (World.drewN _) (Nat.add_assoc _ _ _))⟩)) | (go_at_call 23; (with_reducible refine (wires_Lines_Count.calls a0 t244 _ A42.out).mono ?_); rintro e w' ⟨rfl, ⟨nd, rfl⟩⟩; (try first | exact ⟨rfl, _, World.drewN_drewN _ _ _⟩ | exact ⟨rfl, _, Eq.trans (World.drewN_drewN _ _ _) (congrArg (World.drewN _) (Nat.add_assoc _ _ _))⟩)) | (go_at_call 30; (with_reducible refine (busbarref03_Count.calls k2 (wrap64 (a0)) t245 _ A43.out).mono ?_); rintro e w' ⟨rfl, ⟨nd, rfl⟩⟩; (try first | exact ⟨rfl, _, World.drewN_drewN _ _ _⟩ | exact ⟨rfl, _, Eq.trans (World.drewN_drewN _ _ _) (congrArg (World.drewN _) (Nat.add_assoc _ _ _))⟩))))
                        go_ret
                        exact ⟨by first | rfl | (simp [errW_none, errW_some] <;> rfl) | (simp [*, errW_none, errW_some] <;> rfl), by repeat (first | (with_reducible first | exact HB.out | apply below_alloc | apply pw_below_drewN | apply below_drew1 | refine below_set ?_ GE235.out) | exact HB.out)⟩
                  · rw [if_neg c45] at H
                    have c45b0 : decide (0 ≤ a1) = false := decide_eq_false c45
                    (try (have c45b1 : decide ((a1 : Int) < 0) = true := decide_eq_true (Int.not_le.mp c45)))
                    clear c45
                    by_cases c52 : t238 = a0
                    · rw [if_pos c52] at H
                      have c52b0 : (t238 == a0) = true := beq_iff_eq.mpr c52
                      have c52b1 : (t238 != a0) = false := bne_eq_false_iff_eq.mpr c52
                      clear c52
                      replace H := Option.bind_eq_some_iff.mp H
                      obtain ⟨t248, A530, H⟩ := H
                      replace H : (some t248) = some r := H
                      have A53 := Aside0.mk A530
                      clear A530
                      obtain rfl := Option.some.inj H
                      go_wp2_with (first | (go_at_call 17; (with_reducible refine (wires_Lines_High.calls a0 a1 t242 _ A39.out).mono ?_); rintro e w' ⟨rfl, ⟨nd, rfl⟩⟩; (try first | exact ⟨rfl, _, World.drewN_drewN _ _ _⟩ | exact ⟨rfl, _, Eq.trans (World.drewN_drewN _ _ _) (congrArg (World.drewN _) (Nat.add_assoc _ _ _))⟩)) | (go_at_call 16; (with_reducible refine (busbarref03_High.calls (wrap64 (a0)) a1 t243 _ A40.out).mono ?_); rintro e w' ⟨rfl, ⟨nd, rfl⟩⟩; (try first | exact ⟨rfl, _, World.drewN_drewN _ _ _⟩ | exact ⟨rfl, _, Eq.trans (World.drewN_drewN _ _ _) (congrArg (World.drewN _) (Nat.add_assoc _ _ _))⟩)) | (go_at_call 23; (with_reducible refine (wires_Lines_Count.calls a0 t244 _ A42.out).mono ?_); rintro e w' ⟨rfl, ⟨nd, rfl⟩⟩; (try first | exact ⟨rfl, _, World.drewN_drewN _ _ _⟩ | exact ⟨rfl, _, Eq.trans (World.drewN_drewN _ _ _) (congrArg (World.drewN _) (Nat.add_assoc _ _ _))⟩)) | (go_at_call 30; (with_reducible refine (busbarref03_Count.calls k2 (wrap64 (a0)) t245 _ A43.out).mono ?_); rintro e w' ⟨rfl, ⟨nd, rfl⟩⟩; (try first | exact ⟨rfl, _, World.drewN_drewN _ _ _⟩ | exact ⟨rfl, _, Eq.trans (World.drewN_drewN _ _ _) (congrArg (World.drewN _) (Nat.add_assoc _ _ _))⟩)) | (go_at_call 22; (with_reducible refine (busbarlaw03_one.calls  t248 _ A53.out).mono ?_); rintro e w54 ⟨rfl, hb⟩; have n0_ := Aside0.mk (blk_below (g := gb235) (o := .cells #[.bool t231, .bool t232, .bool t233, .bool t234] 40 (0, 0)) (by (with_reducible repeat (first | refine blk_drewN ?_ _ | refine blk_drew ?_ | refine blk_alloc ?_ _)); exact BK235.out) hb); have n1_ := Aside0.mk (below_step (by repeat (first | (with_reducible first | exact HB.out | apply below_alloc | apply pw_below_drewN | apply below_drew1 | refine below_set ?_ GE235.out) | exact HB.out)) hb); clear BK235; clear HB; have BK235 := n0_; have HB := n1_; clear n0_ n1_; (try clear hb); (try clear hb2); (try clear hk); (try clear hi)))
                      repeat (go_quiet (first | (go_at_call 17; (with_reducible refine (wires_Lines_High.calls a0 a1 t242 _ A39.out).mono ?_); rintro e w' ⟨rfl, ⟨nd, rfl⟩⟩; (try first | exact ⟨rfl, _, World.drewN_drewN _ _ _⟩ | exact ⟨rfl, _, Eq.trans (World.drewN_drewN _ _ _) (congrArg (World.drewN _) (Nat.add_assoc _ _ _))⟩)) | (go_at_call 16; (with_reducible refine (busbarref03_High.calls (wrap64 (a0)) a1 t243 _ A40.out).mono ?_); rintro e w' ⟨rfl, ⟨nd, rfl⟩⟩; (try first | exact ⟨rfl, _, World.drewN_drewN _ _ _⟩ | exact ⟨rfl, _, Eq.trans (World.drewN_drewN _ _ _) (congrArg (World.drewN _) (Nat.add_assoc _ _ _))⟩)) | (go_at_call 23; (with_reducible refine (wires_Lines_Count.calls a0 t244 _ A42.out).mono ?_); rintro e w' ⟨rfl, ⟨nd, rfl⟩⟩; (try first | exact ⟨rfl, _, World.drewN_drewN _ _ _⟩ | exact ⟨rfl, _, Eq.trans (World.drewN_drewN _ _ _) (congrArg (World.drewN _) (Nat.add_assoc _ _ _))⟩)) | (go_at_call 30; (with_reducible refine (busbarref03_Count.calls k2 (wrap64 (a0)) t245 _ A43.out).mono ?_); rintro e w' ⟨rfl, ⟨nd, rfl⟩⟩; (try first | exact ⟨rfl, _, World.drewN_drewN _ _ _⟩ | exact ⟨rfl, _, Eq.trans (World.drewN_drewN _ _ _) (congrArg (World.drewN _) (Nat.add_assoc _ _ _))⟩)) | (go_at_call 22; (with_reducible refine (busbarlaw03_one.calls  t248 _ A53.out).mono ?_); rintro e w54 ⟨rfl, hb⟩; have n0_ := Aside0.mk (blk_below (g := gb235) (o := .cells #[.bool t231, .bool t232, .bool t233, .bool t234] 40 (0, 0)) (by (with_reducible repeat (first | refine blk_drewN ?_ _ | refine blk_drew ?_ | refine blk_alloc ?_ _)); exact BK235.out) hb); have n1_ := Aside0.mk (below_step (by repeat (first | (with_reducible first | exact HB.out | apply below_alloc | apply pw_below_drewN | apply below_drew1 | refine below_set ?_ GE235.out) | exact HB.out)) hb); clear BK235; clear HB; have BK235 := n0_; have HB := n1_; clear n0_ n1_; (try clear hb); (try clear hb2); (try clear hk); (try clear hi))); try go_wp2_with (first | (go_at_call 17; (with_reducible refine (wires_Lines_High.calls a0 a1 t242 _ A39.out).mono ?_); rintro e w' ⟨rfl, ⟨nd, rfl⟩⟩; (try first | exact ⟨rfl, _, World.drewN_drewN _ _ _⟩ | exact ⟨rfl, _, Eq.trans (World.drewN_drewN _ _ _) (congrArg (World.drewN _) (Nat.add_assoc _ _ _))⟩)) | (go_at_call 16; (with_reducible refine (busbarref03_High.calls (wrap64 (a0)) a1 t243 _ A40.out).mono ?_); rintro e w' ⟨rfl, ⟨nd, rfl⟩⟩; (try first | exact ⟨rfl, _, World.drewN_drewN _ _ _⟩ | exact ⟨rfl, _, Eq.trans (World.drewN_drewN _ _ _) (congrArg (World.drewN _) (Nat.add_assoc _ _ _))⟩)) | (go_at_call 23; (with_reducible refine (wires_Lines_Count.calls a0 t244 _ A42.out).mono ?_); rintro e w' ⟨rfl, ⟨nd, rfl⟩⟩; (try first | exact ⟨rfl, _, World.drewN_drewN _ _ _⟩ | exact ⟨rfl, _, Eq.trans (World.drewN_drewN _ _ _) (congrArg (World.drewN _) (Nat.add_assoc _ _ _))⟩)) | (go_at_call 30; (with_reducible refine (busbarref03_Count.calls k2 (wrap64 (a0)) t245 _ A43.out).mono ?_); rintro e w' ⟨rfl, ⟨nd, rfl⟩⟩; (try first | exact ⟨rfl, _, World.drewN_drewN _ _ _⟩ | exact ⟨rfl, _, Eq.trans (World.drewN_drewN _ _ _) (congrArg (World.drewN _) (Nat.add_assoc _ _ _))⟩)) | (go_at_call 22; (with_reducible refine (busbarlaw03_one.calls  t248 _ A53.out).mono ?_); rintro e w54 ⟨rfl, hb⟩; have n0_ := Aside0.mk (blk_below (g := gb235) (o := .cells #[.bool t231, .bool t232, .bool t233, .bool t234] 40 (0, 0)) (by (with_reducible repeat (first | refine blk_drewN ?_ _ | refine blk_drew ?_ | refine blk_alloc ?_ _)); exact BK235.out) hb); have n1_ := Aside0.mk (below_step (by repeat (first | (with_reducible first | exact HB.out | apply below_alloc | apply pw_below_drewN | apply below_drew1 | refine below_set ?_ GE235.out) | exact HB.out)) hb); clear BK235; clear HB; have BK235 := n0_; have HB := n1_; clear n0_ n1_; (try clear hb); (try clear hb2); (try clear hk); (try clear hi))))
                      go_ret
                      exact ⟨by first | rfl | (simp [errW_none, errW_some] <;> rfl) | (simp [*, errW_none, errW_some] <;> rfl), by repeat (first | (with_reducible first | exact HB.out | apply below_alloc | apply pw_below_drewN | apply below_drew1 | refine below_set ?_ GE235.out) | exact HB.out)⟩
                    · rw [if_neg c52] at H
                      have c52b0 : (t238 == a0) = false := beq_eq_false_iff_ne.mpr c52
                      have c52b1 : (t238 != a0) = true := bne_iff_ne.mpr c52
                      obtain rfl := Option.some.inj H
                      go_wp2_with (first | (go_at_call 17; (with_reducible refine (wires_Lines_High.calls a0 a1 t242 _ A39.out).mono ?_); rintro e w' ⟨rfl, ⟨nd, rfl⟩⟩; (try first | exact ⟨rfl, _, World.drewN_drewN _ _ _⟩ | exact ⟨rfl, _, Eq.trans (World.drewN_drewN _ _ _) (congrArg (World.drewN _) (Nat.add_assoc _ _ _))⟩)) | (go_at_call 16; (with_reducible refine (busbarref03_High.calls (wrap64 (a0)) a1 t243 _ A40.out).mono ?_); rintro e w' ⟨rfl, ⟨nd, rfl⟩⟩; (try first | exact ⟨rfl, _, World.drewN_drewN _ _ _⟩ | exact ⟨rfl, _, Eq.trans (World.drewN_drewN _ _ _) (congrArg (World.drewN _) (Nat.add_assoc _ _ _))⟩)) | (go_at_call 23; (with_reducible refine (wires_Lines_Count.calls a0 t244 _ A42.out).mono ?_); rintro e w' ⟨rfl, ⟨nd, rfl⟩⟩; (try first | exact ⟨rfl, _, World.drewN_drewN _ _ _⟩ | exact ⟨rfl, _, Eq.trans (World.drewN_drewN _ _ _) (congrArg (World.drewN _) (Nat.add_assoc _ _ _))⟩)) | (go_at_call 30; (with_reducible refine (busbarref03_Count.calls k2 (wrap64 (a0)) t245 _ A43.out).mono ?_); rintro e w' ⟨rfl, ⟨nd, rfl⟩⟩; (try first | exact ⟨rfl, _, World.drewN_drewN _ _ _⟩ | exact ⟨rfl, _, Eq.trans (World.drewN_drewN _ _ _) (congrArg (World.drewN _) (Nat.add_assoc _ _ _))⟩)))
                      repeat (go_quiet (first | (go_at_call 17; (with_reducible refine (wires_Lines_High.calls a0 a1 t242 _ A39.out).mono ?_); rintro e w' ⟨rfl, ⟨nd, rfl⟩⟩; (try first | exact ⟨rfl, _, World.drewN_drewN _ _ _⟩ | exact ⟨rfl, _, Eq.trans (World.drewN_drewN _ _ _) (congrArg (World.drewN _) (Nat.add_assoc _ _ _))⟩)) | (go_at_call 16; (with_reducible refine (busbarref03_High.calls (wrap64 (a0)) a1 t243 _ A40.out).mono ?_); rintro e w' ⟨rfl, ⟨nd, rfl⟩⟩; (try first | exact ⟨rfl, _, World.drewN_drewN _ _ _⟩ | exact ⟨rfl, _, Eq.trans (World.drewN_drewN _ _ _) (congrArg (World.drewN _) (Nat.add_assoc _ _ _))⟩)) | (go_at_call 23; (with_reducible refine (wires_Lines_Count.calls a0 t244 _ A42.out).mono ?_); rintro e w' ⟨rfl, ⟨nd, rfl⟩⟩; (try first | exact ⟨rfl, _, World.drewN_drewN _ _ _⟩ | exact ⟨rfl, _, Eq.trans (World.drewN_drewN _ _ _) (congrArg (World.drewN _) (Nat.add_assoc _ _ _))⟩)) | (go_at_call 30; (with_reducible refine (busbarref03_Count.calls k2 (wrap64 (a0)) t245 _ A43.out).mono ?_); rintro e w' ⟨rfl, ⟨nd, rfl⟩⟩; (try first | exact ⟨rfl, _, World.drewN_drewN _ _ _⟩ | exact ⟨rfl, _, Eq.trans (World.drewN_drewN _ _ _) (congrArg (World.drewN _) (Nat.add_assoc _ _ _))⟩))); try go_wp2_with (first | (go_at_call 17; (with_reducible refine (wires_Lines_High.calls a0 a1 t242 _ A39.out).mono ?_); rintro e w' ⟨rfl, ⟨nd, rfl⟩⟩; (try first | exact ⟨rfl, _, World.drewN_drewN _ _ _⟩ | exact ⟨rfl, _, Eq.trans (World.drewN_drewN _ _ _) (congrArg (World.drewN _) (Nat.add_assoc _ _ _))⟩)) | (go_at_call 16; (with_reducible refine (busbarref03_High.calls (wrap64 (a0)) a1 t243 _ A40.out).mono ?_); rintro e w' ⟨rfl, ⟨nd, rfl⟩⟩; (try first | exact ⟨rfl, _, World.drewN_drewN _ _ _⟩ | exact ⟨rfl, _, Eq.trans (World.drewN_drewN _ _ _) (congrArg (World.drewN _) (Nat.add_assoc _ _ _))⟩)) | (go_at_call 23; (with_reducible refine (wires_Lines_Count.calls a0 t244 _ A42.out).mono ?_); rintro e w' ⟨rfl, ⟨nd, rfl⟩⟩; (try first | exact ⟨rfl, _, World.drewN_drewN _ _ _⟩ | exact ⟨rfl, _, Eq.trans (World.drewN_drewN _ _ _) (congrArg (World.drewN _) (Nat.add_assoc _ _ _))⟩)) | (go_at_call 30; (with_reducible refine (busbarref03_Count.calls k2 (wrap64 (a0)) t245 _ A43.out).mono ?_); rintro e w' ⟨rfl, ⟨nd, rfl⟩⟩; (try first | exact ⟨rfl, _, World.drewN_drewN _ _ _⟩ | exact ⟨rfl, _, Eq.trans (World.drewN_drewN _ _ _) (congrArg (World.drewN _) (Nat.add_assoc _ _ _))⟩))))
                      go_ret
                      exact ⟨by first | rfl | (simp [errW_none, errW_some] <;> rfl) | (simp [*, errW_none, errW_some] <;> rfl), by repeat (first | (with_reducible first | exact HB.out | apply below_alloc | apply pw_below_drewN | apply below_drew1 | refine below_set ?_ GE235.out) | exact HB.out)⟩
                · rw [if_neg c44] at H
                  have c44b0 : (t244 == t245) = false := beq_eq_false_iff_ne.mpr c44
                  have c44b1 : (t244 != t245) = true := bne_iff_ne.mpr c44
                  obtain rfl := Option.some.inj H
                  go_wp2_with (first | (go_at_call 17; (with_reducible refine (wires_Lines_High.calls a0 a1 t242 _ A39.out).mono ?_); rintro e w' ⟨rfl, ⟨nd, rfl⟩⟩; (try first | exact ⟨rfl, _, World.drewN_drewN _ _ _⟩ | exact ⟨rfl, _, Eq.trans (World.drewN_drewN _ _ _) (congrArg (World.drewN _) (Nat.add_assoc _ _ _))⟩)) | (go_at_call 16; (with_reducible refine (busbarref03_High.calls (wrap64 (a0)) a1 t243 _ A40.out).mono ?_); rintro e w' ⟨rfl, ⟨nd, rfl⟩⟩; (try first | exact ⟨rfl, _, World.drewN_drewN _ _ _⟩ | exact ⟨rfl, _, Eq.trans (World.drewN_drewN _ _ _) (congrArg (World.drewN _) (Nat.add_assoc _ _ _))⟩)) | (go_at_call 23; (with_reducible refine (wires_Lines_Count.calls a0 t244 _ A42.out).mono ?_); rintro e w' ⟨rfl, ⟨nd, rfl⟩⟩; (try first | exact ⟨rfl, _, World.drewN_drewN _ _ _⟩ | exact ⟨rfl, _, Eq.trans (World.drewN_drewN _ _ _) (congrArg (World.drewN _) (Nat.add_assoc _ _ _))⟩)) | (go_at_call 30; (with_reducible refine (busbarref03_Count.calls k2 (wrap64 (a0)) t245 _ A43.out).mono ?_); rintro e w' ⟨rfl, ⟨nd, rfl⟩⟩; (try first | exact ⟨rfl, _, World.drewN_drewN _ _ _⟩ | exact ⟨rfl, _, Eq.trans (World.drewN_drewN _ _ _) (congrArg (World.drewN _) (Nat.add_assoc _ _ _))⟩)))
                  repeat (go_quiet (first | (go_at_call 17; (with_reducible refine (wires_Lines_High.calls a0 a1 t242 _ A39.out).mono ?_); rintro e w' ⟨rfl, ⟨nd, rfl⟩⟩; (try first | exact ⟨rfl, _, World.drewN_drewN _ _ _⟩ | exact ⟨rfl, _, Eq.trans (World.drewN_drewN _ _ _) (congrArg (World.drewN _) (Nat.add_assoc _ _ _))⟩)) | (go_at_call 16; (with_reducible refine (busbarref03_High.calls (wrap64 (a0)) a1 t243 _ A40.out).mono ?_); rintro e w' ⟨rfl, ⟨nd, rfl⟩⟩; (try first | exact ⟨rfl, _, World.drewN_drewN _ _ _⟩ | exact ⟨rfl, _, Eq.trans (World.drewN_drewN _ _ _) (congrArg (World.drewN _) (Nat.add_assoc _ _ _))⟩)) | (go_at_call 23; (with_reducible refine (wires_Lines_Count.calls a0 t244 _ A42.out).mono ?_); rintro e w' ⟨rfl, ⟨nd, rfl⟩⟩; (try first | exact ⟨rfl, _, World.drewN_drewN _ _ _⟩ | exact ⟨rfl, _, Eq.trans (World.drewN_drewN _ _ _) (congrArg (World.drewN _) (Nat.add_assoc _ _ _))⟩)) | (go_at_call 30; (with_reducible refine (busbarref03_Count.calls k2 (wrap64 (a0)) t245 _ A43.out).mono ?_); rintro e w' ⟨rfl, ⟨nd, rfl⟩⟩; (try first | exact ⟨rfl, _, World.drewN_drewN _ _ _⟩ | exact ⟨rfl, _, Eq.trans (World.drewN_drewN _ _ _) (congrArg (World.drewN _) (Nat.add_assoc _ _ _))⟩))); try go_wp2_with (first | (go_at_call 17; (with_reducible refine (wires_Lines_High.calls a0 a1 t242 _ A39.out).mono ?_); rintro e w' ⟨rfl, ⟨nd, rfl⟩⟩; (try first | exact ⟨rfl, _, World.drewN_drewN _ _ _⟩ | exact ⟨rfl, _, Eq.trans (World.drewN_drewN _ _ _) (congrArg (World.drewN _) (Nat.add_assoc _ _ _))⟩)) | (go_at_call 16; (with_reducible refine (busbarref03_High.calls (wrap64 (a0)) a1 t243 _ A40.out).mono ?_); rintro e w' ⟨rfl, ⟨nd, rfl⟩⟩; (try first | exact ⟨rfl, _, World.drewN_drewN _ _ _⟩ | exact ⟨rfl, _, Eq.trans (World.drewN_drewN _ _ _) (congrArg (World.drewN _) (Nat.add_assoc _ _ _))⟩)) | (go_at_call 23; (with_reducible refine (wires_Lines_Count.calls a0 t244 _ A42.out).mono ?_); rintro e w' ⟨rfl, ⟨nd, rfl⟩⟩; (try first | exact ⟨rfl, _, World.drewN_drewN _ _ _⟩ | exact ⟨rfl, _, Eq.trans (World.drewN_drewN _ _ _) (congrArg (World.drewN _) (Nat.add_assoc _ _ _))⟩)) | (go_at_call 30; (with_reducible refine (busbarref03_Count.calls k2 (wrap64 (a0)) t245 _ A43.out).mono ?_); rintro e w' ⟨rfl, ⟨nd, rfl⟩⟩; (try first | exact ⟨rfl, _, World.drewN_drewN _ _ _⟩ | exact ⟨rfl, _, Eq.trans (World.drewN_drewN _ _ _) (congrArg (World.drewN _) (Nat.add_assoc _ _ _))⟩))))
                  go_ret
                  exact ⟨by first | rfl | (simp [errW_none, errW_some] <;> rfl) | (simp [*, errW_none, errW_some] <;> rfl), by repeat (first | (with_reducible first | exact HB.out | apply below_alloc | apply pw_below_drewN | apply below_drew1 | refine below_set ?_ GE235.out) | exact HB.out)⟩
              · rw [if_neg c41] at H
                have c41b0 : (t242 == t243) = false := by simpa using c41
                (try (have c41b1 : decide (t242 = t243) = false := by simpa using c41))
                (try (have c41b2 : (t242 == t243) = false := by simpa using c41))
                (try (have c41b3 : ¬ (t242 = t243) := by simpa using c41))
                clear c41
                obtain rfl := Option.some.inj H
                go_wp2_with (first | (go_at_call 17; (with_reducible refine (wires_Lines_High.calls a0 a1 t242 _ A39.out).mono ?_); rintro e w' ⟨rfl, ⟨nd, rfl⟩⟩; (try first | exact ⟨rfl, _, World.drewN_drewN _ _ _⟩ | exact ⟨rfl, _, Eq.trans (World.drewN_drewN _ _ _) (congrArg (World.drewN _) (Nat.add_assoc _ _ _))⟩)) | (go_at_call 16; (with_reducible refine (busbarref03_High.calls (wrap64 (a0)) a1 t243 _ A40.out).mono ?_); rintro e w' ⟨rfl, ⟨nd, rfl⟩⟩; (try first | exact ⟨rfl, _, World.drewN_drewN _ _ _⟩ | exact ⟨rfl, _, Eq.trans (World.drewN_drewN _ _ _) (congrArg (World.drewN _) (Nat.add_assoc _ _ _))⟩)))
                repeat (go_quiet (first | (go_at_call 17; (with_reducible refine (wires_Lines_High.calls a0 a1 t242 _ A39.out).mono ?_); rintro e w' ⟨rfl, ⟨nd, rfl⟩⟩; (try first | exact ⟨rfl, _, World.drewN_drewN _ _ _⟩ | exact ⟨rfl, _, Eq.trans (World.drewN_drewN _ _ _) (congrArg (World.drewN _) (Nat.add_assoc _ _ _))⟩)) | (go_at_call 16; (with_reducible refine (busbarref03_High.calls (wrap64 (a0)) a1 t243 _ A40.out).mono ?_); rintro e w' ⟨rfl, ⟨nd, rfl⟩⟩; (try first | exact ⟨rfl, _, World.drewN_drewN _ _ _⟩ | exact ⟨rfl, _, Eq.trans (World.drewN_drewN _ _ _) (congrArg (World.drewN _) (Nat.add_assoc _ _ _))⟩))); try go_wp2_with (first | (go_at_call 17; (with_reducible refine (wires_Lines_High.calls a0 a1 t242 _ A39.out).mono ?_); rintro e w' ⟨rfl, ⟨nd, rfl⟩⟩; (try first | exact ⟨rfl, _, World.drewN_drewN _ _ _⟩ | exact ⟨rfl, _, Eq.trans (World.drewN_drewN _ _ _) (congrArg (World.drewN _) (Nat.add_assoc _ _ _))⟩)) | (go_at_call 16; (with_reducible refine (busbarref03_High.calls (wrap64 (a0)) a1 t243 _ A40.out).mono ?_); rintro e w' ⟨rfl, ⟨nd, rfl⟩⟩; (try first | exact ⟨rfl, _, World.drewN_drewN _ _ _⟩ | exact ⟨rfl, _, Eq.trans (World.drewN_drewN _ _ _) (congrArg (World.drewN _) (Nat.add_assoc _ _ _))⟩))))
                go_ret
                exact ⟨by first | rfl | (simp [errW_none, errW_some] <;> rfl) | (simp [*, errW_none, errW_some] <;> rfl), by repeat (first | (with_reducible first | exact HB.out | apply below_alloc | apply pw_below_drewN | apply below_drew1 | refine below_set ?_ GE235.out) | exact HB.out)⟩

/-- THE ONE PURE STATEMENT of busbarlaw03_WiresTell: yours. -/
def busbarlaw03_WiresTell.Pure : Prop := ∀ (a0 : Int) (a1 : Int) (a2 : Bool), (Lit.int .u8 a0).wf = true → (Lit.int .i64 a1).wf = true → ∃ k, busbarlaw03_WiresTell.f k a0 a1 a2 = some true
theorem busbarlaw03_WiresTell.walk (P : busbarlaw03_WiresTell.Pure) (a0 : Int) (a1 : Int) (a2 : Bool) (w : World) (w0 : (Lit.int .u8 a0).wf = true) (w1 : (Lit.int .i64 a1).wf = true) :
    Calls Try.prog 6 #[.int .u8 a0, .int .i64 a1, .bool a2] w fun e w' => e = .returned (.bool true) ∧ Below w.heap.size w w' := by
  obtain ⟨k, h⟩ := P a0 a1 a2 w0 w1
  refine (busbarlaw03_WiresTell.calls k a0 a1 a2 true w h).mono ?_
  rintro e w' ⟨rfl, hd⟩
  exact ⟨rfl, hd⟩

end Go.Proofs.Ytbidfjngmiggpaa.Q
