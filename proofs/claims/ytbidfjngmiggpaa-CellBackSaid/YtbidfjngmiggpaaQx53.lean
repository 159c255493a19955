-- Written by a program of this session out of the translation. Not trusted: Lean checks it.
import Derived.Test.YtbidfjngmiggpaaQx0
import Derived.Test.YtbidfjngmiggpaaQx47
import Derived.Test.YtbidfjngmiggpaaQx50
import Derived.Test.YtbidfjngmiggpaaQx51
namespace Go.Proofs.Ytbidfjngmiggpaa.Q
open Go.RowKit Go.Proofs.YtbidfjngmiggpaaW.PrintWords Go.Proofs.YtbidfjngmiggpaaW.PrintLast Go.Proofs.YtbidfjngmiggpaaW.PrintMore
attribute [local go_sem] max2_int min2_int max_two min_two max_three min_three max_four min_four   -- for this text's walks alone
set_option linter.unusedVariables false
set_option linter.unusedSimpArgs false

/-! ### busbarlaw01_CellBack: function 13 -/
mutual
def busbarlaw01_CellBack.j0 : Nat → List Bool → List Bool → List Bool → Bool → Option (Bool)
  | 0, _, _, _, _ => none
  | k + 1, x0, x5, x6, x40 => if x40 = true then (some false) else (busbarlaw01_CellBack.l0 k x0 x5 x6 0 0)
def busbarlaw01_CellBack.l0 : Nat → List Bool → List Bool → List Bool → Int → Int → Option (Bool)
  | 0, _, _, _, _, _ => none
  | k + 1, x0, x5, x6, x8, x9 => if x9 < (x5.length : Int) then (if x9 > 0 then (if 0 ≤ x9 then (if 0 ≤ (wrap64 (x9 - 1)) then (if (wrap64 (x9 - 1)) < (x5.length : Int) then (busbarlaw01_CellBack.j2 k x0 x5 x6 x8 x9 ((rdOf false x5 x9) == (rdOf false x5 (wrap64 (x9 - 1))))) else (none)) else (none)) else (none)) else (busbarlaw01_CellBack.j2 k x0 x5 x6 x8 x9 false)) else (busbarlaw01_CellBack.l1 k x0 x6 0)
def busbarlaw01_CellBack.j2 : Nat → List Bool → List Bool → List Bool → Int → Int → Bool → Option (Bool)
  | 0, _, _, _, _, _, _ => none
  | k + 1, x0, x5, x6, x8, x9, x60 => if x60 = true then (if (wrap64 (x8 + 1)) > 20 then (some false) else (if (Int.tmod x9 20) = 0 then (if 0 ≤ x9 then (if x9 < (x5.length : Int) then (if 0 ≤ (wrap64 (Int.tdiv x9 20)) then (if (wrap64 (Int.tdiv x9 20)) < (x0.length : Int) then (if ((rdOf false x5 x9) != (rdOf false x0 (wrap64 (Int.tdiv x9 20)))) = true then (some false) else (busbarlaw01_CellBack.l0 k x0 x5 x6 (wrap64 (x8 + 1)) (wrap64 (x9 + 1)))) else (none)) else (none)) else (none)) else (none)) else (if (Int.tmod x9 20) = 19 then (if 0 ≤ x9 then (if x9 < (x5.length : Int) then (if 0 ≤ (wrap64 (Int.tdiv x9 20)) then (if (wrap64 (Int.tdiv x9 20)) < (x0.length : Int) then (if ((rdOf false x5 x9) == (rdOf false x0 (wrap64 (Int.tdiv x9 20)))) = true then (some false) else (busbarlaw01_CellBack.l0 k x0 x5 x6 (wrap64 (x8 + 1)) (wrap64 (x9 + 1)))) else (none)) else (none)) else (none)) else (none)) else (busbarlaw01_CellBack.l0 k x0 x5 x6 (wrap64 (x8 + 1)) (wrap64 (x9 + 1)))))) else (if (Int.tmod x9 20) = 0 then (if 0 ≤ x9 then (if x9 < (x5.length : Int) then (if 0 ≤ (wrap64 (Int.tdiv x9 20)) then (if (wrap64 (Int.tdiv x9 20)) < (x0.length : Int) then (if ((rdOf false x5 x9) != (rdOf false x0 (wrap64 (Int.tdiv x9 20)))) = true then (some false) else (busbarlaw01_CellBack.l0 k x0 x5 x6 1 (wrap64 (x9 + 1)))) else (none)) else (none)) else (none)) else (none)) else (if (Int.tmod x9 20) = 19 then (if 0 ≤ x9 then (if x9 < (x5.length : Int) then (if 0 ≤ (wrap64 (Int.tdiv x9 20)) then (if (wrap64 (Int.tdiv x9 20)) < (x0.length : Int) then (if ((rdOf false x5 x9) == (rdOf false x0 (wrap64 (Int.tdiv x9 20)))) = true then (some false) else (busbarlaw01_CellBack.l0 k x0 x5 x6 1 (wrap64 (x9 + 1)))) else (none)) else (none)) else (none)) else (none)) else (busbarlaw01_CellBack.l0 k x0 x5 x6 1 (wrap64 (x9 + 1)))))
def busbarlaw01_CellBack.l1 : Nat → List Bool → List Bool → Int → Option (Bool)
  | 0, _, _, _ => none
  | k + 1, x0, x6, x10 => if x10 < (x0.length : Int) then (if 0 ≤ x10 then (if x10 < (x6.length : Int) then (if ((rdOf false x6 x10) != (rdOf false x0 x10)) = true then (some false) else (busbarlaw01_CellBack.l1 k x0 x6 (wrap64 (x10 + 1)))) else (none)) else (none)) else ((busbarlaw01_one.f k).bind fun t361 => (some t361))
end
def busbarlaw01_CellBack.f (k : Nat) (l0 : List Bool) (a1 : Int) : Option (Bool) := if (l0.length : Int) > 200 then (some true) else ((cell_Wave.f k l0).bind fun t342 => (if (t342.length : Int) = (wrap64 (20 * (l0.length : Int))) then ((cell_Read.f k t342 (wrap64 ((Int.tmod (Go.bits .and .i64 a1 255) 10) - 5))).bind fun bt345 => (if bt345.2 = true then (busbarlaw01_CellBack.j0 k l0 t342 bt345.1 ((bt345.1.length : Int) != (l0.length : Int))) else (busbarlaw01_CellBack.j0 k l0 t342 bt345.1 true))) else (some false)))
theorem busbarlaw01_CellBack.mono_l : ∀ k, (∀ y0 y1 y2 y3, LeO (busbarlaw01_CellBack.j0 k y0 y1 y2 y3) (busbarlaw01_CellBack.j0 (k + 1) y0 y1 y2 y3)) ∧ (∀ y0 y1 y2 y3 y4, LeO (busbarlaw01_CellBack.l0 k y0 y1 y2 y3 y4) (busbarlaw01_CellBack.l0 (k + 1) y0 y1 y2 y3 y4)) ∧ (∀ y0 y1 y2 y3 y4 y5, LeO (busbarlaw01_CellBack.j2 k y0 y1 y2 y3 y4 y5) (busbarlaw01_CellBack.j2 (k + 1) y0 y1 y2 y3 y4 y5)) ∧ (∀ y0 y1 y2, LeO (busbarlaw01_CellBack.l1 k y0 y1 y2) (busbarlaw01_CellBack.l1 (k + 1) y0 y1 y2))
  | 0 => ⟨fun _ _ _ _ r h => by simp [busbarlaw01_CellBack.j0] at h, fun _ _ _ _ _ r h => by simp [busbarlaw01_CellBack.l0] at h, fun _ _ _ _ _ _ r h => by simp [busbarlaw01_CellBack.j2] at h, fun _ _ _ r h => by simp [busbarlaw01_CellBack.l1] at h⟩
  | k + 1 => by
    obtain ⟨ih0, ih1, ih2, ih3⟩ := busbarlaw01_CellBack.mono_l k
    refine ⟨?_, ?_, ?_, ?_⟩
    · intro y0 y1 y2 y3
      unfold busbarlaw01_CellBack.j0
      repeat' first
      | (with_reducible exact ih0 _ _ _ _)
      | (with_reducible exact ih1 _ _ _ _ _)
      | (with_reducible exact ih2 _ _ _ _ _ _)
      | (with_reducible exact ih3 _ _ _)
      | (with_reducible exact busbarlaw01_one.mono _)
      | (with_reducible exact cell_Read.mono _ _ _)
      | (with_reducible exact cell_Wave.mono _ _)
      | (with_reducible exact LeO.refl _)
      | (with_reducible exact LeO.none _)
      | (with_reducible refine LeO.ite ?_ ?_)
      | (with_reducible refine LeO.bind ?_ (fun _ => ?_))
      | exact ih0 _ _ _ _
      | exact ih1 _ _ _ _ _
      | exact ih2 _ _ _ _ _ _
      | exact ih3 _ _ _
      | exact busbarlaw01_one.mono _
      | exact cell_Read.mono _ _ _
      | exact cell_Wave.mono _ _
      | exact LeO.none _
      | refine LeO.ite ?_ ?_
      | refine LeO.bind ?_ (fun _ => ?_)
    · intro y0 y1 y2 y3 y4
      unfold busbarlaw01_CellBack.l0
      repeat' first
      | (with_reducible exact ih0 _ _ _ _)
      | (with_reducible exact ih1 _ _ _ _ _)
      | (with_reducible exact ih2 _ _ _ _ _ _)
      | (with_reducible exact ih3 _ _ _)
      | (with_reducible exact busbarlaw01_one.mono _)
      | (with_reducible exact cell_Read.mono _ _ _)
      | (with_reducible exact cell_Wave.mono _ _)
      | (with_reducible exact LeO.refl _)
      | (with_reducible exact LeO.none _)
      | (with_reducible refine LeO.ite ?_ ?_)
      | (with_reducible refine LeO.bind ?_ (fun _ => ?_))
      | exact ih0 _ _ _ _
      | exact ih1 _ _ _ _ _
      | exact ih2 _ _ _ _ _ _
      | exact ih3 _ _ _
      | exact busbarlaw01_one.mono _
      | exact cell_Read.mono _ _ _
      | exact cell_Wave.mono _ _
      | exact LeO.none _
      | refine LeO.ite ?_ ?_
      | refine LeO.bind ?_ (fun _ => ?_)
    · intro y0 y1 y2 y3 y4 y5
      unfold busbarlaw01_CellBack.j2
      repeat' first
      | (with_reducible exact ih0 _ _ _ _)
      | (with_reducible exact ih1 _ _ _ _ _)
      | (with_reducible exact ih2 _ _ _ _ _ _)
      | (with_reducible exact ih3 _ _ _)
      | (with_reducible exact busbarlaw01_one.mono _)
      | (with_reducible exact cell_Read.mono _ _ _)
      | (with_reducible exact cell_Wave.mono _ _)
      | (with_reducible exact LeO.refl _)
      | (with_reducible exact LeO.none _)
      | (with_reducible refine LeO.ite ?_ ?_)
      | (with_reducible refine LeO.bind ?_ (fun _ => ?_))
      | exact ih0 _ _ _ _
      | exact ih1 _ _ _ _ _
      | exact ih2 _ _ _ _ _ _
      | exact ih3 _ _ _
      | exact busbarlaw01_one.mono _
      | exact cell_Read.mono _ _ _
      | exact cell_Wave.mono _ _
      | exact LeO.none _
      | refine LeO.ite ?_ ?_
      | refine LeO.bind ?_ (fun _ => ?_)
    · intro y0 y1 y2
      unfold busbarlaw01_CellBack.l1
      repeat' first
      | (with_reducible exact ih0 _ _ _ _)
      | (with_reducible exact ih1 _ _ _ _ _)
      | (with_reducible exact ih2 _ _ _ _ _ _)
      | (with_reducible exact ih3 _ _ _)
      | (with_reducible exact busbarlaw01_one.mono _)
      | (with_reducible exact cell_Read.mono _ _ _)
      | (with_reducible exact cell_Wave.mono _ _)
      | (with_reducible exact LeO.refl _)
      | (with_reducible exact LeO.none _)
      | (with_reducible refine LeO.ite ?_ ?_)
      | (with_reducible refine LeO.bind ?_ (fun _ => ?_))
      | exact ih0 _ _ _ _
      | exact ih1 _ _ _ _ _
      | exact ih2 _ _ _ _ _ _
      | exact ih3 _ _ _
      | exact busbarlaw01_one.mono _
      | exact cell_Read.mono _ _ _
      | exact cell_Wave.mono _ _
      | exact LeO.none _
      | refine LeO.ite ?_ ?_
      | refine LeO.bind ?_ (fun _ => ?_)
theorem busbarlaw01_CellBack.mono : ∀ a0 a1 k, LeO (busbarlaw01_CellBack.f k a0 a1) (busbarlaw01_CellBack.f (k + 1) a0 a1) := by
  intro a0 a1 k
  obtain ⟨ih0, ih1, ih2, ih3⟩ := busbarlaw01_CellBack.mono_l k
  unfold busbarlaw01_CellBack.f
  repeat' first
      | (with_reducible exact ih0 _ _ _ _)
      | (with_reducible exact ih1 _ _ _ _ _)
      | (with_reducible exact ih2 _ _ _ _ _ _)
      | (with_reducible exact ih3 _ _ _)
      | (with_reducible exact busbarlaw01_one.mono _)
      | (with_reducible exact cell_Read.mono _ _ _)
      | (with_reducible exact cell_Wave.mono _ _)
      | (with_reducible exact LeO.refl _)
      | (with_reducible exact LeO.none _)
      | (with_reducible refine LeO.ite ?_ ?_)
      | (with_reducible refine LeO.bind ?_ (fun _ => ?_))
      | exact ih0 _ _ _ _
      | exact ih1 _ _ _ _ _
      | exact ih2 _ _ _ _ _ _
      | exact ih3 _ _ _
      | exact busbarlaw01_one.mono _
      | exact cell_Read.mono _ _ _
      | exact cell_Wave.mono _ _
      | exact LeO.none _
      | refine LeO.ite ?_ ?_
      | refine LeO.bind ?_ (fun _ => ?_)
set_option maxHeartbeats 8000000 in
set_option maxRecDepth 100000 in
theorem busbarlaw01_CellBack.calls (k : Nat) (A0 : Option Addr) (c0 : Nat) (l0 : List Bool) (a1 : Int) (r : Bool) (w : World) (hr0 : Kd.C Kd.bool w A0 l0.length l0) (hc0 : l0.length ≤ c0) (h : busbarlaw01_CellBack.f k l0 a1 = some r) :
    Calls Try.prog 13 #[.slice A0 l0.length c0, .int .i64 a1] w fun e w' => e = .returned (.bool r) ∧ Below w.heap.size w w' := by
  have HR0 := Aside0.mk hr0
  have HC0 := Aside0.mk hc0
  clear hr0 hc0
  have HB := Aside0.mk (Below.refl w.heap.size w)
  have H : (if (l0.length : Int) > 200 then (some true) else ((cell_Wave.f k l0).bind fun t342 => (if (t342.length : Int) = (wrap64 (20 * (l0.length : Int))) then ((cell_Read.f k t342 (wrap64 ((Int.tmod (Go.bits .and .i64 a1 255) 10) - 5))).bind fun bt345 => (if bt345.2 = true then (busbarlaw01_CellBack.j0 k l0 t342 bt345.1 ((bt345.1.length : Int) != (l0.length : Int))) else (busbarlaw01_CellBack.j0 k l0 t342 bt345.1 true))) else (some false)))) = some r := h
  clear h
  by_cases c3 : (l0.length : Int) > 200
  · rw [if_pos c3] at H
    have c3b0 : decide (200 < (l0.length : Int)) = true := decide_eq_true c3
    (try (have c3b1 : decide (((l0.length : Int) : Int) ≤ 200) = false := decide_eq_false (Int.not_le.mpr c3)))
    have c3b2 : decide (200 < l0.length) = true := decide_eq_true (by omega)
    clear c3
    obtain rfl := Option.some.inj H
    go_enter Try.func13, Try.ntmps13
    go_wp2
    repeat (go_quiet (fail); try go_wp2)
    go_ret
    exact ⟨by first | rfl | (simp [errW_none, errW_some] <;> rfl) | (simp [*, errW_none, errW_some] <;> rfl), by repeat (first | (with_reducible first | exact HB.out | apply below_alloc | apply pw_below_drewN | apply below_drew1) | exact HB.out)⟩
  · rw [if_neg c3] at H
    have c3b0 : decide (200 < (l0.length : Int)) = false := decide_eq_false c3
    (try (have c3b1 : decide (((l0.length : Int) : Int) ≤ 200) = true := decide_eq_true (Int.not_lt.mp c3)))
    have c3b2 : decide (200 < l0.length) = false := decide_eq_false (by omega)
    clear c3
    replace H := Option.bind_eq_some_iff.mp H
    obtain ⟨t342, A40, H⟩ := H
    replace H : (if (t342.length : Int) = (wrap64 (20 * (l0.length : Int))) then ((cell_Read.f k t342 (wrap64 ((Int.tmod (Go.bits .and .i64 a1 255) 10) - 5))).bind fun bt345 => (if bt345.2 = true then (busbarlaw01_CellBack.j0 k l0 t342 bt345.1 ((bt345.1.length : Int) != (l0.length : Int))) else (busbarlaw01_CellBack.j0 k l0 t342 bt345.1 true))) else (some false)) = some r := H
    have A4 := Aside0.mk A40
    clear A40
    by_cases c5 : (t342.length : Int) = (wrap64 (20 * (l0.length : Int)))
    · rw [if_pos c5] at H
      have c5b0 : ((t342.length : Int) == (wrap64 (20 * (l0.length : Int)))) = true := beq_iff_eq.mpr c5
      have c5b1 : ((t342.length : Int) != (wrap64 (20 * (l0.length : Int)))) = false := bne_eq_false_iff_eq.mpr c5
      clear c5
      replace H := Option.bind_eq_some_iff.mp H
      obtain ⟨⟨t345, t346⟩, A60, H⟩ := H
      replace H : (if t346 = true then (busbarlaw01_CellBack.j0 k l0 t342 t345 ((t345.length : Int) != (l0.length : Int))) else (busbarlaw01_CellBack.j0 k l0 t342 t345 true)) = some r := H
      have A6 := Aside0.mk A60
      clear A60
      have HC7 := Aside0.mk H
      clear H
      go_enter Try.func13, Try.ntmps13
      go_upto_region 8 with (first | (go_at_call 47; (with_reducible refine (cell_Wave.calls k _ _ l0 t342 _ ?side1 ?side2 A4.out).mono ?_); (case side1 => repeat (first | exact HR0.out | (with_reducible refine Kd.C_alloc ?_ _) | (with_reducible refine Kd.C_drewN ?_ _) | (with_reducible refine Kd.C_drew ?_))); (case side2 => exact HC0.out); rintro e w8 ⟨v343, rfl, ho0, hb⟩; have n0_ := Aside0.mk (Kd.R_lower ho0 (below_size (by repeat (first | (with_reducible first | exact HB.out | apply below_alloc | apply pw_below_drewN | apply below_drew1) | exact HB.out)))); have n1_ := Aside0.mk (below_step (by repeat (first | (with_reducible first | exact HB.out | apply below_alloc | apply pw_below_drewN | apply below_drew1) | exact HB.out)) hb); clear HB; have HO344 := n0_; have HB := n1_; clear n0_ n1_; (try clear hb); (try clear hb2); (try clear hk); (try clear hi); (try clear ho0); obtain ⟨Ao9, co9, eo9⟩ := Kd.R_slice HO344.out; subst eo9) | (go_at_call 44; (with_reducible refine (cell_Read.calls k _ _ t342 (wrap64 ((Int.tmod (Go.bits .and .i64 a1 255) 10) - 5)) t345 t346 _ ?side1 ?side2 A6.out).mono ?_); (case side1 => repeat (first | exact (Kd.R_reads' HO344.out).2.2 | (with_reducible refine Kd.C_alloc ?_ _) | (with_reducible refine Kd.C_drewN ?_ _) | (with_reducible refine Kd.C_drew ?_))); (case side2 => exact (Kd.R_reads' HO344.out).2.1); rintro e w10 ⟨v347, rfl, ho0, hb⟩; have n0_ := Aside0.mk (Kd.R_elder' (by (with_reducible repeat (first | apply Kd.R_alloc | apply Kd.R_drewN | apply Kd.R_drew)); exact HO344.out) (Kd.R_base ho0) hb); have n1_ := Aside0.mk (Kd.R_lower (Kd.R_new' ho0 (Kd.R_lt (by (with_reducible repeat (first | apply Kd.R_alloc | apply Kd.R_drewN | apply Kd.R_drew)); exact HO344.out))) (below_size (by repeat (first | (with_reducible first | exact HB.out | apply below_alloc | apply pw_below_drewN | apply below_drew1) | exact HB.out)))); have n2_ := Aside0.mk (below_step (by repeat (first | (with_reducible first | exact HB.out | apply below_alloc | apply pw_below_drewN | apply below_drew1) | exact HB.out)) hb); clear HO344; clear HB; have HO344 := n0_; have HO348 := n1_; have HB := n2_; clear n0_ n1_ n2_; (try clear hb); (try clear hb2); (try clear hk); (try clear hi); (try clear ho0)))
      repeat (go_quiet (first | (go_at_call 47; (with_reducible refine (cell_Wave.calls k _ _ l0 t342 _ ?side1 ?side2 A4.out).mono ?_); (case side1 => repeat (first | exact HR0.out | (with_reducible refine Kd.C_alloc ?_ _) | (with_reducible refine Kd.C_drewN ?_ _) | (with_reducible refine Kd.C_drew ?_))); (case side2 => exact HC0.out); rintro e w8 ⟨v343, rfl, ho0, hb⟩; have n0_ := Aside0.mk (Kd.R_lower ho0 (below_size (by repeat (first | (with_reducible first | exact HB.out | apply below_alloc | apply pw_below_drewN | apply below_drew1) | exact HB.out)))); have n1_ := Aside0.mk (below_step (by repeat (first | (with_reducible first | exact HB.out | apply below_alloc | apply pw_below_drewN | apply below_drew1) | exact HB.out)) hb); clear HB; have HO344 := n0_; have HB := n1_; clear n0_ n1_; (try clear hb); (try clear hb2); (try clear hk); (try clear hi); (try clear ho0); obtain ⟨Ao9, co9, eo9⟩ := Kd.R_slice HO344.out; subst eo9) | (go_at_call 44; (with_reducible refine (cell_Read.calls k _ _ t342 (wrap64 ((Int.tmod (Go.bits .and .i64 a1 255) 10) - 5)) t345 t346 _ ?side1 ?side2 A6.out).mono ?_); (case side1 => repeat (first | exact (Kd.R_reads' HO344.out).2.2 | (with_reducible refine Kd.C_alloc ?_ _) | (with_reducible refine Kd.C_drewN ?_ _) | (with_reducible refine Kd.C_drew ?_))); (case side2 => exact (Kd.R_reads' HO344.out).2.1); rintro e w10 ⟨v347, rfl, ho0, hb⟩; have n0_ := Aside0.mk (Kd.R_elder' (by (with_reducible repeat (first | apply Kd.R_alloc | apply Kd.R_drewN | apply Kd.R_drew)); exact HO344.out) (Kd.R_base ho0) hb); have n1_ := Aside0.mk (Kd.R_lower (Kd.R_new' ho0 (Kd.R_lt (by (with_reducible repeat (first | apply Kd.R_alloc | apply Kd.R_drewN | apply Kd.R_drew)); exact HO344.out))) (below_size (by repeat (first | (with_reducible first | exact HB.out | apply below_alloc | apply pw_below_drewN | apply below_drew1) | exact HB.out)))); have n2_ := Aside0.mk (below_step (by repeat (first | (with_reducible first | exact HB.out | apply below_alloc | apply pw_below_drewN | apply below_drew1) | exact HB.out)) hb); clear HO344; clear HB; have HO344 := n0_; have HO348 := n1_; have HB := n2_; clear n0_ n1_ n2_; (try clear hb); (try clear hb2); (try clear hk); (try clear hi); (try clear ho0))); go_upto_region 8 with (first | (go_at_call 47; (with_reducible refine (cell_Wave.calls k _ _ l0 t342 _ ?side1 ?side2 A4.out).mono ?_); (case side1 => repeat (first | exact HR0.out | (with_reducible refine Kd.C_alloc ?_ _) | (with_reducible refine Kd.C_drewN ?_ _) | (with_reducible refine Kd.C_drew ?_))); (case side2 => exact HC0.out); rintro e w8 ⟨v343, rfl, ho0, hb⟩; have n0_ := Aside0.mk (Kd.R_lower ho0 (below_size (by repeat (first | (with_reducible first | exact HB.out | apply below_alloc | apply pw_below_drewN | apply below_drew1) | exact HB.out)))); have n1_ := Aside0.mk (below_step (by repeat (first | (with_reducible first | exact HB.out | apply below_alloc | apply pw_below_drewN | apply below_drew1) | exact HB.out)) hb); clear HB; have HO344 := n0_; have HB := n1_; clear n0_ n1_; (try clear hb); (try clear hb2); (try clear hk); (try clear hi); (try clear ho0); obtain ⟨Ao9, co9, eo9⟩ := Kd.R_slice HO344.out; subst eo9) | (go_at_call 44; (with_reducible refine (cell_Read.calls k _ _ t342 (wrap64 ((Int.tmod (Go.bits .and .i64 a1 255) 10) - 5)) t345 t346 _ ?side1 ?side2 A6.out).mono ?_); (case side1 => repeat (first | exact (Kd.R_reads' HO344.out).2.2 | (with_reducible refine Kd.C_alloc ?_ _) | (with_reducible refine Kd.C_drewN ?_ _) | (with_reducible refine Kd.C_drew ?_))); (case side2 => exact (Kd.R_reads' HO344.out).2.1); rintro e w10 ⟨v347, rfl, ho0, hb⟩; have n0_ := Aside0.mk (Kd.R_elder' (by (with_reducible repeat (first | apply Kd.R_alloc | apply Kd.R_drewN | apply Kd.R_drew)); exact HO344.out) (Kd.R_base ho0) hb); have n1_ := Aside0.mk (Kd.R_lower (Kd.R_new' ho0 (Kd.R_lt (by (with_reducible repeat (first | apply Kd.R_alloc | apply Kd.R_drewN | apply Kd.R_drew)); exact HO344.out))) (below_size (by repeat (first | (with_reducible first | exact HB.out | apply below_alloc | apply pw_below_drewN | apply below_drew1) | exact HB.out)))); have n2_ := Aside0.mk (below_step (by repeat (first | (with_reducible first | exact HB.out | apply below_alloc | apply pw_below_drewN | apply below_drew1) | exact HB.out)) hb); clear HO344; clear HB; have HO344 := n0_; have HO348 := n1_; have HB := n2_; clear n0_ n1_ n2_; (try clear hb); (try clear hb2); (try clear hk); (try clear hi); (try clear ho0))))
      (try simp only [Act.put, List.setIfInBounds_toArray, List.set_cons_zero, List.set_cons_succ])
      go_cut [40] (fun v40 wc => ∃ (kq : Nat) (x40_6 : Bool), v40 = .bool x40_6 ∧ Aside0 (busbarlaw01_CellBack.j0 kq l0 t342 t345 x40_6 = some r) ∧ Aside0 (kq ≤ k) ∧ Aside0 (Kd.R Kd.bool 4 wc w.heap.size (fun k_ => some k_ ≠ (v347 : Value).ownBlock) (.slice Ao9 t342.length co9) t342) ∧ Aside0 (Kd.R Kd.bool 4 wc w.heap.size (fun k_ => some k_ ≠ ((.slice Ao9 t342.length co9) : Value).ownBlock) v347 t345) ∧ Aside0 (Below w.heap.size w wc))
      case first =>
        have H := HC7.out
        clear HC7
        by_cases c11 : t346 = true
        · subst c11
          have H1 : (busbarlaw01_CellBack.j0 k l0 t342 t345 ((t345.length : Int) != (l0.length : Int))) = some r := by rw [if_pos rfl] at H; exact H
          clear H
          have H := H1
          clear H1
          have H' := Aside0.mk H
          clear H
          obtain ⟨Ao12, co12, eo12⟩ := Kd.R_slice HO348.out
          subst eo12
          go_wp2
          repeat (go_quiet (fail); try go_wp2)
          go_meet
          case rel => exact ⟨_, (((t345.length : Int) != (l0.length : Int))), (by first | rfl | (simp; done) | (simp [*]; done)), H', ⟨by first | omega | exact Nat.le_refl _⟩, ⟨by (with_reducible repeat (first | apply Kd.R_alloc | apply Kd.R_drewN | apply Kd.R_drew)); exact Kd.R_mono HO344.out (fun _ hk => hk.2)⟩, ⟨by (with_reducible repeat (first | apply Kd.R_alloc | apply Kd.R_drewN | apply Kd.R_drew)); exact Kd.R_mono HO348.out (fun _ hk => hk.2)⟩, ⟨by repeat (first | (with_reducible first | exact HB.out | apply below_alloc | apply pw_below_drewN | apply below_drew1) | exact HB.out)⟩⟩
        · replace c11 := Bool.eq_false_iff.mpr c11
          subst c11
          have H1 : (busbarlaw01_CellBack.j0 k l0 t342 t345 true) = some r := by rw [if_neg (show ¬ (false = true) by decide)] at H; exact H
          clear H
          have H := H1
          clear H1
          have H' := Aside0.mk H
          clear H
          go_wp2
          repeat (go_quiet (fail); try go_wp2)
          go_meet
          case rel => exact ⟨_, (true), (by first | rfl | (simp; done) | (simp [*]; done)), H', ⟨by first | omega | exact Nat.le_refl _⟩, ⟨by (with_reducible repeat (first | apply Kd.R_alloc | apply Kd.R_drewN | apply Kd.R_drew)); exact Kd.R_mono HO344.out (fun _ hk => hk.2)⟩, ⟨by (with_reducible repeat (first | apply Kd.R_alloc | apply Kd.R_drewN | apply Kd.R_drew)); exact Kd.R_mono HO348.out (fun _ hk => hk.2)⟩, ⟨by repeat (first | (with_reducible first | exact HB.out | apply below_alloc | apply pw_below_drewN | apply below_drew1) | exact HB.out)⟩⟩
      case rest =>
        clear HC7
        try clear c1
        try clear p2
        try clear c3
        try clear c3b0
        try clear c3b1
        try clear c3b2
        try clear c5
        try clear c5b0
        try clear c5b1
        try clear p6
        try clear c11
        obtain ⟨kq, x40_6, rfl, HA, HJ6, HO_5, HO_6, HB⟩ := hcut
        cases kq with
        | zero => exact absurd HA.out (by simp [busbarlaw01_CellBack.j0])
        | succ kj6 =>
          have H := HA.out
          clear HA
          simp only [busbarlaw01_CellBack.j0] at H
          by_cases c13 : x40_6 = true
          · subst c13
            have H1 : (some false) = some r := by rw [if_pos rfl] at H; exact H
            clear H
            have H := H1
            clear H1
            obtain rfl := Option.some.inj H
            go_wp2
            repeat (go_quiet (fail); try go_wp2)
            go_ret
            exact ⟨by first | rfl | (simp [errW_none, errW_some] <;> rfl) | (simp [*, errW_none, errW_some] <;> rfl), by repeat (first | (with_reducible first | exact HB.out | apply below_alloc | apply pw_below_drewN | apply below_drew1) | exact HB.out)⟩
          · replace c13 := Bool.eq_false_iff.mpr c13
            subst c13
            have H1 : (busbarlaw01_CellBack.l0 kj6 l0 t342 t345 0 0) = some r := by rw [if_neg (show ¬ (false = true) by decide)] at H; exact H
            clear H
            have H := H1
            clear H1
            have H' := Aside0.mk H
            clear H
            go_wp2
            repeat (go_quiet (fail); try go_wp2)
            go_loopg [8, 9] kj6 (fun kq v8 v9 w' => ∃ (x8_2 : Int) (x9_2 : Int), v8 = .int .i64 x8_2 ∧ v9 = .int .i64 x9_2 ∧ Aside0 (busbarlaw01_CellBack.l0 kq l0 t342 t345 x8_2 x9_2 = some r) ∧ Aside0 (kq ≤ kj6) ∧ Aside0 (Kd.R Kd.bool 4 w' w.heap.size (fun k_ => some k_ ≠ (v347 : Value).ownBlock) (.slice Ao9 t342.length co9) t342) ∧ Aside0 (Kd.R Kd.bool 4 w' w.heap.size (fun k_ => some k_ ≠ ((.slice Ao9 t342.length co9) : Value).ownBlock) v347 t345) ∧ Aside0 (Below w.heap.size w w'))
            case atStart => exact ⟨(0), (0), (by first | rfl | (simp; done) | (simp [*]; done)), (by first | rfl | (simp; done) | (simp [*]; done)), H', ⟨Nat.le_refl _⟩, ⟨by (with_reducible repeat (first | apply Kd.R_alloc | apply Kd.R_drewN | apply Kd.R_drew)); exact HO_5.out⟩, ⟨by (with_reducible repeat (first | apply Kd.R_alloc | apply Kd.R_drewN | apply Kd.R_drew)); exact HO_6.out⟩, ⟨by repeat (first | (with_reducible first | exact HB.out | apply below_alloc | apply pw_below_drewN | apply below_drew1) | exact HB.out)⟩⟩
            case round =>
              clear H'
              try clear c1
              try clear p2
              try clear c3
              try clear c3b0
              try clear c3b1
              try clear c3b2
              try clear c5
              try clear c5b0
              try clear c5b1
              try clear p6
              try clear c11
              try clear c13
              try clear p2
              try clear p6
              obtain ⟨x8_2, x9_2, rfl, rfl, HA, HK2, HO_5, HO_6, HB⟩ := hrel
              cases gk with
              | zero => exact absurd HA.out (by simp [busbarlaw01_CellBack.l0])
              | succ k2 =>
                have H := HA.out
                clear HA
                simp only [busbarlaw01_CellBack.l0] at H
                by_cases c14 : x9_2 < (t342.length : Int)
                · rw [if_pos c14] at H
                  have c14b0 : decide (x9_2 < (t342.length : Int)) = true := decide_eq_true c14
                  (try (have c14b1 : decide (((t342.length : Int) : Int) ≤ x9_2) = false := decide_eq_false (Int.not_le.mpr c14)))
                  clear c14
                  have HC15 := Aside0.mk H
                  clear H
                  go_upto_region 14 with (fail)
                  repeat (go_quiet (fail); go_upto_region 14 with (fail))
                  go_cut [60] (fun v60 wc => ∃ (kq : Nat) (x60_14 : Bool), v60 = .bool x60_14 ∧ Aside0 (busbarlaw01_CellBack.j2 kq l0 t342 t345 x8_2 x9_2 x60_14 = some r) ∧ Aside0 (kq ≤ k2) ∧ Aside0 (Kd.R Kd.bool 4 wc w.heap.size (fun k_ => some k_ ≠ (v347 : Value).ownBlock) (.slice Ao9 t342.length co9) t342) ∧ Aside0 (Kd.R Kd.bool 4 wc w.heap.size (fun k_ => some k_ ≠ ((.slice Ao9 t342.length co9) : Value).ownBlock) v347 t345) ∧ Aside0 (Below w.heap.size w wc))
                  case first =>
                    have H := HC15.out
                    clear HC15
                    by_cases c16 : x9_2 > 0
                    · rw [if_pos c16] at H
                      have c16b0 : decide (0 < x9_2) = true := decide_eq_true c16
                      (try (have c16b1 : decide ((x9_2 : Int) ≤ 0) = false := decide_eq_false (Int.not_le.mpr c16)))
                      clear c16
                      (first | rw [c16b0] | (simp only [i64_w, i32_w]; rw [c16b0]) | skip)
                      by_cases c17 : 0 ≤ x9_2
                      · rw [if_pos c17] at H
                        have c17b0 : decide (0 ≤ x9_2) = true := decide_eq_true c17
                        (try (have c17b1 : decide ((x9_2 : Int) < 0) = false := decide_eq_false (Int.not_lt.mpr c17)))
                        clear c17
                        obtain ⟨ji18, hji18⟩ : ∃ j_ : Int, (wrap64 (x9_2 - 1)) = j_ := ⟨_, rfl⟩
                        replace H : (if 0 ≤ (ji18) then (if (ji18) < (t342.length : Int) then (busbarlaw01_CellBack.j2 k2 l0 t342 t345 x8_2 x9_2 ((rdOf false t342 x9_2) == (rdOf false t342 (ji18)))) else (none)) else (none)) = some r := by first | (rw [hji18] at H; exact H) | (simp only [hji18] at H ⊢; exact H)
                        have hji18w : (IntKind.i64.wrap (x9_2 - 1)) = ji18 := (i64_w _).trans hji18
                        by_cases c19 : 0 ≤ (ji18)
                        · rw [if_pos c19] at H
                          have c19b0 : decide (0 ≤ (ji18)) = true := decide_eq_true c19
                          (try (have c19b1 : decide (((ji18) : Int) < 0) = false := decide_eq_false (Int.not_lt.mpr c19)))
                          clear c19
                          by_cases c20 : (ji18) < (t342.length : Int)
                          · rw [if_pos c20] at H
                            have c20b0 : decide ((ji18) < (t342.length : Int)) = true := decide_eq_true c20
                            (try (have c20b1 : decide (((t342.length : Int) : Int) ≤ (ji18)) = false := decide_eq_false (Int.not_le.mpr c20)))
                            clear c20
                            have H' := Aside0.mk H
                            clear H
                            have p349 : 0 ≤ (x9_2 : Int) := of_decide_eq_true (by first | (with_reducible assumption) | assumption)
                            have q349 : x9_2 < (t342.length : Int) := of_decide_eq_true (by first | (with_reducible assumption) | assumption)
                            obtain ⟨ad349, e349, hx349_0⟩ := Kd.at_bool (Kd.R_reads' HO_5.out).2.2 x9_2 p349 q349
                            cases e349
                            replace p349 := eq_true p349
                            replace q349 := eq_true q349
                            have p350 : 0 ≤ ((ji18) : Int) := of_decide_eq_true (by first | (with_reducible assumption) | assumption)
                            have q350 : (ji18) < (t342.length : Int) := of_decide_eq_true (by first | (with_reducible assumption) | assumption)
                            obtain ⟨ad350, e350, hx350_0⟩ := Kd.at_bool (Kd.R_reads' HO_5.out).2.2 (ji18) p350 q350
                            obtain rfl : ad349 = ad350 := (by injection e350)
                            replace p350 := eq_true p350
                            replace q350 := eq_true q350
                            go_wp2
                            repeat (go_quiet (fail); try go_wp2)
                            go_meet
                            case rel => exact ⟨_, (((rdOf false t342 x9_2) == (rdOf false t342 (ji18)))), (by first | rfl | (simp; done) | (simp only [← hji18] <;> (first | rfl | simp)) | (simp [*]; done)), H', ⟨by have := HJ6.out; have := HK2.out; first | omega | exact Nat.le_refl _⟩, ⟨by (with_reducible repeat (first | apply Kd.R_alloc | apply Kd.R_drewN | apply Kd.R_drew)); exact HO_5.out⟩, ⟨by (with_reducible repeat (first | apply Kd.R_alloc | apply Kd.R_drewN | apply Kd.R_drew)); exact HO_6.out⟩, ⟨by repeat (first | (with_reducible first | exact HB.out | apply below_alloc | apply pw_below_drewN | apply below_drew1) | exact HB.out)⟩⟩
                          · rw [if_neg c20] at H
                            exact absurd H (by simp)
                        · rw [if_neg c19] at H
                          exact absurd H (by simp)
                      · rw [if_neg c17] at H
                        exact absurd H (by simp)
                    · rw [if_neg c16] at H
                      have c16b0 : decide (0 < x9_2) = false := decide_eq_false c16
                      (try (have c16b1 : decide ((x9_2 : Int) ≤ 0) = true := decide_eq_true (Int.not_lt.mp c16)))
                      clear c16
                      (first | rw [c16b0] | (simp only [i64_w, i32_w]; rw [c16b0]) | skip)
                      have H' := Aside0.mk H
                      clear H
                      go_wp2
                      repeat (go_quiet (fail); try go_wp2)
                      go_meet
                      case rel => exact ⟨_, (false), (by first | rfl | (simp; done) | (simp [*]; done)), H', ⟨by have := HJ6.out; have := HK2.out; first | omega | exact Nat.le_refl _⟩, ⟨by (with_reducible repeat (first | apply Kd.R_alloc | apply Kd.R_drewN | apply Kd.R_drew)); exact HO_5.out⟩, ⟨by (with_reducible repeat (first | apply Kd.R_alloc | apply Kd.R_drewN | apply Kd.R_drew)); exact HO_6.out⟩, ⟨by repeat (first | (with_reducible first | exact HB.out | apply below_alloc | apply pw_below_drewN | apply below_drew1) | exact HB.out)⟩⟩
                  case rest =>
                    clear HC15
                    try clear c1
                    try clear c2
                    try clear p2
                    try clear c3
                    try clear c3b0
                    try clear c3b1
                    try clear c3b2
                    try clear p3
                    try clear q3
                    try clear hx3
                    try clear c5
                    try clear c5b0
                    try clear c5b1
                    try clear p6
                    try clear c11
                    try clear c13
                    try clear c14
                    try clear c14b0
                    try clear c14b1
                    try clear c16
                    try clear c16b0
                    try clear c16b1
                    try clear c17
                    try clear c17b0
                    try clear c17b1
                    try clear c19
                    try clear c19b0
                    try clear c19b1
                    try clear c20
                    try clear c20b0
                    try clear c20b1
                    try clear hx349_0
                    try clear hx350_0
                    try clear p2
                    try clear p349
                    try clear p350
                    try clear p6
                    try clear q349
                    try clear q350
                    obtain ⟨kq, x60_14, rfl, HA, HJ14, HO_5, HO_6, HB⟩ := hcut
                    cases kq with
                    | zero => exact absurd HA.out (by simp [busbarlaw01_CellBack.j2])
                    | succ kj14 =>
                      have H := HA.out
                      clear HA
                      simp only [busbarlaw01_CellBack.j2] at H
                      by_cases c21 : x60_14 = true
                      · subst c21
                        have H1 : (if (wrap64 (x8_2 + 1)) > 20 then (some false) else (if (Int.tmod x9_2 20) = 0 then (if 0 ≤ x9_2 then (if x9_2 < (t342.length : Int) then (if 0 ≤ (wrap64 (Int.tdiv x9_2 20)) then (if (wrap64 (Int.tdiv x9_2 20)) < (l0.length : Int) then (if ((rdOf false t342 x9_2) != (rdOf false l0 (wrap64 (Int.tdiv x9_2 20)))) = true then (some false) else (busbarlaw01_CellBack.l0 kj14 l0 t342 t345 (wrap64 (x8_2 + 1)) (wrap64 (x9_2 + 1)))) else (none)) else (none)) else (none)) else (none)) else (if (Int.tmod x9_2 20) = 19 then (if 0 ≤ x9_2 then (if x9_2 < (t342.length : Int) then (if 0 ≤ (wrap64 (Int.tdiv x9_2 20)) then (if (wrap64 (Int.tdiv x9_2 20)) < (l0.length : Int) then (if ((rdOf false t342 x9_2) == (rdOf false l0 (wrap64 (Int.tdiv x9_2 20)))) = true then (some false) else (busbarlaw01_CellBack.l0 kj14 l0 t342 t345 (wrap64 (x8_2 + 1)) (wrap64 (x9_2 + 1)))) else (none)) else (none)) else (none)) else (none)) else (busbarlaw01_CellBack.l0 kj14 l0 t342 t345 (wrap64 (x8_2 + 1)) (wrap64 (x9_2 + 1)))))) = some r := by rw [if_pos rfl] at H; exact H
                        clear H
                        have H := H1
                        clear H1
                        by_cases c22 : (wrap64 (x8_2 + 1)) > 20
                        · rw [if_pos c22] at H
                          have c22b0 : decide (20 < (wrap64 (x8_2 + 1))) = true := decide_eq_true c22
                          (try (have c22b1 : decide (((wrap64 (x8_2 + 1)) : Int) ≤ 20) = false := decide_eq_false (Int.not_le.mpr c22)))
                          clear c22
                          obtain rfl := Option.some.inj H
                          go_wp2
                          repeat (go_quiet (fail); try go_wp2)
                          go_ret
                          exact ⟨by first | rfl | (simp [errW_none, errW_some] <;> rfl) | (simp [*, errW_none, errW_some] <;> rfl), by repeat (first | (with_reducible first | exact HB.out | apply below_alloc | apply pw_below_drewN | apply below_drew1) | exact HB.out)⟩
                        · rw [if_neg c22] at H
                          have c22b0 : decide (20 < (wrap64 (x8_2 + 1))) = false := decide_eq_false c22
                          (try (have c22b1 : decide (((wrap64 (x8_2 + 1)) : Int) ≤ 20) = true := decide_eq_true (Int.not_lt.mp c22)))
                          clear c22
                          by_cases c23 : (Int.tmod x9_2 20) = 0
                          · rw [if_pos c23] at H
                            have c23b0 : ((Int.tmod x9_2 20) == 0) = true := beq_iff_eq.mpr c23
                            have c23b1 : ((Int.tmod x9_2 20) != 0) = false := bne_eq_false_iff_eq.mpr c23
                            clear c23
                            by_cases c24 : 0 ≤ x9_2
                            · rw [if_pos c24] at H
                              have c24b0 : decide (0 ≤ x9_2) = true := decide_eq_true c24
                              (try (have c24b1 : decide ((x9_2 : Int) < 0) = false := decide_eq_false (Int.not_lt.mpr c24)))
                              clear c24
                              by_cases c25 : x9_2 < (t342.length : Int)
                              · rw [if_pos c25] at H
                                have c25b0 : decide (x9_2 < (t342.length : Int)) = true := decide_eq_true c25
                                (try (have c25b1 : decide (((t342.length : Int) : Int) ≤ x9_2) = false := decide_eq_false (Int.not_le.mpr c25)))
                                clear c25
                                obtain ⟨ji26, hji26⟩ : ∃ j_ : Int, (wrap64 (Int.tdiv x9_2 20)) = j_ := ⟨_, rfl⟩
                                replace H : (if 0 ≤ (ji26) then (if (ji26) < (l0.length : Int) then (if ((rdOf false t342 x9_2) != (rdOf false l0 (ji26))) = true then (some false) else (busbarlaw01_CellBack.l0 kj14 l0 t342 t345 (wrap64 (x8_2 + 1)) (wrap64 (x9_2 + 1)))) else (none)) else (none)) = some r := by first | (rw [hji26] at H; exact H) | (simp only [hji26] at H ⊢; exact H)
                                have hji26w : (IntKind.i64.wrap (Int.tdiv x9_2 20)) = ji26 := (i64_w _).trans hji26
                                by_cases c27 : 0 ≤ (ji26)
                                · rw [if_pos c27] at H
                                  have c27b0 : decide (0 ≤ (ji26)) = true := decide_eq_true c27
                                  (try (have c27b1 : decide (((ji26) : Int) < 0) = false := decide_eq_false (Int.not_lt.mpr c27)))
                                  clear c27
                                  by_cases c28 : (ji26) < (l0.length : Int)
                                  · rw [if_pos c28] at H
                                    have c28b0 : decide ((ji26) < (l0.length : Int)) = true := decide_eq_true c28
                                    (try (have c28b1 : decide (((l0.length : Int) : Int) ≤ (ji26)) = false := decide_eq_false (Int.not_le.mpr c28)))
                                    clear c28
                                    by_cases c29 : ((rdOf false t342 x9_2) != (rdOf false l0 (ji26))) = true
                                    · rw [if_pos c29] at H
                                      have c29b0 : ((rdOf false t342 x9_2) != (rdOf false l0 (ji26))) = true := c29
                                      (try (have c29b1 : decide ((rdOf false t342 x9_2) = (rdOf false l0 (ji26))) = false := by simpa using c29))
                                      (try (have c29b2 : ((rdOf false t342 x9_2) == (rdOf false l0 (ji26))) = false := by simpa using c29))
                                      (try (have c29b3 : ¬ ((rdOf false t342 x9_2) = (rdOf false l0 (ji26))) := by simpa using c29))
                                      clear c29
                                      obtain rfl := Option.some.inj H
                                      have p351 : 0 ≤ (x9_2 : Int) := of_decide_eq_true (by first | (with_reducible assumption) | assumption)
                                      have q351 : x9_2 < (t342.length : Int) := of_decide_eq_true (by first | (with_reducible assumption) | assumption)
                                      obtain ⟨ad351, e351, hx351_0⟩ := Kd.at_bool (Kd.R_reads' HO_5.out).2.2 x9_2 p351 q351
                                      cases e351
                                      replace p351 := eq_true p351
                                      replace q351 := eq_true q351
                                      have p352 : 0 ≤ ((ji26) : Int) := of_decide_eq_true (by first | (with_reducible assumption) | assumption)
                                      have q352 : (ji26) < (l0.length : Int) := of_decide_eq_true (by first | (with_reducible assumption) | assumption)
                                      obtain ⟨ad352, e352, hx352_0⟩ := Kd.at_bool HR0.out (ji26) p352 q352
                                      cases e352
                                      replace hx352_0 := (HB.out.cell (World.block_lt_of_cell? w _ hx352_0)).trans hx352_0
                                      replace p352 := eq_true p352
                                      replace q352 := eq_true q352
                                      go_wp2
                                      repeat (go_quiet (fail); try go_wp2)
                                      go_ret
                                      exact ⟨by first | rfl | (simp [errW_none, errW_some] <;> rfl) | (simp only [← hji26]; first | rfl | (simp [errW_none, errW_some] <;> rfl)) | (simp [*, errW_none, errW_some] <;> rfl), by repeat (first | (with_reducible first | exact HB.out | apply below_alloc | apply pw_below_drewN | apply below_drew1) | exact HB.out)⟩
                                    · rw [if_neg c29] at H
                                      have c29b0 : ((rdOf false t342 x9_2) != (rdOf false l0 (ji26))) = false := by simpa using c29
                                      (try (have c29b1 : decide ((rdOf false t342 x9_2) = (rdOf false l0 (ji26))) = true := by simpa using c29))
                                      (try (have c29b2 : ((rdOf false t342 x9_2) == (rdOf false l0 (ji26))) = true := by simpa using c29))
                                      clear c29
                                      have c30b0 : ((Int.tmod x9_2 20) == 19) = false := by have h_ := eq_of_beq (show ((Int.tmod x9_2 20) == 0) = true by first | assumption | decide); rw [h_]; rfl
                                      have c31b0 : ((Int.tmod x9_2 20) != 19) = true := by have h_ := eq_of_beq (show ((Int.tmod x9_2 20) == 0) = true by first | assumption | decide); rw [h_]; rfl
                                      have c32b0 : ((Int.tmod x9_2 20) == 19) = false := by have h_ := eq_of_beq (show ((Int.tmod x9_2 20) == 0) = true by first | assumption | decide); rw [h_]; rfl
                                      have c33b0 : ((Int.tmod x9_2 20) != 19) = true := by have h_ := eq_of_beq (show ((Int.tmod x9_2 20) == 0) = true by first | assumption | decide); rw [h_]; rfl
                                      have c34b0 : ((Int.tmod x9_2 20) == 19) = false := by have h_ := eq_of_beq (show ((Int.tmod x9_2 20) == 0) = true by first | assumption | decide); rw [h_]; rfl
                                      have c35b0 : ((Int.tmod x9_2 20) != 19) = true := by have h_ := eq_of_beq (show ((Int.tmod x9_2 20) == 0) = true by first | assumption | decide); rw [h_]; rfl
                                      have c36b0 : ((Int.tmod x9_2 20) == 19) = false := by have h_ := eq_of_beq (show ((Int.tmod x9_2 20) == 0) = true by first | assumption | decide); rw [h_]; rfl
                                      have c37b0 : ((Int.tmod x9_2 20) != 19) = true := by have h_ := eq_of_beq (show ((Int.tmod x9_2 20) == 0) = true by first | assumption | decide); rw [h_]; rfl
                                      have c38b0 : ((Int.tmod x9_2 20) == 19) = false := by have h_ := eq_of_beq (show ((Int.tmod x9_2 20) == 0) = true by first | assumption | decide); rw [h_]; rfl
                                      have c39b0 : ((Int.tmod x9_2 20) != 19) = true := by have h_ := eq_of_beq (show ((Int.tmod x9_2 20) == 0) = true by first | assumption | decide); rw [h_]; rfl
                                      have c40b0 : ((Int.tmod x9_2 20) == 19) = false := by have h_ := eq_of_beq (show ((Int.tmod x9_2 20) == 0) = true by first | assumption | decide); rw [h_]; rfl
                                      have c41b0 : ((Int.tmod x9_2 20) != 19) = true := by have h_ := eq_of_beq (show ((Int.tmod x9_2 20) == 0) = true by first | assumption | decide); rw [h_]; rfl
                                      have c42b0 : ((Int.tmod x9_2 20) == 19) = false := by have h_ := eq_of_beq (show ((Int.tmod x9_2 20) == 0) = true by first | assumption | decide); rw [h_]; rfl
                                      have c43b0 : ((Int.tmod x9_2 20) != 19) = true := by have h_ := eq_of_beq (show ((Int.tmod x9_2 20) == 0) = true by first | assumption | decide); rw [h_]; rfl
                                      have c44b0 : ((Int.tmod x9_2 20) == 19) = false := by have h_ := eq_of_beq (show ((Int.tmod x9_2 20) == 0) = true by first | assumption | decide); rw [h_]; rfl
                                      have c45b0 : ((Int.tmod x9_2 20) != 19) = true := by have h_ := eq_of_beq (show ((Int.tmod x9_2 20) == 0) = true by first | assumption | decide); rw [h_]; rfl
                                      have c46b0 : ((Int.tmod x9_2 20) == 19) = false := by have h_ := eq_of_beq (show ((Int.tmod x9_2 20) == 0) = true by first | assumption | decide); rw [h_]; rfl
                                      have c47b0 : ((Int.tmod x9_2 20) != 19) = true := by have h_ := eq_of_beq (show ((Int.tmod x9_2 20) == 0) = true by first | assumption | decide); rw [h_]; rfl
                                      have c48b0 : ((Int.tmod x9_2 20) == 19) = false := by have h_ := eq_of_beq (show ((Int.tmod x9_2 20) == 0) = true by first | assumption | decide); rw [h_]; rfl
                                      have c49b0 : ((Int.tmod x9_2 20) != 19) = true := by have h_ := eq_of_beq (show ((Int.tmod x9_2 20) == 0) = true by first | assumption | decide); rw [h_]; rfl
                                      have c50b0 : ((Int.tmod x9_2 20) == 19) = false := by have h_ := eq_of_beq (show ((Int.tmod x9_2 20) == 0) = true by first | assumption | decide); rw [h_]; rfl
                                      have c51b0 : ((Int.tmod x9_2 20) != 19) = true := by have h_ := eq_of_beq (show ((Int.tmod x9_2 20) == 0) = true by first | assumption | decide); rw [h_]; rfl
                                      have H' := Aside0.mk H
                                      clear H
                                      have p351 : 0 ≤ (x9_2 : Int) := of_decide_eq_true (by first | (with_reducible assumption) | assumption)
                                      have q351 : x9_2 < (t342.length : Int) := of_decide_eq_true (by first | (with_reducible assumption) | assumption)
                                      obtain ⟨ad351, e351, hx351_0⟩ := Kd.at_bool (Kd.R_reads' HO_5.out).2.2 x9_2 p351 q351
                                      cases e351
                                      replace p351 := eq_true p351
                                      replace q351 := eq_true q351
                                      have p352 : 0 ≤ ((ji26) : Int) := of_decide_eq_true (by first | (with_reducible assumption) | assumption)
                                      have q352 : (ji26) < (l0.length : Int) := of_decide_eq_true (by first | (with_reducible assumption) | assumption)
                                      obtain ⟨ad352, e352, hx352_0⟩ := Kd.at_bool HR0.out (ji26) p352 q352
                                      cases e352
                                      replace hx352_0 := (HB.out.cell (World.block_lt_of_cell? w _ hx352_0)).trans hx352_0
                                      replace p352 := eq_true p352
                                      replace q352 := eq_true q352
                                      go_wp2
                                      repeat (go_quiet (fail); try go_wp2)
                                      go_roundg kj14
                                      case measure => have := HJ6.out; have := HK2.out; have := HJ14.out; omega
                                      case rel => exact ⟨(wrap64 (x8_2 + 1)), (wrap64 (x9_2 + 1)), (by first | rfl | (simp; done) | (simp [*]; done)), (by first | rfl | (simp; done) | (simp [*]; done)), H', ⟨by have := HJ6.out; have := HK2.out; have := HJ14.out; omega⟩, ⟨by (with_reducible repeat (first | apply Kd.R_alloc | apply Kd.R_drewN | apply Kd.R_drew)); exact HO_5.out⟩, ⟨by (with_reducible repeat (first | apply Kd.R_alloc | apply Kd.R_drewN | apply Kd.R_drew)); exact HO_6.out⟩, ⟨by repeat (first | (with_reducible first | exact HB.out | apply below_alloc | apply pw_below_drewN | apply below_drew1) | exact HB.out)⟩⟩
                                  · rw [if_neg c28] at H
                                    exact absurd H (by simp)
                                · rw [if_neg c27] at H
                                  exact absurd H (by simp)
                              · rw [if_neg c25] at H
                                exact absurd H (by simp)
                            · rw [if_neg c24] at H
                              exact absurd H (by simp)
                          · rw [if_neg c23] at H
                            have c23b0 : ((Int.tmod x9_2 20) == 0) = false := beq_eq_false_iff_ne.mpr c23
                            have c23b1 : ((Int.tmod x9_2 20) != 0) = true := bne_iff_ne.mpr c23
                            by_cases c52 : (Int.tmod x9_2 20) = 19
                            · rw [if_pos c52] at H
                              have c52b0 : ((Int.tmod x9_2 20) == 19) = true := beq_iff_eq.mpr c52
                              have c52b1 : ((Int.tmod x9_2 20) != 19) = false := bne_eq_false_iff_eq.mpr c52
                              clear c52
                              by_cases c53 : 0 ≤ x9_2
                              · rw [if_pos c53] at H
                                have c53b0 : decide (0 ≤ x9_2) = true := decide_eq_true c53
                                (try (have c53b1 : decide ((x9_2 : Int) < 0) = false := decide_eq_false (Int.not_lt.mpr c53)))
                                clear c53
                                by_cases c54 : x9_2 < (t342.length : Int)
                                · rw [if_pos c54] at H
                                  have c54b0 : decide (x9_2 < (t342.length : Int)) = true := decide_eq_true c54
                                  (try (have c54b1 : decide (((t342.length : Int) : Int) ≤ x9_2) = false := decide_eq_false (Int.not_le.mpr c54)))
                                  clear c54
                                  obtain ⟨ji55, hji55⟩ : ∃ j_ : Int, (wrap64 (Int.tdiv x9_2 20)) = j_ := ⟨_, rfl⟩
                                  replace H : (if 0 ≤ (ji55) then (if (ji55) < (l0.length : Int) then (if ((rdOf false t342 x9_2) == (rdOf false l0 (ji55))) = true then (some false) else (busbarlaw01_CellBack.l0 kj14 l0 t342 t345 (wrap64 (x8_2 + 1)) (wrap64 (x9_2 + 1)))) else (none)) else (none)) = some r := by first | (rw [hji55] at H; exact H) | (simp only [hji55] at H ⊢; exact H)
                                  have hji55w : (IntKind.i64.wrap (Int.tdiv x9_2 20)) = ji55 := (i64_w _).trans hji55
                                  by_cases c56 : 0 ≤ (ji55)
                                  · rw [if_pos c56] at H
                                    have c56b0 : decide (0 ≤ (ji55)) = true := decide_eq_true c56
                                    (try (have c56b1 : decide (((ji55) : Int) < 0) = false := decide_eq_false (Int.not_lt.mpr c56)))
                                    clear c56
                                    by_cases c57 : (ji55) < (l0.length : Int)
                                    · rw [if_pos c57] at H
                                      have c57b0 : decide ((ji55) < (l0.length : Int)) = true := decide_eq_true c57
                                      (try (have c57b1 : decide (((l0.length : Int) : Int) ≤ (ji55)) = false := decide_eq_false (Int.not_le.mpr c57)))
                                      clear c57
                                      by_cases c58 : ((rdOf false t342 x9_2) == (rdOf false l0 (ji55))) = true
                                      · rw [if_pos c58] at H
                                        have c58b0 : ((rdOf false t342 x9_2) == (rdOf false l0 (ji55))) = true := c58
                                        (try (have c58b1 : decide ((rdOf false t342 x9_2) = (rdOf false l0 (ji55))) = true := by simpa using c58))
                                        (try (have c58b2 : ((rdOf false t342 x9_2) == (rdOf false l0 (ji55))) = true := by simpa using c58))
                                        clear c58
                                        obtain rfl := Option.some.inj H
                                        have p353 : 0 ≤ (x9_2 : Int) := of_decide_eq_true (by first | (with_reducible assumption) | assumption)
                                        have q353 : x9_2 < (t342.length : Int) := of_decide_eq_true (by first | (with_reducible assumption) | assumption)
                                        obtain ⟨ad353, e353, hx353_0⟩ := Kd.at_bool (Kd.R_reads' HO_5.out).2.2 x9_2 p353 q353
                                        cases e353
                                        replace p353 := eq_true p353
                                        replace q353 := eq_true q353
                                        have p354 : 0 ≤ ((ji55) : Int) := of_decide_eq_true (by first | (with_reducible assumption) | assumption)
                                        have q354 : (ji55) < (l0.length : Int) := of_decide_eq_true (by first | (with_reducible assumption) | assumption)
                                        obtain ⟨ad354, e354, hx354_0⟩ := Kd.at_bool HR0.out (ji55) p354 q354
                                        cases e354
                                        replace hx354_0 := (HB.out.cell (World.block_lt_of_cell? w _ hx354_0)).trans hx354_0
                                        replace p354 := eq_true p354
                                        replace q354 := eq_true q354
                                        go_wp2
                                        repeat (go_quiet (fail); try go_wp2)
                                        go_ret
                                        exact ⟨by first | rfl | (simp [errW_none, errW_some] <;> rfl) | (simp only [← hji55]; first | rfl | (simp [errW_none, errW_some] <;> rfl)) | (simp [*, errW_none, errW_some] <;> rfl), by repeat (first | (with_reducible first | exact HB.out | apply below_alloc | apply pw_below_drewN | apply below_drew1) | exact HB.out)⟩
                                      · rw [if_neg c58] at H
                                        have c58b0 : ((rdOf false t342 x9_2) == (rdOf false l0 (ji55))) = false := by simpa using c58
                                        (try (have c58b1 : decide ((rdOf false t342 x9_2) = (rdOf false l0 (ji55))) = false := by simpa using c58))
                                        (try (have c58b2 : ((rdOf false t342 x9_2) == (rdOf false l0 (ji55))) = false := by simpa using c58))
                                        (try (have c58b3 : ¬ ((rdOf false t342 x9_2) = (rdOf false l0 (ji55))) := by simpa using c58))
                                        clear c58
                                        have H' := Aside0.mk H
                                        clear H
                                        have p353 : 0 ≤ (x9_2 : Int) := of_decide_eq_true (by first | (with_reducible assumption) | assumption)
                                        have q353 : x9_2 < (t342.length : Int) := of_decide_eq_true (by first | (with_reducible assumption) | assumption)
                                        obtain ⟨ad353, e353, hx353_0⟩ := Kd.at_bool (Kd.R_reads' HO_5.out).2.2 x9_2 p353 q353
                                        cases e353
                                        replace p353 := eq_true p353
                                        replace q353 := eq_true q353
                                        have p354 : 0 ≤ ((ji55) : Int) := of_decide_eq_true (by first | (with_reducible assumption) | assumption)
                                        have q354 : (ji55) < (l0.length : Int) := of_decide_eq_true (by first | (with_reducible assumption) | assumption)
                                        obtain ⟨ad354, e354, hx354_0⟩ := Kd.at_bool HR0.out (ji55) p354 q354
                                        cases e354
                                        replace hx354_0 := (HB.out.cell (World.block_lt_of_cell? w _ hx354_0)).trans hx354_0
                                        replace p354 := eq_true p354
                                        replace q354 := eq_true q354
                                        go_wp2
                                        repeat (go_quiet (fail); try go_wp2)
                                        go_roundg kj14
                                        case measure => have := HJ6.out; have := HK2.out; have := HJ14.out; omega
                                        case rel => exact ⟨(wrap64 (x8_2 + 1)), (wrap64 (x9_2 + 1)), (by first | rfl | (simp; done) | (simp [*]; done)), (by first | rfl | (simp; done) | (simp [*]; done)), H', ⟨by have := HJ6.out; have := HK2.out; have := HJ14.out; omega⟩, ⟨by (with_reducible repeat (first | apply Kd.R_alloc | apply Kd.R_drewN | apply Kd.R_drew)); exact HO_5.out⟩, ⟨by (with_reducible repeat (first | apply Kd.R_alloc | apply Kd.R_drewN | apply Kd.R_drew)); exact HO_6.out⟩, ⟨by repeat (first | (with_reducible first | exact HB.out | apply below_alloc | apply pw_below_drewN | apply below_drew1) | exact HB.out)⟩⟩
                                    · rw [if_neg c57] at H
                                      exact absurd H (by simp)
                                  · rw [if_neg c56] at H
                                    exact absurd H (by simp)
                                · rw [if_neg c54] at H
                                  exact absurd H (by simp)
                              · rw [if_neg c53] at H
                                exact absurd H (by simp)
                            · rw [if_neg c52] at H
                              have c52b0 : ((Int.tmod x9_2 20) == 19) = false := beq_eq_false_iff_ne.mpr c52
                              have c52b1 : ((Int.tmod x9_2 20) != 19) = true := bne_iff_ne.mpr c52
                              have H' := Aside0.mk H
                              clear H
                              go_wp2
                              repeat (go_quiet (fail); try go_wp2)
                              go_roundg kj14
                              case measure => have := HJ6.out; have := HK2.out; have := HJ14.out; omega
                              case rel => exact ⟨(wrap64 (x8_2 + 1)), (wrap64 (x9_2 + 1)), (by first | rfl | (simp; done) | (simp [*]; done)), (by first | rfl | (simp; done) | (simp [*]; done)), H', ⟨by have := HJ6.out; have := HK2.out; have := HJ14.out; omega⟩, ⟨by (with_reducible repeat (first | apply Kd.R_alloc | apply Kd.R_drewN | apply Kd.R_drew)); exact HO_5.out⟩, ⟨by (with_reducible repeat (first | apply Kd.R_alloc | apply Kd.R_drewN | apply Kd.R_drew)); exact HO_6.out⟩, ⟨by repeat (first | (with_reducible first | exact HB.out | apply below_alloc | apply pw_below_drewN | apply below_drew1) | exact HB.out)⟩⟩
                      · replace c21 := Bool.eq_false_iff.mpr c21
                        subst c21
                        have H1 : (if (Int.tmod x9_2 20) = 0 then (if 0 ≤ x9_2 then (if x9_2 < (t342.length : Int) then (if 0 ≤ (wrap64 (Int.tdiv x9_2 20)) then (if (wrap64 (Int.tdiv x9_2 20)) < (l0.length : Int) then (if ((rdOf false t342 x9_2) != (rdOf false l0 (wrap64 (Int.tdiv x9_2 20)))) = true then (some false) else (busbarlaw01_CellBack.l0 kj14 l0 t342 t345 1 (wrap64 (x9_2 + 1)))) else (none)) else (none)) else (none)) else (none)) else (if (Int.tmod x9_2 20) = 19 then (if 0 ≤ x9_2 then (if x9_2 < (t342.length : Int) then (if 0 ≤ (wrap64 (Int.tdiv x9_2 20)) then (if (wrap64 (Int.tdiv x9_2 20)) < (l0.length : Int) then (if ((rdOf false t342 x9_2) == (rdOf false l0 (wrap64 (Int.tdiv x9_2 20)))) = true then (some false) else (busbarlaw01_CellBack.l0 kj14 l0 t342 t345 1 (wrap64 (x9_2 + 1)))) else (none)) else (none)) else (none)) else (none)) else (busbarlaw01_CellBack.l0 kj14 l0 t342 t345 1 (wrap64 (x9_2 + 1))))) = some r := by rw [if_neg (show ¬ (false = true) by decide)] at H; exact H
                        clear H
                        have H := H1
                        clear H1
                        by_cases c59 : (Int.tmod x9_2 20) = 0
                        · rw [if_pos c59] at H
                          have c59b0 : ((Int.tmod x9_2 20) == 0) = true := beq_iff_eq.mpr c59
                          have c59b1 : ((Int.tmod x9_2 20) != 0) = false := bne_eq_false_iff_eq.mpr c59
                          clear c59
                          by_cases c60 : 0 ≤ x9_2
                          · rw [if_pos c60] at H
                            have c60b0 : decide (0 ≤ x9_2) = true := decide_eq_true c60
                            (try (have c60b1 : decide ((x9_2 : Int) < 0) = false := decide_eq_false (Int.not_lt.mpr c60)))
                            clear c60
                            by_cases c61 : x9_2 < (t342.length : Int)
                            · rw [if_pos c61] at H
                              have c61b0 : decide (x9_2 < (t342.length : Int)) = true := decide_eq_true c61
                              (try (have c61b1 : decide (((t342.length : Int) : Int) ≤ x9_2) = false := decide_eq_false (Int.not_le.mpr c61)))
                              clear c61
                              obtain ⟨ji62, hji62⟩ : ∃ j_ : Int, (wrap64 (Int.tdiv x9_2 20)) = j_ := ⟨_, rfl⟩
                              replace H : (if 0 ≤ (ji62) then (if (ji62) < (l0.length : Int) then (if ((rdOf false t342 x9_2) != (rdOf false l0 (ji62))) = true then (some false) else (busbarlaw01_CellBack.l0 kj14 l0 t342 t345 1 (wrap64 (x9_2 + 1)))) else (none)) else (none)) = some r := by first | (rw [hji62] at H; exact H) | (simp only [hji62] at H ⊢; exact H)
                              have hji62w : (IntKind.i64.wrap (Int.tdiv x9_2 20)) = ji62 := (i64_w _).trans hji62
                              by_cases c63 : 0 ≤ (ji62)
                              · rw [if_pos c63] at H
                                have c63b0 : decide (0 ≤ (ji62)) = true := decide_eq_true c63
                                (try (have c63b1 : decide (((ji62) : Int) < 0) = false := decide_eq_false (Int.not_lt.mpr c63)))
                                clear c63
                                by_cases c64 : (ji62) < (l0.length : Int)
                                · rw [if_pos c64] at H
                                  have c64b0 : decide ((ji62) < (l0.length : Int)) = true := decide_eq_true c64
                                  (try (have c64b1 : decide (((l0.length : Int) : Int) ≤ (ji62)) = false := decide_eq_false (Int.not_le.mpr c64)))
                                  clear c64
                                  by_cases c65 : ((rdOf false t342 x9_2) != (rdOf false l0 (ji62))) = true
                                  · rw [if_pos c65] at H
                                    have c65b0 : ((rdOf false t342 x9_2) != (rdOf false l0 (ji62))) = true := c65
                                    (try (have c65b1 : decide ((rdOf false t342 x9_2) = (rdOf false l0 (ji62))) = false := by simpa using c65))
                                    (try (have c65b2 : ((rdOf false t342 x9_2) == (rdOf false l0 (ji62))) = false := by simpa using c65))
                                    (try (have c65b3 : ¬ ((rdOf false t342 x9_2) = (rdOf false l0 (ji62))) := by simpa using c65))
                                    clear c65
                                    obtain rfl := Option.some.inj H
                                    have p355 : 0 ≤ (x9_2 : Int) := of_decide_eq_true (by first | (with_reducible assumption) | assumption)
                                    have q355 : x9_2 < (t342.length : Int) := of_decide_eq_true (by first | (with_reducible assumption) | assumption)
                                    obtain ⟨ad355, e355, hx355_0⟩ := Kd.at_bool (Kd.R_reads' HO_5.out).2.2 x9_2 p355 q355
                                    cases e355
                                    replace p355 := eq_true p355
                                    replace q355 := eq_true q355
                                    have p356 : 0 ≤ ((ji62) : Int) := of_decide_eq_true (by first | (with_reducible assumption) | assumption)
                                    have q356 : (ji62) < (l0.length : Int) := of_decide_eq_true (by first | (with_reducible assumption) | assumption)
                                    obtain ⟨ad356, e356, hx356_0⟩ := Kd.at_bool HR0.out (ji62) p356 q356
                                    cases e356
                                    replace hx356_0 := (HB.out.cell (World.block_lt_of_cell? w _ hx356_0)).trans hx356_0
                                    replace p356 := eq_true p356
                                    replace q356 := eq_true q356
                                    go_wp2
                                    repeat (go_quiet (fail); try go_wp2)
                                    go_ret
                                    exact ⟨by first | rfl | (simp [errW_none, errW_some] <;> rfl) | (simp only [← hji62]; first | rfl | (simp [errW_none, errW_some] <;> rfl)) | (simp [*, errW_none, errW_some] <;> rfl), by repeat (first | (with_reducible first | exact HB.out | apply below_alloc | apply pw_below_drewN | apply below_drew1) | exact HB.out)⟩
                                  · rw [if_neg c65] at H
                                    have c65b0 : ((rdOf false t342 x9_2) != (rdOf false l0 (ji62))) = false := by simpa using c65
                                    (try (have c65b1 : decide ((rdOf false t342 x9_2) = (rdOf false l0 (ji62))) = true := by simpa using c65))
                                    (try (have c65b2 : ((rdOf false t342 x9_2) == (rdOf false l0 (ji62))) = true := by simpa using c65))
                                    clear c65
                                    have c66b0 : ((Int.tmod x9_2 20) == 19) = false := by have h_ := eq_of_beq (show ((Int.tmod x9_2 20) == 0) = true by first | assumption | decide); rw [h_]; rfl
                                    have c67b0 : ((Int.tmod x9_2 20) != 19) = true := by have h_ := eq_of_beq (show ((Int.tmod x9_2 20) == 0) = true by first | assumption | decide); rw [h_]; rfl
                                    have c68b0 : ((Int.tmod x9_2 20) == 19) = false := by have h_ := eq_of_beq (show ((Int.tmod x9_2 20) == 0) = true by first | assumption | decide); rw [h_]; rfl
                                    have c69b0 : ((Int.tmod x9_2 20) != 19) = true := by have h_ := eq_of_beq (show ((Int.tmod x9_2 20) == 0) = true by first | assumption | decide); rw [h_]; rfl
                                    have c70b0 : ((Int.tmod x9_2 20) == 19) = false := by have h_ := eq_of_beq (show ((Int.tmod x9_2 20) == 0) = true by first | assumption | decide); rw [h_]; rfl
                                    have c71b0 : ((Int.tmod x9_2 20) != 19) = true := by have h_ := eq_of_beq (show ((Int.tmod x9_2 20) == 0) = true by first | assumption | decide); rw [h_]; rfl
                                    have c72b0 : ((Int.tmod x9_2 20) == 19) = false := by have h_ := eq_of_beq (show ((Int.tmod x9_2 20) == 0) = true by first | assumption | decide); rw [h_]; rfl
                                    have c73b0 : ((Int.tmod x9_2 20) != 19) = true := by have h_ := eq_of_beq (show ((Int.tmod x9_2 20) == 0) = true by first | assumption | decide); rw [h_]; rfl
                                    have c74b0 : ((Int.tmod x9_2 20) == 19) = false := by have h_ := eq_of_beq (show ((Int.tmod x9_2 20) == 0) = true by first | assumption | decide); rw [h_]; rfl
                                    have c75b0 : ((Int.tmod x9_2 20) != 19) = true := by have h_ := eq_of_beq (show ((Int.tmod x9_2 20) == 0) = true by first | assumption | decide); rw [h_]; rfl
                                    have c76b0 : ((Int.tmod x9_2 20) == 19) = false := by have h_ := eq_of_beq (show ((Int.tmod x9_2 20) == 0) = true by first | assumption | decide); rw [h_]; rfl
                                    have c77b0 : ((Int.tmod x9_2 20) != 19) = true := by have h_ := eq_of_beq (show ((Int.tmod x9_2 20) == 0) = true by first | assumption | decide); rw [h_]; rfl
                                    have c78b0 : ((Int.tmod x9_2 20) == 19) = false := by have h_ := eq_of_beq (show ((Int.tmod x9_2 20) == 0) = true by first | assumption | decide); rw [h_]; rfl
                                    have c79b0 : ((Int.tmod x9_2 20) != 19) = true := by have h_ := eq_of_beq (show ((Int.tmod x9_2 20) == 0) = true by first | assumption | decide); rw [h_]; rfl
                                    have c80b0 : ((Int.tmod x9_2 20) == 19) = false := by have h_ := eq_of_beq (show ((Int.tmod x9_2 20) == 0) = true by first | assumption | decide); rw [h_]; rfl
                                    have c81b0 : ((Int.tmod x9_2 20) != 19) = true := by have h_ := eq_of_beq (show ((Int.tmod x9_2 20) == 0) = true by first | assumption | decide); rw [h_]; rfl
                                    have c82b0 : ((Int.tmod x9_2 20) == 19) = false := by have h_ := eq_of_beq (show ((Int.tmod x9_2 20) == 0) = true by first | assumption | decide); rw [h_]; rfl
                                    have c83b0 : ((Int.tmod x9_2 20) != 19) = true := by have h_ := eq_of_beq (show ((Int.tmod x9_2 20) == 0) = true by first | assumption | decide); rw [h_]; rfl
                                    have c84b0 : ((Int.tmod x9_2 20) == 19) = false := by have h_ := eq_of_beq (show ((Int.tmod x9_2 20) == 0) = true by first | assumption | decide); rw [h_]; rfl
                                    have c85b0 : ((Int.tmod x9_2 20) != 19) = true := by have h_ := eq_of_beq (show ((Int.tmod x9_2 20) == 0) = true by first | assumption | decide); rw [h_]; rfl
                                    have c86b0 : ((Int.tmod x9_2 20) == 19) = false := by have h_ := eq_of_beq (show ((Int.tmod x9_2 20) == 0) = true by first | assumption | decide); rw [h_]; rfl
                                    have c87b0 : ((Int.tmod x9_2 20) != 19) = true := by have h_ := eq_of_beq (show ((Int.tmod x9_2 20) == 0) = true by first | assumption | decide); rw [h_]; rfl
                                    have H' := Aside0.mk H
                                    clear H
                                    have p355 : 0 ≤ (x9_2 : Int) := of_decide_eq_true (by first | (with_reducible assumption) | assumption)
                                    have q355 : x9_2 < (t342.length : Int) := of_decide_eq_true (by first | (with_reducible assumption) | assumption)
                                    obtain ⟨ad355, e355, hx355_0⟩ := Kd.at_bool (Kd.R_reads' HO_5.out).2.2 x9_2 p355 q355
                                    cases e355
                                    replace p355 := eq_true p355
                                    replace q355 := eq_true q355
                                    have p356 : 0 ≤ ((ji62) : Int) := of_decide_eq_true (by first | (with_reducible assumption) | assumption)
                                    have q356 : (ji62) < (l0.length : Int) := of_decide_eq_true (by first | (with_reducible assumption) | assumption)
                                    obtain ⟨ad356, e356, hx356_0⟩ := Kd.at_bool HR0.out (ji62) p356 q356
                                    cases e356
                                    replace hx356_0 := (HB.out.cell (World.block_lt_of_cell? w _ hx356_0)).trans hx356_0
                                    replace p356 := eq_true p356
                                    replace q356 := eq_true q356
                                    go_wp2
                                    repeat (go_quiet (fail); try go_wp2)
                                    go_roundg kj14
                                    case measure => have := HJ6.out; have := HK2.out; have := HJ14.out; omega
                                    case rel => exact ⟨(1), (wrap64 (x9_2 + 1)), (by first | rfl | (simp; done) | (simp [*]; done)), (by first | rfl | (simp; done) | (simp [*]; done)), H', ⟨by have := HJ6.out; have := HK2.out; have := HJ14.out; omega⟩, ⟨by (with_reducible repeat (first | apply Kd.R_alloc | apply Kd.R_drewN | apply Kd.R_drew)); exact HO_5.out⟩, ⟨by (with_reducible repeat (first | apply Kd.R_alloc | apply Kd.R_drewN | apply Kd.R_drew)); exact HO_6.out⟩, ⟨by repeat (first | (with_reducible first | exact HB.out | apply below_alloc | apply pw_below_drewN | apply below_drew1) | exact HB.out)⟩⟩
                                · rw [if_neg c64] at H
                                  exact absurd H (by simp)
                              · rw [if_neg c63] at H
                                exact absurd H (by simp)
                            · rw [if_neg c61] at H
                              exact absurd H (by simp)
                          · rw [if_neg c60] at H
                            exact absurd H (by simp)
                        · rw [if_neg c59] at H
                          have c59b0 : ((Int.tmod x9_2 20) == 0) = false := beq_eq_false_iff_ne.mpr c59
                          have c59b1 : ((Int.tmod x9_2 20) != 0) = true := bne_iff_ne.mpr c59
                          by_cases c88 : (Int.tmod x9_2 20) = 19
                          · rw [if_pos c88] at H
                            have c88b0 : ((Int.tmod x9_2 20) == 19) = true := beq_iff_eq.mpr c88
                            have c88b1 : ((Int.tmod x9_2 20) != 19) = false := bne_eq_false_iff_eq.mpr c88
                            clear c88
                            by_cases c89 : 0 ≤ x9_2
                            · rw [if_pos c89] at H
                              have c89b0 : decide (0 ≤ x9_2) = true := decide_eq_true c89
                              (try (have c89b1 : decide ((x9_2 : Int) < 0) = false := decide_eq_false (Int.not_lt.mpr c89)))
                              clear c89
                              by_cases c90 : x9_2 < (t342.length : Int)
                              · rw [if_pos c90] at H
                                have c90b0 : decide (x9_2 < (t342.length : Int)) = true := decide_eq_true c90
                                (try (have c90b1 : decide (((t342.length : Int) : Int) ≤ x9_2) = false := decide_eq_false (Int.not_le.mpr c90)))
                                clear c90
                                obtain ⟨ji91, hji91⟩ : ∃ j_ : Int, (wrap64 (Int.tdiv x9_2 20)) = j_ := ⟨_, rfl⟩
                                replace H : (if 0 ≤ (ji91) then (if (ji91) < (l0.length : Int) then (if ((rdOf false t342 x9_2) == (rdOf false l0 (ji91))) = true then (some false) else (busbarlaw01_CellBack.l0 kj14 l0 t342 t345 1 (wrap64 (x9_2 + 1)))) else (none)) else (none)) = some r := by first | (rw [hji91] at H; exact H) | (simp only [hji91] at H ⊢; exact H)
                                have hji91w : (IntKind.i64.wrap (Int.tdiv x9_2 20)) = ji91 := (i64_w _).trans hji91
                                by_cases c92 : 0 ≤ (ji91)
                                · rw [if_pos c92] at H
                                  have c92b0 : decide (0 ≤ (ji91)) = true := decide_eq_true c92
                                  (try (have c92b1 : decide (((ji91) : Int) < 0) = false := decide_eq_false (Int.not_lt.mpr c92)))
                                  clear c92
                                  by_cases c93 : (ji91) < (l0.length : Int)
                                  · rw [if_pos c93] at H
                                    have c93b0 : decide ((ji91) < (l0.length : Int)) = true := decide_eq_true c93
                                    (try (have c93b1 : decide (((l0.length : Int) : Int) ≤ (ji91)) = false := decide_eq_false (Int.not_le.mpr c93)))
                                    clear c93
                                    by_cases c94 : ((rdOf false t342 x9_2) == (rdOf false l0 (ji91))) = true
                                    · rw [if_pos c94] at H
                                      have c94b0 : ((rdOf false t342 x9_2) == (rdOf false l0 (ji91))) = true := c94
                                      (try (have c94b1 : decide ((rdOf false t342 x9_2) = (rdOf false l0 (ji91))) = true := by simpa using c94))
                                      (try (have c94b2 : ((rdOf false t342 x9_2) == (rdOf false l0 (ji91))) = true := by simpa using c94))
                                      clear c94
                                      obtain rfl := Option.some.inj H
                                      have p357 : 0 ≤ (x9_2 : Int) := of_decide_eq_true (by first | (with_reducible assumption) | assumption)
                                      have q357 : x9_2 < (t342.length : Int) := of_decide_eq_true (by first | (with_reducible assumption) | assumption)
                                      obtain ⟨ad357, e357, hx357_0⟩ := Kd.at_bool (Kd.R_reads' HO_5.out).2.2 x9_2 p357 q357
                                      cases e357
                                      replace p357 := eq_true p357
                                      replace q357 := eq_true q357
                                      have p358 : 0 ≤ ((ji91) : Int) := of_decide_eq_true (by first | (with_reducible assumption) | assumption)
                                      have q358 : (ji91) < (l0.length : Int) := of_decide_eq_true (by first | (with_reducible assumption) | assumption)
                                      obtain ⟨ad358, e358, hx358_0⟩ := Kd.at_bool HR0.out (ji91) p358 q358
                                      cases e358
                                      replace hx358_0 := (HB.out.cell (World.block_lt_of_cell? w _ hx358_0)).trans hx358_0
                                      replace p358 := eq_true p358
                                      replace q358 := eq_true q358
                                      go_wp2
                                      repeat (go_quiet (fail); try go_wp2)
                                      go_ret
                                      exact ⟨by first | rfl | (simp [errW_none, errW_some] <;> rfl) | (simp only [← hji91]; first | rfl | (simp [errW_none, errW_some] <;> rfl)) | (simp [*, errW_none, errW_some] <;> rfl), by repeat (first | (with_reducible first | exact HB.out | apply below_alloc | apply pw_below_drewN | apply below_drew1) | exact HB.out)⟩
                                    · rw [if_neg c94] at H
                                      have c94b0 : ((rdOf false t342 x9_2) == (rdOf false l0 (ji91))) = false := by simpa using c94
                                      (try (have c94b1 : decide ((rdOf false t342 x9_2) = (rdOf false l0 (ji91))) = false := by simpa using c94))
                                      (try (have c94b2 : ((rdOf false t342 x9_2) == (rdOf false l0 (ji91))) = false := by simpa using c94))
                                      (try (have c94b3 : ¬ ((rdOf false t342 x9_2) = (rdOf false l0 (ji91))) := by simpa using c94))
                                      clear c94
                                      have H' := Aside0.mk H
                                      clear H
                                      have p357 : 0 ≤ (x9_2 : Int) := of_decide_eq_true (by first | (with_reducible assumption) | assumption)
                                      have q357 : x9_2 < (t342.length : Int) := of_decide_eq_true (by first | (with_reducible assumption) | assumption)
                                      obtain ⟨ad357, e357, hx357_0⟩ := Kd.at_bool (Kd.R_reads' HO_5.out).2.2 x9_2 p357 q357
                                      cases e357
                                      replace p357 := eq_true p357
                                      replace q357 := eq_true q357
                                      have p358 : 0 ≤ ((ji91) : Int) := of_decide_eq_true (by first | (with_reducible assumption) | assumption)
                                      have q358 : (ji91) < (l0.length : Int) := of_decide_eq_true (by first | (with_reducible assumption) | assumption)
                                      obtain ⟨ad358, e358, hx358_0⟩ := Kd.at_bool HR0.out (ji91) p358 q358
                                      cases e358
                                      replace hx358_0 := (HB.out.cell (World.block_lt_of_cell? w _ hx358_0)).trans hx358_0
                                      replace p358 := eq_true p358
                                      replace q358 := eq_true q358
                                      go_wp2
                                      repeat (go_quiet (fail); try go_wp2)
                                      go_roundg kj14
                                      case measure => have := HJ6.out; have := HK2.out; have := HJ14.out; omega
                                      case rel => exact ⟨(1), (wrap64 (x9_2 + 1)), (by first | rfl | (simp; done) | (simp [*]; done)), (by first | rfl | (simp; done) | (simp [*]; done)), H', ⟨by have := HJ6.out; have := HK2.out; have := HJ14.out; omega⟩, ⟨by (with_reducible repeat (first | apply Kd.R_alloc | apply Kd.R_drewN | apply Kd.R_drew)); exact HO_5.out⟩, ⟨by (with_reducible repeat (first | apply Kd.R_alloc | apply Kd.R_drewN | apply Kd.R_drew)); exact HO_6.out⟩, ⟨by repeat (first | (with_reducible first | exact HB.out | apply below_alloc | apply pw_below_drewN | apply below_drew1) | exact HB.out)⟩⟩
                                  · rw [if_neg c93] at H
                                    exact absurd H (by simp)
                                · rw [if_neg c92] at H
                                  exact absurd H (by simp)
                              · rw [if_neg c90] at H
                                exact absurd H (by simp)
                            · rw [if_neg c89] at H
                              exact absurd H (by simp)
                          · rw [if_neg c88] at H
                            have c88b0 : ((Int.tmod x9_2 20) == 19) = false := beq_eq_false_iff_ne.mpr c88
                            have c88b1 : ((Int.tmod x9_2 20) != 19) = true := bne_iff_ne.mpr c88
                            have H' := Aside0.mk H
                            clear H
                            go_wp2
                            repeat (go_quiet (fail); try go_wp2)
                            go_roundg kj14
                            case measure => have := HJ6.out; have := HK2.out; have := HJ14.out; omega
                            case rel => exact ⟨(1), (wrap64 (x9_2 + 1)), (by first | rfl | (simp; done) | (simp [*]; done)), (by first | rfl | (simp; done) | (simp [*]; done)), H', ⟨by have := HJ6.out; have := HK2.out; have := HJ14.out; omega⟩, ⟨by (with_reducible repeat (first | apply Kd.R_alloc | apply Kd.R_drewN | apply Kd.R_drew)); exact HO_5.out⟩, ⟨by (with_reducible repeat (first | apply Kd.R_alloc | apply Kd.R_drewN | apply Kd.R_drew)); exact HO_6.out⟩, ⟨by repeat (first | (with_reducible first | exact HB.out | apply below_alloc | apply pw_below_drewN | apply below_drew1) | exact HB.out)⟩⟩
                · rw [if_neg c14] at H
                  have c14b0 : decide (x9_2 < (t342.length : Int)) = false := decide_eq_false c14
                  (try (have c14b1 : decide (((t342.length : Int) : Int) ≤ x9_2) = true := decide_eq_true (Int.not_lt.mp c14)))
                  clear c14
                  have H' := Aside0.mk H
                  clear H
                  go_wp2
                  repeat (go_quiet (fail); try go_wp2)
                  go_loopg [10] k2 (fun kq v10 w' => ∃ (x10_3 : Int), v10 = .int .i64 x10_3 ∧ Aside0 (busbarlaw01_CellBack.l1 kq l0 t345 x10_3 = some r) ∧ Aside0 (kq ≤ k2) ∧ Aside0 (Kd.R Kd.bool 4 w' w.heap.size (fun _ => True) v347 t345) ∧ Aside0 (Below w.heap.size w w'))
                  case atStart => exact ⟨(0), (by first | rfl | (simp; done) | (simp [*]; done)), H', ⟨Nat.le_refl _⟩, ⟨by (with_reducible repeat (first | apply Kd.R_alloc | apply Kd.R_drewN | apply Kd.R_drew)); exact Kd.R_mono HO_6.out (fun _ hk => trivial)⟩, ⟨by repeat (first | (with_reducible first | exact HB.out | apply below_alloc | apply pw_below_drewN | apply below_drew1) | exact HB.out)⟩⟩
                  case round =>
                    clear H'
                    try clear c1
                    try clear c2
                    try clear p2
                    try clear c3
                    try clear c3b0
                    try clear c3b1
                    try clear c3b2
                    try clear p3
                    try clear q3
                    try clear hx3
                    try clear c4
                    try clear c5
                    try clear c5b0
                    try clear c5b1
                    try clear c6
                    try clear p6
                    try clear c7
                    try clear c8
                    try clear c9
                    try clear c11
                    try clear c13
                    try clear c14
                    try clear c14b0
                    try clear c14b1
                    try clear c16
                    try clear c16b0
                    try clear c16b1
                    try clear c17
                    try clear c17b0
                    try clear c17b1
                    try clear c19
                    try clear c19b0
                    try clear c19b1
                    try clear c20
                    try clear c20b0
                    try clear c20b1
                    try clear c21
                    try clear c22
                    try clear c22b0
                    try clear c22b1
                    try clear c23
                    try clear c23b0
                    try clear c23b1
                    try clear c24
                    try clear c24b0
                    try clear c24b1
                    try clear c25
                    try clear c25b0
                    try clear c25b1
                    try clear c27
                    try clear c27b0
                    try clear c27b1
                    try clear c28
                    try clear c28b0
                    try clear c28b1
                    try clear c29
                    try clear c29b0
                    try clear c29b1
                    try clear c29b2
                    try clear c30
                    try clear c30b0
                    try clear c31
                    try clear c31b0
                    try clear c32
                    try clear c32b0
                    try clear c33
                    try clear c33b0
                    try clear c34
                    try clear c34b0
                    try clear p34
                    try clear q34
                    try clear hx34
                    try clear c35
                    try clear c35b0
                    try clear p35
                    try clear q35
                    try clear hx35
                    try clear c36
                    try clear c36b0
                    try clear c37
                    try clear c37b0
                    try clear c38
                    try clear c38b0
                    try clear c39
                    try clear c39b0
                    try clear c40
                    try clear c40b0
                    try clear c41
                    try clear c41b0
                    try clear c42
                    try clear c42b0
                    try clear c43
                    try clear c43b0
                    try clear c44
                    try clear c44b0
                    try clear c45
                    try clear c45b0
                    try clear c46
                    try clear c46b0
                    try clear c47
                    try clear c47b0
                    try clear c48
                    try clear c48b0
                    try clear c49
                    try clear c49b0
                    try clear c50
                    try clear c50b0
                    try clear c51
                    try clear c51b0
                    try clear c52
                    try clear c52b0
                    try clear c52b1
                    try clear c53
                    try clear c53b0
                    try clear c53b1
                    try clear c54
                    try clear c54b0
                    try clear c54b1
                    try clear c56
                    try clear c56b0
                    try clear c56b1
                    try clear c57
                    try clear c57b0
                    try clear c57b1
                    try clear c58
                    try clear c58b0
                    try clear c58b1
                    try clear c58b2
                    try clear c59
                    try clear c59b0
                    try clear c59b1
                    try clear c60
                    try clear c60b0
                    try clear c60b1
                    try clear c61
                    try clear c61b0
                    try clear c61b1
                    try clear c63
                    try clear c63b0
                    try clear c63b1
                    try clear c64
                    try clear c64b0
                    try clear c64b1
                    try clear p64
                    try clear c65
                    try clear c65b0
                    try clear c65b1
                    try clear c65b2
                    try clear c66
                    try clear c66b0
                    try clear c67
                    try clear c67b0
                    try clear c68
                    try clear c68b0
                    try clear c69
                    try clear c69b0
                    try clear c70
                    try clear c70b0
                    try clear c71
                    try clear c71b0
                    try clear c72
                    try clear c72b0
                    try clear c73
                    try clear c73b0
                    try clear c74
                    try clear c74b0
                    try clear c75
                    try clear c75b0
                    try clear c76
                    try clear c76b0
                    try clear c77
                    try clear c77b0
                    try clear c78
                    try clear c78b0
                    try clear c79
                    try clear c79b0
                    try clear c80
                    try clear c80b0
                    try clear c81
                    try clear c81b0
                    try clear c82
                    try clear c82b0
                    try clear c83
                    try clear c83b0
                    try clear c84
                    try clear c84b0
                    try clear c85
                    try clear c85b0
                    try clear c86
                    try clear c86b0
                    try clear c87
                    try clear c87b0
                    try clear c88
                    try clear c88b0
                    try clear c88b1
                    try clear c89
                    try clear c89b0
                    try clear c89b1
                    try clear c90
                    try clear c90b0
                    try clear c90b1
                    try clear c92
                    try clear c92b0
                    try clear c92b1
                    try clear c93
                    try clear c93b0
                    try clear c93b1
                    try clear c94
                    try clear c94b0
                    try clear c94b1
                    try clear c94b2
                    try clear hx349_0
                    try clear hx350_0
                    try clear hx351_0
                    try clear hx352_0
                    try clear hx353_0
                    try clear hx354_0
                    try clear hx355_0
                    try clear hx356_0
                    try clear hx357_0
                    try clear hx358_0
                    try clear p2
                    try clear p3
                    try clear p349
                    try clear p350
                    try clear p351
                    try clear p352
                    try clear p353
                    try clear p354
                    try clear p355
                    try clear p356
                    try clear p357
                    try clear p358
                    try clear p6
                    try clear q3
                    try clear q349
                    try clear q350
                    try clear q351
                    try clear q352
                    try clear q353
                    try clear q354
                    try clear q355
                    try clear q356
                    try clear q357
                    try clear q358
                    obtain ⟨x10_3, rfl, HA, HK3, HO_6, HB⟩ := hrel
                    cases gk with
                    | zero => exact absurd HA.out (by simp [busbarlaw01_CellBack.l1])
                    | succ k3 =>
                      have H := HA.out
                      clear HA
                      simp only [busbarlaw01_CellBack.l1] at H
                      by_cases c95 : x10_3 < (l0.length : Int)
                      · rw [if_pos c95] at H
                        have c95b0 : decide (x10_3 < (l0.length : Int)) = true := decide_eq_true c95
                        (try (have c95b1 : decide (((l0.length : Int) : Int) ≤ x10_3) = false := decide_eq_false (Int.not_le.mpr c95)))
                        clear c95
                        by_cases c96 : 0 ≤ x10_3
                        · rw [if_pos c96] at H
                          have c96b0 : decide (0 ≤ x10_3) = true := decide_eq_true c96
                          (try (have c96b1 : decide ((x10_3 : Int) < 0) = false := decide_eq_false (Int.not_lt.mpr c96)))
                          clear c96
                          by_cases c97 : x10_3 < (t345.length : Int)
                          · rw [if_pos c97] at H
                            have c97b0 : decide (x10_3 < (t345.length : Int)) = true := decide_eq_true c97
                            (try (have c97b1 : decide (((t345.length : Int) : Int) ≤ x10_3) = false := decide_eq_false (Int.not_le.mpr c97)))
                            clear c97
                            by_cases c98 : ((rdOf false t345 x10_3) != (rdOf false l0 x10_3)) = true
                            · rw [if_pos c98] at H
                              have c98b0 : ((rdOf false t345 x10_3) != (rdOf false l0 x10_3)) = true := c98
                              (try (have c98b1 : decide ((rdOf false t345 x10_3) = (rdOf false l0 x10_3)) = false := by simpa using c98))
                              (try (have c98b2 : ((rdOf false t345 x10_3) == (rdOf false l0 x10_3)) = false := by simpa using c98))
                              (try (have c98b3 : ¬ ((rdOf false t345 x10_3) = (rdOf false l0 x10_3)) := by simpa using c98))
                              clear c98
                              obtain rfl := Option.some.inj H
                              obtain ⟨Ao99, co99, eo99⟩ := Kd.R_slice HO_6.out
                              subst eo99
                              have p359 : 0 ≤ (x10_3 : Int) := of_decide_eq_true (by first | (with_reducible assumption) | assumption)
                              have q359 : x10_3 < (t345.length : Int) := of_decide_eq_true (by first | (with_reducible assumption) | assumption)
                              obtain ⟨ad359, e359, hx359_0⟩ := Kd.at_bool (Kd.R_reads' HO_6.out).2.2 x10_3 p359 q359
                              cases e359
                              replace p359 := eq_true p359
                              replace q359 := eq_true q359
                              have p360 : 0 ≤ (x10_3 : Int) := of_decide_eq_true (by first | (with_reducible assumption) | assumption)
                              have q360 : x10_3 < (l0.length : Int) := of_decide_eq_true (by first | (with_reducible assumption) | assumption)
                              obtain ⟨ad360, e360, hx360_0⟩ := Kd.at_bool HR0.out x10_3 p360 q360
                              cases e360
                              replace hx360_0 := (HB.out.cell (World.block_lt_of_cell? w _ hx360_0)).trans hx360_0
                              replace p360 := eq_true p360
                              replace q360 := eq_true q360
                              go_wp2
                              repeat (go_quiet (fail); try go_wp2)
                              go_ret
                              exact ⟨by first | rfl | (simp [errW_none, errW_some] <;> rfl) | (simp [*, errW_none, errW_some] <;> rfl), by repeat (first | (with_reducible first | exact HB.out | apply below_alloc | apply pw_below_drewN | apply below_drew1) | exact HB.out)⟩
                            · rw [if_neg c98] at H
                              have c98b0 : ((rdOf false t345 x10_3) != (rdOf false l0 x10_3)) = false := by simpa using c98
                              (try (have c98b1 : decide ((rdOf false t345 x10_3) = (rdOf false l0 x10_3)) = true := by simpa using c98))
                              (try (have c98b2 : ((rdOf false t345 x10_3) == (rdOf false l0 x10_3)) = true := by simpa using c98))
                              clear c98
                              have H' := Aside0.mk H
                              clear H
                              obtain ⟨Ao100, co100, eo100⟩ := Kd.R_slice HO_6.out
                              subst eo100
                              have p359 : 0 ≤ (x10_3 : Int) := of_decide_eq_true (by first | (with_reducible assumption) | assumption)
                              have q359 : x10_3 < (t345.length : Int) := of_decide_eq_true (by first | (with_reducible assumption) | assumption)
                              obtain ⟨ad359, e359, hx359_0⟩ := Kd.at_bool (Kd.R_reads' HO_6.out).2.2 x10_3 p359 q359
                              cases e359
                              replace p359 := eq_true p359
                              replace q359 := eq_true q359
                              have p360 : 0 ≤ (x10_3 : Int) := of_decide_eq_true (by first | (with_reducible assumption) | assumption)
                              have q360 : x10_3 < (l0.length : Int) := of_decide_eq_true (by first | (with_reducible assumption) | assumption)
                              obtain ⟨ad360, e360, hx360_0⟩ := Kd.at_bool HR0.out x10_3 p360 q360
                              cases e360
                              replace hx360_0 := (HB.out.cell (World.block_lt_of_cell? w _ hx360_0)).trans hx360_0
                              replace p360 := eq_true p360
                              replace q360 := eq_true q360
                              go_wp2
                              repeat (go_quiet (fail); try go_wp2)
                              go_roundg k3
                              case measure => have := HJ6.out; have := HK2.out; have := HK3.out; omega
                              case rel => exact ⟨(wrap64 (x10_3 + 1)), (by first | rfl | (simp; done) | (simp [*]; done)), H', ⟨by have := HJ6.out; have := HK2.out; have := HK3.out; omega⟩, ⟨by (with_reducible repeat (first | apply Kd.R_alloc | apply Kd.R_drewN | apply Kd.R_drew)); exact HO_6.out⟩, ⟨by repeat (first | (with_reducible first | exact HB.out | apply below_alloc | apply pw_below_drewN | apply below_drew1) | exact HB.out)⟩⟩
                          · rw [if_neg c97] at H
                            exact absurd H (by simp)
                        · rw [if_neg c96] at H
                          exact absurd H (by simp)
                      · rw [if_neg c95] at H
                        have c95b0 : decide (x10_3 < (l0.length : Int)) = false := decide_eq_false c95
                        (try (have c95b1 : decide (((l0.length : Int) : Int) ≤ x10_3) = true := decide_eq_true (Int.not_lt.mp c95)))
                        clear c95
                        replace H := Option.bind_eq_some_iff.mp H
                        obtain ⟨t361, A1010, H⟩ := H
                        replace H : (some t361) = some r := H
                        have A101 := Aside0.mk A1010
                        clear A1010
                        obtain rfl := Option.some.inj H
                        go_wp2_with (first | (go_at_call 46; (with_reducible refine (busbarlaw01_one.calls k3  t361 _ A101.out).mono ?_); rintro e w102 ⟨rfl, hb⟩; have n0_ := Aside0.mk (Kd.R_below (by (with_reducible repeat (first | apply Kd.R_alloc | apply Kd.R_drewN | apply Kd.R_drew)); exact HO_6.out) hb); have n1_ := Aside0.mk (below_step (by repeat (first | (with_reducible first | exact HB.out | apply below_alloc | apply pw_below_drewN | apply below_drew1) | exact HB.out)) hb); clear HO_6; clear HB; have HO_6 := n0_; have HB := n1_; clear n0_ n1_; (try clear hb); (try clear hb2); (try clear hk); (try clear hi)))
                        repeat (go_quiet (first | (go_at_call 46; (with_reducible refine (busbarlaw01_one.calls k3  t361 _ A101.out).mono ?_); rintro e w102 ⟨rfl, hb⟩; have n0_ := Aside0.mk (Kd.R_below (by (with_reducible repeat (first | apply Kd.R_alloc | apply Kd.R_drewN | apply Kd.R_drew)); exact HO_6.out) hb); have n1_ := Aside0.mk (below_step (by repeat (first | (with_reducible first | exact HB.out | apply below_alloc | apply pw_below_drewN | apply below_drew1) | exact HB.out)) hb); clear HO_6; clear HB; have HO_6 := n0_; have HB := n1_; clear n0_ n1_; (try clear hb); (try clear hb2); (try clear hk); (try clear hi))); try go_wp2_with (first | (go_at_call 46; (with_reducible refine (busbarlaw01_one.calls k3  t361 _ A101.out).mono ?_); rintro e w102 ⟨rfl, hb⟩; have n0_ := Aside0.mk (Kd.R_below (by (with_reducible repeat (first | apply Kd.R_alloc | apply Kd.R_drewN | apply Kd.R_drew)); exact HO_6.out) hb); have n1_ := Aside0.mk (below_step (by repeat (first | (with_reducible first | exact HB.out | apply below_alloc | apply pw_below_drewN | apply below_drew1) | exact HB.out)) hb); clear HO_6; clear HB; have HO_6 := n0_; have HB := n1_; clear n0_ n1_; (try clear hb); (try clear hb2); (try clear hk); (try clear hi))))
                        go_ret
                        exact ⟨by first | rfl | (simp [errW_none, errW_some] <;> rfl) | (simp [*, errW_none, errW_some] <;> rfl), by repeat (first | (with_reducible first | exact HB.out | apply below_alloc | apply pw_below_drewN | apply below_drew1) | exact HB.out)⟩
    · rw [if_neg c5] at H
      have c5b0 : ((t342.length : Int) == (wrap64 (20 * (l0.length : Int)))) = false := beq_eq_false_iff_ne.mpr c5
      have c5b1 : ((t342.length : Int) != (wrap64 (20 * (l0.length : Int)))) = true := bne_iff_ne.mpr c5
      obtain rfl := Option.some.inj H
      go_enter Try.func13, Try.ntmps13
      go_wp2_with (first | (go_at_call 47; (with_reducible refine (cell_Wave.calls k _ _ l0 t342 _ ?side1 ?side2 A4.out).mono ?_); (case side1 => repeat (first | exact HR0.out | (with_reducible refine Kd.C_alloc ?_ _) | (with_reducible refine Kd.C_drewN ?_ _) | (with_reducible refine Kd.C_drew ?_))); (case side2 => exact HC0.out); rintro e w103 ⟨v343, rfl, ho0, hb⟩; have n0_ := Aside0.mk (Kd.R_lower ho0 (below_size (by repeat (first | (with_reducible first | exact HB.out | apply below_alloc | apply pw_below_drewN | apply below_drew1) | exact HB.out)))); have n1_ := Aside0.mk (below_step (by repeat (first | (with_reducible first | exact HB.out | apply below_alloc | apply pw_below_drewN | apply below_drew1) | exact HB.out)) hb); clear HB; have HO344 := n0_; have HB := n1_; clear n0_ n1_; (try clear hb); (try clear hb2); (try clear hk); (try clear hi); (try clear ho0); obtain ⟨Ao104, co104, eo104⟩ := Kd.R_slice HO344.out; subst eo104))
      repeat (go_quiet (first | (go_at_call 47; (with_reducible refine (cell_Wave.calls k _ _ l0 t342 _ ?side1 ?side2 A4.out).mono ?_); (case side1 => repeat (first | exact HR0.out | (with_reducible refine Kd.C_alloc ?_ _) | (with_reducible refine Kd.C_drewN ?_ _) | (with_reducible refine Kd.C_drew ?_))); (case side2 => exact HC0.out); rintro e w103 ⟨v343, rfl, ho0, hb⟩; have n0_ := Aside0.mk (Kd.R_lower ho0 (below_size (by repeat (first | (with_reducible first | exact HB.out | apply below_alloc | apply pw_below_drewN | apply below_drew1) | exact HB.out)))); have n1_ := Aside0.mk (below_step (by repeat (first | (with_reducible first | exact HB.out | apply below_alloc | apply pw_below_drewN | apply below_drew1) | exact HB.out)) hb); clear HB; have HO344 := n0_; have HB := n1_; clear n0_ n1_; (try clear hb); (try clear hb2); (try clear hk); (try clear hi); (try clear ho0); obtain ⟨Ao104, co104, eo104⟩ := Kd.R_slice HO344.out; subst eo104)); try go_wp2_with (first | (go_at_call 47; (with_reducible refine (cell_Wave.calls k _ _ l0 t342 _ ?side1 ?side2 A4.out).mono ?_); (case side1 => repeat (first | exact HR0.out | (with_reducible refine Kd.C_alloc ?_ _) | (with_reducible refine Kd.C_drewN ?_ _) | (with_reducible refine Kd.C_drew ?_))); (case side2 => exact HC0.out); rintro e w103 ⟨v343, rfl, ho0, hb⟩; have n0_ := Aside0.mk (Kd.R_lower ho0 (below_size (by repeat (first | (with_reducible first | exact HB.out | apply below_alloc | apply pw_below_drewN | apply below_drew1) | exact HB.out)))); have n1_ := Aside0.mk (below_step (by repeat (first | (with_reducible first | exact HB.out | apply below_alloc | apply pw_below_drewN | apply below_drew1) | exact HB.out)) hb); clear HB; have HO344 := n0_; have HB := n1_; clear n0_ n1_; (try clear hb); (try clear hb2); (try clear hk); (try clear hi); (try clear ho0); obtain ⟨Ao104, co104, eo104⟩ := Kd.R_slice HO344.out; subst eo104)))
      go_ret
      exact ⟨by first | rfl | (simp [errW_none, errW_some] <;> rfl) | (simp [*, errW_none, errW_some] <;> rfl), by repeat (first | (with_reducible first | exact HB.out | apply below_alloc | apply pw_below_drewN | apply below_drew1) | exact HB.out)⟩

end Go.Proofs.Ytbidfjngmiggpaa.Q
