-- Written by a program of this session out of the translation. Not trusted: Lean checks it.
import Derived.Test.YtbidfjngmiggpaaQx0
namespace Go.Proofs.Ytbidfjngmiggpaa.Q
open Go.RowKit Go.Proofs.YtbidfjngmiggpaaW.PrintWords Go.Proofs.YtbidfjngmiggpaaW.PrintLast Go.Proofs.YtbidfjngmiggpaaW.PrintMore
attribute [local go_sem] max2_int min2_int max_two min_two max_three min_three max_four min_four   -- for this text's walks alone
set_option linter.unusedVariables false
set_option linter.unusedSimpArgs false

/-! ### busbarref01_Read: function 45 -/
mutual
def busbarref01_Read.l0 : Nat → List Bool → Int → List Bool → Int → Option (List Bool × Bool)
  | 0, _, _, _, _ => none
  | k + 1, x0, x1, x6, x7 => if x7 < (wrap64 ((x0.length : Int) / 20)) then (if x1 < (wrap64 ((-5) - (wrap64 (20 * x7)))) then (busbarref01_Read.j1 k x0 x1 x6 x7 true) else (busbarref01_Read.j1 k x0 x1 x6 x7 (decide (x1 > (wrap64 ((x0.length : Int) - (wrap64 (20 * x7)))))))) else (some (x6, true))
def busbarref01_Read.j1 : Nat → List Bool → Int → List Bool → Int → Bool → Option (List Bool × Bool)
  | 0, _, _, _, _, _ => none
  | k + 1, x0, x1, x6, x7, x29 => if x29 = true then (some (([] : List Bool), false)) else (if (wrap64 ((wrap64 ((wrap64 (20 * x7)) + 5)) + x1)) < 0 then (some (([] : List Bool), false)) else (if (wrap64 ((wrap64 ((wrap64 ((wrap64 (20 * x7)) + 5)) + x1)) + 10)) ≥ (x0.length : Int) then (some (([] : List Bool), false)) else (if 0 ≤ (wrap64 ((wrap64 ((wrap64 (20 * x7)) + 5)) + x1)) then (if (wrap64 ((wrap64 ((wrap64 (20 * x7)) + 5)) + x1)) < (x0.length : Int) then (if 0 ≤ (wrap64 ((wrap64 ((wrap64 ((wrap64 (20 * x7)) + 5)) + x1)) + 10)) then (if (wrap64 ((wrap64 ((wrap64 ((wrap64 (20 * x7)) + 5)) + x1)) + 10)) < (x0.length : Int) then (if ((rdOf false x0 (wrap64 ((wrap64 ((wrap64 (20 * x7)) + 5)) + x1))) == (rdOf false x0 (wrap64 ((wrap64 ((wrap64 ((wrap64 (20 * x7)) + 5)) + x1)) + 10)))) = true then (some (([] : List Bool), false)) else (if x6.length < 140737488355328 then (busbarref01_Read.l0 k x0 x1 (x6 ++ [rdOf false x0 (wrap64 ((wrap64 ((wrap64 (20 * x7)) + 5)) + x1))]) (wrap64 (x7 + 1))) else (none))) else (none)) else (none)) else (none)) else (none))))
end
def busbarref01_Read.f (k : Nat) (l0 : List Bool) (a1 : Int) : Option (List Bool × Bool) := busbarref01_Read.l0 k l0 a1 ([] : List Bool) 0
theorem busbarref01_Read.mono_l : ∀ k, (∀ y0 y1 y2 y3, LeO (busbarref01_Read.l0 k y0 y1 y2 y3) (busbarref01_Read.l0 (k + 1) y0 y1 y2 y3)) ∧ (∀ y0 y1 y2 y3 y4, LeO (busbarref01_Read.j1 k y0 y1 y2 y3 y4) (busbarref01_Read.j1 (k + 1) y0 y1 y2 y3 y4))
  | 0 => ⟨fun _ _ _ _ r h => by simp [busbarref01_Read.l0] at h, fun _ _ _ _ _ r h => by simp [busbarref01_Read.j1] at h⟩
  | k + 1 => by
    obtain ⟨ih0, ih1⟩ := busbarref01_Read.mono_l k
    refine ⟨?_, ?_⟩
    · intro y0 y1 y2 y3
      unfold busbarref01_Read.l0
      repeat' first
      | (with_reducible exact ih0 _ _ _ _)
      | (with_reducible exact ih1 _ _ _ _ _)
      | (with_reducible exact LeO.refl _)
      | (with_reducible exact LeO.none _)
      | (with_reducible refine LeO.ite ?_ ?_)
      | (with_reducible refine LeO.bind ?_ (fun _ => ?_))
      | exact ih0 _ _ _ _
      | exact ih1 _ _ _ _ _
      | exact LeO.none _
      | refine LeO.ite ?_ ?_
      | refine LeO.bind ?_ (fun _ => ?_)
    · intro y0 y1 y2 y3 y4
      unfold busbarref01_Read.j1
      repeat' first
      | (with_reducible exact ih0 _ _ _ _)
      | (with_reducible exact ih1 _ _ _ _ _)
      | (with_reducible exact LeO.refl _)
      | (with_reducible exact LeO.none _)
      | (with_reducible refine LeO.ite ?_ ?_)
      | (with_reducible refine LeO.bind ?_ (fun _ => ?_))
      | exact ih0 _ _ _ _
      | exact ih1 _ _ _ _ _
      | exact LeO.none _
      | refine LeO.ite ?_ ?_
      | refine LeO.bind ?_ (fun _ => ?_)
theorem busbarref01_Read.mono : ∀ a0 a1 k, LeO (busbarref01_Read.f k a0 a1) (busbarref01_Read.f (k + 1) a0 a1) := by
  intro a0 a1 k
  obtain ⟨ih0, ih1⟩ := busbarref01_Read.mono_l k
  unfold busbarref01_Read.f
  repeat' first
      | (with_reducible exact ih0 _ _ _ _)
      | (with_reducible exact ih1 _ _ _ _ _)
      | (with_reducible exact LeO.refl _)
      | (with_reducible exact LeO.none _)
      | (with_reducible refine LeO.ite ?_ ?_)
      | (with_reducible refine LeO.bind ?_ (fun _ => ?_))
      | exact ih0 _ _ _ _
      | exact ih1 _ _ _ _ _
      | exact LeO.none _
      | refine LeO.ite ?_ ?_
      | refine LeO.bind ?_ (fun _ => ?_)
set_option maxHeartbeats 8000000 in
set_option maxRecDepth 100000 in
theorem busbarref01_Read.calls (k : Nat) (A0 : Option Addr) (c0 : Nat) (l0 : List Bool) (a1 : Int) (r1 : List Bool) (r2 : Bool) (w : World) (hr0 : Kd.C Kd.bool w A0 l0.length l0) (hc0 : l0.length ≤ c0) (h : busbarref01_Read.f k l0 a1 = some (r1, r2)) :
    Calls Try.prog 45 #[.slice A0 l0.length c0, .int .i64 a1] w fun e w' => ∃ v0_ : Value, e = .returned (.tuple #[v0_, .bool r2]) ∧ Kd.R Kd.bool 4 w' w.heap.size (fun _ => True) v0_ r1 ∧ Below w.heap.size w w' := by
  have HR0 := Aside0.mk hr0
  have HC0 := Aside0.mk hc0
  clear hr0 hc0
  have HB := Aside0.mk (Below.refl w.heap.size w)
  have H : (busbarref01_Read.l0 k l0 a1 ([] : List Bool) 0) = some (r1, r2) := h
  clear h
  have H' := Aside0.mk H
  clear H
  go_enter Try.func45, Try.ntmps45
  go_wp2
  repeat (go_quiet (fail); try go_wp2)
  go_loopg [6, 7] k (fun kq v6 v7 w' => ∃ (x6_1 : List Bool) (x7_1 : Int), v7 = .int .i64 x7_1 ∧ Aside0 (busbarref01_Read.l0 kq l0 a1 x6_1 x7_1 = some (r1, r2)) ∧ Aside0 (kq ≤ k) ∧ Aside0 (Kd.R Kd.bool 4 w' w.heap.size (fun _ => True) v6 x6_1) ∧ Aside0 (Below w.heap.size w w'))
  case atStart => exact ⟨(([] : List Bool)), (0), (by first | rfl | (simp; done) | (simp [*]; done)), H', ⟨Nat.le_refl _⟩, ⟨by first | exact Kd.R_nil _ _ _ _ _ | exact Kd.N_nil _ _ _ _ _ | exact Kd.V_nil _ _ _ _ _ | exact Kd.Q_nil _ _ _ _ _ | exact Kd.S_nil _ _ _ _ _⟩, ⟨by repeat (first | (with_reducible first | exact HB.out | apply below_alloc | apply pw_below_drewN | apply below_drew1) | exact HB.out)⟩⟩
  case round =>
    clear H'
    try clear p2
    obtain ⟨x6_1, x7_1, rfl, HA, HK1, HO_6, HB⟩ := hrel
    cases gk with
    | zero => exact absurd HA.out (by simp [busbarref01_Read.l0])
    | succ k1 =>
      have H := HA.out
      clear HA
      simp only [busbarref01_Read.l0] at H
      by_cases c3 : x7_1 < (wrap64 ((l0.length : Int) / 20))
      · rw [if_pos c3] at H
        have c3b0 : decide (x7_1 < (wrap64 ((l0.length : Int) / 20))) = true := decide_eq_true c3
        (try (have c3b1 : decide (((wrap64 ((l0.length : Int) / 20)) : Int) ≤ x7_1) = false := decide_eq_false (Int.not_le.mpr c3)))
        clear c3
        have HC4 := Aside0.mk H
        clear H
        go_upto_region 5 with (fail)
        repeat (go_quiet (fail); go_upto_region 5 with (fail))
        go_cut [29] (fun v29 wc => ∃ (kq : Nat) (x29_3 : Bool), v29 = .bool x29_3 ∧ Aside0 (busbarref01_Read.j1 kq l0 a1 x6_1 x7_1 x29_3 = some (r1, r2)) ∧ Aside0 (kq ≤ k1) ∧ Aside0 (Kd.R Kd.bool 4 wc w.heap.size (fun _ => True) u6 x6_1) ∧ Aside0 (Below w.heap.size w wc))
        case first =>
          have H := HC4.out
          clear HC4
          by_cases c5 : a1 < (wrap64 ((-5) - (wrap64 (20 * x7_1))))
          · rw [if_pos c5] at H
            have c5b0 : decide (a1 < (wrap64 ((-5) - (wrap64 (20 * x7_1))))) = true := decide_eq_true c5
            (try (have c5b1 : decide (((wrap64 ((-5) - (wrap64 (20 * x7_1)))) : Int) ≤ a1) = false := decide_eq_false (Int.not_le.mpr c5)))
            clear c5
            (first | rw [c5b0] | (simp only [i64_w, i32_w]; rw [c5b0]) | skip)
            have H' := Aside0.mk H
            clear H
            go_wp2
            repeat (go_quiet (fail); try go_wp2)
            go_meet
            case rel => exact ⟨_, (true), (by first | rfl | (simp; done) | (simp [*]; done)), H', ⟨by have := HK1.out; first | omega | exact Nat.le_refl _⟩, ⟨by (with_reducible repeat (first | apply Kd.R_alloc | apply Kd.R_drewN | apply Kd.R_drew)); exact HO_6.out⟩, ⟨by repeat (first | (with_reducible first | exact HB.out | apply below_alloc | apply pw_below_drewN | apply below_drew1) | exact HB.out)⟩⟩
          · rw [if_neg c5] at H
            have c5b0 : decide (a1 < (wrap64 ((-5) - (wrap64 (20 * x7_1))))) = false := decide_eq_false c5
            (try (have c5b1 : decide (((wrap64 ((-5) - (wrap64 (20 * x7_1)))) : Int) ≤ a1) = true := decide_eq_true (Int.not_lt.mp c5)))
            clear c5
            (first | rw [c5b0] | (simp only [i64_w, i32_w]; rw [c5b0]) | skip)
            have H' := Aside0.mk H
            clear H
            go_wp2
            repeat (go_quiet (fail); try go_wp2)
            go_meet
            case rel => exact ⟨_, (decide (a1 > (wrap64 ((l0.length : Int) - (wrap64 (20 * x7_1)))))), (by first | rfl | (simp; done) | (simp [*]; done)), H', ⟨by have := HK1.out; first | omega | exact Nat.le_refl _⟩, ⟨by (with_reducible repeat (first | apply Kd.R_alloc | apply Kd.R_drewN | apply Kd.R_drew)); exact HO_6.out⟩, ⟨by repeat (first | (with_reducible first | exact HB.out | apply below_alloc | apply pw_below_drewN | apply below_drew1) | exact HB.out)⟩⟩
        case rest =>
          clear HC4
          try clear p2
          try clear c3
          try clear c3b0
          try clear c3b1
          try clear c4
          try clear c5
          try clear c5b0
          try clear c5b1
          try clear p2
          obtain ⟨kq, x29_3, rfl, HA, HJ3, HO_6, HB⟩ := hcut
          cases kq with
          | zero => exact absurd HA.out (by simp [busbarref01_Read.j1])
          | succ kj3 =>
            have H := HA.out
            clear HA
            simp only [busbarref01_Read.j1] at H
            by_cases c6 : x29_3 = true
            · subst c6
              have H1 : (some (([] : List Bool), false)) = some (r1, r2) := by rw [if_pos rfl] at H; exact H
              clear H
              have H := H1
              clear H1
              simp only [Option.some.injEq, Prod.mk.injEq] at H
              obtain ⟨rfl, rfl⟩ := H
              go_wp2
              repeat (go_quiet (fail); try go_wp2)
              go_ret2
              exact ⟨_, by first | rfl | (simp [errW_none, errW_some] <;> rfl) | (simp [*, errW_none, errW_some] <;> rfl), by first | exact Kd.R_nil _ _ _ _ _ | exact Kd.N_nil _ _ _ _ _ | exact Kd.V_nil _ _ _ _ _ | exact Kd.Q_nil _ _ _ _ _ | exact Kd.S_nil _ _ _ _ _, by repeat (first | (with_reducible first | exact HB.out | apply below_alloc | apply pw_below_drewN | apply below_drew1) | exact HB.out)⟩
            · replace c6 := Bool.eq_false_iff.mpr c6
              subst c6
              have H1 : (if (wrap64 ((wrap64 ((wrap64 (20 * x7_1)) + 5)) + a1)) < 0 then (some (([] : List Bool), false)) else (if (wrap64 ((wrap64 ((wrap64 ((wrap64 (20 * x7_1)) + 5)) + a1)) + 10)) ≥ (l0.length : Int) then (some (([] : List Bool), false)) else (if 0 ≤ (wrap64 ((wrap64 ((wrap64 (20 * x7_1)) + 5)) + a1)) then (if (wrap64 ((wrap64 ((wrap64 (20 * x7_1)) + 5)) + a1)) < (l0.length : Int) then (if 0 ≤ (wrap64 ((wrap64 ((wrap64 ((wrap64 (20 * x7_1)) + 5)) + a1)) + 10)) then (if (wrap64 ((wrap64 ((wrap64 ((wrap64 (20 * x7_1)) + 5)) + a1)) + 10)) < (l0.length : Int) then (if ((rdOf false l0 (wrap64 ((wrap64 ((wrap64 (20 * x7_1)) + 5)) + a1))) == (rdOf false l0 (wrap64 ((wrap64 ((wrap64 ((wrap64 (20 * x7_1)) + 5)) + a1)) + 10)))) = true then (some (([] : List Bool), false)) else (if x6_1.length < 140737488355328 then (busbarref01_Read.l0 kj3 l0 a1 (x6_1 ++ [rdOf false l0 (wrap64 ((wrap64 ((wrap64 (20 * x7_1)) + 5)) + a1))]) (wrap64 (x7_1 + 1))) else (none))) else (none)) else (none)) else (none)) else (none)))) = some (r1, r2) := by rw [if_neg (show ¬ (false = true) by decide)] at H; exact H
              clear H
              have H := H1
              clear H1
              by_cases c7 : (wrap64 ((wrap64 ((wrap64 (20 * x7_1)) + 5)) + a1)) < 0
              · rw [if_pos c7] at H
                have c7b0 : decide ((wrap64 ((wrap64 ((wrap64 (20 * x7_1)) + 5)) + a1)) < 0) = true := decide_eq_true c7
                (try (have c7b1 : decide ((0 : Int) ≤ (wrap64 ((wrap64 ((wrap64 (20 * x7_1)) + 5)) + a1))) = false := decide_eq_false (Int.not_le.mpr c7)))
                clear c7
                simp only [Option.some.injEq, Prod.mk.injEq] at H
                obtain ⟨rfl, rfl⟩ := H
                go_wp2
                repeat (go_quiet (fail); try go_wp2)
                go_ret2
                exact ⟨_, by first | rfl | (simp [errW_none, errW_some] <;> rfl) | (simp [*, errW_none, errW_some] <;> rfl), by first | exact Kd.R_nil _ _ _ _ _ | exact Kd.N_nil _ _ _ _ _ | exact Kd.V_nil _ _ _ _ _ | exact Kd.Q_nil _ _ _ _ _ | exact Kd.S_nil _ _ _ _ _, by repeat (first | (with_reducible first | exact HB.out | apply below_alloc | apply pw_below_drewN | apply below_drew1) | exact HB.out)⟩
              · rw [if_neg c7] at H
                have c7b0 : decide ((wrap64 ((wrap64 ((wrap64 (20 * x7_1)) + 5)) + a1)) < 0) = false := decide_eq_false c7
                (try (have c7b1 : decide ((0 : Int) ≤ (wrap64 ((wrap64 ((wrap64 (20 * x7_1)) + 5)) + a1))) = true := decide_eq_true (Int.not_lt.mp c7)))
                clear c7
                by_cases c8 : (wrap64 ((wrap64 ((wrap64 ((wrap64 (20 * x7_1)) + 5)) + a1)) + 10)) ≥ (l0.length : Int)
                · rw [if_pos c8] at H
                  have c8b0 : decide ((l0.length : Int) ≤ (wrap64 ((wrap64 ((wrap64 ((wrap64 (20 * x7_1)) + 5)) + a1)) + 10))) = true := decide_eq_true c8
                  (try (have c8b1 : decide (((wrap64 ((wrap64 ((wrap64 ((wrap64 (20 * x7_1)) + 5)) + a1)) + 10)) : Int) < (l0.length : Int)) = false := decide_eq_false (Int.not_lt.mpr c8)))
                  clear c8
                  simp only [Option.some.injEq, Prod.mk.injEq] at H
                  obtain ⟨rfl, rfl⟩ := H
                  go_wp2
                  repeat (go_quiet (fail); try go_wp2)
                  go_ret2
                  exact ⟨_, by first | rfl | (simp [errW_none, errW_some] <;> rfl) | (simp [*, errW_none, errW_some] <;> rfl), by first | exact Kd.R_nil _ _ _ _ _ | exact Kd.N_nil _ _ _ _ _ | exact Kd.V_nil _ _ _ _ _ | exact Kd.Q_nil _ _ _ _ _ | exact Kd.S_nil _ _ _ _ _, by repeat (first | (with_reducible first | exact HB.out | apply below_alloc | apply pw_below_drewN | apply below_drew1) | exact HB.out)⟩
                · rw [if_neg c8] at H
                  have c8b0 : decide ((l0.length : Int) ≤ (wrap64 ((wrap64 ((wrap64 ((wrap64 (20 * x7_1)) + 5)) + a1)) + 10))) = false := decide_eq_false c8
                  (try (have c8b1 : decide (((wrap64 ((wrap64 ((wrap64 ((wrap64 (20 * x7_1)) + 5)) + a1)) + 10)) : Int) < (l0.length : Int)) = true := decide_eq_true (Int.not_le.mp c8)))
                  clear c8
                  obtain ⟨ji9, hji9⟩ : ∃ j_ : Int, (wrap64 ((wrap64 ((wrap64 (20 * x7_1)) + 5)) + a1)) = j_ := ⟨_, rfl⟩
                  replace H : (if 0 ≤ (ji9) then (if (ji9) < (l0.length : Int) then (if 0 ≤ (wrap64 ((ji9) + 10)) then (if (wrap64 ((ji9) + 10)) < (l0.length : Int) then (if ((rdOf false l0 (ji9)) == (rdOf false l0 (wrap64 ((ji9) + 10)))) = true then (some (([] : List Bool), false)) else (if x6_1.length < 140737488355328 then (busbarref01_Read.l0 kj3 l0 a1 (x6_1 ++ [rdOf false l0 (ji9)]) (wrap64 (x7_1 + 1))) else (none))) else (none)) else (none)) else (none)) else (none)) = some (r1, r2) := by first | (rw [hji9] at H; exact H) | (simp only [hji9] at H ⊢; exact H)
                  (try rw [hji9] at c7b0)
                  (try rw [hji9] at c7b1)
                  (try rw [hji9] at c8b0)
                  (try rw [hji9] at c8b1)
                  have hji9w : (IntKind.i64.wrap ((wrap64 ((wrap64 (20 * x7_1)) + 5)) + a1)) = ji9 := (i64_w _).trans hji9
                  by_cases c10 : 0 ≤ (ji9)
                  · rw [if_pos c10] at H
                    have c10b0 : decide (0 ≤ (ji9)) = true := decide_eq_true c10
                    (try (have c10b1 : decide (((ji9) : Int) < 0) = false := decide_eq_false (Int.not_lt.mpr c10)))
                    clear c10
                    by_cases c11 : (ji9) < (l0.length : Int)
                    · rw [if_pos c11] at H
                      have c11b0 : decide ((ji9) < (l0.length : Int)) = true := decide_eq_true c11
                      (try (have c11b1 : decide (((l0.length : Int) : Int) ≤ (ji9)) = false := decide_eq_false (Int.not_le.mpr c11)))
                      clear c11
                      obtain ⟨ji12, hji12⟩ : ∃ j_ : Int, (wrap64 ((ji9) + 10)) = j_ := ⟨_, rfl⟩
                      replace H : (if 0 ≤ (ji12) then (if (ji12) < (l0.length : Int) then (if ((rdOf false l0 (ji9)) == (rdOf false l0 (ji12))) = true then (some (([] : List Bool), false)) else (if x6_1.length < 140737488355328 then (busbarref01_Read.l0 kj3 l0 a1 (x6_1 ++ [rdOf false l0 (ji9)]) (wrap64 (x7_1 + 1))) else (none))) else (none)) else (none)) = some (r1, r2) := by first | (rw [hji12] at H; exact H) | (simp only [hji12] at H ⊢; exact H)
                      have hji12w : (IntKind.i64.wrap ((ji9) + 10)) = ji12 := (i64_w _).trans hji12
                      by_cases c13 : 0 ≤ (ji12)
                      · rw [if_pos c13] at H
                        have c13b0 : decide (0 ≤ (ji12)) = true := decide_eq_true c13
                        (try (have c13b1 : decide (((ji12) : Int) < 0) = false := decide_eq_false (Int.not_lt.mpr c13)))
                        clear c13
                        by_cases c14 : (ji12) < (l0.length : Int)
                        · rw [if_pos c14] at H
                          have c14b0 : decide ((ji12) < (l0.length : Int)) = true := decide_eq_true c14
                          (try (have c14b1 : decide (((l0.length : Int) : Int) ≤ (ji12)) = false := decide_eq_false (Int.not_le.mpr c14)))
                          clear c14
                          by_cases c15 : ((rdOf false l0 (ji9)) == (rdOf false l0 (ji12))) = true
                          · rw [if_pos c15] at H
                            have c15b0 : ((rdOf false l0 (ji9)) == (rdOf false l0 (ji12))) = true := c15
                            (try (have c15b1 : decide ((rdOf false l0 (ji9)) = (rdOf false l0 (ji12))) = true := by simpa using c15))
                            (try (have c15b2 : ((rdOf false l0 (ji9)) == (rdOf false l0 (ji12))) = true := by simpa using c15))
                            clear c15
                            simp only [Option.some.injEq, Prod.mk.injEq] at H
                            obtain ⟨rfl, rfl⟩ := H
                            have p306 : 0 ≤ ((ji9) : Int) := of_decide_eq_true (by first | (with_reducible assumption) | assumption)
                            have q306 : (ji9) < (l0.length : Int) := of_decide_eq_true (by first | (with_reducible assumption) | assumption)
                            obtain ⟨ad306, e306, hx306_0⟩ := Kd.at_bool HR0.out (ji9) p306 q306
                            cases e306
                            replace hx306_0 := (HB.out.cell (World.block_lt_of_cell? w _ hx306_0)).trans hx306_0
                            replace p306 := eq_true p306
                            replace q306 := eq_true q306
                            have p307 : 0 ≤ ((ji12) : Int) := of_decide_eq_true (by first | (with_reducible assumption) | assumption)
                            have q307 : (ji12) < (l0.length : Int) := of_decide_eq_true (by first | (with_reducible assumption) | assumption)
                            obtain ⟨ad307, e307, hx307_0⟩ := Kd.at_bool HR0.out (ji12) p307 q307
                            obtain rfl : ad306 = ad307 := (by injection e307)
                            replace hx307_0 := (HB.out.cell (World.block_lt_of_cell? w _ hx307_0)).trans hx307_0
                            replace p307 := eq_true p307
                            replace q307 := eq_true q307
                            go_wp2
                            repeat (go_quiet (fail); try go_wp2)
                            go_ret2
                            exact ⟨_, by first | rfl | (simp [errW_none, errW_some] <;> rfl) | (simp only [← hji9, ← hji12]; first | rfl | (simp [errW_none, errW_some] <;> rfl)) | (simp [*, errW_none, errW_some] <;> rfl), by first | exact Kd.R_nil _ _ _ _ _ | exact Kd.N_nil _ _ _ _ _ | exact Kd.V_nil _ _ _ _ _ | exact Kd.Q_nil _ _ _ _ _ | exact Kd.S_nil _ _ _ _ _, by repeat (first | (with_reducible first | exact HB.out | apply below_alloc | apply pw_below_drewN | apply below_drew1) | exact HB.out)⟩
                          · rw [if_neg c15] at H
                            have c15b0 : ((rdOf false l0 (ji9)) == (rdOf false l0 (ji12))) = false := by simpa using c15
                            (try (have c15b1 : decide ((rdOf false l0 (ji9)) = (rdOf false l0 (ji12))) = false := by simpa using c15))
                            (try (have c15b2 : ((rdOf false l0 (ji9)) == (rdOf false l0 (ji12))) = false := by simpa using c15))
                            (try (have c15b3 : ¬ ((rdOf false l0 (ji9)) = (rdOf false l0 (ji12))) := by simpa using c15))
                            clear c15
                            by_cases c16 : x6_1.length < 140737488355328
                            · rw [if_pos c16] at H
                              have LMc16 := Aside0.mk c16
                              clear c16
                              obtain ⟨y309, hy309⟩ : ∃ y_ : List Bool, y_ = (x6_1 ++ [rdOf false l0 (ji9)]) := ⟨_, rfl⟩
                              replace H : (busbarref01_Read.l0 kj3 l0 a1 y309 (wrap64 (x7_1 + 1))) = some (r1, r2) := by first | (rw [hy309]; with_reducible exact H) | (have H2_ := (Option.bind_some _ _).symm.trans H; rw [hy309]; with_reducible exact H2_) | (have H2_ := (Option.bind_some _ _).symm.trans H; with_reducible exact H2_) | with_reducible exact H | (rw [hy309]; exact H) | exact H
                              have Ny309 := Aside0.mk hy309
                              clear hy309
                              have H' := Aside0.mk H
                              clear H
                              have p306 : 0 ≤ ((ji9) : Int) := of_decide_eq_true (by first | (with_reducible assumption) | assumption)
                              have q306 : (ji9) < (l0.length : Int) := of_decide_eq_true (by first | (with_reducible assumption) | assumption)
                              obtain ⟨ad306, e306, hx306_0⟩ := Kd.at_bool HR0.out (ji9) p306 q306
                              cases e306
                              replace hx306_0 := (HB.out.cell (World.block_lt_of_cell? w _ hx306_0)).trans hx306_0
                              replace p306 := eq_true p306
                              replace q306 := eq_true q306
                              have p307 : 0 ≤ ((ji12) : Int) := of_decide_eq_true (by first | (with_reducible assumption) | assumption)
                              have q307 : (ji12) < (l0.length : Int) := of_decide_eq_true (by first | (with_reducible assumption) | assumption)
                              obtain ⟨ad307, e307, hx307_0⟩ := Kd.at_bool HR0.out (ji12) p307 q307
                              obtain rfl : ad306 = ad307 := (by injection e307)
                              replace hx307_0 := (HB.out.cell (World.block_lt_of_cell? w _ hx307_0)).trans hx307_0
                              replace p307 := eq_true p307
                              replace q307 := eq_true q307
                              have p308 : 0 ≤ ((ji9) : Int) := of_decide_eq_true (by first | (with_reducible assumption) | assumption)
                              have q308 : (ji9) < (l0.length : Int) := of_decide_eq_true (by first | (with_reducible assumption) | assumption)
                              obtain ⟨ad308, e308, hx308_0⟩ := Kd.at_bool HR0.out (ji9) p308 q308
                              obtain rfl : ad306 = ad308 := (by injection e308)
                              replace hx308_0 := (HB.out.cell (World.block_lt_of_cell? w _ hx308_0)).trans hx308_0
                              replace p308 := eq_true p308
                              replace q308 := eq_true q308
                              go_wp2_with (first | ((with_reducible refine gate_builtin (b := .append) (xs := #[.tmp 56, .tmp 61]) rfl ?_); (try (refine gate_guard (by rfl) ?_; dsimp only)); at_builtin; refine Kd.R_append Kd.bool (w0 := w) w.heap.size rfl (.tmp 56) (.tmp 61) 35 4 (.bool false) 1 rfl Try.underlying35 info4 rfl (by decide) (by omega) u6 x6_1 (rdOf false l0 (ji9)) [.bool (rdOf false l0 (ji9))] (fun _ => True) (fun _ => False) rfl rfl ?aP (fun _ hk => hk.elim) ?aF ?aO ?aB ?aS ?aL ?_; (case aP => exact rfl); (case aB => exact (by repeat (first | (with_reducible first | exact HB.out | apply below_alloc | apply pw_below_drewN | apply below_drew1) | exact HB.out))); (case aF => exact (fun _ _ => trivial)); (case aO => exact (by (with_reducible repeat (first | apply Kd.R_alloc | apply Kd.R_drewN | apply Kd.R_drew)); exact HO_6.out)); (case aS => exact (below_size (by repeat (first | (with_reducible first | exact HB.out | apply below_alloc | apply pw_below_drewN | apply below_drew1) | exact HB.out)))); (case aL => have := LMc16.out; omega); intro v310 w17 ho hb hg hat; rw [← Ny309.out] at ho; have n0_ := Aside0.mk (hb); have n1_ := Aside0.mk (ho); clear HB; clear HO_6; have HB := n0_; have HO311 := n1_; clear n0_ n1_; clear ho hb hg hat))
                              repeat (go_quiet (first | ((with_reducible refine gate_builtin (b := .append) (xs := #[.tmp 56, .tmp 61]) rfl ?_); (try (refine gate_guard (by rfl) ?_; dsimp only)); at_builtin; refine Kd.R_append Kd.bool (w0 := w) w.heap.size rfl (.tmp 56) (.tmp 61) 35 4 (.bool false) 1 rfl Try.underlying35 info4 rfl (by decide) (by omega) u6 x6_1 (rdOf false l0 (ji9)) [.bool (rdOf false l0 (ji9))] (fun _ => True) (fun _ => False) rfl rfl ?aP (fun _ hk => hk.elim) ?aF ?aO ?aB ?aS ?aL ?_; (case aP => exact rfl); (case aB => exact (by repeat (first | (with_reducible first | exact HB.out | apply below_alloc | apply pw_below_drewN | apply below_drew1) | exact HB.out))); (case aF => exact (fun _ _ => trivial)); (case aO => exact (by (with_reducible repeat (first | apply Kd.R_alloc | apply Kd.R_drewN | apply Kd.R_drew)); exact HO_6.out)); (case aS => exact (below_size (by repeat (first | (with_reducible first | exact HB.out | apply below_alloc | apply pw_below_drewN | apply below_drew1) | exact HB.out)))); (case aL => have := LMc16.out; omega); intro v310 w17 ho hb hg hat; rw [← Ny309.out] at ho; have n0_ := Aside0.mk (hb); have n1_ := Aside0.mk (ho); clear HB; clear HO_6; have HB := n0_; have HO311 := n1_; clear n0_ n1_; clear ho hb hg hat)); try go_wp2_with (first | ((with_reducible refine gate_builtin (b := .append) (xs := #[.tmp 56, .tmp 61]) rfl ?_); (try (refine gate_guard (by rfl) ?_; dsimp only)); at_builtin; refine Kd.R_append Kd.bool (w0 := w) w.heap.size rfl (.tmp 56) (.tmp 61) 35 4 (.bool false) 1 rfl Try.underlying35 info4 rfl (by decide) (by omega) u6 x6_1 (rdOf false l0 (ji9)) [.bool (rdOf false l0 (ji9))] (fun _ => True) (fun _ => False) rfl rfl ?aP (fun _ hk => hk.elim) ?aF ?aO ?aB ?aS ?aL ?_; (case aP => exact rfl); (case aB => exact (by repeat (first | (with_reducible first | exact HB.out | apply below_alloc | apply pw_below_drewN | apply below_drew1) | exact HB.out))); (case aF => exact (fun _ _ => trivial)); (case aO => exact (by (with_reducible repeat (first | apply Kd.R_alloc | apply Kd.R_drewN | apply Kd.R_drew)); exact HO_6.out)); (case aS => exact (below_size (by repeat (first | (with_reducible first | exact HB.out | apply below_alloc | apply pw_below_drewN | apply below_drew1) | exact HB.out)))); (case aL => have := LMc16.out; omega); intro v310 w17 ho hb hg hat; rw [← Ny309.out] at ho; have n0_ := Aside0.mk (hb); have n1_ := Aside0.mk (ho); clear HB; clear HO_6; have HB := n0_; have HO311 := n1_; clear n0_ n1_; clear ho hb hg hat)))
                              go_roundg kj3
                              case measure => have := HK1.out; have := HJ3.out; omega
                              case rel => exact ⟨(y309), (wrap64 (x7_1 + 1)), (by first | rfl | (simp; done) | (simp [*]; done)), H', ⟨by have := HK1.out; have := HJ3.out; omega⟩, ⟨by (with_reducible repeat (first | apply Kd.R_alloc | apply Kd.R_drewN | apply Kd.R_drew)); exact HO311.out⟩, ⟨by repeat (first | (with_reducible first | exact HB.out | apply below_alloc | apply pw_below_drewN | apply below_drew1) | exact HB.out)⟩⟩
                            · rw [if_neg c16] at H
                              exact absurd H (by simp)
                        · rw [if_neg c14] at H
                          exact absurd H (by simp)
                      · rw [if_neg c13] at H
                        exact absurd H (by simp)
                    · rw [if_neg c11] at H
                      exact absurd H (by simp)
                  · rw [if_neg c10] at H
                    exact absurd H (by simp)
      · rw [if_neg c3] at H
        have c3b0 : decide (x7_1 < (wrap64 ((l0.length : Int) / 20))) = false := decide_eq_false c3
        (try (have c3b1 : decide (((wrap64 ((l0.length : Int) / 20)) : Int) ≤ x7_1) = true := decide_eq_true (Int.not_lt.mp c3)))
        clear c3
        simp only [Option.some.injEq, Prod.mk.injEq] at H
        obtain ⟨rfl, rfl⟩ := H
        go_wp2
        repeat (go_quiet (fail); try go_wp2)
        go_ret2
        exact ⟨_, by first | rfl | (simp [errW_none, errW_some] <;> rfl) | (simp [*, errW_none, errW_some] <;> rfl), by (with_reducible repeat (first | apply Kd.R_alloc | apply Kd.R_drewN | apply Kd.R_drew)); exact HO_6.out, by repeat (first | (with_reducible first | exact HB.out | apply below_alloc | apply pw_below_drewN | apply below_drew1) | exact HB.out)⟩

end Go.Proofs.Ytbidfjngmiggpaa.Q
