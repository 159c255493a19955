-- Written by a program of this session out of the translation. Not trusted: Lean checks it.
import Derived.Test.YtbidfjngmiggpabQx0
namespace Go.Proofs.Ytbidfjngmiggpab.Q
open Go.RowKit Go.Proofs.YtbidfjngmiggpabW.PrintWords Go.Proofs.YtbidfjngmiggpabW.PrintLast Go.Proofs.YtbidfjngmiggpabW.PrintMore
attribute [local go_sem] max2_int min2_int max_two min_two max_three min_three max_four min_four   -- for this text's walks alone
set_option linter.unusedVariables false
set_option linter.unusedSimpArgs false

/-! ### busbarref20_Byte: function 8 -/
def busbarref20_Byte.f (a0 : Int) (a1 : Int) (l2 : List Int) (a3 : Int) : Option (Int × Bool) := if a0 = 1 then (if a3 < a1 then (some (0, false)) else (if (l2.length : Int) = 0 then (some (0, false)) else (if 0 ≤ (Int.tmod (wrap64 (a3 - a1)) (l2.length : Int)) then (if (Int.tmod (wrap64 (a3 - a1)) (l2.length : Int)) < (l2.length : Int) then (some (wrap64 (rd l2 (Int.tmod (wrap64 (a3 - a1)) (l2.length : Int))), true)) else (none)) else (none)))) else (if a0 = 2 then (if a3 < a1 then (some (0, false)) else (if (l2.length : Int) = 0 then (some (0, false)) else (if 0 ≤ (Int.tmod (wrap64 (a3 - a1)) (l2.length : Int)) then (if (Int.tmod (wrap64 (a3 - a1)) (l2.length : Int)) < (l2.length : Int) then (some (wrap64 (rd l2 (Int.tmod (wrap64 (a3 - a1)) (l2.length : Int))), true)) else (none)) else (none)))) else (some (0, false)))
set_option maxHeartbeats 8000000 in
set_option maxRecDepth 100000 in
theorem busbarref20_Byte.calls (a0 : Int) (a1 : Int) (A2 : Option Addr) (c2 : Nat) (l2 : List Int) (a3 : Int) (r1 : Int) (r2 : Bool) (w : World) (hr2 : Kd.C (Kd.int .u8) w A2 l2.length l2) (hc2 : l2.length ≤ c2) (h : busbarref20_Byte.f a0 a1 l2 a3 = some (r1, r2)) :
    Calls Try.prog 8 #[.int .i64 a0, .int .i64 a1, .slice A2 l2.length c2, .int .i64 a3] w fun e w' => e = .returned (.tuple #[.int .i64 r1, .bool r2]) ∧ Drawn0 w w' := by
  have HR2 := Aside0.mk hr2
  have HC2 := Aside0.mk hc2
  clear hr2 hc2
  have H : (if a0 = 1 then (if a3 < a1 then (some (0, false)) else (if (l2.length : Int) = 0 then (some (0, false)) else (if 0 ≤ (Int.tmod (wrap64 (a3 - a1)) (l2.length : Int)) then (if (Int.tmod (wrap64 (a3 - a1)) (l2.length : Int)) < (l2.length : Int) then (some (wrap64 (rd l2 (Int.tmod (wrap64 (a3 - a1)) (l2.length : Int))), true)) else (none)) else (none)))) else (if a0 = 2 then (if a3 < a1 then (some (0, false)) else (if (l2.length : Int) = 0 then (some (0, false)) else (if 0 ≤ (Int.tmod (wrap64 (a3 - a1)) (l2.length : Int)) then (if (Int.tmod (wrap64 (a3 - a1)) (l2.length : Int)) < (l2.length : Int) then (some (wrap64 (rd l2 (Int.tmod (wrap64 (a3 - a1)) (l2.length : Int))), true)) else (none)) else (none)))) else (some (0, false)))) = some (r1, r2) := h
  clear h
  by_cases c5 : a0 = 1
  · rw [if_pos c5] at H
    have c5b0 : (a0 == 1) = true := beq_iff_eq.mpr c5
    have c5b1 : (a0 != 1) = false := bne_eq_false_iff_eq.mpr c5
    clear c5
    by_cases c6 : a3 < a1
    · rw [if_pos c6] at H
      have c6b0 : decide (a3 < a1) = true := decide_eq_true c6
      (try (have c6b1 : decide ((a1 : Int) ≤ a3) = false := decide_eq_false (Int.not_le.mpr c6)))
      clear c6
      simp only [Option.some.injEq, Prod.mk.injEq] at H
      obtain ⟨rfl, rfl⟩ := H
      go_enter Try.func8, Try.ntmps8
      go_wp2
      go_ret2
      exact ⟨by first | rfl | (simp; done) | (simp [*]; done), by repeat (first | exact Drawn0.refl _ | apply Drawn0.step)⟩
    · rw [if_neg c6] at H
      have c6b0 : decide (a3 < a1) = false := decide_eq_false c6
      (try (have c6b1 : decide ((a1 : Int) ≤ a3) = true := decide_eq_true (Int.not_lt.mp c6)))
      clear c6
      by_cases c7 : (l2.length : Int) = 0
      · rw [if_pos c7] at H
        have c7b0 : ((l2.length : Int) == 0) = true := beq_iff_eq.mpr c7
        have c7b1 : ((l2.length : Int) != 0) = false := bne_eq_false_iff_eq.mpr c7
        clear c7
        simp only [Option.some.injEq, Prod.mk.injEq] at H
        obtain ⟨rfl, rfl⟩ := H
        go_enter Try.func8, Try.ntmps8
        go_wp2
        go_ret2
        exact ⟨by first | rfl | (simp; done) | (simp [*]; done), by repeat (first | exact Drawn0.refl _ | apply Drawn0.step)⟩
      · rw [if_neg c7] at H
        have c7b0 : ((l2.length : Int) == 0) = false := beq_eq_false_iff_ne.mpr c7
        have c7b1 : ((l2.length : Int) != 0) = true := bne_iff_ne.mpr c7
        have c7b2 : ¬ (l2 = []) := fun h_ => c7 (by rw [h_]; rfl)
        obtain ⟨ji8, hji8⟩ : ∃ j_ : Int, (Int.tmod (wrap64 (a3 - a1)) (l2.length : Int)) = j_ := ⟨_, rfl⟩
        replace H : (if 0 ≤ (ji8) then (if (ji8) < (l2.length : Int) then (some (wrap64 (rd l2 (ji8)), true)) else (none)) else (none)) = some (r1, r2) := by first | (rw [hji8] at H; exact H) | (simp only [hji8] at H ⊢; exact H)
        by_cases c9 : 0 ≤ (ji8)
        · rw [if_pos c9] at H
          have c9b0 : decide (0 ≤ (ji8)) = true := decide_eq_true c9
          (try (have c9b1 : decide (((ji8) : Int) < 0) = false := decide_eq_false (Int.not_lt.mpr c9)))
          clear c9
          by_cases c10 : (ji8) < (l2.length : Int)
          · rw [if_pos c10] at H
            have c10b0 : decide ((ji8) < (l2.length : Int)) = true := decide_eq_true c10
            (try (have c10b1 : decide (((l2.length : Int) : Int) ≤ (ji8)) = false := decide_eq_false (Int.not_le.mpr c10)))
            clear c10
            simp only [Option.some.injEq, Prod.mk.injEq] at H
            obtain ⟨rfl, rfl⟩ := H
            have p101 : 0 ≤ ((ji8) : Int) := of_decide_eq_true (by first | (with_reducible assumption) | assumption)
            have q101 : (ji8) < (l2.length : Int) := of_decide_eq_true (by first | (with_reducible assumption) | assumption)
            obtain ⟨ad101, e101, hx101_0⟩ := Kd.at_int HR2.out (ji8) p101 q101
            cases e101
            replace p101 := eq_true p101
            replace q101 := eq_true q101
            go_enter Try.func8, Try.ntmps8
            go_wp2
            go_ret2
            exact ⟨by first | rfl | (simp; done) | (simp only [← hji8] <;> (first | rfl | simp)) | (simp [*]; done), by repeat (first | exact Drawn0.refl _ | apply Drawn0.step)⟩
          · rw [if_neg c10] at H
            exact absurd H (by simp)
        · rw [if_neg c9] at H
          exact absurd H (by simp)
  · rw [if_neg c5] at H
    have c5b0 : (a0 == 1) = false := beq_eq_false_iff_ne.mpr c5
    have c5b1 : (a0 != 1) = true := bne_iff_ne.mpr c5
    by_cases c11 : a0 = 2
    · rw [if_pos c11] at H
      have c11b0 : (a0 == 2) = true := beq_iff_eq.mpr c11
      have c11b1 : (a0 != 2) = false := bne_eq_false_iff_eq.mpr c11
      clear c11
      by_cases c12 : a3 < a1
      · rw [if_pos c12] at H
        have c12b0 : decide (a3 < a1) = true := decide_eq_true c12
        (try (have c12b1 : decide ((a1 : Int) ≤ a3) = false := decide_eq_false (Int.not_le.mpr c12)))
        clear c12
        simp only [Option.some.injEq, Prod.mk.injEq] at H
        obtain ⟨rfl, rfl⟩ := H
        go_enter Try.func8, Try.ntmps8
        go_wp2
        go_ret2
        exact ⟨by first | rfl | (simp; done) | (simp [*]; done), by repeat (first | exact Drawn0.refl _ | apply Drawn0.step)⟩
      · rw [if_neg c12] at H
        have c12b0 : decide (a3 < a1) = false := decide_eq_false c12
        (try (have c12b1 : decide ((a1 : Int) ≤ a3) = true := decide_eq_true (Int.not_lt.mp c12)))
        clear c12
        by_cases c13 : (l2.length : Int) = 0
        · rw [if_pos c13] at H
          have c13b0 : ((l2.length : Int) == 0) = true := beq_iff_eq.mpr c13
          have c13b1 : ((l2.length : Int) != 0) = false := bne_eq_false_iff_eq.mpr c13
          clear c13
          simp only [Option.some.injEq, Prod.mk.injEq] at H
          obtain ⟨rfl, rfl⟩ := H
          go_enter Try.func8, Try.ntmps8
          go_wp2
          go_ret2
          exact ⟨by first | rfl | (simp; done) | (simp [*]; done), by repeat (first | exact Drawn0.refl _ | apply Drawn0.step)⟩
        · rw [if_neg c13] at H
          have c13b0 : ((l2.length : Int) == 0) = false := beq_eq_false_iff_ne.mpr c13
          have c13b1 : ((l2.length : Int) != 0) = true := bne_iff_ne.mpr c13
          have c13b2 : ¬ (l2 = []) := fun h_ => c13 (by rw [h_]; rfl)
          obtain ⟨ji14, hji14⟩ : ∃ j_ : Int, (Int.tmod (wrap64 (a3 - a1)) (l2.length : Int)) = j_ := ⟨_, rfl⟩
          replace H : (if 0 ≤ (ji14) then (if (ji14) < (l2.length : Int) then (some (wrap64 (rd l2 (ji14)), true)) else (none)) else (none)) = some (r1, r2) := by first | (rw [hji14] at H; exact H) | (simp only [hji14] at H ⊢; exact H)
          by_cases c15 : 0 ≤ (ji14)
          · rw [if_pos c15] at H
            have c15b0 : decide (0 ≤ (ji14)) = true := decide_eq_true c15
            (try (have c15b1 : decide (((ji14) : Int) < 0) = false := decide_eq_false (Int.not_lt.mpr c15)))
            clear c15
            by_cases c16 : (ji14) < (l2.length : Int)
            · rw [if_pos c16] at H
              have c16b0 : decide ((ji14) < (l2.length : Int)) = true := decide_eq_true c16
              (try (have c16b1 : decide (((l2.length : Int) : Int) ≤ (ji14)) = false := decide_eq_false (Int.not_le.mpr c16)))
              clear c16
              simp only [Option.some.injEq, Prod.mk.injEq] at H
              obtain ⟨rfl, rfl⟩ := H
              have p102 : 0 ≤ ((ji14) : Int) := of_decide_eq_true (by first | (with_reducible assumption) | assumption)
              have q102 : (ji14) < (l2.length : Int) := of_decide_eq_true (by first | (with_reducible assumption) | assumption)
              obtain ⟨ad102, e102, hx102_0⟩ := Kd.at_int HR2.out (ji14) p102 q102
              cases e102
              replace p102 := eq_true p102
              replace q102 := eq_true q102
              go_enter Try.func8, Try.ntmps8
              go_wp2
              go_ret2
              exact ⟨by first | rfl | (simp; done) | (simp only [← hji14] <;> (first | rfl | simp)) | (simp [*]; done), by repeat (first | exact Drawn0.refl _ | apply Drawn0.step)⟩
            · rw [if_neg c16] at H
              exact absurd H (by simp)
          · rw [if_neg c15] at H
            exact absurd H (by simp)
    · rw [if_neg c11] at H
      have c11b0 : (a0 == 2) = false := beq_eq_false_iff_ne.mpr c11
      have c11b1 : (a0 != 2) = true := bne_iff_ne.mpr c11
      simp only [Option.some.injEq, Prod.mk.injEq] at H
      obtain ⟨rfl, rfl⟩ := H
      go_enter Try.func8, Try.ntmps8
      go_wp2
      go_ret2
      exact ⟨by first | rfl | (simp; done) | (simp [*]; done), by repeat (first | exact Drawn0.refl _ | apply Drawn0.step)⟩

end Go.Proofs.Ytbidfjngmiggpab.Q
