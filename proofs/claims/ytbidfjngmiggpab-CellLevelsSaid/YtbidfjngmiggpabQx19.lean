-- Written by a program of this session out of the translation. Not trusted: Lean checks it.
import Derived.Test.YtbidfjngmiggpabQx0
namespace Go.Proofs.Ytbidfjngmiggpab.Q
open Go.RowKit Go.Proofs.YtbidfjngmiggpabW.PrintWords Go.Proofs.YtbidfjngmiggpabW.PrintLast Go.Proofs.YtbidfjngmiggpabW.PrintMore
attribute [local go_sem] max2_int min2_int max_two min_two max_three min_three max_four min_four   -- for this text's walks alone
set_option linter.unusedVariables false
set_option linter.unusedSimpArgs false

/-! ### cell_stands: function 41 -/
def cell_stands.f (l0 : List Bool) (a1 : Int) (a2 : Int) : Option (Bool × Bool) := if a2 < (wrap64 (-a1)) then (some (false, false)) else (if a2 ≥ (wrap64 ((l0.length : Int) - a1)) then (some (false, false)) else (if 0 ≤ (wrap64 (a1 + a2)) then (if (wrap64 (a1 + a2)) < (l0.length : Int) then (some (rdOf false l0 (wrap64 (a1 + a2)), true)) else (none)) else (none)))
set_option maxHeartbeats 8000000 in
set_option maxRecDepth 100000 in
theorem cell_stands.calls (A0 : Option Addr) (c0 : Nat) (l0 : List Bool) (a1 : Int) (a2 : Int) (r1 : Bool) (r2 : Bool) (w : World) (hr0 : Kd.C Kd.bool w A0 l0.length l0) (hc0 : l0.length ≤ c0) (h : cell_stands.f l0 a1 a2 = some (r1, r2)) :
    Calls Try.prog 41 #[.slice A0 l0.length c0, .int .i64 a1, .int .i64 a2] w fun e w' => e = .returned (.tuple #[.bool r1, .bool r2]) ∧ Drawn0 w w' := by
  have HR0 := Aside0.mk hr0
  have HC0 := Aside0.mk hc0
  clear hr0 hc0
  have H : (if a2 < (wrap64 (-a1)) then (some (false, false)) else (if a2 ≥ (wrap64 ((l0.length : Int) - a1)) then (some (false, false)) else (if 0 ≤ (wrap64 (a1 + a2)) then (if (wrap64 (a1 + a2)) < (l0.length : Int) then (some (rdOf false l0 (wrap64 (a1 + a2)), true)) else (none)) else (none)))) = some (r1, r2) := h
  clear h
  by_cases c4 : a2 < (wrap64 (-a1))
  · rw [if_pos c4] at H
    have c4b0 : decide (a2 < (wrap64 (-a1))) = true := decide_eq_true c4
    (try (have c4b1 : decide (((wrap64 (-a1)) : Int) ≤ a2) = false := decide_eq_false (Int.not_le.mpr c4)))
    clear c4
    simp only [Option.some.injEq, Prod.mk.injEq] at H
    obtain ⟨rfl, rfl⟩ := H
    go_enter Try.func41, Try.ntmps41
    go_wp2
    go_ret2
    exact ⟨by first | rfl | (simp; done) | (simp [*]; done), by repeat (first | exact Drawn0.refl _ | apply Drawn0.step)⟩
  · rw [if_neg c4] at H
    have c4b0 : decide (a2 < (wrap64 (-a1))) = false := decide_eq_false c4
    (try (have c4b1 : decide (((wrap64 (-a1)) : Int) ≤ a2) = true := decide_eq_true (Int.not_lt.mp c4)))
    clear c4
    by_cases c5 : a2 ≥ (wrap64 ((l0.length : Int) - a1))
    · rw [if_pos c5] at H
      have c5b0 : decide ((wrap64 ((l0.length : Int) - a1)) ≤ a2) = true := decide_eq_true c5
      (try (have c5b1 : decide ((a2 : Int) < (wrap64 ((l0.length : Int) - a1))) = false := decide_eq_false (Int.not_lt.mpr c5)))
      clear c5
      simp only [Option.some.injEq, Prod.mk.injEq] at H
      obtain ⟨rfl, rfl⟩ := H
      go_enter Try.func41, Try.ntmps41
      go_wp2
      go_ret2
      exact ⟨by first | rfl | (simp; done) | (simp [*]; done), by repeat (first | exact Drawn0.refl _ | apply Drawn0.step)⟩
    · rw [if_neg c5] at H
      have c5b0 : decide ((wrap64 ((l0.length : Int) - a1)) ≤ a2) = false := decide_eq_false c5
      (try (have c5b1 : decide ((a2 : Int) < (wrap64 ((l0.length : Int) - a1))) = true := decide_eq_true (Int.not_le.mp c5)))
      clear c5
      obtain ⟨ji6, hji6⟩ : ∃ j_ : Int, (wrap64 (a1 + a2)) = j_ := ⟨_, rfl⟩
      replace H : (if 0 ≤ (ji6) then (if (ji6) < (l0.length : Int) then (some (rdOf false l0 (ji6), true)) else (none)) else (none)) = some (r1, r2) := by first | (rw [hji6] at H; exact H) | (simp only [hji6] at H ⊢; exact H)
      have hji6w : (IntKind.i64.wrap (a1 + a2)) = ji6 := (i64_w _).trans hji6
      by_cases c7 : 0 ≤ (ji6)
      · rw [if_pos c7] at H
        have c7b0 : decide (0 ≤ (ji6)) = true := decide_eq_true c7
        (try (have c7b1 : decide (((ji6) : Int) < 0) = false := decide_eq_false (Int.not_lt.mpr c7)))
        clear c7
        by_cases c8 : (ji6) < (l0.length : Int)
        · rw [if_pos c8] at H
          have c8b0 : decide ((ji6) < (l0.length : Int)) = true := decide_eq_true c8
          (try (have c8b1 : decide (((l0.length : Int) : Int) ≤ (ji6)) = false := decide_eq_false (Int.not_le.mpr c8)))
          clear c8
          simp only [Option.some.injEq, Prod.mk.injEq] at H
          obtain ⟨rfl, rfl⟩ := H
          have p149 : 0 ≤ ((ji6) : Int) := of_decide_eq_true (by first | (with_reducible assumption) | assumption)
          have q149 : (ji6) < (l0.length : Int) := of_decide_eq_true (by first | (with_reducible assumption) | assumption)
          obtain ⟨ad149, e149, hx149_0⟩ := Kd.at_bool HR0.out (ji6) p149 q149
          cases e149
          replace p149 := eq_true p149
          replace q149 := eq_true q149
          go_enter Try.func41, Try.ntmps41
          go_wp2
          go_ret2
          exact ⟨by first | rfl | (simp; done) | (simp only [← hji6] <;> (first | rfl | simp)) | (simp [*]; done), by repeat (first | exact Drawn0.refl _ | apply Drawn0.step)⟩
        · rw [if_neg c8] at H
          exact absurd H (by simp)
      · rw [if_neg c7] at H
        exact absurd H (by simp)

end Go.Proofs.Ytbidfjngmiggpab.Q
