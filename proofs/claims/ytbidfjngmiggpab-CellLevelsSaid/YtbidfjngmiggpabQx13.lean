-- Written by a program of this session out of the translation. Not trusted: Lean checks it.
import Derived.Test.YtbidfjngmiggpabQx0
namespace Go.Proofs.Ytbidfjngmiggpab.Q
open Go.RowKit Go.Proofs.YtbidfjngmiggpabW.PrintWords Go.Proofs.YtbidfjngmiggpabW.PrintLast Go.Proofs.YtbidfjngmiggpabW.PrintMore
attribute [local go_sem] max2_int min2_int max_two min_two max_three min_three max_four min_four   -- for this text's walks alone
set_option linter.unusedVariables false
set_option linter.unusedSimpArgs false

/-! ### cell_Of: function 14 -/
def cell_Of.f (a0 : Bool) (a1 : Bool) : Option (Bool × Bool) := if (a0 == a1) = true then (some (false, false)) else (some (a0, true))
set_option maxHeartbeats 8000000 in
set_option maxRecDepth 100000 in
theorem cell_Of.calls (a0 : Bool) (a1 : Bool) (r1 : Bool) (r2 : Bool) (w : World) (h : cell_Of.f a0 a1 = some (r1, r2)) :
    Calls Try.prog 14 #[.bool a0, .bool a1] w fun e w' => e = .returned (.tuple #[.bool r1, .bool r2]) ∧ Drawn0 w w' := by
  have H : (if (a0 == a1) = true then (some (false, false)) else (some (a0, true))) = some (r1, r2) := h
  clear h
  by_cases c3 : (a0 == a1) = true
  · rw [if_pos c3] at H
    have c3b0 : (a0 == a1) = true := c3
    (try (have c3b1 : decide (a0 = a1) = true := by simpa using c3))
    (try (have c3b2 : (a0 == a1) = true := by simpa using c3))
    clear c3
    simp only [Option.some.injEq, Prod.mk.injEq] at H
    obtain ⟨rfl, rfl⟩ := H
    go_enter Try.func14, Try.ntmps14
    go_wp2
    go_ret2
    exact ⟨by first | rfl | (simp; done) | (simp [*]; done), by repeat (first | exact Drawn0.refl _ | apply Drawn0.step)⟩
  · rw [if_neg c3] at H
    have c3b0 : (a0 == a1) = false := by simpa using c3
    (try (have c3b1 : decide (a0 = a1) = false := by simpa using c3))
    (try (have c3b2 : (a0 == a1) = false := by simpa using c3))
    (try (have c3b3 : ¬ (a0 = a1) := by simpa using c3))
    clear c3
    simp only [Option.some.injEq, Prod.mk.injEq] at H
    obtain ⟨rfl, rfl⟩ := H
    go_enter Try.func14, Try.ntmps14
    go_wp2
    go_ret2
    exact ⟨by first | rfl | (simp; done) | (simp [*]; done), by repeat (first | exact Drawn0.refl _ | apply Drawn0.step)⟩

end Go.Proofs.Ytbidfjngmiggpab.Q
