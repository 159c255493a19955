-- Written by a program of this session out of the translation. Not trusted: Lean checks it.
import Derived.Test.YtbidfjngmiggpaaQx0
namespace Go.Proofs.Ytbidfjngmiggpaa.Q
open Go.RowKit Go.Proofs.YtbidfjngmiggpaaW.PrintWords Go.Proofs.YtbidfjngmiggpaaW.PrintLast Go.Proofs.YtbidfjngmiggpaaW.PrintMore
attribute [local go_sem] max2_int min2_int max_two min_two max_three min_three max_four min_four   -- for this text's walks alone
set_option linter.unusedVariables false
set_option linter.unusedSimpArgs false

/-! ### word_Long: function 37 -/
def word_Long.f (a0 : Int) : Option (Int) := if a0 < 0 then (some 0) else (if a0 > 1099511627776 then (some 0) else (some (wrap64 (8 * a0))))
set_option maxHeartbeats 8000000 in
set_option maxRecDepth 100000 in
theorem word_Long.calls (a0 : Int) (r : Int) (w : World) (h : word_Long.f a0 = some r) :
    Calls Try.prog 37 #[.int .i64 a0] w fun e w' => e = .returned (.int .i64 r) ∧ Drawn0 w w' := by
  have H : (if a0 < 0 then (some 0) else (if a0 > 1099511627776 then (some 0) else (some (wrap64 (8 * a0))))) = some r := h
  clear h
  by_cases c2 : a0 < 0
  · rw [if_pos c2] at H
    have c2b0 : decide (a0 < 0) = true := decide_eq_true c2
    (try (have c2b1 : decide ((0 : Int) ≤ a0) = false := decide_eq_false (Int.not_le.mpr c2)))
    clear c2
    obtain rfl := Option.some.inj H
    go_enter Try.func37, Try.ntmps37
    go_wp2
    go_ret
    exact ⟨by first | rfl | (simp; done) | (simp [*]; done), by repeat (first | exact Drawn0.refl _ | apply Drawn0.step)⟩
  · rw [if_neg c2] at H
    have c2b0 : decide (a0 < 0) = false := decide_eq_false c2
    (try (have c2b1 : decide ((0 : Int) ≤ a0) = true := decide_eq_true (Int.not_lt.mp c2)))
    clear c2
    by_cases c3 : a0 > 1099511627776
    · rw [if_pos c3] at H
      have c3b0 : decide (1099511627776 < a0) = true := decide_eq_true c3
      (try (have c3b1 : decide ((a0 : Int) ≤ 1099511627776) = false := decide_eq_false (Int.not_le.mpr c3)))
      clear c3
      obtain rfl := Option.some.inj H
      go_enter Try.func37, Try.ntmps37
      go_wp2
      go_ret
      exact ⟨by first | rfl | (simp; done) | (simp [*]; done), by repeat (first | exact Drawn0.refl _ | apply Drawn0.step)⟩
    · rw [if_neg c3] at H
      have c3b0 : decide (1099511627776 < a0) = false := decide_eq_false c3
      (try (have c3b1 : decide ((a0 : Int) ≤ 1099511627776) = true := decide_eq_true (Int.not_lt.mp c3)))
      clear c3
      obtain rfl := Option.some.inj H
      go_enter Try.func37, Try.ntmps37
      go_wp2
      go_ret
      exact ⟨by first | rfl | (simp; done) | (simp [*]; done), by repeat (first | exact Drawn0.refl _ | apply Drawn0.step)⟩

end Go.Proofs.Ytbidfjngmiggpaa.Q
