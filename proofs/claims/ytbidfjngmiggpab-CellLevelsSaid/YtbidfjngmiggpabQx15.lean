-- Written by a program of this session out of the translation. Not trusted: Lean checks it.
import Derived.Test.YtbidfjngmiggpabQx0
namespace Go.Proofs.Ytbidfjngmiggpab.Q
open Go.RowKit Go.Proofs.YtbidfjngmiggpabW.PrintWords Go.Proofs.YtbidfjngmiggpabW.PrintLast Go.Proofs.YtbidfjngmiggpabW.PrintMore
attribute [local go_sem] max2_int min2_int max_two min_two max_three min_three max_four min_four   -- for this text's walks alone
set_option linter.unusedVariables false
set_option linter.unusedSimpArgs false

/-! ### busbarref01_Level: function 16 -/
def busbarref01_Level.f (a0 : Bool) (a1 : Int) : Option (Bool) := if a1 < 0 then (some false) else (if a1 > 19 then (some false) else (some ((decide (a1 < 10)) == a0)))
set_option maxHeartbeats 8000000 in
set_option maxRecDepth 100000 in
theorem busbarref01_Level.calls (a0 : Bool) (a1 : Int) (r : Bool) (w : World) (h : busbarref01_Level.f a0 a1 = some r) :
    Calls Try.prog 16 #[.bool a0, .int .i64 a1] w fun e w' => e = .returned (.bool r) ∧ Drawn0 w w' := by
  have H : (if a1 < 0 then (some false) else (if a1 > 19 then (some false) else (some ((decide (a1 < 10)) == a0)))) = some r := h
  clear h
  by_cases c3 : a1 < 0
  · rw [if_pos c3] at H
    have c3b0 : decide (a1 < 0) = true := decide_eq_true c3
    (try (have c3b1 : decide ((0 : Int) ≤ a1) = false := decide_eq_false (Int.not_le.mpr c3)))
    clear c3
    obtain rfl := Option.some.inj H
    go_enter Try.func16, Try.ntmps16
    go_wp2
    go_ret
    exact ⟨by first | rfl | (simp; done) | (simp [*]; done), by repeat (first | exact Drawn0.refl _ | apply Drawn0.step)⟩
  · rw [if_neg c3] at H
    have c3b0 : decide (a1 < 0) = false := decide_eq_false c3
    (try (have c3b1 : decide ((0 : Int) ≤ a1) = true := decide_eq_true (Int.not_lt.mp c3)))
    clear c3
    by_cases c4 : a1 > 19
    · rw [if_pos c4] at H
      have c4b0 : decide (19 < a1) = true := decide_eq_true c4
      (try (have c4b1 : decide ((a1 : Int) ≤ 19) = false := decide_eq_false (Int.not_le.mpr c4)))
      clear c4
      obtain rfl := Option.some.inj H
      go_enter Try.func16, Try.ntmps16
      go_wp2
      go_ret
      exact ⟨by first | rfl | (simp; done) | (simp [*]; done), by repeat (first | exact Drawn0.refl _ | apply Drawn0.step)⟩
    · rw [if_neg c4] at H
      have c4b0 : decide (19 < a1) = false := decide_eq_false c4
      (try (have c4b1 : decide ((a1 : Int) ≤ 19) = true := decide_eq_true (Int.not_lt.mp c4)))
      clear c4
      obtain rfl := Option.some.inj H
      go_enter Try.func16, Try.ntmps16
      go_wp2
      go_ret
      exact ⟨by first | rfl | (simp; done) | (simp [*]; done), by repeat (first | exact Drawn0.refl _ | apply Drawn0.step)⟩

end Go.Proofs.Ytbidfjngmiggpab.Q
