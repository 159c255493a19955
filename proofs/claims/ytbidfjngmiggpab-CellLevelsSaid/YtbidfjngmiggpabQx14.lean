-- Written by a program of this session out of the translation. Not trusted: Lean checks it.
import Derived.Test.YtbidfjngmiggpabQx0
namespace Go.Proofs.Ytbidfjngmiggpab.Q
open Go.RowKit Go.Proofs.YtbidfjngmiggpabW.PrintWords Go.Proofs.YtbidfjngmiggpabW.PrintLast Go.Proofs.YtbidfjngmiggpabW.PrintMore
attribute [local go_sem] max2_int min2_int max_two min_two max_three min_three max_four min_four   -- for this text's walks alone
set_option linter.unusedVariables false
set_option linter.unusedSimpArgs false

/-! ### cell_Level: function 15 -/
def cell_Level.j0 : Nat → Bool → Int → Bool → Option (Bool)
  | 0, _, _, _ => none
  | k + 1, x0, x1, x5 => if x5 = true then (some false) else (if x1 < 10 then (some x0) else (some (!x0)))
def cell_Level.f (k : Nat) (a0 : Bool) (a1 : Int) : Option (Bool) := if a1 < 0 then (cell_Level.j0 k a0 a1 true) else (cell_Level.j0 k a0 a1 (decide (a1 ≥ 20)))
theorem cell_Level.mono_l : ∀ k, (∀ y0 y1 y2, LeO (cell_Level.j0 k y0 y1 y2) (cell_Level.j0 (k + 1) y0 y1 y2))
  | 0 => fun _ _ _ r h => by simp [cell_Level.j0] at h
  | k + 1 => by
    have ih0 := cell_Level.mono_l k
    · intro y0 y1 y2
      unfold cell_Level.j0
      repeat' first
      | (with_reducible exact ih0 _ _ _)
      | (with_reducible exact LeO.refl _)
      | (with_reducible exact LeO.none _)
      | (with_reducible refine LeO.ite ?_ ?_)
      | (with_reducible refine LeO.bind ?_ (fun _ => ?_))
      | exact ih0 _ _ _
      | exact LeO.none _
      | refine LeO.ite ?_ ?_
      | refine LeO.bind ?_ (fun _ => ?_)
theorem cell_Level.mono : ∀ a0 a1 k, LeO (cell_Level.f k a0 a1) (cell_Level.f (k + 1) a0 a1) := by
  intro a0 a1 k
  have ih0 := cell_Level.mono_l k
  unfold cell_Level.f
  repeat' first
      | (with_reducible exact ih0 _ _ _)
      | (with_reducible exact LeO.refl _)
      | (with_reducible exact LeO.none _)
      | (with_reducible refine LeO.ite ?_ ?_)
      | (with_reducible refine LeO.bind ?_ (fun _ => ?_))
      | exact ih0 _ _ _
      | exact LeO.none _
      | refine LeO.ite ?_ ?_
      | refine LeO.bind ?_ (fun _ => ?_)
set_option maxHeartbeats 8000000 in
set_option maxRecDepth 100000 in
theorem cell_Level.calls (k : Nat) (a0 : Bool) (a1 : Int) (r : Bool) (w : World) (h : cell_Level.f k a0 a1 = some r) :
    Calls Try.prog 15 #[.bool a0, .int .i64 a1] w fun e w' => e = .returned (.bool r) ∧ Drawn0 w w' := by
  have H : (if a1 < 0 then (cell_Level.j0 k a0 a1 true) else (cell_Level.j0 k a0 a1 (decide (a1 ≥ 20)))) = some r := h
  clear h
  have HC3 := Aside0.mk H
  clear H
  go_enter Try.func15, Try.ntmps15
  go_upto_region 1 with (fail)
  go_cut [5] (fun v5 wc => ∃ (kq : Nat) (x5_2 : Bool), v5 = .bool x5_2 ∧ Aside0 (cell_Level.j0 kq a0 a1 x5_2 = some r) ∧ Aside0 (kq ≤ k) ∧ Drawn0 w wc)
  case first =>
    have H := HC3.out
    clear HC3
    by_cases c4 : a1 < 0
    · rw [if_pos c4] at H
      have c4b0 : decide (a1 < 0) = true := decide_eq_true c4
      (try (have c4b1 : decide ((0 : Int) ≤ a1) = false := decide_eq_false (Int.not_le.mpr c4)))
      clear c4
      (first | rw [c4b0] | (simp only [i64_w, i32_w]; rw [c4b0]) | skip)
      have H' := Aside0.mk H
      clear H
      go_wp2
      go_meet
      case rel => exact ⟨_, (true), (by first | rfl | (simp; done) | (simp [*]; done)), H', ⟨by first | omega | exact Nat.le_refl _⟩, by repeat (first | exact Drawn0.refl _ | apply Drawn0.step)⟩
    · rw [if_neg c4] at H
      have c4b0 : decide (a1 < 0) = false := decide_eq_false c4
      (try (have c4b1 : decide ((0 : Int) ≤ a1) = true := decide_eq_true (Int.not_lt.mp c4)))
      clear c4
      (first | rw [c4b0] | (simp only [i64_w, i32_w]; rw [c4b0]) | skip)
      have H' := Aside0.mk H
      clear H
      go_wp2
      go_meet
      case rel => exact ⟨_, (decide (a1 ≥ 20)), (by first | rfl | (simp; done) | (simp [*]; done)), H', ⟨by first | omega | exact Nat.le_refl _⟩, by repeat (first | exact Drawn0.refl _ | apply Drawn0.step)⟩
  case rest =>
    clear HC3
    try clear c1
    try clear p2
    try clear c4
    try clear c4b0
    try clear c4b1
    obtain ⟨kq, x5_2, rfl, HA, HJ2, ⟨mc2, rfl⟩⟩ := hcut
    cases kq with
    | zero => exact absurd HA.out (by simp [cell_Level.j0])
    | succ kj2 =>
      have H := HA.out
      clear HA
      simp only [cell_Level.j0] at H
      by_cases c5 : x5_2 = true
      · subst c5
        have H1 : (some false) = some r := by rw [if_pos rfl] at H; exact H
        clear H
        have H := H1
        clear H1
        obtain rfl := Option.some.inj H
        go_wp2
        go_ret
        exact ⟨by first | rfl | (simp; done) | (simp [*]; done), by repeat (first | exact Drawn0.refl _ | apply Drawn0.step)⟩
      · replace c5 := Bool.eq_false_iff.mpr c5
        subst c5
        have H1 : (if a1 < 10 then (some a0) else (some (!a0))) = some r := by rw [if_neg (show ¬ (false = true) by decide)] at H; exact H
        clear H
        have H := H1
        clear H1
        by_cases c6 : a1 < 10
        · rw [if_pos c6] at H
          have c6b0 : decide (a1 < 10) = true := decide_eq_true c6
          (try (have c6b1 : decide ((10 : Int) ≤ a1) = false := decide_eq_false (Int.not_le.mpr c6)))
          clear c6
          obtain rfl := Option.some.inj H
          go_wp2
          go_ret
          exact ⟨by first | rfl | (simp; done) | (simp [*]; done), by repeat (first | exact Drawn0.refl _ | apply Drawn0.step)⟩
        · rw [if_neg c6] at H
          have c6b0 : decide (a1 < 10) = false := decide_eq_false c6
          (try (have c6b1 : decide ((10 : Int) ≤ a1) = true := decide_eq_true (Int.not_lt.mp c6)))
          clear c6
          obtain rfl := Option.some.inj H
          go_wp2
          go_ret
          exact ⟨by first | rfl | (simp; done) | (simp [*]; done), by repeat (first | exact Drawn0.refl _ | apply Drawn0.step)⟩

end Go.Proofs.Ytbidfjngmiggpab.Q
