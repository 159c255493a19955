-- Written by a program of this session out of the translation. Not trusted: Lean checks it.
import Derived.Test.YtbidfjngmiggpaaQx0
namespace Go.Proofs.Ytbidfjngmiggpaa.Q
open Go.RowKit Go.Proofs.YtbidfjngmiggpaaW.PrintWords Go.Proofs.YtbidfjngmiggpaaW.PrintLast Go.Proofs.YtbidfjngmiggpaaW.PrintMore
attribute [local go_sem] max2_int min2_int max_two min_two max_three min_three max_four min_four   -- for this text's walks alone
set_option linter.unusedVariables false
set_option linter.unusedSimpArgs false

/-! ### busbarref03_Drive: function 21 -/
def busbarref03_Drive.j0 : Nat → Bool → Int → Option (Int)
  | 0, _, _ => none
  | k + 1, x1, x5 => if x1 = true then (some x5) else (if (wrap64 (6 - x5)) = 5 then (some 2) else (some 4))
def busbarref03_Drive.f (k : Nat) (a0 : Bool) (a1 : Bool) : Option (Int) := if a0 = true then (busbarref03_Drive.j0 k a1 8) else (busbarref03_Drive.j0 k a1 1)
theorem busbarref03_Drive.mono_l : ∀ k, (∀ y0 y1, LeO (busbarref03_Drive.j0 k y0 y1) (busbarref03_Drive.j0 (k + 1) y0 y1))
  | 0 => fun _ _ r h => by simp [busbarref03_Drive.j0] at h
  | k + 1 => by
    have ih0 := busbarref03_Drive.mono_l k
    · intro y0 y1
      unfold busbarref03_Drive.j0
      repeat' first
      | (with_reducible exact ih0 _ _)
      | (with_reducible exact LeO.refl _)
      | (with_reducible exact LeO.none _)
      | (with_reducible refine LeO.ite ?_ ?_)
      | (with_reducible refine LeO.bind ?_ (fun _ => ?_))
      | exact ih0 _ _
      | exact LeO.none _
      | refine LeO.ite ?_ ?_
      | refine LeO.bind ?_ (fun _ => ?_)
theorem busbarref03_Drive.mono : ∀ a0 a1 k, LeO (busbarref03_Drive.f k a0 a1) (busbarref03_Drive.f (k + 1) a0 a1) := by
  intro a0 a1 k
  have ih0 := busbarref03_Drive.mono_l k
  unfold busbarref03_Drive.f
  repeat' first
      | (with_reducible exact ih0 _ _)
      | (with_reducible exact LeO.refl _)
      | (with_reducible exact LeO.none _)
      | (with_reducible refine LeO.ite ?_ ?_)
      | (with_reducible refine LeO.bind ?_ (fun _ => ?_))
      | exact ih0 _ _
      | exact LeO.none _
      | refine LeO.ite ?_ ?_
      | refine LeO.bind ?_ (fun _ => ?_)
set_option maxHeartbeats 8000000 in
set_option maxRecDepth 100000 in
theorem busbarref03_Drive.calls (k : Nat) (a0 : Bool) (a1 : Bool) (r : Int) (w : World) (h : busbarref03_Drive.f k a0 a1 = some r) :
    Calls Try.prog 21 #[.bool a0, .bool a1] w fun e w' => e = .returned (.int .i64 r) ∧ Drawn0 w w' := by
  have H : (if a0 = true then (busbarref03_Drive.j0 k a1 8) else (busbarref03_Drive.j0 k a1 1)) = some r := h
  clear h
  have HC3 := Aside0.mk H
  clear H
  go_enter Try.func21, Try.ntmps21
  go_upto_if 6 with (fail)
  go_cut [5] (fun v5 wc => ∃ (kq : Nat) (x5_2 : Int), v5 = .int .i64 x5_2 ∧ Aside0 (busbarref03_Drive.j0 kq a1 x5_2 = some r) ∧ Aside0 (kq ≤ k) ∧ Drawn0 w wc)
  case first =>
    have H := HC3.out
    clear HC3
    by_cases c4 : a0 = true
    · subst c4
      have H1 : (busbarref03_Drive.j0 k a1 8) = some r := by rw [if_pos rfl] at H; exact H
      clear H
      have H := H1
      clear H1
      have H' := Aside0.mk H
      clear H
      go_wp2
      go_meet
      case rel => exact ⟨_, (8), (by first | rfl | (simp; done) | (simp [*]; done)), H', ⟨by first | omega | exact Nat.le_refl _⟩, by repeat (first | exact Drawn0.refl _ | apply Drawn0.step)⟩
    · replace c4 := Bool.eq_false_iff.mpr c4
      subst c4
      have H1 : (busbarref03_Drive.j0 k a1 1) = some r := by rw [if_neg (show ¬ (false = true) by decide)] at H; exact H
      clear H
      have H := H1
      clear H1
      have H' := Aside0.mk H
      clear H
      go_wp2
      go_meet
      case rel => exact ⟨_, (1), (by first | rfl | (simp; done) | (simp [*]; done)), H', ⟨by first | omega | exact Nat.le_refl _⟩, by repeat (first | exact Drawn0.refl _ | apply Drawn0.step)⟩
  case rest =>
    clear HC3
    try clear c2
    try clear p2
    try clear c4
    obtain ⟨kq, x5_2, rfl, HA, HJ2, ⟨mc2, rfl⟩⟩ := hcut
    cases kq with
    | zero => exact absurd HA.out (by simp [busbarref03_Drive.j0])
    | succ kj2 =>
      have H := HA.out
      clear HA
      simp only [busbarref03_Drive.j0] at H
      by_cases c5 : a1 = true
      · subst c5
        have H1 : (some x5_2) = some r := by rw [if_pos rfl] at H; exact H
        clear H
        have H := H1
        clear H1
        obtain rfl := Option.some.inj H
        go_wp2
        go_ret
        exact ⟨by first | rfl | (simp; done) | (simp [*]; done), by repeat (first | exact Drawn0.refl _ | apply Drawn0.step)⟩
      · replace c5 := Bool.eq_false_iff.mpr c5
        subst c5
        have H1 : (if (wrap64 (6 - x5_2)) = 5 then (some 2) else (some 4)) = some r := by rw [if_neg (show ¬ (false = true) by decide)] at H; exact H
        clear H
        have H := H1
        clear H1
        by_cases c6 : (wrap64 (6 - x5_2)) = 5
        · rw [if_pos c6] at H
          have c6b0 : ((wrap64 (6 - x5_2)) == 5) = true := beq_iff_eq.mpr c6
          have c6b1 : ((wrap64 (6 - x5_2)) != 5) = false := bne_eq_false_iff_eq.mpr c6
          clear c6
          obtain rfl := Option.some.inj H
          go_wp2
          go_ret
          exact ⟨by first | rfl | (simp; done) | (simp [*]; done), by repeat (first | exact Drawn0.refl _ | apply Drawn0.step)⟩
        · rw [if_neg c6] at H
          have c6b0 : ((wrap64 (6 - x5_2)) == 5) = false := beq_eq_false_iff_ne.mpr c6
          have c6b1 : ((wrap64 (6 - x5_2)) != 5) = true := bne_iff_ne.mpr c6
          obtain rfl := Option.some.inj H
          go_wp2
          go_ret
          exact ⟨by first | rfl | (simp; done) | (simp [*]; done), by repeat (first | exact Drawn0.refl _ | apply Drawn0.step)⟩

end Go.Proofs.Ytbidfjngmiggpaa.Q
