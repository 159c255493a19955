-- Written by a program of this session out of the translation. Not trusted: Lean checks it.
import Derived.Test.YtbidfjngmiggpaaQx0
import Derived.Test.YtbidfjngmiggpaaQx1
import Derived.Test.YtbidfjngmiggpaaQx2
import Derived.Test.YtbidfjngmiggpaaQx4
import Derived.Test.YtbidfjngmiggpaaQx7
import Derived.Test.YtbidfjngmiggpaaQx8
import Derived.Test.YtbidfjngmiggpaaQx10
import Derived.Test.YtbidfjngmiggpaaQx11
import Derived.Test.YtbidfjngmiggpaaQx13
namespace Go.Proofs.Ytbidfjngmiggpaa.Q
open Go.RowKit Go.Proofs.YtbidfjngmiggpaaW.PrintWords Go.Proofs.YtbidfjngmiggpaaW.PrintLast Go.Proofs.YtbidfjngmiggpaaW.PrintMore
attribute [local go_sem] max2_int min2_int max_two min_two max_three min_three max_four min_four   -- for this text's walks alone
set_option linter.unusedVariables false
set_option linter.unusedSimpArgs false

/-! ### busbarlaw03_WiresDrive: function 3 -/
mutual
def busbarlaw03_WiresDrive.l0 : Nat → Bool → Bool → List Int → Int → Int → Option (Bool)
  | 0, _, _, _, _, _ => none
  | k + 1, x0, x1, x2, x7, x8 => if x8 < 4 then (busbarlaw03_WiresDrive.l1 k x0 x1 x2 x7 x8 false 0) else ((wires_Pulse.f x0).bind fun t133 => ((wires_Drive.f x0 x1).bind fun t134 => ((busbarref03_Drive.f k x0 x1).bind fun t135 => (if (wrap64 (t134)) = t135 then (if x0 = true then (if t133 = 12 then ((wires_Or.f k ([] : List Int)).bind fun t136 => (if t136 = 0 then ((busbarlaw03_one.f).bind fun t137 => (some t137)) else (some false))) else (some false)) else (if t133 = 3 then ((wires_Or.f k ([] : List Int)).bind fun t138 => (if t138 = 0 then ((busbarlaw03_one.f).bind fun t139 => (some t139)) else (some false))) else (some false))) else (some false)))))
def busbarlaw03_WiresDrive.l1 : Nat → Bool → Bool → List Int → Int → Int → Bool → Int → Option (Bool)
  | 0, _, _, _, _, _, _, _ => none
  | k + 1, x0, x1, x2, x7, x8, x9, x10 => if x10 < (x2.length : Int) then (if x9 = true then (busbarlaw03_WiresDrive.l1 k x0 x1 x2 x7 x8 true (wrap64 (x10 + 1))) else (if 0 ≤ x10 then ((busbarref03_High.f (wrap64 (rd x2 x10)) x8).bind fun t129 => (busbarlaw03_WiresDrive.l1 k x0 x1 x2 x7 x8 t129 (wrap64 (x10 + 1)))) else (none))) else ((wires_Lines_High.f x7 x8).bind fun t130 => (if (t130 != x9) = true then (some false) else ((wires_Lines_Side.f x7 x0).bind fun t131 => ((wires_Lines_High.f t131 x8).bind fun t132 => (if x9 = true then (if (t132 != ((decide (x8 ≥ 2)) == x0)) = true then (some false) else (busbarlaw03_WiresDrive.l0 k x0 x1 x2 x7 (wrap64 (x8 + 1)))) else (if (t132 != false) = true then (some false) else (busbarlaw03_WiresDrive.l0 k x0 x1 x2 x7 (wrap64 (x8 + 1)))))))))
end
def busbarlaw03_WiresDrive.f (k : Nat) (a0 : Bool) (a1 : Bool) (l2 : List Int) : Option (Bool) := if (l2.length : Int) > 60 then (some true) else ((wires_Or.f k l2).bind fun t127 => (busbarlaw03_WiresDrive.l0 k a0 a1 l2 t127 0))
theorem busbarlaw03_WiresDrive.mono_l : ∀ k, (∀ y0 y1 y2 y3 y4, LeO (busbarlaw03_WiresDrive.l0 k y0 y1 y2 y3 y4) (busbarlaw03_WiresDrive.l0 (k + 1) y0 y1 y2 y3 y4)) ∧ (∀ y0 y1 y2 y3 y4 y5 y6, LeO (busbarlaw03_WiresDrive.l1 k y0 y1 y2 y3 y4 y5 y6) (busbarlaw03_WiresDrive.l1 (k + 1) y0 y1 y2 y3 y4 y5 y6))
  | 0 => ⟨fun _ _ _ _ _ r h => by simp [busbarlaw03_WiresDrive.l0] at h, fun _ _ _ _ _ _ _ r h => by simp [busbarlaw03_WiresDrive.l1] at h⟩
  | k + 1 => by
    obtain ⟨ih0, ih1⟩ := busbarlaw03_WiresDrive.mono_l k
    refine ⟨?_, ?_⟩
    · intro y0 y1 y2 y3 y4
      unfold busbarlaw03_WiresDrive.l0
      repeat' first
      | (with_reducible exact ih0 _ _ _ _ _)
      | (with_reducible exact ih1 _ _ _ _ _ _ _)
      | (with_reducible exact busbarref03_Drive.mono _ _ _)
      | (with_reducible exact wires_Or.mono _ _)
      | (with_reducible exact LeO.refl _)
      | (with_reducible exact LeO.none _)
      | (with_reducible refine LeO.ite ?_ ?_)
      | (with_reducible refine LeO.bind ?_ (fun _ => ?_))
      | exact ih0 _ _ _ _ _
      | exact ih1 _ _ _ _ _ _ _
      | exact busbarref03_Drive.mono _ _ _
      | exact wires_Or.mono _ _
      | exact LeO.none _
      | refine LeO.ite ?_ ?_
      | refine LeO.bind ?_ (fun _ => ?_)
    · intro y0 y1 y2 y3 y4 y5 y6
      unfold busbarlaw03_WiresDrive.l1
      repeat' first
      | (with_reducible exact ih0 _ _ _ _ _)
      | (with_reducible exact ih1 _ _ _ _ _ _ _)
      | (with_reducible exact busbarref03_Drive.mono _ _ _)
      | (with_reducible exact wires_Or.mono _ _)
      | (with_reducible exact LeO.refl _)
      | (with_reducible exact LeO.none _)
      | (with_reducible refine LeO.ite ?_ ?_)
      | (with_reducible refine LeO.bind ?_ (fun _ => ?_))
      | exact ih0 _ _ _ _ _
      | exact ih1 _ _ _ _ _ _ _
      | exact busbarref03_Drive.mono _ _ _
      | exact wires_Or.mono _ _
      | exact LeO.none _
      | refine LeO.ite ?_ ?_
      | refine LeO.bind ?_ (fun _ => ?_)
theorem busbarlaw03_WiresDrive.mono : ∀ a0 a1 a2 k, LeO (busbarlaw03_WiresDrive.f k a0 a1 a2) (busbarlaw03_WiresDrive.f (k + 1) a0 a1 a2) := by
  intro a0 a1 a2 k
  obtain ⟨ih0, ih1⟩ := busbarlaw03_WiresDrive.mono_l k
  unfold busbarlaw03_WiresDrive.f
  repeat' first
      | (with_reducible exact ih0 _ _ _ _ _)
      | (with_reducible exact ih1 _ _ _ _ _ _ _)
      | (with_reducible exact busbarref03_Drive.mono _ _ _)
      | (with_reducible exact wires_Or.mono _ _)
      | (with_reducible exact LeO.refl _)
      | (with_reducible exact LeO.none _)
      | (with_reducible refine LeO.ite ?_ ?_)
      | (with_reducible refine LeO.bind ?_ (fun _ => ?_))
      | exact ih0 _ _ _ _ _
      | exact ih1 _ _ _ _ _ _ _
      | exact busbarref03_Drive.mono _ _ _
      | exact wires_Or.mono _ _
      | exact LeO.none _
      | refine LeO.ite ?_ ?_
      | refine LeO.bind ?_ (fun _ => ?_)
set_option maxHeartbeats 8000000 in
set_option maxRecDepth 100000 in
theorem busbarlaw03_WiresDrive.calls (k : Nat) (a0 : Bool) (a1 : Bool) (A2 : Option Addr) (c2 : Nat) (l2 : List Int) (r : Bool) (w : World) (hr2 : Kd.C (Kd.int .u8) w A2 l2.length l2) (hc2 : l2.length ≤ c2) (h : busbarlaw03_WiresDrive.f k a0 a1 l2 = some r) :
    Calls Try.prog 3 #[.bool a0, .bool a1, .slice A2 l2.length c2] w fun e w' => e = .returned (.bool r) ∧ Below w.heap.size w w' := by
  have HR2 := Aside0.mk hr2
  have HC2 := Aside0.mk hc2
  clear hr2 hc2
  have HB := Aside0.mk (Below.refl w.heap.size w)
  have H : (if (l2.length : Int) > 60 then (some true) else ((wires_Or.f k l2).bind fun t127 => (busbarlaw03_WiresDrive.l0 k a0 a1 l2 t127 0))) = some r := h
  clear h
  by_cases c4 : (l2.length : Int) > 60
  · rw [if_pos c4] at H
    have c4b0 : decide (60 < (l2.length : Int)) = true := decide_eq_true c4
    (try (have c4b1 : decide (((l2.length : Int) : Int) ≤ 60) = false := decide_eq_false (Int.not_le.mpr c4)))
    have c4b2 : decide (60 < l2.length) = true := decide_eq_true (by omega)
    clear c4
    obtain rfl := Option.some.inj H
    go_enter Try.func3, Try.ntmps3
    go_wp2
    go_ret
    exact ⟨by first | rfl | (simp [errW_none, errW_some] <;> rfl) | (simp [*, errW_none, errW_some] <;> rfl), by repeat (first | (with_reducible first | exact HB.out | apply below_alloc | apply pw_below_drewN | apply below_drew1) | exact HB.out)⟩
  · rw [if_neg c4] at H
    have c4b0 : decide (60 < (l2.length : Int)) = false := decide_eq_false c4
    (try (have c4b1 : decide (((l2.length : Int) : Int) ≤ 60) = true := decide_eq_true (Int.not_lt.mp c4)))
    have c4b2 : decide (60 < l2.length) = false := decide_eq_false (by omega)
    clear c4
    replace H := Option.bind_eq_some_iff.mp H
    obtain ⟨t127, A50, H⟩ := H
    replace H : (busbarlaw03_WiresDrive.l0 k a0 a1 l2 t127 0) = some r := H
    have A5 := Aside0.mk A50
    clear A50
    have H' := Aside0.mk H
    clear H
    go_enter Try.func3, Try.ntmps3
    go_wp2_with (first | ((with_reducible refine gate_callee (f := 15) rfl ?_); refine goesL_ (some 16) rfl rfl Try.func15 (by kernel_rfl) rfl #[.slice A2 l2.length c2] rfl (by (try simp only [List.map_toArray, List.map_cons, List.map_nil]); first | done | rfl | (simp only [List.length_drop, List.length_take]; rfl)) ?_; (with_reducible refine (wires_Or.calls k _ _ l2 t127 _ ?side1 ?side2 A5.out).mono ?_); (case side1 => repeat (first | exact HR2.out | (with_reducible refine Kd.C_alloc ?_ _) | (with_reducible refine Kd.C_drewN ?_ _) | (with_reducible refine Kd.C_drew ?_))); (case side2 => exact HC2.out); rintro e w' ⟨rfl, ⟨nd, rfl⟩⟩; refine ⟨_, rfl, ?_⟩))
    go_loopg [8] k (fun kq v8 w' => ∃ (x8_1 : Int), v8 = .int .i64 x8_1 ∧ Aside0 (busbarlaw03_WiresDrive.l0 kq a0 a1 l2 t127 x8_1 = some r) ∧ Aside0 (kq ≤ k) ∧ Aside0 (Below w.heap.size w w'))
    case atStart => exact ⟨(0), (by first | rfl | (simp; done) | (simp [*]; done)), H', ⟨Nat.le_refl _⟩, ⟨by repeat (first | (with_reducible first | exact HB.out | apply below_alloc | apply pw_below_drewN | apply below_drew1) | exact HB.out)⟩⟩
    case round =>
      clear H'
      try clear c1
      try clear c2
      try clear p2
      try clear c3
      try clear c4
      try clear c4b0
      try clear c4b1
      try clear c4b2
      obtain ⟨x8_1, rfl, HA, HK1, HB⟩ := hrel
      cases gk with
      | zero => exact absurd HA.out (by simp [busbarlaw03_WiresDrive.l0])
      | succ k1 =>
        have H := HA.out
        clear HA
        simp only [busbarlaw03_WiresDrive.l0] at H
        by_cases c6 : x8_1 < 4
        · rw [if_pos c6] at H
          have c6b0 : decide (x8_1 < 4) = true := decide_eq_true c6
          (try (have c6b1 : decide ((4 : Int) ≤ x8_1) = false := decide_eq_false (Int.not_le.mpr c6)))
          clear c6
          have H' := Aside0.mk H
          clear H
          go_wp2
          go_loopg [9, 10] k1 (fun kq v9 v10 w' => ∃ (x9_2 : Bool) (x10_2 : Int), v9 = .bool x9_2 ∧ v10 = .int .i64 x10_2 ∧ Aside0 (busbarlaw03_WiresDrive.l1 kq a0 a1 l2 t127 x8_1 x9_2 x10_2 = some r) ∧ Aside0 (kq ≤ k1) ∧ Aside0 (Below w.heap.size w w'))
          case atStart => exact ⟨(false), (0), (by first | rfl | (simp; done) | (simp [*]; done)), (by first | rfl | (simp; done) | (simp [*]; done)), H', ⟨Nat.le_refl _⟩, ⟨by repeat (first | (with_reducible first | exact HB.out | apply below_alloc | apply pw_below_drewN | apply below_drew1) | exact HB.out)⟩⟩
          case round =>
            clear H'
            try clear c1
            try clear c2
            try clear p2
            try clear c3
            try clear c4
            try clear c4b0
            try clear c4b1
            try clear c4b2
            try clear c6
            try clear c6b0
            try clear c6b1
            try clear p2
            obtain ⟨x9_2, x10_2, rfl, rfl, HA, HK2, HB⟩ := hrel
            cases gk with
            | zero => exact absurd HA.out (by simp [busbarlaw03_WiresDrive.l1])
            | succ k2 =>
              have H := HA.out
              clear HA
              simp only [busbarlaw03_WiresDrive.l1] at H
              by_cases c7 : x10_2 < (l2.length : Int)
              · rw [if_pos c7] at H
                have c7b0 : decide (x10_2 < (l2.length : Int)) = true := decide_eq_true c7
                (try (have c7b1 : decide (((l2.length : Int) : Int) ≤ x10_2) = false := decide_eq_false (Int.not_le.mpr c7)))
                clear c7
                by_cases c8 : x9_2 = true
                · subst c8
                  have H1 : (busbarlaw03_WiresDrive.l1 k2 a0 a1 l2 t127 x8_1 true (wrap64 (x10_2 + 1))) = some r := by rw [if_pos rfl] at H; exact H
                  clear H
                  have H := H1
                  clear H1
                  have H' := Aside0.mk H
                  clear H
                  go_wp2
                  go_roundg k2
                  case measure => have := HK1.out; have := HK2.out; omega
                  case rel => exact ⟨(true), (wrap64 (x10_2 + 1)), (by first | rfl | (simp; done) | (simp [*]; done)), (by first | rfl | (simp; done) | (simp [*]; done)), H', ⟨by have := HK1.out; have := HK2.out; omega⟩, ⟨by repeat (first | (with_reducible first | exact HB.out | apply below_alloc | apply pw_below_drewN | apply below_drew1) | exact HB.out)⟩⟩
                · replace c8 := Bool.eq_false_iff.mpr c8
                  subst c8
                  have H1 : (if 0 ≤ x10_2 then ((busbarref03_High.f (wrap64 (rd l2 x10_2)) x8_1).bind fun t129 => (busbarlaw03_WiresDrive.l1 k2 a0 a1 l2 t127 x8_1 t129 (wrap64 (x10_2 + 1)))) else (none)) = some r := by rw [if_neg (show ¬ (false = true) by decide)] at H; exact H
                  clear H
                  have H := H1
                  clear H1
                  by_cases c9 : 0 ≤ x10_2
                  · rw [if_pos c9] at H
                    have c9b0 : decide (0 ≤ x10_2) = true := decide_eq_true c9
                    (try (have c9b1 : decide ((x10_2 : Int) < 0) = false := decide_eq_false (Int.not_lt.mpr c9)))
                    clear c9
                    replace H := Option.bind_eq_some_iff.mp H
                    obtain ⟨t129, A100, H⟩ := H
                    replace H : (busbarlaw03_WiresDrive.l1 k2 a0 a1 l2 t127 x8_1 t129 (wrap64 (x10_2 + 1))) = some r := H
                    have A10 := Aside0.mk A100
                    clear A100
                    have H' := Aside0.mk H
                    clear H
                    have p128 : 0 ≤ (x10_2 : Int) := of_decide_eq_true (by first | (with_reducible assumption) | assumption)
                    have q128 : x10_2 < (l2.length : Int) := of_decide_eq_true (by first | (with_reducible assumption) | assumption)
                    obtain ⟨ad128, e128, hx128_0⟩ := Kd.at_int HR2.out x10_2 p128 q128
                    cases e128
                    replace hx128_0 := (HB.out.cell (World.block_lt_of_cell? w _ hx128_0)).trans hx128_0
                    replace p128 := eq_true p128
                    replace q128 := eq_true q128
                    go_wp2_with (first | (go_at_call 16; (with_reducible refine (busbarref03_High.calls (wrap64 (rd l2 x10_2)) x8_1 t129 _ A10.out).mono ?_); rintro e w' ⟨rfl, ⟨nd, rfl⟩⟩))
                    go_roundg k2
                    case measure => have := HK1.out; have := HK2.out; omega
                    case rel => exact ⟨(t129), (wrap64 (x10_2 + 1)), (by first | rfl | (simp; done) | (simp [*]; done)), (by first | rfl | (simp; done) | (simp [*]; done)), H', ⟨by have := HK1.out; have := HK2.out; omega⟩, ⟨by repeat (first | (with_reducible first | exact HB.out | apply below_alloc | apply pw_below_drewN | apply below_drew1) | exact HB.out)⟩⟩
                  · rw [if_neg c9] at H
                    exact absurd H (by simp)
              · rw [if_neg c7] at H
                have c7b0 : decide (x10_2 < (l2.length : Int)) = false := decide_eq_false c7
                (try (have c7b1 : decide (((l2.length : Int) : Int) ≤ x10_2) = true := decide_eq_true (Int.not_lt.mp c7)))
                clear c7
                replace H := Option.bind_eq_some_iff.mp H
                obtain ⟨t130, A110, H⟩ := H
                replace H : (if (t130 != x9_2) = true then (some false) else ((wires_Lines_Side.f t127 a0).bind fun t131 => ((wires_Lines_High.f t131 x8_1).bind fun t132 => (if x9_2 = true then (if (t132 != ((decide (x8_1 ≥ 2)) == a0)) = true then (some false) else (busbarlaw03_WiresDrive.l0 k2 a0 a1 l2 t127 (wrap64 (x8_1 + 1)))) else (if (t132 != false) = true then (some false) else (busbarlaw03_WiresDrive.l0 k2 a0 a1 l2 t127 (wrap64 (x8_1 + 1)))))))) = some r := H
                have A11 := Aside0.mk A110
                clear A110
                by_cases c12 : (t130 != x9_2) = true
                · rw [if_pos c12] at H
                  have c12b0 : (t130 != x9_2) = true := c12
                  (try (have c12b1 : decide (t130 = x9_2) = false := by simpa using c12))
                  (try (have c12b2 : (t130 == x9_2) = false := by simpa using c12))
                  (try (have c12b3 : ¬ (t130 = x9_2) := by simpa using c12))
                  (try (have c12b4 : (!(t130 == x9_2)) = true := by have h_ := c12; simp only [bne] at h_; first | exact h_ | simpa using h_))
                  clear c12
                  obtain rfl := Option.some.inj H
                  go_wp2_with (first | ((with_reducible refine gate_callee (f := 17) rfl ?_); refine goesL_ (some 39) rfl rfl Try.func17 (by kernel_rfl) rfl #[.int .u8 t127, .int .i64 x8_1] rfl (by (try simp only [List.map_toArray, List.map_cons, List.map_nil]); first | done | rfl | (simp only [List.length_drop, List.length_take]; rfl)) ?_; (with_reducible refine (wires_Lines_High.calls t127 x8_1 t130 _ A11.out).mono ?_); rintro e w' ⟨rfl, ⟨nd, rfl⟩⟩; refine ⟨_, rfl, ?_⟩))
                  go_ret
                  exact ⟨by first | rfl | (simp [errW_none, errW_some] <;> rfl) | (simp [*, errW_none, errW_some] <;> rfl), by repeat (first | (with_reducible first | exact HB.out | apply below_alloc | apply pw_below_drewN | apply below_drew1) | exact HB.out)⟩
                · rw [if_neg c12] at H
                  have c12b0 : (t130 != x9_2) = false := by simpa using c12
                  (try (have c12b1 : decide (t130 = x9_2) = true := by simpa using c12))
                  (try (have c12b2 : (t130 == x9_2) = true := by simpa using c12))
                  (try (have c12b3 : (!(t130 == x9_2)) = false := by have h_ := c12; simp only [bne] at h_; first | exact h_ | simpa using h_))
                  clear c12
                  replace H := Option.bind_eq_some_iff.mp H
                  obtain ⟨t131, A130, H⟩ := H
                  replace H : ((wires_Lines_High.f t131 x8_1).bind fun t132 => (if x9_2 = true then (if (t132 != ((decide (x8_1 ≥ 2)) == a0)) = true then (some false) else (busbarlaw03_WiresDrive.l0 k2 a0 a1 l2 t127 (wrap64 (x8_1 + 1)))) else (if (t132 != false) = true then (some false) else (busbarlaw03_WiresDrive.l0 k2 a0 a1 l2 t127 (wrap64 (x8_1 + 1)))))) = some r := H
                  have A13 := Aside0.mk A130
                  clear A130
                  replace H := Option.bind_eq_some_iff.mp H
                  obtain ⟨t132, A140, H⟩ := H
                  replace H : (if x9_2 = true then (if (t132 != ((decide (x8_1 ≥ 2)) == a0)) = true then (some false) else (busbarlaw03_WiresDrive.l0 k2 a0 a1 l2 t127 (wrap64 (x8_1 + 1)))) else (if (t132 != false) = true then (some false) else (busbarlaw03_WiresDrive.l0 k2 a0 a1 l2 t127 (wrap64 (x8_1 + 1))))) = some r := H
                  have A14 := Aside0.mk A140
                  clear A140
                  by_cases c15 : x9_2 = true
                  · subst c15
                    have H1 : (if (t132 != ((decide (x8_1 ≥ 2)) == a0)) = true then (some false) else (busbarlaw03_WiresDrive.l0 k2 a0 a1 l2 t127 (wrap64 (x8_1 + 1)))) = some r := by rw [if_pos rfl] at H; exact H
                    clear H
                    have H := H1
                    clear H1
                    by_cases c16 : (t132 != ((decide (x8_1 ≥ 2)) == a0)) = true
                    · rw [if_pos c16] at H
                      have c16b0 : (t132 != ((decide (x8_1 ≥ 2)) == a0)) = true := c16
                      (try (have c16b1 : decide (t132 = ((decide (x8_1 ≥ 2)) == a0)) = false := by simpa using c16))
                      (try (have c16b2 : (t132 == ((decide (x8_1 ≥ 2)) == a0)) = false := by simpa using c16))
                      (try (have c16b3 : ¬ (t132 = ((decide (x8_1 ≥ 2)) == a0)) := by simpa using c16))
                      (try (have c16b4 : (!(t132 == ((decide (x8_1 ≥ 2)) == a0))) = true := by have h_ := c16; simp only [bne] at h_; first | exact h_ | simpa using h_))
                      clear c16
                      obtain rfl := Option.some.inj H
                      go_wp2_with (first | ((with_reducible refine gate_callee (f := 17) rfl ?_); refine goesL_ (some 39) rfl rfl Try.func17 (by kernel_rfl) rfl #[.int .u8 t127, .int .i64 x8_1] rfl (by (try simp only [List.map_toArray, List.map_cons, List.map_nil]); first | done | rfl | (simp only [List.length_drop, List.length_take]; rfl)) ?_; (with_reducible refine (wires_Lines_High.calls t127 x8_1 t130 _ A11.out).mono ?_); rintro e w' ⟨rfl, ⟨nd, rfl⟩⟩; refine ⟨_, rfl, ?_⟩) | (go_at_call 18; (with_reducible refine (wires_Lines_Side.calls t127 a0 t131 _ A13.out).mono ?_); rintro e w' ⟨rfl, ⟨nd, rfl⟩⟩) | (go_at_call 17; (with_reducible refine (wires_Lines_High.calls t131 x8_1 t132 _ A14.out).mono ?_); rintro e w' ⟨rfl, ⟨nd, rfl⟩⟩))
                      go_ret
                      exact ⟨by first | rfl | (simp [errW_none, errW_some] <;> rfl) | (simp [*, errW_none, errW_some] <;> rfl), by repeat (first | (with_reducible first | exact HB.out | apply below_alloc | apply pw_below_drewN | apply below_drew1) | exact HB.out)⟩
                    · rw [if_neg c16] at H
                      have c16b0 : (t132 != ((decide (x8_1 ≥ 2)) == a0)) = false := by simpa using c16
                      (try (have c16b1 : decide (t132 = ((decide (x8_1 ≥ 2)) == a0)) = true := by simpa using c16))
                      (try (have c16b2 : (t132 == ((decide (x8_1 ≥ 2)) == a0)) = true := by simpa using c16))
                      (try (have c16b3 : (!(t132 == ((decide (x8_1 ≥ 2)) == a0))) = false := by have h_ := c16; simp only [bne] at h_; first | exact h_ | simpa using h_))
                      clear c16
                      have H' := Aside0.mk H
                      clear H
                      go_wp2_with (first | ((with_reducible refine gate_callee (f := 17) rfl ?_); refine goesL_ (some 39) rfl rfl Try.func17 (by kernel_rfl) rfl #[.int .u8 t127, .int .i64 x8_1] rfl (by (try simp only [List.map_toArray, List.map_cons, List.map_nil]); first | done | rfl | (simp only [List.length_drop, List.length_take]; rfl)) ?_; (with_reducible refine (wires_Lines_High.calls t127 x8_1 t130 _ A11.out).mono ?_); rintro e w' ⟨rfl, ⟨nd, rfl⟩⟩; refine ⟨_, rfl, ?_⟩) | (go_at_call 18; (with_reducible refine (wires_Lines_Side.calls t127 a0 t131 _ A13.out).mono ?_); rintro e w' ⟨rfl, ⟨nd, rfl⟩⟩) | (go_at_call 17; (with_reducible refine (wires_Lines_High.calls t131 x8_1 t132 _ A14.out).mono ?_); rintro e w' ⟨rfl, ⟨nd, rfl⟩⟩))
                      go_roundg k2
                      case measure => have := HK1.out; have := HK2.out; omega
                      case rel => exact ⟨(wrap64 (x8_1 + 1)), (by first | rfl | (simp; done) | (simp [*]; done)), H', ⟨by have := HK1.out; have := HK2.out; omega⟩, ⟨by repeat (first | (with_reducible first | exact HB.out | apply below_alloc | apply pw_below_drewN | apply below_drew1) | exact HB.out)⟩⟩
                  · replace c15 := Bool.eq_false_iff.mpr c15
                    subst c15
                    have H1 : (if (t132 != false) = true then (some false) else (busbarlaw03_WiresDrive.l0 k2 a0 a1 l2 t127 (wrap64 (x8_1 + 1)))) = some r := by rw [if_neg (show ¬ (false = true) by decide)] at H; exact H
                    clear H
                    have H := H1
                    clear H1
                    by_cases c17 : (t132 != false) = true
                    · rw [if_pos c17] at H
                      have c17b0 : (t132 != false) = true := c17
                      (try (have c17b1 : decide (t132 = false) = false := by simpa using c17))
                      (try (have c17b2 : (t132 == false) = false := by simpa using c17))
                      (try (have c17b3 : ¬ (t132 = false) := by simpa using c17))
                      (try (have c17b4 : (!(t132 == false)) = true := by have h_ := c17; simp only [bne] at h_; first | exact h_ | simpa using h_))
                      clear c17
                      obtain rfl := Option.some.inj H
                      go_wp2_with (first | ((with_reducible refine gate_callee (f := 17) rfl ?_); refine goesL_ (some 39) rfl rfl Try.func17 (by kernel_rfl) rfl #[.int .u8 t127, .int .i64 x8_1] rfl (by (try simp only [List.map_toArray, List.map_cons, List.map_nil]); first | done | rfl | (simp only [List.length_drop, List.length_take]; rfl)) ?_; (with_reducible refine (wires_Lines_High.calls t127 x8_1 t130 _ A11.out).mono ?_); rintro e w' ⟨rfl, ⟨nd, rfl⟩⟩; refine ⟨_, rfl, ?_⟩) | (go_at_call 18; (with_reducible refine (wires_Lines_Side.calls t127 a0 t131 _ A13.out).mono ?_); rintro e w' ⟨rfl, ⟨nd, rfl⟩⟩) | (go_at_call 17; (with_reducible refine (wires_Lines_High.calls t131 x8_1 t132 _ A14.out).mono ?_); rintro e w' ⟨rfl, ⟨nd, rfl⟩⟩))
                      go_ret
                      exact ⟨by first | rfl | (simp [errW_none, errW_some] <;> rfl) | (simp [*, errW_none, errW_some] <;> rfl), by repeat (first | (with_reducible first | exact HB.out | apply below_alloc | apply pw_below_drewN | apply below_drew1) | exact HB.out)⟩
                    · rw [if_neg c17] at H
                      have c17b0 : (t132 != false) = false := by simpa using c17
                      (try (have c17b1 : decide (t132 = false) = true := by simpa using c17))
                      (try (have c17b2 : (t132 == false) = true := by simpa using c17))
                      (try (have c17b3 : (!(t132 == false)) = false := by have h_ := c17; simp only [bne] at h_; first | exact h_ | simpa using h_))
                      clear c17
                      have H' := Aside0.mk H
                      clear H
                      go_wp2_with (first | ((with_reducible refine gate_callee (f := 17) rfl ?_); refine goesL_ (some 39) rfl rfl Try.func17 (by kernel_rfl) rfl #[.int .u8 t127, .int .i64 x8_1] rfl (by (try simp only [List.map_toArray, List.map_cons, List.map_nil]); first | done | rfl | (simp only [List.length_drop, List.length_take]; rfl)) ?_; (with_reducible refine (wires_Lines_High.calls t127 x8_1 t130 _ A11.out).mono ?_); rintro e w' ⟨rfl, ⟨nd, rfl⟩⟩; refine ⟨_, rfl, ?_⟩) | (go_at_call 18; (with_reducible refine (wires_Lines_Side.calls t127 a0 t131 _ A13.out).mono ?_); rintro e w' ⟨rfl, ⟨nd, rfl⟩⟩) | (go_at_call 17; (with_reducible refine (wires_Lines_High.calls t131 x8_1 t132 _ A14.out).mono ?_); rintro e w' ⟨rfl, ⟨nd, rfl⟩⟩))
                      go_roundg k2
                      case measure => have := HK1.out; have := HK2.out; omega
                      case rel => exact ⟨(wrap64 (x8_1 + 1)), (by first | rfl | (simp; done) | (simp [*]; done)), H', ⟨by have := HK1.out; have := HK2.out; omega⟩, ⟨by repeat (first | (with_reducible first | exact HB.out | apply below_alloc | apply pw_below_drewN | apply below_drew1) | exact HB.out)⟩⟩
        · rw [if_neg c6] at H
          have c6b0 : decide (x8_1 < 4) = false := decide_eq_false c6
          (try (have c6b1 : decide ((4 : Int) ≤ x8_1) = true := decide_eq_true (Int.not_lt.mp c6)))
          clear c6
          replace H := Option.bind_eq_some_iff.mp H
          obtain ⟨t133, A180, H⟩ := H
          replace H : ((wires_Drive.f a0 a1).bind fun t134 => ((busbarref03_Drive.f k1 a0 a1).bind fun t135 => (if (wrap64 (t134)) = t135 then (if a0 = true then (if t133 = 12 then ((wires_Or.f k1 ([] : List Int)).bind fun t136 => (if t136 = 0 then ((busbarlaw03_one.f).bind fun t137 => (some t137)) else (some false))) else (some false)) else (if t133 = 3 then ((wires_Or.f k1 ([] : List Int)).bind fun t138 => (if t138 = 0 then ((busbarlaw03_one.f).bind fun t139 => (some t139)) else (some false))) else (some false))) else (some false)))) = some r := H
          have A18 := Aside0.mk A180
          clear A180
          replace H := Option.bind_eq_some_iff.mp H
          obtain ⟨t134, A190, H⟩ := H
          replace H : ((busbarref03_Drive.f k1 a0 a1).bind fun t135 => (if (wrap64 (t134)) = t135 then (if a0 = true then (if t133 = 12 then ((wires_Or.f k1 ([] : List Int)).bind fun t136 => (if t136 = 0 then ((busbarlaw03_one.f).bind fun t137 => (some t137)) else (some false))) else (some false)) else (if t133 = 3 then ((wires_Or.f k1 ([] : List Int)).bind fun t138 => (if t138 = 0 then ((busbarlaw03_one.f).bind fun t139 => (some t139)) else (some false))) else (some false))) else (some false))) = some r := H
          have A19 := Aside0.mk A190
          clear A190
          replace H := Option.bind_eq_some_iff.mp H
          obtain ⟨t135, A200, H⟩ := H
          replace H : (if (wrap64 (t134)) = t135 then (if a0 = true then (if t133 = 12 then ((wires_Or.f k1 ([] : List Int)).bind fun t136 => (if t136 = 0 then ((busbarlaw03_one.f).bind fun t137 => (some t137)) else (some false))) else (some false)) else (if t133 = 3 then ((wires_Or.f k1 ([] : List Int)).bind fun t138 => (if t138 = 0 then ((busbarlaw03_one.f).bind fun t139 => (some t139)) else (some false))) else (some false))) else (some false)) = some r := H
          have A20 := Aside0.mk A200
          clear A200
          by_cases c21 : (wrap64 (t134)) = t135
          · rw [if_pos c21] at H
            have c21b0 : ((wrap64 (t134)) == t135) = true := beq_iff_eq.mpr c21
            have c21b1 : ((wrap64 (t134)) != t135) = false := bne_eq_false_iff_eq.mpr c21
            clear c21
            by_cases c22 : a0 = true
            · subst c22
              have H1 : (if t133 = 12 then ((wires_Or.f k1 ([] : List Int)).bind fun t136 => (if t136 = 0 then ((busbarlaw03_one.f).bind fun t137 => (some t137)) else (some false))) else (some false)) = some r := by rw [if_pos rfl] at H; exact H
              clear H
              have H := H1
              clear H1
              by_cases c23 : t133 = 12
              · rw [if_pos c23] at H
                have c23b0 : (t133 == 12) = true := beq_iff_eq.mpr c23
                have c23b1 : (t133 != 12) = false := bne_eq_false_iff_eq.mpr c23
                clear c23
                replace H := Option.bind_eq_some_iff.mp H
                obtain ⟨t136, A240, H⟩ := H
                replace H : (if t136 = 0 then ((busbarlaw03_one.f).bind fun t137 => (some t137)) else (some false)) = some r := H
                have A24 := Aside0.mk A240
                clear A240
                by_cases c25 : t136 = 0
                · rw [if_pos c25] at H
                  have c25b0 : (t136 == 0) = true := beq_iff_eq.mpr c25
                  have c25b1 : (t136 != 0) = false := bne_eq_false_iff_eq.mpr c25
                  clear c25
                  replace H := Option.bind_eq_some_iff.mp H
                  obtain ⟨t137, A260, H⟩ := H
                  replace H : (some t137) = some r := H
                  have A26 := Aside0.mk A260
                  clear A260
                  obtain rfl := Option.some.inj H
                  go_wp2_with (first | ((with_reducible refine gate_callee (f := 19) rfl ?_); refine goesL_ (some 58) rfl rfl Try.func19 (by kernel_rfl) rfl #[.bool true] rfl (by (try simp only [List.map_toArray, List.map_cons, List.map_nil]); first | done | rfl | (simp only [List.length_drop, List.length_take]; rfl)) ?_; (with_reducible refine (wires_Pulse.calls true t133 _ A18.out).mono ?_); rintro e w' ⟨rfl, ⟨nd, rfl⟩⟩; refine ⟨_, rfl, ?_⟩) | ((with_reducible refine gate_callee (f := 20) rfl ?_); refine goesL_ (some 61) rfl rfl Try.func20 (by kernel_rfl) rfl #[.bool true, .bool a1] rfl (by (try simp only [List.map_toArray, List.map_cons, List.map_nil]); first | done | rfl | (simp only [List.length_drop, List.length_take]; rfl)) ?_; (with_reducible refine (wires_Drive.calls true a1 t134 _ A19.out).mono ?_); rintro e w' ⟨rfl, ⟨nd, rfl⟩⟩; refine ⟨_, rfl, ?_⟩) | ((with_reducible refine gate_callee (f := 21) rfl ?_); refine goesL_ (some 65) rfl rfl Try.func21 (by kernel_rfl) rfl #[.bool true, .bool a1] rfl (by (try simp only [List.map_toArray, List.map_cons, List.map_nil]); first | done | rfl | (simp only [List.length_drop, List.length_take]; rfl)) ?_; (with_reducible refine (busbarref03_Drive.calls k1 true a1 t135 _ A20.out).mono ?_); rintro e w' ⟨rfl, ⟨nd, rfl⟩⟩; refine ⟨_, rfl, ?_⟩) | (go_at_call 15; (refine (wires_Or.calls k1 _ _ ([] : List Int) t136 _ ?side1 ?side2 A24.out).mono ?_); (case side1 => exact Kd.C_nil _ _); (case side2 => exact Nat.le_refl _); rintro e w' ⟨rfl, ⟨nd, rfl⟩⟩) | (go_at_call 22; (with_reducible refine (busbarlaw03_one.calls  t137 _ A26.out).mono ?_); rintro e w27 ⟨rfl, hb⟩; have n0_ := Aside0.mk (below_step (by repeat (first | (with_reducible first | exact HB.out | apply below_alloc | apply pw_below_drewN | apply below_drew1) | exact HB.out)) hb); clear HB; have HB := n0_; clear n0_; (try clear hb); (try clear hb2); (try clear hk); (try clear hi)))
                  go_ret
                  exact ⟨by first | rfl | (simp [errW_none, errW_some] <;> rfl) | (simp [*, errW_none, errW_some] <;> rfl), by repeat (first | (with_reducible first | exact HB.out | apply below_alloc | apply pw_below_drewN | apply below_drew1) | exact HB.out)⟩
                · rw [if_neg c25] at H
                  have c25b0 : (t136 == 0) = false := beq_eq_false_iff_ne.mpr c25
                  have c25b1 : (t136 != 0) = true := bne_iff_ne.mpr c25
                  obtain rfl := Option.some.inj H
                  go_wp2_with (first | ((with_reducible refine gate_callee (f := 19) rfl ?_); refine goesL_ (some 58) rfl rfl Try.func19 (by kernel_rfl) rfl #[.bool true] rfl (by (try simp only [List.map_toArray, List.map_cons, List.map_nil]); first | done | rfl | (simp only [List.length_drop, List.length_take]; rfl)) ?_; (with_reducible refine (wires_Pulse.calls true t133 _ A18.out).mono ?_); rintro e w' ⟨rfl, ⟨nd, rfl⟩⟩; refine ⟨_, rfl, ?_⟩) | ((with_reducible refine gate_callee (f := 20) rfl ?_); refine goesL_ (some 61) rfl rfl Try.func20 (by kernel_rfl) rfl #[.bool true, .bool a1] rfl (by (try simp only [List.map_toArray, List.map_cons, List.map_nil]); first | done | rfl | (simp only [List.length_drop, List.length_take]; rfl)) ?_; (with_reducible refine (wires_Drive.calls true a1 t134 _ A19.out).mono ?_); rintro e w' ⟨rfl, ⟨nd, rfl⟩⟩; refine ⟨_, rfl, ?_⟩) | ((with_reducible refine gate_callee (f := 21) rfl ?_); refine goesL_ (some 65) rfl rfl Try.func21 (by kernel_rfl) rfl #[.bool true, .bool a1] rfl (by (try simp only [List.map_toArray, List.map_cons, List.map_nil]); first | done | rfl | (simp only [List.length_drop, List.length_take]; rfl)) ?_; (with_reducible refine (busbarref03_Drive.calls k1 true a1 t135 _ A20.out).mono ?_); rintro e w' ⟨rfl, ⟨nd, rfl⟩⟩; refine ⟨_, rfl, ?_⟩) | (go_at_call 15; (refine (wires_Or.calls k1 _ _ ([] : List Int) t136 _ ?side1 ?side2 A24.out).mono ?_); (case side1 => exact Kd.C_nil _ _); (case side2 => exact Nat.le_refl _); rintro e w' ⟨rfl, ⟨nd, rfl⟩⟩))
                  go_ret
                  exact ⟨by first | rfl | (simp [errW_none, errW_some] <;> rfl) | (simp [*, errW_none, errW_some] <;> rfl), by repeat (first | (with_reducible first | exact HB.out | apply below_alloc | apply pw_below_drewN | apply below_drew1) | exact HB.out)⟩
              · rw [if_neg c23] at H
                have c23b0 : (t133 == 12) = false := beq_eq_false_iff_ne.mpr c23
                have c23b1 : (t133 != 12) = true := bne_iff_ne.mpr c23
                obtain rfl := Option.some.inj H
                go_wp2_with (first | ((with_reducible refine gate_callee (f := 19) rfl ?_); refine goesL_ (some 58) rfl rfl Try.func19 (by kernel_rfl) rfl #[.bool true] rfl (by (try simp only [List.map_toArray, List.map_cons, List.map_nil]); first | done | rfl | (simp only [List.length_drop, List.length_take]; rfl)) ?_; (with_reducible refine (wires_Pulse.calls true t133 _ A18.out).mono ?_); rintro e w' ⟨rfl, ⟨nd, rfl⟩⟩; refine ⟨_, rfl, ?_⟩) | ((with_reducible refine gate_callee (f := 20) rfl ?_); refine goesL_ (some 61) rfl rfl Try.func20 (by kernel_rfl) rfl #[.bool true, .bool a1] rfl (by (try simp only [List.map_toArray, List.map_cons, List.map_nil]); first | done | rfl | (simp only [List.length_drop, List.length_take]; rfl)) ?_; (with_reducible refine (wires_Drive.calls true a1 t134 _ A19.out).mono ?_); rintro e w' ⟨rfl, ⟨nd, rfl⟩⟩; refine ⟨_, rfl, ?_⟩) | ((with_reducible refine gate_callee (f := 21) rfl ?_); refine goesL_ (some 65) rfl rfl Try.func21 (by kernel_rfl) rfl #[.bool true, .bool a1] rfl (by (try simp only [List.map_toArray, List.map_cons, List.map_nil]); first | done | rfl | (simp only [List.length_drop, List.length_take]; rfl)) ?_; (with_reducible refine (busbarref03_Drive.calls k1 true a1 t135 _ A20.out).mono ?_); rintro e w' ⟨rfl, ⟨nd, rfl⟩⟩; refine ⟨_, rfl, ?_⟩))
                go_ret
                exact ⟨by first | rfl | (simp [errW_none, errW_some] <;> rfl) | (simp [*, errW_none, errW_some] <;> rfl), by repeat (first | (with_reducible first | exact HB.out | apply below_alloc | apply pw_below_drewN | apply below_drew1) | exact HB.out)⟩
            · replace c22 := Bool.eq_false_iff.mpr c22
              subst c22
              have H1 : (if t133 = 3 then ((wires_Or.f k1 ([] : List Int)).bind fun t138 => (if t138 = 0 then ((busbarlaw03_one.f).bind fun t139 => (some t139)) else (some false))) else (some false)) = some r := by rw [if_neg (show ¬ (false = true) by decide)] at H; exact H
              clear H
              have H := H1
              clear H1
              by_cases c28 : t133 = 3
              · rw [if_pos c28] at H
                have c28b0 : (t133 == 3) = true := beq_iff_eq.mpr c28
                have c28b1 : (t133 != 3) = false := bne_eq_false_iff_eq.mpr c28
                clear c28
                replace H := Option.bind_eq_some_iff.mp H
                obtain ⟨t138, A290, H⟩ := H
                replace H : (if t138 = 0 then ((busbarlaw03_one.f).bind fun t139 => (some t139)) else (some false)) = some r := H
                have A29 := Aside0.mk A290
                clear A290
                by_cases c30 : t138 = 0
                · rw [if_pos c30] at H
                  have c30b0 : (t138 == 0) = true := beq_iff_eq.mpr c30
                  have c30b1 : (t138 != 0) = false := bne_eq_false_iff_eq.mpr c30
                  clear c30
                  replace H := Option.bind_eq_some_iff.mp H
                  obtain ⟨t139, A310, H⟩ := H
                  replace H : (some t139) = some r := H
                  have A31 := Aside0.mk A310
                  clear A310
                  obtain rfl := Option.some.inj H
                  go_wp2_with (first | ((with_reducible refine gate_callee (f := 19) rfl ?_); refine goesL_ (some 58) rfl rfl Try.func19 (by kernel_rfl) rfl #[.bool false] rfl (by (try simp only [List.map_toArray, List.map_cons, List.map_nil]); first | done | rfl | (simp only [List.length_drop, List.length_take]; rfl)) ?_; (with_reducible refine (wires_Pulse.calls false t133 _ A18.out).mono ?_); rintro e w' ⟨rfl, ⟨nd, rfl⟩⟩; refine ⟨_, rfl, ?_⟩) | ((with_reducible refine gate_callee (f := 20) rfl ?_); refine goesL_ (some 61) rfl rfl Try.func20 (by kernel_rfl) rfl #[.bool false, .bool a1] rfl (by (try simp only [List.map_toArray, List.map_cons, List.map_nil]); first | done | rfl | (simp only [List.length_drop, List.length_take]; rfl)) ?_; (with_reducible refine (wires_Drive.calls false a1 t134 _ A19.out).mono ?_); rintro e w' ⟨rfl, ⟨nd, rfl⟩⟩; refine ⟨_, rfl, ?_⟩) | ((with_reducible refine gate_callee (f := 21) rfl ?_); refine goesL_ (some 65) rfl rfl Try.func21 (by kernel_rfl) rfl #[.bool false, .bool a1] rfl (by (try simp only [List.map_toArray, List.map_cons, List.map_nil]); first | done | rfl | (simp only [List.length_drop, List.length_take]; rfl)) ?_; (with_reducible refine (busbarref03_Drive.calls k1 false a1 t135 _ A20.out).mono ?_); rintro e w' ⟨rfl, ⟨nd, rfl⟩⟩; refine ⟨_, rfl, ?_⟩) | (go_at_call 15; (refine (wires_Or.calls k1 _ _ ([] : List Int) t138 _ ?side1 ?side2 A29.out).mono ?_); (case side1 => exact Kd.C_nil _ _); (case side2 => exact Nat.le_refl _); rintro e w' ⟨rfl, ⟨nd, rfl⟩⟩) | (go_at_call 22; (with_reducible refine (busbarlaw03_one.calls  t139 _ A31.out).mono ?_); rintro e w32 ⟨rfl, hb⟩; have n0_ := Aside0.mk (below_step (by repeat (first | (with_reducible first | exact HB.out | apply below_alloc | apply pw_below_drewN | apply below_drew1) | exact HB.out)) hb); clear HB; have HB := n0_; clear n0_; (try clear hb); (try clear hb2); (try clear hk); (try clear hi)))
                  go_ret
                  exact ⟨by first | rfl | (simp [errW_none, errW_some] <;> rfl) | (simp [*, errW_none, errW_some] <;> rfl), by repeat (first | (with_reducible first | exact HB.out | apply below_alloc | apply pw_below_drewN | apply below_drew1) | exact HB.out)⟩
                · rw [if_neg c30] at H
                  have c30b0 : (t138 == 0) = false := beq_eq_false_iff_ne.mpr c30
                  have c30b1 : (t138 != 0) = true := bne_iff_ne.mpr c30
                  obtain rfl := Option.some.inj H
                  go_wp2_with (first | ((with_reducible refine gate_callee (f := 19) rfl ?_); refine goesL_ (some 58) rfl rfl Try.func19 (by kernel_rfl) rfl #[.bool false] rfl (by (try simp only [List.map_toArray, List.map_cons, List.map_nil]); first | done | rfl | (simp only [List.length_drop, List.length_take]; rfl)) ?_; (with_reducible refine (wires_Pulse.calls false t133 _ A18.out).mono ?_); rintro e w' ⟨rfl, ⟨nd, rfl⟩⟩; refine ⟨_, rfl, ?_⟩) | ((with_reducible refine gate_callee (f := 20) rfl ?_); refine goesL_ (some 61) rfl rfl Try.func20 (by kernel_rfl) rfl #[.bool false, .bool a1] rfl (by (try simp only [List.map_toArray, List.map_cons, List.map_nil]); first | done | rfl | (simp only [List.length_drop, List.length_take]; rfl)) ?_; (with_reducible refine (wires_Drive.calls false a1 t134 _ A19.out).mono ?_); rintro e w' ⟨rfl, ⟨nd, rfl⟩⟩; refine ⟨_, rfl, ?_⟩) | ((with_reducible refine gate_callee (f := 21) rfl ?_); refine goesL_ (some 65) rfl rfl Try.func21 (by kernel_rfl) rfl #[.bool false, .bool a1] rfl (by (try simp only [List.map_toArray, List.map_cons, List.map_nil]); first | done | rfl | (simp only [List.length_drop, List.length_take]; rfl)) ?_; (with_reducible refine (busbarref03_Drive.calls k1 false a1 t135 _ A20.out).mono ?_); rintro e w' ⟨rfl, ⟨nd, rfl⟩⟩; refine ⟨_, rfl, ?_⟩) | (go_at_call 15; (refine (wires_Or.calls k1 _ _ ([] : List Int) t138 _ ?side1 ?side2 A29.out).mono ?_); (case side1 => exact Kd.C_nil _ _); (case side2 => exact Nat.le_refl _); rintro e w' ⟨rfl, ⟨nd, rfl⟩⟩))
                  go_ret
                  exact ⟨by first | rfl | (simp [errW_none, errW_some] <;> rfl) | (simp [*, errW_none, errW_some] <;> rfl), by repeat (first | (with_reducible first | exact HB.out | apply below_alloc | apply pw_below_drewN | apply below_drew1) | exact HB.out)⟩
              · rw [if_neg c28] at H
                have c28b0 : (t133 == 3) = false := beq_eq_false_iff_ne.mpr c28
                have c28b1 : (t133 != 3) = true := bne_iff_ne.mpr c28
                obtain rfl := Option.some.inj H
                go_wp2_with (first | ((with_reducible refine gate_callee (f := 19) rfl ?_); refine goesL_ (some 58) rfl rfl Try.func19 (by kernel_rfl) rfl #[.bool false] rfl (by (try simp only [List.map_toArray, List.map_cons, List.map_nil]); first | done | rfl | (simp only [List.length_drop, List.length_take]; rfl)) ?_; (with_reducible refine (wires_Pulse.calls false t133 _ A18.out).mono ?_); rintro e w' ⟨rfl, ⟨nd, rfl⟩⟩; refine ⟨_, rfl, ?_⟩) | ((with_reducible refine gate_callee (f := 20) rfl ?_); refine goesL_ (some 61) rfl rfl Try.func20 (by kernel_rfl) rfl #[.bool false, .bool a1] rfl (by (try simp only [List.map_toArray, List.map_cons, List.map_nil]); first | done | rfl | (simp only [List.length_drop, List.length_take]; rfl)) ?_; (with_reducible refine (wires_Drive.calls false a1 t134 _ A19.out).mono ?_); rintro e w' ⟨rfl, ⟨nd, rfl⟩⟩; refine ⟨_, rfl, ?_⟩) | ((with_reducible refine gate_callee (f := 21) rfl ?_); refine goesL_ (some 65) rfl rfl Try.func21 (by kernel_rfl) rfl #[.bool false, .bool a1] rfl (by (try simp only [List.map_toArray, List.map_cons, List.map_nil]); first | done | rfl | (simp only [List.length_drop, List.length_take]; rfl)) ?_; (with_reducible refine (busbarref03_Drive.calls k1 false a1 t135 _ A20.out).mono ?_); rintro e w' ⟨rfl, ⟨nd, rfl⟩⟩; refine ⟨_, rfl, ?_⟩))
                go_ret
                exact ⟨by first | rfl | (simp [errW_none, errW_some] <;> rfl) | (simp [*, errW_none, errW_some] <;> rfl), by repeat (first | (with_reducible first | exact HB.out | apply below_alloc | apply pw_below_drewN | apply below_drew1) | exact HB.out)⟩
          · rw [if_neg c21] at H
            have c21b0 : ((wrap64 (t134)) == t135) = false := beq_eq_false_iff_ne.mpr c21
            have c21b1 : ((wrap64 (t134)) != t135) = true := bne_iff_ne.mpr c21
            obtain rfl := Option.some.inj H
            go_wp2_with (first | ((with_reducible refine gate_callee (f := 19) rfl ?_); refine goesL_ (some 58) rfl rfl Try.func19 (by kernel_rfl) rfl #[.bool a0] rfl (by (try simp only [List.map_toArray, List.map_cons, List.map_nil]); first | done | rfl | (simp only [List.length_drop, List.length_take]; rfl)) ?_; (with_reducible refine (wires_Pulse.calls a0 t133 _ A18.out).mono ?_); rintro e w' ⟨rfl, ⟨nd, rfl⟩⟩; refine ⟨_, rfl, ?_⟩) | ((with_reducible refine gate_callee (f := 20) rfl ?_); refine goesL_ (some 61) rfl rfl Try.func20 (by kernel_rfl) rfl #[.bool a0, .bool a1] rfl (by (try simp only [List.map_toArray, List.map_cons, List.map_nil]); first | done | rfl | (simp only [List.length_drop, List.length_take]; rfl)) ?_; (with_reducible refine (wires_Drive.calls a0 a1 t134 _ A19.out).mono ?_); rintro e w' ⟨rfl, ⟨nd, rfl⟩⟩; refine ⟨_, rfl, ?_⟩) | ((with_reducible refine gate_callee (f := 21) rfl ?_); refine goesL_ (some 65) rfl rfl Try.func21 (by kernel_rfl) rfl #[.bool a0, .bool a1] rfl (by (try simp only [List.map_toArray, List.map_cons, List.map_nil]); first | done | rfl | (simp only [List.length_drop, List.length_take]; rfl)) ?_; (with_reducible refine (busbarref03_Drive.calls k1 a0 a1 t135 _ A20.out).mono ?_); rintro e w' ⟨rfl, ⟨nd, rfl⟩⟩; refine ⟨_, rfl, ?_⟩))
            go_ret
            exact ⟨by first | rfl | (simp [errW_none, errW_some] <;> rfl) | (simp [*, errW_none, errW_some] <;> rfl), by repeat (first | (with_reducible first | exact HB.out | apply below_alloc | apply pw_below_drewN | apply below_drew1) | exact HB.out)⟩

/-- THE ONE PURE STATEMENT of busbarlaw03_WiresDrive: yours. -/
def busbarlaw03_WiresDrive.Pure : Prop := ∀ (a0 : Bool) (a1 : Bool) (l2 : List Int), l2.length ≤ maxLen → l2.length * 1 ≤ 140737488351232 → (∀ x ∈ l2, (Lit.int .u8 x).wf = true) → ∃ k, busbarlaw03_WiresDrive.f k a0 a1 l2 = some true
theorem busbarlaw03_WiresDrive.walk (P : busbarlaw03_WiresDrive.Pure) (a0 : Bool) (a1 : Bool) (a2 : Option Addr) (len2 cap2 : Nat) (z2 : List Int) (w : World) (w2 : (a2 = none ∧ len2 = 0 ∧ cap2 = 0 ∧ z2 = []) ∨ ∃ x, a2 = some x ∧ len2 ≤ cap2 ∧ cap2 ≤ maxLen ∧ z2.length = cap2 ∧ (∀ i, i < z2.length → w.cell? (x.add i) = some (.int .u8 (z2.getD i 0))) ∧ ∀ n ∈ z2, (Lit.int .u8 n).wf = true) (y2 : len2 * 1 ≤ 140737488351232) :
    Calls Try.prog 3 #[.bool a0, .bool a1, .slice a2 len2 cap2] w fun e w' => e = .returned (.bool true) ∧ Below w.heap.size w w' := by
  obtain ⟨l2, rfl, hr2, hm2, hw2, hc2⟩ := ReadsInt.ofRowC w2
  obtain ⟨k, h⟩ := P a0 a1 l2 hm2 y2 hw2
  refine (busbarlaw03_WiresDrive.calls k a0 a1 _ _ l2 true w (Kd.C_of_reads (d := (0 : Int)) (h1 := fun _ => rfl) hr2) hc2 h).mono ?_
  rintro e w' ⟨rfl, hd⟩
  exact ⟨rfl, hd⟩

end Go.Proofs.Ytbidfjngmiggpaa.Q
