-- Written by a program of this session out of the translation. Not trusted: Lean checks it.
import Derived.Test.YtbidfjngmiggpaaQx0
import Derived.Test.YtbidfjngmiggpaaQx1
import Derived.Test.YtbidfjngmiggpaaQx7
import Derived.Test.YtbidfjngmiggpaaQx10
import Derived.Test.YtbidfjngmiggpaaQx12
import Derived.Test.YtbidfjngmiggpaaQx13
import Derived.Test.YtbidfjngmiggpaaQx16
import Derived.Test.YtbidfjngmiggpaaQx25
namespace Go.Proofs.Ytbidfjngmiggpaa.Q
open Go.RowKit Go.Proofs.YtbidfjngmiggpaaW.PrintWords Go.Proofs.YtbidfjngmiggpaaW.PrintLast Go.Proofs.YtbidfjngmiggpaaW.PrintMore
attribute [local go_sem] max2_int min2_int max_two min_two max_three min_three max_four min_four   -- for this text's walks alone
set_option linter.unusedVariables false
set_option linter.unusedSimpArgs false

/-! ### busbarlaw03_WiresSay: function 11 -/
def busbarlaw03_WiresSay.j0 : Nat → Bool → Int → Int → Option (Bool)
  | 0, _, _, _ => none
  | k + 1, x0, x7, x10 => (wires_Lines_Count.f x7).bind fun t400 => (if t400 = 2 then (if x10 ≥ 3 then ((wires_Drive.f false x0).bind fun t401 => ((wires_Lines_Count.f t401).bind fun t402 => (if t402 = 1 then ((wires_Pulse.f false).bind fun t403 => ((wires_Pulse.f true).bind fun t404 => ((wires_Or.f k (([t403, t404] : List Int))).bind fun t408 => ((wires_Lines_Count.f t408).bind fun t409 => (if t409 = 4 then ((busbarlaw03_one.f).bind fun t410 => (some t410)) else (some false)))))) else (some false)))) else (some false)) else (some false))
def busbarlaw03_WiresSay.f (k : Nat) (a0 : Bool) (a1 : Int) (a2 : Bool) : Option (Bool) := (wires_Drive.f false a0).bind fun t383 => ((wires_Drive.f true a0).bind fun t384 => ((wires_Or.f k (([t383, t384] : List Int))).bind fun t388 => ((wires_Lines_Says.f t388).bind fun bt389 => ((wires_Lines_Set.f t388 a1 a2).bind fun t394 => ((wires_Lines_Says.f t394).bind fun bt395 => (if (bt389.1 != a0) = true then (some false) else (if (bt395.1 == a0) = true then (if (bt389.2.1 != a0) = true then (some false) else (if (bt395.2.1 == a0) = true then (if (bt389.2.2.1 != a0) = true then (some false) else (if (bt395.2.2.1 == a0) = true then (if (bt389.2.2.2 != a0) = true then (some false) else (if (bt395.2.2.2 == a0) = true then (busbarlaw03_WiresSay.j0 k a0 t388 4) else (busbarlaw03_WiresSay.j0 k a0 t388 3))) else (if (bt389.2.2.2 != a0) = true then (some false) else (if (bt395.2.2.2 == a0) = true then (busbarlaw03_WiresSay.j0 k a0 t388 3) else (busbarlaw03_WiresSay.j0 k a0 t388 2))))) else (if (bt389.2.2.1 != a0) = true then (some false) else (if (bt395.2.2.1 == a0) = true then (if (bt389.2.2.2 != a0) = true then (some false) else (if (bt395.2.2.2 == a0) = true then (busbarlaw03_WiresSay.j0 k a0 t388 3) else (busbarlaw03_WiresSay.j0 k a0 t388 2))) else (if (bt389.2.2.2 != a0) = true then (some false) else (if (bt395.2.2.2 == a0) = true then (busbarlaw03_WiresSay.j0 k a0 t388 2) else (busbarlaw03_WiresSay.j0 k a0 t388 1))))))) else (if (bt389.2.1 != a0) = true then (some false) else (if (bt395.2.1 == a0) = true then (if (bt389.2.2.1 != a0) = true then (some false) else (if (bt395.2.2.1 == a0) = true then (if (bt389.2.2.2 != a0) = true then (some false) else (if (bt395.2.2.2 == a0) = true then (busbarlaw03_WiresSay.j0 k a0 t388 3) else (busbarlaw03_WiresSay.j0 k a0 t388 2))) else (if (bt389.2.2.2 != a0) = true then (some false) else (if (bt395.2.2.2 == a0) = true then (busbarlaw03_WiresSay.j0 k a0 t388 2) else (busbarlaw03_WiresSay.j0 k a0 t388 1))))) else (if (bt389.2.2.1 != a0) = true then (some false) else (if (bt395.2.2.1 == a0) = true then (if (bt389.2.2.2 != a0) = true then (some false) else (if (bt395.2.2.2 == a0) = true then (busbarlaw03_WiresSay.j0 k a0 t388 2) else (busbarlaw03_WiresSay.j0 k a0 t388 1))) else (if (bt389.2.2.2 != a0) = true then (some false) else (if (bt395.2.2.2 == a0) = true then (busbarlaw03_WiresSay.j0 k a0 t388 1) else (busbarlaw03_WiresSay.j0 k a0 t388 0))))))))))))))
theorem busbarlaw03_WiresSay.mono_l : ∀ k, (∀ y0 y1 y2, LeO (busbarlaw03_WiresSay.j0 k y0 y1 y2) (busbarlaw03_WiresSay.j0 (k + 1) y0 y1 y2))
  | 0 => fun _ _ _ r h => by simp [busbarlaw03_WiresSay.j0] at h
  | k + 1 => by
    have ih0 := busbarlaw03_WiresSay.mono_l k
    · intro y0 y1 y2
      unfold busbarlaw03_WiresSay.j0
      repeat' first
      | (with_reducible exact ih0 _ _ _)
      | (with_reducible exact wires_Or.mono _ _)
      | (with_reducible exact LeO.refl _)
      | (with_reducible exact LeO.none _)
      | (with_reducible refine LeO.ite ?_ ?_)
      | (with_reducible refine LeO.bind ?_ (fun _ => ?_))
      | exact ih0 _ _ _
      | exact wires_Or.mono _ _
      | exact LeO.none _
      | refine LeO.ite ?_ ?_
      | refine LeO.bind ?_ (fun _ => ?_)
theorem busbarlaw03_WiresSay.mono : ∀ a0 a1 a2 k, LeO (busbarlaw03_WiresSay.f k a0 a1 a2) (busbarlaw03_WiresSay.f (k + 1) a0 a1 a2) := by
  intro a0 a1 a2 k
  have ih0 := busbarlaw03_WiresSay.mono_l k
  unfold busbarlaw03_WiresSay.f
  repeat' first
      | (with_reducible exact ih0 _ _ _)
      | (with_reducible exact wires_Or.mono _ _)
      | (with_reducible exact LeO.refl _)
      | (with_reducible exact LeO.none _)
      | (with_reducible refine LeO.ite ?_ ?_)
      | (with_reducible refine LeO.bind ?_ (fun _ => ?_))
      | exact ih0 _ _ _
      | exact wires_Or.mono _ _
      | exact LeO.none _
      | refine LeO.ite ?_ ?_
      | refine LeO.bind ?_ (fun _ => ?_)
set_option maxHeartbeats 8000000 in
set_option maxRecDepth 100000 in
theorem busbarlaw03_WiresSay.calls (k : Nat) (a0 : Bool) (a1 : Int) (a2 : Bool) (r : Bool) (w : World) (h : busbarlaw03_WiresSay.f k a0 a1 a2 = some r) :
    Calls Try.prog 11 #[.bool a0, .int .i64 a1, .bool a2] w fun e w' => e = .returned (.bool r) ∧ Below w.heap.size w w' := by
  have hu40 := Try.underlying40
  have HB := Aside0.mk (Below.refl w.heap.size w)
  have H : ((wires_Drive.f false a0).bind fun t383 => ((wires_Drive.f true a0).bind fun t384 => ((wires_Or.f k (([t383, t384] : List Int))).bind fun t388 => ((wires_Lines_Says.f t388).bind fun bt389 => ((wires_Lines_Set.f t388 a1 a2).bind fun t394 => ((wires_Lines_Says.f t394).bind fun bt395 => (if (bt389.1 != a0) = true then (some false) else (if (bt395.1 == a0) = true then (if (bt389.2.1 != a0) = true then (some false) else (if (bt395.2.1 == a0) = true then (if (bt389.2.2.1 != a0) = true then (some false) else (if (bt395.2.2.1 == a0) = true then (if (bt389.2.2.2 != a0) = true then (some false) else (if (bt395.2.2.2 == a0) = true then (busbarlaw03_WiresSay.j0 k a0 t388 4) else (busbarlaw03_WiresSay.j0 k a0 t388 3))) else (if (bt389.2.2.2 != a0) = true then (some false) else (if (bt395.2.2.2 == a0) = true then (busbarlaw03_WiresSay.j0 k a0 t388 3) else (busbarlaw03_WiresSay.j0 k a0 t388 2))))) else (if (bt389.2.2.1 != a0) = true then (some false) else (if (bt395.2.2.1 == a0) = true then (if (bt389.2.2.2 != a0) = true then (some false) else (if (bt395.2.2.2 == a0) = true then (busbarlaw03_WiresSay.j0 k a0 t388 3) else (busbarlaw03_WiresSay.j0 k a0 t388 2))) else (if (bt389.2.2.2 != a0) = true then (some false) else (if (bt395.2.2.2 == a0) = true then (busbarlaw03_WiresSay.j0 k a0 t388 2) else (busbarlaw03_WiresSay.j0 k a0 t388 1))))))) else (if (bt389.2.1 != a0) = true then (some false) else (if (bt395.2.1 == a0) = true then (if (bt389.2.2.1 != a0) = true then (some false) else (if (bt395.2.2.1 == a0) = true then (if (bt389.2.2.2 != a0) = true then (some false) else (if (bt395.2.2.2 == a0) = true then (busbarlaw03_WiresSay.j0 k a0 t388 3) else (busbarlaw03_WiresSay.j0 k a0 t388 2))) else (if (bt389.2.2.2 != a0) = true then (some false) else (if (bt395.2.2.2 == a0) = true then (busbarlaw03_WiresSay.j0 k a0 t388 2) else (busbarlaw03_WiresSay.j0 k a0 t388 1))))) else (if (bt389.2.2.1 != a0) = true then (some false) else (if (bt395.2.2.1 == a0) = true then (if (bt389.2.2.2 != a0) = true then (some false) else (if (bt395.2.2.2 == a0) = true then (busbarlaw03_WiresSay.j0 k a0 t388 2) else (busbarlaw03_WiresSay.j0 k a0 t388 1))) else (if (bt389.2.2.2 != a0) = true then (some false) else (if (bt395.2.2.2 == a0) = true then (busbarlaw03_WiresSay.j0 k a0 t388 1) else (busbarlaw03_WiresSay.j0 k a0 t388 0))))))))))))))) = some r := h
  clear h
  replace H := Option.bind_eq_some_iff.mp H
  obtain ⟨t383, A40, H⟩ := H
  replace H : ((wires_Drive.f true a0).bind fun t384 => ((wires_Or.f k (([t383, t384] : List Int))).bind fun t388 => ((wires_Lines_Says.f t388).bind fun bt389 => ((wires_Lines_Set.f t388 a1 a2).bind fun t394 => ((wires_Lines_Says.f t394).bind fun bt395 => (if (bt389.1 != a0) = true then (some false) else (if (bt395.1 == a0) = true then (if (bt389.2.1 != a0) = true then (some false) else (if (bt395.2.1 == a0) = true then (if (bt389.2.2.1 != a0) = true then (some false) else (if (bt395.2.2.1 == a0) = true then (if (bt389.2.2.2 != a0) = true then (some false) else (if (bt395.2.2.2 == a0) = true then (busbarlaw03_WiresSay.j0 k a0 t388 4) else (busbarlaw03_WiresSay.j0 k a0 t388 3))) else (if (bt389.2.2.2 != a0) = true then (some false) else (if (bt395.2.2.2 == a0) = true then (busbarlaw03_WiresSay.j0 k a0 t388 3) else (busbarlaw03_WiresSay.j0 k a0 t388 2))))) else (if (bt389.2.2.1 != a0) = true then (some false) else (if (bt395.2.2.1 == a0) = true then (if (bt389.2.2.2 != a0) = true then (some false) else (if (bt395.2.2.2 == a0) = true then (busbarlaw03_WiresSay.j0 k a0 t388 3) else (busbarlaw03_WiresSay.j0 k a0 t388 2))) else (if (bt389.2.2.2 != a0) = true then (some false) else (if (bt395.2.2.2 == a0) = true then (busbarlaw03_WiresSay.j0 k a0 t388 2) else (busbarlaw03_WiresSay.j0 k a0 t388 1))))))) else (if (bt389.2.1 != a0) = true then (some false) else (if (bt395.2.1 == a0) = true then (if (bt389.2.2.1 != a0) = true then (some false) else (if (bt395.2.2.1 == a0) = true then (if (bt389.2.2.2 != a0) = true then (some false) else (if (bt395.2.2.2 == a0) = true then (busbarlaw03_WiresSay.j0 k a0 t388 3) else (busbarlaw03_WiresSay.j0 k a0 t388 2))) else (if (bt389.2.2.2 != a0) = true then (some false) else (if (bt395.2.2.2 == a0) = true then (busbarlaw03_WiresSay.j0 k a0 t388 2) else (busbarlaw03_WiresSay.j0 k a0 t388 1))))) else (if (bt389.2.2.1 != a0) = true then (some false) else (if (bt395.2.2.1 == a0) = true then (if (bt389.2.2.2 != a0) = true then (some false) else (if (bt395.2.2.2 == a0) = true then (busbarlaw03_WiresSay.j0 k a0 t388 2) else (busbarlaw03_WiresSay.j0 k a0 t388 1))) else (if (bt389.2.2.2 != a0) = true then (some false) else (if (bt395.2.2.2 == a0) = true then (busbarlaw03_WiresSay.j0 k a0 t388 1) else (busbarlaw03_WiresSay.j0 k a0 t388 0)))))))))))))) = some r := H
  have A4 := Aside0.mk A40
  clear A40
  replace H := Option.bind_eq_some_iff.mp H
  obtain ⟨t384, A50, H⟩ := H
  replace H : ((wires_Or.f k (([t383, t384] : List Int))).bind fun t388 => ((wires_Lines_Says.f t388).bind fun bt389 => ((wires_Lines_Set.f t388 a1 a2).bind fun t394 => ((wires_Lines_Says.f t394).bind fun bt395 => (if (bt389.1 != a0) = true then (some false) else (if (bt395.1 == a0) = true then (if (bt389.2.1 != a0) = true then (some false) else (if (bt395.2.1 == a0) = true then (if (bt389.2.2.1 != a0) = true then (some false) else (if (bt395.2.2.1 == a0) = true then (if (bt389.2.2.2 != a0) = true then (some false) else (if (bt395.2.2.2 == a0) = true then (busbarlaw03_WiresSay.j0 k a0 t388 4) else (busbarlaw03_WiresSay.j0 k a0 t388 3))) else (if (bt389.2.2.2 != a0) = true then (some false) else (if (bt395.2.2.2 == a0) = true then (busbarlaw03_WiresSay.j0 k a0 t388 3) else (busbarlaw03_WiresSay.j0 k a0 t388 2))))) else (if (bt389.2.2.1 != a0) = true then (some false) else (if (bt395.2.2.1 == a0) = true then (if (bt389.2.2.2 != a0) = true then (some false) else (if (bt395.2.2.2 == a0) = true then (busbarlaw03_WiresSay.j0 k a0 t388 3) else (busbarlaw03_WiresSay.j0 k a0 t388 2))) else (if (bt389.2.2.2 != a0) = true then (some false) else (if (bt395.2.2.2 == a0) = true then (busbarlaw03_WiresSay.j0 k a0 t388 2) else (busbarlaw03_WiresSay.j0 k a0 t388 1))))))) else (if (bt389.2.1 != a0) = true then (some false) else (if (bt395.2.1 == a0) = true then (if (bt389.2.2.1 != a0) = true then (some false) else (if (bt395.2.2.1 == a0) = true then (if (bt389.2.2.2 != a0) = true then (some false) else (if (bt395.2.2.2 == a0) = true then (busbarlaw03_WiresSay.j0 k a0 t388 3) else (busbarlaw03_WiresSay.j0 k a0 t388 2))) else (if (bt389.2.2.2 != a0) = true then (some false) else (if (bt395.2.2.2 == a0) = true then (busbarlaw03_WiresSay.j0 k a0 t388 2) else (busbarlaw03_WiresSay.j0 k a0 t388 1))))) else (if (bt389.2.2.1 != a0) = true then (some false) else (if (bt395.2.2.1 == a0) = true then (if (bt389.2.2.2 != a0) = true then (some false) else (if (bt395.2.2.2 == a0) = true then (busbarlaw03_WiresSay.j0 k a0 t388 2) else (busbarlaw03_WiresSay.j0 k a0 t388 1))) else (if (bt389.2.2.2 != a0) = true then (some false) else (if (bt395.2.2.2 == a0) = true then (busbarlaw03_WiresSay.j0 k a0 t388 1) else (busbarlaw03_WiresSay.j0 k a0 t388 0))))))))))))) = some r := H
  have A5 := Aside0.mk A50
  clear A50
  obtain ⟨y385, hy385⟩ : ∃ y_ : List Int, y_ = (([t383, t384] : List Int)) := ⟨_, rfl⟩
  replace H : ((wires_Or.f k y385).bind fun t388 => ((wires_Lines_Says.f t388).bind fun bt389 => ((wires_Lines_Set.f t388 a1 a2).bind fun t394 => ((wires_Lines_Says.f t394).bind fun bt395 => (if (bt389.1 != a0) = true then (some false) else (if (bt395.1 == a0) = true then (if (bt389.2.1 != a0) = true then (some false) else (if (bt395.2.1 == a0) = true then (if (bt389.2.2.1 != a0) = true then (some false) else (if (bt395.2.2.1 == a0) = true then (if (bt389.2.2.2 != a0) = true then (some false) else (if (bt395.2.2.2 == a0) = true then (busbarlaw03_WiresSay.j0 k a0 t388 4) else (busbarlaw03_WiresSay.j0 k a0 t388 3))) else (if (bt389.2.2.2 != a0) = true then (some false) else (if (bt395.2.2.2 == a0) = true then (busbarlaw03_WiresSay.j0 k a0 t388 3) else (busbarlaw03_WiresSay.j0 k a0 t388 2))))) else (if (bt389.2.2.1 != a0) = true then (some false) else (if (bt395.2.2.1 == a0) = true then (if (bt389.2.2.2 != a0) = true then (some false) else (if (bt395.2.2.2 == a0) = true then (busbarlaw03_WiresSay.j0 k a0 t388 3) else (busbarlaw03_WiresSay.j0 k a0 t388 2))) else (if (bt389.2.2.2 != a0) = true then (some false) else (if (bt395.2.2.2 == a0) = true then (busbarlaw03_WiresSay.j0 k a0 t388 2) else (busbarlaw03_WiresSay.j0 k a0 t388 1))))))) else (if (bt389.2.1 != a0) = true then (some false) else (if (bt395.2.1 == a0) = true then (if (bt389.2.2.1 != a0) = true then (some false) else (if (bt395.2.2.1 == a0) = true then (if (bt389.2.2.2 != a0) = true then (some false) else (if (bt395.2.2.2 == a0) = true then (busbarlaw03_WiresSay.j0 k a0 t388 3) else (busbarlaw03_WiresSay.j0 k a0 t388 2))) else (if (bt389.2.2.2 != a0) = true then (some false) else (if (bt395.2.2.2 == a0) = true then (busbarlaw03_WiresSay.j0 k a0 t388 2) else (busbarlaw03_WiresSay.j0 k a0 t388 1))))) else (if (bt389.2.2.1 != a0) = true then (some false) else (if (bt395.2.2.1 == a0) = true then (if (bt389.2.2.2 != a0) = true then (some false) else (if (bt395.2.2.2 == a0) = true then (busbarlaw03_WiresSay.j0 k a0 t388 2) else (busbarlaw03_WiresSay.j0 k a0 t388 1))) else (if (bt389.2.2.2 != a0) = true then (some false) else (if (bt395.2.2.2 == a0) = true then (busbarlaw03_WiresSay.j0 k a0 t388 1) else (busbarlaw03_WiresSay.j0 k a0 t388 0))))))))))))) = some r := by first | (rw [hy385]; with_reducible exact H) | (have H2_ := (Option.bind_some _ _).symm.trans H; rw [hy385]; with_reducible exact H2_) | (have H2_ := (Option.bind_some _ _).symm.trans H; with_reducible exact H2_) | with_reducible exact H | (rw [hy385]; exact H) | exact H
  have Ny385 := Aside0.mk hy385
  clear hy385
  replace H := Option.bind_eq_some_iff.mp H
  obtain ⟨t388, A60, H⟩ := H
  replace H : ((wires_Lines_Says.f t388).bind fun bt389 => ((wires_Lines_Set.f t388 a1 a2).bind fun t394 => ((wires_Lines_Says.f t394).bind fun bt395 => (if (bt389.1 != a0) = true then (some false) else (if (bt395.1 == a0) = true then (if (bt389.2.1 != a0) = true then (some false) else (if (bt395.2.1 == a0) = true then (if (bt389.2.2.1 != a0) = true then (some false) else (if (bt395.2.2.1 == a0) = true then (if (bt389.2.2.2 != a0) = true then (some false) else (if (bt395.2.2.2 == a0) = true then (busbarlaw03_WiresSay.j0 k a0 t388 4) else (busbarlaw03_WiresSay.j0 k a0 t388 3))) else (if (bt389.2.2.2 != a0) = true then (some false) else (if (bt395.2.2.2 == a0) = true then (busbarlaw03_WiresSay.j0 k a0 t388 3) else (busbarlaw03_WiresSay.j0 k a0 t388 2))))) else (if (bt389.2.2.1 != a0) = true then (some false) else (if (bt395.2.2.1 == a0) = true then (if (bt389.2.2.2 != a0) = true then (some false) else (if (bt395.2.2.2 == a0) = true then (busbarlaw03_WiresSay.j0 k a0 t388 3) else (busbarlaw03_WiresSay.j0 k a0 t388 2))) else (if (bt389.2.2.2 != a0) = true then (some false) else (if (bt395.2.2.2 == a0) = true then (busbarlaw03_WiresSay.j0 k a0 t388 2) else (busbarlaw03_WiresSay.j0 k a0 t388 1))))))) else (if (bt389.2.1 != a0) = true then (some false) else (if (bt395.2.1 == a0) = true then (if (bt389.2.2.1 != a0) = true then (some false) else (if (bt395.2.2.1 == a0) = true then (if (bt389.2.2.2 != a0) = true then (some false) else (if (bt395.2.2.2 == a0) = true then (busbarlaw03_WiresSay.j0 k a0 t388 3) else (busbarlaw03_WiresSay.j0 k a0 t388 2))) else (if (bt389.2.2.2 != a0) = true then (some false) else (if (bt395.2.2.2 == a0) = true then (busbarlaw03_WiresSay.j0 k a0 t388 2) else (busbarlaw03_WiresSay.j0 k a0 t388 1))))) else (if (bt389.2.2.1 != a0) = true then (some false) else (if (bt395.2.2.1 == a0) = true then (if (bt389.2.2.2 != a0) = true then (some false) else (if (bt395.2.2.2 == a0) = true then (busbarlaw03_WiresSay.j0 k a0 t388 2) else (busbarlaw03_WiresSay.j0 k a0 t388 1))) else (if (bt389.2.2.2 != a0) = true then (some false) else (if (bt395.2.2.2 == a0) = true then (busbarlaw03_WiresSay.j0 k a0 t388 1) else (busbarlaw03_WiresSay.j0 k a0 t388 0)))))))))))) = some r := H
  have A6 := Aside0.mk A60
  clear A60
  replace H := Option.bind_eq_some_iff.mp H
  obtain ⟨⟨t389, t390, t391, t392⟩, A70, H⟩ := H
  replace H : ((wires_Lines_Set.f t388 a1 a2).bind fun t394 => ((wires_Lines_Says.f t394).bind fun bt395 => (if (t389 != a0) = true then (some false) else (if (bt395.1 == a0) = true then (if (t390 != a0) = true then (some false) else (if (bt395.2.1 == a0) = true then (if (t391 != a0) = true then (some false) else (if (bt395.2.2.1 == a0) = true then (if (t392 != a0) = true then (some false) else (if (bt395.2.2.2 == a0) = true then (busbarlaw03_WiresSay.j0 k a0 t388 4) else (busbarlaw03_WiresSay.j0 k a0 t388 3))) else (if (t392 != a0) = true then (some false) else (if (bt395.2.2.2 == a0) = true then (busbarlaw03_WiresSay.j0 k a0 t388 3) else (busbarlaw03_WiresSay.j0 k a0 t388 2))))) else (if (t391 != a0) = true then (some false) else (if (bt395.2.2.1 == a0) = true then (if (t392 != a0) = true then (some false) else (if (bt395.2.2.2 == a0) = true then (busbarlaw03_WiresSay.j0 k a0 t388 3) else (busbarlaw03_WiresSay.j0 k a0 t388 2))) else (if (t392 != a0) = true then (some false) else (if (bt395.2.2.2 == a0) = true then (busbarlaw03_WiresSay.j0 k a0 t388 2) else (busbarlaw03_WiresSay.j0 k a0 t388 1))))))) else (if (t390 != a0) = true then (some false) else (if (bt395.2.1 == a0) = true then (if (t391 != a0) = true then (some false) else (if (bt395.2.2.1 == a0) = true then (if (t392 != a0) = true then (some false) else (if (bt395.2.2.2 == a0) = true then (busbarlaw03_WiresSay.j0 k a0 t388 3) else (busbarlaw03_WiresSay.j0 k a0 t388 2))) else (if (t392 != a0) = true then (some false) else (if (bt395.2.2.2 == a0) = true then (busbarlaw03_WiresSay.j0 k a0 t388 2) else (busbarlaw03_WiresSay.j0 k a0 t388 1))))) else (if (t391 != a0) = true then (some false) else (if (bt395.2.2.1 == a0) = true then (if (t392 != a0) = true then (some false) else (if (bt395.2.2.2 == a0) = true then (busbarlaw03_WiresSay.j0 k a0 t388 2) else (busbarlaw03_WiresSay.j0 k a0 t388 1))) else (if (t392 != a0) = true then (some false) else (if (bt395.2.2.2 == a0) = true then (busbarlaw03_WiresSay.j0 k a0 t388 1) else (busbarlaw03_WiresSay.j0 k a0 t388 0))))))))))) = some r := H
  have A7 := Aside0.mk A70
  clear A70
  replace H := Option.bind_eq_some_iff.mp H
  obtain ⟨t394, A80, H⟩ := H
  replace H : ((wires_Lines_Says.f t394).bind fun bt395 => (if (t389 != a0) = true then (some false) else (if (bt395.1 == a0) = true then (if (t390 != a0) = true then (some false) else (if (bt395.2.1 == a0) = true then (if (t391 != a0) = true then (some false) else (if (bt395.2.2.1 == a0) = true then (if (t392 != a0) = true then (some false) else (if (bt395.2.2.2 == a0) = true then (busbarlaw03_WiresSay.j0 k a0 t388 4) else (busbarlaw03_WiresSay.j0 k a0 t388 3))) else (if (t392 != a0) = true then (some false) else (if (bt395.2.2.2 == a0) = true then (busbarlaw03_WiresSay.j0 k a0 t388 3) else (busbarlaw03_WiresSay.j0 k a0 t388 2))))) else (if (t391 != a0) = true then (some false) else (if (bt395.2.2.1 == a0) = true then (if (t392 != a0) = true then (some false) else (if (bt395.2.2.2 == a0) = true then (busbarlaw03_WiresSay.j0 k a0 t388 3) else (busbarlaw03_WiresSay.j0 k a0 t388 2))) else (if (t392 != a0) = true then (some false) else (if (bt395.2.2.2 == a0) = true then (busbarlaw03_WiresSay.j0 k a0 t388 2) else (busbarlaw03_WiresSay.j0 k a0 t388 1))))))) else (if (t390 != a0) = true then (some false) else (if (bt395.2.1 == a0) = true then (if (t391 != a0) = true then (some false) else (if (bt395.2.2.1 == a0) = true then (if (t392 != a0) = true then (some false) else (if (bt395.2.2.2 == a0) = true then (busbarlaw03_WiresSay.j0 k a0 t388 3) else (busbarlaw03_WiresSay.j0 k a0 t388 2))) else (if (t392 != a0) = true then (some false) else (if (bt395.2.2.2 == a0) = true then (busbarlaw03_WiresSay.j0 k a0 t388 2) else (busbarlaw03_WiresSay.j0 k a0 t388 1))))) else (if (t391 != a0) = true then (some false) else (if (bt395.2.2.1 == a0) = true then (if (t392 != a0) = true then (some false) else (if (bt395.2.2.2 == a0) = true then (busbarlaw03_WiresSay.j0 k a0 t388 2) else (busbarlaw03_WiresSay.j0 k a0 t388 1))) else (if (t392 != a0) = true then (some false) else (if (bt395.2.2.2 == a0) = true then (busbarlaw03_WiresSay.j0 k a0 t388 1) else (busbarlaw03_WiresSay.j0 k a0 t388 0)))))))))) = some r := H
  have A8 := Aside0.mk A80
  clear A80
  replace H := Option.bind_eq_some_iff.mp H
  obtain ⟨⟨t395, t396, t397, t398⟩, A90, H⟩ := H
  replace H : (if (t389 != a0) = true then (some false) else (if (t395 == a0) = true then (if (t390 != a0) = true then (some false) else (if (t396 == a0) = true then (if (t391 != a0) = true then (some false) else (if (t397 == a0) = true then (if (t392 != a0) = true then (some false) else (if (t398 == a0) = true then (busbarlaw03_WiresSay.j0 k a0 t388 4) else (busbarlaw03_WiresSay.j0 k a0 t388 3))) else (if (t392 != a0) = true then (some false) else (if (t398 == a0) = true then (busbarlaw03_WiresSay.j0 k a0 t388 3) else (busbarlaw03_WiresSay.j0 k a0 t388 2))))) else (if (t391 != a0) = true then (some false) else (if (t397 == a0) = true then (if (t392 != a0) = true then (some false) else (if (t398 == a0) = true then (busbarlaw03_WiresSay.j0 k a0 t388 3) else (busbarlaw03_WiresSay.j0 k a0 t388 2))) else (if (t392 != a0) = true then (some false) else (if (t398 == a0) = true then (busbarlaw03_WiresSay.j0 k a0 t388 2) else (busbarlaw03_WiresSay.j0 k a0 t388 1))))))) else (if (t390 != a0) = true then (some false) else (if (t396 == a0) = true then (if (t391 != a0) = true then (some false) else (if (t397 == a0) = true then (if (t392 != a0) = true then (some false) else (if (t398 == a0) = true then (busbarlaw03_WiresSay.j0 k a0 t388 3) else (busbarlaw03_WiresSay.j0 k a0 t388 2))) else (if (t392 != a0) = true then (some false) else (if (t398 == a0) = true then (busbarlaw03_WiresSay.j0 k a0 t388 2) else (busbarlaw03_WiresSay.j0 k a0 t388 1))))) else (if (t391 != a0) = true then (some false) else (if (t397 == a0) = true then (if (t392 != a0) = true then (some false) else (if (t398 == a0) = true then (busbarlaw03_WiresSay.j0 k a0 t388 2) else (busbarlaw03_WiresSay.j0 k a0 t388 1))) else (if (t392 != a0) = true then (some false) else (if (t398 == a0) = true then (busbarlaw03_WiresSay.j0 k a0 t388 1) else (busbarlaw03_WiresSay.j0 k a0 t388 0))))))))) = some r := H
  have A9 := Aside0.mk A90
  clear A90
  have HC10 := Aside0.mk H
  clear H
  go_enter Try.func11, Try.ntmps11
  go_upto_block 0 with (first | ((with_reducible refine gate_callee (f := 20) rfl ?_); refine goesL_ (some 13) rfl rfl Try.func20 (by kernel_rfl) rfl #[.bool false, .bool a0] rfl (by (try simp only [List.map_toArray, List.map_cons, List.map_nil]); first | done | rfl | (simp only [List.length_drop, List.length_take]; rfl)) ?_; (with_reducible refine (wires_Drive.calls false a0 t383 _ A4.out).mono ?_); rintro e w' ⟨rfl, ⟨nd, rfl⟩⟩; refine ⟨_, rfl, ?_⟩) | ((with_reducible refine gate_callee (f := 20) rfl ?_); refine goesL_ (some 15) rfl rfl Try.func20 (by kernel_rfl) rfl #[.bool true, .bool a0] rfl (by (try simp only [List.map_toArray, List.map_cons, List.map_nil]); first | done | rfl | (simp only [List.length_drop, List.length_take]; rfl)) ?_; (with_reducible refine (wires_Drive.calls true a0 t384 _ A5.out).mono ?_); rintro e w' ⟨rfl, ⟨nd, rfl⟩⟩; refine ⟨_, rfl, ?_⟩) | ((with_reducible refine gate_dst (N := 16) rfl ?_); (try (refine gate_guard (by rfl) ?_; dsimp only)); refine Kd.R_lit (Kd.int .u8) _ 23 ?hg (N := 16) ?hd (xs := ([t383, t384] : List Int)) (inner := [.int .u8 t383, .int .u8 t384]) (ok := fun _ => True) (okp := fun _ => True) ?hr ?hp (fun _ hk => hk) trivial (Below.refl _ _) (Nat.le_refl _) (by simp) ?_; (case hd => rfl); (case hg => rfl); (case hr => first | (go_simp; done) | (go_simp; rfl)); (case hp => exact (Reps.one (show Kd.M (Kd.int .u8) _ _ _ t383 [.int .u8 t383] from rfl) (Reps.one (show Kd.M (Kd.int .u8) _ _ _ t384 [.int .u8 t384] from rfl) (Reps.none _ _)))); intro v386 w11 ho12 hb hg_ hnew_; clear hg_ hnew_; (first | rw [← Ny385.out] at ho12 | (simp only [Int.reduceToNat] at ho12; rw [← Ny385.out] at ho12)); have n0_ := Aside0.mk (Kd.R_lower ho12 (below_size (by repeat (first | (with_reducible first | exact HB.out | apply below_alloc | apply pw_below_drewN | apply below_drew1) | exact HB.out)))); have n1_ := Aside0.mk (below_step (by repeat (first | (with_reducible first | exact HB.out | apply below_alloc | apply pw_below_drewN | apply below_drew1) | exact HB.out)) hb); clear HB; have HO387 := n0_; have HB := n1_; clear n0_ n1_; clear hb ho12; obtain ⟨Ao13, co13, eo13⟩ := Kd.R_slice HO387.out; subst eo13) | ((with_reducible refine gate_callee (f := 15) rfl ?_); refine goesL_ (some 17) rfl rfl Try.func15 (by kernel_rfl) rfl #[.slice Ao13 y385.length co13] rfl (by (try simp only [List.map_toArray, List.map_cons, List.map_nil]); first | done | rfl | (simp only [List.length_drop, List.length_take]; rfl)) ?_; (with_reducible refine (wires_Or.calls k _ _ y385 t388 _ ?side1 ?side2 A6.out).mono ?_); (case side1 => repeat (first | exact (Kd.R_reads' HO387.out).2.2 | (with_reducible refine Kd.C_alloc ?_ _) | (with_reducible refine Kd.C_drewN ?_ _) | (with_reducible refine Kd.C_drew ?_))); (case side2 => exact (Kd.R_reads' HO387.out).2.1); rintro e w' ⟨rfl, ⟨nd, rfl⟩⟩; refine ⟨_, rfl, ?_⟩; (try (rw [drewN_self w11]; generalize hq_ : World.drewN w11 _ = w11; have n0_ : Aside0 (Kd.R (Kd.int .u8) 23 w11 w.heap.size (fun _ => True) (.slice Ao13 y385.length co13) y385) := ⟨by rw [← hq_]; exact (by (with_reducible repeat (first | apply Kd.R_alloc | apply Kd.R_drewN | apply Kd.R_drew)); exact HO387.out)⟩; have n1_ : Aside0 (Below w.heap.size w w11) := ⟨by rw [← hq_]; exact (by repeat (first | (with_reducible first | exact HB.out | apply below_alloc | apply pw_below_drewN | apply below_drew1) | exact HB.out))⟩; clear HO387 HB hq_; have HO387 := n0_; have HB := n1_; clear n0_ n1_))) | ((with_reducible refine gate_callee (f := 28) rfl ?_); refine goesL_ (some 19) rfl rfl Try.func28 (by kernel_rfl) rfl #[.int .u8 t388] rfl (by (try simp only [List.map_toArray, List.map_cons, List.map_nil]); first | done | rfl | (simp only [List.length_drop, List.length_take]; rfl)) ?_; (with_reducible refine (wires_Lines_Says.calls t388 t389 t390 t391 t392 _ A7.out).mono ?_); rintro e w14 ⟨rfl, hb⟩; refine ⟨_, rfl, ?_⟩; have n0_ := Aside0.mk (Kd.R_below (by (with_reducible repeat (first | apply Kd.R_alloc | apply Kd.R_drewN | apply Kd.R_drew)); exact HO387.out) hb); have n1_ := Aside0.mk (below_step (by repeat (first | (with_reducible first | exact HB.out | apply below_alloc | apply pw_below_drewN | apply below_drew1) | exact HB.out)) hb); clear HO387; clear HB; have HO387 := n0_; have HB := n1_; clear n0_ n1_; (try clear hb); (try clear hb2); (try clear hk); (try clear hi)) | ((with_reducible refine gate_dst (N := 8) rfl ?_); (try (refine gate_guard (by rfl) ?_; dsimp only)); refine box_event ?hg (N := 8) ?hd (cs := #[.bool false, .bool false, .bool false, .bool false]) (t := 40) ?hr ?_; (case hd => rfl); (case hg => rfl); (case hr => first | (go_simp; done) | (go_simp; rfl)); intro gb393 hg w15 hbox hb; have n0_ := Aside0.mk (Kd.R_below (by (with_reducible repeat (first | apply Kd.R_alloc | apply Kd.R_drewN | apply Kd.R_drew)); exact HO387.out) hb); have n1_ := Aside0.mk (below_step (by repeat (first | (with_reducible first | exact HB.out | apply below_alloc | apply pw_below_drewN | apply below_drew1) | exact HB.out)) hb); have n2_ := Aside0.mk (hbox); have n3_ := Aside0.mk ((by rw [hg]; exact (below_size (by repeat (first | (with_reducible first | exact HB.out | apply below_alloc | apply pw_below_drewN | apply below_drew1) | exact HB.out))) : w.heap.size ≤ gb393)); have n4_ := Aside0.mk ((by rw [hg]; exact (below_size (by repeat (first | (with_reducible first | exact HB.out | apply below_alloc | apply pw_below_drewN | apply below_drew1) | exact HB.out))) : w.heap.size ≤ gb393)); clear HO387; clear HB; have HO387 := n0_; have HB := n1_; have BK393 := n2_; have GW393 := n3_; have GE393 := n4_; clear n0_ n1_ n2_ n3_ n4_; clear hb hbox hg; have hcz16_0 : w15.cell? ⟨gb393, 0, none⟩ = some (.bool false) := (blk_cell BK393.out 0).trans rfl; have hcz16_1 : w15.cell? ⟨gb393, 1, none⟩ = some (.bool false) := (blk_cell BK393.out 1).trans rfl; have hcz16_2 : w15.cell? ⟨gb393, 2, none⟩ = some (.bool false) := (blk_cell BK393.out 2).trans rfl; have hcz16_3 : w15.cell? ⟨gb393, 3, none⟩ = some (.bool false) := (blk_cell BK393.out 3).trans rfl; have hfz16_0 := blk_frozen BK393.out 0; have hfz16_1 := blk_frozen BK393.out 1; have hfz16_2 := blk_frozen BK393.out 2; have hfz16_3 := blk_frozen BK393.out 3) | ((with_reducible refine gate_callee (f := 29) rfl ?_); refine goesL_ (some 23) rfl rfl Try.func29 (by kernel_rfl) rfl #[.int .u8 t388, .int .i64 a1, .bool a2] rfl (by (try simp only [List.map_toArray, List.map_cons, List.map_nil]); first | done | rfl | (simp only [List.length_drop, List.length_take]; rfl)) ?_; (with_reducible refine (wires_Lines_Set.calls t388 a1 a2 t394 _ A8.out).mono ?_); rintro e w' ⟨rfl, ⟨nd, rfl⟩⟩; refine ⟨_, rfl, ?_⟩) | ((with_reducible refine gate_callee (f := 28) rfl ?_); refine goesL_ (some 24) rfl rfl Try.func28 (by kernel_rfl) rfl #[.int .u8 t394] rfl (by (try simp only [List.map_toArray, List.map_cons, List.map_nil]); first | done | rfl | (simp only [List.length_drop, List.length_take]; rfl)) ?_; (with_reducible refine (wires_Lines_Says.calls t394 t395 t396 t397 t398 _ A9.out).mono ?_); rintro e w17 ⟨rfl, hb⟩; refine ⟨_, rfl, ?_⟩; have n0_ := Aside0.mk (Kd.R_below (by (with_reducible repeat (first | apply Kd.R_alloc | apply Kd.R_drewN | apply Kd.R_drew)); exact (Kd.R_mono (Kd.R_far (p := ⟨gb393, 3, none⟩) (Kd.R_far (p := ⟨gb393, 2, none⟩) (Kd.R_far (p := ⟨gb393, 1, none⟩) (Kd.R_far (p := ⟨gb393, 0, none⟩) (Kd.R_types HO387.out BK393.out (by decide)) (fun _ hk => hk.2) (.bool t389)) (fun _ hk => hk.2) (.bool t390)) (fun _ hk => hk.2) (.bool t391)) (fun _ hk => hk.2) (.bool t392)) (fun _ h_ => h_.1))) hb); have n1_ := Aside0.mk (blk_below (g := gb393) (o := .cells #[.bool t389, .bool t390, .bool t391, .bool t392] 40 (0, 0)) (by (with_reducible repeat (first | refine blk_drewN ?_ _ | refine blk_drew ?_ | refine blk_alloc ?_ _)); refine blk_put (cs := #[.bool t389, .bool t390, .bool t391, .bool false]) ?_ 3 _ rfl; (with_reducible repeat (first | refine blk_drewN ?_ _ | refine blk_drew ?_ | refine blk_alloc ?_ _)); refine blk_put (cs := #[.bool t389, .bool t390, .bool false, .bool false]) ?_ 2 _ rfl; (with_reducible repeat (first | refine blk_drewN ?_ _ | refine blk_drew ?_ | refine blk_alloc ?_ _)); refine blk_put (cs := #[.bool t389, .bool false, .bool false, .bool false]) ?_ 1 _ rfl; (with_reducible repeat (first | refine blk_drewN ?_ _ | refine blk_drew ?_ | refine blk_alloc ?_ _)); refine blk_put (cs := #[.bool false, .bool false, .bool false, .bool false]) ?_ 0 _ rfl; (with_reducible repeat (first | refine blk_drewN ?_ _ | refine blk_drew ?_ | refine blk_alloc ?_ _)); exact BK393.out) hb); have n2_ := Aside0.mk (below_step (by repeat (first | (with_reducible first | exact HB.out | apply below_alloc | apply pw_below_drewN | apply below_drew1 | refine below_set ?_ GE393.out) | exact HB.out)) hb); clear HO387; clear BK393; clear HB; have HO387 := n0_; have BK393 := n1_; have HB := n2_; clear n0_ n1_ n2_; (try clear hb); (try clear hb2); (try clear hk); (try clear hi)) | ((with_reducible refine gate_dst (N := 9) rfl ?_); (try (refine gate_guard (by rfl) ?_; dsimp only)); refine box_event ?hg (N := 9) ?hd (cs := #[.bool false, .bool false, .bool false, .bool false]) (t := 40) ?hr ?_; (case hd => rfl); (case hg => rfl); (case hr => first | (go_simp; done) | (go_simp; rfl)); intro gb399 hg w18 hbox hb; have n0_ := Aside0.mk (Kd.R_below (by (with_reducible repeat (first | apply Kd.R_alloc | apply Kd.R_drewN | apply Kd.R_drew)); exact HO387.out) hb); have n1_ := Aside0.mk (blk_below (g := gb393) (o := .cells #[.bool t389, .bool t390, .bool t391, .bool t392] 40 (0, 0)) (by (with_reducible repeat (first | refine blk_drewN ?_ _ | refine blk_drew ?_ | refine blk_alloc ?_ _)); exact BK393.out) hb); have n2_ := Aside0.mk (below_step (by repeat (first | (with_reducible first | exact HB.out | apply below_alloc | apply pw_below_drewN | apply below_drew1 | refine below_set ?_ GE393.out) | exact HB.out)) hb); have n3_ := Aside0.mk (hbox); have n4_ := Aside0.mk ((by rw [hg]; exact (below_size (by repeat (first | (with_reducible first | exact HB.out | apply below_alloc | apply pw_below_drewN | apply below_drew1 | refine below_set ?_ GE393.out) | exact HB.out))) : w.heap.size ≤ gb399)); have n5_ := Aside0.mk ((by rw [hg]; exact (below_size (by repeat (first | (with_reducible first | exact HB.out | apply below_alloc | apply pw_below_drewN | apply below_drew1 | refine below_set ?_ GE393.out) | exact HB.out))) : w.heap.size ≤ gb399)); have n6_ := Aside0.mk ((by rw [hg]; exact Nat.ne_of_lt (blk_lt (g := gb393) (o := .cells #[.bool t389, .bool t390, .bool t391, .bool t392] 40 (0, 0)) (by (with_reducible repeat (first | refine blk_drewN ?_ _ | refine blk_drew ?_ | refine blk_alloc ?_ _)); exact BK393.out)) : gb393 ≠ gb399)); have n7_ := Aside0.mk ((by rw [hg]; exact Nat.ne_of_gt (blk_lt (g := gb393) (o := .cells #[.bool t389, .bool t390, .bool t391, .bool t392] 40 (0, 0)) (by (with_reducible repeat (first | refine blk_drewN ?_ _ | refine blk_drew ?_ | refine blk_alloc ?_ _)); exact BK393.out)) : gb399 ≠ gb393)); clear HO387; clear BK393; clear HB; have HO387 := n0_; have BK393 := n1_; have HB := n2_; have BK399 := n3_; have GW399 := n4_; have GE399 := n5_; have NB393_399 := n6_; have NB399_393 := n7_; clear n0_ n1_ n2_ n3_ n4_ n5_ n6_ n7_; clear hb hbox hg; have hnb19 := NB399_393.out; have hnc19 := NB393_399.out; have hcz20_0 : w18.cell? ⟨gb399, 0, none⟩ = some (.bool false) := (blk_cell BK399.out 0).trans rfl; have hcz20_1 : w18.cell? ⟨gb399, 1, none⟩ = some (.bool false) := (blk_cell BK399.out 1).trans rfl; have hcz20_2 : w18.cell? ⟨gb399, 2, none⟩ = some (.bool false) := (blk_cell BK399.out 2).trans rfl; have hcz20_3 : w18.cell? ⟨gb399, 3, none⟩ = some (.bool false) := (blk_cell BK399.out 3).trans rfl; have hfz20_0 := blk_frozen BK399.out 0; have hfz20_1 := blk_frozen BK399.out 1; have hfz20_2 := blk_frozen BK399.out 2; have hfz20_3 := blk_frozen BK399.out 3))
  (try simp only [Act.put, List.setIfInBounds_toArray, List.set_cons_zero, List.set_cons_succ])
  go_cut [10] (fun v10 wc => ∃ (kq : Nat) (x10_9 : Int), v10 = .int .i64 x10_9 ∧ Aside0 (busbarlaw03_WiresSay.j0 kq a0 t388 x10_9 = some r) ∧ Aside0 (kq ≤ k) ∧ Aside0 (wc.heap[gb393]? = some (.cells #[.bool t389, .bool t390, .bool t391, .bool t392] 40 (0, 0))) ∧ Aside0 (wc.heap[gb399]? = some (.cells #[.bool t395, .bool t396, .bool t397, .bool t398] 40 (0, 0))) ∧ Aside0 (Below w.heap.size w wc))
  case first =>
    have H := HC10.out
    clear HC10
    by_cases c21 : (t389 != a0) = true
    · rw [if_pos c21] at H
      have c21b0 : (t389 != a0) = true := c21
      (try (have c21b1 : decide (t389 = a0) = false := by simpa using c21))
      (try (have c21b2 : (t389 == a0) = false := by simpa using c21))
      (try (have c21b3 : ¬ (t389 = a0) := by simpa using c21))
      (try (have c21b4 : (!(t389 == a0)) = true := by have h_ := c21; simp only [bne] at h_; first | exact h_ | simpa using h_))
      clear c21
      (first | rw [c21b0] | (simp only [i64_w, i32_w]; rw [c21b0]) | skip)
      obtain rfl := Option.some.inj H
      have hnb22 := NB393_399.out
      have hnc22 := NB399_393.out
      have hcz23_0 : w18.cell? ⟨gb393, 0, none⟩ = some (.bool t389) := (blk_cell BK393.out 0).trans rfl
      have hcz23_1 : w18.cell? ⟨gb393, 1, none⟩ = some (.bool t390) := (blk_cell BK393.out 1).trans rfl
      have hcz23_2 : w18.cell? ⟨gb393, 2, none⟩ = some (.bool t391) := (blk_cell BK393.out 2).trans rfl
      have hcz23_3 : w18.cell? ⟨gb393, 3, none⟩ = some (.bool t392) := (blk_cell BK393.out 3).trans rfl
      have hfz23_0 := blk_frozen BK393.out 0
      have hfz23_1 := blk_frozen BK393.out 1
      have hfz23_2 := blk_frozen BK393.out 2
      have hfz23_3 := blk_frozen BK393.out 3
      go_wp2_with (first | (with_reducible refine rounds_step ?_) | (refine wp_loop_rounds 9 ?_))
      go_ret
      exact ⟨by first | rfl | (simp [errW_none, errW_some] <;> rfl) | (simp [*, errW_none, errW_some] <;> rfl), by repeat (first | (with_reducible first | exact HB.out | apply below_alloc | apply pw_below_drewN | apply below_drew1 | refine below_set ?_ GE393.out | refine below_set ?_ GE399.out) | exact HB.out)⟩
    · rw [if_neg c21] at H
      have c21b0 : (t389 != a0) = false := by simpa using c21
      (try (have c21b1 : decide (t389 = a0) = true := by simpa using c21))
      (try (have c21b2 : (t389 == a0) = true := by simpa using c21))
      (try (have c21b3 : (!(t389 == a0)) = false := by have h_ := c21; simp only [bne] at h_; first | exact h_ | simpa using h_))
      clear c21
      (first | rw [c21b0] | (simp only [i64_w, i32_w]; rw [c21b0]) | skip)
      by_cases c24 : (t395 == a0) = true
      · rw [if_pos c24] at H
        have c24b0 : (t395 == a0) = true := c24
        (try (have c24b1 : decide (t395 = a0) = true := by simpa using c24))
        (try (have c24b2 : (t395 == a0) = true := by simpa using c24))
        clear c24
        by_cases c25 : (t390 != a0) = true
        · rw [if_pos c25] at H
          have c25b0 : (t390 != a0) = true := c25
          (try (have c25b1 : decide (t390 = a0) = false := by simpa using c25))
          (try (have c25b2 : (t390 == a0) = false := by simpa using c25))
          (try (have c25b3 : ¬ (t390 = a0) := by simpa using c25))
          (try (have c25b4 : (!(t390 == a0)) = true := by have h_ := c25; simp only [bne] at h_; first | exact h_ | simpa using h_))
          clear c25
          obtain rfl := Option.some.inj H
          have hnb26 := NB393_399.out
          have hnc26 := NB399_393.out
          have hcz27_0 : w18.cell? ⟨gb393, 0, none⟩ = some (.bool t389) := (blk_cell BK393.out 0).trans rfl
          have hcz27_1 : w18.cell? ⟨gb393, 1, none⟩ = some (.bool t390) := (blk_cell BK393.out 1).trans rfl
          have hcz27_2 : w18.cell? ⟨gb393, 2, none⟩ = some (.bool t391) := (blk_cell BK393.out 2).trans rfl
          have hcz27_3 : w18.cell? ⟨gb393, 3, none⟩ = some (.bool t392) := (blk_cell BK393.out 3).trans rfl
          have hfz27_0 := blk_frozen BK393.out 0
          have hfz27_1 := blk_frozen BK393.out 1
          have hfz27_2 := blk_frozen BK393.out 2
          have hfz27_3 := blk_frozen BK393.out 3
          have hcz28_0 : w18.cell? ⟨gb399, 0, none⟩ = some (.bool false) := (blk_cell BK399.out 0).trans rfl
          have hcz28_1 : w18.cell? ⟨gb399, 1, none⟩ = some (.bool false) := (blk_cell BK399.out 1).trans rfl
          have hcz28_2 : w18.cell? ⟨gb399, 2, none⟩ = some (.bool false) := (blk_cell BK399.out 2).trans rfl
          have hcz28_3 : w18.cell? ⟨gb399, 3, none⟩ = some (.bool false) := (blk_cell BK399.out 3).trans rfl
          have hfz28_0 := blk_frozen BK399.out 0
          have hfz28_1 := blk_frozen BK399.out 1
          have hfz28_2 := blk_frozen BK399.out 2
          have hfz28_3 := blk_frozen BK399.out 3
          go_wp2_with (first | (with_reducible refine rounds_step ?_) | (refine wp_loop_rounds 9 ?_))
          go_ret
          exact ⟨by first | rfl | (simp [errW_none, errW_some] <;> rfl) | (simp [*, errW_none, errW_some] <;> rfl), by repeat (first | (with_reducible first | exact HB.out | apply below_alloc | apply pw_below_drewN | apply below_drew1 | refine below_set ?_ GE393.out | refine below_set ?_ GE399.out) | exact HB.out)⟩
        · rw [if_neg c25] at H
          have c25b0 : (t390 != a0) = false := by simpa using c25
          (try (have c25b1 : decide (t390 = a0) = true := by simpa using c25))
          (try (have c25b2 : (t390 == a0) = true := by simpa using c25))
          (try (have c25b3 : (!(t390 == a0)) = false := by have h_ := c25; simp only [bne] at h_; first | exact h_ | simpa using h_))
          clear c25
          by_cases c29 : (t396 == a0) = true
          · rw [if_pos c29] at H
            have c29b0 : (t396 == a0) = true := c29
            (try (have c29b1 : decide (t396 = a0) = true := by simpa using c29))
            (try (have c29b2 : (t396 == a0) = true := by simpa using c29))
            clear c29
            by_cases c30 : (t391 != a0) = true
            · rw [if_pos c30] at H
              have c30b0 : (t391 != a0) = true := c30
              (try (have c30b1 : decide (t391 = a0) = false := by simpa using c30))
              (try (have c30b2 : (t391 == a0) = false := by simpa using c30))
              (try (have c30b3 : ¬ (t391 = a0) := by simpa using c30))
              (try (have c30b4 : (!(t391 == a0)) = true := by have h_ := c30; simp only [bne] at h_; first | exact h_ | simpa using h_))
              clear c30
              obtain rfl := Option.some.inj H
              have hnb31 := NB393_399.out
              have hnc31 := NB399_393.out
              have hcz32_0 : w18.cell? ⟨gb393, 0, none⟩ = some (.bool t389) := (blk_cell BK393.out 0).trans rfl
              have hcz32_1 : w18.cell? ⟨gb393, 1, none⟩ = some (.bool t390) := (blk_cell BK393.out 1).trans rfl
              have hcz32_2 : w18.cell? ⟨gb393, 2, none⟩ = some (.bool t391) := (blk_cell BK393.out 2).trans rfl
              have hcz32_3 : w18.cell? ⟨gb393, 3, none⟩ = some (.bool t392) := (blk_cell BK393.out 3).trans rfl
              have hfz32_0 := blk_frozen BK393.out 0
              have hfz32_1 := blk_frozen BK393.out 1
              have hfz32_2 := blk_frozen BK393.out 2
              have hfz32_3 := blk_frozen BK393.out 3
              have hcz33_0 : w18.cell? ⟨gb399, 0, none⟩ = some (.bool false) := (blk_cell BK399.out 0).trans rfl
              have hcz33_1 : w18.cell? ⟨gb399, 1, none⟩ = some (.bool false) := (blk_cell BK399.out 1).trans rfl
              have hcz33_2 : w18.cell? ⟨gb399, 2, none⟩ = some (.bool false) := (blk_cell BK399.out 2).trans rfl
              have hcz33_3 : w18.cell? ⟨gb399, 3, none⟩ = some (.bool false) := (blk_cell BK399.out 3).trans rfl
              have hfz33_0 := blk_frozen BK399.out 0
              have hfz33_1 := blk_frozen BK399.out 1
              have hfz33_2 := blk_frozen BK399.out 2
              have hfz33_3 := blk_frozen BK399.out 3
              go_wp2_with (first | (with_reducible refine rounds_step ?_) | (refine wp_loop_rounds 9 ?_))
              go_ret
              exact ⟨by first | rfl | (simp [errW_none, errW_some] <;> rfl) | (simp [*, errW_none, errW_some] <;> rfl), by repeat (first | (with_reducible first | exact HB.out | apply below_alloc | apply pw_below_drewN | apply below_drew1 | refine below_set ?_ GE393.out | refine below_set ?_ GE399.out) | exact HB.out)⟩
            · rw [if_neg c30] at H
              have c30b0 : (t391 != a0) = false := by simpa using c30
              (try (have c30b1 : decide (t391 = a0) = true := by simpa using c30))
              (try (have c30b2 : (t391 == a0) = true := by simpa using c30))
              (try (have c30b3 : (!(t391 == a0)) = false := by have h_ := c30; simp only [bne] at h_; first | exact h_ | simpa using h_))
              clear c30
              by_cases c34 : (t397 == a0) = true
              · rw [if_pos c34] at H
                have c34b0 : (t397 == a0) = true := c34
                (try (have c34b1 : decide (t397 = a0) = true := by simpa using c34))
                (try (have c34b2 : (t397 == a0) = true := by simpa using c34))
                clear c34
                by_cases c35 : (t392 != a0) = true
                · rw [if_pos c35] at H
                  have c35b0 : (t392 != a0) = true := c35
                  (try (have c35b1 : decide (t392 = a0) = false := by simpa using c35))
                  (try (have c35b2 : (t392 == a0) = false := by simpa using c35))
                  (try (have c35b3 : ¬ (t392 = a0) := by simpa using c35))
                  (try (have c35b4 : (!(t392 == a0)) = true := by have h_ := c35; simp only [bne] at h_; first | exact h_ | simpa using h_))
                  clear c35
                  obtain rfl := Option.some.inj H
                  have hnb36 := NB393_399.out
                  have hnc36 := NB399_393.out
                  have hcz37_0 : w18.cell? ⟨gb393, 0, none⟩ = some (.bool t389) := (blk_cell BK393.out 0).trans rfl
                  have hcz37_1 : w18.cell? ⟨gb393, 1, none⟩ = some (.bool t390) := (blk_cell BK393.out 1).trans rfl
                  have hcz37_2 : w18.cell? ⟨gb393, 2, none⟩ = some (.bool t391) := (blk_cell BK393.out 2).trans rfl
                  have hcz37_3 : w18.cell? ⟨gb393, 3, none⟩ = some (.bool t392) := (blk_cell BK393.out 3).trans rfl
                  have hfz37_0 := blk_frozen BK393.out 0
                  have hfz37_1 := blk_frozen BK393.out 1
                  have hfz37_2 := blk_frozen BK393.out 2
                  have hfz37_3 := blk_frozen BK393.out 3
                  have hcz38_0 : w18.cell? ⟨gb399, 0, none⟩ = some (.bool false) := (blk_cell BK399.out 0).trans rfl
                  have hcz38_1 : w18.cell? ⟨gb399, 1, none⟩ = some (.bool false) := (blk_cell BK399.out 1).trans rfl
                  have hcz38_2 : w18.cell? ⟨gb399, 2, none⟩ = some (.bool false) := (blk_cell BK399.out 2).trans rfl
                  have hcz38_3 : w18.cell? ⟨gb399, 3, none⟩ = some (.bool false) := (blk_cell BK399.out 3).trans rfl
                  have hfz38_0 := blk_frozen BK399.out 0
                  have hfz38_1 := blk_frozen BK399.out 1
                  have hfz38_2 := blk_frozen BK399.out 2
                  have hfz38_3 := blk_frozen BK399.out 3
                  go_wp2_with (first | (with_reducible refine rounds_step ?_) | (refine wp_loop_rounds 9 ?_))
                  go_ret
                  exact ⟨by first | rfl | (simp [errW_none, errW_some] <;> rfl) | (simp [*, errW_none, errW_some] <;> rfl), by repeat (first | (with_reducible first | exact HB.out | apply below_alloc | apply pw_below_drewN | apply below_drew1 | refine below_set ?_ GE393.out | refine below_set ?_ GE399.out) | exact HB.out)⟩
                · rw [if_neg c35] at H
                  have c35b0 : (t392 != a0) = false := by simpa using c35
                  (try (have c35b1 : decide (t392 = a0) = true := by simpa using c35))
                  (try (have c35b2 : (t392 == a0) = true := by simpa using c35))
                  (try (have c35b3 : (!(t392 == a0)) = false := by have h_ := c35; simp only [bne] at h_; first | exact h_ | simpa using h_))
                  clear c35
                  by_cases c39 : (t398 == a0) = true
                  · rw [if_pos c39] at H
                    have c39b0 : (t398 == a0) = true := c39
                    (try (have c39b1 : decide (t398 = a0) = true := by simpa using c39))
                    (try (have c39b2 : (t398 == a0) = true := by simpa using c39))
                    clear c39
                    have H' := Aside0.mk H
                    clear H
                    have hnb40 := NB393_399.out
                    have hnc40 := NB399_393.out
                    have hcz41_0 : w18.cell? ⟨gb393, 0, none⟩ = some (.bool t389) := (blk_cell BK393.out 0).trans rfl
                    have hcz41_1 : w18.cell? ⟨gb393, 1, none⟩ = some (.bool t390) := (blk_cell BK393.out 1).trans rfl
                    have hcz41_2 : w18.cell? ⟨gb393, 2, none⟩ = some (.bool t391) := (blk_cell BK393.out 2).trans rfl
                    have hcz41_3 : w18.cell? ⟨gb393, 3, none⟩ = some (.bool t392) := (blk_cell BK393.out 3).trans rfl
                    have hfz41_0 := blk_frozen BK393.out 0
                    have hfz41_1 := blk_frozen BK393.out 1
                    have hfz41_2 := blk_frozen BK393.out 2
                    have hfz41_3 := blk_frozen BK393.out 3
                    have hcz42_0 : w18.cell? ⟨gb399, 0, none⟩ = some (.bool false) := (blk_cell BK399.out 0).trans rfl
                    have hcz42_1 : w18.cell? ⟨gb399, 1, none⟩ = some (.bool false) := (blk_cell BK399.out 1).trans rfl
                    have hcz42_2 : w18.cell? ⟨gb399, 2, none⟩ = some (.bool false) := (blk_cell BK399.out 2).trans rfl
                    have hcz42_3 : w18.cell? ⟨gb399, 3, none⟩ = some (.bool false) := (blk_cell BK399.out 3).trans rfl
                    have hfz42_0 := blk_frozen BK399.out 0
                    have hfz42_1 := blk_frozen BK399.out 1
                    have hfz42_2 := blk_frozen BK399.out 2
                    have hfz42_3 := blk_frozen BK399.out 3
                    go_wp2_with (first | (with_reducible refine rounds_step ?_) | (refine wp_loop_rounds 9 ?_))
                    go_meet
                    case rel => exact ⟨_, (4), (by first | rfl | (simp; done) | (simp [*]; done)), H', ⟨by first | omega | exact Nat.le_refl _⟩, ⟨by (with_reducible repeat (first | refine blk_drewN ?_ _ | refine blk_drew ?_ | refine blk_alloc ?_ _)); refine blk_far ?_ NB393_399.out _; (with_reducible repeat (first | refine blk_drewN ?_ _ | refine blk_drew ?_ | refine blk_alloc ?_ _)); refine blk_far ?_ NB393_399.out _; (with_reducible repeat (first | refine blk_drewN ?_ _ | refine blk_drew ?_ | refine blk_alloc ?_ _)); refine blk_far ?_ NB393_399.out _; (with_reducible repeat (first | refine blk_drewN ?_ _ | refine blk_drew ?_ | refine blk_alloc ?_ _)); refine blk_far ?_ NB393_399.out _; (with_reducible repeat (first | refine blk_drewN ?_ _ | refine blk_drew ?_ | refine blk_alloc ?_ _)); exact BK393.out⟩, ⟨by (with_reducible repeat (first | refine blk_drewN ?_ _ | refine blk_drew ?_ | refine blk_alloc ?_ _)); refine blk_put (cs := #[.bool t395, .bool t396, .bool t397, .bool false]) ?_ 3 _ rfl; (with_reducible repeat (first | refine blk_drewN ?_ _ | refine blk_drew ?_ | refine blk_alloc ?_ _)); refine blk_put (cs := #[.bool t395, .bool t396, .bool false, .bool false]) ?_ 2 _ rfl; (with_reducible repeat (first | refine blk_drewN ?_ _ | refine blk_drew ?_ | refine blk_alloc ?_ _)); refine blk_put (cs := #[.bool t395, .bool false, .bool false, .bool false]) ?_ 1 _ rfl; (with_reducible repeat (first | refine blk_drewN ?_ _ | refine blk_drew ?_ | refine blk_alloc ?_ _)); refine blk_put (cs := #[.bool false, .bool false, .bool false, .bool false]) ?_ 0 _ rfl; (with_reducible repeat (first | refine blk_drewN ?_ _ | refine blk_drew ?_ | refine blk_alloc ?_ _)); exact BK399.out⟩, ⟨by repeat (first | (with_reducible first | exact HB.out | apply below_alloc | apply pw_below_drewN | apply below_drew1 | refine below_set ?_ GE393.out | refine below_set ?_ GE399.out) | exact HB.out)⟩⟩
                  · rw [if_neg c39] at H
                    have c39b0 : (t398 == a0) = false := by simpa using c39
                    (try (have c39b1 : decide (t398 = a0) = false := by simpa using c39))
                    (try (have c39b2 : (t398 == a0) = false := by simpa using c39))
                    (try (have c39b3 : ¬ (t398 = a0) := by simpa using c39))
                    clear c39
                    have H' := Aside0.mk H
                    clear H
                    have hnb43 := NB393_399.out
                    have hnc43 := NB399_393.out
                    have hcz44_0 : w18.cell? ⟨gb393, 0, none⟩ = some (.bool t389) := (blk_cell BK393.out 0).trans rfl
                    have hcz44_1 : w18.cell? ⟨gb393, 1, none⟩ = some (.bool t390) := (blk_cell BK393.out 1).trans rfl
                    have hcz44_2 : w18.cell? ⟨gb393, 2, none⟩ = some (.bool t391) := (blk_cell BK393.out 2).trans rfl
                    have hcz44_3 : w18.cell? ⟨gb393, 3, none⟩ = some (.bool t392) := (blk_cell BK393.out 3).trans rfl
                    have hfz44_0 := blk_frozen BK393.out 0
                    have hfz44_1 := blk_frozen BK393.out 1
                    have hfz44_2 := blk_frozen BK393.out 2
                    have hfz44_3 := blk_frozen BK393.out 3
                    have hcz45_0 : w18.cell? ⟨gb399, 0, none⟩ = some (.bool false) := (blk_cell BK399.out 0).trans rfl
                    have hcz45_1 : w18.cell? ⟨gb399, 1, none⟩ = some (.bool false) := (blk_cell BK399.out 1).trans rfl
                    have hcz45_2 : w18.cell? ⟨gb399, 2, none⟩ = some (.bool false) := (blk_cell BK399.out 2).trans rfl
                    have hcz45_3 : w18.cell? ⟨gb399, 3, none⟩ = some (.bool false) := (blk_cell BK399.out 3).trans rfl
                    have hfz45_0 := blk_frozen BK399.out 0
                    have hfz45_1 := blk_frozen BK399.out 1
                    have hfz45_2 := blk_frozen BK399.out 2
                    have hfz45_3 := blk_frozen BK399.out 3
                    go_wp2_with (first | (with_reducible refine rounds_step ?_) | (refine wp_loop_rounds 9 ?_))
                    go_meet
                    case rel => exact ⟨_, (3), (by first | rfl | (simp; done) | (simp [*]; done)), H', ⟨by first | omega | exact Nat.le_refl _⟩, ⟨by (with_reducible repeat (first | refine blk_drewN ?_ _ | refine blk_drew ?_ | refine blk_alloc ?_ _)); refine blk_far ?_ NB393_399.out _; (with_reducible repeat (first | refine blk_drewN ?_ _ | refine blk_drew ?_ | refine blk_alloc ?_ _)); refine blk_far ?_ NB393_399.out _; (with_reducible repeat (first | refine blk_drewN ?_ _ | refine blk_drew ?_ | refine blk_alloc ?_ _)); refine blk_far ?_ NB393_399.out _; (with_reducible repeat (first | refine blk_drewN ?_ _ | refine blk_drew ?_ | refine blk_alloc ?_ _)); refine blk_far ?_ NB393_399.out _; (with_reducible repeat (first | refine blk_drewN ?_ _ | refine blk_drew ?_ | refine blk_alloc ?_ _)); exact BK393.out⟩, ⟨by (with_reducible repeat (first | refine blk_drewN ?_ _ | refine blk_drew ?_ | refine blk_alloc ?_ _)); refine blk_put (cs := #[.bool t395, .bool t396, .bool t397, .bool false]) ?_ 3 _ rfl; (with_reducible repeat (first | refine blk_drewN ?_ _ | refine blk_drew ?_ | refine blk_alloc ?_ _)); refine blk_put (cs := #[.bool t395, .bool t396, .bool false, .bool false]) ?_ 2 _ rfl; (with_reducible repeat (first | refine blk_drewN ?_ _ | refine blk_drew ?_ | refine blk_alloc ?_ _)); refine blk_put (cs := #[.bool t395, .bool false, .bool false, .bool false]) ?_ 1 _ rfl; (with_reducible repeat (first | refine blk_drewN ?_ _ | refine blk_drew ?_ | refine blk_alloc ?_ _)); refine blk_put (cs := #[.bool false, .bool false, .bool false, .bool false]) ?_ 0 _ rfl; (with_reducible repeat (first | refine blk_drewN ?_ _ | refine blk_drew ?_ | refine blk_alloc ?_ _)); exact BK399.out⟩, ⟨by repeat (first | (with_reducible first | exact HB.out | apply below_alloc | apply pw_below_drewN | apply below_drew1 | refine below_set ?_ GE393.out | refine below_set ?_ GE399.out) | exact HB.out)⟩⟩
              · rw [if_neg c34] at H
                have c34b0 : (t397 == a0) = false := by simpa using c34
                (try (have c34b1 : decide (t397 = a0) = false := by simpa using c34))
                (try (have c34b2 : (t397 == a0) = false := by simpa using c34))
                (try (have c34b3 : ¬ (t397 = a0) := by simpa using c34))
                clear c34
                by_cases c46 : (t392 != a0) = true
                · rw [if_pos c46] at H
                  have c46b0 : (t392 != a0) = true := c46
                  (try (have c46b1 : decide (t392 = a0) = false := by simpa using c46))
                  (try (have c46b2 : (t392 == a0) = false := by simpa using c46))
                  (try (have c46b3 : ¬ (t392 = a0) := by simpa using c46))
                  (try (have c46b4 : (!(t392 == a0)) = true := by have h_ := c46; simp only [bne] at h_; first | exact h_ | simpa using h_))
                  clear c46
                  obtain rfl := Option.some.inj H
                  have hnb47 := NB393_399.out
                  have hnc47 := NB399_393.out
                  have hcz48_0 : w18.cell? ⟨gb393, 0, none⟩ = some (.bool t389) := (blk_cell BK393.out 0).trans rfl
                  have hcz48_1 : w18.cell? ⟨gb393, 1, none⟩ = some (.bool t390) := (blk_cell BK393.out 1).trans rfl
                  have hcz48_2 : w18.cell? ⟨gb393, 2, none⟩ = some (.bool t391) := (blk_cell BK393.out 2).trans rfl
                  have hcz48_3 : w18.cell? ⟨gb393, 3, none⟩ = some (.bool t392) := (blk_cell BK393.out 3).trans rfl
                  have hfz48_0 := blk_frozen BK393.out 0
                  have hfz48_1 := blk_frozen BK393.out 1
                  have hfz48_2 := blk_frozen BK393.out 2
                  have hfz48_3 := blk_frozen BK393.out 3
                  have hcz49_0 : w18.cell? ⟨gb399, 0, none⟩ = some (.bool false) := (blk_cell BK399.out 0).trans rfl
                  have hcz49_1 : w18.cell? ⟨gb399, 1, none⟩ = some (.bool false) := (blk_cell BK399.out 1).trans rfl
                  have hcz49_2 : w18.cell? ⟨gb399, 2, none⟩ = some (.bool false) := (blk_cell BK399.out 2).trans rfl
                  have hcz49_3 : w18.cell? ⟨gb399, 3, none⟩ = some (.bool false) := (blk_cell BK399.out 3).trans rfl
                  have hfz49_0 := blk_frozen BK399.out 0
                  have hfz49_1 := blk_frozen BK399.out 1
                  have hfz49_2 := blk_frozen BK399.out 2
                  have hfz49_3 := blk_frozen BK399.out 3
                  go_wp2_with (first | (with_reducible refine rounds_step ?_) | (refine wp_loop_rounds 9 ?_))
                  go_ret
                  exact ⟨by first | rfl | (simp [errW_none, errW_some] <;> rfl) | (simp [*, errW_none, errW_some] <;> rfl), by repeat (first | (with_reducible first | exact HB.out | apply below_alloc | apply pw_below_drewN | apply below_drew1 | refine below_set ?_ GE393.out | refine below_set ?_ GE399.out) | exact HB.out)⟩
                · rw [if_neg c46] at H
                  have c46b0 : (t392 != a0) = false := by simpa using c46
                  (try (have c46b1 : decide (t392 = a0) = true := by simpa using c46))
                  (try (have c46b2 : (t392 == a0) = true := by simpa using c46))
                  (try (have c46b3 : (!(t392 == a0)) = false := by have h_ := c46; simp only [bne] at h_; first | exact h_ | simpa using h_))
                  clear c46
                  by_cases c50 : (t398 == a0) = true
                  · rw [if_pos c50] at H
                    have c50b0 : (t398 == a0) = true := c50
                    (try (have c50b1 : decide (t398 = a0) = true := by simpa using c50))
                    (try (have c50b2 : (t398 == a0) = true := by simpa using c50))
                    clear c50
                    have H' := Aside0.mk H
                    clear H
                    have hnb51 := NB393_399.out
                    have hnc51 := NB399_393.out
                    have hcz52_0 : w18.cell? ⟨gb393, 0, none⟩ = some (.bool t389) := (blk_cell BK393.out 0).trans rfl
                    have hcz52_1 : w18.cell? ⟨gb393, 1, none⟩ = some (.bool t390) := (blk_cell BK393.out 1).trans rfl
                    have hcz52_2 : w18.cell? ⟨gb393, 2, none⟩ = some (.bool t391) := (blk_cell BK393.out 2).trans rfl
                    have hcz52_3 : w18.cell? ⟨gb393, 3, none⟩ = some (.bool t392) := (blk_cell BK393.out 3).trans rfl
                    have hfz52_0 := blk_frozen BK393.out 0
                    have hfz52_1 := blk_frozen BK393.out 1
                    have hfz52_2 := blk_frozen BK393.out 2
                    have hfz52_3 := blk_frozen BK393.out 3
                    have hcz53_0 : w18.cell? ⟨gb399, 0, none⟩ = some (.bool false) := (blk_cell BK399.out 0).trans rfl
                    have hcz53_1 : w18.cell? ⟨gb399, 1, none⟩ = some (.bool false) := (blk_cell BK399.out 1).trans rfl
                    have hcz53_2 : w18.cell? ⟨gb399, 2, none⟩ = some (.bool false) := (blk_cell BK399.out 2).trans rfl
                    have hcz53_3 : w18.cell? ⟨gb399, 3, none⟩ = some (.bool false) := (blk_cell BK399.out 3).trans rfl
                    have hfz53_0 := blk_frozen BK399.out 0
                    have hfz53_1 := blk_frozen BK399.out 1
                    have hfz53_2 := blk_frozen BK399.out 2
                    have hfz53_3 := blk_frozen BK399.out 3
                    go_wp2_with (first | (with_reducible refine rounds_step ?_) | (refine wp_loop_rounds 9 ?_))
                    go_meet
                    case rel => exact ⟨_, (3), (by first | rfl | (simp; done) | (simp [*]; done)), H', ⟨by first | omega | exact Nat.le_refl _⟩, ⟨by (with_reducible repeat (first | refine blk_drewN ?_ _ | refine blk_drew ?_ | refine blk_alloc ?_ _)); refine blk_far ?_ NB393_399.out _; (with_reducible repeat (first | refine blk_drewN ?_ _ | refine blk_drew ?_ | refine blk_alloc ?_ _)); refine blk_far ?_ NB393_399.out _; (with_reducible repeat (first | refine blk_drewN ?_ _ | refine blk_drew ?_ | refine blk_alloc ?_ _)); refine blk_far ?_ NB393_399.out _; (with_reducible repeat (first | refine blk_drewN ?_ _ | refine blk_drew ?_ | refine blk_alloc ?_ _)); refine blk_far ?_ NB393_399.out _; (with_reducible repeat (first | refine blk_drewN ?_ _ | refine blk_drew ?_ | refine blk_alloc ?_ _)); exact BK393.out⟩, ⟨by (with_reducible repeat (first | refine blk_drewN ?_ _ | refine blk_drew ?_ | refine blk_alloc ?_ _)); refine blk_put (cs := #[.bool t395, .bool t396, .bool t397, .bool false]) ?_ 3 _ rfl; (with_reducible repeat (first | refine blk_drewN ?_ _ | refine blk_drew ?_ | refine blk_alloc ?_ _)); refine blk_put (cs := #[.bool t395, .bool t396, .bool false, .bool false]) ?_ 2 _ rfl; (with_reducible repeat (first | refine blk_drewN ?_ _ | refine blk_drew ?_ | refine blk_alloc ?_ _)); refine blk_put (cs := #[.bool t395, .bool false, .bool false, .bool false]) ?_ 1 _ rfl; (with_reducible repeat (first | refine blk_drewN ?_ _ | refine blk_drew ?_ | refine blk_alloc ?_ _)); refine blk_put (cs := #[.bool false, .bool false, .bool false, .bool false]) ?_ 0 _ rfl; (with_reducible repeat (first | refine blk_drewN ?_ _ | refine blk_drew ?_ | refine blk_alloc ?_ _)); exact BK399.out⟩, ⟨by repeat (first | (with_reducible first | exact HB.out | apply below_alloc | apply pw_below_drewN | apply below_drew1 | refine below_set ?_ GE393.out | refine below_set ?_ GE399.out) | exact HB.out)⟩⟩
                  · rw [if_neg c50] at H
                    have c50b0 : (t398 == a0) = false := by simpa using c50
                    (try (have c50b1 : decide (t398 = a0) = false := by simpa using c50))
                    (try (have c50b2 : (t398 == a0) = false := by simpa using c50))
                    (try (have c50b3 : ¬ (t398 = a0) := by simpa using c50))
                    clear c50
                    have H' := Aside0.mk H
                    clear H
                    have hnb54 := NB393_399.out
                    have hnc54 := NB399_393.out
                    have hcz55_0 : w18.cell? ⟨gb393, 0, none⟩ = some (.bool t389) := (blk_cell BK393.out 0).trans rfl
                    have hcz55_1 : w18.cell? ⟨gb393, 1, none⟩ = some (.bool t390) := (blk_cell BK393.out 1).trans rfl
                    have hcz55_2 : w18.cell? ⟨gb393, 2, none⟩ = some (.bool t391) := (blk_cell BK393.out 2).trans rfl
                    have hcz55_3 : w18.cell? ⟨gb393, 3, none⟩ = some (.bool t392) := (blk_cell BK393.out 3).trans rfl
                    have hfz55_0 := blk_frozen BK393.out 0
                    have hfz55_1 := blk_frozen BK393.out 1
                    have hfz55_2 := blk_frozen BK393.out 2
                    have hfz55_3 := blk_frozen BK393.out 3
                    have hcz56_0 : w18.cell? ⟨gb399, 0, none⟩ = some (.bool false) := (blk_cell BK399.out 0).trans rfl
                    have hcz56_1 : w18.cell? ⟨gb399, 1, none⟩ = some (.bool false) := (blk_cell BK399.out 1).trans rfl
                    have hcz56_2 : w18.cell? ⟨gb399, 2, none⟩ = some (.bool false) := (blk_cell BK399.out 2).trans rfl
                    have hcz56_3 : w18.cell? ⟨gb399, 3, none⟩ = some (.bool false) := (blk_cell BK399.out 3).trans rfl
                    have hfz56_0 := blk_frozen BK399.out 0
                    have hfz56_1 := blk_frozen BK399.out 1
                    have hfz56_2 := blk_frozen BK399.out 2
                    have hfz56_3 := blk_frozen BK399.out 3
                    go_wp2_with (first | (with_reducible refine rounds_step ?_) | (refine wp_loop_rounds 9 ?_))
                    go_meet
                    case rel => exact ⟨_, (2), (by first | rfl | (simp; done) | (simp [*]; done)), H', ⟨by first | omega | exact Nat.le_refl _⟩, ⟨by (with_reducible repeat (first | refine blk_drewN ?_ _ | refine blk_drew ?_ | refine blk_alloc ?_ _)); refine blk_far ?_ NB393_399.out _; (with_reducible repeat (first | refine blk_drewN ?_ _ | refine blk_drew ?_ | refine blk_alloc ?_ _)); refine blk_far ?_ NB393_399.out _; (with_reducible repeat (first | refine blk_drewN ?_ _ | refine blk_drew ?_ | refine blk_alloc ?_ _)); refine blk_far ?_ NB393_399.out _; (with_reducible repeat (first | refine blk_drewN ?_ _ | refine blk_drew ?_ | refine blk_alloc ?_ _)); refine blk_far ?_ NB393_399.out _; (with_reducible repeat (first | refine blk_drewN ?_ _ | refine blk_drew ?_ | refine blk_alloc ?_ _)); exact BK393.out⟩, ⟨by (with_reducible repeat (first | refine blk_drewN ?_ _ | refine blk_drew ?_ | refine blk_alloc ?_ _)); refine blk_put (cs := #[.bool t395, .bool t396, .bool t397, .bool false]) ?_ 3 _ rfl; (with_reducible repeat (first | refine blk_drewN ?_ _ | refine blk_drew ?_ | refine blk_alloc ?_ _)); refine blk_put (cs := #[.bool t395, .bool t396, .bool false, .bool false]) ?_ 2 _ rfl; (with_reducible repeat (first | refine blk_drewN ?_ _ | refine blk_drew ?_ | refine blk_alloc ?_ _)); refine blk_put (cs := #[.bool t395, .bool false, .bool false, .bool false]) ?_ 1 _ rfl; (with_reducible repeat (first | refine blk_drewN ?_ _ | refine blk_drew ?_ | refine blk_alloc ?_ _)); refine blk_put (cs := #[.bool false, .bool false, .bool false, .bool false]) ?_ 0 _ rfl; (with_reducible repeat (first | refine blk_drewN ?_ _ | refine blk_drew ?_ | refine blk_alloc ?_ _)); exact BK399.out⟩, ⟨by repeat (first | (with_reducible first | exact HB.out | apply below_alloc | apply pw_below_drewN | apply below_drew1 | refine below_set ?_ GE393.out | refine below_set ?_ GE399.out) | exact HB.out)⟩⟩
          · rw [if_neg c29] at H
            have c29b0 : (t396 == a0) = false := by simpa using c29
            (try (have c29b1 : decide (t396 = a0) = false := by simpa using c29))
            (try (have c29b2 : (t396 == a0) = false := by simpa using c29))
            (try (have c29b3 : ¬ (t396 = a0) := by simpa using c29))
            clear c29
            by_cases c57 : (t391 != a0) = true
            · rw [if_pos c57] at H
              have c57b0 : (t391 != a0) = true := c57
              (try (have c57b1 : decide (t391 = a0) = false := by simpa using c57))
              (try (have c57b2 : (t391 == a0) = false := by simpa using c57))
              (try (have c57b3 : ¬ (t391 = a0) := by simpa using c57))
              (try (have c57b4 : (!(t391 == a0)) = true := by have h_ := c57; simp only [bne] at h_; first | exact h_ | simpa using h_))
              clear c57
              obtain rfl := Option.some.inj H
              have hnb58 := NB393_399.out
              have hnc58 := NB399_393.out
              have hcz59_0 : w18.cell? ⟨gb393, 0, none⟩ = some (.bool t389) := (blk_cell BK393.out 0).trans rfl
              have hcz59_1 : w18.cell? ⟨gb393, 1, none⟩ = some (.bool t390) := (blk_cell BK393.out 1).trans rfl
              have hcz59_2 : w18.cell? ⟨gb393, 2, none⟩ = some (.bool t391) := (blk_cell BK393.out 2).trans rfl
              have hcz59_3 : w18.cell? ⟨gb393, 3, none⟩ = some (.bool t392) := (blk_cell BK393.out 3).trans rfl
              have hfz59_0 := blk_frozen BK393.out 0
              have hfz59_1 := blk_frozen BK393.out 1
              have hfz59_2 := blk_frozen BK393.out 2
              have hfz59_3 := blk_frozen BK393.out 3
              have hcz60_0 : w18.cell? ⟨gb399, 0, none⟩ = some (.bool false) := (blk_cell BK399.out 0).trans rfl
              have hcz60_1 : w18.cell? ⟨gb399, 1, none⟩ = some (.bool false) := (blk_cell BK399.out 1).trans rfl
              have hcz60_2 : w18.cell? ⟨gb399, 2, none⟩ = some (.bool false) := (blk_cell BK399.out 2).trans rfl
              have hcz60_3 : w18.cell? ⟨gb399, 3, none⟩ = some (.bool false) := (blk_cell BK399.out 3).trans rfl
              have hfz60_0 := blk_frozen BK399.out 0
              have hfz60_1 := blk_frozen BK399.out 1
              have hfz60_2 := blk_frozen BK399.out 2
              have hfz60_3 := blk_frozen BK399.out 3
              go_wp2_with (first | (with_reducible refine rounds_step ?_) | (refine wp_loop_rounds 9 ?_))
              go_ret
              exact ⟨by first | rfl | (simp [errW_none, errW_some] <;> rfl) | (simp [*, errW_none, errW_some] <;> rfl), by repeat (first | (with_reducible first | exact HB.out | apply below_alloc | apply pw_below_drewN | apply below_drew1 | refine below_set ?_ GE393.out | refine below_set ?_ GE399.out) | exact HB.out)⟩
            · rw [if_neg c57] at H
              have c57b0 : (t391 != a0) = false := by simpa using c57
              (try (have c57b1 : decide (t391 = a0) = true := by simpa using c57))
              (try (have c57b2 : (t391 == a0) = true := by simpa using c57))
              (try (have c57b3 : (!(t391 == a0)) = false := by have h_ := c57; simp only [bne] at h_; first | exact h_ | simpa using h_))
              clear c57
              by_cases c61 : (t397 == a0) = true
              · rw [if_pos c61] at H
                have c61b0 : (t397 == a0) = true := c61
                (try (have c61b1 : decide (t397 = a0) = true := by simpa using c61))
                (try (have c61b2 : (t397 == a0) = true := by simpa using c61))
                clear c61
                by_cases c62 : (t392 != a0) = true
                · rw [if_pos c62] at H
                  have c62b0 : (t392 != a0) = true := c62
                  (try (have c62b1 : decide (t392 = a0) = false := by simpa using c62))
                  (try (have c62b2 : (t392 == a0) = false := by simpa using c62))
                  (try (have c62b3 : ¬ (t392 = a0) := by simpa using c62))
                  (try (have c62b4 : (!(t392 == a0)) = true := by have h_ := c62; simp only [bne] at h_; first | exact h_ | simpa using h_))
                  clear c62
                  obtain rfl := Option.some.inj H
                  have hnb63 := NB393_399.out
                  have hnc63 := NB399_393.out
                  have hcz64_0 : w18.cell? ⟨gb393, 0, none⟩ = some (.bool t389) := (blk_cell BK393.out 0).trans rfl
                  have hcz64_1 : w18.cell? ⟨gb393, 1, none⟩ = some (.bool t390) := (blk_cell BK393.out 1).trans rfl
                  have hcz64_2 : w18.cell? ⟨gb393, 2, none⟩ = some (.bool t391) := (blk_cell BK393.out 2).trans rfl
                  have hcz64_3 : w18.cell? ⟨gb393, 3, none⟩ = some (.bool t392) := (blk_cell BK393.out 3).trans rfl
                  have hfz64_0 := blk_frozen BK393.out 0
                  have hfz64_1 := blk_frozen BK393.out 1
                  have hfz64_2 := blk_frozen BK393.out 2
                  have hfz64_3 := blk_frozen BK393.out 3
                  have hcz65_0 : w18.cell? ⟨gb399, 0, none⟩ = some (.bool false) := (blk_cell BK399.out 0).trans rfl
                  have hcz65_1 : w18.cell? ⟨gb399, 1, none⟩ = some (.bool false) := (blk_cell BK399.out 1).trans rfl
                  have hcz65_2 : w18.cell? ⟨gb399, 2, none⟩ = some (.bool false) := (blk_cell BK399.out 2).trans rfl
                  have hcz65_3 : w18.cell? ⟨gb399, 3, none⟩ = some (.bool false) := (blk_cell BK399.out 3).trans rfl
                  have hfz65_0 := blk_frozen BK399.out 0
                  have hfz65_1 := blk_frozen BK399.out 1
                  have hfz65_2 := blk_frozen BK399.out 2
                  have hfz65_3 := blk_frozen BK399.out 3
                  go_wp2_with (first | (with_reducible refine rounds_step ?_) | (refine wp_loop_rounds 9 ?_))
                  go_ret
                  exact ⟨by first | rfl | (simp [errW_none, errW_some] <;> rfl) | (simp [*, errW_none, errW_some] <;> rfl), by repeat (first | (with_reducible first | exact HB.out | apply below_alloc | apply pw_below_drewN | apply below_drew1 | refine below_set ?_ GE393.out | refine below_set ?_ GE399.out) | exact HB.out)⟩
                · rw [if_neg c62] at H
                  have c62b0 : (t392 != a0) = false := by simpa using c62
                  (try (have c62b1 : decide (t392 = a0) = true := by simpa using c62))
                  (try (have c62b2 : (t392 == a0) = true := by simpa using c62))
                  (try (have c62b3 : (!(t392 == a0)) = false := by have h_ := c62; simp only [bne] at h_; first | exact h_ | simpa using h_))
                  clear c62
                  by_cases c66 : (t398 == a0) = true
                  · rw [if_pos c66] at H
                    have c66b0 : (t398 == a0) = true := c66
                    (try (have c66b1 : decide (t398 = a0) = true := by simpa using c66))
                    (try (have c66b2 : (t398 == a0) = true := by simpa using c66))
                    clear c66
                    have H' := Aside0.mk H
                    clear H
                    have hnb67 := NB393_399.out
                    have hnc67 := NB399_393.out
                    have hcz68_0 : w18.cell? ⟨gb393, 0, none⟩ = some (.bool t389) := (blk_cell BK393.out 0).trans rfl
                    have hcz68_1 : w18.cell? ⟨gb393, 1, none⟩ = some (.bool t390) := (blk_cell BK393.out 1).trans rfl
                    have hcz68_2 : w18.cell? ⟨gb393, 2, none⟩ = some (.bool t391) := (blk_cell BK393.out 2).trans rfl
                    have hcz68_3 : w18.cell? ⟨gb393, 3, none⟩ = some (.bool t392) := (blk_cell BK393.out 3).trans rfl
                    have hfz68_0 := blk_frozen BK393.out 0
                    have hfz68_1 := blk_frozen BK393.out 1
                    have hfz68_2 := blk_frozen BK393.out 2
                    have hfz68_3 := blk_frozen BK393.out 3
                    have hcz69_0 : w18.cell? ⟨gb399, 0, none⟩ = some (.bool false) := (blk_cell BK399.out 0).trans rfl
                    have hcz69_1 : w18.cell? ⟨gb399, 1, none⟩ = some (.bool false) := (blk_cell BK399.out 1).trans rfl
                    have hcz69_2 : w18.cell? ⟨gb399, 2, none⟩ = some (.bool false) := (blk_cell BK399.out 2).trans rfl
                    have hcz69_3 : w18.cell? ⟨gb399, 3, none⟩ = some (.bool false) := (blk_cell BK399.out 3).trans rfl
                    have hfz69_0 := blk_frozen BK399.out 0
                    have hfz69_1 := blk_frozen BK399.out 1
                    have hfz69_2 := blk_frozen BK399.out 2
                    have hfz69_3 := blk_frozen BK399.out 3
                    go_wp2_with (first | (with_reducible refine rounds_step ?_) | (refine wp_loop_rounds 9 ?_))
                    go_meet
                    case rel => exact ⟨_, (3), (by first | rfl | (simp; done) | (simp [*]; done)), H', ⟨by first | omega | exact Nat.le_refl _⟩, ⟨by (with_reducible repeat (first | refine blk_drewN ?_ _ | refine blk_drew ?_ | refine blk_alloc ?_ _)); refine blk_far ?_ NB393_399.out _; (with_reducible repeat (first | refine blk_drewN ?_ _ | refine blk_drew ?_ | refine blk_alloc ?_ _)); refine blk_far ?_ NB393_399.out _; (with_reducible repeat (first | refine blk_drewN ?_ _ | refine blk_drew ?_ | refine blk_alloc ?_ _)); refine blk_far ?_ NB393_399.out _; (with_reducible repeat (first | refine blk_drewN ?_ _ | refine blk_drew ?_ | refine blk_alloc ?_ _)); refine blk_far ?_ NB393_399.out _; (with_reducible repeat (first | refine blk_drewN ?_ _ | refine blk_drew ?_ | refine blk_alloc ?_ _)); exact BK393.out⟩, ⟨by (with_reducible repeat (first | refine blk_drewN ?_ _ | refine blk_drew ?_ | refine blk_alloc ?_ _)); refine blk_put (cs := #[.bool t395, .bool t396, .bool t397, .bool false]) ?_ 3 _ rfl; (with_reducible repeat (first | refine blk_drewN ?_ _ | refine blk_drew ?_ | refine blk_alloc ?_ _)); refine blk_put (cs := #[.bool t395, .bool t396, .bool false, .bool false]) ?_ 2 _ rfl; (with_reducible repeat (first | refine blk_drewN ?_ _ | refine blk_drew ?_ | refine blk_alloc ?_ _)); refine blk_put (cs := #[.bool t395, .bool false, .bool false, .bool false]) ?_ 1 _ rfl; (with_reducible repeat (first | refine blk_drewN ?_ _ | refine blk_drew ?_ | refine blk_alloc ?_ _)); refine blk_put (cs := #[.bool false, .bool false, .bool false, .bool false]) ?_ 0 _ rfl; (with_reducible repeat (first | refine blk_drewN ?_ _ | refine blk_drew ?_ | refine blk_alloc ?_ _)); exact BK399.out⟩, ⟨by repeat (first | (with_reducible first | exact HB.out | apply below_alloc | apply pw_below_drewN | apply below_drew1 | refine below_set ?_ GE393.out | refine below_set ?_ GE399.out) | exact HB.out)⟩⟩
                  · rw [if_neg c66] at H
                    have c66b0 : (t398 == a0) = false := by simpa using c66
                    (try (have c66b1 : decide (t398 = a0) = false := by simpa using c66))
                    (try (have c66b2 : (t398 == a0) = false := by simpa using c66))
                    (try (have c66b3 : ¬ (t398 = a0) := by simpa using c66))
                    clear c66
                    have H' := Aside0.mk H
                    clear H
                    have hnb70 := NB393_399.out
                    have hnc70 := NB399_393.out
                    have hcz71_0 : w18.cell? ⟨gb393, 0, none⟩ = some (.bool t389) := (blk_cell BK393.out 0).trans rfl
                    have hcz71_1 : w18.cell? ⟨gb393, 1, none⟩ = some (.bool t390) := (blk_cell BK393.out 1).trans rfl
                    have hcz71_2 : w18.cell? ⟨gb393, 2, none⟩ = some (.bool t391) := (blk_cell BK393.out 2).trans rfl
                    have hcz71_3 : w18.cell? ⟨gb393, 3, none⟩ = some (.bool t392) := (blk_cell BK393.out 3).trans rfl
                    have hfz71_0 := blk_frozen BK393.out 0
                    have hfz71_1 := blk_frozen BK393.out 1
                    have hfz71_2 := blk_frozen BK393.out 2
                    have hfz71_3 := blk_frozen BK393.out 3
                    have hcz72_0 : w18.cell? ⟨gb399, 0, none⟩ = some (.bool false) := (blk_cell BK399.out 0).trans rfl
                    have hcz72_1 : w18.cell? ⟨gb399, 1, none⟩ = some (.bool false) := (blk_cell BK399.out 1).trans rfl
                    have hcz72_2 : w18.cell? ⟨gb399, 2, none⟩ = some (.bool false) := (blk_cell BK399.out 2).trans rfl
                    have hcz72_3 : w18.cell? ⟨gb399, 3, none⟩ = some (.bool false) := (blk_cell BK399.out 3).trans rfl
                    have hfz72_0 := blk_frozen BK399.out 0
                    have hfz72_1 := blk_frozen BK399.out 1
                    have hfz72_2 := blk_frozen BK399.out 2
                    have hfz72_3 := blk_frozen BK399.out 3
                    go_wp2_with (first | (with_reducible refine rounds_step ?_) | (refine wp_loop_rounds 9 ?_))
                    go_meet
                    case rel => exact ⟨_, (2), (by first | rfl | (simp; done) | (simp [*]; done)), H', ⟨by first | omega | exact Nat.le_refl _⟩, ⟨by (with_reducible repeat (first | refine blk_drewN ?_ _ | refine blk_drew ?_ | refine blk_alloc ?_ _)); refine blk_far ?_ NB393_399.out _; (with_reducible repeat (first | refine blk_drewN ?_ _ | refine blk_drew ?_ | refine blk_alloc ?_ _)); refine blk_far ?_ NB393_399.out _; (with_reducible repeat (first | refine blk_drewN ?_ _ | refine blk_drew ?_ | refine blk_alloc ?_ _)); refine blk_far ?_ NB393_399.out _; (with_reducible repeat (first | refine blk_drewN ?_ _ | refine blk_drew ?_ | refine blk_alloc ?_ _)); refine blk_far ?_ NB393_399.out _; (with_reducible repeat (first | refine blk_drewN ?_ _ | refine blk_drew ?_ | refine blk_alloc ?_ _)); exact BK393.out⟩, ⟨by (with_reducible repeat (first | refine blk_drewN ?_ _ | refine blk_drew ?_ | refine blk_alloc ?_ _)); refine blk_put (cs := #[.bool t395, .bool t396, .bool t397, .bool false]) ?_ 3 _ rfl; (with_reducible repeat (first | refine blk_drewN ?_ _ | refine blk_drew ?_ | refine blk_alloc ?_ _)); refine blk_put (cs := #[.bool t395, .bool t396, .bool false, .bool false]) ?_ 2 _ rfl; (with_reducible repeat (first | refine blk_drewN ?_ _ | refine blk_drew ?_ | refine blk_alloc ?_ _)); refine blk_put (cs := #[.bool t395, .bool false, .bool false, .bool false]) ?_ 1 _ rfl; (with_reducible repeat (first | refine blk_drewN ?_ _ | refine blk_drew ?_ | refine blk_alloc ?_ _)); refine blk_put (cs := #[.bool false, .bool false, .bool false, .bool false]) ?_ 0 _ rfl; (with_reducible repeat (first | refine blk_drewN ?_ _ | refine blk_drew ?_ | refine blk_alloc ?_ _)); exact BK399.out⟩, ⟨by repeat (first | (with_reducible first | exact HB.out | apply below_alloc | apply pw_below_drewN | apply below_drew1 | refine below_set ?_ GE393.out | refine below_set ?_ GE399.out) | exact HB.out)⟩⟩
              · rw [if_neg c61] at H
                have c61b0 : (t397 == a0) = false := by simpa using c61
                (try (have c61b1 : decide (t397 = a0) = false := by simpa using c61))
                (try (have c61b2 : (t397 == a0) = false := by simpa using c61))
                (try (have c61b3 : ¬ (t397 = a0) := by simpa using c61))
                clear c61
                by_cases c73 : (t392 != a0) = true
                · rw [if_pos c73] at H
                  have c73b0 : (t392 != a0) = true := c73
                  (try (have c73b1 : decide (t392 = a0) = false := by simpa using c73))
                  (try (have c73b2 : (t392 == a0) = false := by simpa using c73))
                  (try (have c73b3 : ¬ (t392 = a0) := by simpa using c73))
                  (try (have c73b4 : (!(t392 == a0)) = true := by have h_ := c73; simp only [bne] at h_; first | exact h_ | simpa using h_))
                  clear c73
                  obtain rfl := Option.some.inj H
                  have hnb74 := NB393_399.out
                  have hnc74 := NB399_393.out
                  have hcz75_0 : w18.cell? ⟨gb393, 0, none⟩ = some (.bool t389) := (blk_cell BK393.out 0).trans rfl
                  have hcz75_1 : w18.cell? ⟨gb393, 1, none⟩ = some (.bool t390) := (blk_cell BK393.out 1).trans rfl
                  have hcz75_2 : w18.cell? ⟨gb393, 2, none⟩ = some (.bool t391) := (blk_cell BK393.out 2).trans rfl
                  have hcz75_3 : w18.cell? ⟨gb393, 3, none⟩ = some (.bool t392) := (blk_cell BK393.out 3).trans rfl
                  have hfz75_0 := blk_frozen BK393.out 0
                  have hfz75_1 := blk_frozen BK393.out 1
                  have hfz75_2 := blk_frozen BK393.out 2
                  have hfz75_3 := blk_frozen BK393.out 3
                  have hcz76_0 : w18.cell? ⟨gb399, 0, none⟩ = some (.bool false) := (blk_cell BK399.out 0).trans rfl
                  have hcz76_1 : w18.cell? ⟨gb399, 1, none⟩ = some (.bool false) := (blk_cell BK399.out 1).trans rfl
                  have hcz76_2 : w18.cell? ⟨gb399, 2, none⟩ = some (.bool false) := (blk_cell BK399.out 2).trans rfl
                  have hcz76_3 : w18.cell? ⟨gb399, 3, none⟩ = some (.bool false) := (blk_cell BK399.out 3).trans rfl
                  have hfz76_0 := blk_frozen BK399.out 0
                  have hfz76_1 := blk_frozen BK399.out 1
                  have hfz76_2 := blk_frozen BK399.out 2
                  have hfz76_3 := blk_frozen BK399.out 3
                  go_wp2_with (first | (with_reducible refine rounds_step ?_) | (refine wp_loop_rounds 9 ?_))
                  go_ret
                  exact ⟨by first | rfl | (simp [errW_none, errW_some] <;> rfl) | (simp [*, errW_none, errW_some] <;> rfl), by repeat (first | (with_reducible first | exact HB.out | apply below_alloc | apply pw_below_drewN | apply below_drew1 | refine below_set ?_ GE393.out | refine below_set ?_ GE399.out) | exact HB.out)⟩
                · rw [if_neg c73] at H
                  have c73b0 : (t392 != a0) = false := by simpa using c73
                  (try (have c73b1 : decide (t392 = a0) = true := by simpa using c73))
                  (try (have c73b2 : (t392 == a0) = true := by simpa using c73))
                  (try (have c73b3 : (!(t392 == a0)) = false := by have h_ := c73; simp only [bne] at h_; first | exact h_ | simpa using h_))
                  clear c73
                  by_cases c77 : (t398 == a0) = true
                  · rw [if_pos c77] at H
                    have c77b0 : (t398 == a0) = true := c77
                    (try (have c77b1 : decide (t398 = a0) = true := by simpa using c77))
                    (try (have c77b2 : (t398 == a0) = true := by simpa using c77))
                    clear c77
                    have H' := Aside0.mk H
                    clear H
                    have hnb78 := NB393_399.out
                    have hnc78 := NB399_393.out
                    have hcz79_0 : w18.cell? ⟨gb393, 0, none⟩ = some (.bool t389) := (blk_cell BK393.out 0).trans rfl
                    have hcz79_1 : w18.cell? ⟨gb393, 1, none⟩ = some (.bool t390) := (blk_cell BK393.out 1).trans rfl
                    have hcz79_2 : w18.cell? ⟨gb393, 2, none⟩ = some (.bool t391) := (blk_cell BK393.out 2).trans rfl
                    have hcz79_3 : w18.cell? ⟨gb393, 3, none⟩ = some (.bool t392) := (blk_cell BK393.out 3).trans rfl
                    have hfz79_0 := blk_frozen BK393.out 0
                    have hfz79_1 := blk_frozen BK393.out 1
                    have hfz79_2 := blk_frozen BK393.out 2
                    have hfz79_3 := blk_frozen BK393.out 3
                    have hcz80_0 : w18.cell? ⟨gb399, 0, none⟩ = some (.bool false) := (blk_cell BK399.out 0).trans rfl
                    have hcz80_1 : w18.cell? ⟨gb399, 1, none⟩ = some (.bool false) := (blk_cell BK399.out 1).trans rfl
                    have hcz80_2 : w18.cell? ⟨gb399, 2, none⟩ = some (.bool false) := (blk_cell BK399.out 2).trans rfl
                    have hcz80_3 : w18.cell? ⟨gb399, 3, none⟩ = some (.bool false) := (blk_cell BK399.out 3).trans rfl
                    have hfz80_0 := blk_frozen BK399.out 0
                    have hfz80_1 := blk_frozen BK399.out 1
                    have hfz80_2 := blk_frozen BK399.out 2
                    have hfz80_3 := blk_frozen BK399.out 3
                    go_wp2_with (first | (with_reducible refine rounds_step ?_) | (refine wp_loop_rounds 9 ?_))
                    go_meet
                    case rel => exact ⟨_, (2), (by first | rfl | (simp; done) | (simp [*]; done)), H', ⟨by first | omega | exact Nat.le_refl _⟩, ⟨by (with_reducible repeat (first | refine blk_drewN ?_ _ | refine blk_drew ?_ | refine blk_alloc ?_ _)); refine blk_far ?_ NB393_399.out _; (with_reducible repeat (first | refine blk_drewN ?_ _ | refine blk_drew ?_ | refine blk_alloc ?_ _)); refine blk_far ?_ NB393_399.out _; (with_reducible repeat (first | refine blk_drewN ?_ _ | refine blk_drew ?_ | refine blk_alloc ?_ _)); refine blk_far ?_ NB393_399.out _; (with_reducible repeat (first | refine blk_drewN ?_ _ | refine blk_drew ?_ | refine blk_alloc ?_ _)); refine blk_far ?_ NB393_399.out _; (with_reducible repeat (first | refine blk_drewN ?_ _ | refine blk_drew ?_ | refine blk_alloc ?_ _)); exact BK393.out⟩, ⟨by (with_reducible repeat (first | refine blk_drewN ?_ _ | refine blk_drew ?_ | refine blk_alloc ?_ _)); refine blk_put (cs := #[.bool t395, .bool t396, .bool t397, .bool false]) ?_ 3 _ rfl; (with_reducible repeat (first | refine blk_drewN ?_ _ | refine blk_drew ?_ | refine blk_alloc ?_ _)); refine blk_put (cs := #[.bool t395, .bool t396, .bool false, .bool false]) ?_ 2 _ rfl; (with_reducible repeat (first | refine blk_drewN ?_ _ | refine blk_drew ?_ | refine blk_alloc ?_ _)); refine blk_put (cs := #[.bool t395, .bool false, .bool false, .bool false]) ?_ 1 _ rfl; (with_reducible repeat (first | refine blk_drewN ?_ _ | refine blk_drew ?_ | refine blk_alloc ?_ _)); refine blk_put (cs := #[.bool false, .bool false, .bool false, .bool false]) ?_ 0 _ rfl; (with_reducible repeat (first | refine blk_drewN ?_ _ | refine blk_drew ?_ | refine blk_alloc ?_ _)); exact BK399.out⟩, ⟨by repeat (first | (with_reducible first | exact HB.out | apply below_alloc | apply pw_below_drewN | apply below_drew1 | refine below_set ?_ GE393.out | refine below_set ?_ GE399.out) | exact HB.out)⟩⟩
                  · rw [if_neg c77] at H
                    have c77b0 : (t398 == a0) = false := by simpa using c77
                    (try (have c77b1 : decide (t398 = a0) = false := by simpa using c77))
                    (try (have c77b2 : (t398 == a0) = false := by simpa using c77))
                    (try (have c77b3 : ¬ (t398 = a0) := by simpa using c77))
                    clear c77
                    have H' := Aside0.mk H
                    clear H
                    have hnb81 := NB393_399.out
                    have hnc81 := NB399_393.out
                    have hcz82_0 : w18.cell? ⟨gb393, 0, none⟩ = some (.bool t389) := (blk_cell BK393.out 0).trans rfl
                    have hcz82_1 : w18.cell? ⟨gb393, 1, none⟩ = some (.bool t390) := (blk_cell BK393.out 1).trans rfl
                    have hcz82_2 : w18.cell? ⟨gb393, 2, none⟩ = some (.bool t391) := (blk_cell BK393.out 2).trans rfl
                    have hcz82_3 : w18.cell? ⟨gb393, 3, none⟩ = some (.bool t392) := (blk_cell BK393.out 3).trans rfl
                    have hfz82_0 := blk_frozen BK393.out 0
                    have hfz82_1 := blk_frozen BK393.out 1
                    have hfz82_2 := blk_frozen BK393.out 2
                    have hfz82_3 := blk_frozen BK393.out 3
                    have hcz83_0 : w18.cell? ⟨gb399, 0, none⟩ = some (.bool false) := (blk_cell BK399.out 0).trans rfl
                    have hcz83_1 : w18.cell? ⟨gb399, 1, none⟩ = some (.bool false) := (blk_cell BK399.out 1).trans rfl
                    have hcz83_2 : w18.cell? ⟨gb399, 2, none⟩ = some (.bool false) := (blk_cell BK399.out 2).trans rfl
                    have hcz83_3 : w18.cell? ⟨gb399, 3, none⟩ = some (.bool false) := (blk_cell BK399.out 3).trans rfl
                    have hfz83_0 := blk_frozen BK399.out 0
                    have hfz83_1 := blk_frozen BK399.out 1
                    have hfz83_2 := blk_frozen BK399.out 2
                    have hfz83_3 := blk_frozen BK399.out 3
                    go_wp2_with (first | (with_reducible refine rounds_step ?_) | (refine wp_loop_rounds 9 ?_))
                    go_meet
                    case rel => exact ⟨_, (1), (by first | rfl | (simp; done) | (simp [*]; done)), H', ⟨by first | omega | exact Nat.le_refl _⟩, ⟨by (with_reducible repeat (first | refine blk_drewN ?_ _ | refine blk_drew ?_ | refine blk_alloc ?_ _)); refine blk_far ?_ NB393_399.out _; (with_reducible repeat (first | refine blk_drewN ?_ _ | refine blk_drew ?_ | refine blk_alloc ?_ _)); refine blk_far ?_ NB393_399.out _; (with_reducible repeat (first | refine blk_drewN ?_ _ | refine blk_drew ?_ | refine blk_alloc ?_ _)); refine blk_far ?_ NB393_399.out _; (with_reducible repeat (first | refine blk_drewN ?_ _ | refine blk_drew ?_ | refine blk_alloc ?_ _)); refine blk_far ?_ NB393_399.out _; (with_reducible repeat (first | refine blk_drewN ?_ _ | refine blk_drew ?_ | refine blk_alloc ?_ _)); exact BK393.out⟩, ⟨by (with_reducible repeat (first | refine blk_drewN ?_ _ | refine blk_drew ?_ | refine blk_alloc ?_ _)); refine blk_put (cs := #[.bool t395, .bool t396, .bool t397, .bool false]) ?_ 3 _ rfl; (with_reducible repeat (first | refine blk_drewN ?_ _ | refine blk_drew ?_ | refine blk_alloc ?_ _)); refine blk_put (cs := #[.bool t395, .bool t396, .bool false, .bool false]) ?_ 2 _ rfl; (with_reducible repeat (first | refine blk_drewN ?_ _ | refine blk_drew ?_ | refine blk_alloc ?_ _)); refine blk_put (cs := #[.bool t395, .bool false, .bool false, .bool false]) ?_ 1 _ rfl; (with_reducible repeat (first | refine blk_drewN ?_ _ | refine blk_drew ?_ | refine blk_alloc ?_ _)); refine blk_put (cs := #[.bool false, .bool false, .bool false, .bool false]) ?_ 0 _ rfl; (with_reducible repeat (first | refine blk_drewN ?_ _ | refine blk_drew ?_ | refine blk_alloc ?_ _)); exact BK399.out⟩, ⟨by repeat (first | (with_reducible first | exact HB.out | apply below_alloc | apply pw_below_drewN | apply below_drew1 | refine below_set ?_ GE393.out | refine below_set ?_ GE399.out) | exact HB.out)⟩⟩
      · rw [if_neg c24] at H
        have c24b0 : (t395 == a0) = false := by simpa using c24
        (try (have c24b1 : decide (t395 = a0) = false := by simpa using c24))
        (try (have c24b2 : (t395 == a0) = false := by simpa using c24))
        (try (have c24b3 : ¬ (t395 = a0) := by simpa using c24))
        clear c24
        by_cases c84 : (t390 != a0) = true
        · rw [if_pos c84] at H
          have c84b0 : (t390 != a0) = true := c84
          (try (have c84b1 : decide (t390 = a0) = false := by simpa using c84))
          (try (have c84b2 : (t390 == a0) = false := by simpa using c84))
          (try (have c84b3 : ¬ (t390 = a0) := by simpa using c84))
          (try (have c84b4 : (!(t390 == a0)) = true := by have h_ := c84; simp only [bne] at h_; first | exact h_ | simpa using h_))
          clear c84
          obtain rfl := Option.some.inj H
          have hnb85 := NB393_399.out
          have hnc85 := NB399_393.out
          have hcz86_0 : w18.cell? ⟨gb393, 0, none⟩ = some (.bool t389) := (blk_cell BK393.out 0).trans rfl
          have hcz86_1 : w18.cell? ⟨gb393, 1, none⟩ = some (.bool t390) := (blk_cell BK393.out 1).trans rfl
          have hcz86_2 : w18.cell? ⟨gb393, 2, none⟩ = some (.bool t391) := (blk_cell BK393.out 2).trans rfl
          have hcz86_3 : w18.cell? ⟨gb393, 3, none⟩ = some (.bool t392) := (blk_cell BK393.out 3).trans rfl
          have hfz86_0 := blk_frozen BK393.out 0
          have hfz86_1 := blk_frozen BK393.out 1
          have hfz86_2 := blk_frozen BK393.out 2
          have hfz86_3 := blk_frozen BK393.out 3
          have hcz87_0 : w18.cell? ⟨gb399, 0, none⟩ = some (.bool false) := (blk_cell BK399.out 0).trans rfl
          have hcz87_1 : w18.cell? ⟨gb399, 1, none⟩ = some (.bool false) := (blk_cell BK399.out 1).trans rfl
          have hcz87_2 : w18.cell? ⟨gb399, 2, none⟩ = some (.bool false) := (blk_cell BK399.out 2).trans rfl
          have hcz87_3 : w18.cell? ⟨gb399, 3, none⟩ = some (.bool false) := (blk_cell BK399.out 3).trans rfl
          have hfz87_0 := blk_frozen BK399.out 0
          have hfz87_1 := blk_frozen BK399.out 1
          have hfz87_2 := blk_frozen BK399.out 2
          have hfz87_3 := blk_frozen BK399.out 3
          go_wp2_with (first | (with_reducible refine rounds_step ?_) | (refine wp_loop_rounds 9 ?_))
          go_ret
          exact ⟨by first | rfl | (simp [errW_none, errW_some] <;> rfl) | (simp [*, errW_none, errW_some] <;> rfl), by repeat (first | (with_reducible first | exact HB.out | apply below_alloc | apply pw_below_drewN | apply below_drew1 | refine below_set ?_ GE393.out | refine below_set ?_ GE399.out) | exact HB.out)⟩
        · rw [if_neg c84] at H
          have c84b0 : (t390 != a0) = false := by simpa using c84
          (try (have c84b1 : decide (t390 = a0) = true := by simpa using c84))
          (try (have c84b2 : (t390 == a0) = true := by simpa using c84))
          (try (have c84b3 : (!(t390 == a0)) = false := by have h_ := c84; simp only [bne] at h_; first | exact h_ | simpa using h_))
          clear c84
          by_cases c88 : (t396 == a0) = true
          · rw [if_pos c88] at H
            have c88b0 : (t396 == a0) = true := c88
            (try (have c88b1 : decide (t396 = a0) = true := by simpa using c88))
            (try (have c88b2 : (t396 == a0) = true := by simpa using c88))
            clear c88
            by_cases c89 : (t391 != a0) = true
            · rw [if_pos c89] at H
              have c89b0 : (t391 != a0) = true := c89
              (try (have c89b1 : decide (t391 = a0) = false := by simpa using c89))
              (try (have c89b2 : (t391 == a0) = false := by simpa using c89))
              (try (have c89b3 : ¬ (t391 = a0) := by simpa using c89))
              (try (have c89b4 : (!(t391 == a0)) = true := by have h_ := c89; simp only [bne] at h_; first | exact h_ | simpa using h_))
              clear c89
              obtain rfl := Option.some.inj H
              have hnb90 := NB393_399.out
              have hnc90 := NB399_393.out
              have hcz91_0 : w18.cell? ⟨gb393, 0, none⟩ = some (.bool t389) := (blk_cell BK393.out 0).trans rfl
              have hcz91_1 : w18.cell? ⟨gb393, 1, none⟩ = some (.bool t390) := (blk_cell BK393.out 1).trans rfl
              have hcz91_2 : w18.cell? ⟨gb393, 2, none⟩ = some (.bool t391) := (blk_cell BK393.out 2).trans rfl
              have hcz91_3 : w18.cell? ⟨gb393, 3, none⟩ = some (.bool t392) := (blk_cell BK393.out 3).trans rfl
              have hfz91_0 := blk_frozen BK393.out 0
              have hfz91_1 := blk_frozen BK393.out 1
              have hfz91_2 := blk_frozen BK393.out 2
              have hfz91_3 := blk_frozen BK393.out 3
              have hcz92_0 : w18.cell? ⟨gb399, 0, none⟩ = some (.bool false) := (blk_cell BK399.out 0).trans rfl
              have hcz92_1 : w18.cell? ⟨gb399, 1, none⟩ = some (.bool false) := (blk_cell BK399.out 1).trans rfl
              have hcz92_2 : w18.cell? ⟨gb399, 2, none⟩ = some (.bool false) := (blk_cell BK399.out 2).trans rfl
              have hcz92_3 : w18.cell? ⟨gb399, 3, none⟩ = some (.bool false) := (blk_cell BK399.out 3).trans rfl
              have hfz92_0 := blk_frozen BK399.out 0
              have hfz92_1 := blk_frozen BK399.out 1
              have hfz92_2 := blk_frozen BK399.out 2
              have hfz92_3 := blk_frozen BK399.out 3
              go_wp2_with (first | (with_reducible refine rounds_step ?_) | (refine wp_loop_rounds 9 ?_))
              go_ret
              exact ⟨by first | rfl | (simp [errW_none, errW_some] <;> rfl) | (simp [*, errW_none, errW_some] <;> rfl), by repeat (first | (with_reducible first | exact HB.out | apply below_alloc | apply pw_below_drewN | apply below_drew1 | refine below_set ?_ GE393.out | refine below_set ?_ GE399.out) | exact HB.out)⟩
            · rw [if_neg c89] at H
              have c89b0 : (t391 != a0) = false := by simpa using c89
              (try (have c89b1 : decide (t391 = a0) = true := by simpa using c89))
              (try (have c89b2 : (t391 == a0) = true := by simpa using c89))
              (try (have c89b3 : (!(t391 == a0)) = false := by have h_ := c89; simp only [bne] at h_; first | exact h_ | simpa using h_))
              clear c89
              by_cases c93 : (t397 == a0) = true
              · rw [if_pos c93] at H
                have c93b0 : (t397 == a0) = true := c93
                (try (have c93b1 : decide (t397 = a0) = true := by simpa using c93))
                (try (have c93b2 : (t397 == a0) = true := by simpa using c93))
                clear c93
                by_cases c94 : (t392 != a0) = true
                · rw [if_pos c94] at H
                  have c94b0 : (t392 != a0) = true := c94
                  (try (have c94b1 : decide (t392 = a0) = false := by simpa using c94))
                  (try (have c94b2 : (t392 == a0) = false := by simpa using c94))
                  (try (have c94b3 : ¬ (t392 = a0) := by simpa using c94))
                  (try (have c94b4 : (!(t392 == a0)) = true := by have h_ := c94; simp only [bne] at h_; first | exact h_ | simpa using h_))
                  clear c94
                  obtain rfl := Option.some.inj H
                  have hnb95 := NB393_399.out
                  have hnc95 := NB399_393.out
                  have hcz96_0 : w18.cell? ⟨gb393, 0, none⟩ = some (.bool t389) := (blk_cell BK393.out 0).trans rfl
                  have hcz96_1 : w18.cell? ⟨gb393, 1, none⟩ = some (.bool t390) := (blk_cell BK393.out 1).trans rfl
                  have hcz96_2 : w18.cell? ⟨gb393, 2, none⟩ = some (.bool t391) := (blk_cell BK393.out 2).trans rfl
                  have hcz96_3 : w18.cell? ⟨gb393, 3, none⟩ = some (.bool t392) := (blk_cell BK393.out 3).trans rfl
                  have hfz96_0 := blk_frozen BK393.out 0
                  have hfz96_1 := blk_frozen BK393.out 1
                  have hfz96_2 := blk_frozen BK393.out 2
                  have hfz96_3 := blk_frozen BK393.out 3
                  have hcz97_0 : w18.cell? ⟨gb399, 0, none⟩ = some (.bool false) := (blk_cell BK399.out 0).trans rfl
                  have hcz97_1 : w18.cell? ⟨gb399, 1, none⟩ = some (.bool false) := (blk_cell BK399.out 1).trans rfl
                  have hcz97_2 : w18.cell? ⟨gb399, 2, none⟩ = some (.bool false) := (blk_cell BK399.out 2).trans rfl
                  have hcz97_3 : w18.cell? ⟨gb399, 3, none⟩ = some (.bool false) := (blk_cell BK399.out 3).trans rfl
                  have hfz97_0 := blk_frozen BK399.out 0
                  have hfz97_1 := blk_frozen BK399.out 1
                  have hfz97_2 := blk_frozen BK399.out 2
                  have hfz97_3 := blk_frozen BK399.out 3
                  go_wp2_with (first | (with_reducible refine rounds_step ?_) | (refine wp_loop_rounds 9 ?_))
                  go_ret
                  exact ⟨by first | rfl | (simp [errW_none, errW_some] <;> rfl) | (simp [*, errW_none, errW_some] <;> rfl), by repeat (first | (with_reducible first | exact HB.out | apply below_alloc | apply pw_below_drewN | apply below_drew1 | refine below_set ?_ GE393.out | refine below_set ?_ GE399.out) | exact HB.out)⟩
                · rw [if_neg c94] at H
                  have c94b0 : (t392 != a0) = false := by simpa using c94
                  (try (have c94b1 : decide (t392 = a0) = true := by simpa using c94))
                  (try (have c94b2 : (t392 == a0) = true := by simpa using c94))
                  (try (have c94b3 : (!(t392 == a0)) = false := by have h_ := c94; simp only [bne] at h_; first | exact h_ | simpa using h_))
                  clear c94
                  by_cases c98 : (t398 == a0) = true
                  · rw [if_pos c98] at H
                    have c98b0 : (t398 == a0) = true := c98
                    (try (have c98b1 : decide (t398 = a0) = true := by simpa using c98))
                    (try (have c98b2 : (t398 == a0) = true := by simpa using c98))
                    clear c98
                    have H' := Aside0.mk H
                    clear H
                    have hnb99 := NB393_399.out
                    have hnc99 := NB399_393.out
                    have hcz100_0 : w18.cell? ⟨gb393, 0, none⟩ = some (.bool t389) := (blk_cell BK393.out 0).trans rfl
                    have hcz100_1 : w18.cell? ⟨gb393, 1, none⟩ = some (.bool t390) := (blk_cell BK393.out 1).trans rfl
                    have hcz100_2 : w18.cell? ⟨gb393, 2, none⟩ = some (.bool t391) := (blk_cell BK393.out 2).trans rfl
                    have hcz100_3 : w18.cell? ⟨gb393, 3, none⟩ = some (.bool t392) := (blk_cell BK393.out 3).trans rfl
                    have hfz100_0 := blk_frozen BK393.out 0
                    have hfz100_1 := blk_frozen BK393.out 1
                    have hfz100_2 := blk_frozen BK393.out 2
                    have hfz100_3 := blk_frozen BK393.out 3
                    have hcz101_0 : w18.cell? ⟨gb399, 0, none⟩ = some (.bool false) := (blk_cell BK399.out 0).trans rfl
                    have hcz101_1 : w18.cell? ⟨gb399, 1, none⟩ = some (.bool false) := (blk_cell BK399.out 1).trans rfl
                    have hcz101_2 : w18.cell? ⟨gb399, 2, none⟩ = some (.bool false) := (blk_cell BK399.out 2).trans rfl
                    have hcz101_3 : w18.cell? ⟨gb399, 3, none⟩ = some (.bool false) := (blk_cell BK399.out 3).trans rfl
                    have hfz101_0 := blk_frozen BK399.out 0
                    have hfz101_1 := blk_frozen BK399.out 1
                    have hfz101_2 := blk_frozen BK399.out 2
                    have hfz101_3 := blk_frozen BK399.out 3
                    go_wp2_with (first | (with_reducible refine rounds_step ?_) | (refine wp_loop_rounds 9 ?_))
                    go_meet
                    case rel => exact ⟨_, (3), (by first | rfl | (simp; done) | (simp [*]; done)), H', ⟨by first | omega | exact Nat.le_refl _⟩, ⟨by (with_reducible repeat (first | refine blk_drewN ?_ _ | refine blk_drew ?_ | refine blk_alloc ?_ _)); refine blk_far ?_ NB393_399.out _; (with_reducible repeat (first | refine blk_drewN ?_ _ | refine blk_drew ?_ | refine blk_alloc ?_ _)); refine blk_far ?_ NB393_399.out _; (with_reducible repeat (first | refine blk_drewN ?_ _ | refine blk_drew ?_ | refine blk_alloc ?_ _)); refine blk_far ?_ NB393_399.out _; (with_reducible repeat (first | refine blk_drewN ?_ _ | refine blk_drew ?_ | refine blk_alloc ?_ _)); refine blk_far ?_ NB393_399.out _; (with_reducible repeat (first | refine blk_drewN ?_ _ | refine blk_drew ?_ | refine blk_alloc ?_ _)); exact BK393.out⟩, ⟨by (with_reducible repeat (first | refine blk_drewN ?_ _ | refine blk_drew ?_ | refine blk_alloc ?_ _)); refine blk_put (cs := #[.bool t395, .bool t396, .bool t397, .bool false]) ?_ 3 _ rfl; (with_reducible repeat (first | refine blk_drewN ?_ _ | refine blk_drew ?_ | refine blk_alloc ?_ _)); refine blk_put (cs := #[.bool t395, .bool t396, .bool false, .bool false]) ?_ 2 _ rfl; (with_reducible repeat (first | refine blk_drewN ?_ _ | refine blk_drew ?_ | refine blk_alloc ?_ _)); refine blk_put (cs := #[.bool t395, .bool false, .bool false, .bool false]) ?_ 1 _ rfl; (with_reducible repeat (first | refine blk_drewN ?_ _ | refine blk_drew ?_ | refine blk_alloc ?_ _)); refine blk_put (cs := #[.bool false, .bool false, .bool false, .bool false]) ?_ 0 _ rfl; (with_reducible repeat (first | refine blk_drewN ?_ _ | refine blk_drew ?_ | refine blk_alloc ?_ _)); exact BK399.out⟩, ⟨by repeat (first | (with_reducible first | exact HB.out | apply below_alloc | apply pw_below_drewN | apply below_drew1 | refine below_set ?_ GE393.out | refine below_set ?_ GE399.out) | exact HB.out)⟩⟩
                  · rw [if_neg c98] at H
                    have c98b0 : (t398 == a0) = false := by simpa using c98
                    (try (have c98b1 : decide (t398 = a0) = false := by simpa using c98))
                    (try (have c98b2 : (t398 == a0) = false := by simpa using c98))
                    (try (have c98b3 : ¬ (t398 = a0) := by simpa using c98))
                    clear c98
                    have H' := Aside0.mk H
                    clear H
                    have hnb102 := NB393_399.out
                    have hnc102 := NB399_393.out
                    have hcz103_0 : w18.cell? ⟨gb393, 0, none⟩ = some (.bool t389) := (blk_cell BK393.out 0).trans rfl
                    have hcz103_1 : w18.cell? ⟨gb393, 1, none⟩ = some (.bool t390) := (blk_cell BK393.out 1).trans rfl
                    have hcz103_2 : w18.cell? ⟨gb393, 2, none⟩ = some (.bool t391) := (blk_cell BK393.out 2).trans rfl
                    have hcz103_3 : w18.cell? ⟨gb393, 3, none⟩ = some (.bool t392) := (blk_cell BK393.out 3).trans rfl
                    have hfz103_0 := blk_frozen BK393.out 0
                    have hfz103_1 := blk_frozen BK393.out 1
                    have hfz103_2 := blk_frozen BK393.out 2
                    have hfz103_3 := blk_frozen BK393.out 3
                    have hcz104_0 : w18.cell? ⟨gb399, 0, none⟩ = some (.bool false) := (blk_cell BK399.out 0).trans rfl
                    have hcz104_1 : w18.cell? ⟨gb399, 1, none⟩ = some (.bool false) := (blk_cell BK399.out 1).trans rfl
                    have hcz104_2 : w18.cell? ⟨gb399, 2, none⟩ = some (.bool false) := (blk_cell BK399.out 2).trans rfl
                    have hcz104_3 : w18.cell? ⟨gb399, 3, none⟩ = some (.bool false) := (blk_cell BK399.out 3).trans rfl
                    have hfz104_0 := blk_frozen BK399.out 0
                    have hfz104_1 := blk_frozen BK399.out 1
                    have hfz104_2 := blk_frozen BK399.out 2
                    have hfz104_3 := blk_frozen BK399.out 3
                    go_wp2_with (first | (with_reducible refine rounds_step ?_) | (refine wp_loop_rounds 9 ?_))
                    go_meet
                    case rel => exact ⟨_, (2), (by first | rfl | (simp; done) | (simp [*]; done)), H', ⟨by first | omega | exact Nat.le_refl _⟩, ⟨by (with_reducible repeat (first | refine blk_drewN ?_ _ | refine blk_drew ?_ | refine blk_alloc ?_ _)); refine blk_far ?_ NB393_399.out _; (with_reducible repeat (first | refine blk_drewN ?_ _ | refine blk_drew ?_ | refine blk_alloc ?_ _)); refine blk_far ?_ NB393_399.out _; (with_reducible repeat (first | refine blk_drewN ?_ _ | refine blk_drew ?_ | refine blk_alloc ?_ _)); refine blk_far ?_ NB393_399.out _; (with_reducible repeat (first | refine blk_drewN ?_ _ | refine blk_drew ?_ | refine blk_alloc ?_ _)); refine blk_far ?_ NB393_399.out _; (with_reducible repeat (first | refine blk_drewN ?_ _ | refine blk_drew ?_ | refine blk_alloc ?_ _)); exact BK393.out⟩, ⟨by (with_reducible repeat (first | refine blk_drewN ?_ _ | refine blk_drew ?_ | refine blk_alloc ?_ _)); refine blk_put (cs := #[.bool t395, .bool t396, .bool t397, .bool false]) ?_ 3 _ rfl; (with_reducible repeat (first | refine blk_drewN ?_ _ | refine blk_drew ?_ | refine blk_alloc ?_ _)); refine blk_put (cs := #[.bool t395, .bool t396, .bool false, .bool false]) ?_ 2 _ rfl; (with_reducible repeat (first | refine blk_drewN ?_ _ | refine blk_drew ?_ | refine blk_alloc ?_ _)); refine blk_put (cs := #[.bool t395, .bool false, .bool false, .bool false]) ?_ 1 _ rfl; (with_reducible repeat (first | refine blk_drewN ?_ _ | refine blk_drew ?_ | refine blk_alloc ?_ _)); refine blk_put (cs := #[.bool false, .bool false, .bool false, .bool false]) ?_ 0 _ rfl; (with_reducible repeat (first | refine blk_drewN ?_ _ | refine blk_drew ?_ | refine blk_alloc ?_ _)); exact BK399.out⟩, ⟨by repeat (first | (with_reducible first | exact HB.out | apply below_alloc | apply pw_below_drewN | apply below_drew1 | refine below_set ?_ GE393.out | refine below_set ?_ GE399.out) | exact HB.out)⟩⟩
              · rw [if_neg c93] at H
                have c93b0 : (t397 == a0) = false := by simpa using c93
                (try (have c93b1 : decide (t397 = a0) = false := by simpa using c93))
                (try (have c93b2 : (t397 == a0) = false := by simpa using c93))
                (try (have c93b3 : ¬ (t397 = a0) := by simpa using c93))
                clear c93
                by_cases c105 : (t392 != a0) = true
                · rw [if_pos c105] at H
                  have c105b0 : (t392 != a0) = true := c105
                  (try (have c105b1 : decide (t392 = a0) = false := by simpa using c105))
                  (try (have c105b2 : (t392 == a0) = false := by simpa using c105))
                  (try (have c105b3 : ¬ (t392 = a0) := by simpa using c105))
                  (try (have c105b4 : (!(t392 == a0)) = true := by have h_ := c105; simp only [bne] at h_; first | exact h_ | simpa using h_))
                  clear c105
                  obtain rfl := Option.some.inj H
                  have hnb106 := NB393_399.out
                  have hnc106 := NB399_393.out
                  have hcz107_0 : w18.cell? ⟨gb393, 0, none⟩ = some (.bool t389) := (blk_cell BK393.out 0).trans rfl
                  have hcz107_1 : w18.cell? ⟨gb393, 1, none⟩ = some (.bool t390) := (blk_cell BK393.out 1).trans rfl
                  have hcz107_2 : w18.cell? ⟨gb393, 2, none⟩ = some (.bool t391) := (blk_cell BK393.out 2).trans rfl
                  have hcz107_3 : w18.cell? ⟨gb393, 3, none⟩ = some (.bool t392) := (blk_cell BK393.out 3).trans rfl
                  have hfz107_0 := blk_frozen BK393.out 0
                  have hfz107_1 := blk_frozen BK393.out 1
                  have hfz107_2 := blk_frozen BK393.out 2
                  have hfz107_3 := blk_frozen BK393.out 3
                  have hcz108_0 : w18.cell? ⟨gb399, 0, none⟩ = some (.bool false) := (blk_cell BK399.out 0).trans rfl
                  have hcz108_1 : w18.cell? ⟨gb399, 1, none⟩ = some (.bool false) := (blk_cell BK399.out 1).trans rfl
                  have hcz108_2 : w18.cell? ⟨gb399, 2, none⟩ = some (.bool false) := (blk_cell BK399.out 2).trans rfl
                  have hcz108_3 : w18.cell? ⟨gb399, 3, none⟩ = some (.bool false) := (blk_cell BK399.out 3).trans rfl
                  have hfz108_0 := blk_frozen BK399.out 0
                  have hfz108_1 := blk_frozen BK399.out 1
                  have hfz108_2 := blk_frozen BK399.out 2
                  have hfz108_3 := blk_frozen BK399.out 3
                  go_wp2_with (first | (with_reducible refine rounds_step ?_) | (refine wp_loop_rounds 9 ?_))
                  go_ret
                  exact ⟨by first | rfl | (simp [errW_none, errW_some] <;> rfl) | (simp [*, errW_none, errW_some] <;> rfl), by repeat (first | (with_reducible first | exact HB.out | apply below_alloc | apply pw_below_drewN | apply below_drew1 | refine below_set ?_ GE393.out | refine below_set ?_ GE399.out) | exact HB.out)⟩
                · rw [if_neg c105] at H
                  have c105b0 : (t392 != a0) = false := by simpa using c105
                  (try (have c105b1 : decide (t392 = a0) = true := by simpa using c105))
                  (try (have c105b2 : (t392 == a0) = true := by simpa using c105))
                  (try (have c105b3 : (!(t392 == a0)) = false := by have h_ := c105; simp only [bne] at h_; first | exact h_ | simpa using h_))
                  clear c105
                  by_cases c109 : (t398 == a0) = true
                  · rw [if_pos c109] at H
                    have c109b0 : (t398 == a0) = true := c109
                    (try (have c109b1 : decide (t398 = a0) = true := by simpa using c109))
                    (try (have c109b2 : (t398 == a0) = true := by simpa using c109))
                    clear c109
                    have H' := Aside0.mk H
                    clear H
                    have hnb110 := NB393_399.out
                    have hnc110 := NB399_393.out
                    have hcz111_0 : w18.cell? ⟨gb393, 0, none⟩ = some (.bool t389) := (blk_cell BK393.out 0).trans rfl
                    have hcz111_1 : w18.cell? ⟨gb393, 1, none⟩ = some (.bool t390) := (blk_cell BK393.out 1).trans rfl
                    have hcz111_2 : w18.cell? ⟨gb393, 2, none⟩ = some (.bool t391) := (blk_cell BK393.out 2).trans rfl
                    have hcz111_3 : w18.cell? ⟨gb393, 3, none⟩ = some (.bool t392) := (blk_cell BK393.out 3).trans rfl
                    have hfz111_0 := blk_frozen BK393.out 0
                    have hfz111_1 := blk_frozen BK393.out 1
                    have hfz111_2 := blk_frozen BK393.out 2
                    have hfz111_3 := blk_frozen BK393.out 3
                    have hcz112_0 : w18.cell? ⟨gb399, 0, none⟩ = some (.bool false) := (blk_cell BK399.out 0).trans rfl
                    have hcz112_1 : w18.cell? ⟨gb399, 1, none⟩ = some (.bool false) := (blk_cell BK399.out 1).trans rfl
                    have hcz112_2 : w18.cell? ⟨gb399, 2, none⟩ = some (.bool false) := (blk_cell BK399.out 2).trans rfl
                    have hcz112_3 : w18.cell? ⟨gb399, 3, none⟩ = some (.bool false) := (blk_cell BK399.out 3).trans rfl
                    have hfz112_0 := blk_frozen BK399.out 0
                    have hfz112_1 := blk_frozen BK399.out 1
                    have hfz112_2 := blk_frozen BK399.out 2
                    have hfz112_3 := blk_frozen BK399.out 3
                    go_wp2_with (first | (with_reducible refine rounds_step ?_) | (refine wp_loop_rounds 9 ?_))
                    go_meet
                    case rel => exact ⟨_, (2), (by first | rfl | (simp; done) | (simp [*]; done)), H', ⟨by first | omega | exact Nat.le_refl _⟩, ⟨by (with_reducible repeat (first | refine blk_drewN ?_ _ | refine blk_drew ?_ | refine blk_alloc ?_ _)); refine blk_far ?_ NB393_399.out _; (with_reducible repeat (first | refine blk_drewN ?_ _ | refine blk_drew ?_ | refine blk_alloc ?_ _)); refine blk_far ?_ NB393_399.out _; (with_reducible repeat (first | refine blk_drewN ?_ _ | refine blk_drew ?_ | refine blk_alloc ?_ _)); refine blk_far ?_ NB393_399.out _; (with_reducible repeat (first | refine blk_drewN ?_ _ | refine blk_drew ?_ | refine blk_alloc ?_ _)); refine blk_far ?_ NB393_399.out _; (with_reducible repeat (first | refine blk_drewN ?_ _ | refine blk_drew ?_ | refine blk_alloc ?_ _)); exact BK393.out⟩, ⟨by (with_reducible repeat (first | refine blk_drewN ?_ _ | refine blk_drew ?_ | refine blk_alloc ?_ _)); refine blk_put (cs := #[.bool t395, .bool t396, .bool t397, .bool false]) ?_ 3 _ rfl; (with_reducible repeat (first | refine blk_drewN ?_ _ | refine blk_drew ?_ | refine blk_alloc ?_ _)); refine blk_put (cs := #[.bool t395, .bool t396, .bool false, .bool false]) ?_ 2 _ rfl; (with_reducible repeat (first | refine blk_drewN ?_ _ | refine blk_drew ?_ | refine blk_alloc ?_ _)); refine blk_put (cs := #[.bool t395, .bool false, .bool false, .bool false]) ?_ 1 _ rfl; (with_reducible repeat (first | refine blk_drewN ?_ _ | refine blk_drew ?_ | refine blk_alloc ?_ _)); refine blk_put (cs := #[.bool false, .bool false, .bool false, .bool false]) ?_ 0 _ rfl; (with_reducible repeat (first | refine blk_drewN ?_ _ | refine blk_drew ?_ | refine blk_alloc ?_ _)); exact BK399.out⟩, ⟨by repeat (first | (with_reducible first | exact HB.out | apply below_alloc | apply pw_below_drewN | apply below_drew1 | refine below_set ?_ GE393.out | refine below_set ?_ GE399.out) | exact HB.out)⟩⟩
                  · rw [if_neg c109] at H
                    have c109b0 : (t398 == a0) = false := by simpa using c109
                    (try (have c109b1 : decide (t398 = a0) = false := by simpa using c109))
                    (try (have c109b2 : (t398 == a0) = false := by simpa using c109))
                    (try (have c109b3 : ¬ (t398 = a0) := by simpa using c109))
                    clear c109
                    have H' := Aside0.mk H
                    clear H
                    have hnb113 := NB393_399.out
                    have hnc113 := NB399_393.out
                    have hcz114_0 : w18.cell? ⟨gb393, 0, none⟩ = some (.bool t389) := (blk_cell BK393.out 0).trans rfl
                    have hcz114_1 : w18.cell? ⟨gb393, 1, none⟩ = some (.bool t390) := (blk_cell BK393.out 1).trans rfl
                    have hcz114_2 : w18.cell? ⟨gb393, 2, none⟩ = some (.bool t391) := (blk_cell BK393.out 2).trans rfl
                    have hcz114_3 : w18.cell? ⟨gb393, 3, none⟩ = some (.bool t392) := (blk_cell BK393.out 3).trans rfl
                    have hfz114_0 := blk_frozen BK393.out 0
                    have hfz114_1 := blk_frozen BK393.out 1
                    have hfz114_2 := blk_frozen BK393.out 2
                    have hfz114_3 := blk_frozen BK393.out 3
                    have hcz115_0 : w18.cell? ⟨gb399, 0, none⟩ = some (.bool false) := (blk_cell BK399.out 0).trans rfl
                    have hcz115_1 : w18.cell? ⟨gb399, 1, none⟩ = some (.bool false) := (blk_cell BK399.out 1).trans rfl
                    have hcz115_2 : w18.cell? ⟨gb399, 2, none⟩ = some (.bool false) := (blk_cell BK399.out 2).trans rfl
                    have hcz115_3 : w18.cell? ⟨gb399, 3, none⟩ = some (.bool false) := (blk_cell BK399.out 3).trans rfl
                    have hfz115_0 := blk_frozen BK399.out 0
                    have hfz115_1 := blk_frozen BK399.out 1
                    have hfz115_2 := blk_frozen BK399.out 2
                    have hfz115_3 := blk_frozen BK399.out 3
                    go_wp2_with (first | (with_reducible refine rounds_step ?_) | (refine wp_loop_rounds 9 ?_))
                    go_meet
                    case rel => exact ⟨_, (1), (by first | rfl | (simp; done) | (simp [*]; done)), H', ⟨by first | omega | exact Nat.le_refl _⟩, ⟨by (with_reducible repeat (first | refine blk_drewN ?_ _ | refine blk_drew ?_ | refine blk_alloc ?_ _)); refine blk_far ?_ NB393_399.out _; (with_reducible repeat (first | refine blk_drewN ?_ _ | refine blk_drew ?_ | refine blk_alloc ?_ _)); refine blk_far ?_ NB393_399.out _; (with_reducible repeat (first | refine blk_drewN ?_ _ | refine blk_drew ?_ | refine blk_alloc ?_ _)); refine blk_far ?_ NB393_399.out _; (with_reducible repeat (first | refine blk_drewN ?_ _ | refine blk_drew ?_ | refine blk_alloc ?_ _)); refine blk_far ?_ NB393_399.out _; (with_reducible repeat (first | refine blk_drewN ?_ _ | refine blk_drew ?_ | refine blk_alloc ?_ _)); exact BK393.out⟩, ⟨by (with_reducible repeat (first | refine blk_drewN ?_ _ | refine blk_drew ?_ | refine blk_alloc ?_ _)); refine blk_put (cs := #[.bool t395, .bool t396, .bool t397, .bool false]) ?_ 3 _ rfl; (with_reducible repeat (first | refine blk_drewN ?_ _ | refine blk_drew ?_ | refine blk_alloc ?_ _)); refine blk_put (cs := #[.bool t395, .bool t396, .bool false, .bool false]) ?_ 2 _ rfl; (with_reducible repeat (first | refine blk_drewN ?_ _ | refine blk_drew ?_ | refine blk_alloc ?_ _)); refine blk_put (cs := #[.bool t395, .bool false, .bool false, .bool false]) ?_ 1 _ rfl; (with_reducible repeat (first | refine blk_drewN ?_ _ | refine blk_drew ?_ | refine blk_alloc ?_ _)); refine blk_put (cs := #[.bool false, .bool false, .bool false, .bool false]) ?_ 0 _ rfl; (with_reducible repeat (first | refine blk_drewN ?_ _ | refine blk_drew ?_ | refine blk_alloc ?_ _)); exact BK399.out⟩, ⟨by repeat (first | (with_reducible first | exact HB.out | apply below_alloc | apply pw_below_drewN | apply below_drew1 | refine below_set ?_ GE393.out | refine below_set ?_ GE399.out) | exact HB.out)⟩⟩
          · rw [if_neg c88] at H
            have c88b0 : (t396 == a0) = false := by simpa using c88
            (try (have c88b1 : decide (t396 = a0) = false := by simpa using c88))
            (try (have c88b2 : (t396 == a0) = false := by simpa using c88))
            (try (have c88b3 : ¬ (t396 = a0) := by simpa using c88))
            clear c88
            by_cases c116 : (t391 != a0) = true
            · rw [if_pos c116] at H
              have c116b0 : (t391 != a0) = true := c116
              (try (have c116b1 : decide (t391 = a0) = false := by simpa using c116))
              (try (have c116b2 : (t391 == a0) = false := by simpa using c116))
              (try (have c116b3 : ¬ (t391 = a0) := by simpa using c116))
              (try (have c116b4 : (!(t391 == a0)) = true := by have h_ := c116; simp only [bne] at h_; first | exact h_ | simpa using h_))
              clear c116
              obtain rfl := Option.some.inj H
              have hnb117 := NB393_399.out
              have hnc117 := NB399_393.out
              have hcz118_0 : w18.cell? ⟨gb393, 0, none⟩ = some (.bool t389) := (blk_cell BK393.out 0).trans rfl
              have hcz118_1 : w18.cell? ⟨gb393, 1, none⟩ = some (.bool t390) := (blk_cell BK393.out 1).trans rfl
              have hcz118_2 : w18.cell? ⟨gb393, 2, none⟩ = some (.bool t391) := (blk_cell BK393.out 2).trans rfl
              have hcz118_3 : w18.cell? ⟨gb393, 3, none⟩ = some (.bool t392) := (blk_cell BK393.out 3).trans rfl
              have hfz118_0 := blk_frozen BK393.out 0
              have hfz118_1 := blk_frozen BK393.out 1
              have hfz118_2 := blk_frozen BK393.out 2
              have hfz118_3 := blk_frozen BK393.out 3
              have hcz119_0 : w18.cell? ⟨gb399, 0, none⟩ = some (.bool false) := (blk_cell BK399.out 0).trans rfl
              have hcz119_1 : w18.cell? ⟨gb399, 1, none⟩ = some (.bool false) := (blk_cell BK399.out 1).trans rfl
              have hcz119_2 : w18.cell? ⟨gb399, 2, none⟩ = some (.bool false) := (blk_cell BK399.out 2).trans rfl
              have hcz119_3 : w18.cell? ⟨gb399, 3, none⟩ = some (.bool false) := (blk_cell BK399.out 3).trans rfl
              have hfz119_0 := blk_frozen BK399.out 0
              have hfz119_1 := blk_frozen BK399.out 1
              have hfz119_2 := blk_frozen BK399.out 2
              have hfz119_3 := blk_frozen BK399.out 3
              go_wp2_with (first | (with_reducible refine rounds_step ?_) | (refine wp_loop_rounds 9 ?_))
              go_ret
              exact ⟨by first | rfl | (simp [errW_none, errW_some] <;> rfl) | (simp [*, errW_none, errW_some] <;> rfl), by repeat (first | (with_reducible first | exact HB.out | apply below_alloc | apply pw_below_drewN | apply below_drew1 | refine below_set ?_ GE393.out | refine below_set ?_ GE399.out) | exact HB.out)⟩
            · rw [if_neg c116] at H
              have c116b0 : (t391 != a0) = false := by simpa using c116
              (try (have c116b1 : decide (t391 = a0) = true := by simpa using c116))
              (try (have c116b2 : (t391 == a0) = true := by simpa using c116))
              (try (have c116b3 : (!(t391 == a0)) = false := by have h_ := c116; simp only [bne] at h_; first | exact h_ | simpa using h_))
              clear c116
              by_cases c120 : (t397 == a0) = true
              · rw [if_pos c120] at H
                have c120b0 : (t397 == a0) = true := c120
                (try (have c120b1 : decide (t397 = a0) = true := by simpa using c120))
                (try (have c120b2 : (t397 == a0) = true := by simpa using c120))
                clear c120
                by_cases c121 : (t392 != a0) = true
                · rw [if_pos c121] at H
                  have c121b0 : (t392 != a0) = true := c121
                  (try (have c121b1 : decide (t392 = a0) = false := by simpa using c121))
                  (try (have c121b2 : (t392 == a0) = false := by simpa using c121))
                  (try (have c121b3 : ¬ (t392 = a0) := by simpa using c121))
                  (try (have c121b4 : (!(t392 == a0)) = true := by have h_ := c121; simp only [bne] at h_; first | exact h_ | simpa using h_))
                  clear c121
                  obtain rfl := Option.some.inj H
                  have hnb122 := NB393_399.out
                  have hnc122 := NB399_393.out
                  have hcz123_0 : w18.cell? ⟨gb393, 0, none⟩ = some (.bool t389) := (blk_cell BK393.out 0).trans rfl
                  have hcz123_1 : w18.cell? ⟨gb393, 1, none⟩ = some (.bool t390) := (blk_cell BK393.out 1).trans rfl
                  have hcz123_2 : w18.cell? ⟨gb393, 2, none⟩ = some (.bool t391) := (blk_cell BK393.out 2).trans rfl
                  have hcz123_3 : w18.cell? ⟨gb393, 3, none⟩ = some (.bool t392) := (blk_cell BK393.out 3).trans rfl
                  have hfz123_0 := blk_frozen BK393.out 0
                  have hfz123_1 := blk_frozen BK393.out 1
                  have hfz123_2 := blk_frozen BK393.out 2
                  have hfz123_3 := blk_frozen BK393.out 3
                  have hcz124_0 : w18.cell? ⟨gb399, 0, none⟩ = some (.bool false) := (blk_cell BK399.out 0).trans rfl
                  have hcz124_1 : w18.cell? ⟨gb399, 1, none⟩ = some (.bool false) := (blk_cell BK399.out 1).trans rfl
                  have hcz124_2 : w18.cell? ⟨gb399, 2, none⟩ = some (.bool false) := (blk_cell BK399.out 2).trans rfl
                  have hcz124_3 : w18.cell? ⟨gb399, 3, none⟩ = some (.bool false) := (blk_cell BK399.out 3).trans rfl
                  have hfz124_0 := blk_frozen BK399.out 0
                  have hfz124_1 := blk_frozen BK399.out 1
                  have hfz124_2 := blk_frozen BK399.out 2
                  have hfz124_3 := blk_frozen BK399.out 3
                  go_wp2_with (first | (with_reducible refine rounds_step ?_) | (refine wp_loop_rounds 9 ?_))
                  go_ret
                  exact ⟨by first | rfl | (simp [errW_none, errW_some] <;> rfl) | (simp [*, errW_none, errW_some] <;> rfl), by repeat (first | (with_reducible first | exact HB.out | apply below_alloc | apply pw_below_drewN | apply below_drew1 | refine below_set ?_ GE393.out | refine below_set ?_ GE399.out) | exact HB.out)⟩
                · rw [if_neg c121] at H
                  have c121b0 : (t392 != a0) = false := by simpa using c121
                  (try (have c121b1 : decide (t392 = a0) = true := by simpa using c121))
                  (try (have c121b2 : (t392 == a0) = true := by simpa using c121))
                  (try (have c121b3 : (!(t392 == a0)) = false := by have h_ := c121; simp only [bne] at h_; first | exact h_ | simpa using h_))
                  clear c121
                  by_cases c125 : (t398 == a0) = true
                  · rw [if_pos c125] at H
                    have c125b0 : (t398 == a0) = true := c125
                    (try (have c125b1 : decide (t398 = a0) = true := by simpa using c125))
                    (try (have c125b2 : (t398 == a0) = true := by simpa using c125))
                    clear c125
                    have H' := Aside0.mk H
                    clear H
                    have hnb126 := NB393_399.out
                    have hnc126 := NB399_393.out
                    have hcz127_0 : w18.cell? ⟨gb393, 0, none⟩ = some (.bool t389) := (blk_cell BK393.out 0).trans rfl
                    have hcz127_1 : w18.cell? ⟨gb393, 1, none⟩ = some (.bool t390) := (blk_cell BK393.out 1).trans rfl
                    have hcz127_2 : w18.cell? ⟨gb393, 2, none⟩ = some (.bool t391) := (blk_cell BK393.out 2).trans rfl
                    have hcz127_3 : w18.cell? ⟨gb393, 3, none⟩ = some (.bool t392) := (blk_cell BK393.out 3).trans rfl
                    have hfz127_0 := blk_frozen BK393.out 0
                    have hfz127_1 := blk_frozen BK393.out 1
                    have hfz127_2 := blk_frozen BK393.out 2
                    have hfz127_3 := blk_frozen BK393.out 3
                    have hcz128_0 : w18.cell? ⟨gb399, 0, none⟩ = some (.bool false) := (blk_cell BK399.out 0).trans rfl
                    have hcz128_1 : w18.cell? ⟨gb399, 1, none⟩ = some (.bool false) := (blk_cell BK399.out 1).trans rfl
                    have hcz128_2 : w18.cell? ⟨gb399, 2, none⟩ = some (.bool false) := (blk_cell BK399.out 2).trans rfl
                    have hcz128_3 : w18.cell? ⟨gb399, 3, none⟩ = some (.bool false) := (blk_cell BK399.out 3).trans rfl
                    have hfz128_0 := blk_frozen BK399.out 0
                    have hfz128_1 := blk_frozen BK399.out 1
                    have hfz128_2 := blk_frozen BK399.out 2
                    have hfz128_3 := blk_frozen BK399.out 3
                    go_wp2_with (first | (with_reducible refine rounds_step ?_) | (refine wp_loop_rounds 9 ?_))
                    go_meet
                    case rel => exact ⟨_, (2), (by first | rfl | (simp; done) | (simp [*]; done)), H', ⟨by first | omega | exact Nat.le_refl _⟩, ⟨by (with_reducible repeat (first | refine blk_drewN ?_ _ | refine blk_drew ?_ | refine blk_alloc ?_ _)); refine blk_far ?_ NB393_399.out _; (with_reducible repeat (first | refine blk_drewN ?_ _ | refine blk_drew ?_ | refine blk_alloc ?_ _)); refine blk_far ?_ NB393_399.out _; (with_reducible repeat (first | refine blk_drewN ?_ _ | refine blk_drew ?_ | refine blk_alloc ?_ _)); refine blk_far ?_ NB393_399.out _; (with_reducible repeat (first | refine blk_drewN ?_ _ | refine blk_drew ?_ | refine blk_alloc ?_ _)); refine blk_far ?_ NB393_399.out _; (with_reducible repeat (first | refine blk_drewN ?_ _ | refine blk_drew ?_ | refine blk_alloc ?_ _)); exact BK393.out⟩, ⟨by (with_reducible repeat (first | refine blk_drewN ?_ _ | refine blk_drew ?_ | refine blk_alloc ?_ _)); refine blk_put (cs := #[.bool t395, .bool t396, .bool t397, .bool false]) ?_ 3 _ rfl; (with_reducible repeat (first | refine blk_drewN ?_ _ | refine blk_drew ?_ | refine blk_alloc ?_ _)); refine blk_put (cs := #[.bool t395, .bool t396, .bool false, .bool false]) ?_ 2 _ rfl; (with_reducible repeat (first | refine blk_drewN ?_ _ | refine blk_drew ?_ | refine blk_alloc ?_ _)); refine blk_put (cs := #[.bool t395, .bool false, .bool false, .bool false]) ?_ 1 _ rfl; (with_reducible repeat (first | refine blk_drewN ?_ _ | refine blk_drew ?_ | refine blk_alloc ?_ _)); refine blk_put (cs := #[.bool false, .bool false, .bool false, .bool false]) ?_ 0 _ rfl; (with_reducible repeat (first | refine blk_drewN ?_ _ | refine blk_drew ?_ | refine blk_alloc ?_ _)); exact BK399.out⟩, ⟨by repeat (first | (with_reducible first | exact HB.out | apply below_alloc | apply pw_below_drewN | apply below_drew1 | refine below_set ?_ GE393.out | refine below_set ?_ GE399.out) | exact HB.out)⟩⟩
                  · rw [if_neg c125] at H
                    have c125b0 : (t398 == a0) = false := by simpa using c125
                    (try (have c125b1 : decide (t398 = a0) = false := by simpa using c125))
                    (try (have c125b2 : (t398 == a0) = false := by simpa using c125))
                    (try (have c125b3 : ¬ (t398 = a0) := by simpa using c125))
                    clear c125
                    have H' := Aside0.mk H
                    clear H
                    have hnb129 := NB393_399.out
                    have hnc129 := NB399_393.out
                    have hcz130_0 : w18.cell? ⟨gb393, 0, none⟩ = some (.bool t389) := (blk_cell BK393.out 0).trans rfl
                    have hcz130_1 : w18.cell? ⟨gb393, 1, none⟩ = some (.bool t390) := (blk_cell BK393.out 1).trans rfl
                    have hcz130_2 : w18.cell? ⟨gb393, 2, none⟩ = some (.bool t391) := (blk_cell BK393.out 2).trans rfl
                    have hcz130_3 : w18.cell? ⟨gb393, 3, none⟩ = some (.bool t392) := (blk_cell BK393.out 3).trans rfl
                    have hfz130_0 := blk_frozen BK393.out 0
                    have hfz130_1 := blk_frozen BK393.out 1
                    have hfz130_2 := blk_frozen BK393.out 2
                    have hfz130_3 := blk_frozen BK393.out 3
                    have hcz131_0 : w18.cell? ⟨gb399, 0, none⟩ = some (.bool false) := (blk_cell BK399.out 0).trans rfl
                    have hcz131_1 : w18.cell? ⟨gb399, 1, none⟩ = some (.bool false) := (blk_cell BK399.out 1).trans rfl
                    have hcz131_2 : w18.cell? ⟨gb399, 2, none⟩ = some (.bool false) := (blk_cell BK399.out 2).trans rfl
                    have hcz131_3 : w18.cell? ⟨gb399, 3, none⟩ = some (.bool false) := (blk_cell BK399.out 3).trans rfl
                    have hfz131_0 := blk_frozen BK399.out 0
                    have hfz131_1 := blk_frozen BK399.out 1
                    have hfz131_2 := blk_frozen BK399.out 2
                    have hfz131_3 := blk_frozen BK399.out 3
                    go_wp2_with (first | (with_reducible refine rounds_step ?_) | (refine wp_loop_rounds 9 ?_))
                    go_meet
                    case rel => exact ⟨_, (1), (by first | rfl | (simp; done) | (simp [*]; done)), H', ⟨by first | omega | exact Nat.le_refl _⟩, ⟨by (with_reducible repeat (first | refine blk_drewN ?_ _ | refine blk_drew ?_ | refine blk_alloc ?_ _)); refine blk_far ?_ NB393_399.out _; (with_reducible repeat (first | refine blk_drewN ?_ _ | refine blk_drew ?_ | refine blk_alloc ?_ _)); refine blk_far ?_ NB393_399.out _; (with_reducible repeat (first | refine blk_drewN ?_ _ | refine blk_drew ?_ | refine blk_alloc ?_ _)); refine blk_far ?_ NB393_399.out _; (with_reducible repeat (first | refine blk_drewN ?_ _ | refine blk_drew ?_ | refine blk_alloc ?_ _)); refine blk_far ?_ NB393_399.out _; (with_reducible repeat (first | refine blk_drewN ?_ _ | refine blk_drew ?_ | refine blk_alloc ?_ _)); exact BK393.out⟩, ⟨by (with_reducible repeat (first | refine blk_drewN ?_ _ | refine blk_drew ?_ | refine blk_alloc ?_ _)); refine blk_put (cs := #[.bool t395, .bool t396, .bool t397, .bool false]) ?_ 3 _ rfl; (with_reducible repeat (first | refine blk_drewN ?_ _ | refine blk_drew ?_ | refine blk_alloc ?_ _)); refine blk_put (cs := #[.bool t395, .bool t396, .bool false, .bool false]) ?_ 2 _ rfl; (with_reducible repeat (first | refine blk_drewN ?_ _ | refine blk_drew ?_ | refine blk_alloc ?_ _)); refine blk_put (cs := #[.bool t395, .bool false, .bool false, .bool false]) ?_ 1 _ rfl; (with_reducible repeat (first | refine blk_drewN ?_ _ | refine blk_drew ?_ | refine blk_alloc ?_ _)); refine blk_put (cs := #[.bool false, .bool false, .bool false, .bool false]) ?_ 0 _ rfl; (with_reducible repeat (first | refine blk_drewN ?_ _ | refine blk_drew ?_ | refine blk_alloc ?_ _)); exact BK399.out⟩, ⟨by repeat (first | (with_reducible first | exact HB.out | apply below_alloc | apply pw_below_drewN | apply below_drew1 | refine below_set ?_ GE393.out | refine below_set ?_ GE399.out) | exact HB.out)⟩⟩
              · rw [if_neg c120] at H
                have c120b0 : (t397 == a0) = false := by simpa using c120
                (try (have c120b1 : decide (t397 = a0) = false := by simpa using c120))
                (try (have c120b2 : (t397 == a0) = false := by simpa using c120))
                (try (have c120b3 : ¬ (t397 = a0) := by simpa using c120))
                clear c120
                by_cases c132 : (t392 != a0) = true
                · rw [if_pos c132] at H
                  have c132b0 : (t392 != a0) = true := c132
                  (try (have c132b1 : decide (t392 = a0) = false := by simpa using c132))
                  (try (have c132b2 : (t392 == a0) = false := by simpa using c132))
                  (try (have c132b3 : ¬ (t392 = a0) := by simpa using c132))
                  (try (have c132b4 : (!(t392 == a0)) = true := by have h_ := c132; simp only [bne] at h_; first | exact h_ | simpa using h_))
                  clear c132
                  obtain rfl := Option.some.inj H
                  have hnb133 := NB393_399.out
                  have hnc133 := NB399_393.out
                  have hcz134_0 : w18.cell? ⟨gb393, 0, none⟩ = some (.bool t389) := (blk_cell BK393.out 0).trans rfl
                  have hcz134_1 : w18.cell? ⟨gb393, 1, none⟩ = some (.bool t390) := (blk_cell BK393.out 1).trans rfl
                  have hcz134_2 : w18.cell? ⟨gb393, 2, none⟩ = some (.bool t391) := (blk_cell BK393.out 2).trans rfl
                  have hcz134_3 : w18.cell? ⟨gb393, 3, none⟩ = some (.bool t392) := (blk_cell BK393.out 3).trans rfl
                  have hfz134_0 := blk_frozen BK393.out 0
                  have hfz134_1 := blk_frozen BK393.out 1
                  have hfz134_2 := blk_frozen BK393.out 2
                  have hfz134_3 := blk_frozen BK393.out 3
                  have hcz135_0 : w18.cell? ⟨gb399, 0, none⟩ = some (.bool false) := (blk_cell BK399.out 0).trans rfl
                  have hcz135_1 : w18.cell? ⟨gb399, 1, none⟩ = some (.bool false) := (blk_cell BK399.out 1).trans rfl
                  have hcz135_2 : w18.cell? ⟨gb399, 2, none⟩ = some (.bool false) := (blk_cell BK399.out 2).trans rfl
                  have hcz135_3 : w18.cell? ⟨gb399, 3, none⟩ = some (.bool false) := (blk_cell BK399.out 3).trans rfl
                  have hfz135_0 := blk_frozen BK399.out 0
                  have hfz135_1 := blk_frozen BK399.out 1
                  have hfz135_2 := blk_frozen BK399.out 2
                  have hfz135_3 := blk_frozen BK399.out 3
                  go_wp2_with (first | (with_reducible refine rounds_step ?_) | (refine wp_loop_rounds 9 ?_))
                  go_ret
                  exact ⟨by first | rfl | (simp [errW_none, errW_some] <;> rfl) | (simp [*, errW_none, errW_some] <;> rfl), by repeat (first | (with_reducible first | exact HB.out | apply below_alloc | apply pw_below_drewN | apply below_drew1 | refine below_set ?_ GE393.out | refine below_set ?_ GE399.out) | exact HB.out)⟩
                · rw [if_neg c132] at H
                  have c132b0 : (t392 != a0) = false := by simpa using c132
                  (try (have c132b1 : decide (t392 = a0) = true := by simpa using c132))
                  (try (have c132b2 : (t392 == a0) = true := by simpa using c132))
                  (try (have c132b3 : (!(t392 == a0)) = false := by have h_ := c132; simp only [bne] at h_; first | exact h_ | simpa using h_))
                  clear c132
                  by_cases c136 : (t398 == a0) = true
                  · rw [if_pos c136] at H
                    have c136b0 : (t398 == a0) = true := c136
                    (try (have c136b1 : decide (t398 = a0) = true := by simpa using c136))
                    (try (have c136b2 : (t398 == a0) = true := by simpa using c136))
                    clear c136
                    have H' := Aside0.mk H
                    clear H
                    have hnb137 := NB393_399.out
                    have hnc137 := NB399_393.out
                    have hcz138_0 : w18.cell? ⟨gb393, 0, none⟩ = some (.bool t389) := (blk_cell BK393.out 0).trans rfl
                    have hcz138_1 : w18.cell? ⟨gb393, 1, none⟩ = some (.bool t390) := (blk_cell BK393.out 1).trans rfl
                    have hcz138_2 : w18.cell? ⟨gb393, 2, none⟩ = some (.bool t391) := (blk_cell BK393.out 2).trans rfl
                    have hcz138_3 : w18.cell? ⟨gb393, 3, none⟩ = some (.bool t392) := (blk_cell BK393.out 3).trans rfl
                    have hfz138_0 := blk_frozen BK393.out 0
                    have hfz138_1 := blk_frozen BK393.out 1
                    have hfz138_2 := blk_frozen BK393.out 2
                    have hfz138_3 := blk_frozen BK393.out 3
                    have hcz139_0 : w18.cell? ⟨gb399, 0, none⟩ = some (.bool false) := (blk_cell BK399.out 0).trans rfl
                    have hcz139_1 : w18.cell? ⟨gb399, 1, none⟩ = some (.bool false) := (blk_cell BK399.out 1).trans rfl
                    have hcz139_2 : w18.cell? ⟨gb399, 2, none⟩ = some (.bool false) := (blk_cell BK399.out 2).trans rfl
                    have hcz139_3 : w18.cell? ⟨gb399, 3, none⟩ = some (.bool false) := (blk_cell BK399.out 3).trans rfl
                    have hfz139_0 := blk_frozen BK399.out 0
                    have hfz139_1 := blk_frozen BK399.out 1
                    have hfz139_2 := blk_frozen BK399.out 2
                    have hfz139_3 := blk_frozen BK399.out 3
                    go_wp2_with (first | (with_reducible refine rounds_step ?_) | (refine wp_loop_rounds 9 ?_))
                    go_meet
                    case rel => exact ⟨_, (1), (by first | rfl | (simp; done) | (simp [*]; done)), H', ⟨by first | omega | exact Nat.le_refl _⟩, ⟨by (with_reducible repeat (first | refine blk_drewN ?_ _ | refine blk_drew ?_ | refine blk_alloc ?_ _)); refine blk_far ?_ NB393_399.out _; (with_reducible repeat (first | refine blk_drewN ?_ _ | refine blk_drew ?_ | refine blk_alloc ?_ _)); refine blk_far ?_ NB393_399.out _; (with_reducible repeat (first | refine blk_drewN ?_ _ | refine blk_drew ?_ | refine blk_alloc ?_ _)); refine blk_far ?_ NB393_399.out _; (with_reducible repeat (first | refine blk_drewN ?_ _ | refine blk_drew ?_ | refine blk_alloc ?_ _)); refine blk_far ?_ NB393_399.out _; (with_reducible repeat (first | refine blk_drewN ?_ _ | refine blk_drew ?_ | refine blk_alloc ?_ _)); exact BK393.out⟩, ⟨by (with_reducible repeat (first | refine blk_drewN ?_ _ | refine blk_drew ?_ | refine blk_alloc ?_ _)); refine blk_put (cs := #[.bool t395, .bool t396, .bool t397, .bool false]) ?_ 3 _ rfl; (with_reducible repeat (first | refine blk_drewN ?_ _ | refine blk_drew ?_ | refine blk_alloc ?_ _)); refine blk_put (cs := #[.bool t395, .bool t396, .bool false, .bool false]) ?_ 2 _ rfl; (with_reducible repeat (first | refine blk_drewN ?_ _ | refine blk_drew ?_ | refine blk_alloc ?_ _)); refine blk_put (cs := #[.bool t395, .bool false, .bool false, .bool false]) ?_ 1 _ rfl; (with_reducible repeat (first | refine blk_drewN ?_ _ | refine blk_drew ?_ | refine blk_alloc ?_ _)); refine blk_put (cs := #[.bool false, .bool false, .bool false, .bool false]) ?_ 0 _ rfl; (with_reducible repeat (first | refine blk_drewN ?_ _ | refine blk_drew ?_ | refine blk_alloc ?_ _)); exact BK399.out⟩, ⟨by repeat (first | (with_reducible first | exact HB.out | apply below_alloc | apply pw_below_drewN | apply below_drew1 | refine below_set ?_ GE393.out | refine below_set ?_ GE399.out) | exact HB.out)⟩⟩
                  · rw [if_neg c136] at H
                    have c136b0 : (t398 == a0) = false := by simpa using c136
                    (try (have c136b1 : decide (t398 = a0) = false := by simpa using c136))
                    (try (have c136b2 : (t398 == a0) = false := by simpa using c136))
                    (try (have c136b3 : ¬ (t398 = a0) := by simpa using c136))
                    clear c136
                    have H' := Aside0.mk H
                    clear H
                    have hnb140 := NB393_399.out
                    have hnc140 := NB399_393.out
                    have hcz141_0 : w18.cell? ⟨gb393, 0, none⟩ = some (.bool t389) := (blk_cell BK393.out 0).trans rfl
                    have hcz141_1 : w18.cell? ⟨gb393, 1, none⟩ = some (.bool t390) := (blk_cell BK393.out 1).trans rfl
                    have hcz141_2 : w18.cell? ⟨gb393, 2, none⟩ = some (.bool t391) := (blk_cell BK393.out 2).trans rfl
                    have hcz141_3 : w18.cell? ⟨gb393, 3, none⟩ = some (.bool t392) := (blk_cell BK393.out 3).trans rfl
                    have hfz141_0 := blk_frozen BK393.out 0
                    have hfz141_1 := blk_frozen BK393.out 1
                    have hfz141_2 := blk_frozen BK393.out 2
                    have hfz141_3 := blk_frozen BK393.out 3
                    have hcz142_0 : w18.cell? ⟨gb399, 0, none⟩ = some (.bool false) := (blk_cell BK399.out 0).trans rfl
                    have hcz142_1 : w18.cell? ⟨gb399, 1, none⟩ = some (.bool false) := (blk_cell BK399.out 1).trans rfl
                    have hcz142_2 : w18.cell? ⟨gb399, 2, none⟩ = some (.bool false) := (blk_cell BK399.out 2).trans rfl
                    have hcz142_3 : w18.cell? ⟨gb399, 3, none⟩ = some (.bool false) := (blk_cell BK399.out 3).trans rfl
                    have hfz142_0 := blk_frozen BK399.out 0
                    have hfz142_1 := blk_frozen BK399.out 1
                    have hfz142_2 := blk_frozen BK399.out 2
                    have hfz142_3 := blk_frozen BK399.out 3
                    go_wp2_with (first | (with_reducible refine rounds_step ?_) | (refine wp_loop_rounds 9 ?_))
                    go_meet
                    case rel => exact ⟨_, (0), (by first | rfl | (simp; done) | (simp [*]; done)), H', ⟨by first | omega | exact Nat.le_refl _⟩, ⟨by (with_reducible repeat (first | refine blk_drewN ?_ _ | refine blk_drew ?_ | refine blk_alloc ?_ _)); refine blk_far ?_ NB393_399.out _; (with_reducible repeat (first | refine blk_drewN ?_ _ | refine blk_drew ?_ | refine blk_alloc ?_ _)); refine blk_far ?_ NB393_399.out _; (with_reducible repeat (first | refine blk_drewN ?_ _ | refine blk_drew ?_ | refine blk_alloc ?_ _)); refine blk_far ?_ NB393_399.out _; (with_reducible repeat (first | refine blk_drewN ?_ _ | refine blk_drew ?_ | refine blk_alloc ?_ _)); refine blk_far ?_ NB393_399.out _; (with_reducible repeat (first | refine blk_drewN ?_ _ | refine blk_drew ?_ | refine blk_alloc ?_ _)); exact BK393.out⟩, ⟨by (with_reducible repeat (first | refine blk_drewN ?_ _ | refine blk_drew ?_ | refine blk_alloc ?_ _)); refine blk_put (cs := #[.bool t395, .bool t396, .bool t397, .bool false]) ?_ 3 _ rfl; (with_reducible repeat (first | refine blk_drewN ?_ _ | refine blk_drew ?_ | refine blk_alloc ?_ _)); refine blk_put (cs := #[.bool t395, .bool t396, .bool false, .bool false]) ?_ 2 _ rfl; (with_reducible repeat (first | refine blk_drewN ?_ _ | refine blk_drew ?_ | refine blk_alloc ?_ _)); refine blk_put (cs := #[.bool t395, .bool false, .bool false, .bool false]) ?_ 1 _ rfl; (with_reducible repeat (first | refine blk_drewN ?_ _ | refine blk_drew ?_ | refine blk_alloc ?_ _)); refine blk_put (cs := #[.bool false, .bool false, .bool false, .bool false]) ?_ 0 _ rfl; (with_reducible repeat (first | refine blk_drewN ?_ _ | refine blk_drew ?_ | refine blk_alloc ?_ _)); exact BK399.out⟩, ⟨by repeat (first | (with_reducible first | exact HB.out | apply below_alloc | apply pw_below_drewN | apply below_drew1 | refine below_set ?_ GE393.out | refine below_set ?_ GE399.out) | exact HB.out)⟩⟩
  case rest =>
    clear HC10
    try clear c1
    try clear c2
    try clear p2
    try clear c7
    try clear c8
    try clear c9
    try clear c10
    try clear c11
    try clear c12
    try clear c13
    try clear c14
    try clear c24
    try clear c24b0
    try clear c24b1
    try clear c24b2
    try clear c73
    try clear c73b0
    try clear c73b1
    try clear c73b2
    try clear c77
    try clear c77b0
    try clear c77b1
    try clear c77b2
    try clear c78
    try clear c81
    try clear c84
    try clear c84b0
    try clear c84b1
    try clear c84b2
    try clear c85
    try clear c88
    try clear c88b0
    try clear c88b1
    try clear c88b2
    try clear c89
    try clear c89b0
    try clear c89b1
    try clear c89b2
    try clear c90
    try clear c93
    try clear c93b0
    try clear c93b1
    try clear c93b2
    try clear c94
    try clear c94b0
    try clear c94b1
    try clear c94b2
    try clear c95
    try clear c98
    try clear c98b0
    try clear c98b1
    try clear c98b2
    try clear c99
    try clear c102
    try clear c105
    try clear c105b0
    try clear c105b1
    try clear c105b2
    try clear c106
    try clear c109
    try clear c109b0
    try clear c109b1
    try clear c109b2
    try clear c110
    try clear c113
    try clear c116
    try clear c116b0
    try clear c116b1
    try clear c116b2
    try clear c117
    try clear c120
    try clear c120b0
    try clear c120b1
    try clear c120b2
    try clear c121
    try clear c121b0
    try clear c121b1
    try clear c121b2
    try clear c122
    try clear c125
    try clear c125b0
    try clear c125b1
    try clear c125b2
    try clear c126
    try clear c129
    try clear c132
    try clear c132b0
    try clear c132b1
    try clear c132b2
    try clear c133
    try clear c136
    try clear c136b0
    try clear c136b1
    try clear c136b2
    try clear c137
    try clear c140
    try clear hcz100_0
    try clear hcz100_1
    try clear hcz100_2
    try clear hcz100_3
    try clear hcz101_0
    try clear hcz101_1
    try clear hcz101_2
    try clear hcz101_3
    try clear hcz103_0
    try clear hcz103_1
    try clear hcz103_2
    try clear hcz103_3
    try clear hcz104_0
    try clear hcz104_1
    try clear hcz104_2
    try clear hcz104_3
    try clear hcz107_0
    try clear hcz107_1
    try clear hcz107_2
    try clear hcz107_3
    try clear hcz108_0
    try clear hcz108_1
    try clear hcz108_2
    try clear hcz108_3
    try clear hcz111_0
    try clear hcz111_1
    try clear hcz111_2
    try clear hcz111_3
    try clear hcz112_0
    try clear hcz112_1
    try clear hcz112_2
    try clear hcz112_3
    try clear hcz114_0
    try clear hcz114_1
    try clear hcz114_2
    try clear hcz114_3
    try clear hcz115_0
    try clear hcz115_1
    try clear hcz115_2
    try clear hcz115_3
    try clear hcz118_0
    try clear hcz118_1
    try clear hcz118_2
    try clear hcz118_3
    try clear hcz119_0
    try clear hcz119_1
    try clear hcz119_2
    try clear hcz119_3
    try clear hcz123_0
    try clear hcz123_1
    try clear hcz123_2
    try clear hcz123_3
    try clear hcz124_0
    try clear hcz124_1
    try clear hcz124_2
    try clear hcz124_3
    try clear hcz127_0
    try clear hcz127_1
    try clear hcz127_2
    try clear hcz127_3
    try clear hcz128_0
    try clear hcz128_1
    try clear hcz128_2
    try clear hcz128_3
    try clear hcz130_0
    try clear hcz130_1
    try clear hcz130_2
    try clear hcz130_3
    try clear hcz131_0
    try clear hcz131_1
    try clear hcz131_2
    try clear hcz131_3
    try clear hcz134_0
    try clear hcz134_1
    try clear hcz134_2
    try clear hcz134_3
    try clear hcz135_0
    try clear hcz135_1
    try clear hcz135_2
    try clear hcz135_3
    try clear hcz138_0
    try clear hcz138_1
    try clear hcz138_2
    try clear hcz138_3
    try clear hcz139_0
    try clear hcz139_1
    try clear hcz139_2
    try clear hcz139_3
    try clear hcz141_0
    try clear hcz141_1
    try clear hcz141_2
    try clear hcz141_3
    try clear hcz142_0
    try clear hcz142_1
    try clear hcz142_2
    try clear hcz142_3
    try clear hcz76_3
    try clear hcz79_0
    try clear hcz79_1
    try clear hcz79_2
    try clear hcz79_3
    try clear hcz80_0
    try clear hcz80_1
    try clear hcz80_2
    try clear hcz80_3
    try clear hcz82_0
    try clear hcz82_1
    try clear hcz82_2
    try clear hcz82_3
    try clear hcz83_0
    try clear hcz83_1
    try clear hcz83_2
    try clear hcz83_3
    try clear hcz86_0
    try clear hcz86_1
    try clear hcz86_2
    try clear hcz86_3
    try clear hcz87_0
    try clear hcz87_1
    try clear hcz87_2
    try clear hcz87_3
    try clear hcz91_0
    try clear hcz91_1
    try clear hcz91_2
    try clear hcz91_3
    try clear hcz92_0
    try clear hcz92_1
    try clear hcz92_2
    try clear hcz92_3
    try clear hcz96_0
    try clear hcz96_1
    try clear hcz96_2
    try clear hcz96_3
    try clear hcz97_0
    try clear hcz97_1
    try clear hcz97_2
    try clear hcz97_3
    try clear hfz100_0
    try clear hfz100_1
    try clear hfz100_2
    try clear hfz100_3
    try clear hfz101_0
    try clear hfz101_1
    try clear hfz101_2
    try clear hfz101_3
    try clear hfz103_0
    try clear hfz103_1
    try clear hfz103_2
    try clear hfz103_3
    try clear hfz104_0
    try clear hfz104_1
    try clear hfz104_2
    try clear hfz104_3
    try clear hfz107_0
    try clear hfz107_1
    try clear hfz107_2
    try clear hfz107_3
    try clear hfz108_0
    try clear hfz108_1
    try clear hfz108_2
    try clear hfz108_3
    try clear hfz111_0
    try clear hfz111_1
    try clear hfz111_2
    try clear hfz111_3
    try clear hfz112_0
    try clear hfz112_1
    try clear hfz112_2
    try clear hfz112_3
    try clear hfz114_0
    try clear hfz114_1
    try clear hfz114_2
    try clear hfz114_3
    try clear hfz115_0
    try clear hfz115_1
    try clear hfz115_2
    try clear hfz115_3
    try clear hfz118_0
    try clear hfz118_1
    try clear hfz118_2
    try clear hfz118_3
    try clear hfz119_0
    try clear hfz119_1
    try clear hfz119_2
    try clear hfz119_3
    try clear hfz123_0
    try clear hfz123_1
    try clear hfz123_2
    try clear hfz123_3
    try clear hfz124_0
    try clear hfz124_1
    try clear hfz124_2
    try clear hfz124_3
    try clear hfz127_0
    try clear hfz127_1
    try clear hfz127_2
    try clear hfz127_3
    try clear hfz128_0
    try clear hfz128_1
    try clear hfz128_2
    try clear hfz128_3
    try clear hfz130_0
    try clear hfz130_1
    try clear hfz130_2
    try clear hfz130_3
    try clear hfz131_0
    try clear hfz131_1
    try clear hfz131_2
    try clear hfz131_3
    try clear hfz134_0
    try clear hfz134_1
    try clear hfz134_2
    try clear hfz134_3
    try clear hfz135_0
    try clear hfz135_1
    try clear hfz135_2
    try clear hfz135_3
    try clear hfz138_0
    try clear hfz138_1
    try clear hfz138_2
    try clear hfz138_3
    try clear hfz139_0
    try clear hfz139_1
    try clear hfz139_2
    try clear hfz139_3
    try clear hfz141_0
    try clear hfz141_1
    try clear hfz141_2
    try clear hfz141_3
    try clear hfz142_0
    try clear hfz142_1
    try clear hfz142_2
    try clear hfz142_3
    try clear hfz76_0
    try clear hfz76_1
    try clear hfz76_2
    try clear hfz76_3
    try clear hfz79_0
    try clear hfz79_1
    try clear hfz79_2
    try clear hfz79_3
    try clear hfz80_0
    try clear hfz80_1
    try clear hfz80_2
    try clear hfz80_3
    try clear hfz82_0
    try clear hfz82_1
    try clear hfz82_2
    try clear hfz82_3
    try clear hfz83_0
    try clear hfz83_1
    try clear hfz83_2
    try clear hfz83_3
    try clear hfz86_0
    try clear hfz86_1
    try clear hfz86_2
    try clear hfz86_3
    try clear hfz87_0
    try clear hfz87_1
    try clear hfz87_2
    try clear hfz87_3
    try clear hfz91_0
    try clear hfz91_1
    try clear hfz91_2
    try clear hfz91_3
    try clear hfz92_0
    try clear hfz92_1
    try clear hfz92_2
    try clear hfz92_3
    try clear hfz96_0
    try clear hfz96_1
    try clear hfz96_2
    try clear hfz96_3
    try clear hfz97_0
    try clear hfz97_1
    try clear hfz97_2
    try clear hfz97_3
    obtain ⟨kq, x10_9, rfl, HA, HJ9, BK393, BK399, HB⟩ := hcut
    cases kq with
    | zero => exact absurd HA.out (by simp [busbarlaw03_WiresSay.j0])
    | succ kj9 =>
      have H := HA.out
      clear HA
      simp only [busbarlaw03_WiresSay.j0] at H
      replace H := Option.bind_eq_some_iff.mp H
      obtain ⟨t400, A1430, H⟩ := H
      replace H : (if t400 = 2 then (if x10_9 ≥ 3 then ((wires_Drive.f false a0).bind fun t401 => ((wires_Lines_Count.f t401).bind fun t402 => (if t402 = 1 then ((wires_Pulse.f false).bind fun t403 => ((wires_Pulse.f true).bind fun t404 => ((wires_Or.f kj9 (([t403, t404] : List Int))).bind fun t408 => ((wires_Lines_Count.f t408).bind fun t409 => (if t409 = 4 then ((busbarlaw03_one.f).bind fun t410 => (some t410)) else (some false)))))) else (some false)))) else (some false)) else (some false)) = some r := H
      have A143 := Aside0.mk A1430
      clear A1430
      by_cases c144 : t400 = 2
      · rw [if_pos c144] at H
        have c144b0 : (t400 == 2) = true := beq_iff_eq.mpr c144
        have c144b1 : (t400 != 2) = false := bne_eq_false_iff_eq.mpr c144
        clear c144
        by_cases c145 : x10_9 ≥ 3
        · rw [if_pos c145] at H
          have c145b0 : decide (3 ≤ x10_9) = true := decide_eq_true c145
          (try (have c145b1 : decide ((x10_9 : Int) < 3) = false := decide_eq_false (Int.not_lt.mpr c145)))
          clear c145
          replace H := Option.bind_eq_some_iff.mp H
          obtain ⟨t401, A1460, H⟩ := H
          replace H : ((wires_Lines_Count.f t401).bind fun t402 => (if t402 = 1 then ((wires_Pulse.f false).bind fun t403 => ((wires_Pulse.f true).bind fun t404 => ((wires_Or.f kj9 (([t403, t404] : List Int))).bind fun t408 => ((wires_Lines_Count.f t408).bind fun t409 => (if t409 = 4 then ((busbarlaw03_one.f).bind fun t410 => (some t410)) else (some false)))))) else (some false))) = some r := H
          have A146 := Aside0.mk A1460
          clear A1460
          replace H := Option.bind_eq_some_iff.mp H
          obtain ⟨t402, A1470, H⟩ := H
          replace H : (if t402 = 1 then ((wires_Pulse.f false).bind fun t403 => ((wires_Pulse.f true).bind fun t404 => ((wires_Or.f kj9 (([t403, t404] : List Int))).bind fun t408 => ((wires_Lines_Count.f t408).bind fun t409 => (if t409 = 4 then ((busbarlaw03_one.f).bind fun t410 => (some t410)) else (some false)))))) else (some false)) = some r := H
          have A147 := Aside0.mk A1470
          clear A1470
          by_cases c148 : t402 = 1
          · rw [if_pos c148] at H
            have c148b0 : (t402 == 1) = true := beq_iff_eq.mpr c148
            have c148b1 : (t402 != 1) = false := bne_eq_false_iff_eq.mpr c148
            clear c148
            replace H := Option.bind_eq_some_iff.mp H
            obtain ⟨t403, A1490, H⟩ := H
            replace H : ((wires_Pulse.f true).bind fun t404 => ((wires_Or.f kj9 (([t403, t404] : List Int))).bind fun t408 => ((wires_Lines_Count.f t408).bind fun t409 => (if t409 = 4 then ((busbarlaw03_one.f).bind fun t410 => (some t410)) else (some false))))) = some r := H
            have A149 := Aside0.mk A1490
            clear A1490
            replace H := Option.bind_eq_some_iff.mp H
            obtain ⟨t404, A1500, H⟩ := H
            replace H : ((wires_Or.f kj9 (([t403, t404] : List Int))).bind fun t408 => ((wires_Lines_Count.f t408).bind fun t409 => (if t409 = 4 then ((busbarlaw03_one.f).bind fun t410 => (some t410)) else (some false)))) = some r := H
            have A150 := Aside0.mk A1500
            clear A1500
            obtain ⟨y405, hy405⟩ : ∃ y_ : List Int, y_ = (([t403, t404] : List Int)) := ⟨_, rfl⟩
            replace H : ((wires_Or.f kj9 y405).bind fun t408 => ((wires_Lines_Count.f t408).bind fun t409 => (if t409 = 4 then ((busbarlaw03_one.f).bind fun t410 => (some t410)) else (some false)))) = some r := by first | (rw [hy405]; with_reducible exact H) | (have H2_ := (Option.bind_some _ _).symm.trans H; rw [hy405]; with_reducible exact H2_) | (have H2_ := (Option.bind_some _ _).symm.trans H; with_reducible exact H2_) | with_reducible exact H | (rw [hy405]; exact H) | exact H
            have Ny405 := Aside0.mk hy405
            clear hy405
            replace H := Option.bind_eq_some_iff.mp H
            obtain ⟨t408, A1510, H⟩ := H
            replace H : ((wires_Lines_Count.f t408).bind fun t409 => (if t409 = 4 then ((busbarlaw03_one.f).bind fun t410 => (some t410)) else (some false))) = some r := H
            have A151 := Aside0.mk A1510
            clear A1510
            replace H := Option.bind_eq_some_iff.mp H
            obtain ⟨t409, A1520, H⟩ := H
            replace H : (if t409 = 4 then ((busbarlaw03_one.f).bind fun t410 => (some t410)) else (some false)) = some r := H
            have A152 := Aside0.mk A1520
            clear A1520
            by_cases c153 : t409 = 4
            · rw [if_pos c153] at H
              have c153b0 : (t409 == 4) = true := beq_iff_eq.mpr c153
              have c153b1 : (t409 != 4) = false := bne_eq_false_iff_eq.mpr c153
              clear c153
              replace H := Option.bind_eq_some_iff.mp H
              obtain ⟨t410, A1540, H⟩ := H
              replace H : (some t410) = some r := H
              have A154 := Aside0.mk A1540
              clear A1540
              obtain rfl := Option.some.inj H
              go_wp2_with (first | (with_reducible refine rounds_step ?_) | (refine wp_loop_rounds 9 ?_) | ((with_reducible refine gate_callee (f := 23) rfl ?_); refine goesL_ (some 42) rfl rfl Try.func23 (by kernel_rfl) rfl #[.int .u8 t388] rfl (by (try simp only [List.map_toArray, List.map_cons, List.map_nil]); first | done | rfl | (simp only [List.length_drop, List.length_take]; rfl)) ?_; (with_reducible refine (wires_Lines_Count.calls t388 t400 _ A143.out).mono ?_); rintro e w' ⟨rfl, ⟨nd, rfl⟩⟩; refine ⟨_, rfl, ?_⟩) | (go_at_call 20; (with_reducible refine (wires_Drive.calls false a0 t401 _ A146.out).mono ?_); rintro e w' ⟨rfl, ⟨nd, rfl⟩⟩) | (go_at_call 23; (with_reducible refine (wires_Lines_Count.calls t401 t402 _ A147.out).mono ?_); rintro e w' ⟨rfl, ⟨nd, rfl⟩⟩) | (go_at_call 19; (with_reducible refine (wires_Pulse.calls false t403 _ A149.out).mono ?_); rintro e w' ⟨rfl, ⟨nd, rfl⟩⟩) | (go_at_call 19; (with_reducible refine (wires_Pulse.calls true t404 _ A150.out).mono ?_); rintro e w' ⟨rfl, ⟨nd, rfl⟩⟩) | ((with_reducible refine gate_dst (N := 57) rfl ?_); (try (refine gate_guard (by rfl) ?_; dsimp only)); refine Kd.R_lit (Kd.int .u8) _ 23 ?hg (N := 57) ?hd (xs := ([t403, t404] : List Int)) (inner := [.int .u8 t403, .int .u8 t404]) (ok := fun _ => True) (okp := fun _ => True) ?hr ?hp (fun _ hk => hk) trivial (Below.refl _ _) (Nat.le_refl _) (by simp) ?_; (case hd => rfl); (case hg => rfl); (case hr => first | (go_simp; done) | (go_simp; rfl)); (case hp => exact (Reps.one (show Kd.M (Kd.int .u8) _ _ _ t403 [.int .u8 t403] from rfl) (Reps.one (show Kd.M (Kd.int .u8) _ _ _ t404 [.int .u8 t404] from rfl) (Reps.none _ _)))); intro v406 w155 ho156 hb hg_ hnew_; clear hg_ hnew_; (first | rw [← Ny405.out] at ho156 | (simp only [Int.reduceToNat] at ho156; rw [← Ny405.out] at ho156)); have n0_ := Aside0.mk (Kd.R_lower ho156 (below_size (by repeat (first | (with_reducible first | exact HB.out | apply below_alloc | apply pw_below_drewN | apply below_drew1 | refine below_set ?_ GE393.out | refine below_set ?_ GE399.out) | exact HB.out)))); have n1_ := Aside0.mk (blk_below (g := gb393) (o := .cells #[.bool t389, .bool t390, .bool t391, .bool t392] 40 (0, 0)) (by (with_reducible repeat (first | refine blk_drewN ?_ _ | refine blk_drew ?_ | refine blk_alloc ?_ _)); exact BK393.out) hb); have n2_ := Aside0.mk (blk_below (g := gb399) (o := .cells #[.bool t395, .bool t396, .bool t397, .bool t398] 40 (0, 0)) (by (with_reducible repeat (first | refine blk_drewN ?_ _ | refine blk_drew ?_ | refine blk_alloc ?_ _)); exact BK399.out) hb); have n3_ := Aside0.mk (below_step (by repeat (first | (with_reducible first | exact HB.out | apply below_alloc | apply pw_below_drewN | apply below_drew1 | refine below_set ?_ GE393.out | refine below_set ?_ GE399.out) | exact HB.out)) hb); clear BK393; clear BK399; clear HB; have HO407 := n0_; have BK393 := n1_; have BK399 := n2_; have HB := n3_; clear n0_ n1_ n2_ n3_; clear hb ho156; obtain ⟨Ao157, co157, eo157⟩ := Kd.R_slice HO407.out; subst eo157) | (go_at_call 15; (with_reducible refine (wires_Or.calls kj9 _ _ y405 t408 _ ?side1 ?side2 A151.out).mono ?_); (case side1 => repeat (first | exact (Kd.R_reads' HO407.out).2.2 | (with_reducible refine Kd.C_alloc ?_ _) | (with_reducible refine Kd.C_drewN ?_ _) | (with_reducible refine Kd.C_drew ?_))); (case side2 => exact (Kd.R_reads' HO407.out).2.1); rintro e w' ⟨rfl, ⟨nd, rfl⟩⟩) | (go_at_call 23; (with_reducible refine (wires_Lines_Count.calls t408 t409 _ A152.out).mono ?_); rintro e w' ⟨rfl, ⟨nd, rfl⟩⟩) | (go_at_call 22; (with_reducible refine (busbarlaw03_one.calls  t410 _ A154.out).mono ?_); rintro e w158 ⟨rfl, hb⟩; have n0_ := Aside0.mk (Kd.R_below (by (with_reducible repeat (first | apply Kd.R_alloc | apply Kd.R_drewN | apply Kd.R_drew)); exact HO407.out) hb); have n1_ := Aside0.mk (blk_below (g := gb393) (o := .cells #[.bool t389, .bool t390, .bool t391, .bool t392] 40 (0, 0)) (by (with_reducible repeat (first | refine blk_drewN ?_ _ | refine blk_drew ?_ | refine blk_alloc ?_ _)); exact BK393.out) hb); have n2_ := Aside0.mk (blk_below (g := gb399) (o := .cells #[.bool t395, .bool t396, .bool t397, .bool t398] 40 (0, 0)) (by (with_reducible repeat (first | refine blk_drewN ?_ _ | refine blk_drew ?_ | refine blk_alloc ?_ _)); exact BK399.out) hb); have n3_ := Aside0.mk (below_step (by repeat (first | (with_reducible first | exact HB.out | apply below_alloc | apply pw_below_drewN | apply below_drew1 | refine below_set ?_ GE393.out | refine below_set ?_ GE399.out) | exact HB.out)) hb); clear HO407; clear BK393; clear BK399; clear HB; have HO407 := n0_; have BK393 := n1_; have BK399 := n2_; have HB := n3_; clear n0_ n1_ n2_ n3_; (try clear hb); (try clear hb2); (try clear hk); (try clear hi)))
              go_ret
              exact ⟨by first | rfl | (simp [errW_none, errW_some] <;> rfl) | (simp [*, errW_none, errW_some] <;> rfl), by repeat (first | (with_reducible first | exact HB.out | apply below_alloc | apply pw_below_drewN | apply below_drew1 | refine below_set ?_ GE393.out | refine below_set ?_ GE399.out) | exact HB.out)⟩
            · rw [if_neg c153] at H
              have c153b0 : (t409 == 4) = false := beq_eq_false_iff_ne.mpr c153
              have c153b1 : (t409 != 4) = true := bne_iff_ne.mpr c153
              obtain rfl := Option.some.inj H
              go_wp2_with (first | (with_reducible refine rounds_step ?_) | (refine wp_loop_rounds 9 ?_) | ((with_reducible refine gate_callee (f := 23) rfl ?_); refine goesL_ (some 42) rfl rfl Try.func23 (by kernel_rfl) rfl #[.int .u8 t388] rfl (by (try simp only [List.map_toArray, List.map_cons, List.map_nil]); first | done | rfl | (simp only [List.length_drop, List.length_take]; rfl)) ?_; (with_reducible refine (wires_Lines_Count.calls t388 t400 _ A143.out).mono ?_); rintro e w' ⟨rfl, ⟨nd, rfl⟩⟩; refine ⟨_, rfl, ?_⟩) | (go_at_call 20; (with_reducible refine (wires_Drive.calls false a0 t401 _ A146.out).mono ?_); rintro e w' ⟨rfl, ⟨nd, rfl⟩⟩) | (go_at_call 23; (with_reducible refine (wires_Lines_Count.calls t401 t402 _ A147.out).mono ?_); rintro e w' ⟨rfl, ⟨nd, rfl⟩⟩) | (go_at_call 19; (with_reducible refine (wires_Pulse.calls false t403 _ A149.out).mono ?_); rintro e w' ⟨rfl, ⟨nd, rfl⟩⟩) | (go_at_call 19; (with_reducible refine (wires_Pulse.calls true t404 _ A150.out).mono ?_); rintro e w' ⟨rfl, ⟨nd, rfl⟩⟩) | ((with_reducible refine gate_dst (N := 57) rfl ?_); (try (refine gate_guard (by rfl) ?_; dsimp only)); refine Kd.R_lit (Kd.int .u8) _ 23 ?hg (N := 57) ?hd (xs := ([t403, t404] : List Int)) (inner := [.int .u8 t403, .int .u8 t404]) (ok := fun _ => True) (okp := fun _ => True) ?hr ?hp (fun _ hk => hk) trivial (Below.refl _ _) (Nat.le_refl _) (by simp) ?_; (case hd => rfl); (case hg => rfl); (case hr => first | (go_simp; done) | (go_simp; rfl)); (case hp => exact (Reps.one (show Kd.M (Kd.int .u8) _ _ _ t403 [.int .u8 t403] from rfl) (Reps.one (show Kd.M (Kd.int .u8) _ _ _ t404 [.int .u8 t404] from rfl) (Reps.none _ _)))); intro v406 w159 ho160 hb hg_ hnew_; clear hg_ hnew_; (first | rw [← Ny405.out] at ho160 | (simp only [Int.reduceToNat] at ho160; rw [← Ny405.out] at ho160)); have n0_ := Aside0.mk (Kd.R_lower ho160 (below_size (by repeat (first | (with_reducible first | exact HB.out | apply below_alloc | apply pw_below_drewN | apply below_drew1 | refine below_set ?_ GE393.out | refine below_set ?_ GE399.out) | exact HB.out)))); have n1_ := Aside0.mk (blk_below (g := gb393) (o := .cells #[.bool t389, .bool t390, .bool t391, .bool t392] 40 (0, 0)) (by (with_reducible repeat (first | refine blk_drewN ?_ _ | refine blk_drew ?_ | refine blk_alloc ?_ _)); exact BK393.out) hb); have n2_ := Aside0.mk (blk_below (g := gb399) (o := .cells #[.bool t395, .bool t396, .bool t397, .bool t398] 40 (0, 0)) (by (with_reducible repeat (first | refine blk_drewN ?_ _ | refine blk_drew ?_ | refine blk_alloc ?_ _)); exact BK399.out) hb); have n3_ := Aside0.mk (below_step (by repeat (first | (with_reducible first | exact HB.out | apply below_alloc | apply pw_below_drewN | apply below_drew1 | refine below_set ?_ GE393.out | refine below_set ?_ GE399.out) | exact HB.out)) hb); clear BK393; clear BK399; clear HB; have HO407 := n0_; have BK393 := n1_; have BK399 := n2_; have HB := n3_; clear n0_ n1_ n2_ n3_; clear hb ho160; obtain ⟨Ao161, co161, eo161⟩ := Kd.R_slice HO407.out; subst eo161) | (go_at_call 15; (with_reducible refine (wires_Or.calls kj9 _ _ y405 t408 _ ?side1 ?side2 A151.out).mono ?_); (case side1 => repeat (first | exact (Kd.R_reads' HO407.out).2.2 | (with_reducible refine Kd.C_alloc ?_ _) | (with_reducible refine Kd.C_drewN ?_ _) | (with_reducible refine Kd.C_drew ?_))); (case side2 => exact (Kd.R_reads' HO407.out).2.1); rintro e w' ⟨rfl, ⟨nd, rfl⟩⟩) | (go_at_call 23; (with_reducible refine (wires_Lines_Count.calls t408 t409 _ A152.out).mono ?_); rintro e w' ⟨rfl, ⟨nd, rfl⟩⟩))
              go_ret
              exact ⟨by first | rfl | (simp [errW_none, errW_some] <;> rfl) | (simp [*, errW_none, errW_some] <;> rfl), by repeat (first | (with_reducible first | exact HB.out | apply below_alloc | apply pw_below_drewN | apply below_drew1 | refine below_set ?_ GE393.out | refine below_set ?_ GE399.out) | exact HB.out)⟩
          · rw [if_neg c148] at H
            have c148b0 : (t402 == 1) = false := beq_eq_false_iff_ne.mpr c148
            have c148b1 : (t402 != 1) = true := bne_iff_ne.mpr c148
            obtain rfl := Option.some.inj H
            go_wp2_with (first | (with_reducible refine rounds_step ?_) | (refine wp_loop_rounds 9 ?_) | ((with_reducible refine gate_callee (f := 23) rfl ?_); refine goesL_ (some 42) rfl rfl Try.func23 (by kernel_rfl) rfl #[.int .u8 t388] rfl (by (try simp only [List.map_toArray, List.map_cons, List.map_nil]); first | done | rfl | (simp only [List.length_drop, List.length_take]; rfl)) ?_; (with_reducible refine (wires_Lines_Count.calls t388 t400 _ A143.out).mono ?_); rintro e w' ⟨rfl, ⟨nd, rfl⟩⟩; refine ⟨_, rfl, ?_⟩) | (go_at_call 20; (with_reducible refine (wires_Drive.calls false a0 t401 _ A146.out).mono ?_); rintro e w' ⟨rfl, ⟨nd, rfl⟩⟩) | (go_at_call 23; (with_reducible refine (wires_Lines_Count.calls t401 t402 _ A147.out).mono ?_); rintro e w' ⟨rfl, ⟨nd, rfl⟩⟩))
            go_ret
            exact ⟨by first | rfl | (simp [errW_none, errW_some] <;> rfl) | (simp [*, errW_none, errW_some] <;> rfl), by repeat (first | (with_reducible first | exact HB.out | apply below_alloc | apply pw_below_drewN | apply below_drew1 | refine below_set ?_ GE393.out | refine below_set ?_ GE399.out) | exact HB.out)⟩
        · rw [if_neg c145] at H
          have c145b0 : decide (3 ≤ x10_9) = false := decide_eq_false c145
          (try (have c145b1 : decide ((x10_9 : Int) < 3) = true := decide_eq_true (Int.not_le.mp c145)))
          clear c145
          obtain rfl := Option.some.inj H
          go_wp2_with (first | (with_reducible refine rounds_step ?_) | (refine wp_loop_rounds 9 ?_) | ((with_reducible refine gate_callee (f := 23) rfl ?_); refine goesL_ (some 42) rfl rfl Try.func23 (by kernel_rfl) rfl #[.int .u8 t388] rfl (by (try simp only [List.map_toArray, List.map_cons, List.map_nil]); first | done | rfl | (simp only [List.length_drop, List.length_take]; rfl)) ?_; (with_reducible refine (wires_Lines_Count.calls t388 t400 _ A143.out).mono ?_); rintro e w' ⟨rfl, ⟨nd, rfl⟩⟩; refine ⟨_, rfl, ?_⟩))
          go_ret
          exact ⟨by first | rfl | (simp [errW_none, errW_some] <;> rfl) | (simp [*, errW_none, errW_some] <;> rfl), by repeat (first | (with_reducible first | exact HB.out | apply below_alloc | apply pw_below_drewN | apply below_drew1 | refine below_set ?_ GE393.out | refine below_set ?_ GE399.out) | exact HB.out)⟩
      · rw [if_neg c144] at H
        have c144b0 : (t400 == 2) = false := beq_eq_false_iff_ne.mpr c144
        have c144b1 : (t400 != 2) = true := bne_iff_ne.mpr c144
        obtain rfl := Option.some.inj H
        go_wp2_with (first | (with_reducible refine rounds_step ?_) | (refine wp_loop_rounds 9 ?_) | ((with_reducible refine gate_callee (f := 23) rfl ?_); refine goesL_ (some 42) rfl rfl Try.func23 (by kernel_rfl) rfl #[.int .u8 t388] rfl (by (try simp only [List.map_toArray, List.map_cons, List.map_nil]); first | done | rfl | (simp only [List.length_drop, List.length_take]; rfl)) ?_; (with_reducible refine (wires_Lines_Count.calls t388 t400 _ A143.out).mono ?_); rintro e w' ⟨rfl, ⟨nd, rfl⟩⟩; refine ⟨_, rfl, ?_⟩))
        go_ret
        exact ⟨by first | rfl | (simp [errW_none, errW_some] <;> rfl) | (simp [*, errW_none, errW_some] <;> rfl), by repeat (first | (with_reducible first | exact HB.out | apply below_alloc | apply pw_below_drewN | apply below_drew1 | refine below_set ?_ GE393.out | refine below_set ?_ GE399.out) | exact HB.out)⟩

/-- THE ONE PURE STATEMENT of busbarlaw03_WiresSay: yours. -/
def busbarlaw03_WiresSay.Pure : Prop := ∀ (a0 : Bool) (a1 : Int) (a2 : Bool), (Lit.int .i64 a1).wf = true → ∃ k, busbarlaw03_WiresSay.f k a0 a1 a2 = some true
theorem busbarlaw03_WiresSay.walk (P : busbarlaw03_WiresSay.Pure) (a0 : Bool) (a1 : Int) (a2 : Bool) (w : World) (w1 : (Lit.int .i64 a1).wf = true) :
    Calls Try.prog 11 #[.bool a0, .int .i64 a1, .bool a2] w fun e w' => e = .returned (.bool true) ∧ Below w.heap.size w w' := by
  obtain ⟨k, h⟩ := P a0 a1 a2 w1
  refine (busbarlaw03_WiresSay.calls k a0 a1 a2 true w h).mono ?_
  rintro e w' ⟨rfl, hd⟩
  exact ⟨rfl, hd⟩

end Go.Proofs.Ytbidfjngmiggpaa.Q
