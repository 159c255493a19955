import Derived.Test.YtbidfjngmiggpaaRdWiresTell
import Derived.Test.YtbidfjngmiggpaaL03
set_option linter.unusedVariables false
set_option linter.unusedSimpArgs false
namespace Go.Proofs.Ytbidfjngmiggpaa.Pure
open Go Go.RowKit Go.Proofs.YtbidfjngmiggpaaW.PrintWords Go.Proofs.YtbidfjngmiggpaaW.PrintLast Go.Proofs.YtbidfjngmiggpaaW.PrintMore Go.Proofs.Ytbidfjngmiggpaa.Q Go.Proofs.Ytbidfjngmiggpaa.RdWiresTell Go.Proofs.Ytbidfjngmiggpaa.L03 Go.Proofs.Ytbidfjngmiggpaa.PBase

theorem Tell_fin : ∀ (n : Fin 256) (i : Fin 5) (b : Bool), busbarlaw03_WiresTell.f 40 (n.val : Int) (i.val : Int) b = some true := by decide +kernel
theorem Tell_l1 (x0 x1 x7 : Int) (x2 : Bool) (h : ¬ (0 ≤ x1 ∧ x1 ≤ 3)) : ∀ (k : Nat) (x12 : Int), 0 ≤ x12 → x12 ≤ 4 →
    busbarlaw03_WiresTell.l1 k x0 x1 x2 x7 x0 x12 = busbarlaw03_WiresTell.l1 k x0 4 x2 x7 x0 x12 := by
  intro k
  induction k with
  | zero => intro x12 _ _; rfl
  | succ k ih =>
    intro x12 h0 h4
    rw [busbarlaw03_WiresTell.l1, busbarlaw03_WiresTell.l1]
    by_cases hl : x12 < 4
    · rw [if_pos hl, if_pos hl]
      have e : wrap64 (x12 + 1) = x12 + 1 := w64 _ (by omega) (by omega)
      simp only [if_neg (show ¬ x12 = x1 by omega), if_neg (show ¬ x12 = 4 by omega), e, ih (x12 + 1) (by omega) (by omega)]
    · rw [if_neg hl, if_neg hl, High_out x0 x1 (by omega), High_out x0 4 (by omega), RHigh_out x7 x1 (by omega), RHigh_out x7 4 (by omega)]
      simp only [Option.bind_some, if_pos trivial, if_pos (rfl : x0 = x0)]
      by_cases hp : x1 ≥ 0
      · simp only [if_pos hp, if_neg (show ¬ x1 ≤ 3 by omega), if_pos (show (4 : Int) ≥ 0 by decide), if_neg (show ¬ (4 : Int) ≤ 3 by decide)]
      · simp only [if_neg hp, if_pos (show (4 : Int) ≥ 0 by decide), if_neg (show ¬ (4 : Int) ≤ 3 by decide)]
theorem Tell_out (x0 x1 x7 : Int) (x2 : Bool) (h : ¬ (0 ≤ x1 ∧ x1 ≤ 3)) : ∀ (k : Nat),
    (∀ (x9 : Int) (b0 b1 b2 b3 : Bool), busbarlaw03_WiresTell.l0 k x0 x1 x2 x7 x9 b0 b1 b2 b3 = busbarlaw03_WiresTell.l0 k x0 4 x2 x7 x9 b0 b1 b2 b3) ∧
    (∀ (x9 : Int) (c b0 b1 b2 b3 : Bool), busbarlaw03_WiresTell.j1 k x0 x1 x2 x7 x9 c b0 b1 b2 b3 = busbarlaw03_WiresTell.j1 k x0 4 x2 x7 x9 c b0 b1 b2 b3) := by
  have out : ∀ (l i : Int) (b : Bool), ¬ (0 ≤ i ∧ i ≤ 3) → wires_Lines_Set.f l i b = some l := by
    intro l i b hi
    unfold wires_Lines_Set.f wires_is.f
    by_cases h0 : i ≥ 0
    · rw [if_pos h0, Option.bind_some, decide_eq_false (by omega), if_neg (by decide)]
    · rw [if_neg h0, Option.bind_some, if_neg (by decide)]
  intro k
  induction k with
  | zero => exact ⟨fun _ _ _ _ _ => rfl, fun _ _ _ _ _ _ => rfl⟩
  | succ k ih =>
    refine ⟨fun x9 b0 b1 b2 b3 => ?_, fun x9 c b0 b1 b2 b3 => ?_⟩
    · rw [busbarlaw03_WiresTell.l0, busbarlaw03_WiresTell.l0, out x0 x1 x2 h, out x0 4 x2 (by decide)]
      simp only [ih.2, Option.bind_some, Tell_l1 x0 x1 x7 x2 h k 0 (by decide) (by decide)]
    · rw [busbarlaw03_WiresTell.j1, busbarlaw03_WiresTell.j1]
      simp only [ih.1]
theorem WiresTell (a0 : Int) (a1 : Int) (a2 : Bool) (w0 : (Lit.int .u8 a0).wf = true) (w1 : (Lit.int .i64 a1).wf = true) :
    ∃ k, busbarlaw03_WiresTell.f k a0 a1 a2 = some true := by
  obtain ⟨a, rfl⟩ := Int.eq_ofNat_of_zero_le (wf8 w0).1
  have ha : a < 256 := by have := (wf8 w0).2; omega
  refine ⟨40, ?_⟩
  by_cases h : 0 ≤ a1 ∧ a1 ≤ 3
  · have := Tell_fin ⟨a, ha⟩ ⟨a1.toNat, by omega⟩ a2
    rw [show ((⟨a1.toNat, by omega⟩ : Fin 5).val : Int) = a1 by simp; omega] at this
    exact this
  · have := Tell_fin ⟨a, ha⟩ ⟨4, by decide⟩ a2
    rw [← this]
    unfold busbarlaw03_WiresTell.f
    simp only [(Tell_out (a : Int) a1 (wrap64 (a : Int)) a2 h 40).1]
    rfl

end Go.Proofs.Ytbidfjngmiggpaa.Pure
