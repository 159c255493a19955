import Derived.Test.YtbidfjngmiggpaaRdWiresSay
import Derived.Test.YtbidfjngmiggpaaL03
set_option linter.unusedVariables false
set_option linter.unusedSimpArgs false
namespace Go.Proofs.Ytbidfjngmiggpaa.Pure
open Go Go.RowKit Go.Proofs.YtbidfjngmiggpaaW.PrintWords Go.Proofs.YtbidfjngmiggpaaW.PrintLast Go.Proofs.YtbidfjngmiggpaaW.PrintMore Go.Proofs.Ytbidfjngmiggpaa.Q Go.Proofs.Ytbidfjngmiggpaa.RdWiresSay Go.Proofs.Ytbidfjngmiggpaa.L03 Go.Proofs.Ytbidfjngmiggpaa.PBase

theorem WiresSay (a0 : Bool) (a1 : Int) (a2 : Bool) (w1 : (Lit.int .i64 a1).wf = true) :
    ∃ k, busbarlaw03_WiresSay.f k a0 a1 a2 = some true := by
  have fin : ∀ (a0 a2 : Bool) (i : Fin 5), busbarlaw03_WiresSay.f 20 a0 (i.val : Int) a2 = some true := by decide +kernel
  by_cases h : 0 ≤ a1 ∧ a1 ≤ 3
  · refine ⟨20, ?_⟩
    have := fin a0 a2 ⟨a1.toNat, by omega⟩
    rw [show ((⟨a1.toNat, by omega⟩ : Fin 5).val : Int) = a1 by simp; omega] at this
    exact this
  · refine ⟨20, ?_⟩
    have out : ∀ (l i : Int) (b : Bool), ¬ (0 ≤ i ∧ i ≤ 3) → wires_Lines_Set.f l i b = some l := by
      intro l i b hi
      unfold wires_Lines_Set.f wires_is.f
      by_cases h0 : i ≥ 0
      · rw [if_pos h0, Option.bind_some, decide_eq_false (by omega), if_neg (by decide)]
      · rw [if_neg h0, Option.bind_some, if_neg (by decide)]
    have : busbarlaw03_WiresSay.f 20 a0 4 a2 = some true := fin a0 a2 ⟨4, by decide⟩
    rw [← this]
    unfold busbarlaw03_WiresSay.f
    simp only [out _ a1 _ h, out _ 4 _ (by decide)]

end Go.Proofs.Ytbidfjngmiggpaa.Pure
