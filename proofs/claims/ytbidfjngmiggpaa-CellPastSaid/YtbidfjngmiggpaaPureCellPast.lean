import Derived.Test.YtbidfjngmiggpaaRdCellPast
import Derived.Test.YtbidfjngmiggpaaL01
set_option linter.unusedVariables false
set_option linter.unusedSimpArgs false
namespace Go.Proofs.Ytbidfjngmiggpaa.Pure
open Go Go.RowKit Go.Proofs.YtbidfjngmiggpaaW.PrintWords Go.Proofs.YtbidfjngmiggpaaW.PrintLast Go.Proofs.YtbidfjngmiggpaaW.PrintMore Go.Proofs.Ytbidfjngmiggpaa.Q Go.Proofs.Ytbidfjngmiggpaa.RdCellPast Go.Proofs.Ytbidfjngmiggpaa.L01 Go.Proofs.Ytbidfjngmiggpaa.PBase

theorem CellPast (l0 : List (Bool)) (a1 : Bool) (hm0 : l0.length ≤ maxLen) (hw0 : (∀ a ∈ l0, (fun _ : Bool => True) a)) :
    ∃ k, busbarlaw01_CellPast.f k l0 a1 = some true := by
  have hone : Ev (fun k => (busbarlaw01_one.f k).bind fun t => some t) true := Ev.bind one_is (Ev.now _)
  refine Ev.rounds (r := true) ?_
  unfold busbarlaw01_CellPast.f
  by_cases h1 : (l0.length : Int) > 200
  · simp only [if_pos h1]
    exact Ev.step (fun k => by simp only [busbarlaw01_CellPast.j0, if_true]) hone
  simp only [if_neg h1]
  by_cases h2 : l0.length = 0
  · simp only [show ((l0.length : Int) == 0) = true by simp [h2]]
    exact Ev.step (fun k => by simp only [busbarlaw01_CellPast.j0, if_true]) hone
  simp only [show ((l0.length : Int) == 0) = false by simp; exact fun h => h2 (by rw [h]; rfl)]
  have hw := wave_length l0
  have hlen : (wave l0).length / 20 = l0.length := by omega
  have bad : ∀ m : Int, m = 5 ∨ m = -6 → readOf (wave l0) m = ([], false) := by
    intro m hm
    unfold readOf
    rcases hm with rfl | rfl
    · exact readFrom_bad _ _ _ _ _ (l0.length - 1) (by omega) (by omega) (fun h => by have := h.2.1; omega)
    · exact readFrom_bad _ _ _ _ _ 0 (by omega) (by omega) (fun h => by have := h.1; omega)
  cases a1
  · refine Ev.step (f := fun k => (cell_Wave.f k l0).bind fun t371 => ((cell_Read.f k t371 (-6)).bind fun bt374 => (if bt374.2 = true then (some false) else ((busbarlaw01_one.f k).bind fun t378 => (some t378))))) (fun k => ?_) ?_
    · simp [busbarlaw01_CellPast.j0]
    · refine Ev.bind (Wave_is l0 (by omega)) (Ev.bind (Read_is _ _ (by omega)) ?_)
      simp only [bad _ (.inr rfl), Bool.false_eq_true, if_false]
      exact hone
  · refine Ev.step (f := fun k => (cell_Wave.f k l0).bind fun t363 => ((cell_Read.f k t363 5).bind fun bt366 => (if bt366.2 = true then (some false) else ((busbarlaw01_one.f k).bind fun t370 => (some t370))))) (fun k => ?_) ?_
    · simp [busbarlaw01_CellPast.j0]
    · refine Ev.bind (Wave_is l0 (by omega)) (Ev.bind (Read_is _ _ (by omega)) ?_)
      simp only [bad _ (.inl rfl), Bool.false_eq_true, if_false]
      exact hone

end Go.Proofs.Ytbidfjngmiggpaa.Pure
