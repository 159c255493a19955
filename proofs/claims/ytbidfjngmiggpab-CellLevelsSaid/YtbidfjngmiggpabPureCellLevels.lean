import Derived.Test.YtbidfjngmiggpabRdCellLevels
import Derived.Test.YtbidfjngmiggpabL01
set_option linter.unusedVariables false
set_option linter.unusedSimpArgs false
namespace Go.Proofs.Ytbidfjngmiggpab.Pure
open Go Go.RowKit Go.Proofs.YtbidfjngmiggpabW.PrintWords Go.Proofs.YtbidfjngmiggpabW.PrintLast Go.Proofs.YtbidfjngmiggpabW.PrintMore Go.Proofs.Ytbidfjngmiggpab.Q Go.Proofs.Ytbidfjngmiggpab.RdCellLevels Go.Proofs.Ytbidfjngmiggpab.L01 Go.Proofs.Ytbidfjngmiggpab.PBase

theorem CellLevels (a0 : Bool) (a1 : Int) (a2_0 : Bool) (a2_1 : Bool) (w1 : (Lit.int .i64 a1).wf = true) :
    ∃ k, busbarlaw01_CellLevels.f k a0 a1 a2_0 a2_1 = some true := by
  have b1 := wf64 w1
  obtain ⟨Ko, go⟩ := one_is
  have lev : ∀ k, cell_Level.f (k + 1) a0 a1 = busbarref01_Level.f a0 a1 := by
    intro k
    unfold cell_Level.f busbarref01_Level.f
    simp only [cell_Level.j0]
    by_cases c0 : a1 < 0
    · simp [c0]
    · by_cases c1 : a1 > 19
      · simp [c0, c1, show (20 : Int) ≤ a1 by omega]
      · by_cases c2 : a1 < 10 <;> cases a0 <;> simp [c0, c1, c2, show ¬ (20 : Int) ≤ a1 by omega]
  have levs : ∃ b, busbarref01_Level.f a0 a1 = some b := by
    unfold busbarref01_Level.f
    split
    · exact ⟨_, rfl⟩
    · split <;> exact ⟨_, rfl⟩
  have look : ∀ k s, cell_Look.f (k + 1) a1 s = busbarref01_Look.f (k + 1) a1 s := by
    intro k s
    unfold cell_Look.f busbarref01_Look.f
    simp only [cell_Look.j0, busbarref01_Look.j0]
  have looks : ∀ k s, ∃ t, busbarref01_Look.f (k + 1) a1 s = some t := by
    intro k s
    unfold busbarref01_Look.f
    simp only [busbarref01_Look.j0]
    repeat' split
    all_goals exact ⟨_, rfl⟩
  obtain ⟨bl, hbl⟩ := levs
  have main : busbarlaw01_CellLevels.j0 (Ko + 2) a0 a1 false a2_0 a2_1 = some true := by
    obtain ⟨t, ht⟩ := looks Ko a2_0
    have o1 : busbarlaw01_one.f (Ko + 1) = some true := go _ (by omega)
    rw [busbarlaw01_CellLevels.j0, if_neg (by decide)]
    unfold cell_Of.f
    rw [lev, hbl, look, ht, o1]
    cases a2_0 <;> cases a2_1 <;> simp
  refine ⟨Ko + 2, ?_⟩
  unfold busbarlaw01_CellLevels.f cell_Cell.f
  by_cases c0 : a1 < 0
  · rw [if_pos c0, Option.bind_some, if_pos c0, if_pos rfl, if_pos rfl]
    exact main
  · rw [if_neg c0, Option.bind_some, if_neg c0, if_pos rfl]
    simp only [bne_self_eq_false]
    exact main

end Go.Proofs.Ytbidfjngmiggpab.Pure
