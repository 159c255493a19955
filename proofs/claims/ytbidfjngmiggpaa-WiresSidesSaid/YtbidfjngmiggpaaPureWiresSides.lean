import Derived.Test.YtbidfjngmiggpaaRdWiresSides
import Derived.Test.YtbidfjngmiggpaaL03
set_option linter.unusedVariables false
set_option linter.unusedSimpArgs false
namespace Go.Proofs.Ytbidfjngmiggpaa.Pure
open Go Go.RowKit Go.Proofs.YtbidfjngmiggpaaW.PrintWords Go.Proofs.YtbidfjngmiggpaaW.PrintLast Go.Proofs.YtbidfjngmiggpaaW.PrintMore Go.Proofs.Ytbidfjngmiggpaa.Q Go.Proofs.Ytbidfjngmiggpaa.RdWiresSides Go.Proofs.Ytbidfjngmiggpaa.L03 Go.Proofs.Ytbidfjngmiggpaa.PBase

theorem Sides_loop (a b : Nat) (ha : a < 256) (hb : b < 256) : ∀ (d i : Nat), i + d = 4 →
    Ev (fun k => busbarlaw03_WiresSides.l0 k (a : Int) (b : Int) (((a &&& sideN false) ||| (a &&& sideN true) : Nat) : Int) (i : Int)) true := by
  have l1 := side_lt a ha false
  have l2 := side_lt a ha true
  have lc := or_lt _ _ l1 l2
  have lab := or_lt a b ha hb
  have o1 : Ev (fun k => wires_Or.f k [(a : Int), (b : Int)]) ((a ||| b : Nat) : Int) := by
    have := Or_nat [a, b] (by intro x hx; simp at hx; rcases hx with rfl | rfl <;> assumption) (by simp)
    simpa [orL] using this
  have o2 : Ev (fun k => wires_Or.f k [(b : Int), (a : Int), (b : Int)]) ((b ||| (a ||| b) : Nat) : Int) := by
    have := Or_nat [b, a, b] (by intro x hx; simp at hx; rcases hx with rfl | rfl | rfl <;> assumption) (by simp)
    simpa [orL] using this
  have hbit : ∀ i : Nat, i < 4 → ((a &&& sideN false) ||| (a &&& sideN true)).testBit i = a.testBit i := by
    intro i hi
    rw [Nat.testBit_or, side_bit a i hi, side_bit a i hi]
    cases a.testBit i <;> cases decide (2 ≤ i) <;> rfl
  have habb : b ||| (a ||| b) = a ||| b := by
    apply Nat.eq_of_testBit_eq
    intro i
    simp only [Nat.testBit_or]
    cases a.testBit i <;> cases b.testBit i <;> rfl
  rw [habb] at o2
  obtain ⟨K1, g1⟩ := o1
  obtain ⟨K2, g2⟩ := o2
  intro d
  induction d with
  | zero =>
    intro i h
    refine ⟨K1 + 1, fun k hk => ?_⟩
    obtain ⟨k, rfl⟩ := succ_of (show 0 < k by omega)
    have f1 : wires_Or.f k [(a : Int), (b : Int)] = _ := g1 k (by omega)
    have c0 : cnt (a &&& sideN false) + cnt (a &&& sideN true) = cnt a := by
      simp only [cnt, side_bit _ 0 (by omega), side_bit _ 1 (by omega), side_bit _ 2 (by omega), side_bit _ 3 (by omega)]
      cases a.testBit 0 <;> cases a.testBit 1 <;> cases a.testBit 2 <;> cases a.testBit 3 <;> decide
    have c1 : cnt a ≤ cnt (a ||| b) := by
      simp only [cnt, Nat.testBit_or]
      cases a.testBit 0 <;> cases a.testBit 1 <;> cases a.testBit 2 <;> cases a.testBit 3 <;> cases b.testBit 0 <;> cases b.testBit 1 <;> cases b.testBit 2 <;> cases b.testBit 3 <;> decide
    have c2 : cnt a ≤ 4 := by
      simp only [cnt]
      cases a.testBit 0 <;> cases a.testBit 1 <;> cases a.testBit 2 <;> cases a.testBit 3 <;> decide
    show busbarlaw03_WiresSides.l0 (k + 1) _ _ _ _ = _
    rw [busbarlaw03_WiresSides.l0, if_neg (by omega), Side_is a ha, Option.bind_some, Count_is _ l1, Option.bind_some, Side_is a ha, Option.bind_some, Count_is _ l2, Option.bind_some, Count_is _ ha, Option.bind_some, w64 _ (by omega) (by omega), if_pos (by omega), f1, Option.bind_some, Count_is _ lab, Option.bind_some, Option.bind_some, if_pos (by omega), one_is, Option.bind_some]
  | succ d ih =>
    intro i h
    obtain ⟨K3, g3⟩ := ih (i + 1) (by omega)
    refine ⟨K1 + K2 + K3 + 1, fun k hk => ?_⟩
    obtain ⟨k, rfl⟩ := succ_of (show 0 < k by omega)
    have f1 : wires_Or.f k [(a : Int), (b : Int)] = _ := g1 k (by omega)
    have f2 : wires_Or.f k [(b : Int), (a : Int), (b : Int)] = _ := g2 k (by omega)
    show busbarlaw03_WiresSides.l0 (k + 1) _ _ _ _ = _
    rw [busbarlaw03_WiresSides.l0, if_pos (by omega), High_is _ i lc (by omega), Option.bind_some, High_is a i ha (by omega), Option.bind_some, hbit i (by omega), if_neg (by simp), f1, Option.bind_some, High_is _ i lab (by omega), Option.bind_some, f2, Option.bind_some, High_is _ i lab (by omega), Option.bind_some, if_neg (by simp), w64 _ (by omega) (by omega)]
    exact g3 k (by omega)
theorem WiresSides (a0 : Int) (a1 : Int) (w0 : (Lit.int .u8 a0).wf = true) (w1 : (Lit.int .u8 a1).wf = true) :
    ∃ k, busbarlaw03_WiresSides.f k a0 a1 = some true := by
  obtain ⟨a, rfl⟩ := Int.eq_ofNat_of_zero_le (wf8 w0).1
  obtain ⟨b, rfl⟩ := Int.eq_ofNat_of_zero_le (wf8 w1).1
  have ha : a < 256 := by have := (wf8 w0).2; omega
  have hb : b < 256 := by have := (wf8 w1).2; omega
  have s1 := Side_is a ha false
  have s2 := Side_is a ha true
  have l1 := side_lt a ha false
  have l2 := side_lt a ha true
  refine Ev.rounds (r := true) ?_
  unfold busbarlaw03_WiresSides.f
  simp only [s1, s2, Option.bind_some]
  have hc : orL [((a &&& sideN false : Nat) : Int), ((a &&& sideN true : Nat) : Int)] = (a &&& sideN false) ||| (a &&& sideN true) := by simp [orL]
  have o1 := Or_nat [a &&& sideN false, a &&& sideN true] (by intro x hx; simp at hx; rcases hx with rfl | rfl <;> assumption) (by simp)
  simp only [List.map_cons, List.map_nil] at o1
  rw [hc] at o1
  refine Ev.bind o1 ?_
  exact Sides_loop a b ha hb 4 0 (by omega)

end Go.Proofs.Ytbidfjngmiggpaa.Pure
