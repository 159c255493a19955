import Derived.Test.YtbidfjngmiggpaaRdFaultAgain
import Derived.Test.YtbidfjngmiggpaaL20
set_option linter.unusedVariables false
set_option linter.unusedSimpArgs false
namespace Go.Proofs.Ytbidfjngmiggpaa.Pure
open Go Go.RowKit Go.Proofs.YtbidfjngmiggpaaW.PrintWords Go.Proofs.YtbidfjngmiggpaaW.PrintLast Go.Proofs.YtbidfjngmiggpaaW.PrintMore Go.Proofs.Ytbidfjngmiggpaa.Q Go.Proofs.Ytbidfjngmiggpaa.RdFaultAgain Go.Proofs.Ytbidfjngmiggpaa.L20 Go.Proofs.Ytbidfjngmiggpaa.PBase

theorem FaultAgain (a0_0 : Int) (a0_1 : Int) (a0_2 : Bool) (a0_3 : Int) (a0_4 : Int) (l0_5 : List (Int)) (a1 : Int) (a2 : Int) (w0_0 : (Lit.int .i64 a0_0).wf = true) (w0_1 : (Lit.int .i64 a0_1).wf = true) (w0_3 : (Lit.int .i64 a0_3).wf = true) (w0_4 : (Lit.int .i64 a0_4).wf = true) (hm0_5 : l0_5.length ≤ maxLen) (hw0_5 : (∀ a ∈ l0_5, (fun n : Int => (Lit.int .u8 n).wf = true) a)) (w1 : (Lit.int .i64 a1).wf = true) (w2 : (Lit.int .u8 a2).wf = true) :
    ∃ k, busbarlaw20_FaultAgain.f k a0_0 a0_1 a0_2 a0_3 a0_4 l0_5 a1 a2 = some true := by
  refine ⟨12, ?_⟩
  have o1 : busbarlaw20_one.f 11 = some true := one_is 8
  unfold busbarlaw20_FaultAgain.f
  simp only [busbarlaw20_FaultAgain.j0, o1, Option.bind_some]
  by_cases h1 : (l0_5.length : Int) < 1
  · simp [h1]
  by_cases h2 : (l0_5.length : Int) > 300
  · simp [h1, h2]
  rw [and65535, and65535]
  have hf : 0 ≤ a0_4 % 65536 ∧ a0_4 % 65536 < 65536 := by omega
  have ht : 0 ≤ a1 % 65536 ∧ a1 % 65536 < 65536 := by omega
  generalize a0_4 % 65536 = F at *
  generalize a1 % 65536 = T at *
  rw [w64 (F + T) (by omega) (by omega), w64 (F + T + _) (by omega) (by omega), w64 (F - 1) (by omega) (by omega)]
  rw [At_is _ _ _ _ _ _ _ (by omega), At_is _ _ _ _ _ _ _ (by omega), At_is _ _ _ _ _ _ _ (by omega)]
  have e1 : byteAt a0_0 F l0_5 (F + T + l0_5.length) = byteAt a0_0 F l0_5 (F + T) := by
    unfold byteAt
    rw [show F + T + (l0_5.length : Int) - F = T + l0_5.length by omega, show F + T - F = T by omega, Int.add_emod_right]
    congr 1
    simp only [eq_iff_iff]
    constructor <;> rintro ⟨a, b, c⟩ <;> exact ⟨a, by omega, c⟩
  have e2 : byteAt a0_0 F l0_5 (F - 1) = (0, false) := by
    unfold byteAt
    rw [if_neg (by omega)]
  have e3 : linesL a0_0 a0_3 F l0_5 a2 (F + T + l0_5.length) = linesL a0_0 a0_3 F l0_5 a2 (F + T) := by
    unfold linesL
    rw [e1]
  rw [show (11 : Nat) = 10 + 1 from rfl, Lines_is _ _ _ _ _ _ _ _ _ (by omega), Lines_is _ _ _ _ _ _ _ _ _ (by omega), e1, e2, e3]
  simp [h1, h2]

end Go.Proofs.Ytbidfjngmiggpaa.Pure
