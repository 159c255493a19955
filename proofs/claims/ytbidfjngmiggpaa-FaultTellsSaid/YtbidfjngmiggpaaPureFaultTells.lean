import Derived.Test.YtbidfjngmiggpaaRdFaultTells
import Derived.Test.YtbidfjngmiggpaaL20
set_option linter.unusedVariables false
set_option linter.unusedSimpArgs false
namespace Go.Proofs.Ytbidfjngmiggpaa.Pure
open Go Go.RowKit Go.Proofs.YtbidfjngmiggpaaW.PrintWords Go.Proofs.YtbidfjngmiggpaaW.PrintLast Go.Proofs.YtbidfjngmiggpaaW.PrintMore Go.Proofs.Ytbidfjngmiggpaa.Q Go.Proofs.Ytbidfjngmiggpaa.RdFaultTells Go.Proofs.Ytbidfjngmiggpaa.L20 Go.Proofs.Ytbidfjngmiggpaa.PBase

theorem FaultTells (a0_0 : Int) (a0_1 : Int) (a0_2 : Bool) (a0_3 : Int) (a0_4 : Int) (l0_5 : List (Int)) (a1 : Int) (a2 : Int) (w0_0 : (Lit.int .i64 a0_0).wf = true) (w0_1 : (Lit.int .i64 a0_1).wf = true) (w0_3 : (Lit.int .i64 a0_3).wf = true) (w0_4 : (Lit.int .i64 a0_4).wf = true) (hm0_5 : l0_5.length ≤ maxLen) (hw0_5 : (∀ a ∈ l0_5, (fun n : Int => (Lit.int .u8 n).wf = true) a)) (w1 : (Lit.int .i64 a1).wf = true) (w2 : (Lit.int .i64 a2).wf = true) :
    ∃ k, busbarlaw20_FaultTells.f k a0_0 a0_1 a0_2 a0_3 a0_4 l0_5 a1 a2 = some true := by
  have hp : ∀ x ∈ l0_5, 0 ≤ x ∧ x ≤ 255 := fun x hx => wf8 (hw0_5 x hx)
  have b4 := wf64 w0_4
  have b2 := wf64 w2
  have key : ∀ want : Int, rightOf a0_0 a0_1 a0_3 a0_4 l0_5 a1 = want → busbarlaw20_FaultTells.j3 20 a1 a2 want a0_0 a0_1 a0_2 a0_3 a0_4 l0_5 = some true := by
    intro want hwant
    simp only [busbarlaw20_FaultTells.j3, show (19 : Nat) = 17 + 2 from rfl, Right_is, Option.bind_some, show busbarlaw20_one.f (17 + 2) = some true from one_is 16]
    rw [if_pos hwant]
    by_cases h : a0_4 < 0
    · rw [if_pos h]
    · rw [if_neg h, At_is _ _ _ _ _ _ _ (by omega), Byte_is _ _ _ _ (by omega) hp]
      have hr := byteAt_range a0_0 a0_4 l0_5 a2 hp
      simp only [Option.bind_some, Of_is]
      rw [w64 _ (by omega) (by omega), if_pos rfl, if_pos (by simp)]
      by_cases h2 : a0_0 = 2 <;> simp [h2]
  refine ⟨23, ?_⟩
  unfold busbarlaw20_FaultTells.f
  simp only [busbarlaw20_FaultTells.j0, busbarlaw20_FaultTells.j1, busbarlaw20_FaultTells.j2]
  unfold rightOf at key
  by_cases h0 : (l0_5.length : Int) > 400
  · simp [h0]
  by_cases k0 : a0_0 = 0
  · subst k0
    simp [h0] at key ⊢
    exact key
  by_cases k1 : a0_0 = 1
  · subst k1
    by_cases c1 : a0_4 < 0 <;> by_cases c2 : l0_5.length = 0 <;> by_cases c3 : (l0_5.length : Int) > 256 <;> by_cases c4 : a0_3 < 0 <;> by_cases c5 : a0_3 > 3 <;> simp [h0, c1, c2, c3, c4, c5] at key ⊢ <;> first | exact key | (simp [show ¬ (l0_5.length : Int) < 1 by omega]; exact key)
  by_cases k2 : a0_0 = 2
  · subst k2
    by_cases c1 : a0_4 < 0 <;> by_cases c2 : l0_5.length = 0 <;> by_cases c3 : (l0_5.length : Int) > 256 <;> by_cases c4 : a0_1 < 0 <;> by_cases c5 : a0_1 ≥ a1 <;> simp [h0, c1, c2, c3, c4, c5] at key ⊢ <;> first | exact key | (simp [show ¬ (l0_5.length : Int) < 1 by omega]; exact key)
  simp [h0, k0, k1, k2] at key ⊢
  exact key

end Go.Proofs.Ytbidfjngmiggpaa.Pure
