import Derived.Test.YtbidfjngmiggpaaRdWordParts
import Derived.Test.YtbidfjngmiggpaaL02
set_option linter.unusedVariables false
set_option linter.unusedSimpArgs false
namespace Go.Proofs.Ytbidfjngmiggpaa.Pure
open Go Go.RowKit Go.Proofs.YtbidfjngmiggpaaW.PrintWords Go.Proofs.YtbidfjngmiggpaaW.PrintLast Go.Proofs.YtbidfjngmiggpaaW.PrintMore Go.Proofs.Ytbidfjngmiggpaa.Q Go.Proofs.Ytbidfjngmiggpaa.RdWordParts Go.Proofs.Ytbidfjngmiggpaa.L02 Go.Proofs.Ytbidfjngmiggpaa.PBase

theorem WordParts (l0 : List (Int)) (l1 : List (Int)) (hm0 : l0.length ≤ maxLen) (hw0 : (∀ a ∈ l0, (fun n : Int => (Lit.int .u8 n).wf = true) a)) (hm1 : l1.length ≤ maxLen) (hw1 : (∀ a ∈ l1, (fun n : Int => (Lit.int .u8 n).wf = true) a)) :
    ∃ k, busbarlaw02_WordParts.f k l0 l1 = some true := by
  have hb0 : ∀ x ∈ l0, Byte x := fun x hx => wf8 (hw0 x hx)
  have hb1 : ∀ x ∈ l1, Byte x := fun x hx => wf8 (hw1 x hx)
  have j1 : ∀ k, busbarlaw02_WordParts.j0 (k + 1) l0 l1 true = some true := fun k => by rw [busbarlaw02_WordParts.j0, if_pos rfl]
  by_cases h0 : (l0.length : Int) > 200
  · exact ⟨1, by unfold busbarlaw02_WordParts.f; rw [if_pos h0, j1]⟩
  by_cases h1 : (l1.length : Int) > 200
  · exact ⟨1, by unfold busbarlaw02_WordParts.f; rw [if_neg h0, decide_eq_true h1, j1]⟩
  have hba : ∀ x ∈ l0 ++ l1, Byte x := fun x hx => by
    rcases List.mem_append.1 hx with h | h
    · exact hb0 x h
    · exact hb1 x h
  have e0 := bitsOf_length l0
  have e1 := bitsOf_length l1
  have hla : (l0 ++ l1).length ≤ 1000 := by rw [List.length_append]; omega
  obtain ⟨K1, g1⟩ := Bits_is l0 hb0 (by omega)
  obtain ⟨K2, g2⟩ := Bits_is l1 hb1 (by omega)
  obtain ⟨K3, g3⟩ := Bits_is (l0 ++ l1) hba (by omega)
  obtain ⟨K4, g4⟩ := Bools_is (bitsOf (l0 ++ l1)) (by rw [bitsOf_length]; omega)
  obtain ⟨K5, g5⟩ := Parity_is (l0 ++ l1) hba (by omega)
  obtain ⟨K6, g6⟩ := Parity_is l0 hb0 (by omega)
  obtain ⟨K7, g7⟩ := Parity_is l1 hb1 (by omega)
  obtain ⟨K8, g8⟩ := one_is
  obtain ⟨k, hk⟩ : ∃ k, k = K1 + K2 + K3 + K4 + K5 + K6 + K7 + K8 := ⟨_, rfl⟩
  have f1 : word_Bits.f k l0 = _ := g1 k (by omega)
  have f2 : word_Bits.f k l1 = _ := g2 k (by omega)
  have f3 : word_Bits.f k (l0 ++ l1) = _ := g3 k (by omega)
  have f4 : busbarlaw02_Bools.f k (bitsOf (l0 ++ l1)) (bitsOf (l0 ++ l1)) = _ := g4 k (by omega)
  have f5 : word_Parity.f k (l0 ++ l1) = _ := g5 k (by omega)
  have f6 : word_Parity.f k l0 = _ := g6 k (by omega)
  have f7 : word_Parity.f k l1 = _ := g7 k (by omega)
  have f8 : busbarlaw02_one.f k = _ := g8 k (by omega)
  have hx : (xorB (bitsOf (l0 ++ l1)) == (xorB (bitsOf l0) != xorB (bitsOf l1))) = true := by
    rw [bitsOf_append, xorB_append]
    cases xorB (bitsOf l0) <;> cases xorB (bitsOf l1) <;> rfl
  refine ⟨k + 1, ?_⟩
  unfold busbarlaw02_WordParts.f
  rw [if_neg h0, decide_eq_false h1, busbarlaw02_WordParts.j0, if_neg (by decide), Option.bind_some, if_pos (by rw [List.length_nil]; omega), List.nil_append, Option.bind_some, if_pos (by omega), Option.bind_some]
  rw [f1, Option.bind_some, f2, Option.bind_some, if_pos (by omega), f3, Option.bind_some, ← bitsOf_append, f4, Option.bind_some, if_pos rfl, f5, Option.bind_some, f6, Option.bind_some, f7, Option.bind_some, if_pos hx, f8, Option.bind_some]

end Go.Proofs.Ytbidfjngmiggpaa.Pure
