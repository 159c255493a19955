/- What the parameters' elements read as, for the law WiresTell. Written by genrow.py. -/
import Derived.Test.YtbidfjngmiggpaaRows
import Derived.Test.YtbidfjngmiggpaaQx27
import Derived.Test.YtbidfjngmiggpaaOpen
import Derived.KernelRfl
set_option linter.unusedVariables false
set_option linter.unusedSimpArgs false
namespace Go.Proofs.Ytbidfjngmiggpaa.RdWiresTell
open Go Go.ChangeShapes Go.WideShapes Go.RowKit
open Go.Proofs.Ytbidfjngmiggpaa.Open Go.Proofs.YtbidfjngmiggpaaW.PrintWords Go.Proofs.YtbidfjngmiggpaaW.PrintLast Go.Proofs.Ytbidfjngmiggpaa.Q
theorem cons_of {α : Type} {n : Nat} {l : List α} (h : l.length = n + 1) : ∃ c r, l = c :: r ∧ r.length = n := by
  cases l with
  | nil => simp at h
  | cons c r => exact ⟨c, r, rfl, by simpa using h⟩
theorem nil_of {α : Type} {l : List α} (h : l.length = 0) : l = [] := List.eq_nil_of_length_eq_zero h
end Go.Proofs.Ytbidfjngmiggpaa.RdWiresTell
