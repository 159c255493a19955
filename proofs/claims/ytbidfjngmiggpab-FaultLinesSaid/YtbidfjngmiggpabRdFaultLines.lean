/- What the parameters' elements read as, for the law FaultLines. Written by genrow.py. -/
import Derived.Test.YtbidfjngmiggpabRows
import Derived.Test.YtbidfjngmiggpabQx11
import Derived.Test.YtbidfjngmiggpabOpen
import Derived.KernelRfl
set_option linter.unusedVariables false
set_option linter.unusedSimpArgs false
namespace Go.Proofs.Ytbidfjngmiggpab.RdFaultLines
open Go Go.ChangeShapes Go.WideShapes Go.RowKit
open Go.Proofs.Ytbidfjngmiggpab.Open Go.Proofs.YtbidfjngmiggpabW.PrintWords Go.Proofs.YtbidfjngmiggpabW.PrintLast Go.Proofs.Ytbidfjngmiggpab.Q
theorem cons_of {α : Type} {n : Nat} {l : List α} (h : l.length = n + 1) : ∃ c r, l = c :: r ∧ r.length = n := by
  cases l with
  | nil => simp at h
  | cons c r => exact ⟨c, r, rfl, by simpa using h⟩
theorem nil_of {α : Type} {l : List α} (h : l.length = 0) : l = [] := List.eq_nil_of_length_eq_zero h
end Go.Proofs.Ytbidfjngmiggpab.RdFaultLines
