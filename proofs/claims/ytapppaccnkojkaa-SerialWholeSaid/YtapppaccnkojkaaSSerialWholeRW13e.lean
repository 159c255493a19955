/- Slices of words that are handed in. No conditions. -/
import Derived.Test.YtapppaccnkojkaaRAuto
import Derived.Test.YtapppaccnkojkaaROpen
set_option linter.unusedVariables false
set_option linter.unusedSimpArgs false
namespace Go.Proofs.Ytapppaccnkojkaa.R
open Go Go.RowKit
section
variable {W0 : World}
theorem flat_eU8 : ∀ l : List Int, l.flatMap eU8 = u8 l
  | [] => rfl
  | x :: l => by rw [List.flatMap_cons, flat_eU8 l]; rfl
theorem Sl.u8rs {m : Mem} {s : Sl Int} (w : Sl.wf W0 1 eU8 inU8 s) : RS W0 m (.slice s.A s.l.length s.c) 1 s.l.length (u8 s.l) := by
  have := w.2.2.1 m
  rw [flat_eU8] at this
  exact this
theorem Sl.u8b {s : Sl Int} (w : Sl.wf W0 1 eU8 inU8 s) : Byte s.l := fun x hx => by have := w.2.2.2 x hx; unfold inU8 at this; omega
end
end Go.Proofs.Ytapppaccnkojkaa.R
