/- Slices of words that are handed in. No conditions. -/
import Derived.Test.YtdoeioljkbjabaaRAuto
import Derived.Test.YtdoeioljkbjabaaROpen
set_option linter.unusedVariables false
set_option linter.unusedSimpArgs false
namespace Go.Proofs.Ytdoeioljkbjabaa.R
open Go Go.RowKit
section
variable {W0 : World}
theorem RS.drop {m : Mem} {A : Option Addr} {n c : Nat} {xs : List Value} (h : RS W0 m (.slice A n c) 1 n xs) {k c' : Nat} (hk : k < n) : RS W0 m (.slice (A.map (·.add (k * 1))) (n - k) c') 1 (n - k) (xs.drop k) := by
  obtain ⟨hl, A', q, hv, h2⟩ := h
  cases hv
  refine ⟨by simp [hl], _, _, rfl, ?_⟩
  rcases h2 with rfl | ⟨a, rfl, h3⟩
  · simp at hl; omega
  · refine .inr ⟨_, rfl, fun j u hj => ?_⟩
    rw [List.getElem?_drop] at hj
    have h4 := h3 _ _ hj
    rw [Nat.mul_one]
    have e : (a.add k).add j = a.add (k + j) := by
      refine add_add a k j ?_
      have := h3 0 xs[0] (List.getElem?_eq_getElem (by omega))
      rw [add_zero'] at this
      exact cellA_spot this
    rw [e]; exact h4
theorem flat_eU8 : ∀ l : List Int, l.flatMap eU8 = u8 l
  | [] => rfl
  | x :: l => by rw [List.flatMap_cons, flat_eU8 l]; rfl
theorem Sl.u8rs {m : Mem} {s : Sl Int} (w : Sl.wf W0 1 eU8 inU8 s) : RS W0 m (.slice s.A s.l.length s.c) 1 s.l.length (u8 s.l) := by
  have := w.2.2.1 m
  rw [flat_eU8] at this
  exact this
theorem Sl.u8b {s : Sl Int} (w : Sl.wf W0 1 eU8 inU8 s) : Byte s.l := fun x hx => by have := w.2.2.2 x hx; unfold inU8 at this; omega
end
end Go.Proofs.Ytdoeioljkbjabaa.R
