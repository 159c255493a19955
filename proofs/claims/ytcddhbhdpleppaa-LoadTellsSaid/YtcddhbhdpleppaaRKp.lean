/- One block of those that were known is written; all others stay. No conditions. -/
import Derived.Test.YtcddhbhdpleppaaRAuto
set_option linter.unusedVariables false
set_option linter.unusedSimpArgs false
namespace Go.Proofs.Ytcddhbhdpleppaa.R
open Go Go.RowKit
theorem KP_self {m mc mS : Mem} {b : Nat} {o : Obj} (hM : mset mc b o = mS) (k : Keep m mc (some b)) : Keep m mS (some b) := hM ▸ (k.trans (Keep.set mc b o) : Keep m (mset mc b o) (some b))
theorem KP_set {m mc mS : Mem} {b : Nat} {o : Obj} {r : Option Nat} (hM : mset mc b o = mS) (k : Keep m mc r) (n : m b = none) : Keep m mS r := hM ▸ (fun x u hx hr => by
  have : x ≠ b := fun e => by subst e; rw [n] at hx; cases hx
  show (mc.set b o) x = some u
  rw [Mem.set_ne _ _ _ this]; exact k x u hx hr : Keep m (mset mc b o) r)
end Go.Proofs.Ytcddhbhdpleppaa.R
