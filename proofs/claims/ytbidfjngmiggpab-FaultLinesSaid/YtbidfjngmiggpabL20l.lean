/- Plain facts about the printed functions of layer 20 (fault): lines and sides, byte by byte. -/
import Derived.Test.YtbidfjngmiggpabL20
import Derived.Test.YtbidfjngmiggpabQx6
import Derived.Test.YtbidfjngmiggpabQx8
set_option linter.unusedVariables false
set_option linter.unusedSimpArgs false
namespace Go.Proofs.Ytbidfjngmiggpab.L20
open Go Go.RowKit Go.Proofs.YtbidfjngmiggpabW.PrintWords Go.Proofs.YtbidfjngmiggpabW.PrintLast Go.Proofs.YtbidfjngmiggpabW.PrintMore Go.Proofs.Ytbidfjngmiggpab.Q Go.Proofs.Ytbidfjngmiggpab.PBase

theorem set_dec : ∀ (n : Fin 256) (line : Fin 4) (h : Bool), 0 ≤ setL (n.val : Int) (line.val : Int) h ∧ setL (n.val : Int) (line.val : Int) h < 256 ∧ ∀ i : Fin 4, wires_Lines_High.f (setL (n.val : Int) (line.val : Int) h) (i.val : Int) = some (if i.val = line.val then h else n.val.testBit i.val) := by decide +kernel
theorem high_dec : ∀ (n : Fin 256) (i : Fin 4), wires_Lines_High.f (n.val : Int) (i.val : Int) = some (n.val.testBit i.val) := by decide +kernel
theorem drive_dec : ∀ (b : Fin 256) (y : Bool), fault_Fault_Drives.j0 1 y 0 false (b.val : Int) false = some (((if y then 4 * (b.val % 4) else b.val % 4 : Nat) : Int), b.val / 4 % 2 == 1) := by decide +kernel
theorem pass_dec : ∀ b : Fin 256, (Go.bits .and .u8 (b.val : Int) 8 != 0) = (b.val / 8 % 2 == 1) := by decide +kernel
theorem low_dec : ∀ b : Fin 256, Go.bits .and .u8 (b.val : Int) 3 = ((b.val % 4 : Nat) : Int) := by decide +kernel
theorem drive_j0 (k : Nat) (y : Bool) (l : Int) (o : Bool) (b : Nat) (hb : b < 256) : fault_Fault_Drives.j0 (k + 1) y l o (b : Int) false = some (((if y then 4 * (b % 4) else b % 4 : Nat) : Int), b / 4 % 2 == 1) := by
  have := drive_dec ⟨b, hb⟩ y
  rw [fault_Fault_Drives.j0] at this ⊢
  exact this
end Go.Proofs.Ytbidfjngmiggpab.L20
