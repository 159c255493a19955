-- Written by a program of this session out of the translation. Not trusted: Lean checks it.
import Derived.Test.YtbidfjngmiggpabProg
import Derived.Below
import Derived.Deep.Draws
import Derived.Deep.AppendLies
import Derived.Maps.AppendAt
import Derived.OwnWalk
import Derived.Laws.BytesArg
import Derived.Laws.MakeOwn
import Derived.Laws.OwnMore
import Derived.Deep.OwnRows
import Derived.Tactics
import Derived.Lib.ConvBytes
import Derived.Laws.Slices
import Derived.WalkKit
import Derived.KernelRfl
import Derived.RowKit3
import Derived.Deep.LoopGhost
import Derived.Deep.QuietTactic
import Derived.BigQuiet
import Derived.WideLaws
import Derived.Deep.DeepCutAuto
import Derived.Deep.CutBlock
import Derived.Deep.RegionHeld3
import Derived.Laws.Rows
import Derived.Lib.AppendStr
import Derived.ArgAppend
import Derived.Laws.IdiomCopy
import Derived.OrdersHeld
import Derived.Laws.BitsLemmas
import Derived.RowKit
import Derived.Test.YtbidfjngmiggpabWWords
import Derived.Test.YtbidfjngmiggpabWLast
import Derived.Test.YtbidfjngmiggpabWTab
import Derived.Test.YtbidfjngmiggpabWFour
import Derived.Test.YtbidfjngmiggpabWQPut
import Derived.Test.YtbidfjngmiggpabWApart
import Derived.Test.YtbidfjngmiggpabWArr
import Derived.Test.YtbidfjngmiggpabWZeros
import Derived.Test.YtbidfjngmiggpabWFoot
import Derived.Test.YtbidfjngmiggpabWKept
import Derived.Test.YtbidfjngmiggpabWShare
import Derived.Test.YtbidfjngmiggpabWN
import Derived.Test.YtbidfjngmiggpabWFootNe
import Derived.Test.YtbidfjngmiggpabWAt
import Derived.Test.YtbidfjngmiggpabWEqStruct
import Derived.Test.YtbidfjngmiggpabWRepsOne
import Derived.Test.YtbidfjngmiggpabWInv
import Derived.Test.YtbidfjngmiggpabWInvWords
import Derived.Test.YtbidfjngmiggpabWGuard
import Derived.Test.YtbidfjngmiggpabWNEv
import Derived.Test.YtbidfjngmiggpabWMore
namespace Go.Proofs.Ytbidfjngmiggpab.Q
open Go.RowKit Go.Proofs.YtbidfjngmiggpabW.PrintWords Go.Proofs.YtbidfjngmiggpabW.PrintLast Go.Proofs.YtbidfjngmiggpabW.PrintMore
attribute [local go_sem] max2_int min2_int max_two min_two max_three min_three max_four min_four   -- for this text's walks alone
set_option linter.unusedVariables false
set_option linter.unusedSimpArgs false



theorem rounds_step {P : Program} {c : Code} {Q : Exit → Act → World → Prop} {n : Nat} {a : Act} {w : World} (h : c.wp P (Exit.then (Code.rounds P c Q n) Q) a w) : Code.rounds P c Q (n + 1) a w := h
def errW : Option Int → Value
  | none => .nilIface
  | some c => .iface 0 (.int .i64 c)
theorem errW_none : errW none = .nilIface := rfl
theorem errW_some (c : Int) : errW (some c) = .iface 0 (.int .i64 c) := rfl

theorem info4 : (Try.prog.info? 4).map (fun i => (i.zero, i.size, i.bytes)) = some (some (.bool false), 1, 1) := by kernel_rfl
theorem info5 : (Try.prog.info? 5).map (fun i => (i.zero, i.size, i.bytes)) = some (some (.int .u8 0), 1, 1) := by kernel_rfl
-- the values' own types

end Go.Proofs.Ytbidfjngmiggpab.Q
