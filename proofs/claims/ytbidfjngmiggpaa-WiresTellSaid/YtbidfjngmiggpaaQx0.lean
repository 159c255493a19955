-- Written by a program of this session out of the translation. Not trusted: Lean checks it.
import Derived.Test.YtbidfjngmiggpaaProg
import Derived.Below
import Derived.Deep.Draws
import Derived.Deep.AppendLies
import Derived.Maps.AppendAt
import Derived.OwnWalk
import Derived.Laws.BytesArg
import Derived.Laws.MakeOwn
import Derived.Laws.OwnMore
import Derived.Deep.OwnRows
import Derived.Tactics
import Derived.Lib.ConvBytes
import Derived.Laws.Slices
import Derived.WalkKit
import Derived.KernelRfl
import Derived.RowKit3
import Derived.Deep.LoopGhost
import Derived.Deep.QuietTactic
import Derived.BigQuiet
import Derived.WideLaws
import Derived.Deep.DeepCutAuto
import Derived.Deep.CutBlock
import Derived.Deep.RegionHeld3
import Derived.Laws.Rows
import Derived.Lib.AppendStr
import Derived.ArgAppend
import Derived.Laws.IdiomCopy
import Derived.OrdersHeld
import Derived.Laws.BitsLemmas
import Derived.RowKit
import Derived.Test.YtbidfjngmiggpaaWWords
import Derived.Test.YtbidfjngmiggpaaWLast
import Derived.Test.YtbidfjngmiggpaaWTab
import Derived.Test.YtbidfjngmiggpaaWFour
import Derived.Test.YtbidfjngmiggpaaWQPut
import Derived.Test.YtbidfjngmiggpaaWApart
import Derived.Test.YtbidfjngmiggpaaWArr
import Derived.Test.YtbidfjngmiggpaaWZeros
import Derived.Test.YtbidfjngmiggpaaWFoot
import Derived.Test.YtbidfjngmiggpaaWKept
import Derived.Test.YtbidfjngmiggpaaWShare
import Derived.Test.YtbidfjngmiggpaaWN
import Derived.Test.YtbidfjngmiggpaaWFootNe
import Derived.Test.YtbidfjngmiggpaaWAt
import Derived.Test.YtbidfjngmiggpaaWEqStruct
import Derived.Test.YtbidfjngmiggpaaWRepsOne
import Derived.Test.YtbidfjngmiggpaaWInv
import Derived.Test.YtbidfjngmiggpaaWInvWords
import Derived.Test.YtbidfjngmiggpaaWGuard
import Derived.Test.YtbidfjngmiggpaaWNEv
import Derived.Test.YtbidfjngmiggpaaWMore
namespace Go.Proofs.Ytbidfjngmiggpaa.Q
open Go.RowKit Go.Proofs.YtbidfjngmiggpaaW.PrintWords Go.Proofs.YtbidfjngmiggpaaW.PrintLast Go.Proofs.YtbidfjngmiggpaaW.PrintMore
attribute [local go_sem] max2_int min2_int max_two min_two max_three min_three max_four min_four   -- for this text's walks alone
set_option linter.unusedVariables false
set_option linter.unusedSimpArgs false



theorem rounds_step {P : Program} {c : Code} {Q : Exit → Act → World → Prop} {n : Nat} {a : Act} {w : World} (h : c.wp P (Exit.then (Code.rounds P c Q n) Q) a w) : Code.rounds P c Q (n + 1) a w := h
def errW : Option Int → Value
  | none => .nilIface
  | some c => .iface 0 (.int .i64 c)
theorem errW_none : errW none = .nilIface := rfl
theorem errW_some (c : Int) : errW (some c) = .iface 0 (.int .i64 c) := rfl

theorem info4 : (Try.prog.info? 4).map (fun i => (i.zero, i.size, i.bytes)) = some (some (.bool false), 1, 1) := by kernel_rfl
theorem info5 : (Try.prog.info? 5).map (fun i => (i.zero, i.size, i.bytes)) = some (some (.int .u8 0), 1, 1) := by kernel_rfl
theorem info23 : (Try.prog.info? 23).map (fun i => (i.zero, i.size, i.bytes)) = some (some (.int .u8 0), 1, 1) := by kernel_rfl
-- the values' own types

end Go.Proofs.Ytbidfjngmiggpaa.Q
