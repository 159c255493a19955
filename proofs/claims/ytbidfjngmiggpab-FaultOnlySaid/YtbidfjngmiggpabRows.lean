/-
  No cell of these rows narrows 'for every input' (looked for: loops, veiled, ifaces, maps, wideKeys, modest, calm, conditions, laid).
  DERIVED. THE GIVEN ROWS OF THIS SEAT. 5 by the template 'for every input the law returns true; each argument reads behind the call as it read before'; 0 by the template 'total and deterministic' (their statements: YtbidfjngmiggpabTotals.lean).
  GIVEN WITH THE SEED: the statements are not yours to turn. If you find one false, say at which input.
  Laid BY PROGRAM, IN A SANDBOX (cutbox-rows.mjs): the forced cells as the released guide's own fill.sh prints them over the translation 44fbb7dcc3bbd728… (all of the seat's roots in one cut). By AI agents, Wed Nov 11 2026. No macro, syntax, notation, axiom, sorry.
-/
import Derived.Test.YtbidfjngmiggpabChecked
import GoSem.Claim
import GoSem.ClaimJoined
import GoSem.ClaimMapViews
import Derived.JoinedTies
import Derived.KernelRfl
namespace Go.Proofs.Ytbidfjngmiggpab
/- THE CELL 'sum', in the pinned program and in every row, IS THE sha256 OF THE DUMP (.gsa) THAT YtbidfjngmiggpabProg.lean LOADS. Nothing in Lean hashes anything: it is a label: what it is worth is what the hold of that sum in a sandbox is worth. -/
noncomputable def Try.pinned : Pinned := { name := "ytbidfjngmiggpab", sum := "44fbb7dcc3bbd728ef834234526414d7c71ba25214089e8c5978fed79c30aa26", checked := Try.checked }
namespace Rows
def none {H : Type} : Left H := { results := [], args := [] }

/-- 'busbarlaw20.FaultLines': WHATEVER THE INPUT: true; the input reads as it did. -/
def faultLinesSpec : ChangeSpec := { name := "faultLines", fn := fun _ => fun
  | [d1, d2, d3] => { results := [.lit (.bool true)], args := [d1, d2, d3] }
  | _ => none }
def faultLinesRow : OpenClaim := { program := "ytbidfjngmiggpab", sum := "44fbb7dcc3bbd728ef834234526414d7c71ba25214089e8c5978fed79c30aa26", func := "busbar/busbarlaw20.FaultLines", spec := "faultLines", apart := false }
def FaultLinesSaid : Prop := faultLinesRow.holds Try.pinned (OpenSpec.ofChange faultLinesSpec)

/-- ITS FALSE NEIGHBOUR: 'it returns false'. Refute it at one input. -/
def faultLinesWrong : ChangeSpec := { name := "faultLines", fn := fun _ => fun
  | [d1, d2, d3] => { results := [.lit (.bool false)], args := [d1, d2, d3] }
  | _ => none }
def FaultLinesWrongFalsely : Prop := faultLinesRow.holds Try.pinned (OpenSpec.ofChange faultLinesWrong)

/-- 'busbarlaw01.CellLevels': WHATEVER THE INPUT: true; the input reads as it did. -/
def cellLevelsSpec : ChangeSpec := { name := "cellLevels", fn := fun _ => fun
  | [d1, d2, d3] => { results := [.lit (.bool true)], args := [d1, d2, d3] }
  | _ => none }
def cellLevelsRow : OpenClaim := { program := "ytbidfjngmiggpab", sum := "44fbb7dcc3bbd728ef834234526414d7c71ba25214089e8c5978fed79c30aa26", func := "busbar/busbarlaw01.CellLevels", spec := "cellLevels", apart := false }
def CellLevelsSaid : Prop := cellLevelsRow.holds Try.pinned (OpenSpec.ofChange cellLevelsSpec)

/-- ITS FALSE NEIGHBOUR: 'it returns false'. Refute it at one input. -/
def cellLevelsWrong : ChangeSpec := { name := "cellLevels", fn := fun _ => fun
  | [d1, d2, d3] => { results := [.lit (.bool false)], args := [d1, d2, d3] }
  | _ => none }
def CellLevelsWrongFalsely : Prop := cellLevelsRow.holds Try.pinned (OpenSpec.ofChange cellLevelsWrong)

/-- 'busbarlaw02.WordGathers': WHATEVER THE INPUT: true; the input reads as it did. -/
def wordGathersSpec : ChangeSpec := { name := "wordGathers", fn := fun _ => fun
  | [d1, d2] => { results := [.lit (.bool true)], args := [d1, d2] }
  | _ => none }
def wordGathersRow : OpenClaim := { program := "ytbidfjngmiggpab", sum := "44fbb7dcc3bbd728ef834234526414d7c71ba25214089e8c5978fed79c30aa26", func := "busbar/busbarlaw02.WordGathers", spec := "wordGathers", apart := false }
def WordGathersSaid : Prop := wordGathersRow.holds Try.pinned (OpenSpec.ofChange wordGathersSpec)

/-- ITS FALSE NEIGHBOUR: 'it returns false'. Refute it at one input. -/
def wordGathersWrong : ChangeSpec := { name := "wordGathers", fn := fun _ => fun
  | [d1, d2] => { results := [.lit (.bool false)], args := [d1, d2] }
  | _ => none }
def WordGathersWrongFalsely : Prop := wordGathersRow.holds Try.pinned (OpenSpec.ofChange wordGathersWrong)

/-- 'busbarlaw02.WordBack': WHATEVER THE INPUT: true; the input reads as it did. -/
def wordBackSpec : ChangeSpec := { name := "wordBack", fn := fun _ => fun
  | [d1, d2, d3] => { results := [.lit (.bool true)], args := [d1, d2, d3] }
  | _ => none }
def wordBackRow : OpenClaim := { program := "ytbidfjngmiggpab", sum := "44fbb7dcc3bbd728ef834234526414d7c71ba25214089e8c5978fed79c30aa26", func := "busbar/busbarlaw02.WordBack", spec := "wordBack", apart := false }
def WordBackSaid : Prop := wordBackRow.holds Try.pinned (OpenSpec.ofChange wordBackSpec)

/-- ITS FALSE NEIGHBOUR: 'it returns false'. Refute it at one input. -/
def wordBackWrong : ChangeSpec := { name := "wordBack", fn := fun _ => fun
  | [d1, d2, d3] => { results := [.lit (.bool false)], args := [d1, d2, d3] }
  | _ => none }
def WordBackWrongFalsely : Prop := wordBackRow.holds Try.pinned (OpenSpec.ofChange wordBackWrong)

/-- 'busbarlaw20.FaultOnly': WHATEVER THE INPUT: true; the input reads as it did. -/
def faultOnlySpec : ChangeSpec := { name := "faultOnly", fn := fun _ => fun
  | [d1, d2, d3] => { results := [.lit (.bool true)], args := [d1, d2, d3] }
  | _ => none }
def faultOnlyRow : OpenClaim := { program := "ytbidfjngmiggpab", sum := "44fbb7dcc3bbd728ef834234526414d7c71ba25214089e8c5978fed79c30aa26", func := "busbar/busbarlaw20.FaultOnly", spec := "faultOnly", apart := false }
def FaultOnlySaid : Prop := faultOnlyRow.holds Try.pinned (OpenSpec.ofChange faultOnlySpec)

/-- ITS FALSE NEIGHBOUR: 'it returns false'. Refute it at one input. -/
def faultOnlyWrong : ChangeSpec := { name := "faultOnly", fn := fun _ => fun
  | [d1, d2, d3] => { results := [.lit (.bool false)], args := [d1, d2, d3] }
  | _ => none }
def FaultOnlyWrongFalsely : Prop := faultOnlyRow.holds Try.pinned (OpenSpec.ofChange faultOnlyWrong)

/- THE SECOND FORM. 'bulk': how many values and letters a reading holds, each counted each time it is reached (what is shared counts as often as it is met; a slice's spare places count too). A statement '..UptoSaid' is the law's where the arguments, and the package variables that the reading takes, are together of bulk at most 1048576: NARROWER than '..Said'. Prove '..Said' where nothing that the law and all that it calls make is longer than what came in: it says more and counts as full. Else prove '..UptoSaid'. A law counts once. -/
mutual
def uptoBulk {H : Type} : DataW H → Nat
  | .lit (.string bytes) => bytes.length + 1
  | .lit _ => 1
  | .nil => 1
  | .ptr d => uptoBulk d + 1
  | .slice elems spare => uptoBulkAll elems + uptoBulkAll spare + 1
  | .agg parts => uptoBulkAll parts + 1
  | .iface _ d => uptoBulk d + 1
  | .map entries => uptoBulkEntries entries + 1
  | .held _ => 1
def uptoBulkAll {H : Type} : List (DataW H) → Nat
  | [] => 0
  | d :: r => uptoBulk d + uptoBulkAll r
def uptoBulkEntries {H : Type} : List (Lit × DataW H) → Nat
  | [] => 0
  | x :: r => uptoBulkEntry x + uptoBulkEntries r
def uptoBulkEntry {H : Type} : Lit × DataW H → Nat
  | (.string bytes, d) => bytes.length + uptoBulk d + 1
  | (_, d) => uptoBulk d + 1
 end
def uptoSmall : (H : Type) → List (DataW H) → Bool := fun _ ds => decide (uptoBulkAll ds ≤ 1048576)
def OpenSpec.upto (s : _root_.Go.ChangeSpec) : _root_.Go.OpenSpec := { _root_.Go.OpenSpec.ofChange s with cond := some uptoSmall }

/-- 'busbarlaw20.FaultLines', WHERE WHAT IT READS IS OF BULK AT MOST 1048576: true; the input reads as it did. -/
def faultLinesUptoRow : OpenClaim := { program := "ytbidfjngmiggpab", sum := "44fbb7dcc3bbd728ef834234526414d7c71ba25214089e8c5978fed79c30aa26", func := "busbar/busbarlaw20.FaultLines", spec := "faultLines", apart := false, narrowed := true }
def FaultLinesUptoSaid : Prop := faultLinesUptoRow.holds Try.pinned (OpenSpec.upto faultLinesSpec)

/-- 'busbarlaw01.CellLevels', WHERE WHAT IT READS IS OF BULK AT MOST 1048576: true; the input reads as it did. -/
def cellLevelsUptoRow : OpenClaim := { program := "ytbidfjngmiggpab", sum := "44fbb7dcc3bbd728ef834234526414d7c71ba25214089e8c5978fed79c30aa26", func := "busbar/busbarlaw01.CellLevels", spec := "cellLevels", apart := false, narrowed := true }
def CellLevelsUptoSaid : Prop := cellLevelsUptoRow.holds Try.pinned (OpenSpec.upto cellLevelsSpec)

/-- 'busbarlaw02.WordGathers', WHERE WHAT IT READS IS OF BULK AT MOST 1048576: true; the input reads as it did. -/
def wordGathersUptoRow : OpenClaim := { program := "ytbidfjngmiggpab", sum := "44fbb7dcc3bbd728ef834234526414d7c71ba25214089e8c5978fed79c30aa26", func := "busbar/busbarlaw02.WordGathers", spec := "wordGathers", apart := false, narrowed := true }
def WordGathersUptoSaid : Prop := wordGathersUptoRow.holds Try.pinned (OpenSpec.upto wordGathersSpec)

/-- 'busbarlaw02.WordBack', WHERE WHAT IT READS IS OF BULK AT MOST 1048576: true; the input reads as it did. -/
def wordBackUptoRow : OpenClaim := { program := "ytbidfjngmiggpab", sum := "44fbb7dcc3bbd728ef834234526414d7c71ba25214089e8c5978fed79c30aa26", func := "busbar/busbarlaw02.WordBack", spec := "wordBack", apart := false, narrowed := true }
def WordBackUptoSaid : Prop := wordBackUptoRow.holds Try.pinned (OpenSpec.upto wordBackSpec)

/-- 'busbarlaw20.FaultOnly', WHERE WHAT IT READS IS OF BULK AT MOST 1048576: true; the input reads as it did. -/
def faultOnlyUptoRow : OpenClaim := { program := "ytbidfjngmiggpab", sum := "44fbb7dcc3bbd728ef834234526414d7c71ba25214089e8c5978fed79c30aa26", func := "busbar/busbarlaw20.FaultOnly", spec := "faultOnly", apart := false, narrowed := true }
def FaultOnlyUptoSaid : Prop := faultOnlyUptoRow.holds Try.pinned (OpenSpec.upto faultOnlySpec)

end Rows
end Go.Proofs.Ytbidfjngmiggpab
