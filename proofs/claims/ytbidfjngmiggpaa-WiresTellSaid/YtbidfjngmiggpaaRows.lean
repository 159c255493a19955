/-
  No cell of these rows narrows 'for every input' (looked for: loops, veiled, ifaces, maps, wideKeys, modest, calm, conditions, laid).
  DERIVED. THE GIVEN ROWS OF THIS SEAT. 12 by the template 'for every input the law returns true; each argument reads behind the call as it read before'; 0 by the template 'total and deterministic' (their statements: YtbidfjngmiggpaaTotals.lean).
  GIVEN WITH THE SEED: the statements are not yours to turn. If you find one false, say at which input.
  Laid BY PROGRAM, IN A SANDBOX (cutbox-rows.mjs): the forced cells as the released guide's own fill.sh prints them over the translation 8f0b5ac528f7e98a… (all of the seat's roots in one cut). By AI agents, Wed Nov 11 2026. No macro, syntax, notation, axiom, sorry.
-/
import Derived.Test.YtbidfjngmiggpaaChecked
import GoSem.Claim
import GoSem.ClaimJoined
import GoSem.ClaimMapViews
import Derived.JoinedTies
import Derived.KernelRfl
namespace Go.Proofs.Ytbidfjngmiggpaa
/- THE CELL 'sum', in the pinned program and in every row, IS THE sha256 OF THE DUMP (.gsa) THAT YtbidfjngmiggpaaProg.lean LOADS. Nothing in Lean hashes anything: it is a label: what it is worth is what the hold of that sum in a sandbox is worth. -/
noncomputable def Try.pinned : Pinned := { name := "ytbidfjngmiggpaa", sum := "8f0b5ac528f7e98adf05197041495a133fa4bf3a39802002e2b23a487f4443db", checked := Try.checked }
namespace Rows
def none {H : Type} : Left H := { results := [], args := [] }

/-- 'busbarlaw03.WiresDrive': WHATEVER THE INPUT: true; the input reads as it did. -/
def wiresDriveSpec : ChangeSpec := { name := "wiresDrive", fn := fun _ => fun
  | [d1, d2, d3] => { results := [.lit (.bool true)], args := [d1, d2, d3] }
  | _ => none }
def wiresDriveRow : OpenClaim := { program := "ytbidfjngmiggpaa", sum := "8f0b5ac528f7e98adf05197041495a133fa4bf3a39802002e2b23a487f4443db", func := "busbar/busbarlaw03.WiresDrive", spec := "wiresDrive", apart := false }
def WiresDriveSaid : Prop := wiresDriveRow.holds Try.pinned (OpenSpec.ofChange wiresDriveSpec)

/-- ITS FALSE NEIGHBOUR: 'it returns false'. Refute it at one input. -/
def wiresDriveWrong : ChangeSpec := { name := "wiresDrive", fn := fun _ => fun
  | [d1, d2, d3] => { results := [.lit (.bool false)], args := [d1, d2, d3] }
  | _ => none }
def WiresDriveWrongFalsely : Prop := wiresDriveRow.holds Try.pinned (OpenSpec.ofChange wiresDriveWrong)

/-- 'busbarlaw03.WiresSides': WHATEVER THE INPUT: true; the input reads as it did. -/
def wiresSidesSpec : ChangeSpec := { name := "wiresSides", fn := fun _ => fun
  | [d1, d2] => { results := [.lit (.bool true)], args := [d1, d2] }
  | _ => none }
def wiresSidesRow : OpenClaim := { program := "ytbidfjngmiggpaa", sum := "8f0b5ac528f7e98adf05197041495a133fa4bf3a39802002e2b23a487f4443db", func := "busbar/busbarlaw03.WiresSides", spec := "wiresSides", apart := false }
def WiresSidesSaid : Prop := wiresSidesRow.holds Try.pinned (OpenSpec.ofChange wiresSidesSpec)

/-- ITS FALSE NEIGHBOUR: 'it returns false'. Refute it at one input. -/
def wiresSidesWrong : ChangeSpec := { name := "wiresSides", fn := fun _ => fun
  | [d1, d2] => { results := [.lit (.bool false)], args := [d1, d2] }
  | _ => none }
def WiresSidesWrongFalsely : Prop := wiresSidesRow.holds Try.pinned (OpenSpec.ofChange wiresSidesWrong)

/-- 'busbarlaw02.WordParts': WHATEVER THE INPUT: true; the input reads as it did. -/
def wordPartsSpec : ChangeSpec := { name := "wordParts", fn := fun _ => fun
  | [d1, d2] => { results := [.lit (.bool true)], args := [d1, d2] }
  | _ => none }
def wordPartsRow : OpenClaim := { program := "ytbidfjngmiggpaa", sum := "8f0b5ac528f7e98adf05197041495a133fa4bf3a39802002e2b23a487f4443db", func := "busbar/busbarlaw02.WordParts", spec := "wordParts", apart := false }
def WordPartsSaid : Prop := wordPartsRow.holds Try.pinned (OpenSpec.ofChange wordPartsSpec)

/-- ITS FALSE NEIGHBOUR: 'it returns false'. Refute it at one input. -/
def wordPartsWrong : ChangeSpec := { name := "wordParts", fn := fun _ => fun
  | [d1, d2] => { results := [.lit (.bool false)], args := [d1, d2] }
  | _ => none }
def WordPartsWrongFalsely : Prop := wordPartsRow.holds Try.pinned (OpenSpec.ofChange wordPartsWrong)

/-- 'busbarlaw03.WiresTell': WHATEVER THE INPUT: true; the input reads as it did. -/
def wiresTellSpec : ChangeSpec := { name := "wiresTell", fn := fun _ => fun
  | [d1, d2, d3] => { results := [.lit (.bool true)], args := [d1, d2, d3] }
  | _ => none }
def wiresTellRow : OpenClaim := { program := "ytbidfjngmiggpaa", sum := "8f0b5ac528f7e98adf05197041495a133fa4bf3a39802002e2b23a487f4443db", func := "busbar/busbarlaw03.WiresTell", spec := "wiresTell", apart := false }
def WiresTellSaid : Prop := wiresTellRow.holds Try.pinned (OpenSpec.ofChange wiresTellSpec)

/-- ITS FALSE NEIGHBOUR: 'it returns false'. Refute it at one input. -/
def wiresTellWrong : ChangeSpec := { name := "wiresTell", fn := fun _ => fun
  | [d1, d2, d3] => { results := [.lit (.bool false)], args := [d1, d2, d3] }
  | _ => none }
def WiresTellWrongFalsely : Prop := wiresTellRow.holds Try.pinned (OpenSpec.ofChange wiresTellWrong)

/-- 'busbarlaw03.WiresNames': WHATEVER THE INPUT: true; the input reads as it did. -/
def wiresNamesSpec : ChangeSpec := { name := "wiresNames", fn := fun _ => fun
  | [d1, d2, d3] => { results := [.lit (.bool true)], args := [d1, d2, d3] }
  | _ => none }
def wiresNamesRow : OpenClaim := { program := "ytbidfjngmiggpaa", sum := "8f0b5ac528f7e98adf05197041495a133fa4bf3a39802002e2b23a487f4443db", func := "busbar/busbarlaw03.WiresNames", spec := "wiresNames", apart := false }
def WiresNamesSaid : Prop := wiresNamesRow.holds Try.pinned (OpenSpec.ofChange wiresNamesSpec)

/-- ITS FALSE NEIGHBOUR: 'it returns false'. Refute it at one input. -/
def wiresNamesWrong : ChangeSpec := { name := "wiresNames", fn := fun _ => fun
  | [d1, d2, d3] => { results := [.lit (.bool false)], args := [d1, d2, d3] }
  | _ => none }
def WiresNamesWrongFalsely : Prop := wiresNamesRow.holds Try.pinned (OpenSpec.ofChange wiresNamesWrong)

/-- 'busbarlaw02.WordBits': WHATEVER THE INPUT: true; the input reads as it did. -/
def wordBitsSpec : ChangeSpec := { name := "wordBits", fn := fun _ => fun
  | [d1, d2, d3] => { results := [.lit (.bool true)], args := [d1, d2, d3] }
  | _ => none }
def wordBitsRow : OpenClaim := { program := "ytbidfjngmiggpaa", sum := "8f0b5ac528f7e98adf05197041495a133fa4bf3a39802002e2b23a487f4443db", func := "busbar/busbarlaw02.WordBits", spec := "wordBits", apart := false }
def WordBitsSaid : Prop := wordBitsRow.holds Try.pinned (OpenSpec.ofChange wordBitsSpec)

/-- ITS FALSE NEIGHBOUR: 'it returns false'. Refute it at one input. -/
def wordBitsWrong : ChangeSpec := { name := "wordBits", fn := fun _ => fun
  | [d1, d2, d3] => { results := [.lit (.bool false)], args := [d1, d2, d3] }
  | _ => none }
def WordBitsWrongFalsely : Prop := wordBitsRow.holds Try.pinned (OpenSpec.ofChange wordBitsWrong)

/-- 'busbarlaw20.FaultAgain': WHATEVER THE INPUT: true; the input reads as it did. -/
def faultAgainSpec : ChangeSpec := { name := "faultAgain", fn := fun _ => fun
  | [d1, d2, d3] => { results := [.lit (.bool true)], args := [d1, d2, d3] }
  | _ => none }
def faultAgainRow : OpenClaim := { program := "ytbidfjngmiggpaa", sum := "8f0b5ac528f7e98adf05197041495a133fa4bf3a39802002e2b23a487f4443db", func := "busbar/busbarlaw20.FaultAgain", spec := "faultAgain", apart := false }
def FaultAgainSaid : Prop := faultAgainRow.holds Try.pinned (OpenSpec.ofChange faultAgainSpec)

/-- ITS FALSE NEIGHBOUR: 'it returns false'. Refute it at one input. -/
def faultAgainWrong : ChangeSpec := { name := "faultAgain", fn := fun _ => fun
  | [d1, d2, d3] => { results := [.lit (.bool false)], args := [d1, d2, d3] }
  | _ => none }
def FaultAgainWrongFalsely : Prop := faultAgainRow.holds Try.pinned (OpenSpec.ofChange faultAgainWrong)

/-- 'busbarlaw20.FaultTells': WHATEVER THE INPUT: true; the input reads as it did. -/
def faultTellsSpec : ChangeSpec := { name := "faultTells", fn := fun _ => fun
  | [d1, d2, d3] => { results := [.lit (.bool true)], args := [d1, d2, d3] }
  | _ => none }
def faultTellsRow : OpenClaim := { program := "ytbidfjngmiggpaa", sum := "8f0b5ac528f7e98adf05197041495a133fa4bf3a39802002e2b23a487f4443db", func := "busbar/busbarlaw20.FaultTells", spec := "faultTells", apart := false }
def FaultTellsSaid : Prop := faultTellsRow.holds Try.pinned (OpenSpec.ofChange faultTellsSpec)

/-- ITS FALSE NEIGHBOUR: 'it returns false'. Refute it at one input. -/
def faultTellsWrong : ChangeSpec := { name := "faultTells", fn := fun _ => fun
  | [d1, d2, d3] => { results := [.lit (.bool false)], args := [d1, d2, d3] }
  | _ => none }
def FaultTellsWrongFalsely : Prop := faultTellsRow.holds Try.pinned (OpenSpec.ofChange faultTellsWrong)

/-- 'busbarlaw03.WiresSay': WHATEVER THE INPUT: true; the input reads as it did. -/
def wiresSaySpec : ChangeSpec := { name := "wiresSay", fn := fun _ => fun
  | [d1, d2, d3] => { results := [.lit (.bool true)], args := [d1, d2, d3] }
  | _ => none }
def wiresSayRow : OpenClaim := { program := "ytbidfjngmiggpaa", sum := "8f0b5ac528f7e98adf05197041495a133fa4bf3a39802002e2b23a487f4443db", func := "busbar/busbarlaw03.WiresSay", spec := "wiresSay", apart := false }
def WiresSaySaid : Prop := wiresSayRow.holds Try.pinned (OpenSpec.ofChange wiresSaySpec)

/-- ITS FALSE NEIGHBOUR: 'it returns false'. Refute it at one input. -/
def wiresSayWrong : ChangeSpec := { name := "wiresSay", fn := fun _ => fun
  | [d1, d2, d3] => { results := [.lit (.bool false)], args := [d1, d2, d3] }
  | _ => none }
def WiresSayWrongFalsely : Prop := wiresSayRow.holds Try.pinned (OpenSpec.ofChange wiresSayWrong)

/-- 'busbarlaw01.CellReads': WHATEVER THE INPUT: true; the input reads as it did. -/
def cellReadsSpec : ChangeSpec := { name := "cellReads", fn := fun _ => fun
  | [d1, d2] => { results := [.lit (.bool true)], args := [d1, d2] }
  | _ => none }
def cellReadsRow : OpenClaim := { program := "ytbidfjngmiggpaa", sum := "8f0b5ac528f7e98adf05197041495a133fa4bf3a39802002e2b23a487f4443db", func := "busbar/busbarlaw01.CellReads", spec := "cellReads", apart := false }
def CellReadsSaid : Prop := cellReadsRow.holds Try.pinned (OpenSpec.ofChange cellReadsSpec)

/-- ITS FALSE NEIGHBOUR: 'it returns false'. Refute it at one input. -/
def cellReadsWrong : ChangeSpec := { name := "cellReads", fn := fun _ => fun
  | [d1, d2] => { results := [.lit (.bool false)], args := [d1, d2] }
  | _ => none }
def CellReadsWrongFalsely : Prop := cellReadsRow.holds Try.pinned (OpenSpec.ofChange cellReadsWrong)

/-- 'busbarlaw01.CellBack': WHATEVER THE INPUT: true; the input reads as it did. -/
def cellBackSpec : ChangeSpec := { name := "cellBack", fn := fun _ => fun
  | [d1, d2] => { results := [.lit (.bool true)], args := [d1, d2] }
  | _ => none }
def cellBackRow : OpenClaim := { program := "ytbidfjngmiggpaa", sum := "8f0b5ac528f7e98adf05197041495a133fa4bf3a39802002e2b23a487f4443db", func := "busbar/busbarlaw01.CellBack", spec := "cellBack", apart := false }
def CellBackSaid : Prop := cellBackRow.holds Try.pinned (OpenSpec.ofChange cellBackSpec)

/-- ITS FALSE NEIGHBOUR: 'it returns false'. Refute it at one input. -/
def cellBackWrong : ChangeSpec := { name := "cellBack", fn := fun _ => fun
  | [d1, d2] => { results := [.lit (.bool false)], args := [d1, d2] }
  | _ => none }
def CellBackWrongFalsely : Prop := cellBackRow.holds Try.pinned (OpenSpec.ofChange cellBackWrong)

/-- 'busbarlaw01.CellPast': WHATEVER THE INPUT: true; the input reads as it did. -/
def cellPastSpec : ChangeSpec := { name := "cellPast", fn := fun _ => fun
  | [d1, d2] => { results := [.lit (.bool true)], args := [d1, d2] }
  | _ => none }
def cellPastRow : OpenClaim := { program := "ytbidfjngmiggpaa", sum := "8f0b5ac528f7e98adf05197041495a133fa4bf3a39802002e2b23a487f4443db", func := "busbar/busbarlaw01.CellPast", spec := "cellPast", apart := false }
def CellPastSaid : Prop := cellPastRow.holds Try.pinned (OpenSpec.ofChange cellPastSpec)

/-- ITS FALSE NEIGHBOUR: 'it returns false'. Refute it at one input. -/
def cellPastWrong : ChangeSpec := { name := "cellPast", fn := fun _ => fun
  | [d1, d2] => { results := [.lit (.bool false)], args := [d1, d2] }
  | _ => none }
def CellPastWrongFalsely : Prop := cellPastRow.holds Try.pinned (OpenSpec.ofChange cellPastWrong)

/- THE SECOND FORM. 'bulk': how many values and letters a reading holds, each counted each time it is reached (what is shared counts as often as it is met; a slice's spare places count too). A statement '..UptoSaid' is the law's where the arguments, and the package variables that the reading takes, are together of bulk at most 1048576: NARROWER than '..Said'. Prove '..Said' where nothing that the law and all that it calls make is longer than what came in: it says more and counts as full. Else prove '..UptoSaid'. A law counts once. -/
mutual
def uptoBulk {H : Type} : DataW H → Nat
  | .lit (.string bytes) => bytes.length + 1
  | .lit _ => 1
  | .nil => 1
  | .ptr d => uptoBulk d + 1
  | .slice elems spare => uptoBulkAll elems + uptoBulkAll spare + 1
  | .agg parts => uptoBulkAll parts + 1
  | .iface _ d => uptoBulk d + 1
  | .map entries => uptoBulkEntries entries + 1
  | .held _ => 1
def uptoBulkAll {H : Type} : List (DataW H) → Nat
  | [] => 0
  | d :: r => uptoBulk d + uptoBulkAll r
def uptoBulkEntries {H : Type} : List (Lit × DataW H) → Nat
  | [] => 0
  | x :: r => uptoBulkEntry x + uptoBulkEntries r
def uptoBulkEntry {H : Type} : Lit × DataW H → Nat
  | (.string bytes, d) => bytes.length + uptoBulk d + 1
  | (_, d) => uptoBulk d + 1
 end
def uptoSmall : (H : Type) → List (DataW H) → Bool := fun _ ds => decide (uptoBulkAll ds ≤ 1048576)
def OpenSpec.upto (s : _root_.Go.ChangeSpec) : _root_.Go.OpenSpec := { _root_.Go.OpenSpec.ofChange s with cond := some uptoSmall }

/-- 'busbarlaw03.WiresDrive', WHERE WHAT IT READS IS OF BULK AT MOST 1048576: true; the input reads as it did. -/
def wiresDriveUptoRow : OpenClaim := { program := "ytbidfjngmiggpaa", sum := "8f0b5ac528f7e98adf05197041495a133fa4bf3a39802002e2b23a487f4443db", func := "busbar/busbarlaw03.WiresDrive", spec := "wiresDrive", apart := false, narrowed := true }
def WiresDriveUptoSaid : Prop := wiresDriveUptoRow.holds Try.pinned (OpenSpec.upto wiresDriveSpec)

/-- 'busbarlaw03.WiresSides', WHERE WHAT IT READS IS OF BULK AT MOST 1048576: true; the input reads as it did. -/
def wiresSidesUptoRow : OpenClaim := { program := "ytbidfjngmiggpaa", sum := "8f0b5ac528f7e98adf05197041495a133fa4bf3a39802002e2b23a487f4443db", func := "busbar/busbarlaw03.WiresSides", spec := "wiresSides", apart := false, narrowed := true }
def WiresSidesUptoSaid : Prop := wiresSidesUptoRow.holds Try.pinned (OpenSpec.upto wiresSidesSpec)

/-- 'busbarlaw02.WordParts', WHERE WHAT IT READS IS OF BULK AT MOST 1048576: true; the input reads as it did. -/
def wordPartsUptoRow : OpenClaim := { program := "ytbidfjngmiggpaa", sum := "8f0b5ac528f7e98adf05197041495a133fa4bf3a39802002e2b23a487f4443db", func := "busbar/busbarlaw02.WordParts", spec := "wordParts", apart := false, narrowed := true }
def WordPartsUptoSaid : Prop := wordPartsUptoRow.holds Try.pinned (OpenSpec.upto wordPartsSpec)

/-- 'busbarlaw03.WiresTell', WHERE WHAT IT READS IS OF BULK AT MOST 1048576: true; the input reads as it did. -/
def wiresTellUptoRow : OpenClaim := { program := "ytbidfjngmiggpaa", sum := "8f0b5ac528f7e98adf05197041495a133fa4bf3a39802002e2b23a487f4443db", func := "busbar/busbarlaw03.WiresTell", spec := "wiresTell", apart := false, narrowed := true }
def WiresTellUptoSaid : Prop := wiresTellUptoRow.holds Try.pinned (OpenSpec.upto wiresTellSpec)

/-- 'busbarlaw03.WiresNames', WHERE WHAT IT READS IS OF BULK AT MOST 1048576: true; the input reads as it did. -/
def wiresNamesUptoRow : OpenClaim := { program := "ytbidfjngmiggpaa", sum := "8f0b5ac528f7e98adf05197041495a133fa4bf3a39802002e2b23a487f4443db", func := "busbar/busbarlaw03.WiresNames", spec := "wiresNames", apart := false, narrowed := true }
def WiresNamesUptoSaid : Prop := wiresNamesUptoRow.holds Try.pinned (OpenSpec.upto wiresNamesSpec)

/-- 'busbarlaw02.WordBits', WHERE WHAT IT READS IS OF BULK AT MOST 1048576: true; the input reads as it did. -/
def wordBitsUptoRow : OpenClaim := { program := "ytbidfjngmiggpaa", sum := "8f0b5ac528f7e98adf05197041495a133fa4bf3a39802002e2b23a487f4443db", func := "busbar/busbarlaw02.WordBits", spec := "wordBits", apart := false, narrowed := true }
def WordBitsUptoSaid : Prop := wordBitsUptoRow.holds Try.pinned (OpenSpec.upto wordBitsSpec)

/-- 'busbarlaw20.FaultAgain', WHERE WHAT IT READS IS OF BULK AT MOST 1048576: true; the input reads as it did. -/
def faultAgainUptoRow : OpenClaim := { program := "ytbidfjngmiggpaa", sum := "8f0b5ac528f7e98adf05197041495a133fa4bf3a39802002e2b23a487f4443db", func := "busbar/busbarlaw20.FaultAgain", spec := "faultAgain", apart := false, narrowed := true }
def FaultAgainUptoSaid : Prop := faultAgainUptoRow.holds Try.pinned (OpenSpec.upto faultAgainSpec)

/-- 'busbarlaw20.FaultTells', WHERE WHAT IT READS IS OF BULK AT MOST 1048576: true; the input reads as it did. -/
def faultTellsUptoRow : OpenClaim := { program := "ytbidfjngmiggpaa", sum := "8f0b5ac528f7e98adf05197041495a133fa4bf3a39802002e2b23a487f4443db", func := "busbar/busbarlaw20.FaultTells", spec := "faultTells", apart := false, narrowed := true }
def FaultTellsUptoSaid : Prop := faultTellsUptoRow.holds Try.pinned (OpenSpec.upto faultTellsSpec)

/-- 'busbarlaw03.WiresSay', WHERE WHAT IT READS IS OF BULK AT MOST 1048576: true; the input reads as it did. -/
def wiresSayUptoRow : OpenClaim := { program := "ytbidfjngmiggpaa", sum := "8f0b5ac528f7e98adf05197041495a133fa4bf3a39802002e2b23a487f4443db", func := "busbar/busbarlaw03.WiresSay", spec := "wiresSay", apart := false, narrowed := true }
def WiresSayUptoSaid : Prop := wiresSayUptoRow.holds Try.pinned (OpenSpec.upto wiresSaySpec)

/-- 'busbarlaw01.CellReads', WHERE WHAT IT READS IS OF BULK AT MOST 1048576: true; the input reads as it did. -/
def cellReadsUptoRow : OpenClaim := { program := "ytbidfjngmiggpaa", sum := "8f0b5ac528f7e98adf05197041495a133fa4bf3a39802002e2b23a487f4443db", func := "busbar/busbarlaw01.CellReads", spec := "cellReads", apart := false, narrowed := true }
def CellReadsUptoSaid : Prop := cellReadsUptoRow.holds Try.pinned (OpenSpec.upto cellReadsSpec)

/-- 'busbarlaw01.CellBack', WHERE WHAT IT READS IS OF BULK AT MOST 1048576: true; the input reads as it did. -/
def cellBackUptoRow : OpenClaim := { program := "ytbidfjngmiggpaa", sum := "8f0b5ac528f7e98adf05197041495a133fa4bf3a39802002e2b23a487f4443db", func := "busbar/busbarlaw01.CellBack", spec := "cellBack", apart := false, narrowed := true }
def CellBackUptoSaid : Prop := cellBackUptoRow.holds Try.pinned (OpenSpec.upto cellBackSpec)

/-- 'busbarlaw01.CellPast', WHERE WHAT IT READS IS OF BULK AT MOST 1048576: true; the input reads as it did. -/
def cellPastUptoRow : OpenClaim := { program := "ytbidfjngmiggpaa", sum := "8f0b5ac528f7e98adf05197041495a133fa4bf3a39802002e2b23a487f4443db", func := "busbar/busbarlaw01.CellPast", spec := "cellPast", apart := false, narrowed := true }
def CellPastUptoSaid : Prop := cellPastUptoRow.holds Try.pinned (OpenSpec.upto cellPastSpec)

end Rows
end Go.Proofs.Ytbidfjngmiggpaa
