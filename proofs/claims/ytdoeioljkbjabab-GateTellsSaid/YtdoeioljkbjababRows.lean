/-
  No cell of these rows narrows 'for every input' (looked for: loops, veiled, ifaces, maps, wideKeys, modest, calm, conditions, laid).
  DERIVED. THE GIVEN ROWS OF THIS SEAT. 12 by the template 'for every input the law returns true; each argument reads behind the call as it read before'; 0 by the template 'total and deterministic' (their statements: YtdoeioljkbjababTotals.lean).
  GIVEN WITH THE SEED: the statements are not yours to turn. If you find one false, say at which input.
  Laid BY PROGRAM, IN A SANDBOX (cutbox-rows.mjs): the forced cells as the released guide's own fill.sh prints them over the translation d8d838e39795ffff… (all of the seat's roots in one cut). By AI agents, Wed Nov 11 2026. No macro, syntax, notation, axiom, sorry.
-/
import Derived.Test.YtdoeioljkbjababChecked
import GoSem.Claim
import GoSem.ClaimJoined
import GoSem.ClaimMapViews
import Derived.JoinedTies
import Derived.KernelRfl
namespace Go.Proofs.Ytdoeioljkbjabab
/- THE CELL 'sum', in the pinned program and in every row, IS THE sha256 OF THE DUMP (.gsa) THAT YtdoeioljkbjababProg.lean LOADS. Nothing in Lean hashes anything: it is a label: what it is worth is what the hold of that sum in a sandbox is worth. -/
noncomputable def Try.pinned : Pinned := { name := "ytdoeioljkbjabab", sum := "d8d838e39795ffff23911aba499f7b81202b07b75e31cf6d29e4650d3c45946a", checked := Try.checked }
namespace Rows
def none {H : Type} : Left H := { results := [], args := [] }

/-- 'busbarlaw14.SerialOthers': WHATEVER THE INPUT: true; the input reads as it did. -/
def serialOthersSpec : ChangeSpec := { name := "serialOthers", fn := fun _ => fun
  | [d1, d2] => { results := [.lit (.bool true)], args := [d1, d2] }
  | _ => none }
def serialOthersRow : OpenClaim := { program := "ytdoeioljkbjabab", sum := "d8d838e39795ffff23911aba499f7b81202b07b75e31cf6d29e4650d3c45946a", func := "busbar/busbarlaw14.SerialOthers", spec := "serialOthers", unfollowed := true, recurses := true, apart := false }
def SerialOthersSaid : Prop := serialOthersRow.holds Try.pinned (OpenSpec.ofChange serialOthersSpec)

/-- ITS FALSE NEIGHBOUR: 'it returns false'. Refute it at one input. -/
def serialOthersWrong : ChangeSpec := { name := "serialOthers", fn := fun _ => fun
  | [d1, d2] => { results := [.lit (.bool false)], args := [d1, d2] }
  | _ => none }
def SerialOthersWrongFalsely : Prop := serialOthersRow.holds Try.pinned (OpenSpec.ofChange serialOthersWrong)

/-- 'busbarlaw24.BusMore': WHATEVER THE INPUT: true; the input reads as it did. -/
def busMoreSpec : ChangeSpec := { name := "busMore", fn := fun _ => fun
  | [d1, d2, d3] => { results := [.lit (.bool true)], args := [d1, d2, d3] }
  | _ => none }
def busMoreRow : OpenClaim := { program := "ytdoeioljkbjabab", sum := "d8d838e39795ffff23911aba499f7b81202b07b75e31cf6d29e4650d3c45946a", func := "busbar/busbarlaw24.BusMore", spec := "busMore", apart := false }
def BusMoreSaid : Prop := busMoreRow.holds Try.pinned (OpenSpec.ofChange busMoreSpec)

/-- ITS FALSE NEIGHBOUR: 'it returns false'. Refute it at one input. -/
def busMoreWrong : ChangeSpec := { name := "busMore", fn := fun _ => fun
  | [d1, d2, d3] => { results := [.lit (.bool false)], args := [d1, d2, d3] }
  | _ => none }
def BusMoreWrongFalsely : Prop := busMoreRow.holds Try.pinned (OpenSpec.ofChange busMoreWrong)

/-- 'busbarlaw24.BusSettles': WHATEVER THE INPUT: true; the input reads as it did. -/
def busSettlesSpec : ChangeSpec := { name := "busSettles", fn := fun _ => fun
  | [d1, d2, d3] => { results := [.lit (.bool true)], args := [d1, d2, d3] }
  | _ => none }
def busSettlesRow : OpenClaim := { program := "ytdoeioljkbjabab", sum := "d8d838e39795ffff23911aba499f7b81202b07b75e31cf6d29e4650d3c45946a", func := "busbar/busbarlaw24.BusSettles", spec := "busSettles", apart := false }
def BusSettlesSaid : Prop := busSettlesRow.holds Try.pinned (OpenSpec.ofChange busSettlesSpec)

/-- ITS FALSE NEIGHBOUR: 'it returns false'. Refute it at one input. -/
def busSettlesWrong : ChangeSpec := { name := "busSettles", fn := fun _ => fun
  | [d1, d2, d3] => { results := [.lit (.bool false)], args := [d1, d2, d3] }
  | _ => none }
def BusSettlesWrongFalsely : Prop := busSettlesRow.holds Try.pinned (OpenSpec.ofChange busSettlesWrong)

/-- 'busbarlaw07.PlanSame': WHATEVER THE INPUT: true; the input reads as it did. -/
def planSameSpec : ChangeSpec := { name := "planSame", fn := fun _ => fun
  | [d1, d2, d3] => { results := [.lit (.bool true)], args := [d1, d2, d3] }
  | _ => none }
def planSameRow : OpenClaim := { program := "ytdoeioljkbjabab", sum := "d8d838e39795ffff23911aba499f7b81202b07b75e31cf6d29e4650d3c45946a", func := "busbar/busbarlaw07.PlanSame", spec := "planSame", unfollowed := true, recurses := true, apart := false }
def PlanSameSaid : Prop := planSameRow.holds Try.pinned (OpenSpec.ofChange planSameSpec)

/-- ITS FALSE NEIGHBOUR: 'it returns false'. Refute it at one input. -/
def planSameWrong : ChangeSpec := { name := "planSame", fn := fun _ => fun
  | [d1, d2, d3] => { results := [.lit (.bool false)], args := [d1, d2, d3] }
  | _ => none }
def PlanSameWrongFalsely : Prop := planSameRow.holds Try.pinned (OpenSpec.ofChange planSameWrong)

/-- 'busbarlaw19.CheckFinds': WHATEVER THE INPUT: true; the input reads as it did. -/
def checkFindsSpec : ChangeSpec := { name := "checkFinds", fn := fun _ => fun
  | [d1, d2, d3] => { results := [.lit (.bool true)], args := [d1, d2, d3] }
  | _ => none }
def checkFindsRow : OpenClaim := { program := "ytdoeioljkbjabab", sum := "d8d838e39795ffff23911aba499f7b81202b07b75e31cf6d29e4650d3c45946a", func := "busbar/busbarlaw19.CheckFinds", spec := "checkFinds", unfollowed := true, recurses := true, apart := false }
def CheckFindsSaid : Prop := checkFindsRow.holds Try.pinned (OpenSpec.ofChange checkFindsSpec)

/-- ITS FALSE NEIGHBOUR: 'it returns false'. Refute it at one input. -/
def checkFindsWrong : ChangeSpec := { name := "checkFinds", fn := fun _ => fun
  | [d1, d2, d3] => { results := [.lit (.bool false)], args := [d1, d2, d3] }
  | _ => none }
def CheckFindsWrongFalsely : Prop := checkFindsRow.holds Try.pinned (OpenSpec.ofChange checkFindsWrong)

/-- 'busbarlaw18.GateTells': WHATEVER THE INPUT: true; the input reads as it did. -/
def gateTellsSpec : ChangeSpec := { name := "gateTells", fn := fun _ => fun
  | [d1, d2, d3] => { results := [.lit (.bool true)], args := [d1, d2, d3] }
  | _ => none }
def gateTellsRow : OpenClaim := { program := "ytdoeioljkbjabab", sum := "d8d838e39795ffff23911aba499f7b81202b07b75e31cf6d29e4650d3c45946a", func := "busbar/busbarlaw18.GateTells", spec := "gateTells", unfollowed := true, recurses := true, apart := false }
def GateTellsSaid : Prop := gateTellsRow.holds Try.pinned (OpenSpec.ofChange gateTellsSpec)

/-- ITS FALSE NEIGHBOUR: 'it returns false'. Refute it at one input. -/
def gateTellsWrong : ChangeSpec := { name := "gateTells", fn := fun _ => fun
  | [d1, d2, d3] => { results := [.lit (.bool false)], args := [d1, d2, d3] }
  | _ => none }
def GateTellsWrongFalsely : Prop := gateTellsRow.holds Try.pinned (OpenSpec.ofChange gateTellsWrong)

/-- 'busbarlaw18.GateLets': WHATEVER THE INPUT: true; the input reads as it did. -/
def gateLetsSpec : ChangeSpec := { name := "gateLets", fn := fun _ => fun
  | [d1, d2, d3] => { results := [.lit (.bool true)], args := [d1, d2, d3] }
  | _ => none }
def gateLetsRow : OpenClaim := { program := "ytdoeioljkbjabab", sum := "d8d838e39795ffff23911aba499f7b81202b07b75e31cf6d29e4650d3c45946a", func := "busbar/busbarlaw18.GateLets", spec := "gateLets", unfollowed := true, recurses := true, apart := false }
def GateLetsSaid : Prop := gateLetsRow.holds Try.pinned (OpenSpec.ofChange gateLetsSpec)

/-- ITS FALSE NEIGHBOUR: 'it returns false'. Refute it at one input. -/
def gateLetsWrong : ChangeSpec := { name := "gateLets", fn := fun _ => fun
  | [d1, d2, d3] => { results := [.lit (.bool false)], args := [d1, d2, d3] }
  | _ => none }
def GateLetsWrongFalsely : Prop := gateLetsRow.holds Try.pinned (OpenSpec.ofChange gateLetsWrong)

/-- 'busbarlaw18.GateHolds': WHATEVER THE INPUT: true; the input reads as it did. -/
def gateHoldsSpec : ChangeSpec := { name := "gateHolds", fn := fun _ => fun
  | [d1, d2, d3] => { results := [.lit (.bool true)], args := [d1, d2, d3] }
  | _ => none }
def gateHoldsRow : OpenClaim := { program := "ytdoeioljkbjabab", sum := "d8d838e39795ffff23911aba499f7b81202b07b75e31cf6d29e4650d3c45946a", func := "busbar/busbarlaw18.GateHolds", spec := "gateHolds", unfollowed := true, recurses := true, apart := false }
def GateHoldsSaid : Prop := gateHoldsRow.holds Try.pinned (OpenSpec.ofChange gateHoldsSpec)

/-- ITS FALSE NEIGHBOUR: 'it returns false'. Refute it at one input. -/
def gateHoldsWrong : ChangeSpec := { name := "gateHolds", fn := fun _ => fun
  | [d1, d2, d3] => { results := [.lit (.bool false)], args := [d1, d2, d3] }
  | _ => none }
def GateHoldsWrongFalsely : Prop := gateHoldsRow.holds Try.pinned (OpenSpec.ofChange gateHoldsWrong)

/-- 'busbarlaw17.ActiveTells': WHATEVER THE INPUT: true; the input reads as it did. -/
def activeTellsSpec : ChangeSpec := { name := "activeTells", fn := fun _ => fun
  | [d1, d2, d3] => { results := [.lit (.bool true)], args := [d1, d2, d3] }
  | _ => none }
def activeTellsRow : OpenClaim := { program := "ytdoeioljkbjabab", sum := "d8d838e39795ffff23911aba499f7b81202b07b75e31cf6d29e4650d3c45946a", func := "busbar/busbarlaw17.ActiveTells", spec := "activeTells", unfollowed := true, recurses := true, apart := false }
def ActiveTellsSaid : Prop := activeTellsRow.holds Try.pinned (OpenSpec.ofChange activeTellsSpec)

/-- ITS FALSE NEIGHBOUR: 'it returns false'. Refute it at one input. -/
def activeTellsWrong : ChangeSpec := { name := "activeTells", fn := fun _ => fun
  | [d1, d2, d3] => { results := [.lit (.bool false)], args := [d1, d2, d3] }
  | _ => none }
def ActiveTellsWrongFalsely : Prop := activeTellsRow.holds Try.pinned (OpenSpec.ofChange activeTellsWrong)

/-- 'busbarlaw19.CheckSees': WHATEVER THE INPUT: true; the input reads as it did. -/
def checkSeesSpec : ChangeSpec := { name := "checkSees", fn := fun _ => fun
  | [d1, d2, d3] => { results := [.lit (.bool true)], args := [d1, d2, d3] }
  | _ => none }
def checkSeesRow : OpenClaim := { program := "ytdoeioljkbjabab", sum := "d8d838e39795ffff23911aba499f7b81202b07b75e31cf6d29e4650d3c45946a", func := "busbar/busbarlaw19.CheckSees", spec := "checkSees", unfollowed := true, recurses := true, apart := false }
def CheckSeesSaid : Prop := checkSeesRow.holds Try.pinned (OpenSpec.ofChange checkSeesSpec)

/-- ITS FALSE NEIGHBOUR: 'it returns false'. Refute it at one input. -/
def checkSeesWrong : ChangeSpec := { name := "checkSees", fn := fun _ => fun
  | [d1, d2, d3] => { results := [.lit (.bool false)], args := [d1, d2, d3] }
  | _ => none }
def CheckSeesWrongFalsely : Prop := checkSeesRow.holds Try.pinned (OpenSpec.ofChange checkSeesWrong)

/-- 'busbarlaw19.CheckNobody': WHATEVER THE INPUT: true; the input reads as it did. -/
def checkNobodySpec : ChangeSpec := { name := "checkNobody", fn := fun _ => fun
  | [d1, d2, d3] => { results := [.lit (.bool true)], args := [d1, d2, d3] }
  | _ => none }
def checkNobodyRow : OpenClaim := { program := "ytdoeioljkbjabab", sum := "d8d838e39795ffff23911aba499f7b81202b07b75e31cf6d29e4650d3c45946a", func := "busbar/busbarlaw19.CheckNobody", spec := "checkNobody", unfollowed := true, recurses := true, apart := false }
def CheckNobodySaid : Prop := checkNobodyRow.holds Try.pinned (OpenSpec.ofChange checkNobodySpec)

/-- ITS FALSE NEIGHBOUR: 'it returns false'. Refute it at one input. -/
def checkNobodyWrong : ChangeSpec := { name := "checkNobody", fn := fun _ => fun
  | [d1, d2, d3] => { results := [.lit (.bool false)], args := [d1, d2, d3] }
  | _ => none }
def CheckNobodyWrongFalsely : Prop := checkNobodyRow.holds Try.pinned (OpenSpec.ofChange checkNobodyWrong)

/-- 'busbarlaw16.MajorReads': WHATEVER THE INPUT: true; the input reads as it did. -/
def majorReadsSpec : ChangeSpec := { name := "majorReads", fn := fun _ => fun
  | [d1, d2] => { results := [.lit (.bool true)], args := [d1, d2] }
  | _ => none }
def majorReadsRow : OpenClaim := { program := "ytdoeioljkbjabab", sum := "d8d838e39795ffff23911aba499f7b81202b07b75e31cf6d29e4650d3c45946a", func := "busbar/busbarlaw16.MajorReads", spec := "majorReads", apart := false }
def MajorReadsSaid : Prop := majorReadsRow.holds Try.pinned (OpenSpec.ofChange majorReadsSpec)

/-- ITS FALSE NEIGHBOUR: 'it returns false'. Refute it at one input. -/
def majorReadsWrong : ChangeSpec := { name := "majorReads", fn := fun _ => fun
  | [d1, d2] => { results := [.lit (.bool false)], args := [d1, d2] }
  | _ => none }
def MajorReadsWrongFalsely : Prop := majorReadsRow.holds Try.pinned (OpenSpec.ofChange majorReadsWrong)

/- THE SECOND FORM. 'bulk': how many values and letters a reading holds, each counted each time it is reached (what is shared counts as often as it is met; a slice's spare places count too). A statement '..UptoSaid' is the law's where the arguments, and the package variables that the reading takes, are together of bulk at most 1048576: NARROWER than '..Said'. Prove '..Said' where nothing that the law and all that it calls make is longer than what came in: it says more and counts as full. Else prove '..UptoSaid'. A law counts once. -/
mutual
def uptoBulk {H : Type} : DataW H → Nat
  | .lit (.string bytes) => bytes.length + 1
  | .lit _ => 1
  | .nil => 1
  | .ptr d => uptoBulk d + 1
  | .slice elems spare => uptoBulkAll elems + uptoBulkAll spare + 1
  | .agg parts => uptoBulkAll parts + 1
  | .iface _ d => uptoBulk d + 1
  | .map entries => uptoBulkEntries entries + 1
  | .held _ => 1
def uptoBulkAll {H : Type} : List (DataW H) → Nat
  | [] => 0
  | d :: r => uptoBulk d + uptoBulkAll r
def uptoBulkEntries {H : Type} : List (Lit × DataW H) → Nat
  | [] => 0
  | x :: r => uptoBulkEntry x + uptoBulkEntries r
def uptoBulkEntry {H : Type} : Lit × DataW H → Nat
  | (.string bytes, d) => bytes.length + uptoBulk d + 1
  | (_, d) => uptoBulk d + 1
 end
def uptoSmall : (H : Type) → List (DataW H) → Bool := fun _ ds => decide (uptoBulkAll ds ≤ 1048576)
def OpenSpec.upto (s : _root_.Go.ChangeSpec) : _root_.Go.OpenSpec := { _root_.Go.OpenSpec.ofChange s with cond := some uptoSmall }

/-- 'busbarlaw14.SerialOthers', WHERE WHAT IT READS IS OF BULK AT MOST 1048576: true; the input reads as it did. -/
def serialOthersUptoRow : OpenClaim := { program := "ytdoeioljkbjabab", sum := "d8d838e39795ffff23911aba499f7b81202b07b75e31cf6d29e4650d3c45946a", func := "busbar/busbarlaw14.SerialOthers", spec := "serialOthers", unfollowed := true, recurses := true, apart := false, narrowed := true }
def SerialOthersUptoSaid : Prop := serialOthersUptoRow.holds Try.pinned (OpenSpec.upto serialOthersSpec)

/-- 'busbarlaw24.BusMore', WHERE WHAT IT READS IS OF BULK AT MOST 1048576: true; the input reads as it did. -/
def busMoreUptoRow : OpenClaim := { program := "ytdoeioljkbjabab", sum := "d8d838e39795ffff23911aba499f7b81202b07b75e31cf6d29e4650d3c45946a", func := "busbar/busbarlaw24.BusMore", spec := "busMore", apart := false, narrowed := true }
def BusMoreUptoSaid : Prop := busMoreUptoRow.holds Try.pinned (OpenSpec.upto busMoreSpec)

/-- 'busbarlaw24.BusSettles', WHERE WHAT IT READS IS OF BULK AT MOST 1048576: true; the input reads as it did. -/
def busSettlesUptoRow : OpenClaim := { program := "ytdoeioljkbjabab", sum := "d8d838e39795ffff23911aba499f7b81202b07b75e31cf6d29e4650d3c45946a", func := "busbar/busbarlaw24.BusSettles", spec := "busSettles", apart := false, narrowed := true }
def BusSettlesUptoSaid : Prop := busSettlesUptoRow.holds Try.pinned (OpenSpec.upto busSettlesSpec)

/-- 'busbarlaw07.PlanSame', WHERE WHAT IT READS IS OF BULK AT MOST 1048576: true; the input reads as it did. -/
def planSameUptoRow : OpenClaim := { program := "ytdoeioljkbjabab", sum := "d8d838e39795ffff23911aba499f7b81202b07b75e31cf6d29e4650d3c45946a", func := "busbar/busbarlaw07.PlanSame", spec := "planSame", unfollowed := true, recurses := true, apart := false, narrowed := true }
def PlanSameUptoSaid : Prop := planSameUptoRow.holds Try.pinned (OpenSpec.upto planSameSpec)

/-- 'busbarlaw19.CheckFinds', WHERE WHAT IT READS IS OF BULK AT MOST 1048576: true; the input reads as it did. -/
def checkFindsUptoRow : OpenClaim := { program := "ytdoeioljkbjabab", sum := "d8d838e39795ffff23911aba499f7b81202b07b75e31cf6d29e4650d3c45946a", func := "busbar/busbarlaw19.CheckFinds", spec := "checkFinds", unfollowed := true, recurses := true, apart := false, narrowed := true }
def CheckFindsUptoSaid : Prop := checkFindsUptoRow.holds Try.pinned (OpenSpec.upto checkFindsSpec)

/-- 'busbarlaw18.GateTells', WHERE WHAT IT READS IS OF BULK AT MOST 1048576: true; the input reads as it did. -/
def gateTellsUptoRow : OpenClaim := { program := "ytdoeioljkbjabab", sum := "d8d838e39795ffff23911aba499f7b81202b07b75e31cf6d29e4650d3c45946a", func := "busbar/busbarlaw18.GateTells", spec := "gateTells", unfollowed := true, recurses := true, apart := false, narrowed := true }
def GateTellsUptoSaid : Prop := gateTellsUptoRow.holds Try.pinned (OpenSpec.upto gateTellsSpec)

/-- 'busbarlaw18.GateLets', WHERE WHAT IT READS IS OF BULK AT MOST 1048576: true; the input reads as it did. -/
def gateLetsUptoRow : OpenClaim := { program := "ytdoeioljkbjabab", sum := "d8d838e39795ffff23911aba499f7b81202b07b75e31cf6d29e4650d3c45946a", func := "busbar/busbarlaw18.GateLets", spec := "gateLets", unfollowed := true, recurses := true, apart := false, narrowed := true }
def GateLetsUptoSaid : Prop := gateLetsUptoRow.holds Try.pinned (OpenSpec.upto gateLetsSpec)

/-- 'busbarlaw18.GateHolds', WHERE WHAT IT READS IS OF BULK AT MOST 1048576: true; the input reads as it did. -/
def gateHoldsUptoRow : OpenClaim := { program := "ytdoeioljkbjabab", sum := "d8d838e39795ffff23911aba499f7b81202b07b75e31cf6d29e4650d3c45946a", func := "busbar/busbarlaw18.GateHolds", spec := "gateHolds", unfollowed := true, recurses := true, apart := false, narrowed := true }
def GateHoldsUptoSaid : Prop := gateHoldsUptoRow.holds Try.pinned (OpenSpec.upto gateHoldsSpec)

/-- 'busbarlaw17.ActiveTells', WHERE WHAT IT READS IS OF BULK AT MOST 1048576: true; the input reads as it did. -/
def activeTellsUptoRow : OpenClaim := { program := "ytdoeioljkbjabab", sum := "d8d838e39795ffff23911aba499f7b81202b07b75e31cf6d29e4650d3c45946a", func := "busbar/busbarlaw17.ActiveTells", spec := "activeTells", unfollowed := true, recurses := true, apart := false, narrowed := true }
def ActiveTellsUptoSaid : Prop := activeTellsUptoRow.holds Try.pinned (OpenSpec.upto activeTellsSpec)

/-- 'busbarlaw19.CheckSees', WHERE WHAT IT READS IS OF BULK AT MOST 1048576: true; the input reads as it did. -/
def checkSeesUptoRow : OpenClaim := { program := "ytdoeioljkbjabab", sum := "d8d838e39795ffff23911aba499f7b81202b07b75e31cf6d29e4650d3c45946a", func := "busbar/busbarlaw19.CheckSees", spec := "checkSees", unfollowed := true, recurses := true, apart := false, narrowed := true }
def CheckSeesUptoSaid : Prop := checkSeesUptoRow.holds Try.pinned (OpenSpec.upto checkSeesSpec)

/-- 'busbarlaw19.CheckNobody', WHERE WHAT IT READS IS OF BULK AT MOST 1048576: true; the input reads as it did. -/
def checkNobodyUptoRow : OpenClaim := { program := "ytdoeioljkbjabab", sum := "d8d838e39795ffff23911aba499f7b81202b07b75e31cf6d29e4650d3c45946a", func := "busbar/busbarlaw19.CheckNobody", spec := "checkNobody", unfollowed := true, recurses := true, apart := false, narrowed := true }
def CheckNobodyUptoSaid : Prop := checkNobodyUptoRow.holds Try.pinned (OpenSpec.upto checkNobodySpec)

/-- 'busbarlaw16.MajorReads', WHERE WHAT IT READS IS OF BULK AT MOST 1048576: true; the input reads as it did. -/
def majorReadsUptoRow : OpenClaim := { program := "ytdoeioljkbjabab", sum := "d8d838e39795ffff23911aba499f7b81202b07b75e31cf6d29e4650d3c45946a", func := "busbar/busbarlaw16.MajorReads", spec := "majorReads", apart := false, narrowed := true }
def MajorReadsUptoSaid : Prop := majorReadsUptoRow.holds Try.pinned (OpenSpec.upto majorReadsSpec)

end Rows
end Go.Proofs.Ytdoeioljkbjabab
