/-
  No cell of these rows narrows 'for every input' (looked for: loops, veiled, ifaces, maps, wideKeys, modest, calm, conditions, laid).
  DERIVED. THE GIVEN ROWS OF THIS SEAT. 12 by the template 'for every input the law returns true; each argument reads behind the call as it read before'; 0 by the template 'total and deterministic' (their statements: YtcddhbhdpleppaaTotals.lean).
  GIVEN WITH THE SEED: the statements are not yours to turn. If you find one false, say at which input.
  Laid BY PROGRAM, IN A SANDBOX (cutbox-rows.mjs): the forced cells as the released guide's own fill.sh prints them over the translation 55fdb1c9c8e4c73b… (all of the seat's roots in one cut). By AI agents, Wed Nov 11 2026. No macro, syntax, notation, axiom, sorry.
-/
import Derived.Test.YtcddhbhdpleppaaChecked
import GoSem.Claim
import GoSem.ClaimJoined
import GoSem.ClaimMapViews
import Derived.JoinedTies
import Derived.KernelRfl
namespace Go.Proofs.Ytcddhbhdpleppaa
/- THE CELL 'sum', in the pinned program and in every row, IS THE sha256 OF THE DUMP (.gsa) THAT YtcddhbhdpleppaaProg.lean LOADS. Nothing in Lean hashes anything: it is a label: what it is worth is what the hold of that sum in a sandbox is worth. -/
noncomputable def Try.pinned : Pinned := { name := "ytcddhbhdpleppaa", sum := "55fdb1c9c8e4c73b56f3c093fca8b09594989d34c2c60db74c9476b6f54ba391", checked := Try.checked }
namespace Rows
def none {H : Type} : Left H := { results := [], args := [] }

/-- 'busbarlaw24.BusSettles': WHATEVER THE INPUT: true; the input reads as it did. -/
def busSettlesSpec : ChangeSpec := { name := "busSettles", fn := fun _ => fun
  | [d1, d2, d3] => { results := [.lit (.bool true)], args := [d1, d2, d3] }
  | _ => none }
def busSettlesRow : OpenClaim := { program := "ytcddhbhdpleppaa", sum := "55fdb1c9c8e4c73b56f3c093fca8b09594989d34c2c60db74c9476b6f54ba391", func := "busbar/busbarlaw24.BusSettles", spec := "busSettles", apart := false }
def BusSettlesSaid : Prop := busSettlesRow.holds Try.pinned (OpenSpec.ofChange busSettlesSpec)

/-- ITS FALSE NEIGHBOUR: 'it returns false'. Refute it at one input. -/
def busSettlesWrong : ChangeSpec := { name := "busSettles", fn := fun _ => fun
  | [d1, d2, d3] => { results := [.lit (.bool false)], args := [d1, d2, d3] }
  | _ => none }
def BusSettlesWrongFalsely : Prop := busSettlesRow.holds Try.pinned (OpenSpec.ofChange busSettlesWrong)

/-- 'busbarlaw07.PlanSame': WHATEVER THE INPUT: true; the input reads as it did. -/
def planSameSpec : ChangeSpec := { name := "planSame", fn := fun _ => fun
  | [d1, d2, d3] => { results := [.lit (.bool true)], args := [d1, d2, d3] }
  | _ => none }
def planSameRow : OpenClaim := { program := "ytcddhbhdpleppaa", sum := "55fdb1c9c8e4c73b56f3c093fca8b09594989d34c2c60db74c9476b6f54ba391", func := "busbar/busbarlaw07.PlanSame", spec := "planSame", unfollowed := true, recurses := true, apart := false }
def PlanSameSaid : Prop := planSameRow.holds Try.pinned (OpenSpec.ofChange planSameSpec)

/-- ITS FALSE NEIGHBOUR: 'it returns false'. Refute it at one input. -/
def planSameWrong : ChangeSpec := { name := "planSame", fn := fun _ => fun
  | [d1, d2, d3] => { results := [.lit (.bool false)], args := [d1, d2, d3] }
  | _ => none }
def PlanSameWrongFalsely : Prop := planSameRow.holds Try.pinned (OpenSpec.ofChange planSameWrong)

/-- 'busbarlaw27.HostPlays': WHATEVER THE INPUT: true; the input reads as it did. -/
def hostPlaysSpec : ChangeSpec := { name := "hostPlays", fn := fun _ => fun
  | [d1, d2, d3] => { results := [.lit (.bool true)], args := [d1, d2, d3] }
  | _ => none }
def hostPlaysRow : OpenClaim := { program := "ytcddhbhdpleppaa", sum := "55fdb1c9c8e4c73b56f3c093fca8b09594989d34c2c60db74c9476b6f54ba391", func := "busbar/busbarlaw27.HostPlays", spec := "hostPlays", apart := false }
def HostPlaysSaid : Prop := hostPlaysRow.holds Try.pinned (OpenSpec.ofChange hostPlaysSpec)

/-- ITS FALSE NEIGHBOUR: 'it returns false'. Refute it at one input. -/
def hostPlaysWrong : ChangeSpec := { name := "hostPlays", fn := fun _ => fun
  | [d1, d2, d3] => { results := [.lit (.bool false)], args := [d1, d2, d3] }
  | _ => none }
def HostPlaysWrongFalsely : Prop := hostPlaysRow.holds Try.pinned (OpenSpec.ofChange hostPlaysWrong)

/-- 'busbarlaw34.FlowsBuild': WHATEVER THE INPUT: true; the input reads as it did. -/
def flowsBuildSpec : ChangeSpec := { name := "flowsBuild", fn := fun _ => fun
  | [d1, d2, d3] => { results := [.lit (.bool true)], args := [d1, d2, d3] }
  | _ => none }
def flowsBuildRow : OpenClaim := { program := "ytcddhbhdpleppaa", sum := "55fdb1c9c8e4c73b56f3c093fca8b09594989d34c2c60db74c9476b6f54ba391", func := "busbar/busbarlaw34.FlowsBuild", spec := "flowsBuild", unfollowed := true, recurses := true, apart := false }
def FlowsBuildSaid : Prop := flowsBuildRow.holds Try.pinned (OpenSpec.ofChange flowsBuildSpec)

/-- ITS FALSE NEIGHBOUR: 'it returns false'. Refute it at one input. -/
def flowsBuildWrong : ChangeSpec := { name := "flowsBuild", fn := fun _ => fun
  | [d1, d2, d3] => { results := [.lit (.bool false)], args := [d1, d2, d3] }
  | _ => none }
def FlowsBuildWrongFalsely : Prop := flowsBuildRow.holds Try.pinned (OpenSpec.ofChange flowsBuildWrong)

/-- 'busbarlaw08.ValidApart': WHATEVER THE INPUT: true; the input reads as it did. -/
def validApartSpec : ChangeSpec := { name := "validApart", fn := fun _ => fun
  | [d] => { results := [.lit (.bool true)], args := [d] }
  | _ => none }
def validApartRow : OpenClaim := { program := "ytcddhbhdpleppaa", sum := "55fdb1c9c8e4c73b56f3c093fca8b09594989d34c2c60db74c9476b6f54ba391", func := "busbar/busbarlaw08.ValidApart", spec := "validApart", unfollowed := true, recurses := true, apart := false }
def ValidApartSaid : Prop := validApartRow.holds Try.pinned (OpenSpec.ofChange validApartSpec)

/-- ITS FALSE NEIGHBOUR: 'it returns false'. Refute it at one input. -/
def validApartWrong : ChangeSpec := { name := "validApart", fn := fun _ => fun
  | [d] => { results := [.lit (.bool false)], args := [d] }
  | _ => none }
def ValidApartWrongFalsely : Prop := validApartRow.holds Try.pinned (OpenSpec.ofChange validApartWrong)

/-- 'busbarlaw31.LoadTells': WHATEVER THE INPUT: true; the input reads as it did. -/
def loadTellsSpec : ChangeSpec := { name := "loadTells", fn := fun _ => fun
  | [d1, d2, d3] => { results := [.lit (.bool true)], args := [d1, d2, d3] }
  | _ => none }
def loadTellsRow : OpenClaim := { program := "ytcddhbhdpleppaa", sum := "55fdb1c9c8e4c73b56f3c093fca8b09594989d34c2c60db74c9476b6f54ba391", func := "busbar/busbarlaw31.LoadTells", spec := "loadTells", unfollowed := true, recurses := true, apart := false }
def LoadTellsSaid : Prop := loadTellsRow.holds Try.pinned (OpenSpec.ofChange loadTellsSpec)

/-- ITS FALSE NEIGHBOUR: 'it returns false'. Refute it at one input. -/
def loadTellsWrong : ChangeSpec := { name := "loadTells", fn := fun _ => fun
  | [d1, d2, d3] => { results := [.lit (.bool false)], args := [d1, d2, d3] }
  | _ => none }
def LoadTellsWrongFalsely : Prop := loadTellsRow.holds Try.pinned (OpenSpec.ofChange loadTellsWrong)

/-- 'busbarlaw34.FlowsTight': WHATEVER THE INPUT: true; the input reads as it did. -/
def flowsTightSpec : ChangeSpec := { name := "flowsTight", fn := fun _ => fun
  | [d1, d2] => { results := [.lit (.bool true)], args := [d1, d2] }
  | _ => none }
def flowsTightRow : OpenClaim := { program := "ytcddhbhdpleppaa", sum := "55fdb1c9c8e4c73b56f3c093fca8b09594989d34c2c60db74c9476b6f54ba391", func := "busbar/busbarlaw34.FlowsTight", spec := "flowsTight", unfollowed := true, recurses := true, apart := false }
def FlowsTightSaid : Prop := flowsTightRow.holds Try.pinned (OpenSpec.ofChange flowsTightSpec)

/-- ITS FALSE NEIGHBOUR: 'it returns false'. Refute it at one input. -/
def flowsTightWrong : ChangeSpec := { name := "flowsTight", fn := fun _ => fun
  | [d1, d2] => { results := [.lit (.bool false)], args := [d1, d2] }
  | _ => none }
def FlowsTightWrongFalsely : Prop := flowsTightRow.holds Try.pinned (OpenSpec.ofChange flowsTightWrong)

/-- 'busbarlaw43.CalendarTells': WHATEVER THE INPUT: true; the input reads as it did. -/
def calendarTellsSpec : ChangeSpec := { name := "calendarTells", fn := fun _ => fun
  | [d1, d2, d3] => { results := [.lit (.bool true)], args := [d1, d2, d3] }
  | _ => none }
def calendarTellsRow : OpenClaim := { program := "ytcddhbhdpleppaa", sum := "55fdb1c9c8e4c73b56f3c093fca8b09594989d34c2c60db74c9476b6f54ba391", func := "busbar/busbarlaw43.CalendarTells", spec := "calendarTells", inPlace := ["internal/abi.NoEscape", "internal/bytealg.MakeNoZero"], unfollowed := true, recurses := true, apart := false }
def CalendarTellsSaid : Prop := calendarTellsRow.holds Try.pinned (OpenSpec.ofChange calendarTellsSpec)

/-- ITS FALSE NEIGHBOUR: 'it returns false'. Refute it at one input. -/
def calendarTellsWrong : ChangeSpec := { name := "calendarTells", fn := fun _ => fun
  | [d1, d2, d3] => { results := [.lit (.bool false)], args := [d1, d2, d3] }
  | _ => none }
def CalendarTellsWrongFalsely : Prop := calendarTellsRow.holds Try.pinned (OpenSpec.ofChange calendarTellsWrong)

/-- 'busbarlaw34.FlowsTightly': WHATEVER THE INPUT: true; the input reads as it did. -/
def flowsTightlySpec : ChangeSpec := { name := "flowsTightly", fn := fun _ => fun
  | [d1, d2] => { results := [.lit (.bool true)], args := [d1, d2] }
  | _ => none }
def flowsTightlyRow : OpenClaim := { program := "ytcddhbhdpleppaa", sum := "55fdb1c9c8e4c73b56f3c093fca8b09594989d34c2c60db74c9476b6f54ba391", func := "busbar/busbarlaw34.FlowsTightly", spec := "flowsTightly", unfollowed := true, recurses := true, apart := false }
def FlowsTightlySaid : Prop := flowsTightlyRow.holds Try.pinned (OpenSpec.ofChange flowsTightlySpec)

/-- ITS FALSE NEIGHBOUR: 'it returns false'. Refute it at one input. -/
def flowsTightlyWrong : ChangeSpec := { name := "flowsTightly", fn := fun _ => fun
  | [d1, d2] => { results := [.lit (.bool false)], args := [d1, d2] }
  | _ => none }
def FlowsTightlyWrongFalsely : Prop := flowsTightlyRow.holds Try.pinned (OpenSpec.ofChange flowsTightlyWrong)

/-- 'busbarlaw28.TraceTexts': WHATEVER THE INPUT: true; the input reads as it did. -/
def traceTextsSpec : ChangeSpec := { name := "traceTexts", fn := fun _ => fun
  | [d] => { results := [.lit (.bool true)], args := [d] }
  | _ => none }
def traceTextsRow : OpenClaim := { program := "ytcddhbhdpleppaa", sum := "55fdb1c9c8e4c73b56f3c093fca8b09594989d34c2c60db74c9476b6f54ba391", func := "busbar/busbarlaw28.TraceTexts", spec := "traceTexts", inPlace := ["internal/abi.NoEscape", "internal/bytealg.MakeNoZero", "slices.overlaps[int]"], unfollowed := true, recurses := true, apart := false }
def TraceTextsSaid : Prop := traceTextsRow.holds Try.pinned (OpenSpec.ofChange traceTextsSpec)

/-- ITS FALSE NEIGHBOUR: 'it returns false'. Refute it at one input. -/
def traceTextsWrong : ChangeSpec := { name := "traceTexts", fn := fun _ => fun
  | [d] => { results := [.lit (.bool false)], args := [d] }
  | _ => none }
def TraceTextsWrongFalsely : Prop := traceTextsRow.holds Try.pinned (OpenSpec.ofChange traceTextsWrong)

/-- 'busbarlaw43.CalendarAges': WHATEVER THE INPUT: true; the input reads as it did. -/
def calendarAgesSpec : ChangeSpec := { name := "calendarAges", fn := fun _ => fun
  | [d1, d2, d3] => { results := [.lit (.bool true)], args := [d1, d2, d3] }
  | _ => none }
def calendarAgesRow : OpenClaim := { program := "ytcddhbhdpleppaa", sum := "55fdb1c9c8e4c73b56f3c093fca8b09594989d34c2c60db74c9476b6f54ba391", func := "busbar/busbarlaw43.CalendarAges", spec := "calendarAges", inPlace := ["internal/abi.NoEscape", "internal/bytealg.MakeNoZero"], unfollowed := true, recurses := true, apart := false }
def CalendarAgesSaid : Prop := calendarAgesRow.holds Try.pinned (OpenSpec.ofChange calendarAgesSpec)

/-- ITS FALSE NEIGHBOUR: 'it returns false'. Refute it at one input. -/
def calendarAgesWrong : ChangeSpec := { name := "calendarAges", fn := fun _ => fun
  | [d1, d2, d3] => { results := [.lit (.bool false)], args := [d1, d2, d3] }
  | _ => none }
def CalendarAgesWrongFalsely : Prop := calendarAgesRow.holds Try.pinned (OpenSpec.ofChange calendarAgesWrong)

/-- 'busbarlaw43.CalendarGoes': WHATEVER THE INPUT: true; the input reads as it did. -/
def calendarGoesSpec : ChangeSpec := { name := "calendarGoes", fn := fun _ => fun
  | [d1, d2, d3] => { results := [.lit (.bool true)], args := [d1, d2, d3] }
  | _ => none }
def calendarGoesRow : OpenClaim := { program := "ytcddhbhdpleppaa", sum := "55fdb1c9c8e4c73b56f3c093fca8b09594989d34c2c60db74c9476b6f54ba391", func := "busbar/busbarlaw43.CalendarGoes", spec := "calendarGoes", inPlace := ["internal/abi.NoEscape", "internal/bytealg.MakeNoZero"], unfollowed := true, recurses := true, apart := false }
def CalendarGoesSaid : Prop := calendarGoesRow.holds Try.pinned (OpenSpec.ofChange calendarGoesSpec)

/-- ITS FALSE NEIGHBOUR: 'it returns false'. Refute it at one input. -/
def calendarGoesWrong : ChangeSpec := { name := "calendarGoes", fn := fun _ => fun
  | [d1, d2, d3] => { results := [.lit (.bool false)], args := [d1, d2, d3] }
  | _ => none }
def CalendarGoesWrongFalsely : Prop := calendarGoesRow.holds Try.pinned (OpenSpec.ofChange calendarGoesWrong)

/- THE SECOND FORM. 'bulk': how many values and letters a reading holds, each counted each time it is reached (what is shared counts as often as it is met; a slice's spare places count too). A statement '..UptoSaid' is the law's where the arguments, and the package variables that the reading takes, are together of bulk at most 1048576: NARROWER than '..Said'. Prove '..Said' where nothing that the law and all that it calls make is longer than what came in: it says more and counts as full. Else prove '..UptoSaid'. A law counts once. -/
mutual
def uptoBulk {H : Type} : DataW H → Nat
  | .lit (.string bytes) => bytes.length + 1
  | .lit _ => 1
  | .nil => 1
  | .ptr d => uptoBulk d + 1
  | .slice elems spare => uptoBulkAll elems + uptoBulkAll spare + 1
  | .agg parts => uptoBulkAll parts + 1
  | .iface _ d => uptoBulk d + 1
  | .map entries => uptoBulkEntries entries + 1
  | .held _ => 1
def uptoBulkAll {H : Type} : List (DataW H) → Nat
  | [] => 0
  | d :: r => uptoBulk d + uptoBulkAll r
def uptoBulkEntries {H : Type} : List (Lit × DataW H) → Nat
  | [] => 0
  | x :: r => uptoBulkEntry x + uptoBulkEntries r
def uptoBulkEntry {H : Type} : Lit × DataW H → Nat
  | (.string bytes, d) => bytes.length + uptoBulk d + 1
  | (_, d) => uptoBulk d + 1
 end
def uptoSmall : (H : Type) → List (DataW H) → Bool := fun _ ds => decide (uptoBulkAll ds ≤ 1048576)
def OpenSpec.upto (s : _root_.Go.ChangeSpec) : _root_.Go.OpenSpec := { _root_.Go.OpenSpec.ofChange s with cond := some uptoSmall }

/-- 'busbarlaw24.BusSettles', WHERE WHAT IT READS IS OF BULK AT MOST 1048576: true; the input reads as it did. -/
def busSettlesUptoRow : OpenClaim := { program := "ytcddhbhdpleppaa", sum := "55fdb1c9c8e4c73b56f3c093fca8b09594989d34c2c60db74c9476b6f54ba391", func := "busbar/busbarlaw24.BusSettles", spec := "busSettles", apart := false, narrowed := true }
def BusSettlesUptoSaid : Prop := busSettlesUptoRow.holds Try.pinned (OpenSpec.upto busSettlesSpec)

/-- 'busbarlaw07.PlanSame', WHERE WHAT IT READS IS OF BULK AT MOST 1048576: true; the input reads as it did. -/
def planSameUptoRow : OpenClaim := { program := "ytcddhbhdpleppaa", sum := "55fdb1c9c8e4c73b56f3c093fca8b09594989d34c2c60db74c9476b6f54ba391", func := "busbar/busbarlaw07.PlanSame", spec := "planSame", unfollowed := true, recurses := true, apart := false, narrowed := true }
def PlanSameUptoSaid : Prop := planSameUptoRow.holds Try.pinned (OpenSpec.upto planSameSpec)

/-- 'busbarlaw27.HostPlays', WHERE WHAT IT READS IS OF BULK AT MOST 1048576: true; the input reads as it did. -/
def hostPlaysUptoRow : OpenClaim := { program := "ytcddhbhdpleppaa", sum := "55fdb1c9c8e4c73b56f3c093fca8b09594989d34c2c60db74c9476b6f54ba391", func := "busbar/busbarlaw27.HostPlays", spec := "hostPlays", apart := false, narrowed := true }
def HostPlaysUptoSaid : Prop := hostPlaysUptoRow.holds Try.pinned (OpenSpec.upto hostPlaysSpec)

/-- 'busbarlaw34.FlowsBuild', WHERE WHAT IT READS IS OF BULK AT MOST 1048576: true; the input reads as it did. -/
def flowsBuildUptoRow : OpenClaim := { program := "ytcddhbhdpleppaa", sum := "55fdb1c9c8e4c73b56f3c093fca8b09594989d34c2c60db74c9476b6f54ba391", func := "busbar/busbarlaw34.FlowsBuild", spec := "flowsBuild", unfollowed := true, recurses := true, apart := false, narrowed := true }
def FlowsBuildUptoSaid : Prop := flowsBuildUptoRow.holds Try.pinned (OpenSpec.upto flowsBuildSpec)

/-- 'busbarlaw08.ValidApart', WHERE WHAT IT READS IS OF BULK AT MOST 1048576: true; the input reads as it did. -/
def validApartUptoRow : OpenClaim := { program := "ytcddhbhdpleppaa", sum := "55fdb1c9c8e4c73b56f3c093fca8b09594989d34c2c60db74c9476b6f54ba391", func := "busbar/busbarlaw08.ValidApart", spec := "validApart", unfollowed := true, recurses := true, apart := false, narrowed := true }
def ValidApartUptoSaid : Prop := validApartUptoRow.holds Try.pinned (OpenSpec.upto validApartSpec)

/-- 'busbarlaw31.LoadTells', WHERE WHAT IT READS IS OF BULK AT MOST 1048576: true; the input reads as it did. -/
def loadTellsUptoRow : OpenClaim := { program := "ytcddhbhdpleppaa", sum := "55fdb1c9c8e4c73b56f3c093fca8b09594989d34c2c60db74c9476b6f54ba391", func := "busbar/busbarlaw31.LoadTells", spec := "loadTells", unfollowed := true, recurses := true, apart := false, narrowed := true }
def LoadTellsUptoSaid : Prop := loadTellsUptoRow.holds Try.pinned (OpenSpec.upto loadTellsSpec)

/-- 'busbarlaw34.FlowsTight', WHERE WHAT IT READS IS OF BULK AT MOST 1048576: true; the input reads as it did. -/
def flowsTightUptoRow : OpenClaim := { program := "ytcddhbhdpleppaa", sum := "55fdb1c9c8e4c73b56f3c093fca8b09594989d34c2c60db74c9476b6f54ba391", func := "busbar/busbarlaw34.FlowsTight", spec := "flowsTight", unfollowed := true, recurses := true, apart := false, narrowed := true }
def FlowsTightUptoSaid : Prop := flowsTightUptoRow.holds Try.pinned (OpenSpec.upto flowsTightSpec)

/-- 'busbarlaw43.CalendarTells', WHERE WHAT IT READS IS OF BULK AT MOST 1048576: true; the input reads as it did. -/
def calendarTellsUptoRow : OpenClaim := { program := "ytcddhbhdpleppaa", sum := "55fdb1c9c8e4c73b56f3c093fca8b09594989d34c2c60db74c9476b6f54ba391", func := "busbar/busbarlaw43.CalendarTells", spec := "calendarTells", inPlace := ["internal/abi.NoEscape", "internal/bytealg.MakeNoZero"], unfollowed := true, recurses := true, apart := false, narrowed := true }
def CalendarTellsUptoSaid : Prop := calendarTellsUptoRow.holds Try.pinned (OpenSpec.upto calendarTellsSpec)

/-- 'busbarlaw34.FlowsTightly', WHERE WHAT IT READS IS OF BULK AT MOST 1048576: true; the input reads as it did. -/
def flowsTightlyUptoRow : OpenClaim := { program := "ytcddhbhdpleppaa", sum := "55fdb1c9c8e4c73b56f3c093fca8b09594989d34c2c60db74c9476b6f54ba391", func := "busbar/busbarlaw34.FlowsTightly", spec := "flowsTightly", unfollowed := true, recurses := true, apart := false, narrowed := true }
def FlowsTightlyUptoSaid : Prop := flowsTightlyUptoRow.holds Try.pinned (OpenSpec.upto flowsTightlySpec)

/-- 'busbarlaw28.TraceTexts', WHERE WHAT IT READS IS OF BULK AT MOST 1048576: true; the input reads as it did. -/
def traceTextsUptoRow : OpenClaim := { program := "ytcddhbhdpleppaa", sum := "55fdb1c9c8e4c73b56f3c093fca8b09594989d34c2c60db74c9476b6f54ba391", func := "busbar/busbarlaw28.TraceTexts", spec := "traceTexts", inPlace := ["internal/abi.NoEscape", "internal/bytealg.MakeNoZero", "slices.overlaps[int]"], unfollowed := true, recurses := true, apart := false, narrowed := true }
def TraceTextsUptoSaid : Prop := traceTextsUptoRow.holds Try.pinned (OpenSpec.upto traceTextsSpec)

/-- 'busbarlaw43.CalendarAges', WHERE WHAT IT READS IS OF BULK AT MOST 1048576: true; the input reads as it did. -/
def calendarAgesUptoRow : OpenClaim := { program := "ytcddhbhdpleppaa", sum := "55fdb1c9c8e4c73b56f3c093fca8b09594989d34c2c60db74c9476b6f54ba391", func := "busbar/busbarlaw43.CalendarAges", spec := "calendarAges", inPlace := ["internal/abi.NoEscape", "internal/bytealg.MakeNoZero"], unfollowed := true, recurses := true, apart := false, narrowed := true }
def CalendarAgesUptoSaid : Prop := calendarAgesUptoRow.holds Try.pinned (OpenSpec.upto calendarAgesSpec)

/-- 'busbarlaw43.CalendarGoes', WHERE WHAT IT READS IS OF BULK AT MOST 1048576: true; the input reads as it did. -/
def calendarGoesUptoRow : OpenClaim := { program := "ytcddhbhdpleppaa", sum := "55fdb1c9c8e4c73b56f3c093fca8b09594989d34c2c60db74c9476b6f54ba391", func := "busbar/busbarlaw43.CalendarGoes", spec := "calendarGoes", inPlace := ["internal/abi.NoEscape", "internal/bytealg.MakeNoZero"], unfollowed := true, recurses := true, apart := false, narrowed := true }
def CalendarGoesUptoSaid : Prop := calendarGoesUptoRow.holds Try.pinned (OpenSpec.upto calendarGoesSpec)

end Rows
end Go.Proofs.Ytcddhbhdpleppaa
