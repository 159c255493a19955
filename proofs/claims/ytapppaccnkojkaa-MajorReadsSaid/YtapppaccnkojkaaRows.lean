/-
  No cell of these rows narrows 'for every input' (looked for: loops, veiled, ifaces, maps, wideKeys, modest, calm, conditions, laid).
  DERIVED. THE GIVEN ROWS OF THIS SEAT. 12 by the template 'for every input the law returns true; each argument reads behind the call as it read before'; 0 by the template 'total and deterministic' (their statements: YtapppaccnkojkaaTotals.lean).
  GIVEN WITH THE SEED: the statements are not yours to turn. If you find one false, say at which input.
  Laid BY PROGRAM, IN A SANDBOX (cutbox-rows.mjs): the forced cells as the released guide's own fill.sh prints them over the translation 13cafc2280941598… (all of the seat's roots in one cut). By AI agents, Wed Nov 11 2026. No macro, syntax, notation, axiom, sorry.
-/
import Derived.Test.YtapppaccnkojkaaChecked
import GoSem.Claim
import GoSem.ClaimJoined
import GoSem.ClaimMapViews
import Derived.JoinedTies
import Derived.KernelRfl
namespace Go.Proofs.Ytapppaccnkojkaa
/- THE CELL 'sum', in the pinned program and in every row, IS THE sha256 OF THE DUMP (.gsa) THAT YtapppaccnkojkaaProg.lean LOADS. Nothing in Lean hashes anything: it is a label: what it is worth is what the hold of that sum in a sandbox is worth. -/
noncomputable def Try.pinned : Pinned := { name := "ytapppaccnkojkaa", sum := "13cafc228094159822b16c9ec1e2c03c783df8cd19ff35988b0fe52e7e1eeb5f", checked := Try.checked }
namespace Rows
def none {H : Type} : Left H := { results := [], args := [] }

/-- 'busbarlaw13.StorePlays': WHATEVER THE INPUT: true; the input reads as it did. -/
def storePlaysSpec : ChangeSpec := { name := "storePlays", fn := fun _ => fun
  | [d1, d2, d3] => { results := [.lit (.bool true)], args := [d1, d2, d3] }
  | _ => none }
def storePlaysRow : OpenClaim := { program := "ytapppaccnkojkaa", sum := "13cafc228094159822b16c9ec1e2c03c783df8cd19ff35988b0fe52e7e1eeb5f", func := "busbar/busbarlaw13.StorePlays", spec := "storePlays", plainKeys := false, apart := false }
def StorePlaysSaid : Prop := storePlaysRow.holds Try.pinned (OpenSpec.ofChange storePlaysSpec)

/-- ITS FALSE NEIGHBOUR: 'it returns false'. Refute it at one input. -/
def storePlaysWrong : ChangeSpec := { name := "storePlays", fn := fun _ => fun
  | [d1, d2, d3] => { results := [.lit (.bool false)], args := [d1, d2, d3] }
  | _ => none }
def StorePlaysWrongFalsely : Prop := storePlaysRow.holds Try.pinned (OpenSpec.ofChange storePlaysWrong)

/-- 'busbarlaw15.ShiftLines': WHATEVER THE INPUT: true; the input reads as it did. -/
def shiftLinesSpec : ChangeSpec := { name := "shiftLines", fn := fun _ => fun
  | [d1, d2, d3] => { results := [.lit (.bool true)], args := [d1, d2, d3] }
  | _ => none }
def shiftLinesRow : OpenClaim := { program := "ytapppaccnkojkaa", sum := "13cafc228094159822b16c9ec1e2c03c783df8cd19ff35988b0fe52e7e1eeb5f", func := "busbar/busbarlaw15.ShiftLines", spec := "shiftLines", plainKeys := false, apart := false }
def ShiftLinesSaid : Prop := shiftLinesRow.holds Try.pinned (OpenSpec.ofChange shiftLinesSpec)

/-- ITS FALSE NEIGHBOUR: 'it returns false'. Refute it at one input. -/
def shiftLinesWrong : ChangeSpec := { name := "shiftLines", fn := fun _ => fun
  | [d1, d2, d3] => { results := [.lit (.bool false)], args := [d1, d2, d3] }
  | _ => none }
def ShiftLinesWrongFalsely : Prop := shiftLinesRow.holds Try.pinned (OpenSpec.ofChange shiftLinesWrong)

/-- 'busbarlaw24.BusMore': WHATEVER THE INPUT: true; the input reads as it did. -/
def busMoreSpec : ChangeSpec := { name := "busMore", fn := fun _ => fun
  | [d1, d2, d3] => { results := [.lit (.bool true)], args := [d1, d2, d3] }
  | _ => none }
def busMoreRow : OpenClaim := { program := "ytapppaccnkojkaa", sum := "13cafc228094159822b16c9ec1e2c03c783df8cd19ff35988b0fe52e7e1eeb5f", func := "busbar/busbarlaw24.BusMore", spec := "busMore", plainKeys := false, apart := false }
def BusMoreSaid : Prop := busMoreRow.holds Try.pinned (OpenSpec.ofChange busMoreSpec)

/-- ITS FALSE NEIGHBOUR: 'it returns false'. Refute it at one input. -/
def busMoreWrong : ChangeSpec := { name := "busMore", fn := fun _ => fun
  | [d1, d2, d3] => { results := [.lit (.bool false)], args := [d1, d2, d3] }
  | _ => none }
def BusMoreWrongFalsely : Prop := busMoreRow.holds Try.pinned (OpenSpec.ofChange busMoreWrong)

/-- 'busbarlaw24.BusSettles': WHATEVER THE INPUT: true; the input reads as it did. -/
def busSettlesSpec : ChangeSpec := { name := "busSettles", fn := fun _ => fun
  | [d1, d2, d3] => { results := [.lit (.bool true)], args := [d1, d2, d3] }
  | _ => none }
def busSettlesRow : OpenClaim := { program := "ytapppaccnkojkaa", sum := "13cafc228094159822b16c9ec1e2c03c783df8cd19ff35988b0fe52e7e1eeb5f", func := "busbar/busbarlaw24.BusSettles", spec := "busSettles", plainKeys := false, apart := false }
def BusSettlesSaid : Prop := busSettlesRow.holds Try.pinned (OpenSpec.ofChange busSettlesSpec)

/-- ITS FALSE NEIGHBOUR: 'it returns false'. Refute it at one input. -/
def busSettlesWrong : ChangeSpec := { name := "busSettles", fn := fun _ => fun
  | [d1, d2, d3] => { results := [.lit (.bool false)], args := [d1, d2, d3] }
  | _ => none }
def BusSettlesWrongFalsely : Prop := busSettlesRow.holds Try.pinned (OpenSpec.ofChange busSettlesWrong)

/-- 'busbarlaw07.PlanSame': WHATEVER THE INPUT: true; the input reads as it did. -/
def planSameSpec : ChangeSpec := { name := "planSame", fn := fun _ => fun
  | [d1, d2, d3] => { results := [.lit (.bool true)], args := [d1, d2, d3] }
  | _ => none }
def planSameRow : OpenClaim := { program := "ytapppaccnkojkaa", sum := "13cafc228094159822b16c9ec1e2c03c783df8cd19ff35988b0fe52e7e1eeb5f", func := "busbar/busbarlaw07.PlanSame", spec := "planSame", unfollowed := true, recurses := true, plainKeys := false, apart := false }
def PlanSameSaid : Prop := planSameRow.holds Try.pinned (OpenSpec.ofChange planSameSpec)

/-- ITS FALSE NEIGHBOUR: 'it returns false'. Refute it at one input. -/
def planSameWrong : ChangeSpec := { name := "planSame", fn := fun _ => fun
  | [d1, d2, d3] => { results := [.lit (.bool false)], args := [d1, d2, d3] }
  | _ => none }
def PlanSameWrongFalsely : Prop := planSameRow.holds Try.pinned (OpenSpec.ofChange planSameWrong)

/-- 'busbarlaw17.ActiveTells': WHATEVER THE INPUT: true; the input reads as it did. -/
def activeTellsSpec : ChangeSpec := { name := "activeTells", fn := fun _ => fun
  | [d1, d2, d3] => { results := [.lit (.bool true)], args := [d1, d2, d3] }
  | _ => none }
def activeTellsRow : OpenClaim := { program := "ytapppaccnkojkaa", sum := "13cafc228094159822b16c9ec1e2c03c783df8cd19ff35988b0fe52e7e1eeb5f", func := "busbar/busbarlaw17.ActiveTells", spec := "activeTells", unfollowed := true, recurses := true, plainKeys := false, apart := false }
def ActiveTellsSaid : Prop := activeTellsRow.holds Try.pinned (OpenSpec.ofChange activeTellsSpec)

/-- ITS FALSE NEIGHBOUR: 'it returns false'. Refute it at one input. -/
def activeTellsWrong : ChangeSpec := { name := "activeTells", fn := fun _ => fun
  | [d1, d2, d3] => { results := [.lit (.bool false)], args := [d1, d2, d3] }
  | _ => none }
def ActiveTellsWrongFalsely : Prop := activeTellsRow.holds Try.pinned (OpenSpec.ofChange activeTellsWrong)

/-- 'busbarlaw16.MajorReads': WHATEVER THE INPUT: true; the input reads as it did. -/
def majorReadsSpec : ChangeSpec := { name := "majorReads", fn := fun _ => fun
  | [d1, d2] => { results := [.lit (.bool true)], args := [d1, d2] }
  | _ => none }
def majorReadsRow : OpenClaim := { program := "ytapppaccnkojkaa", sum := "13cafc228094159822b16c9ec1e2c03c783df8cd19ff35988b0fe52e7e1eeb5f", func := "busbar/busbarlaw16.MajorReads", spec := "majorReads", plainKeys := false, apart := false }
def MajorReadsSaid : Prop := majorReadsRow.holds Try.pinned (OpenSpec.ofChange majorReadsSpec)

/-- ITS FALSE NEIGHBOUR: 'it returns false'. Refute it at one input. -/
def majorReadsWrong : ChangeSpec := { name := "majorReads", fn := fun _ => fun
  | [d1, d2] => { results := [.lit (.bool false)], args := [d1, d2] }
  | _ => none }
def MajorReadsWrongFalsely : Prop := majorReadsRow.holds Try.pinned (OpenSpec.ofChange majorReadsWrong)

/-- 'busbarlaw14.SerialWhole': WHATEVER THE INPUT: true; the input reads as it did. -/
def serialWholeSpec : ChangeSpec := { name := "serialWhole", fn := fun _ => fun
  | [d1, d2, d3] => { results := [.lit (.bool true)], args := [d1, d2, d3] }
  | _ => none }
def serialWholeRow : OpenClaim := { program := "ytapppaccnkojkaa", sum := "13cafc228094159822b16c9ec1e2c03c783df8cd19ff35988b0fe52e7e1eeb5f", func := "busbar/busbarlaw14.SerialWhole", spec := "serialWhole", unfollowed := true, recurses := true, plainKeys := false, apart := false }
def SerialWholeSaid : Prop := serialWholeRow.holds Try.pinned (OpenSpec.ofChange serialWholeSpec)

/-- ITS FALSE NEIGHBOUR: 'it returns false'. Refute it at one input. -/
def serialWholeWrong : ChangeSpec := { name := "serialWhole", fn := fun _ => fun
  | [d1, d2, d3] => { results := [.lit (.bool false)], args := [d1, d2, d3] }
  | _ => none }
def SerialWholeWrongFalsely : Prop := serialWholeRow.holds Try.pinned (OpenSpec.ofChange serialWholeWrong)

/-- 'busbarlaw27.HostPlays': WHATEVER THE INPUT: true; the input reads as it did. -/
def hostPlaysSpec : ChangeSpec := { name := "hostPlays", fn := fun _ => fun
  | [d1, d2, d3] => { results := [.lit (.bool true)], args := [d1, d2, d3] }
  | _ => none }
def hostPlaysRow : OpenClaim := { program := "ytapppaccnkojkaa", sum := "13cafc228094159822b16c9ec1e2c03c783df8cd19ff35988b0fe52e7e1eeb5f", func := "busbar/busbarlaw27.HostPlays", spec := "hostPlays", plainKeys := false, apart := false }
def HostPlaysSaid : Prop := hostPlaysRow.holds Try.pinned (OpenSpec.ofChange hostPlaysSpec)

/-- ITS FALSE NEIGHBOUR: 'it returns false'. Refute it at one input. -/
def hostPlaysWrong : ChangeSpec := { name := "hostPlays", fn := fun _ => fun
  | [d1, d2, d3] => { results := [.lit (.bool false)], args := [d1, d2, d3] }
  | _ => none }
def HostPlaysWrongFalsely : Prop := hostPlaysRow.holds Try.pinned (OpenSpec.ofChange hostPlaysWrong)

/-- 'busbarlaw15.ShiftSent': WHATEVER THE INPUT: true; the input reads as it did. -/
def shiftSentSpec : ChangeSpec := { name := "shiftSent", fn := fun _ => fun
  | [d1, d2, d3] => { results := [.lit (.bool true)], args := [d1, d2, d3] }
  | _ => none }
def shiftSentRow : OpenClaim := { program := "ytapppaccnkojkaa", sum := "13cafc228094159822b16c9ec1e2c03c783df8cd19ff35988b0fe52e7e1eeb5f", func := "busbar/busbarlaw15.ShiftSent", spec := "shiftSent", unfollowed := true, recurses := true, plainKeys := false, apart := false }
def ShiftSentSaid : Prop := shiftSentRow.holds Try.pinned (OpenSpec.ofChange shiftSentSpec)

/-- ITS FALSE NEIGHBOUR: 'it returns false'. Refute it at one input. -/
def shiftSentWrong : ChangeSpec := { name := "shiftSent", fn := fun _ => fun
  | [d1, d2, d3] => { results := [.lit (.bool false)], args := [d1, d2, d3] }
  | _ => none }
def ShiftSentWrongFalsely : Prop := shiftSentRow.holds Try.pinned (OpenSpec.ofChange shiftSentWrong)

/-- 'busbarlaw08.ValidChecks': WHATEVER THE INPUT: true; the input reads as it did. -/
def validChecksSpec : ChangeSpec := { name := "validChecks", fn := fun _ => fun
  | [d] => { results := [.lit (.bool true)], args := [d] }
  | _ => none }
def validChecksRow : OpenClaim := { program := "ytapppaccnkojkaa", sum := "13cafc228094159822b16c9ec1e2c03c783df8cd19ff35988b0fe52e7e1eeb5f", func := "busbar/busbarlaw08.ValidChecks", spec := "validChecks", unfollowed := true, recurses := true, plainKeys := false, apart := false }
def ValidChecksSaid : Prop := validChecksRow.holds Try.pinned (OpenSpec.ofChange validChecksSpec)

/-- ITS FALSE NEIGHBOUR: 'it returns false'. Refute it at one input. -/
def validChecksWrong : ChangeSpec := { name := "validChecks", fn := fun _ => fun
  | [d] => { results := [.lit (.bool false)], args := [d] }
  | _ => none }
def ValidChecksWrongFalsely : Prop := validChecksRow.holds Try.pinned (OpenSpec.ofChange validChecksWrong)

/-- 'busbarlaw08.ValidSpans': WHATEVER THE INPUT: true; the input reads as it did. -/
def validSpansSpec : ChangeSpec := { name := "validSpans", fn := fun _ => fun
  | [d1, d2] => { results := [.lit (.bool true)], args := [d1, d2] }
  | _ => none }
def validSpansRow : OpenClaim := { program := "ytapppaccnkojkaa", sum := "13cafc228094159822b16c9ec1e2c03c783df8cd19ff35988b0fe52e7e1eeb5f", func := "busbar/busbarlaw08.ValidSpans", spec := "validSpans", unfollowed := true, recurses := true, plainKeys := false, apart := false }
def ValidSpansSaid : Prop := validSpansRow.holds Try.pinned (OpenSpec.ofChange validSpansSpec)

/-- ITS FALSE NEIGHBOUR: 'it returns false'. Refute it at one input. -/
def validSpansWrong : ChangeSpec := { name := "validSpans", fn := fun _ => fun
  | [d1, d2] => { results := [.lit (.bool false)], args := [d1, d2] }
  | _ => none }
def ValidSpansWrongFalsely : Prop := validSpansRow.holds Try.pinned (OpenSpec.ofChange validSpansWrong)

/- THE SECOND FORM. 'bulk': how many values and letters a reading holds, each counted each time it is reached (what is shared counts as often as it is met; a slice's spare places count too). A statement '..UptoSaid' is the law's where the arguments, and the package variables that the reading takes, are together of bulk at most 1048576: NARROWER than '..Said'. Prove '..Said' where nothing that the law and all that it calls make is longer than what came in: it says more and counts as full. Else prove '..UptoSaid'. A law counts once. -/
mutual
def uptoBulk {H : Type} : DataW H → Nat
  | .lit (.string bytes) => bytes.length + 1
  | .lit _ => 1
  | .nil => 1
  | .ptr d => uptoBulk d + 1
  | .slice elems spare => uptoBulkAll elems + uptoBulkAll spare + 1
  | .agg parts => uptoBulkAll parts + 1
  | .iface _ d => uptoBulk d + 1
  | .map entries => uptoBulkEntries entries + 1
  | .held _ => 1
def uptoBulkAll {H : Type} : List (DataW H) → Nat
  | [] => 0
  | d :: r => uptoBulk d + uptoBulkAll r
def uptoBulkEntries {H : Type} : List (Lit × DataW H) → Nat
  | [] => 0
  | x :: r => uptoBulkEntry x + uptoBulkEntries r
def uptoBulkEntry {H : Type} : Lit × DataW H → Nat
  | (.string bytes, d) => bytes.length + uptoBulk d + 1
  | (_, d) => uptoBulk d + 1
 end
def uptoSmall : (H : Type) → List (DataW H) → Bool := fun _ ds => decide (uptoBulkAll ds ≤ 1048576)
def OpenSpec.upto (s : _root_.Go.ChangeSpec) : _root_.Go.OpenSpec := { _root_.Go.OpenSpec.ofChange s with cond := some uptoSmall }

/-- 'busbarlaw13.StorePlays', WHERE WHAT IT READS IS OF BULK AT MOST 1048576: true; the input reads as it did. -/
def storePlaysUptoRow : OpenClaim := { program := "ytapppaccnkojkaa", sum := "13cafc228094159822b16c9ec1e2c03c783df8cd19ff35988b0fe52e7e1eeb5f", func := "busbar/busbarlaw13.StorePlays", spec := "storePlays", plainKeys := false, apart := false, narrowed := true }
def StorePlaysUptoSaid : Prop := storePlaysUptoRow.holds Try.pinned (OpenSpec.upto storePlaysSpec)

/-- 'busbarlaw15.ShiftLines', WHERE WHAT IT READS IS OF BULK AT MOST 1048576: true; the input reads as it did. -/
def shiftLinesUptoRow : OpenClaim := { program := "ytapppaccnkojkaa", sum := "13cafc228094159822b16c9ec1e2c03c783df8cd19ff35988b0fe52e7e1eeb5f", func := "busbar/busbarlaw15.ShiftLines", spec := "shiftLines", plainKeys := false, apart := false, narrowed := true }
def ShiftLinesUptoSaid : Prop := shiftLinesUptoRow.holds Try.pinned (OpenSpec.upto shiftLinesSpec)

/-- 'busbarlaw24.BusMore', WHERE WHAT IT READS IS OF BULK AT MOST 1048576: true; the input reads as it did. -/
def busMoreUptoRow : OpenClaim := { program := "ytapppaccnkojkaa", sum := "13cafc228094159822b16c9ec1e2c03c783df8cd19ff35988b0fe52e7e1eeb5f", func := "busbar/busbarlaw24.BusMore", spec := "busMore", plainKeys := false, apart := false, narrowed := true }
def BusMoreUptoSaid : Prop := busMoreUptoRow.holds Try.pinned (OpenSpec.upto busMoreSpec)

/-- 'busbarlaw24.BusSettles', WHERE WHAT IT READS IS OF BULK AT MOST 1048576: true; the input reads as it did. -/
def busSettlesUptoRow : OpenClaim := { program := "ytapppaccnkojkaa", sum := "13cafc228094159822b16c9ec1e2c03c783df8cd19ff35988b0fe52e7e1eeb5f", func := "busbar/busbarlaw24.BusSettles", spec := "busSettles", plainKeys := false, apart := false, narrowed := true }
def BusSettlesUptoSaid : Prop := busSettlesUptoRow.holds Try.pinned (OpenSpec.upto busSettlesSpec)

/-- 'busbarlaw07.PlanSame', WHERE WHAT IT READS IS OF BULK AT MOST 1048576: true; the input reads as it did. -/
def planSameUptoRow : OpenClaim := { program := "ytapppaccnkojkaa", sum := "13cafc228094159822b16c9ec1e2c03c783df8cd19ff35988b0fe52e7e1eeb5f", func := "busbar/busbarlaw07.PlanSame", spec := "planSame", unfollowed := true, recurses := true, plainKeys := false, apart := false, narrowed := true }
def PlanSameUptoSaid : Prop := planSameUptoRow.holds Try.pinned (OpenSpec.upto planSameSpec)

/-- 'busbarlaw17.ActiveTells', WHERE WHAT IT READS IS OF BULK AT MOST 1048576: true; the input reads as it did. -/
def activeTellsUptoRow : OpenClaim := { program := "ytapppaccnkojkaa", sum := "13cafc228094159822b16c9ec1e2c03c783df8cd19ff35988b0fe52e7e1eeb5f", func := "busbar/busbarlaw17.ActiveTells", spec := "activeTells", unfollowed := true, recurses := true, plainKeys := false, apart := false, narrowed := true }
def ActiveTellsUptoSaid : Prop := activeTellsUptoRow.holds Try.pinned (OpenSpec.upto activeTellsSpec)

/-- 'busbarlaw16.MajorReads', WHERE WHAT IT READS IS OF BULK AT MOST 1048576: true; the input reads as it did. -/
def majorReadsUptoRow : OpenClaim := { program := "ytapppaccnkojkaa", sum := "13cafc228094159822b16c9ec1e2c03c783df8cd19ff35988b0fe52e7e1eeb5f", func := "busbar/busbarlaw16.MajorReads", spec := "majorReads", plainKeys := false, apart := false, narrowed := true }
def MajorReadsUptoSaid : Prop := majorReadsUptoRow.holds Try.pinned (OpenSpec.upto majorReadsSpec)

/-- 'busbarlaw14.SerialWhole', WHERE WHAT IT READS IS OF BULK AT MOST 1048576: true; the input reads as it did. -/
def serialWholeUptoRow : OpenClaim := { program := "ytapppaccnkojkaa", sum := "13cafc228094159822b16c9ec1e2c03c783df8cd19ff35988b0fe52e7e1eeb5f", func := "busbar/busbarlaw14.SerialWhole", spec := "serialWhole", unfollowed := true, recurses := true, plainKeys := false, apart := false, narrowed := true }
def SerialWholeUptoSaid : Prop := serialWholeUptoRow.holds Try.pinned (OpenSpec.upto serialWholeSpec)

/-- 'busbarlaw27.HostPlays', WHERE WHAT IT READS IS OF BULK AT MOST 1048576: true; the input reads as it did. -/
def hostPlaysUptoRow : OpenClaim := { program := "ytapppaccnkojkaa", sum := "13cafc228094159822b16c9ec1e2c03c783df8cd19ff35988b0fe52e7e1eeb5f", func := "busbar/busbarlaw27.HostPlays", spec := "hostPlays", plainKeys := false, apart := false, narrowed := true }
def HostPlaysUptoSaid : Prop := hostPlaysUptoRow.holds Try.pinned (OpenSpec.upto hostPlaysSpec)

/-- 'busbarlaw15.ShiftSent', WHERE WHAT IT READS IS OF BULK AT MOST 1048576: true; the input reads as it did. -/
def shiftSentUptoRow : OpenClaim := { program := "ytapppaccnkojkaa", sum := "13cafc228094159822b16c9ec1e2c03c783df8cd19ff35988b0fe52e7e1eeb5f", func := "busbar/busbarlaw15.ShiftSent", spec := "shiftSent", unfollowed := true, recurses := true, plainKeys := false, apart := false, narrowed := true }
def ShiftSentUptoSaid : Prop := shiftSentUptoRow.holds Try.pinned (OpenSpec.upto shiftSentSpec)

/-- 'busbarlaw08.ValidChecks', WHERE WHAT IT READS IS OF BULK AT MOST 1048576: true; the input reads as it did. -/
def validChecksUptoRow : OpenClaim := { program := "ytapppaccnkojkaa", sum := "13cafc228094159822b16c9ec1e2c03c783df8cd19ff35988b0fe52e7e1eeb5f", func := "busbar/busbarlaw08.ValidChecks", spec := "validChecks", unfollowed := true, recurses := true, plainKeys := false, apart := false, narrowed := true }
def ValidChecksUptoSaid : Prop := validChecksUptoRow.holds Try.pinned (OpenSpec.upto validChecksSpec)

/-- 'busbarlaw08.ValidSpans', WHERE WHAT IT READS IS OF BULK AT MOST 1048576: true; the input reads as it did. -/
def validSpansUptoRow : OpenClaim := { program := "ytapppaccnkojkaa", sum := "13cafc228094159822b16c9ec1e2c03c783df8cd19ff35988b0fe52e7e1eeb5f", func := "busbar/busbarlaw08.ValidSpans", spec := "validSpans", unfollowed := true, recurses := true, plainKeys := false, apart := false, narrowed := true }
def ValidSpansUptoSaid : Prop := validSpansUptoRow.holds Try.pinned (OpenSpec.upto validSpansSpec)

end Rows
end Go.Proofs.Ytapppaccnkojkaa
