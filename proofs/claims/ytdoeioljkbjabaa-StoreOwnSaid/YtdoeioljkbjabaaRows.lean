/-
  No cell of these rows narrows 'for every input' (looked for: loops, veiled, ifaces, maps, wideKeys, modest, calm, conditions, laid).
  DERIVED. THE GIVEN ROWS OF THIS SEAT. 12 by the template 'for every input the law returns true; each argument reads behind the call as it read before'; 0 by the template 'total and deterministic' (their statements: YtdoeioljkbjabaaTotals.lean).
  GIVEN WITH THE SEED: the statements are not yours to turn. If you find one false, say at which input.
  Laid BY PROGRAM, IN A SANDBOX (cutbox-rows.mjs): the forced cells as the released guide's own fill.sh prints them over the translation f4aef676335330ae… (all of the seat's roots in one cut). By AI agents, Wed Nov 11 2026. No macro, syntax, notation, axiom, sorry.
-/
import Derived.Test.YtdoeioljkbjabaaChecked
import GoSem.Claim
import GoSem.ClaimJoined
import GoSem.ClaimMapViews
import Derived.JoinedTies
import Derived.KernelRfl
namespace Go.Proofs.Ytdoeioljkbjabaa
/- THE CELL 'sum', in the pinned program and in every row, IS THE sha256 OF THE DUMP (.gsa) THAT YtdoeioljkbjabaaProg.lean LOADS. Nothing in Lean hashes anything: it is a label: what it is worth is what the hold of that sum in a sandbox is worth. -/
noncomputable def Try.pinned : Pinned := { name := "ytdoeioljkbjabaa", sum := "f4aef676335330ae4ddbc253f54f7e087e76332acf0e06e2586ed8178cdb54f1", checked := Try.checked }
namespace Rows
def none {H : Type} : Left H := { results := [], args := [] }

/-- 'busbarlaw17.ActiveNobody': WHATEVER THE INPUT: true; the input reads as it did. -/
def activeNobodySpec : ChangeSpec := { name := "activeNobody", fn := fun _ => fun
  | [d1, d2] => { results := [.lit (.bool true)], args := [d1, d2] }
  | _ => none }
def activeNobodyRow : OpenClaim := { program := "ytdoeioljkbjabaa", sum := "f4aef676335330ae4ddbc253f54f7e087e76332acf0e06e2586ed8178cdb54f1", func := "busbar/busbarlaw17.ActiveNobody", spec := "activeNobody", unfollowed := true, recurses := true, plainKeys := false, apart := false }
def ActiveNobodySaid : Prop := activeNobodyRow.holds Try.pinned (OpenSpec.ofChange activeNobodySpec)

/-- ITS FALSE NEIGHBOUR: 'it returns false'. Refute it at one input. -/
def activeNobodyWrong : ChangeSpec := { name := "activeNobody", fn := fun _ => fun
  | [d1, d2] => { results := [.lit (.bool false)], args := [d1, d2] }
  | _ => none }
def ActiveNobodyWrongFalsely : Prop := activeNobodyRow.holds Try.pinned (OpenSpec.ofChange activeNobodyWrong)

/-- 'busbarlaw13.StorePlays': WHATEVER THE INPUT: true; the input reads as it did. -/
def storePlaysSpec : ChangeSpec := { name := "storePlays", fn := fun _ => fun
  | [d1, d2, d3] => { results := [.lit (.bool true)], args := [d1, d2, d3] }
  | _ => none }
def storePlaysRow : OpenClaim := { program := "ytdoeioljkbjabaa", sum := "f4aef676335330ae4ddbc253f54f7e087e76332acf0e06e2586ed8178cdb54f1", func := "busbar/busbarlaw13.StorePlays", spec := "storePlays", plainKeys := false, apart := false }
def StorePlaysSaid : Prop := storePlaysRow.holds Try.pinned (OpenSpec.ofChange storePlaysSpec)

/-- ITS FALSE NEIGHBOUR: 'it returns false'. Refute it at one input. -/
def storePlaysWrong : ChangeSpec := { name := "storePlays", fn := fun _ => fun
  | [d1, d2, d3] => { results := [.lit (.bool false)], args := [d1, d2, d3] }
  | _ => none }
def StorePlaysWrongFalsely : Prop := storePlaysRow.holds Try.pinned (OpenSpec.ofChange storePlaysWrong)

/-- 'busbarlaw13.StoreOnce': WHATEVER THE INPUT: true; the input reads as it did. -/
def storeOnceSpec : ChangeSpec := { name := "storeOnce", fn := fun _ => fun
  | [d1, d2, d3] => { results := [.lit (.bool true)], args := [d1, d2, d3] }
  | _ => none }
def storeOnceRow : OpenClaim := { program := "ytdoeioljkbjabaa", sum := "f4aef676335330ae4ddbc253f54f7e087e76332acf0e06e2586ed8178cdb54f1", func := "busbar/busbarlaw13.StoreOnce", spec := "storeOnce", plainKeys := false, apart := false }
def StoreOnceSaid : Prop := storeOnceRow.holds Try.pinned (OpenSpec.ofChange storeOnceSpec)

/-- ITS FALSE NEIGHBOUR: 'it returns false'. Refute it at one input. -/
def storeOnceWrong : ChangeSpec := { name := "storeOnce", fn := fun _ => fun
  | [d1, d2, d3] => { results := [.lit (.bool false)], args := [d1, d2, d3] }
  | _ => none }
def StoreOnceWrongFalsely : Prop := storeOnceRow.holds Try.pinned (OpenSpec.ofChange storeOnceWrong)

/-- 'busbarlaw07.PlanPulses': WHATEVER THE INPUT: true; the input reads as it did. -/
def planPulsesSpec : ChangeSpec := { name := "planPulses", fn := fun _ => fun
  | [d1, d2] => { results := [.lit (.bool true)], args := [d1, d2] }
  | _ => none }
def planPulsesRow : OpenClaim := { program := "ytdoeioljkbjabaa", sum := "f4aef676335330ae4ddbc253f54f7e087e76332acf0e06e2586ed8178cdb54f1", func := "busbar/busbarlaw07.PlanPulses", spec := "planPulses", plainKeys := false, apart := false }
def PlanPulsesSaid : Prop := planPulsesRow.holds Try.pinned (OpenSpec.ofChange planPulsesSpec)

/-- ITS FALSE NEIGHBOUR: 'it returns false'. Refute it at one input. -/
def planPulsesWrong : ChangeSpec := { name := "planPulses", fn := fun _ => fun
  | [d1, d2] => { results := [.lit (.bool false)], args := [d1, d2] }
  | _ => none }
def PlanPulsesWrongFalsely : Prop := planPulsesRow.holds Try.pinned (OpenSpec.ofChange planPulsesWrong)

/-- 'busbarlaw13.StoreOwn': WHATEVER THE INPUT: true; the input reads as it did. -/
def storeOwnSpec : ChangeSpec := { name := "storeOwn", fn := fun _ => fun
  | [d1, d2, d3] => { results := [.lit (.bool true)], args := [d1, d2, d3] }
  | _ => none }
def storeOwnRow : OpenClaim := { program := "ytdoeioljkbjabaa", sum := "f4aef676335330ae4ddbc253f54f7e087e76332acf0e06e2586ed8178cdb54f1", func := "busbar/busbarlaw13.StoreOwn", spec := "storeOwn", plainKeys := false, apart := false }
def StoreOwnSaid : Prop := storeOwnRow.holds Try.pinned (OpenSpec.ofChange storeOwnSpec)

/-- ITS FALSE NEIGHBOUR: 'it returns false'. Refute it at one input. -/
def storeOwnWrong : ChangeSpec := { name := "storeOwn", fn := fun _ => fun
  | [d1, d2, d3] => { results := [.lit (.bool false)], args := [d1, d2, d3] }
  | _ => none }
def StoreOwnWrongFalsely : Prop := storeOwnRow.holds Try.pinned (OpenSpec.ofChange storeOwnWrong)

/-- 'busbarlaw13.StoreNobody': WHATEVER THE INPUT: true; the input reads as it did. -/
def storeNobodySpec : ChangeSpec := { name := "storeNobody", fn := fun _ => fun
  | [d] => { results := [.lit (.bool true)], args := [d] }
  | _ => none }
def storeNobodyRow : OpenClaim := { program := "ytdoeioljkbjabaa", sum := "f4aef676335330ae4ddbc253f54f7e087e76332acf0e06e2586ed8178cdb54f1", func := "busbar/busbarlaw13.StoreNobody", spec := "storeNobody", plainKeys := false, apart := false }
def StoreNobodySaid : Prop := storeNobodyRow.holds Try.pinned (OpenSpec.ofChange storeNobodySpec)

/-- ITS FALSE NEIGHBOUR: 'it returns false'. Refute it at one input. -/
def storeNobodyWrong : ChangeSpec := { name := "storeNobody", fn := fun _ => fun
  | [d] => { results := [.lit (.bool false)], args := [d] }
  | _ => none }
def StoreNobodyWrongFalsely : Prop := storeNobodyRow.holds Try.pinned (OpenSpec.ofChange storeNobodyWrong)

/-- 'busbarlaw15.ShiftLines': WHATEVER THE INPUT: true; the input reads as it did. -/
def shiftLinesSpec : ChangeSpec := { name := "shiftLines", fn := fun _ => fun
  | [d1, d2, d3] => { results := [.lit (.bool true)], args := [d1, d2, d3] }
  | _ => none }
def shiftLinesRow : OpenClaim := { program := "ytdoeioljkbjabaa", sum := "f4aef676335330ae4ddbc253f54f7e087e76332acf0e06e2586ed8178cdb54f1", func := "busbar/busbarlaw15.ShiftLines", spec := "shiftLines", plainKeys := false, apart := false }
def ShiftLinesSaid : Prop := shiftLinesRow.holds Try.pinned (OpenSpec.ofChange shiftLinesSpec)

/-- ITS FALSE NEIGHBOUR: 'it returns false'. Refute it at one input. -/
def shiftLinesWrong : ChangeSpec := { name := "shiftLines", fn := fun _ => fun
  | [d1, d2, d3] => { results := [.lit (.bool false)], args := [d1, d2, d3] }
  | _ => none }
def ShiftLinesWrongFalsely : Prop := shiftLinesRow.holds Try.pinned (OpenSpec.ofChange shiftLinesWrong)

/-- 'busbarlaw15.ShiftNobody': WHATEVER THE INPUT: true; the input reads as it did. -/
def shiftNobodySpec : ChangeSpec := { name := "shiftNobody", fn := fun _ => fun
  | [d1, d2] => { results := [.lit (.bool true)], args := [d1, d2] }
  | _ => none }
def shiftNobodyRow : OpenClaim := { program := "ytdoeioljkbjabaa", sum := "f4aef676335330ae4ddbc253f54f7e087e76332acf0e06e2586ed8178cdb54f1", func := "busbar/busbarlaw15.ShiftNobody", spec := "shiftNobody", plainKeys := false, apart := false }
def ShiftNobodySaid : Prop := shiftNobodyRow.holds Try.pinned (OpenSpec.ofChange shiftNobodySpec)

/-- ITS FALSE NEIGHBOUR: 'it returns false'. Refute it at one input. -/
def shiftNobodyWrong : ChangeSpec := { name := "shiftNobody", fn := fun _ => fun
  | [d1, d2] => { results := [.lit (.bool false)], args := [d1, d2] }
  | _ => none }
def ShiftNobodyWrongFalsely : Prop := shiftNobodyRow.holds Try.pinned (OpenSpec.ofChange shiftNobodyWrong)

/-- 'busbarlaw07.PlanViews': WHATEVER THE INPUT: true; the input reads as it did. -/
def planViewsSpec : ChangeSpec := { name := "planViews", fn := fun _ => fun
  | [d1, d2, d3] => { results := [.lit (.bool true)], args := [d1, d2, d3] }
  | _ => none }
def planViewsRow : OpenClaim := { program := "ytdoeioljkbjabaa", sum := "f4aef676335330ae4ddbc253f54f7e087e76332acf0e06e2586ed8178cdb54f1", func := "busbar/busbarlaw07.PlanViews", spec := "planViews", plainKeys := false, apart := false }
def PlanViewsSaid : Prop := planViewsRow.holds Try.pinned (OpenSpec.ofChange planViewsSpec)

/-- ITS FALSE NEIGHBOUR: 'it returns false'. Refute it at one input. -/
def planViewsWrong : ChangeSpec := { name := "planViews", fn := fun _ => fun
  | [d1, d2, d3] => { results := [.lit (.bool false)], args := [d1, d2, d3] }
  | _ => none }
def PlanViewsWrongFalsely : Prop := planViewsRow.holds Try.pinned (OpenSpec.ofChange planViewsWrong)

/-- 'busbarlaw07.PlanLies': WHATEVER THE INPUT: true; the input reads as it did. -/
def planLiesSpec : ChangeSpec := { name := "planLies", fn := fun _ => fun
  | [d1, d2, d3] => { results := [.lit (.bool true)], args := [d1, d2, d3] }
  | _ => none }
def planLiesRow : OpenClaim := { program := "ytdoeioljkbjabaa", sum := "f4aef676335330ae4ddbc253f54f7e087e76332acf0e06e2586ed8178cdb54f1", func := "busbar/busbarlaw07.PlanLies", spec := "planLies", plainKeys := false, apart := false }
def PlanLiesSaid : Prop := planLiesRow.holds Try.pinned (OpenSpec.ofChange planLiesSpec)

/-- ITS FALSE NEIGHBOUR: 'it returns false'. Refute it at one input. -/
def planLiesWrong : ChangeSpec := { name := "planLies", fn := fun _ => fun
  | [d1, d2, d3] => { results := [.lit (.bool false)], args := [d1, d2, d3] }
  | _ => none }
def PlanLiesWrongFalsely : Prop := planLiesRow.holds Try.pinned (OpenSpec.ofChange planLiesWrong)

/-- 'busbarlaw16.MajorVotes': WHATEVER THE INPUT: true; the input reads as it did. -/
def majorVotesSpec : ChangeSpec := { name := "majorVotes", fn := fun _ => fun
  | [d1, d2] => { results := [.lit (.bool true)], args := [d1, d2] }
  | _ => none }
def majorVotesRow : OpenClaim := { program := "ytdoeioljkbjabaa", sum := "f4aef676335330ae4ddbc253f54f7e087e76332acf0e06e2586ed8178cdb54f1", func := "busbar/busbarlaw16.MajorVotes", spec := "majorVotes", plainKeys := false, apart := false }
def MajorVotesSaid : Prop := majorVotesRow.holds Try.pinned (OpenSpec.ofChange majorVotesSpec)

/-- ITS FALSE NEIGHBOUR: 'it returns false'. Refute it at one input. -/
def majorVotesWrong : ChangeSpec := { name := "majorVotes", fn := fun _ => fun
  | [d1, d2] => { results := [.lit (.bool false)], args := [d1, d2] }
  | _ => none }
def MajorVotesWrongFalsely : Prop := majorVotesRow.holds Try.pinned (OpenSpec.ofChange majorVotesWrong)

/-- 'busbarlaw16.MajorHolds': WHATEVER THE INPUT: true; the input reads as it did. -/
def majorHoldsSpec : ChangeSpec := { name := "majorHolds", fn := fun _ => fun
  | [d1, d2, d3] => { results := [.lit (.bool true)], args := [d1, d2, d3] }
  | _ => none }
def majorHoldsRow : OpenClaim := { program := "ytdoeioljkbjabaa", sum := "f4aef676335330ae4ddbc253f54f7e087e76332acf0e06e2586ed8178cdb54f1", func := "busbar/busbarlaw16.MajorHolds", spec := "majorHolds", plainKeys := false, apart := false }
def MajorHoldsSaid : Prop := majorHoldsRow.holds Try.pinned (OpenSpec.ofChange majorHoldsSpec)

/-- ITS FALSE NEIGHBOUR: 'it returns false'. Refute it at one input. -/
def majorHoldsWrong : ChangeSpec := { name := "majorHolds", fn := fun _ => fun
  | [d1, d2, d3] => { results := [.lit (.bool false)], args := [d1, d2, d3] }
  | _ => none }
def MajorHoldsWrongFalsely : Prop := majorHoldsRow.holds Try.pinned (OpenSpec.ofChange majorHoldsWrong)

/- THE SECOND FORM. 'bulk': how many values and letters a reading holds, each counted each time it is reached (what is shared counts as often as it is met; a slice's spare places count too). A statement '..UptoSaid' is the law's where the arguments, and the package variables that the reading takes, are together of bulk at most 1048576: NARROWER than '..Said'. Prove '..Said' where nothing that the law and all that it calls make is longer than what came in: it says more and counts as full. Else prove '..UptoSaid'. A law counts once. -/
mutual
def uptoBulk {H : Type} : DataW H → Nat
  | .lit (.string bytes) => bytes.length + 1
  | .lit _ => 1
  | .nil => 1
  | .ptr d => uptoBulk d + 1
  | .slice elems spare => uptoBulkAll elems + uptoBulkAll spare + 1
  | .agg parts => uptoBulkAll parts + 1
  | .iface _ d => uptoBulk d + 1
  | .map entries => uptoBulkEntries entries + 1
  | .held _ => 1
def uptoBulkAll {H : Type} : List (DataW H) → Nat
  | [] => 0
  | d :: r => uptoBulk d + uptoBulkAll r
def uptoBulkEntries {H : Type} : List (Lit × DataW H) → Nat
  | [] => 0
  | x :: r => uptoBulkEntry x + uptoBulkEntries r
def uptoBulkEntry {H : Type} : Lit × DataW H → Nat
  | (.string bytes, d) => bytes.length + uptoBulk d + 1
  | (_, d) => uptoBulk d + 1
 end
def uptoSmall : (H : Type) → List (DataW H) → Bool := fun _ ds => decide (uptoBulkAll ds ≤ 1048576)
def OpenSpec.upto (s : _root_.Go.ChangeSpec) : _root_.Go.OpenSpec := { _root_.Go.OpenSpec.ofChange s with cond := some uptoSmall }

/-- 'busbarlaw17.ActiveNobody', WHERE WHAT IT READS IS OF BULK AT MOST 1048576: true; the input reads as it did. -/
def activeNobodyUptoRow : OpenClaim := { program := "ytdoeioljkbjabaa", sum := "f4aef676335330ae4ddbc253f54f7e087e76332acf0e06e2586ed8178cdb54f1", func := "busbar/busbarlaw17.ActiveNobody", spec := "activeNobody", unfollowed := true, recurses := true, plainKeys := false, apart := false, narrowed := true }
def ActiveNobodyUptoSaid : Prop := activeNobodyUptoRow.holds Try.pinned (OpenSpec.upto activeNobodySpec)

/-- 'busbarlaw13.StorePlays', WHERE WHAT IT READS IS OF BULK AT MOST 1048576: true; the input reads as it did. -/
def storePlaysUptoRow : OpenClaim := { program := "ytdoeioljkbjabaa", sum := "f4aef676335330ae4ddbc253f54f7e087e76332acf0e06e2586ed8178cdb54f1", func := "busbar/busbarlaw13.StorePlays", spec := "storePlays", plainKeys := false, apart := false, narrowed := true }
def StorePlaysUptoSaid : Prop := storePlaysUptoRow.holds Try.pinned (OpenSpec.upto storePlaysSpec)

/-- 'busbarlaw13.StoreOnce', WHERE WHAT IT READS IS OF BULK AT MOST 1048576: true; the input reads as it did. -/
def storeOnceUptoRow : OpenClaim := { program := "ytdoeioljkbjabaa", sum := "f4aef676335330ae4ddbc253f54f7e087e76332acf0e06e2586ed8178cdb54f1", func := "busbar/busbarlaw13.StoreOnce", spec := "storeOnce", plainKeys := false, apart := false, narrowed := true }
def StoreOnceUptoSaid : Prop := storeOnceUptoRow.holds Try.pinned (OpenSpec.upto storeOnceSpec)

/-- 'busbarlaw07.PlanPulses', WHERE WHAT IT READS IS OF BULK AT MOST 1048576: true; the input reads as it did. -/
def planPulsesUptoRow : OpenClaim := { program := "ytdoeioljkbjabaa", sum := "f4aef676335330ae4ddbc253f54f7e087e76332acf0e06e2586ed8178cdb54f1", func := "busbar/busbarlaw07.PlanPulses", spec := "planPulses", plainKeys := false, apart := false, narrowed := true }
def PlanPulsesUptoSaid : Prop := planPulsesUptoRow.holds Try.pinned (OpenSpec.upto planPulsesSpec)

/-- 'busbarlaw13.StoreOwn', WHERE WHAT IT READS IS OF BULK AT MOST 1048576: true; the input reads as it did. -/
def storeOwnUptoRow : OpenClaim := { program := "ytdoeioljkbjabaa", sum := "f4aef676335330ae4ddbc253f54f7e087e76332acf0e06e2586ed8178cdb54f1", func := "busbar/busbarlaw13.StoreOwn", spec := "storeOwn", plainKeys := false, apart := false, narrowed := true }
def StoreOwnUptoSaid : Prop := storeOwnUptoRow.holds Try.pinned (OpenSpec.upto storeOwnSpec)

/-- 'busbarlaw13.StoreNobody', WHERE WHAT IT READS IS OF BULK AT MOST 1048576: true; the input reads as it did. -/
def storeNobodyUptoRow : OpenClaim := { program := "ytdoeioljkbjabaa", sum := "f4aef676335330ae4ddbc253f54f7e087e76332acf0e06e2586ed8178cdb54f1", func := "busbar/busbarlaw13.StoreNobody", spec := "storeNobody", plainKeys := false, apart := false, narrowed := true }
def StoreNobodyUptoSaid : Prop := storeNobodyUptoRow.holds Try.pinned (OpenSpec.upto storeNobodySpec)

/-- 'busbarlaw15.ShiftLines', WHERE WHAT IT READS IS OF BULK AT MOST 1048576: true; the input reads as it did. -/
def shiftLinesUptoRow : OpenClaim := { program := "ytdoeioljkbjabaa", sum := "f4aef676335330ae4ddbc253f54f7e087e76332acf0e06e2586ed8178cdb54f1", func := "busbar/busbarlaw15.ShiftLines", spec := "shiftLines", plainKeys := false, apart := false, narrowed := true }
def ShiftLinesUptoSaid : Prop := shiftLinesUptoRow.holds Try.pinned (OpenSpec.upto shiftLinesSpec)

/-- 'busbarlaw15.ShiftNobody', WHERE WHAT IT READS IS OF BULK AT MOST 1048576: true; the input reads as it did. -/
def shiftNobodyUptoRow : OpenClaim := { program := "ytdoeioljkbjabaa", sum := "f4aef676335330ae4ddbc253f54f7e087e76332acf0e06e2586ed8178cdb54f1", func := "busbar/busbarlaw15.ShiftNobody", spec := "shiftNobody", plainKeys := false, apart := false, narrowed := true }
def ShiftNobodyUptoSaid : Prop := shiftNobodyUptoRow.holds Try.pinned (OpenSpec.upto shiftNobodySpec)

/-- 'busbarlaw07.PlanViews', WHERE WHAT IT READS IS OF BULK AT MOST 1048576: true; the input reads as it did. -/
def planViewsUptoRow : OpenClaim := { program := "ytdoeioljkbjabaa", sum := "f4aef676335330ae4ddbc253f54f7e087e76332acf0e06e2586ed8178cdb54f1", func := "busbar/busbarlaw07.PlanViews", spec := "planViews", plainKeys := false, apart := false, narrowed := true }
def PlanViewsUptoSaid : Prop := planViewsUptoRow.holds Try.pinned (OpenSpec.upto planViewsSpec)

/-- 'busbarlaw07.PlanLies', WHERE WHAT IT READS IS OF BULK AT MOST 1048576: true; the input reads as it did. -/
def planLiesUptoRow : OpenClaim := { program := "ytdoeioljkbjabaa", sum := "f4aef676335330ae4ddbc253f54f7e087e76332acf0e06e2586ed8178cdb54f1", func := "busbar/busbarlaw07.PlanLies", spec := "planLies", plainKeys := false, apart := false, narrowed := true }
def PlanLiesUptoSaid : Prop := planLiesUptoRow.holds Try.pinned (OpenSpec.upto planLiesSpec)

/-- 'busbarlaw16.MajorVotes', WHERE WHAT IT READS IS OF BULK AT MOST 1048576: true; the input reads as it did. -/
def majorVotesUptoRow : OpenClaim := { program := "ytdoeioljkbjabaa", sum := "f4aef676335330ae4ddbc253f54f7e087e76332acf0e06e2586ed8178cdb54f1", func := "busbar/busbarlaw16.MajorVotes", spec := "majorVotes", plainKeys := false, apart := false, narrowed := true }
def MajorVotesUptoSaid : Prop := majorVotesUptoRow.holds Try.pinned (OpenSpec.upto majorVotesSpec)

/-- 'busbarlaw16.MajorHolds', WHERE WHAT IT READS IS OF BULK AT MOST 1048576: true; the input reads as it did. -/
def majorHoldsUptoRow : OpenClaim := { program := "ytdoeioljkbjabaa", sum := "f4aef676335330ae4ddbc253f54f7e087e76332acf0e06e2586ed8178cdb54f1", func := "busbar/busbarlaw16.MajorHolds", spec := "majorHolds", plainKeys := false, apart := false, narrowed := true }
def MajorHoldsUptoSaid : Prop := majorHoldsUptoRow.holds Try.pinned (OpenSpec.upto majorHoldsSpec)

end Rows
end Go.Proofs.Ytdoeioljkbjabaa
