/- The gate's layer, over the logic of partial memories. No conditions. -/
import Derived.Test.YtdoeioljkbjababSCheckSeesRW14b
set_option linter.unusedVariables false
set_option linter.unusedSimpArgs false
namespace Go.Proofs.Ytdoeioljkbjabab.R
open Go Go.RowKit Go.Proofs.Ytdoeioljkbjabab
set_option maxRecDepth 100000
set_option maxHeartbeats 8000000
section
variable {W0 : World}
structure RoleV where
  sends : Bool
  cand : Int
  A : Option Addr
  q : Nat
  ws : List Int
  pulses : Bool
abbrev RoleV.v (r : RoleV) : Value := .agg #[.bool r.sends, .int .i64 r.cand, .slice r.A r.ws.length r.q, .bool r.pulses]
structure RoleOk (W0 : World) (m : Mem) (r : RoleV) : Prop where
  rd : RS W0 m (.slice r.A r.ws.length r.q) 1 r.ws.length (u8 r.ws)
  by_ : Byte r.ws
  le : r.ws.length ≤ 9223372036854775807
theorem RoleOk.ext {m m' : Mem} {r : RoleV} (h : RoleOk W0 m r) (e : Ext m m') : RoleOk W0 m' r := ⟨h.rd.ext e, h.by_, h.le⟩
structure SlOk (s : SlotV) : Prop where
  many : s.many ≤ 1000000
  words : s.words ≤ 1000
  long : 0 ≤ s.long ∧ s.long ≤ 1099511627776
end
end Go.Proofs.Ytdoeioljkbjabab.R
