/- The plan's layer: schedules, over the logic of partial memories. No conditions. -/
import Derived.Test.YtcddhbhdpleppaaSPlanSameRW07b
set_option linter.unusedVariables false
set_option linter.unusedSimpArgs false
namespace Go.Proofs.Ytcddhbhdpleppaa.R
open Go Go.RowKit Go.Proofs.Ytcddhbhdpleppaa
set_option maxRecDepth 100000
set_option maxHeartbeats 8000000
section
variable {W0 : World}
structure SchV where
  mods : Int
  f0 : Sl WinV
  f1 : Sl WinV
def SchV.arr (s : SchV) : Array Value := #[.int .i64 s.mods, .slice s.f0.A s.f0.l.length s.f0.c, .slice s.f1.A s.f1.l.length s.f1.c]
abbrev SchV.v (s : SchV) : Value := .agg #[.int .i64 s.mods, .slice s.f0.A s.f0.l.length s.f0.c, .slice s.f1.A s.f1.l.length s.f1.c]
def SchV.fr (s : SchV) (v : Int) : Sl WinV := if v = 0 then s.f0 else s.f1
theorem sch_at (s : SchV) {v : Int} (hv : isV v = true) : (#[Value.int .i64 s.mods, .slice s.f0.A s.f0.l.length s.f0.c, .slice s.f1.A s.f1.l.length s.f1.c] : Array Value)[1 + v.toNat]? = some (.slice (s.fr v).A (s.fr v).l.length (s.fr v).c) := by
  simp only [isV, Bool.and_eq_true, decide_eq_true_eq] at hv
  rcases (by omega : v = 0 ∨ v = 1) with rfl | rfl <;> rfl
/-- Windows that lie in memory. -/
structure WinsOk (W0 : World) (m : Mem) (s : Sl WinV) : Prop where
  rd : RS W0 m (.slice s.A s.l.length s.c) 6 s.l.length (s.l.flatMap WinV.cs)
  el : ∀ w ∈ s.l, WinOk W0 m w
  le : s.l.length ≤ s.c ∧ s.l.length ≤ 9223372036854775807
theorem WinsOk.ext {m m' : Mem} {s : Sl WinV} (h : WinsOk W0 m s) (e : Ext m m') : WinsOk W0 m' s := ⟨h.rd.ext e, fun w hw => (h.el w hw).ext e, h.le⟩
theorem WinsOk.at {m : Mem} {s : Sl WinV} (h : WinsOk W0 m s) {i : Nat} {w : WinV} (hw : s.l[i]? = some w) :
    ∃ a, s.A = some a ∧ cellsA W0 m (a.add (i * 6)) 6 = some #[.int .i64 w.kind, .int .i64 w.bits, .int .i64 w.words, .int .i64 w.addr, .slice w.fr.A w.fr.l.length w.fr.c, .slice w.to.A w.to.l.length w.to.c] ∧
      (∀ j u, w.cs[j]? = some u → cellA W0 m ((a.add (i * 6)).add j) = some u) ∧ WinOk W0 m w := by
  obtain ⟨a, h1, h2, h3⟩ := h.rd.row (f := WinV.cs) (k := 6) (fun _ => rfl) hw (by omega)
  exact ⟨a, h1, h2, h3, h.el w (List.mem_of_getElem? hw)⟩
def sumT : List WinV → Int
  | [] => 0
  | w :: l => w.ticks + sumT l
theorem sumT_le : ∀ l : List WinV, 0 ≤ sumT l ∧ sumT l ≤ 20000 * l.length
  | [] => by simp [sumT]
  | w :: l => by
    have := sumT_le l
    have := w.len_le
    simp only [sumT, WinV.ticks, List.length_cons]
    omega
theorem sumT_app : ∀ a b : List WinV, sumT (a ++ b) = sumT a + sumT b
  | [], b => by simp [sumT]
  | w :: a, b => by simp only [List.cons_append, sumT, sumT_app a b]; omega
end
end Go.Proofs.Ytcddhbhdpleppaa.R
