/- The plan's layer: schedules that are handed in. No conditions. -/
import Derived.Test.YtcddhbhdpleppaaSLoadTellsRW07g
import Derived.Test.YtcddhbhdpleppaaSLoadTellsRE
import Derived.Test.YtcddhbhdpleppaaREq
set_option linter.unusedVariables false
set_option linter.unusedSimpArgs false
namespace Go.Proofs.Ytcddhbhdpleppaa.R
open Go Go.RowKit Go.Proofs.Ytcddhbhdpleppaa
set_option maxRecDepth 100000
set_option maxHeartbeats 8000000
section
variable {W0 : World}
theorem flat_i64 (l : List Int) : l.flatMap eI64 = i64 l := by
  induction l with
  | nil => rfl
  | cons x l ih => rw [List.flatMap_cons, ih]; rfl
def toWin (x : E56) : WinV := ⟨x.Kind, x.Bits, x.Words, x.Addr, x.From, x.To⟩
def toWins (s : Sl E56) : Sl WinV := ⟨s.A, s.c, s.l.map toWin⟩
theorem wins_of {s : Sl E56} (h : Sl.wf W0 6 E56.cs (E56.wf W0) s) (m : Mem) : WinsOk W0 m (toWins s) := by
  obtain ⟨h1, h2, h3, h4⟩ := h
  have hl : (toWins s).l.length = s.l.length := by simp [toWins]
  refine ⟨?_, fun w hw => ?_, by rw [hl]; exact ⟨h1, by simp only [maxLen] at h2; omega⟩⟩
  · have := h3 m
    rw [hl]
    have e : (toWins s).l.flatMap WinV.cs = s.l.flatMap E56.cs := by simp only [toWins, List.flatMap_map]; rfl
    rw [e]; exact this
  · simp only [toWins, List.mem_map] at hw
    obtain ⟨x, hx, rfl⟩ := hw
    obtain ⟨i1, i2, i3, i4, ⟨g1, g2, g3, _⟩, ⟨k1, k2, k3, _⟩⟩ := h4 x hx
    have g := g3 m
    have k := k3 m
    rw [flat_i64] at g k
    simp only [maxLen] at g2 k2
    exact ⟨g, k, ⟨g1, by simp only [toWin]; omega⟩, ⟨k1, by simp only [toWin]; omega⟩, i1, i2, i3, i4⟩
def toSch (x : E50) : SchV := ⟨x.Modules, toWins x.Frames.e0, toWins x.Frames.e1⟩
theorem toSch_v (x : E50) : Value.agg x.cs.toArray = (toSch x).v := by simp [E50.cs, SchV.v, Sl.v, toSch, toWins]
theorem sch_of {x : E50} (h : E50.wf W0 x) (m : Mem) : WinsOk W0 m (toSch x).f0 ∧ WinsOk W0 m (toSch x).f1 := ⟨wins_of h.2.1 m, wins_of h.2.2 m⟩
theorem few_len {s : SchV} (h : few s = true) (v : Int) : (s.fr v).l.length ≤ 60 := by
  unfold few fewL at h
  simp only [Bool.and_eq_true, decide_eq_true_eq] at h
  unfold SchV.fr; split <;> omega
theorem wins_own {m : Mem} {e : TypeId} {A : Option Addr} {n c : Nat} {l : List WinV} (h : OwnS W0 m e 6 (.slice A n c) n (l.flatMap WinV.cs)) (hl : l.length = n) (hel : ∀ w ∈ l, WinOk W0 m w) (hn : n ≤ 1000000) : WinsOk W0 m ⟨A, c, l⟩ := by
  subst hl
  refine ⟨h.reads, hel, ?_, by show l.length ≤ _; omega⟩
  rcases h.2 with ⟨hv, h0⟩ | ⟨g, cap, cur, hv, _, _, hc, _⟩
  · show l.length ≤ c; omega
  · cases hv; exact hc
end
end Go.Proofs.Ytcddhbhdpleppaa.R
