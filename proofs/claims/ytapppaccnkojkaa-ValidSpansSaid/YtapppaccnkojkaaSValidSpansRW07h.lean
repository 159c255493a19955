/- The plan's layer: schedules that are handed in. No conditions. -/
import Derived.Test.YtapppaccnkojkaaSValidSpansRW07g
import Derived.Test.YtapppaccnkojkaaSValidSpansRE
import Derived.Test.YtapppaccnkojkaaREq
set_option linter.unusedVariables false
set_option linter.unusedSimpArgs false
namespace Go.Proofs.Ytapppaccnkojkaa.R
open Go Go.RowKit Go.Proofs.Ytapppaccnkojkaa
set_option maxRecDepth 100000
set_option maxHeartbeats 8000000
section
variable {W0 : World}
theorem flat_i64 (l : List Int) : l.flatMap eI64 = i64 l := by
  induction l with
  | nil => rfl
  | cons x l ih => rw [List.flatMap_cons, ih]; rfl
def toWin (x : E94) : WinV := ⟨x.Kind, x.Bits, x.Words, x.Addr, x.From, x.To⟩
def toWins (s : Sl E94) : Sl WinV := ⟨s.A, s.c, s.l.map toWin⟩
theorem wins_of {s : Sl E94} (h : Sl.wf W0 6 E94.cs (E94.wf W0) s) (m : Mem) : WinsOk W0 m (toWins s) := by
  obtain ⟨h1, h2, h3, h4⟩ := h
  have hl : (toWins s).l.length = s.l.length := by simp [toWins]
  refine ⟨?_, fun w hw => ?_, by rw [hl]; exact ⟨h1, by simp only [maxLen] at h2; omega⟩⟩
  · have := h3 m
    rw [hl]
    have e : (toWins s).l.flatMap WinV.cs = s.l.flatMap E94.cs := by simp only [toWins, List.flatMap_map]; rfl
    rw [e]; exact this
  · simp only [toWins, List.mem_map] at hw
    obtain ⟨x, hx, rfl⟩ := hw
    obtain ⟨i1, i2, i3, i4, ⟨g1, g2, g3, _⟩, ⟨k1, k2, k3, _⟩⟩ := h4 x hx
    have g := g3 m
    have k := k3 m
    rw [flat_i64] at g k
    simp only [maxLen] at g2 k2
    exact ⟨g, k, ⟨g1, by simp only [toWin]; omega⟩, ⟨k1, by simp only [toWin]; omega⟩, i1, i2, i3, i4⟩
theorem few_len {s : SchV} (h : few s = true) (v : Int) : (s.fr v).l.length ≤ 60 := by
  unfold few fewL at h
  simp only [Bool.and_eq_true, decide_eq_true_eq] at h
  unfold SchV.fr; split <;> omega
end
end Go.Proofs.Ytapppaccnkojkaa.R
