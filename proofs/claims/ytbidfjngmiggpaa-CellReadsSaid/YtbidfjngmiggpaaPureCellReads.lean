import Derived.Test.YtbidfjngmiggpaaRdCellReads
import Derived.Test.YtbidfjngmiggpaaL01
set_option linter.unusedVariables false
set_option linter.unusedSimpArgs false
namespace Go.Proofs.Ytbidfjngmiggpaa.Pure
open Go Go.RowKit Go.Proofs.YtbidfjngmiggpaaW.PrintWords Go.Proofs.YtbidfjngmiggpaaW.PrintLast Go.Proofs.YtbidfjngmiggpaaW.PrintMore Go.Proofs.Ytbidfjngmiggpaa.Q Go.Proofs.Ytbidfjngmiggpaa.RdCellReads Go.Proofs.Ytbidfjngmiggpaa.L01 Go.Proofs.Ytbidfjngmiggpaa.PBase

theorem readFrom_len (l : List Bool) (m : Int) : ∀ (d n : Nat) (acc : List Bool), (readFrom l m acc n d).1.length ≤ acc.length + d
  | 0, n, acc => by simp [readFrom]
  | d + 1, n, acc => by
    rw [readFrom]
    split
    · have := readFrom_len l m d (n + 1) (acc ++ [rdOf false l (20 * (n : Int) + 5 + m)])
      simp at this
      omega
    · simp
theorem readOf_len (l : List Bool) (m : Int) (h : l.length ≤ 4000) : (readOf l m).1.length ≤ 4000 := by
  have := readFrom_len l m (l.length / 20) 0 []
  unfold readOf
  simp at this
  omega
theorem CellReads_loop (x : List Bool) (hx : x.length ≤ 4000) : ∀ (d i : Nat), i + d = x.length → Ev (fun k => busbarlaw01_CellReads.l0 k x x (i : Int)) true
  | 0, i, h => by
    refine Ev.step (f := fun k => (busbarlaw01_one.f k).bind fun t => some t) (fun k => ?_) (Ev.bind one_is (Ev.now _))
    simp only [busbarlaw01_CellReads.l0]
    rw [if_neg (by omega)]
  | d + 1, i, h => by
    refine Ev.step (f := fun k => busbarlaw01_CellReads.l0 k x x ((i + 1 : Nat) : Int)) (fun k => ?_) (CellReads_loop x hx d (i + 1) (by omega))
    simp only [busbarlaw01_CellReads.l0]
    rw [if_pos (by omega), if_pos (by omega), if_pos (by omega), if_neg (by simp), w64 _ (by omega) (by omega)]
    rfl
theorem CellReads (l0 : List (Bool)) (a1 : Int) (hm0 : l0.length ≤ maxLen) (hw0 : (∀ a ∈ l0, (fun _ : Bool => True) a)) (w1 : (Lit.int .i64 a1).wf = true) :
    ∃ k, busbarlaw01_CellReads.f k l0 a1 = some true := by
  by_cases h1 : (l0.length : Int) > 4000
  · exact ⟨0, by unfold busbarlaw01_CellReads.f; rw [if_pos h1]⟩
  refine Ev.rounds (r := true) ?_
  unfold busbarlaw01_CellReads.f
  simp only [if_neg h1]
  refine Ev.bind (Read_is l0 a1 (by omega)) (Ev.bind (Ref_is l0 a1 (by omega)) ?_)
  simp only [bne_self_eq_false, Bool.false_eq_true, if_false]
  refine Ev.step (f := fun k => busbarlaw01_CellReads.l0 k (readOf l0 a1).1 (readOf l0 a1).1 0) (fun k => by simp [busbarlaw01_CellReads.j0]) ?_
  exact CellReads_loop _ (readOf_len l0 a1 (by omega)) (readOf l0 a1).1.length 0 (by omega)

end Go.Proofs.Ytbidfjngmiggpaa.Pure
