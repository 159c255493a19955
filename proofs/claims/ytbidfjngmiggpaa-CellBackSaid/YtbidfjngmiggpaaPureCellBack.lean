import Derived.Test.YtbidfjngmiggpaaRdCellBack
import Derived.Test.YtbidfjngmiggpaaL01
set_option linter.unusedVariables false
set_option linter.unusedSimpArgs false
namespace Go.Proofs.Ytbidfjngmiggpaa.Pure
open Go Go.RowKit Go.Proofs.YtbidfjngmiggpaaW.PrintWords Go.Proofs.YtbidfjngmiggpaaW.PrintLast Go.Proofs.YtbidfjngmiggpaaW.PrintMore Go.Proofs.Ytbidfjngmiggpaa.Q Go.Proofs.Ytbidfjngmiggpaa.RdCellBack Go.Proofs.Ytbidfjngmiggpaa.L01 Go.Proofs.Ytbidfjngmiggpaa.PBase

theorem lev_ne (b : Bool) (i j : Nat) (h1 : i < 10) (h2 : 10 ≤ j) : lev b i ≠ lev b j := by
  unfold lev
  rw [if_pos h1, if_neg (by omega)]
  cases b <;> decide
theorem wave_rd (l : List Bool) (n j : Nat) (h : n < l.length) (hj : j < 20) (x : Int) (hx : x = ((20 * n + j : Nat) : Int)) : rdOf false (wave l) x = lev (l.getD n false) j := by
  subst hx
  rw [rdOf_nat, wave_get l n j h hj]
theorem back_is (l : List Bool) (m : Int) (h0 : -5 ≤ m) (h1 : m ≤ 4) : readOf (wave l) m = (l, true) := by
  have hw := wave_length l
  have hlen : (wave l).length / 20 = l.length := by omega
  obtain ⟨q, hq⟩ : ∃ q : Nat, (q : Int) = 5 + m := ⟨(5 + m).toNat, by omega⟩
  unfold readOf
  rw [hlen, readFrom_ok]
  · simp only [List.nil_append, Prod.mk.injEq, and_true]
    apply List.ext_getElem?
    intro i
    by_cases hi : i < l.length
    · rw [List.getElem?_map, List.getElem?_range' hi, List.getElem?_eq_getElem hi]
      simp only [Option.map_some]
      rw [wave_rd l (0 + 1 * i) q (by omega) (by omega) _ (by omega)]
      unfold lev
      rw [if_pos (by omega), List.getD_eq_getElem?_getD, show 0 + 1 * i = i by omega, List.getElem?_eq_getElem hi]
      rfl
    · rw [List.getElem?_eq_none (by simp; omega), List.getElem?_eq_none (by omega)]
  · intro i _ hi
    refine ⟨by omega, by omega, ?_⟩
    rw [wave_rd l i q (by omega) (by omega) _ (by omega), wave_rd l i (q + 10) (by omega) (by omega) _ (by omega)]
    exact lev_ne _ _ _ (by omega) (by omega)
theorem Back_end (l : List Bool) (hl : l.length ≤ 200) : ∀ (d i : Nat), i + d = l.length → Ev (fun k => busbarlaw01_CellBack.l1 k l l (i : Int)) true
  | 0, i, h => by
    refine Ev.step (f := fun k => (busbarlaw01_one.f k).bind fun t => some t) (fun k => ?_) (Ev.bind one_is (Ev.now _))
    simp only [busbarlaw01_CellBack.l1]
    rw [if_neg (by omega)]
  | d + 1, i, h => by
    refine Ev.step (f := fun k => busbarlaw01_CellBack.l1 k l l ((i + 1 : Nat) : Int)) (fun k => ?_) (Back_end l hl d (i + 1) (by omega))
    simp only [busbarlaw01_CellBack.l1]
    rw [if_pos (by omega), if_pos (by omega), if_pos (by omega), if_neg (by simp), w64 _ (by omega) (by omega)]
    rfl
/-- How long a run may be behind tick i - 1. -/
def runOk (run i : Nat) : Prop := i ≠ 0 → (10 ≤ (i - 1) % 20 → run = (i - 1) % 20 - 9) ∧ ((i - 1) % 20 < 10 → run ≤ (i - 1) % 20 + 11)
theorem Back_j2 (l : List Bool) (hl : l.length ≤ 200) (run i : Nat) (e : Bool) (hi : i < 20 * l.length) (k : Nat) (hr : (if e then run + 1 else 1) ≤ 20) :
    busbarlaw01_CellBack.j2 (k + 1) l (wave l) l (run : Int) (i : Int) e = busbarlaw01_CellBack.l0 k l (wave l) l ((if e then run + 1 else 1 : Nat) : Int) ((i + 1 : Nat) : Int) := by
  have hw := wave_length l
  have t1 : Int.tmod (i : Int) 20 = ((i % 20 : Nat) : Int) := by rw [Int.tmod_eq_emod_of_nonneg (by omega)]; omega
  have t2 : Int.tdiv (i : Int) 20 = ((i / 20 : Nat) : Int) := by rw [Int.tdiv_eq_ediv_of_nonneg (by omega)]; omega
  have r1 := wave_rd l (i / 20) (i % 20) (by omega) (by omega) (i : Int) (by omega)
  have r2 : rdOf false l ((i / 20 : Nat) : Int) = l.getD (i / 20) false := rdOf_nat _ _ _
  rw [busbarlaw01_CellBack.j2, t1, t2, w64 ((i / 20 : Nat) : Int) (by omega) (by omega), w64 ((i : Int) + 1) (by omega) (by omega), r1, r2]
  have g1 : (0 : Int) ≤ (i : Int) := by omega
  have g2 : (i : Int) < ((wave l).length : Int) := by omega
  have g3 : (0 : Int) ≤ ((i / 20 : Nat) : Int) := by omega
  have g4 : ((i / 20 : Nat) : Int) < (l.length : Int) := by omega
  have L0 : i % 20 = 0 → lev (l.getD (i / 20) false) (i % 20) = l.getD (i / 20) false := fun h => by rw [h]; rfl
  have L19 : i % 20 = 19 → lev (l.getD (i / 20) false) (i % 20) = !(l.getD (i / 20) false) := fun h => by rw [h]; rfl
  have tail : ∀ X : Int, (if ((i % 20 : Nat) : Int) = 0 then (if 0 ≤ (i : Int) then (if (i : Int) < ((wave l).length : Int) then (if 0 ≤ ((i / 20 : Nat) : Int) then (if ((i / 20 : Nat) : Int) < (l.length : Int) then (if (lev (l.getD (i / 20) false) (i % 20) != l.getD (i / 20) false) = true then (some false) else busbarlaw01_CellBack.l0 k l (wave l) l X ((i : Int) + 1)) else none) else none) else none) else none) else (if ((i % 20 : Nat) : Int) = 19 then (if 0 ≤ (i : Int) then (if (i : Int) < ((wave l).length : Int) then (if 0 ≤ ((i / 20 : Nat) : Int) then (if ((i / 20 : Nat) : Int) < (l.length : Int) then (if (lev (l.getD (i / 20) false) (i % 20) == l.getD (i / 20) false) = true then (some false) else busbarlaw01_CellBack.l0 k l (wave l) l X ((i : Int) + 1)) else none) else none) else none) else none) else busbarlaw01_CellBack.l0 k l (wave l) l X ((i : Int) + 1))) = busbarlaw01_CellBack.l0 k l (wave l) l X ((i + 1 : Nat) : Int) := by
    intro X
    simp only [if_pos g1, if_pos g2, if_pos g3, if_pos g4]
    by_cases c0 : i % 20 = 0
    · rw [if_pos (by omega), L0 c0, if_neg (by simp)]
      rfl
    · rw [if_neg (by omega)]
      by_cases c19 : i % 20 = 19
      · rw [if_pos (by omega), L19 c19, if_neg (show ¬ ((!(l.getD (i / 20) false)) == l.getD (i / 20) false) = true by cases l.getD (i / 20) false <;> simp)]
        rfl
      · rw [if_neg (by omega)]
        rfl
  cases e
  · rw [if_neg (by simp)]
    exact tail 1
  · rw [if_pos rfl, w64 ((run : Int) + 1) (by simp at hr; omega) (by simp at hr; omega), if_neg (by simp at hr; omega)]
    simp only [if_true] at hr ⊢
    exact tail _
theorem Back_loop (l : List Bool) (hl : l.length ≤ 200) : ∀ (d i run : Nat), i + d = 20 * l.length → run ≤ 20 → runOk run i → Ev (fun k => busbarlaw01_CellBack.l0 k l (wave l) l (run : Int) (i : Int)) true := by
  have hw := wave_length l
  intro d
  induction d with
  | zero =>
    intro i run h hrun hr
    refine Ev.step (f := fun k => busbarlaw01_CellBack.l1 k l l 0) (fun k => ?_) (Back_end l hl l.length 0 (by omega))
    simp only [busbarlaw01_CellBack.l0]
    rw [if_neg (by omega)]
  | succ d ih =>
    intro i run h hrun hr
    by_cases h0 : i = 0
    · subst h0
      refine Ev.step (f := fun k => busbarlaw01_CellBack.j2 k l (wave l) l (run : Int) ((0 : Nat) : Int) false) (fun k => ?_) (Ev.step (fun k => Back_j2 l hl run 0 false (by omega) k (by simp)) ?_)
      · simp only [busbarlaw01_CellBack.l0]
        rw [if_pos (by omega), if_neg (by omega)]
      · exact ih 1 1 (by omega) (by omega) (fun _ => ⟨fun h => by omega, fun h => by omega⟩)
    · obtain ⟨hA, hB⟩ := hr h0
      have r1 := wave_rd l (i / 20) (i % 20) (by omega) (by omega) (i : Int) (by omega)
      have r2 := wave_rd l ((i - 1) / 20) ((i - 1) % 20) (by omega) (by omega) ((i : Int) - 1) (by omega)
      generalize he : (rdOf false (wave l) (i : Int) == rdOf false (wave l) ((i : Int) - 1)) = e
      have hstep : ∀ k, busbarlaw01_CellBack.l0 (k + 1) l (wave l) l (run : Int) (i : Int) = busbarlaw01_CellBack.j2 k l (wave l) l (run : Int) (i : Int) e := by
        intro k
        simp only [busbarlaw01_CellBack.l0]
        rw [w64 ((i : Int) - 1) (by omega) (by omega), if_pos (by omega), if_pos (by omega), if_pos (by omega), if_pos (by omega), if_pos (by omega), he]
      have new : (if e then run + 1 else 1) ≤ 20 ∧ runOk (if e then run + 1 else 1) (i + 1) := by
        have flip : i % 20 = 10 → e = false := by
          intro h10
          have e1 : (i - 1) % 20 = 9 := by omega
          have e2 : (i - 1) / 20 = i / 20 := by omega
          rw [r1, r2, h10, e1, e2] at he
          have := lev_ne (l.getD (i / 20) false) 9 10 (by omega) (by omega)
          rw [← he]
          exact beq_eq_false_iff_ne.mpr (fun h => this h.symm)
        have stay : i % 20 ≠ 0 → i % 20 ≠ 10 → e = true := by
          intro n0 n10
          have e1 : (i - 1) % 20 = i % 20 - 1 := by omega
          have e2 : (i - 1) / 20 = i / 20 := by omega
          rw [r1, r2, e1, e2] at he
          rw [← he]
          unfold lev
          by_cases c : i % 20 < 10
          · rw [if_pos c, if_pos (by omega)]
            simp
          · rw [if_neg c, if_neg (by omega)]
            simp
        by_cases c0 : i % 20 = 0
        · have e1 : (i - 1) % 20 = 19 := by omega
          have := hA (by omega)
          cases e
          · exact ⟨by simp, fun _ => ⟨fun h => by omega, fun h => by simp⟩⟩
          · refine ⟨by simp; omega, fun _ => ⟨fun h => by omega, fun h => by simp; omega⟩⟩
        · by_cases c10 : i % 20 = 10
          · rw [flip c10]
            exact ⟨by simp, fun _ => ⟨fun h => by simp; omega, fun h => by omega⟩⟩
          · rw [stay c0 c10]
            simp only [if_true]
            by_cases c : i % 20 < 10
            · have := hB (by omega)
              exact ⟨by omega, fun _ => ⟨fun h => by omega, fun h => by omega⟩⟩
            · have := hA (by omega)
              exact ⟨by omega, fun _ => ⟨fun h => by omega, fun h => by omega⟩⟩
      exact Ev.step hstep (Ev.step (fun k => Back_j2 l hl run i e (by omega) k new.1) (ih (i + 1) _ (by omega) new.1 new.2))
theorem CellBack (l0 : List (Bool)) (a1 : Int) (hm0 : l0.length ≤ maxLen) (hw0 : (∀ a ∈ l0, (fun _ : Bool => True) a)) (w1 : (Lit.int .i64 a1).wf = true) :
    ∃ k, busbarlaw01_CellBack.f k l0 a1 = some true := by
  by_cases h1 : (l0.length : Int) > 200
  · exact ⟨0, by unfold busbarlaw01_CellBack.f; rw [if_pos h1]⟩
  refine Ev.rounds (r := true) ?_
  unfold busbarlaw01_CellBack.f
  simp only [if_neg h1]
  refine Ev.bind (Wave_is l0 (by omega)) ?_
  have hw := wave_length l0
  have hr : 0 ≤ Int.tmod (Go.bits .and .i64 a1 255) 10 ∧ Int.tmod (Go.bits .and .i64 a1 255) 10 ≤ 9 := by
    rw [and255, Int.tmod_eq_emod_of_nonneg (by omega)]
    omega
  generalize hm : Int.tmod (Go.bits .and .i64 a1 255) 10 = M at hr ⊢
  rw [w64 (20 * (l0.length : Int)) (by omega) (by omega), w64 (M - 5) (by omega) (by omega)]
  simp only [if_pos (show ((wave l0).length : Int) = 20 * (l0.length : Int) by omega)]
  refine Ev.bind (Read_is (wave l0) (M - 5) (by omega)) ?_
  rw [back_is l0 (M - 5) (by omega) (by omega)]
  simp only [if_true, bne_self_eq_false]
  refine Ev.step (f := fun k => busbarlaw01_CellBack.l0 k l0 (wave l0) l0 0 0) (fun k => by simp [busbarlaw01_CellBack.j0]) ?_
  exact Back_loop l0 (by omega) (20 * l0.length) 0 0 (by omega) (by omega) (fun h => absurd rfl h)

end Go.Proofs.Ytbidfjngmiggpaa.Pure
