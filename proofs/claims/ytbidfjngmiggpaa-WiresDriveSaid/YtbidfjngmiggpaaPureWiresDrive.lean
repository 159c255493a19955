import Derived.Test.YtbidfjngmiggpaaRdWiresDrive
import Derived.Test.YtbidfjngmiggpaaL03
set_option linter.unusedVariables false
set_option linter.unusedSimpArgs false
namespace Go.Proofs.Ytbidfjngmiggpaa.Pure
open Go Go.RowKit Go.Proofs.YtbidfjngmiggpaaW.PrintWords Go.Proofs.YtbidfjngmiggpaaW.PrintLast Go.Proofs.YtbidfjngmiggpaaW.PrintMore Go.Proofs.Ytbidfjngmiggpaa.Q Go.Proofs.Ytbidfjngmiggpaa.RdWiresDrive Go.Proofs.Ytbidfjngmiggpaa.L03 Go.Proofs.Ytbidfjngmiggpaa.PBase

theorem orL_bit : ∀ (l : List Int) (i : Nat), (orL l).testBit i = l.any (fun x => x.toNat.testBit i)
  | [], i => by simp [orL]
  | x :: r, i => by rw [orL, Nat.testBit_or, orL_bit r i, List.any_cons]
theorem Drive_l1 (y lv : Bool) (l : List Int) (hl : ∀ x ∈ l, Byte x) (hn : l.length ≤ 60) (i : Nat) (hi : i < 4) (R : Ev (fun k => busbarlaw03_WiresDrive.l0 k y lv l ((orL l : Nat) : Int) (wrap64 ((i : Int) + 1))) true) :
    ∀ (d n : Nat), n + d = l.length → Ev (fun k => busbarlaw03_WiresDrive.l1 k y lv l ((orL l : Nat) : Int) (i : Int) ((l.take n).any (fun x => x.toNat.testBit i)) (n : Int)) true := by
  have lo := orL_lt l hl
  have ls := side_lt _ lo y
  intro d
  induction d with
  | zero =>
    intro n h
    obtain ⟨K, g⟩ := R
    refine ⟨K + 1, fun k hk => ?_⟩
    obtain ⟨k, rfl⟩ := succ_of (show 0 < k by omega)
    show busbarlaw03_WiresDrive.l1 (k + 1) _ _ _ _ _ _ _ = _
    rw [List.take_of_length_le (by omega), ← orL_bit, busbarlaw03_WiresDrive.l1, if_neg (by omega), High_is _ i lo hi, Option.bind_some, if_neg (by simp), Side_is _ lo, Option.bind_some, High_is _ i ls hi, Option.bind_some, side_bit _ i hi]
    have e : decide ((i : Int) ≥ 2) = decide (2 ≤ i) := by
      rw [Bool.eq_iff_iff, decide_eq_true_eq, decide_eq_true_eq]
      omega
    by_cases c : (orL l).testBit i = true
    · rw [if_pos c, c, e, if_neg (by simp)]
      exact g k (by omega)
    · have c2 : (orL l).testBit i = false := by simpa using c
      rw [if_neg c, c2, if_neg (by simp)]
      exact g k (by omega)
  | succ d ih =>
    intro n h
    have hlt : n < l.length := by omega
    obtain ⟨K, g⟩ := ih (n + 1) (by omega)
    have hx := hl _ (rd_mem l (n : Int) (by omega) (by omega))
    unfold Byte at hx
    obtain ⟨x, hxx⟩ : ∃ x : Nat, rd l (n : Int) = (x : Int) := ⟨(rd l (n : Int)).toNat, by omega⟩
    have et : (l.take (n + 1)).any (fun x => x.toNat.testBit i) = ((l.take n).any (fun x => x.toNat.testBit i) || x.testBit i) := by
      rw [List.take_succ_eq_append_getElem hlt, List.any_append]
      have : l[n] = (x : Int) := by
        rw [← hxx, rd_nat, List.getD_eq_getElem?_getD, List.getElem?_eq_getElem hlt]
        rfl
      rw [this]
      simp
    rw [et] at g
    refine ⟨K + 1, fun k hk => ?_⟩
    obtain ⟨k, rfl⟩ := succ_of (show 0 < k by omega)
    have gk := g k (by omega)
    show busbarlaw03_WiresDrive.l1 (k + 1) _ _ _ _ _ _ _ = _
    rw [busbarlaw03_WiresDrive.l1, if_pos (by omega), w64 _ (by omega) (by omega)]
    by_cases c : (l.take n).any (fun x => x.toNat.testBit i) = true
    · rw [if_pos c]
      simp only [c, Bool.true_or] at gk
      exact gk
    · have c2 : (l.take n).any (fun x => x.toNat.testBit i) = false := by simpa using c
      rw [if_neg c, if_pos (by omega), hxx, w64 (x : Int) (by omega) (by omega), RHigh_is x i (by omega) hi, Option.bind_some]
      simp only [c2, Bool.false_or] at gk
      exact gk
theorem Drive_l0 (y lv : Bool) (l : List Int) (hl : ∀ x ∈ l, Byte x) (hn : l.length ≤ 60) : ∀ (d i : Nat), i + d = 4 →
    Ev (fun k => busbarlaw03_WiresDrive.l0 k y lv l ((orL l : Nat) : Int) (i : Int)) true := by
  intro d
  induction d with
  | zero =>
    intro i h
    have fin : ∀ y lv : Bool, busbarlaw03_WiresDrive.l0 10 y lv [] 0 4 = some true := by decide +kernel
    refine Ev.of (fun k => busbarlaw03_WiresDrive.mono_l k |>.1 _ _ _ _ _) (k := 10) ?_
    have := fin y lv
    rw [busbarlaw03_WiresDrive.l0, if_neg (by omega)] at this ⊢
    exact this
  | succ d ih =>
    intro i h
    have := ih (i + 1) (by omega)
    have := Drive_l1 y lv l hl hn i (by omega) (by rw [w64 _ (by omega) (by omega)]; exact this) l.length 0 (by omega)
    refine Ev.step (fun k => ?_) this
    rw [busbarlaw03_WiresDrive.l0, if_pos (by omega)]
    rfl
theorem WiresDrive (a0 : Bool) (a1 : Bool) (l2 : List (Int)) (hm2 : l2.length ≤ maxLen) (hw2 : (∀ a ∈ l2, (fun n : Int => (Lit.int .u8 n).wf = true) a)) :
    ∃ k, busbarlaw03_WiresDrive.f k a0 a1 l2 = some true := by
  have hb : ∀ x ∈ l2, Byte x := fun x hx => wf8 (hw2 x hx)
  by_cases h0 : (l2.length : Int) > 60
  · exact ⟨0, by unfold busbarlaw03_WiresDrive.f; rw [if_pos h0]⟩
  obtain ⟨K1, g1⟩ := Or_is l2 hb (by omega)
  obtain ⟨K2, g2⟩ := Drive_l0 a0 a1 l2 hb (by omega) 4 0 (by omega)
  refine ⟨K1 + K2, ?_⟩
  have f1 : wires_Or.f (K1 + K2) l2 = _ := g1 _ (by omega)
  unfold busbarlaw03_WiresDrive.f
  rw [if_neg h0, f1, Option.bind_some]
  exact g2 _ (by omega)

end Go.Proofs.Ytbidfjngmiggpaa.Pure
