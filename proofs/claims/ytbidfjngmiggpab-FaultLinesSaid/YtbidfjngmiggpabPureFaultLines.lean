import Derived.Test.YtbidfjngmiggpabRdFaultLines
import Derived.Test.YtbidfjngmiggpabL20
import Derived.Test.YtbidfjngmiggpabL20l
set_option linter.unusedVariables false
set_option linter.unusedSimpArgs false
namespace Go.Proofs.Ytbidfjngmiggpab.Pure
open Go Go.RowKit Go.Proofs.YtbidfjngmiggpabW.PrintWords Go.Proofs.YtbidfjngmiggpabW.PrintLast Go.Proofs.YtbidfjngmiggpabW.PrintMore Go.Proofs.Ytbidfjngmiggpab.Q Go.Proofs.Ytbidfjngmiggpab.RdFaultLines Go.Proofs.Ytbidfjngmiggpab.L20 Go.Proofs.Ytbidfjngmiggpab.PBase

theorem Lines_high (kind line frm : Int) (p : List Int) (n : Nat) (hn : n < 256) (T : Int) (b : Nat) (hb : b < 256) (is : Bool) (hbt : byteAt kind frm p T = ((b : Int), is)) (i : Nat) (hi : i < 4) :
    wires_Lines_High.f (linesL kind line frm p (n : Int) T) (i : Int) = some (if (is = true ∧ kind = 1 ∧ (i : Int) = line ∧ b % 4 < 2) then b % 4 == 1 else n.testBit i) := by
  have hl := low_dec ⟨b, hb⟩
  simp only at hl
  have hh := high_dec ⟨n, hn⟩ ⟨i, hi⟩
  simp only at hh
  unfold linesL
  rw [hbt, hl]
  by_cases c : is = true ∧ kind = 1
  · rw [if_pos c]
    have set_in : ∀ h : Bool, wires_Lines_High.f (setL (n : Int) line h) (i : Int) = some (if (i : Int) = line then h else n.testBit i) := by
      intro h
      by_cases hL : 0 ≤ line ∧ line ≤ 3
      · have := (set_dec ⟨n, hn⟩ ⟨line.toNat, by omega⟩ h).2.2 ⟨i, hi⟩
        simp only at this
        rw [show ((line.toNat : Nat) : Int) = line by omega] at this
        rw [this]
        congr 1
        by_cases e : i = line.toNat
        · rw [if_pos e, if_pos (by omega)]
        · rw [if_neg e, if_neg (by omega)]
      · unfold setL
        rw [if_neg hL, hh, if_neg (by omega)]
    by_cases c0 : b % 4 = 0
    · rw [if_pos (by omega), set_in]
      congr 1
      by_cases e : (i : Int) = line
      · rw [if_pos e, if_pos ⟨c.1, c.2, e, by omega⟩, c0]
        rfl
      · rw [if_neg e, if_neg (fun h => e h.2.2.1)]
    · rw [if_neg (by omega)]
      by_cases c1 : b % 4 = 1
      · rw [if_pos (by omega), set_in]
        congr 1
        by_cases e : (i : Int) = line
        · rw [if_pos e, if_pos ⟨c.1, c.2, e, by omega⟩, c1]
          rfl
        · rw [if_neg e, if_neg (fun h => e h.2.2.1)]
      · rw [if_neg (by omega), hh, if_neg (fun h => by have := h.2.2.2; omega)]
  · rw [if_neg c, hh, if_neg (fun h => c ⟨h.1, h.2.1⟩)]
theorem lt4 {i d : Nat} (h : i + (d + 1) = 4) : (i : Int) < 4 := by omega
set_option maxHeartbeats 2000000 in
theorem Lines_loop (kind m : Int) (fy : Bool) (line frm : Int) (p : List Int) (hp : ∀ x ∈ p, 0 ≤ x ∧ x ≤ 255) (n : Nat) (hn : n < 256) (T module : Int) (y opens : Bool) (hT : frm ≤ T → T - frm ≤ 9223372036854775807) :
    ∀ (d i : Nat), i + d = 4 → Ev (fun k => busbarlaw20_FaultLines.l0 k (n : Int) T module y opens (byteAt kind frm p T).1 (byteAt kind frm p T).2 (linesL kind line frm p (n : Int) T) (i : Int) kind m fy line frm p) true := by
  have hr := byteAt_range kind frm p T hp
  generalize hbt : byteAt kind frm p T = B at hr
  obtain ⟨bi, is⟩ := B
  obtain ⟨b, rfl⟩ := Int.eq_ofNat_of_zero_le hr.1
  simp only at hr ⊢
  have hb : b < 256 := by omega
  have t4 : Int.tmod (b : Int) 4 = ((b % 4 : Nat) : Int) := by rw [Int.tmod_eq_emod_of_nonneg (by omega)]; omega
  have t8 : Int.tmod ((b : Int) / 8) 2 = ((b / 8 % 2 : Nat) : Int) := by rw [Int.tmod_eq_emod_of_nonneg (by omega)]; omega
  have t2 : Int.tmod ((b : Int) / 4) 2 = ((b / 4 % 2 : Nat) : Int) := by rw [Int.tmod_eq_emod_of_nonneg (by omega)]; omega
  have beq1 : ∀ q : Nat, (((q : Nat) : Int) == 1) = (q == 1) := fun q => by rw [Bool.eq_iff_iff, beq_iff_eq, beq_iff_eq]; omega
  obtain ⟨Ko, go⟩ := one_ev
  intro d
  induction d with
  | zero =>
    intro i h
    refine ⟨Ko + 4, fun k hk => ?_⟩
    obtain ⟨k, rfl⟩ : ∃ q, k = q + 4 := ⟨k - 4, by omega⟩
    have o1 : busbarlaw20_one.f (k + 2) = some true := go (k + 2) (by omega)
    have hpass := pass_dec ⟨b, hb⟩
    simp only at hpass
    have j2t : ∀ (d : Int) (o : Bool), d = (n : Int) → o = opens → busbarlaw20_FaultLines.j2 (k + 3) (n : Int) y opens (b : Int) d o true = some true := by
      intro d o h1 h2
      rw [busbarlaw20_FaultLines.j2, if_pos rfl, if_pos h1, if_pos (by simp [h2]), o1, Option.bind_some]
    have dj0 : fault_Fault_Drives.j0 (k + 3) y (n : Int) opens (b : Int) true = some ((n : Int), opens) := by
      rw [fault_Fault_Drives.j0, if_pos rfl]
    show busbarlaw20_FaultLines.l0 (k + 3 + 1) _ _ _ _ _ _ _ _ _ _ _ _ _ _ _ = _
    rw [busbarlaw20_FaultLines.l0, if_neg (by omega)]
    unfold fault_Fault_Drives.f
    rw [At_is _ _ _ _ _ _ _ hT, hbt, Option.bind_some]
    simp only
    by_cases c1 : is = true
    · rw [if_pos c1, Of_is, Option.bind_some]
      by_cases c2 : kind = 2
      · by_cases c3 : m = module
        · rw [if_pos (by simp [c2, c3])]
          by_cases c4 : (fy != y) = true
          · rw [if_pos c4, dj0, Option.bind_some, if_pos c1, if_pos c2, if_pos c3, if_pos c4]
            exact j2t _ _ rfl rfl
          · rw [if_neg c4, hpass]
            by_cases c5 : (b / 8 % 2 == 1) = true
            · rw [c5, dj0, Option.bind_some, if_pos c1, if_pos c2, if_pos c3, if_neg c4, t8, beq1, c5]
              exact j2t _ _ rfl rfl
            · rw [(by simpa using c5 : (b / 8 % 2 == 1) = false), drive_j0 _ _ _ _ _ hb, Option.bind_some, if_pos c1, if_pos c2, if_pos c3, if_neg c4, t8, beq1, (by simpa using c5 : (b / 8 % 2 == 1) = false), busbarlaw20_FaultLines.j2, if_neg (by decide), t4, t2, beq1]
              cases y
              · simp only [Bool.false_eq_true, if_false]
                rw [w64 _ (by omega) (by omega), if_pos rfl, if_pos (by simp), o1, Option.bind_some]
              · simp only [if_true]
                rw [w64 _ (by omega) (by omega), w64 _ (by omega) (by omega), if_pos (by omega), if_pos (by simp), o1, Option.bind_some]
        · rw [if_neg (by simp [c2, c3]), dj0, Option.bind_some, if_pos c1, if_pos c2, if_neg c3]
          exact j2t _ _ rfl rfl
      · rw [if_neg (by simp [c2]), dj0, Option.bind_some, if_pos c1, if_neg c2]
        exact j2t _ _ rfl rfl
    · rw [if_neg c1, dj0, Option.bind_some, if_neg c1]
      exact j2t _ _ rfl rfl
  | succ d ih =>
    intro i h
    obtain ⟨K, g⟩ := ih (i + 1) (by omega)
    have hx := Lines_high kind line frm p n hn T b hb is hbt i (by omega)
    have hh := high_dec ⟨n, hn⟩ ⟨i, by omega⟩
    simp only at hh
    refine ⟨K + 2, fun k hk => ?_⟩
    obtain ⟨k, rfl⟩ : ∃ q, k = q + 2 := ⟨k - 2, by omega⟩
    have gk := g k (by omega)
    have w1 : wrap64 ((i : Int) + 1) = ((i + 1 : Nat) : Int) := by rw [w64 _ (by omega) (by omega)]; omega
    have jf : ¬ (is = true ∧ kind = 1 ∧ (i : Int) = line ∧ b % 4 < 2) → busbarlaw20_FaultLines.j1 (k + 1) (n : Int) T module y opens (b : Int) is (linesL kind line frm p (n : Int) T) (i : Int) (n.testBit i) false kind m fy line frm p = some true := by
      intro hc
      rw [if_neg hc] at hx
      rw [busbarlaw20_FaultLines.j1, if_neg (by decide), hx, Option.bind_some, if_neg (by simp), w1]
      exact gk
    show busbarlaw20_FaultLines.l0 (k + 1 + 1) _ _ _ _ _ _ _ _ _ _ _ _ _ _ _ = _
    rw [busbarlaw20_FaultLines.l0, if_pos (lt4 h), hh, Option.bind_some, t4]
    by_cases c1 : is = true
    · rw [if_pos c1]
      by_cases c2 : kind = 1
      · rw [if_pos c2]
        by_cases c3 : (i : Int) = line
        · rw [if_pos c3]
          by_cases c4 : b % 4 < 2
          · rw [decide_eq_true (by omega), busbarlaw20_FaultLines.j1, if_pos rfl, hx, if_pos ⟨c1, c2, c3, c4⟩, Option.bind_some, t4, beq1, if_neg (by simp), w1]
            exact gk
          · rw [decide_eq_false (by omega)]
            exact jf (fun h => c4 h.2.2.2)
        · rw [if_neg c3]
          exact jf (fun h => c3 h.2.2.1)
      · rw [if_neg c2]
        exact jf (fun h => c2 h.2.1)
    · rw [if_neg c1]
      exact jf (fun h => c1 h.1)
theorem FaultLines (a0_0 : Int) (a0_1 : Int) (a0_2 : Bool) (a0_3 : Int) (a0_4 : Int) (l0_5 : List (Int)) (a1 : Int) (a2_0 : Int) (a2_1 : Int) (a2_2 : Int) (w0_0 : (Lit.int .i64 a0_0).wf = true) (w0_1 : (Lit.int .i64 a0_1).wf = true) (w0_3 : (Lit.int .i64 a0_3).wf = true) (w0_4 : (Lit.int .i64 a0_4).wf = true) (hm0_5 : l0_5.length ≤ maxLen) (hw0_5 : (∀ a ∈ l0_5, (fun n : Int => (Lit.int .u8 n).wf = true) a)) (w1 : (Lit.int .u8 a1).wf = true) (w2_0 : (Lit.int .i64 a2_0).wf = true) (w2_1 : (Lit.int .i64 a2_1).wf = true) (w2_2 : (Lit.int .i64 a2_2).wf = true) :
    ∃ k, busbarlaw20_FaultLines.f k a0_0 a0_1 a0_2 a0_3 a0_4 l0_5 a1 a2_0 a2_1 a2_2 = some true := by
  have hp : ∀ x ∈ l0_5, 0 ≤ x ∧ x ≤ 255 := fun x hx => wf8 (hw0_5 x hx)
  obtain ⟨n, rfl⟩ := Int.eq_ofNat_of_zero_le (wf8 w1).1
  have hn : n < 256 := by have := (wf8 w1).2; omega
  by_cases h0 : (l0_5.length : Int) > 400
  · exact ⟨0, by unfold busbarlaw20_FaultLines.f; rw [if_pos h0]⟩
  have hF : 0 ≤ a0_4 % 65536 ∧ a0_4 % 65536 < 65536 := by omega
  have hT : 0 ≤ a2_0 % 1048576 ∧ a2_0 % 1048576 < 1048576 := by omega
  unfold busbarlaw20_FaultLines.f
  rw [and65535, and1048575]
  generalize a0_4 % 65536 = F at *
  generalize a2_0 % 1048576 = T at *
  generalize (Go.bits .and .i64 a2_2 1 == 1) = y
  generalize (Go.bits .and .i64 a2_2 2 == 2) = opens
  obtain ⟨K, g⟩ := Lines_loop a0_0 a0_1 a0_2 a0_3 F l0_5 hp n hn T a2_1 y opens (by omega) 4 0 (by omega)
  refine ⟨K + 1, ?_⟩
  rw [if_neg h0, Byte_is _ _ _ _ (by omega) hp, Option.bind_some, Lines_is _ _ _ _ _ _ _ _ _ (by omega), Option.bind_some]
  exact g (K + 1) (by omega)

end Go.Proofs.Ytbidfjngmiggpab.Pure
