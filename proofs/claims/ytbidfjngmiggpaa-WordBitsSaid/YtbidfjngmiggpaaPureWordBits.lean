import Derived.Test.YtbidfjngmiggpaaRdWordBits
import Derived.Test.YtbidfjngmiggpaaL02w
set_option linter.unusedVariables false
set_option linter.unusedSimpArgs false
namespace Go.Proofs.Ytbidfjngmiggpaa.Pure
open Go Go.RowKit Go.Proofs.YtbidfjngmiggpaaW.PrintWords Go.Proofs.YtbidfjngmiggpaaW.PrintLast Go.Proofs.YtbidfjngmiggpaaW.PrintMore Go.Proofs.Ytbidfjngmiggpaa.Q Go.Proofs.Ytbidfjngmiggpaa.RdWordBits Go.Proofs.Ytbidfjngmiggpaa.L02 Go.Proofs.Ytbidfjngmiggpaa.PBase

def cntB : List Bool → Nat
  | [] => 0
  | b :: r => b.toNat + cntB r
theorem cntB_append : ∀ a b : List Bool, cntB (a ++ b) = cntB a + cntB b
  | [], b => by simp [cntB]
  | x :: r, b => by rw [List.cons_append, cntB, cntB_append r b, cntB, Nat.add_assoc]
theorem cntB_le : ∀ a : List Bool, cntB a ≤ a.length
  | [] => by simp [cntB]
  | x :: r => by
    have := cntB_le r
    rw [cntB, List.length_cons]
    cases x <;> simp <;> omega
theorem cntB_xor : ∀ a : List Bool, (cntB a % 2 == 1) = xorB a
  | [] => rfl
  | x :: r => by
    have := cntB_xor r
    rw [cntB, xorB, ← this]
    cases x
    · simp
    · have h : cntB r % 2 = 0 ∨ cntB r % 2 = 1 := by omega
      rcases h with h | h
      · rw [show (true.toNat + cntB r) % 2 = 1 by simp; omega, h]
        rfl
      · rw [show (true.toNat + cntB r) % 2 = 0 by simp; omega, h]
        rfl
def inOf (l : List Int) (n : Int) : Bool := decide (0 ≤ n ∧ n < 8 * (l.length : Int))
def longOf (n : Int) : Int := if n ≥ 0 ∧ n ≤ 1099511627776 then 8 * n else 0
theorem Long_is (n : Int) : word_Long.f n = some (longOf n) := by
  unfold word_Long.f longOf
  by_cases c : n < 0
  · rw [if_pos c, if_neg (by omega)]
  · rw [if_neg c]
    by_cases c2 : n > 1099511627776
    · rw [if_pos c2, if_neg (by omega)]
    · rw [if_neg c2, if_pos (by omega), w64 _ (by omega) (by omega)]
theorem lift_j4 (k : Nat) (x0 : List Int) (x2 : Int) (x7 : List Bool) (a b c : Bool) (d : Int) (r : Bool) (h : busbarlaw02_WordBits.l0 k x0 x2 x7 a b c d 0 0 = some r) : busbarlaw02_WordBits.j4 (k + 2) x0 x2 x7 a b c d = some r := by
  have m := (busbarlaw02_WordBits.mono_l k)
  rw [busbarlaw02_WordBits.j4]
  exact m.2.2.2.2.2 _ _ _ _ _ _ _ _ _ _ h
theorem WordBits_l0 (l : List Int) (hl : ∀ x ∈ l, Byte x) (hn : l.length ≤ 200) (n : Int) (n0 : -9223372036854775808 ≤ n) (n1 : n ≤ 9223372036854775807) : ∀ (d i : Nat), i + d = (bitsOf l).length →
    Ev (fun k => busbarlaw02_WordBits.l0 k l n (bitsOf l) (bitAt l n).1 (bitAt l n).2 (inOf l n) (longOf n) ((cntB ((bitsOf l).take i) : Nat) : Int) (i : Int)) true := by
  have e0 := bitsOf_length l
  obtain ⟨Kp, gp⟩ := Parity_is l hl (by omega)
  obtain ⟨Ko, go⟩ := one_is
  intro d
  induction d with
  | zero =>
    intro i h
    refine ⟨Kp + Ko + 1, fun k hk => ?_⟩
    obtain ⟨k, rfl⟩ := succ_of (show 0 < k by omega)
    have fp : word_Parity.f k l = _ := gp k (by omega)
    have fo : busbarlaw02_one.f k = _ := go k (by omega)
    have hc := cntB_le (bitsOf l)
    have hp : (xorB (bitsOf l) == (Int.tmod ((cntB (bitsOf l) : Nat) : Int) 2 == 1)) = true := by
      rw [Int.tmod_eq_emod_of_nonneg (by omega), ← cntB_xor, beq_iff_eq, Bool.eq_iff_iff, beq_iff_eq, beq_iff_eq]
      omega
    show busbarlaw02_WordBits.l0 (k + 1) _ _ _ _ _ _ _ _ _ = _
    rw [List.take_of_length_le (by omega), busbarlaw02_WordBits.l0, if_neg (by omega)]
    by_cases c : 0 ≤ n ∧ n < 8 * (l.length : Int)
    · have ei : inOf l n = true := decide_eq_true c
      have eb : bitAt l n = ((bitsOf l).getD n.toNat false, true) := by unfold bitAt; rw [if_pos c]
      have em : mx 0 (mn n (wrap64 (((bitsOf l).length : Int) - 1))) = n := by
        rw [w64 _ (by omega) (by omega)]
        have e1 : mn n (((bitsOf l).length : Int) - 1) = n := by
          unfold mn
          rw [if_neg (by omega)]
        rw [e1]
        unfold mx
        split <;> omega
      rw [ei, eb, if_pos (by rfl), if_pos rfl, em, if_pos (by omega), if_pos (by omega), if_pos (by unfold rdOf; simp), Long_is, Option.bind_some, if_pos rfl, fp, Option.bind_some, if_pos hp, fo, Option.bind_some]
    · have ei : inOf l n = false := decide_eq_false c
      have eb : bitAt l n = (false, false) := by unfold bitAt; rw [if_neg c]
      rw [ei, eb, if_pos (by rfl), if_neg (by decide), if_pos (by rfl), Long_is, Option.bind_some, if_pos rfl, fp, Option.bind_some, if_pos hp, fo, Option.bind_some]
  | succ d ih =>
    intro i h
    obtain ⟨K, g⟩ := ih (i + 1) (by omega)
    have hc := cntB_le ((bitsOf l).take i)
    rw [List.length_take] at hc
    have et : cntB ((bitsOf l).take (i + 1)) = cntB ((bitsOf l).take i) + ((bitsOf l).getD i false).toNat := by
      rw [List.take_succ_eq_append_getElem (by omega), cntB_append, List.getD_eq_getElem?_getD, List.getElem?_eq_getElem (by omega)]
      simp [cntB]
    refine ⟨K + 1, fun k hk => ?_⟩
    obtain ⟨k, rfl⟩ := succ_of (show 0 < k by omega)
    have gk := g k (by omega)
    simp only [et] at gk
    show busbarlaw02_WordBits.l0 (k + 1) _ _ _ _ _ _ _ _ _ = _
    rw [busbarlaw02_WordBits.l0, if_pos (by omega), if_pos (by omega), rdOf_nat, w64 ((i : Int) + 1) (by omega) (by omega), w64 (((cntB ((bitsOf l).take i) : Nat) : Int) + 1) (by omega) (by omega)]
    by_cases c : (bitsOf l).getD i false = true
    · rw [if_pos c]
      rw [c] at gk
      exact gk
    · rw [if_neg c]
      rw [(by simpa using c : (bitsOf l).getD i false = false)] at gk
      exact gk
theorem WordBits (l0 : List (Int)) (l1 : List (Bool)) (a2 : Int) (hm0 : l0.length ≤ maxLen) (hw0 : (∀ a ∈ l0, (fun n : Int => (Lit.int .u8 n).wf = true) a)) (hm1 : l1.length ≤ maxLen) (hw1 : (∀ a ∈ l1, (fun _ : Bool => True) a)) (w2 : (Lit.int .i64 a2).wf = true) :
    ∃ k, busbarlaw02_WordBits.f k l0 l1 a2 = some true := by
  have hb0 : ∀ x ∈ l0, Byte x := fun x hx => wf8 (hw0 x hx)
  have hn := wf64 w2
  have j1 : ∀ k, busbarlaw02_WordBits.j0 (k + 1) l0 l1 a2 true = some true := fun k => by rw [busbarlaw02_WordBits.j0, if_pos rfl]
  by_cases h0 : (l0.length : Int) > 200
  · exact ⟨1, by unfold busbarlaw02_WordBits.f; rw [if_pos h0, j1]⟩
  by_cases h1 : (l1.length : Int) > 2000
  · exact ⟨1, by unfold busbarlaw02_WordBits.f; rw [if_neg h0, decide_eq_true h1, j1]⟩
  have e0 := bitsOf_length l0
  obtain ⟨K1, g1⟩ := RBits_is l0 hb0 (by omega)
  obtain ⟨K2, g2⟩ := Words_is l1 (by omega)
  obtain ⟨K3, g3⟩ := Bits_is l0 hb0 (by omega)
  obtain ⟨K4, g4⟩ := Bools_is (bitsOf l0) (by omega)
  obtain ⟨K5, g5⟩ := RWords_is l1 (by omega)
  obtain ⟨K6, g6⟩ := WordBits_l0 l0 hb0 (by omega) a2 hn.1 hn.2 (bitsOf l0).length 0 (by omega)
  obtain ⟨k, hk⟩ : ∃ k, k = K1 + K2 + K3 + K4 + K5 + K6 := ⟨_, rfl⟩
  have f1 : busbarref02_Bits.f (k + 5) l0 = _ := g1 (k + 5) (by omega)
  have f2 : word_Words.f (k + 5) l1 = _ := g2 (k + 5) (by omega)
  have f3 : word_Bits.f (k + 5) l0 = _ := g3 (k + 5) (by omega)
  have f4 : busbarlaw02_Bools.f (k + 5) (bitsOf l0) (bitsOf l0) = _ := g4 (k + 5) (by omega)
  have f5 : busbarref02_Words.f (k + 5) l1 = _ := g5 (k + 5) (by omega)
  have f6 : busbarlaw02_WordBits.l0 k l0 a2 (bitsOf l0) (bitAt l0 a2).1 (bitAt l0 a2).2 (inOf l0 a2) (longOf a2) 0 0 = _ := g6 k (by omega)
  have tail : busbarlaw02_WordBits.j1 (k + 5) l0 a2 (bitsOf l0) false = some true := by
    rw [busbarlaw02_WordBits.j1, if_neg (by decide), Bit_is l0 hb0 (by omega) a2 hn.1 hn.2, Option.bind_some]
    have s4 : ∀ b, busbarlaw02_WordBits.j4 (k + 1) l0 a2 (bitsOf l0) (bitAt l0 a2).1 (bitAt l0 a2).2 (inOf l0 a2) b = busbarlaw02_WordBits.l0 k l0 a2 (bitsOf l0) (bitAt l0 a2).1 (bitAt l0 a2).2 (inOf l0 a2) b 0 0 := fun b => by rw [busbarlaw02_WordBits.j4]
    have s2 : busbarlaw02_WordBits.j2 (k + 4) l0 a2 (bitsOf l0) (bitAt l0 a2).1 (bitAt l0 a2).2 (inOf l0 a2) = some true := by
      rw [busbarlaw02_WordBits.j2]
      unfold longOf at f6
      by_cases c : a2 ≥ 0
      · rw [if_pos c, busbarlaw02_WordBits.j3]
        by_cases c2 : a2 ≤ 1099511627776
        · rw [decide_eq_true c2, if_pos rfl, show k + 2 = (k + 1) + 1 from rfl, w64 (8 * a2) (by omega) (by omega)]
          rw [if_pos ⟨c, c2⟩] at f6
          exact (lift_j4 k _ _ _ _ _ _ _ _ f6)
        · rw [decide_eq_false c2, if_neg (by decide)]
          rw [if_neg (fun h => c2 h.2)] at f6
          exact (lift_j4 k _ _ _ _ _ _ _ _ f6)
      · rw [if_neg c, busbarlaw02_WordBits.j3, if_neg (by decide)]
        rw [if_neg (fun h => c h.1)] at f6
        exact (lift_j4 k _ _ _ _ _ _ _ _ f6)
    by_cases c : a2 ≥ 0
    · have e : inOf l0 a2 = decide (a2 < ((bitsOf l0).length : Int)) := by
        unfold inOf
        rw [e0]
        by_cases c2 : a2 < ((8 * l0.length : Nat) : Int)
        · rw [decide_eq_true c2, decide_eq_true (by omega)]
        · rw [decide_eq_false c2, decide_eq_false (by omega)]
      rw [if_pos c, ← e]
      exact s2
    · have e : inOf l0 a2 = false := by
        unfold inOf
        rw [decide_eq_false (by omega)]
      rw [if_neg c]
      rw [e] at s2
      exact s2
  refine ⟨k + 6, ?_⟩
  unfold busbarlaw02_WordBits.f
  rw [if_neg h0, decide_eq_false h1, busbarlaw02_WordBits.j0, if_neg (by decide), f1, Option.bind_some, f2, Option.bind_some, f3, Option.bind_some, f4, Option.bind_some, if_neg (by decide)]
  by_cases c : l1.length % 8 = 0
  · rw [if_pos c]
    have e : (((l1.length : Int) % 8) == 0) = true := by rw [beq_iff_eq]; omega
    rw [e, if_neg (by simp), if_pos rfl, f5, Option.bind_some, if_pos rfl]
    exact tail
  · rw [if_neg c]
    have e : (((l1.length : Int) % 8) == 0) = false := by rw [beq_eq_false_iff_ne]; omega
    rw [e, if_neg (by simp), if_neg (by decide)]
    exact tail

end Go.Proofs.Ytbidfjngmiggpaa.Pure
