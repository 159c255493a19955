/- Plain facts about words and bits (layer 2): Words, and the document's Bits and Words. -/
import Derived.Test.YtbidfjngmiggpaaL02
import Derived.Test.YtbidfjngmiggpaaQx22
import Derived.Test.YtbidfjngmiggpaaQx31
import Derived.Test.YtbidfjngmiggpaaQx32
set_option linter.unusedVariables false
set_option linter.unusedSimpArgs false
namespace Go.Proofs.Ytbidfjngmiggpaa.L02
open Go Go.RowKit Go.Proofs.YtbidfjngmiggpaaW.PrintWords Go.Proofs.YtbidfjngmiggpaaW.PrintLast Go.Proofs.YtbidfjngmiggpaaW.PrintMore Go.Proofs.Ytbidfjngmiggpaa.Q Go.Proofs.Ytbidfjngmiggpaa.PBase

/-! ### the document's Bits -/
theorem RBits_l0 (l : List Int) (hl : ∀ x ∈ l, Byte x) (hn : l.length ≤ 1000) : ∀ (d n : Nat), n + d = (bitsOf l).length →
    Ev (fun k => busbarref02_Bits.l0 k l ((bitsOf l).take n) (n : Int)) (bitsOf l) := by
  have hlen := bitsOf_length l
  intro d
  induction d with
  | zero =>
    intro n h
    refine ⟨1, fun k hk => ?_⟩
    obtain ⟨k, rfl⟩ := succ_of (show 0 < k by omega)
    show busbarref02_Bits.l0 (k + 1) _ _ _ = _
    rw [busbarref02_Bits.l0, w64 (8 * (l.length : Int)) (by omega) (by omega), if_neg (by omega), List.take_of_length_le (by omega)]
  | succ d ih =>
    intro n h
    obtain ⟨K, g⟩ := ih (n + 1) (by omega)
    refine ⟨K + 1, fun k hk => ?_⟩
    obtain ⟨k, rfl⟩ := succ_of (show 0 < k by omega)
    have gk : busbarref02_Bits.l0 k l ((bitsOf l).take (n + 1)) ((n + 1 : Nat) : Int) = some (bitsOf l) := g k (by omega)
    have hx := hl _ (rd_mem l ((n / 8 : Nat) : Int) (by omega) (by omega))
    have hx2 := hx
    unfold Byte at hx2
    have e1 : IntKind.u64.wrap (((7 - n % 8 : Nat) : Int)) = ((7 - n % 8 : Nat) : Int) := by
      simp [IntKind.wrap, IntKind.bits, IntKind.signed]
      omega
    have hd := div_range _ hx (7 - n % 8)
    have e2 : (Int.tmod (shr .i64 (rd l ((n / 8 : Nat) : Int)) ((7 - n % 8 : Nat) : Int)) 2 == 1) = (bitsOf l).getD n false := by
      rw [shr64 _ _ (by omega), Int.tmod_eq_emod_of_nonneg hd.1]
      have := bitsOf_get l (n / 8) (n % 8) (by omega) (by omega)
      rw [show 8 * (n / 8) + n % 8 = n by omega] at this
      rw [this, ← rd_nat]
      rfl
    have hll : ((bitsOf l).take n).length = n := by rw [List.length_take]; omega
    have et : (bitsOf l).take n ++ [(bitsOf l).getD n false] = (bitsOf l).take (n + 1) := by
      rw [List.take_succ_eq_append_getElem (by omega), List.getD_eq_getElem?_getD, List.getElem?_eq_getElem (by omega)]
      rfl
    show busbarref02_Bits.l0 (k + 1) _ _ _ = _
    rw [busbarref02_Bits.l0, w64 (8 * (l.length : Int)) (by omega) (by omega), if_pos (by omega), Int.tdiv_eq_ediv_of_nonneg (by omega), Int.tmod_eq_emod_of_nonneg (by omega), show (n : Int) / 8 = ((n / 8 : Nat) : Int) by omega, w64 ((n / 8 : Nat) : Int) (by omega) (by omega), show 7 - (n : Int) % 8 = ((7 - n % 8 : Nat) : Int) by omega, w64 ((7 - n % 8 : Nat) : Int) (by omega) (by omega), e1, w64 (rd l ((n / 8 : Nat) : Int)) (by omega) (by omega), e2, if_pos (by omega), if_pos (by omega), if_pos (by omega), if_pos (by rw [hll]; omega), et, w64 ((n : Int) + 1) (by omega) (by omega)]
    exact gk
theorem RBits_is (l : List Int) (hl : ∀ x ∈ l, Byte x) (hn : l.length ≤ 1000) : Ev (fun k => busbarref02_Bits.f k l) (bitsOf l) := by
  have := RBits_l0 l hl hn (bitsOf l).length 0 (by omega)
  unfold busbarref02_Bits.f
  simpa using this
/-! ### Words -/
/-- The value of the first m bits of a word, in their places. -/
def pv (f : Nat → Bool) : Nat → Nat
  | 0 => 0
  | m + 1 => pv f m + (if f m then 2 ^ (7 - m) else 0)
theorem pv_mod (f : Nat → Bool) : ∀ m, m ≤ 8 → pv f m % 2 ^ (8 - m) = 0 ∧ pv f m + 2 ^ (8 - m) ≤ 256
  | 0, _ => ⟨rfl, by simp [pv]⟩
  | m + 1, h => by
    obtain ⟨h1, h2⟩ := pv_mod f m (by omega)
    have e : 2 ^ (8 - m) = 2 * 2 ^ (7 - m) := by rw [show 8 - m = (7 - m) + 1 by omega, Nat.pow_succ]; omega
    rw [e] at h1 h2
    have hp : 0 < 2 ^ (7 - m) := Nat.two_pow_pos _
    have hm : pv f m % 2 ^ (7 - m) = 0 := by
      obtain ⟨q, hq⟩ := Nat.dvd_of_mod_eq_zero h1
      rw [hq, show 2 * 2 ^ (7 - m) * q = 2 ^ (7 - m) * (2 * q) by rw [Nat.mul_comm 2, Nat.mul_assoc]]
      exact Nat.mul_mod_right _ _
    rw [show 8 - (m + 1) = 7 - m by omega, pv]
    split
    · exact ⟨by rw [Nat.add_mod, hm, Nat.mod_self]; simp, by omega⟩
    · exact ⟨by simpa using hm, by omega⟩
def wordAt (l : List Bool) (q : Nat) : Nat := pv (fun i => l.getD (8 * q + i) false) 8
def wordsOf (l : List Bool) : List Int := (List.range (l.length / 8)).map fun q => (wordAt l q : Int)
/-- What stands in the words behind n bits. -/
def part (l : List Bool) (n : Nat) : List Int := (List.range (l.length / 8)).map fun q => ((if q < n / 8 then wordAt l q else if q = n / 8 then pv (fun i => l.getD (8 * q + i) false) (n % 8) else 0 : Nat) : Int)
theorem part_length (l : List Bool) (n : Nat) : (part l n).length = l.length / 8 := by simp [part]
theorem part_get (l : List Bool) (n q : Nat) (h : q < l.length / 8) : (part l n)[q]? = some ((if q < n / 8 then wordAt l q else if q = n / 8 then pv (fun i => l.getD (8 * q + i) false) (n % 8) else 0 : Nat) : Int) := by
  simp [part, List.getElem?_range h]
theorem part_zero (l : List Bool) : part l 0 = List.replicate (l.length / 8) 0 := by
  apply List.ext_getElem?
  intro q
  by_cases h : q < l.length / 8
  · rw [part_get l 0 q h, List.getElem?_replicate, if_pos h]
    by_cases c : q = 0
    · subst c
      rfl
    · rw [if_neg (by omega), if_neg (by omega)]
      rfl
  · rw [List.getElem?_eq_none (by rw [part_length]; omega), List.getElem?_eq_none (by simp; omega)]
theorem part_end (l : List Bool) (h : l.length % 8 = 0) : part l l.length = wordsOf l := by
  apply List.ext_getElem?
  intro q
  by_cases hq : q < l.length / 8
  · rw [part_get l _ q hq, if_pos hq]
    simp [wordsOf, List.getElem?_range hq]
  · rw [List.getElem?_eq_none (by rw [part_length]; omega), List.getElem?_eq_none (by simp [wordsOf]; omega)]
theorem part_step (l : List Bool) (n : Nat) (hn : n < l.length) (h : l.length % 8 = 0) :
    part l (n + 1) = if l.getD n false then (part l n).set (n / 8) ((pv (fun i => l.getD (8 * (n / 8) + i) false) (n % 8) + 2 ^ (7 - n % 8) : Nat) : Int) else part l n := by
  have key : ∀ q, q < l.length / 8 → ((if q < (n + 1) / 8 then wordAt l q else if q = (n + 1) / 8 then pv (fun i => l.getD (8 * q + i) false) ((n + 1) % 8) else 0 : Nat)) =
      if q = n / 8 then pv (fun i => l.getD (8 * q + i) false) (n % 8 + 1) else (if q < n / 8 then wordAt l q else if q = n / 8 then pv (fun i => l.getD (8 * q + i) false) (n % 8) else 0) := by
    intro q hq
    by_cases c : n % 8 = 7
    · have e1 : (n + 1) / 8 = n / 8 + 1 := by omega
      have e2 : (n + 1) % 8 = 0 := by omega
      rw [e1, e2, c]
      by_cases c1 : q = n / 8
      · rw [if_pos (by omega), if_pos c1]
        rfl
      · rw [if_neg c1]
        by_cases c2 : q < n / 8
        · rw [if_pos (by omega), if_pos c2]
        · rw [if_neg (by omega), if_neg c2, if_neg c1]
          split <;> rfl
    · have e1 : (n + 1) / 8 = n / 8 := by omega
      have e2 : (n + 1) % 8 = n % 8 + 1 := by omega
      rw [e1, e2]
      by_cases c1 : q = n / 8
      · rw [if_neg (by omega), if_pos c1, if_pos c1]
      · rw [if_neg c1, if_neg c1, if_neg c1]
  have hb : l.getD (8 * (n / 8) + n % 8) false = l.getD n false := by rw [show 8 * (n / 8) + n % 8 = n by omega]
  apply List.ext_getElem?
  intro q
  by_cases hq : q < l.length / 8
  · rw [part_get l (n + 1) q hq, key q hq]
    by_cases c : q = n / 8
    · subst c
      rw [if_pos rfl, pv, hb]
      by_cases cb : l.getD n false = true
      · rw [if_pos cb, if_pos cb, List.getElem?_set_self (by rw [part_length]; exact hq)]
      · rw [if_neg cb, if_neg cb, part_get l n _ hq, if_neg (by omega), if_pos rfl, Nat.add_zero]
    · have e : (if l.getD n false = true then (part l n).set (n / 8) ((pv (fun i => l.getD (8 * (n / 8) + i) false) (n % 8) + 2 ^ (7 - n % 8) : Nat) : Int) else part l n)[q]? = (part l n)[q]? := by
        split
        · exact List.getElem?_set_ne (fun e => c e.symm)
        · rfl
      rw [e, part_get l n q hq]
      simp only [if_neg c]
  · rw [List.getElem?_eq_none (by rw [part_length]; omega)]
    split
    · rw [List.getElem?_eq_none (by rw [List.length_set, part_length]; omega)]
    · rw [List.getElem?_eq_none (by rw [part_length]; omega)]
theorem shl1 (j : Nat) (h : j ≤ 7) : shl .u8 1 (j : Int) = ((2 ^ j : Nat) : Int) := by
  obtain rfl | rfl | rfl | rfl | rfl | rfl | rfl | rfl : j = 0 ∨ j = 1 ∨ j = 2 ∨ j = 3 ∨ j = 4 ∨ j = 5 ∨ j = 6 ∨ j = 7 := by omega
  all_goals decide +kernel
theorem or_bit (P j : Nat) (hj : j < 8) (pm : P % 2 ^ (8 - j) = 0) (pl : P + 2 ^ (8 - j) ≤ 256) : Go.bits .or .u8 (P : Int) ((2 ^ (7 - j) : Nat) : Int) = ((P + 2 ^ (7 - j) : Nat) : Int) := by
  have hp : 2 ^ (8 - j) = 2 * 2 ^ (7 - j) := by rw [show 8 - j = (7 - j) + 1 by omega, Nat.pow_succ]; omega
  have hpos : 0 < 2 ^ (7 - j) := Nat.two_pow_pos _
  have hc : ((2 : Int) ^ (8 - j)) = ((2 ^ (8 - j) : Nat) : Int) := by simp
  have h1 : (P : Int) % 2 ^ (8 - j) = 0 := by rw [hc, ← Int.natCast_emod, pm]; rfl
  have h2 : (P : Int) < 2 ^ 8 := by
    show (P : Int) < 256
    omega
  have h3 : ((2 ^ (7 - j) : Nat) : Int) < 2 ^ (8 - j) := by
    rw [hc]
    exact Int.ofNat_lt.mpr (by omega)
  have h4 : ((2 ^ (7 - j) : Nat) : Int) < 2 ^ 8 := by
    show ((2 ^ (7 - j) : Nat) : Int) < ((256 : Nat) : Int)
    exact Int.ofNat_lt.mpr (by omega)
  rw [bits_join .u8 8 (by decide) wraps_u8 (8 - j) (P : Int) ((2 ^ (7 - j) : Nat) : Int) (Int.natCast_nonneg _) h1 h2 (Int.natCast_nonneg _) h3 h4]
  exact (Int.natCast_add _ _).symm
theorem Words_l0 (l : List Bool) (h8 : l.length % 8 = 0) (hn : l.length ≤ 10000) : ∀ (d n : Nat), n + d = l.length →
    Ev (fun k => word_Words.l0 k (part l n) l (l.length : Int) (n : Int)) (wordsOf l, true) := by
  intro d
  induction d with
  | zero =>
    intro n h
    refine ⟨1, fun k hk => ?_⟩
    obtain ⟨k, rfl⟩ := succ_of (show 0 < k by omega)
    show word_Words.l0 (k + 1) _ _ _ _ = _
    rw [word_Words.l0, if_neg (by omega), show n = l.length by omega, part_end l h8]
  | succ d ih =>
    intro n h
    obtain ⟨K, g⟩ := ih (n + 1) (by omega)
    refine ⟨K + 1, fun k hk => ?_⟩
    obtain ⟨k, rfl⟩ := succ_of (show 0 < k by omega)
    have gk : word_Words.l0 k (part l (n + 1)) l (l.length : Int) ((n + 1 : Nat) : Int) = _ := g k (by omega)
    have hr : rd (part l n) ((n / 8 : Nat) : Int) = ((pv (fun i => l.getD (8 * (n / 8) + i) false) (n % 8) : Nat) : Int) := by
      rw [rd_nat, List.getD_eq_getElem?_getD, part_get l n _ (by omega), if_neg (by omega), if_pos rfl]
      rfl
    obtain ⟨pm, pl⟩ := pv_mod (fun i => l.getD (8 * (n / 8) + i) false) (n % 8) (by omega)
    rw [part_step l n (by omega) h8] at gk
    show word_Words.l0 (k + 1) _ _ _ _ = _
    rw [word_Words.l0, if_pos (by omega), if_pos (by omega), if_pos (by omega), rdOf_nat, Int.tdiv_eq_ediv_of_nonneg (by omega), Int.tmod_eq_emod_of_nonneg (by omega), show (n : Int) / 8 = ((n / 8 : Nat) : Int) by omega, w64 ((n / 8 : Nat) : Int) (by omega) (by omega), show 7 - (n : Int) % 8 = ((7 - n % 8 : Nat) : Int) by omega, w64 ((7 - n % 8 : Nat) : Int) (by omega) (by omega), w64 ((n : Int) + 1) (by omega) (by omega)]
    by_cases c : l.getD n false = true
    · rw [if_pos c, if_pos (by omega), if_pos (by rw [part_length]; omega), if_pos (by omega), hr, shl1 _ (by omega), Int.toNat_natCast]
      rw [if_pos c] at gk
      have hor : Go.bits .or .u8 ((pv (fun i => l.getD (8 * (n / 8) + i) false) (n % 8) : Nat) : Int) ((2 ^ (7 - n % 8) : Nat) : Int) = ((pv (fun i => l.getD (8 * (n / 8) + i) false) (n % 8) + 2 ^ (7 - n % 8) : Nat) : Int) := by
        exact or_bit _ (n % 8) (by omega) pm pl
      rw [hor]
      exact gk
    · rw [if_neg c]
      rw [if_neg c] at gk
      exact gk
theorem Words_is (l : List Bool) (hn : l.length ≤ 10000) : Ev (fun k => word_Words.f k l) (if l.length % 8 = 0 then (wordsOf l, true) else ([], false)) := by
  by_cases h : l.length % 8 = 0
  · have := Words_l0 l h hn l.length 0 (by omega)
    rw [part_zero] at this
    unfold word_Words.f
    rw [w64 ((l.length : Int) / 8) (by omega) (by omega), if_pos h]
    simp only [if_pos (show (l.length : Int) % 8 = 0 by omega), if_pos (show (0 : Int) ≤ (l.length : Int) / 8 by omega), if_pos (show ((l.length : Int) / 8).toNat ≤ 281474976710656 by omega)]
    rw [show ((l.length : Int) / 8).toNat = l.length / 8 by omega]
    simpa using this
  · unfold word_Words.f
    rw [if_neg h]
    simp only [if_neg (show ¬ (l.length : Int) % 8 = 0 by omega)]
    exact Ev.now _
/-! ### the document's Words -/
def hv (f : Nat → Bool) : Nat → Nat
  | 0 => 0
  | m + 1 => 2 * hv f m + (if f m then 1 else 0)
theorem pv_hv (f : Nat → Bool) : ∀ m, m ≤ 8 → pv f m = hv f m * 2 ^ (8 - m)
  | 0, _ => by simp [pv, hv]
  | m + 1, h => by
    have ih := pv_hv f m (by omega)
    have e : 2 ^ (8 - m) = 2 * 2 ^ (7 - m) := by rw [show 8 - m = (7 - m) + 1 by omega, Nat.pow_succ]; omega
    rw [pv, hv, ih, e, show 8 - (m + 1) = 7 - m by omega, Nat.add_mul]
    congr 1
    · rw [← Nat.mul_assoc, Nat.mul_comm (hv f m) 2]
    · split <;> simp
theorem hv_lt (f : Nat → Bool) : ∀ m, hv f m < 2 ^ m
  | 0 => by simp [hv]
  | m + 1 => by
    have := hv_lt f m
    rw [hv, Nat.pow_succ]
    split <;> omega
theorem RWords_l1 (l : List Bool) (hn : l.length ≤ 10000) (q : Nat) (hq : q < l.length / 8) (acc : List Int) (hacc : acc.length ≤ 10000) (r : List Int)
    (R : Ev (fun k => busbarref02_Words.l0 k l (acc ++ [(wordAt l q : Int)]) ((q + 1 : Nat) : Int)) r) :
    ∀ (d i : Nat), i + d = 8 → Ev (fun k => busbarref02_Words.l1 k l acc (q : Int) ((hv (fun i => l.getD (8 * q + i) false) i : Nat) : Int) (i : Int)) r := by
  intro d
  induction d with
  | zero =>
    intro i h
    obtain ⟨K, g⟩ := R
    refine ⟨K + 1, fun k hk => ?_⟩
    obtain ⟨k, rfl⟩ := succ_of (show 0 < k by omega)
    have gk := g k (by omega)
    obtain rfl : i = 8 := by omega
    have h1 := pv_hv (fun i => l.getD (8 * q + i) false) 8 (by omega)
    have h2 := hv_lt (fun i => l.getD (8 * q + i) false) 8
    have h3 : wordAt l q = hv (fun i => l.getD (8 * q + i) false) 8 := by
      unfold wordAt
      rw [h1]
      simp
    rw [h3] at gk
    show busbarref02_Words.l1 (k + 1) _ _ _ _ _ = _
    generalize hv (fun i => l.getD (8 * q + i) false) 8 = V at h2 gk
    rw [busbarref02_Words.l1, if_neg (by omega), if_pos (by omega), show (V : Int) % 256 = (V : Int) by omega, w64 ((q : Int) + 1) (by omega) (by omega)]
    exact gk
  | succ d ih =>
    intro i h
    obtain ⟨K, g⟩ := ih (i + 1) (by omega)
    refine ⟨K + 1, fun k hk => ?_⟩
    obtain ⟨k, rfl⟩ := succ_of (show 0 < k by omega)
    have gk := g k (by omega)
    have h2 := hv_lt (fun i => l.getD (8 * q + i) false) i
    have h4 : 2 ^ i ≤ 256 := Nat.le_trans (Nat.pow_le_pow_right (by omega) (show i ≤ 8 by omega)) (by decide)
    have e : hv (fun i => l.getD (8 * q + i) false) (i + 1) = 2 * hv (fun i => l.getD (8 * q + i) false) i + (if l.getD (8 * q + i) false = true then 1 else 0) := rfl
    simp only [e] at gk
    show busbarref02_Words.l1 (k + 1) _ _ _ _ _ = _
    generalize hv (fun i => l.getD (8 * q + i) false) i = V at h2 gk ⊢
    rw [busbarref02_Words.l1, if_pos (by omega), w64 (8 * (q : Int)) (by omega) (by omega), w64 (8 * (q : Int) + (i : Int)) (by omega) (by omega), if_pos (by omega), if_pos (by omega), show 8 * (q : Int) + (i : Int) = ((8 * q + i : Nat) : Int) by omega, rdOf_nat, w64 (2 * (V : Int)) (by omega) (by omega), w64 (2 * (V : Int) + 1) (by omega) (by omega), w64 ((i : Int) + 1) (by omega) (by omega)]
    by_cases c : l.getD (8 * q + i) false = true
    · rw [if_pos c] at gk ⊢
      exact gk
    · rw [if_neg c] at gk ⊢
      exact gk
theorem RWords_l0 (l : List Bool) (hn : l.length ≤ 10000) : ∀ (d q : Nat), q + d = l.length / 8 → Ev (fun k => busbarref02_Words.l0 k l ((wordsOf l).take q) (q : Int)) (wordsOf l) := by
  have hlw : (wordsOf l).length = l.length / 8 := by simp [wordsOf]
  intro d
  induction d with
  | zero =>
    intro q h
    refine ⟨1, fun k hk => ?_⟩
    obtain ⟨k, rfl⟩ := succ_of (show 0 < k by omega)
    show busbarref02_Words.l0 (k + 1) _ _ _ = _
    rw [busbarref02_Words.l0, w64 ((l.length : Int) / 8) (by omega) (by omega), if_neg (by omega), List.take_of_length_le (by omega)]
  | succ d ih =>
    intro q h
    have et : (wordsOf l).take q ++ [(wordAt l q : Int)] = (wordsOf l).take (q + 1) := by
      rw [List.take_succ_eq_append_getElem (by omega)]
      simp [wordsOf]
    have := RWords_l1 l hn q (by omega) ((wordsOf l).take q) (by rw [List.length_take]; omega) (wordsOf l) (by rw [et]; exact ih (q + 1) (by omega)) 8 0 (by omega)
    refine Ev.step (fun k => ?_) this
    rw [busbarref02_Words.l0, w64 ((l.length : Int) / 8) (by omega) (by omega), if_pos (by omega)]
    rfl
theorem RWords_is (l : List Bool) (hn : l.length ≤ 10000) : Ev (fun k => busbarref02_Words.f k l) (wordsOf l) := by
  have := RWords_l0 l hn (l.length / 8) 0 (by omega)
  unfold busbarref02_Words.f
  simpa using this
end Go.Proofs.Ytbidfjngmiggpaa.L02
