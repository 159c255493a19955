/- Layer 2: bits of words, words of bits, a word that is known. No conditions. -/
import Derived.Test.YtdoeioljkbjabaaSMajorHoldsRW02c
set_option linter.unusedVariables false
set_option linter.unusedSimpArgs false
namespace Go.Proofs.Ytdoeioljkbjabaa.R
open Go Go.RowKit Go.Proofs.Ytdoeioljkbjabaa
set_option maxRecDepth 100000
set_option maxHeartbeats 1000000
theorem tyAllRW02d : type_of% (And.intro (And.intro (And.intro (And.intro ty_1 ty_2) (And.intro ty_3 (And.intro ty_4 ty_5))) (And.intro (And.intro ty_6 ty_7) (And.intro ty_8 (And.intro ty_9 ty_10)))) (And.intro (And.intro (And.intro ty_36 ty_39) (And.intro ty_75 (And.intro ty_82 ty_83))) (And.intro (And.intro ty_84 ty_113) (And.intro ty_114 (And.intro ty_115 ty_129))))) := (And.intro (And.intro (And.intro (And.intro ty_1 ty_2) (And.intro ty_3 (And.intro ty_4 ty_5))) (And.intro (And.intro ty_6 ty_7) (And.intro ty_8 (And.intro ty_9 ty_10)))) (And.intro (And.intro (And.intro ty_36 ty_39) (And.intro ty_75 (And.intro ty_82 ty_83))) (And.intro (And.intro ty_84 ty_113) (And.intro ty_114 (And.intro ty_115 ty_129)))))
section
variable {W0 : World}
theorem pv_bit : ∀ (b0 b1 b2 b3 b4 b5 b6 b7 : Bool) (k : Fin 8), ([b0, b1, b2, b3, b4, b5, b6, b7])[k.val]! = false → bits .or .u8 (pv [b0, b1, b2, b3, b4, b5, b6, b7]) (IntKind.u8.wrap (1 * 2 ^ (min (7 - k.val) 8))) = setB (pv [b0, b1, b2, b3, b4, b5, b6, b7]) k.val true := by decide +kernel
theorem pv_or (l : List Bool) (h : l.length = 8) {k : Nat} (hk : k < 8) (h0 : l[k]? = some false) : bits .or .u8 (pv l) (IntKind.u8.wrap (1 * 2 ^ (min (7 - k) 8))) = setB (pv l) k true := by
  match l, h with
  | [b0, b1, b2, b3, b4, b5, b6, b7], _ => exact pv_bit b0 b1 b2 b3 b4 b5 b6 b7 ⟨k, hk⟩ (by simp only [List.getElem!_eq_getElem?_getD, h0]; rfl)
theorem word_Words {m : Mem} {K : Value → Mem → Prop} {v : Value} {n : Nat} {bs : List Bool} (hr : RS W0 m v 1 n (bl bs)) (hn : n ≤ 100000000)
    (h1 : n % 8 ≠ 0 → K (.tuple #[.slice none 0 0, .bool false]) m) (h : n % 8 = 0 → ∀ v' m', NewS W0 m m' 5 1 v' (n / 8) (u8 (pack bs)) → K (.tuple #[v', .bool true]) m') :
    CallA Try.prog W0 84 #[v] m K := by
  have hr0 := hr
  obtain ⟨hl, A, c, rfl, h0⟩ := hr
  rw [bl_length, Nat.mul_one] at hl
  refine en_84 (l := [.slice A n c]) (by simp [Try.ntmps84]) ?_
  have hmd : (n : Int).tmod 8 = ((n % 8 : Nat) : Int) := by rw [tmod_pos (by omega)]; omega
  have hd : IntKind.i64.wrap ((n : Int).tdiv 8) = ((n / 8 : Nat) : Int) := by rw [tdiv_pos (by omega), w64 (by omega) (by omega)]; omega
  by_cases hm : n % 8 = 0
  · have e0 : (((n % 8 : Nat) : Int) != 0) = false := by rw [hm]; rfl
    simp only [Try.f84, Option.getD_some, vcCore, yieldT, Int.reduceEq, Int.reduceLT, Int.reduceLE, Int.reduceNe, not_true_eq_false, decide_true, decide_false, add_lit', Nat.zero_add, Nat.mul_one, Int.toNat_natCast, List.getElem?_toArray, List.getElem?_cons_zero, List.getElem?_cons_succ, Option.bind_some, List.map_cons, List.map_nil, List.map_toArray, Array.append_empty, Array.empty_append, List.append_nil, List.nil_append, List.append_toArray, ↓reduceIte, Nat.reduceEqDiff, Nat.reduceAdd, Nat.reduceLeDiff, List.contains_cons, List.contains_nil, Nat.reduceBEq, Bool.or_false, Bool.false_or, Bool.or_true, Bool.true_or, Bool.false_eq_true, Value.cells, List.size_toArray, List.length_cons, List.length_nil, Option.map_some, Option.map_none, Option.isSome_some, Option.isSome_none, Option.isNone_some, Option.isNone_none, true_and, and_true, ne_eq, reduceCtorEq, not_false_eq_true, Bool.not_true, Bool.not_false, tyAllRW02d, then_normal, hmd, hd, e0]
    refine rmake sl_39 ze_5 by_5 (by unfold maxLen; omega) (by omega) fun b hf => ?_
    simp only [vcCore, yieldT, Int.reduceEq, Int.reduceLT, Int.reduceLE, Int.reduceNe, not_true_eq_false, decide_true, decide_false, add_lit', Nat.zero_add, Nat.mul_one, Int.toNat_natCast, List.getElem?_toArray, List.getElem?_cons_zero, List.getElem?_cons_succ, Option.bind_some, List.map_cons, List.map_nil, List.map_toArray, Array.append_empty, Array.empty_append, List.append_nil, List.nil_append, List.append_toArray, ↓reduceIte, Nat.reduceEqDiff, Nat.reduceAdd, Nat.reduceLeDiff, List.contains_cons, List.contains_nil, Nat.reduceBEq, Bool.or_false, Bool.false_or, Bool.or_true, Bool.true_or, Bool.false_eq_true, Value.cells, List.size_toArray, List.length_cons, List.length_nil, Option.map_some, Option.map_none, Option.isSome_some, Option.isSome_none, Option.isNone_some, Option.isNone_none, true_and, and_true, ne_eq, reduceCtorEq, not_false_eq_true, Bool.not_true, Bool.not_false, tyAllRW02d, then_normal]
    have hN := NewS.made (m := m) (e := 5) (z := .int .u8 0) hf (n := n / 8) (by unfold maxLen; omega)
    have hz : List.replicate (n / 8) (Value.int .u8 0) = u8 (pack (bs.take 0 ++ List.replicate (n - 0) false)) := by
      rw [List.take_zero, List.nil_append, u8, pack, List.length_replicate, Nat.sub_zero, List.map_map]
      apply List.ext_getElem?
      intro j
      by_cases hj : j < n / 8
      · have e : min 8 (n - 8 * j) = 8 := by omega
        have e1 : packB (List.replicate n false) j = 0 := by
          unfold packB; rw [List.drop_replicate, List.take_replicate, e]; rfl
        simp [hj, e1]
      · simp [hj]
    rw [hz] at hN
    refine loop_rule (fun d t m' => ∃ i : Nat, i ≤ n ∧ d = n - i ∧ t 4 = .slice (some ⟨b, 0, none⟩) (n / 8) (n / 8) ∧ t 15 = .slice A n c ∧ t 16 = .int .i64 (n : Int) ∧ t 17 = .int .i64 (i : Int) ∧
        NewS W0 m m' 5 1 (.slice (some ⟨b, 0, none⟩) (n / 8) (n / 8)) (n / 8) (u8 (pack (bs.take i ++ List.replicate (n - i) false))))
      n (by kernel_rfl) ⟨0, by omega, by omega, rfl, rfl, rfl, rfl, hN⟩ ?_
    rintro d t m' ⟨i, hi, rfl, h4, h15, h16, h17, hN⟩
    by_cases hlt : i < n
    · have hlt' : (i : Int) < (n : Int) := by omega
      have e3 : IntKind.i64.wrap ((i : Int) + 1) = ((i + 1 : Nat) : Int) := by rw [w64 (by omega) (by omega)]; omega
      obtain ⟨a, rfl, hc⟩ := RS.cell (hr0.ext hN.ext) (j := i) hlt
      have hcell := hc i (.bool bs[i]) (by rw [bl_get]; simp)
      have hcur : (bs.take i ++ List.replicate (n - i) false).length = n := by simp; omega
      have hnext : (bs.take i ++ List.replicate (n - i) false).set i bs[i] = bs.take (i + 1) ++ List.replicate (n - (i + 1)) false := by
        have h1 : (bs.take i).length = i := by simp; omega
        rw [List.set_append_right _ _ (by omega), h1, Nat.sub_self]
        rw [show n - i = (n - (i + 1)) + 1 by omega, List.replicate_succ, List.set_cons_zero, List.take_succ_eq_append_getElem (by omega), List.append_assoc]
        rfl
      have hps := pack_set (bs.take i ++ List.replicate (n - i) false) (n := i) (by omega) (by rw [hcur]; omega) bs[i]
      rw [hnext] at hps
      have hget0 : (bs.take i ++ List.replicate (n - i) false)[i]? = some false := by
        rw [List.getElem?_append_right (by simp; omega)]
        have h1 : (bs.take i).length = i := by simp; omega
        rw [h1, Nat.sub_self, List.getElem?_replicate, if_pos (by omega)]
      cases hb : bs[i] <;> rw [hb] at hcell hps hnext
      · simp only [vcCore, yieldT, Int.reduceEq, Int.reduceLT, Int.reduceLE, Int.reduceNe, not_true_eq_false, decide_true, decide_false, add_lit', Nat.zero_add, Nat.mul_one, Int.toNat_natCast, List.getElem?_toArray, List.getElem?_cons_zero, List.getElem?_cons_succ, Option.bind_some, List.map_cons, List.map_nil, List.map_toArray, Array.append_empty, Array.empty_append, List.append_nil, List.nil_append, List.append_toArray, ↓reduceIte, Nat.reduceEqDiff, Nat.reduceAdd, Nat.reduceLeDiff, List.contains_cons, List.contains_nil, Nat.reduceBEq, Bool.or_false, Bool.false_or, Bool.or_true, Bool.true_or, Bool.false_eq_true, Value.cells, List.size_toArray, List.length_cons, List.length_nil, Option.map_some, Option.map_none, Option.isSome_some, Option.isSome_none, Option.isNone_some, Option.isNone_none, true_and, and_true, ne_eq, reduceCtorEq, not_false_eq_true, Bool.not_true, Bool.not_false, tyAllRW02d, then_normal, h4, h15, h16, h17, hlt', hcell, e3]
        refine ⟨n - (i + 1), by omega, i + 1, by omega, rfl, h4, h15, h16, rfl, ?_⟩
        rw [← hnext]
        have : (bs.take i ++ List.replicate (n - i) false).set i false = bs.take i ++ List.replicate (n - i) false := by
          apply List.ext_getElem?
          intro j
          rw [List.getElem?_set]
          by_cases hj : i = j
          · subst hj; rw [hget0, if_pos rfl, if_pos (by omega)]
          · simp [hj]
        rw [this]; exact hN
      · have e5 : IntKind.i64.wrap ((i : Int).tdiv 8) = ((i / 8 : Nat) : Int) := by rw [tdiv_pos (by omega), w64 (by omega) (by omega)]; omega
        have e6 : (i : Int).tmod 8 = ((i % 8 : Nat) : Int) := by rw [tmod_pos (by omega)]; omega
        have e7 : IntKind.i64.wrap (7 - ((i % 8 : Nat) : Int)) = ((7 - i % 8 : Nat) : Int) := by rw [w64 (by omega) (by omega)]; omega
        have hi8 : i / 8 < n / 8 := by omega
        have hi8' : ((i / 8 : Nat) : Int) < ((n / 8 : Nat) : Int) := by omega
        simp only [vcCore, yieldT, Int.reduceEq, Int.reduceLT, Int.reduceLE, Int.reduceNe, not_true_eq_false, decide_true, decide_false, add_lit', Nat.zero_add, Nat.mul_one, Int.toNat_natCast, List.getElem?_toArray, List.getElem?_cons_zero, List.getElem?_cons_succ, Option.bind_some, List.map_cons, List.map_nil, List.map_toArray, Array.append_empty, Array.empty_append, List.append_nil, List.nil_append, List.append_toArray, ↓reduceIte, Nat.reduceEqDiff, Nat.reduceAdd, Nat.reduceLeDiff, List.contains_cons, List.contains_nil, Nat.reduceBEq, Bool.or_false, Bool.false_or, Bool.or_true, Bool.true_or, Bool.false_eq_true, Value.cells, List.size_toArray, List.length_cons, List.length_nil, Option.map_some, Option.map_none, Option.isSome_some, Option.isSome_none, Option.isNone_some, Option.isNone_none, true_and, and_true, ne_eq, reduceCtorEq, not_false_eq_true, Bool.not_true, Bool.not_false, tyAllRW02d, then_normal, h4, h15, h16, h17, hlt', hcell, e3]
        refine draw_any [0, 1, 2, 3, 4, 5, 6, 7, 8, 9, 10, 11] 11 [] mixed (by kernel_rfl) (by kernel_rfl) ?_
        obtain ⟨a2, ha2, hc2⟩ := RS.cell hN.own.reads hi8
        cases ha2
        have hcell2 := hc2 (i / 8) (.int .u8 (packB (bs.take i ++ List.replicate (n - i) false) (i / 8))) (by rw [u8_get, pack_get _ (by omega)]; rfl)
        rw [add_lit', Nat.zero_add] at hcell2
        have hor : bits .or .u8 (packB (bs.take i ++ List.replicate (n - i) false) (i / 8)) (IntKind.u8.wrap (1 * 2 ^ min (7 - i % 8) IntKind.u8.bits)) = setB (packB (bs.take i ++ List.replicate (n - i) false) (i / 8)) (i % 8) true := by
          refine pv_or _ (by simp; omega) (by omega) ?_
          rw [List.getElem?_take, if_pos (by omega), List.getElem?_drop, show 8 * (i / 8) + i % 8 = i by omega]
          exact hget0
        obtain ⟨cur, c1, c2, c3⟩ := hN.set hi8 (.int .u8 (setB (packB (bs.take i ++ List.replicate (n - i) false) (i / 8)) (i % 8) true))
        simp only [vcCore, yieldT, Int.reduceEq, Int.reduceLT, Int.reduceLE, Int.reduceNe, not_true_eq_false, decide_true, decide_false, add_lit', Nat.zero_add, Nat.mul_one, Int.toNat_natCast, List.getElem?_toArray, List.getElem?_cons_zero, List.getElem?_cons_succ, Option.bind_some, List.map_cons, List.map_nil, List.map_toArray, Array.append_empty, Array.empty_append, List.append_nil, List.nil_append, List.append_toArray, ↓reduceIte, Nat.reduceEqDiff, Nat.reduceAdd, Nat.reduceLeDiff, List.contains_cons, List.contains_nil, Nat.reduceBEq, Bool.or_false, Bool.false_or, Bool.or_true, Bool.true_or, Bool.false_eq_true, Value.cells, List.size_toArray, List.length_cons, List.length_nil, Option.map_some, Option.map_none, Option.isSome_some, Option.isSome_none, Option.isNone_some, Option.isNone_none, true_and, and_true, ne_eq, reduceCtorEq, not_false_eq_true, Bool.not_true, Bool.not_false, tyAllRW02d, then_normal, h4, h15, h16, h17, hlt', hcell2, e3, e5, e6, e7, hi8', hor, c1, c2]
        refine ⟨n - (i + 1), by omega, i + 1, by omega, rfl, h4, h15, h16, rfl, ?_⟩
        rw [hps]
        rw [u8_set] at c3
        exact c3
    · have hlt' : ¬ (i : Int) < (n : Int) := by omega
      simp only [vcCore, yieldT, Int.reduceEq, Int.reduceLT, Int.reduceLE, Int.reduceNe, not_true_eq_false, decide_true, decide_false, add_lit', Nat.zero_add, Nat.mul_one, Int.toNat_natCast, List.getElem?_toArray, List.getElem?_cons_zero, List.getElem?_cons_succ, Option.bind_some, List.map_cons, List.map_nil, List.map_toArray, Array.append_empty, Array.empty_append, List.append_nil, List.nil_append, List.append_toArray, ↓reduceIte, Nat.reduceEqDiff, Nat.reduceAdd, Nat.reduceLeDiff, List.contains_cons, List.contains_nil, Nat.reduceBEq, Bool.or_false, Bool.false_or, Bool.or_true, Bool.true_or, Bool.false_eq_true, Value.cells, List.size_toArray, List.length_cons, List.length_nil, Option.map_some, Option.map_none, Option.isSome_some, Option.isSome_none, Option.isNone_some, Option.isNone_none, true_and, and_true, ne_eq, reduceCtorEq, not_false_eq_true, Bool.not_true, Bool.not_false, tyAllRW02d, then_normal, h4, h15, h16, h17, hlt']
      refine h hm _ m' ?_
      have : i = n := by omega
      subst this
      rw [List.take_of_length_le (by omega), Nat.sub_self] at hN
      simpa using hN
  · have e0 : (((n % 8 : Nat) : Int) != 0) = true := by
      have : ((n % 8 : Nat) : Int) ≠ 0 := by omega
      simpa using this
    simp only [Try.f84, Option.getD_some, vcCore, yieldT, Int.reduceEq, Int.reduceLT, Int.reduceLE, Int.reduceNe, not_true_eq_false, decide_true, decide_false, add_lit', Nat.zero_add, Nat.mul_one, Int.toNat_natCast, List.getElem?_toArray, List.getElem?_cons_zero, List.getElem?_cons_succ, Option.bind_some, List.map_cons, List.map_nil, List.map_toArray, Array.append_empty, Array.empty_append, List.append_nil, List.nil_append, List.append_toArray, ↓reduceIte, Nat.reduceEqDiff, Nat.reduceAdd, Nat.reduceLeDiff, List.contains_cons, List.contains_nil, Nat.reduceBEq, Bool.or_false, Bool.false_or, Bool.or_true, Bool.true_or, Bool.false_eq_true, Value.cells, List.size_toArray, List.length_cons, List.length_nil, Option.map_some, Option.map_none, Option.isSome_some, Option.isSome_none, Option.isNone_some, Option.isNone_none, true_and, and_true, ne_eq, reduceCtorEq, not_false_eq_true, Bool.not_true, Bool.not_false, tyAllRW02d, then_normal, hmd, hd, e0]
    exact h1 hm
end
end Go.Proofs.Ytdoeioljkbjabaa.R
