/- The wires' layer, over the logic of partial memories. No conditions. -/
import Derived.Test.YtapppaccnkojkaaSMajorReadsRT
import Derived.Test.YtapppaccnkojkaaRLib2
set_option linter.unusedVariables false
set_option linter.unusedSimpArgs false
namespace Go.Proofs.Ytapppaccnkojkaa.R
open Go Go.RowKit Go.Proofs.Ytapppaccnkojkaa
set_option maxRecDepth 100000
set_option maxHeartbeats 8000000
theorem tyAllRW03 : type_of% (And.intro (And.intro (And.intro (And.intro (And.intro ty_1 ty_2) (And.intro ty_3 (And.intro ty_4 ty_5))) (And.intro (And.intro ty_6 (And.intro ty_7 ty_8)) (And.intro ty_9 (And.intro ty_12 ty_13)))) (And.intro (And.intro (And.intro ty_14 (And.intro ty_21 ty_24)) (And.intro ty_25 (And.intro ty_26 ty_27))) (And.intro (And.intro ty_28 (And.intro ty_35 ty_38)) (And.intro ty_43 (And.intro ty_48 ty_53))))) (And.intro (And.intro (And.intro (And.intro ty_61 ty_62) (And.intro ty_63 (And.intro ty_64 ty_67))) (And.intro (And.intro ty_68 (And.intro ty_71 ty_72)) (And.intro ty_73 (And.intro ty_76 ty_85)))) (And.intro (And.intro (And.intro ty_86 (And.intro ty_87 ty_93)) (And.intro ty_94 (And.intro ty_100 ty_101))) (And.intro (And.intro ty_102 (And.intro ty_103 ty_121)) (And.intro ty_124 (And.intro ty_171 ty_172)))))) := (And.intro (And.intro (And.intro (And.intro (And.intro ty_1 ty_2) (And.intro ty_3 (And.intro ty_4 ty_5))) (And.intro (And.intro ty_6 (And.intro ty_7 ty_8)) (And.intro ty_9 (And.intro ty_12 ty_13)))) (And.intro (And.intro (And.intro ty_14 (And.intro ty_21 ty_24)) (And.intro ty_25 (And.intro ty_26 ty_27))) (And.intro (And.intro ty_28 (And.intro ty_35 ty_38)) (And.intro ty_43 (And.intro ty_48 ty_53))))) (And.intro (And.intro (And.intro (And.intro ty_61 ty_62) (And.intro ty_63 (And.intro ty_64 ty_67))) (And.intro (And.intro ty_68 (And.intro ty_71 ty_72)) (And.intro ty_73 (And.intro ty_76 ty_85)))) (And.intro (And.intro (And.intro ty_86 (And.intro ty_87 ty_93)) (And.intro ty_94 (And.intro ty_100 ty_101))) (And.intro (And.intro ty_102 (And.intro ty_103 ty_121)) (And.intro ty_124 (And.intro ty_171 ty_172))))))
section
variable {W0 : World}
def isL (n : Int) : Bool := decide (0 ≤ n) && decide (n ≤ 3)
def hiL (l n : Int) : Bool := isL n && (l / 2 ^ n.toNat) % 2 == 1
theorem isL_cases {n : Int} (h : isL n = true) : n = 0 ∨ n = 1 ∨ n = 2 ∨ n = 3 := by unfold isL at h; simp at h; omega
theorem wires_is {m : Mem} {K : Value → Mem → Prop} {n : Int} (h : K (.bool (isL n)) m) : CallA Try.prog W0 103 #[.int .i64 n] m K := by
  refine en_103 (l := [.int .i64 n]) (by simp [Try.ntmps103]) ?_
  by_cases h0 : 0 ≤ n
  · by_cases h1 : n ≤ 3 <;> simp (maxSteps := 2000000) only [Try.f103, Option.getD_some, vcCore, yieldT, Int.reduceEq, Int.reduceLT, Int.reduceLE, Int.reduceNe, not_true_eq_false, decide_true, decide_false, add_lit', Nat.zero_add, Nat.mul_one, Int.toNat_natCast, List.getElem?_toArray, List.getElem?_cons_zero, List.getElem?_cons_succ, Option.bind_some, List.map_cons, List.map_nil, List.map_toArray, Array.append_empty, Array.empty_append, List.append_nil, List.nil_append, List.append_toArray, ↓reduceIte, Nat.reduceEqDiff, Nat.reduceAdd, Nat.reduceLeDiff, List.contains_cons, List.contains_nil, Nat.reduceBEq, Bool.or_false, Bool.false_or, Bool.or_true, Bool.true_or, Bool.false_eq_true, Value.cells, List.size_toArray, List.length_cons, List.length_nil, Option.map_some, Option.map_none, Option.isSome_some, Option.isSome_none, Option.isNone_some, Option.isNone_none, true_and, and_true, ne_eq, reduceCtorEq, not_false_eq_true, Bool.not_true, Bool.not_false, tyAllRW03, then_normal, h0, h1]
    · have : isL n = true := by simp [isL, h0, h1]
      rw [this] at h; exact h
    · have : isL n = false := by simp [isL, h0, h1]
      rw [this] at h; exact h
  · simp (maxSteps := 2000000) only [Try.f103, Option.getD_some, vcCore, yieldT, Int.reduceEq, Int.reduceLT, Int.reduceLE, Int.reduceNe, not_true_eq_false, decide_true, decide_false, add_lit', Nat.zero_add, Nat.mul_one, Int.toNat_natCast, List.getElem?_toArray, List.getElem?_cons_zero, List.getElem?_cons_succ, Option.bind_some, List.map_cons, List.map_nil, List.map_toArray, Array.append_empty, Array.empty_append, List.append_nil, List.nil_append, List.append_toArray, ↓reduceIte, Nat.reduceEqDiff, Nat.reduceAdd, Nat.reduceLeDiff, List.contains_cons, List.contains_nil, Nat.reduceBEq, Bool.or_false, Bool.false_or, Bool.or_true, Bool.true_or, Bool.false_eq_true, Value.cells, List.size_toArray, List.length_cons, List.length_nil, Option.map_some, Option.map_none, Option.isSome_some, Option.isSome_none, Option.isNone_some, Option.isNone_none, true_and, and_true, ne_eq, reduceCtorEq, not_false_eq_true, Bool.not_true, Bool.not_false, tyAllRW03, then_normal, h0]
    have : isL n = false := by simp [isL, h0]
    rw [this] at h; exact h
theorem wires_High {m : Mem} {K : Value → Mem → Prop} {l n : Int} (hl : 0 ≤ l ∧ l < 256) (h : K (.bool (hiL l n)) m) : CallA Try.prog W0 43 #[.int .u8 l, .int .i64 n] m K := by
  refine en_43 (l := [.int .u8 l, .int .i64 n]) (by simp [Try.ntmps43]) ?_
  simp (maxSteps := 2000000) only [Try.f43, Option.getD_some, vcCore, yieldT, Int.reduceEq, Int.reduceLT, Int.reduceLE, Int.reduceNe, not_true_eq_false, decide_true, decide_false, add_lit', Nat.zero_add, Nat.mul_one, Int.toNat_natCast, List.getElem?_toArray, List.getElem?_cons_zero, List.getElem?_cons_succ, Option.bind_some, List.map_cons, List.map_nil, List.map_toArray, Array.append_empty, Array.empty_append, List.append_nil, List.nil_append, List.append_toArray, ↓reduceIte, Nat.reduceEqDiff, Nat.reduceAdd, Nat.reduceLeDiff, List.contains_cons, List.contains_nil, Nat.reduceBEq, Bool.or_false, Bool.false_or, Bool.or_true, Bool.true_or, Bool.false_eq_true, Value.cells, List.size_toArray, List.length_cons, List.length_nil, Option.map_some, Option.map_none, Option.isSome_some, Option.isSome_none, Option.isNone_some, Option.isNone_none, true_and, and_true, ne_eq, reduceCtorEq, not_false_eq_true, Bool.not_true, Bool.not_false, tyAllRW03, then_normal]
  refine wires_is ?_
  unfold hiL at h
  cases hn : isL n <;> rw [hn] at h
  · simp (maxSteps := 2000000) only [vcCore, yieldT, Int.reduceEq, Int.reduceLT, Int.reduceLE, Int.reduceNe, not_true_eq_false, decide_true, decide_false, add_lit', Nat.zero_add, Nat.mul_one, Int.toNat_natCast, List.getElem?_toArray, List.getElem?_cons_zero, List.getElem?_cons_succ, Option.bind_some, List.map_cons, List.map_nil, List.map_toArray, Array.append_empty, Array.empty_append, List.append_nil, List.nil_append, List.append_toArray, ↓reduceIte, Nat.reduceEqDiff, Nat.reduceAdd, Nat.reduceLeDiff, List.contains_cons, List.contains_nil, Nat.reduceBEq, Bool.or_false, Bool.false_or, Bool.or_true, Bool.true_or, Bool.false_eq_true, Value.cells, List.size_toArray, List.length_cons, List.length_nil, Option.map_some, Option.map_none, Option.isSome_some, Option.isSome_none, Option.isNone_some, Option.isNone_none, true_and, and_true, ne_eq, reduceCtorEq, not_false_eq_true, Bool.not_true, Bool.not_false, tyAllRW03, then_normal]
    exact h
  · simp (maxSteps := 2000000) only [vcCore, yieldT, Int.reduceEq, Int.reduceLT, Int.reduceLE, Int.reduceNe, not_true_eq_false, decide_true, decide_false, add_lit', Nat.zero_add, Nat.mul_one, Int.toNat_natCast, List.getElem?_toArray, List.getElem?_cons_zero, List.getElem?_cons_succ, Option.bind_some, List.map_cons, List.map_nil, List.map_toArray, Array.append_empty, Array.empty_append, List.append_nil, List.nil_append, List.append_toArray, ↓reduceIte, Nat.reduceEqDiff, Nat.reduceAdd, Nat.reduceLeDiff, List.contains_cons, List.contains_nil, Nat.reduceBEq, Bool.or_false, Bool.false_or, Bool.or_true, Bool.true_or, Bool.false_eq_true, Value.cells, List.size_toArray, List.length_cons, List.length_nil, Option.map_some, Option.map_none, Option.isSome_some, Option.isSome_none, Option.isNone_some, Option.isNone_none, true_and, and_true, ne_eq, reduceCtorEq, not_false_eq_true, Bool.not_true, Bool.not_false, tyAllRW03, then_normal]
    have hb : 0 ≤ n ∧ n ≤ 3 := by unfold isL at hn; simpa using hn
    refine ⟨hb.1, ?_⟩
    have e2 : min n.toNat (IntKind.bits .u8) = n.toNat := by simp [IntKind.bits]; omega
    have hd : 0 ≤ l / 2 ^ n.toNat := Int.ediv_nonneg hl.1 (Int.pow_nonneg (by decide))
    have hd2 : l / 2 ^ n.toNat < 256 := by have := Int.ediv_le_self (2 ^ n.toNat) hl.1; omega
    rw [e2, fdiv_pos (Int.pow_nonneg (by decide)), and_one hd hd2]
    exact h
end
end Go.Proofs.Ytapppaccnkojkaa.R
