/- The plan's layer, over the logic of partial memories. No conditions. -/
import Derived.Test.YtapppaccnkojkaaSSerialWholeRT
import Derived.Test.YtapppaccnkojkaaRLib2
set_option linter.unusedVariables false
set_option linter.unusedSimpArgs false
namespace Go.Proofs.Ytapppaccnkojkaa.R
open Go Go.RowKit Go.Proofs.Ytapppaccnkojkaa
set_option maxRecDepth 100000
set_option maxHeartbeats 8000000
theorem tyAllRW07 : type_of% (And.intro (And.intro (And.intro (And.intro ty_1 ty_2) (And.intro ty_3 (And.intro ty_4 ty_5))) (And.intro (And.intro ty_6 (And.intro ty_7 ty_8)) (And.intro ty_9 (And.intro ty_10 ty_11)))) (And.intro (And.intro (And.intro ty_12 ty_23) (And.intro ty_97 (And.intro ty_98 ty_110))) (And.intro (And.intro ty_145 (And.intro ty_148 ty_149)) (And.intro ty_150 (And.intro ty_151 ty_152))))) := (And.intro (And.intro (And.intro (And.intro ty_1 ty_2) (And.intro ty_3 (And.intro ty_4 ty_5))) (And.intro (And.intro ty_6 (And.intro ty_7 ty_8)) (And.intro ty_9 (And.intro ty_10 ty_11)))) (And.intro (And.intro (And.intro ty_12 ty_23) (And.intro ty_97 (And.intro ty_98 ty_110))) (And.intro (And.intro ty_145 (And.intro ty_148 ty_149)) (And.intro ty_150 (And.intro ty_151 ty_152)))))
section
variable {W0 : World}
structure SlotV where
  kind : Int
  start : Int
  long : Int
  words : Int
  addr : Int
  many : Int
  cand : Int
  take : Bool
def SlotV.arr (s : SlotV) : Array Value := #[.int .i64 s.kind, .int .i64 s.start, .int .i64 s.long, .int .i64 s.words, .int .i64 s.addr, .int .i64 s.many, .int .i64 s.cand, .bool s.take]
abbrev SlotV.v (s : SlotV) : Value := .agg #[.int .i64 s.kind, .int .i64 s.start, .int .i64 s.long, .int .i64 s.words, .int .i64 s.addr, .int .i64 s.many, .int .i64 s.cand, .bool s.take]
def SlotV.begin (s : SlotV) (c : Int) : Int := if s.kind = 0 ∧ 0 ≤ c ∧ c < max s.many 1 then IntKind.i64.wrap (IntKind.i64.wrap (2 + IntKind.i64.wrap (4 * c)) * 20) else 0
theorem plan_Begin {m : Mem} {K : Value → Mem → Prop} {s : SlotV} {c : Int} (h : ∀ m', Ext m m' → K (.int .i64 (s.begin c)) m') : CallA Try.prog W0 110 #[s.v, .int .i64 c] m K := by
  refine en_110 (l := [s.v, .int .i64 c]) (by simp [Try.ntmps110]) ?_
  simp (maxSteps := 2000000) only [Try.f110, Option.getD_some, vcCore, yieldT, Int.reduceEq, Int.reduceLT, Int.reduceLE, Int.reduceNe, not_true_eq_false, decide_true, decide_false, add_lit', Nat.zero_add, Nat.mul_one, Int.toNat_natCast, List.getElem?_toArray, List.getElem?_cons_zero, List.getElem?_cons_succ, Option.bind_some, List.map_cons, List.map_nil, List.map_toArray, Array.append_empty, Array.empty_append, List.append_nil, List.nil_append, List.append_toArray, ↓reduceIte, Nat.reduceEqDiff, Nat.reduceAdd, Nat.reduceLeDiff, List.contains_cons, List.contains_nil, Nat.reduceBEq, Bool.or_false, Bool.false_or, Bool.or_true, Bool.true_or, Bool.false_eq_true, Value.cells, List.size_toArray, List.length_cons, List.length_nil, Option.map_some, Option.map_none, Option.isSome_some, Option.isSome_none, Option.isNone_some, Option.isNone_none, true_and, and_true, ne_eq, reduceCtorEq, not_false_eq_true, Bool.not_true, Bool.not_false, tyAllRW07, then_normal, SlotV.v]
  intro b hb
  rw [show (Obj.cells #[.int .i64 s.kind, .int .i64 s.start, .int .i64 s.long, .int .i64 s.words, .int .i64 s.addr, .int .i64 s.many, .int .i64 s.cand, .bool s.take] 98) = .cells s.arr 98 from rfl]
  have hx := Ext.fresh hb (.cells s.arr 98)
  have o : (m.set b (.cells s.arr 98)) b = some (.cells #[.int .i64 s.kind, .int .i64 s.start, .int .i64 s.long, .int .i64 s.words, .int .i64 s.addr, .int .i64 s.many, .int .i64 s.cand, .bool s.take] 98) := Mem.set_same _ _ _
  have hend := h _ hx
  generalize m.set b (.cells s.arr 98) = m1 at o hend
  unfold SlotV.begin at hend
  by_cases hk : s.kind = 0
  · by_cases h0 : c < 0
    · rw [if_neg (by omega)] at hend
      simp (maxSteps := 2000000) only [vcCore, yieldT, Int.reduceEq, Int.reduceLT, Int.reduceLE, Int.reduceNe, not_true_eq_false, decide_true, decide_false, add_lit', Nat.zero_add, Nat.mul_one, Int.toNat_natCast, List.getElem?_toArray, List.getElem?_cons_zero, List.getElem?_cons_succ, Option.bind_some, List.map_cons, List.map_nil, List.map_toArray, Array.append_empty, Array.empty_append, List.append_nil, List.nil_append, List.append_toArray, ↓reduceIte, Nat.reduceEqDiff, Nat.reduceAdd, Nat.reduceLeDiff, List.contains_cons, List.contains_nil, Nat.reduceBEq, Bool.or_false, Bool.false_or, Bool.or_true, Bool.true_or, Bool.false_eq_true, Value.cells, List.size_toArray, List.length_cons, List.length_nil, Option.map_some, Option.map_none, Option.isSome_some, Option.isSome_none, Option.isNone_some, Option.isNone_none, true_and, and_true, ne_eq, reduceCtorEq, not_false_eq_true, Bool.not_true, Bool.not_false, tyAllRW07, then_normal, cellA_blk hb.le o, hk, h0, Int.cast_ofNat_Int, BEq.rfl, bne_self_eq_false, beq_self_eq_true, Bool.and_true, Bool.true_and, Bool.and_false, Bool.false_and, Int.reduceBEq, Int.reduceBNe, Nat.reduceMul, Nat.reduceDiv, Int.reduceToNat, Int.reduceNeg, Int.reduceAdd, Int.reduceSub, Int.reduceMul]
      exact hend
    · have hmax : (if (1 : Int) > s.many then (1 : Int) else s.many) = max s.many 1 := by split <;> omega
      by_cases h1 : max s.many 1 ≤ c
      · rw [if_neg (by omega)] at hend
        simp (maxSteps := 2000000) only [vcCore, yieldT, Int.reduceEq, Int.reduceLT, Int.reduceLE, Int.reduceNe, not_true_eq_false, decide_true, decide_false, add_lit', Nat.zero_add, Nat.mul_one, Int.toNat_natCast, List.getElem?_toArray, List.getElem?_cons_zero, List.getElem?_cons_succ, Option.bind_some, List.map_cons, List.map_nil, List.map_toArray, Array.append_empty, Array.empty_append, List.append_nil, List.nil_append, List.append_toArray, ↓reduceIte, Nat.reduceEqDiff, Nat.reduceAdd, Nat.reduceLeDiff, List.contains_cons, List.contains_nil, Nat.reduceBEq, Bool.or_false, Bool.false_or, Bool.or_true, Bool.true_or, Bool.false_eq_true, Value.cells, List.size_toArray, List.length_cons, List.length_nil, Option.map_some, Option.map_none, Option.isSome_some, Option.isSome_none, Option.isNone_some, Option.isNone_none, true_and, and_true, ne_eq, reduceCtorEq, not_false_eq_true, Bool.not_true, Bool.not_false, tyAllRW07, then_normal, cellA_blk hb.le o, hk, h0, Int.cast_ofNat_Int, BEq.rfl, bne_self_eq_false, beq_self_eq_true, Bool.and_true, Bool.true_and, Bool.and_false, Bool.false_and, Int.reduceBEq, Int.reduceBNe, Nat.reduceMul, Nat.reduceDiv, Int.reduceToNat, Int.reduceNeg, Int.reduceAdd, Int.reduceSub, Int.reduceMul, hmax, h1]
        exact hend
      · rw [if_pos (by omega)] at hend
        simp (maxSteps := 2000000) only [vcCore, yieldT, Int.reduceEq, Int.reduceLT, Int.reduceLE, Int.reduceNe, not_true_eq_false, decide_true, decide_false, add_lit', Nat.zero_add, Nat.mul_one, Int.toNat_natCast, List.getElem?_toArray, List.getElem?_cons_zero, List.getElem?_cons_succ, Option.bind_some, List.map_cons, List.map_nil, List.map_toArray, Array.append_empty, Array.empty_append, List.append_nil, List.nil_append, List.append_toArray, ↓reduceIte, Nat.reduceEqDiff, Nat.reduceAdd, Nat.reduceLeDiff, List.contains_cons, List.contains_nil, Nat.reduceBEq, Bool.or_false, Bool.false_or, Bool.or_true, Bool.true_or, Bool.false_eq_true, Value.cells, List.size_toArray, List.length_cons, List.length_nil, Option.map_some, Option.map_none, Option.isSome_some, Option.isSome_none, Option.isNone_some, Option.isNone_none, true_and, and_true, ne_eq, reduceCtorEq, not_false_eq_true, Bool.not_true, Bool.not_false, tyAllRW07, then_normal, cellA_blk hb.le o, hk, h0, Int.cast_ofNat_Int, BEq.rfl, bne_self_eq_false, beq_self_eq_true, Bool.and_true, Bool.true_and, Bool.and_false, Bool.false_and, Int.reduceBEq, Int.reduceBNe, Nat.reduceMul, Nat.reduceDiv, Int.reduceToNat, Int.reduceNeg, Int.reduceAdd, Int.reduceSub, Int.reduceMul, hmax, h1]
        exact hend
  · have hk' : (s.kind != 0) = true := by rw [bne_iff_ne]; exact hk
    rw [if_neg (by omega)] at hend
    simp (maxSteps := 2000000) only [vcCore, yieldT, Int.reduceEq, Int.reduceLT, Int.reduceLE, Int.reduceNe, not_true_eq_false, decide_true, decide_false, add_lit', Nat.zero_add, Nat.mul_one, Int.toNat_natCast, List.getElem?_toArray, List.getElem?_cons_zero, List.getElem?_cons_succ, Option.bind_some, List.map_cons, List.map_nil, List.map_toArray, Array.append_empty, Array.empty_append, List.append_nil, List.nil_append, List.append_toArray, ↓reduceIte, Nat.reduceEqDiff, Nat.reduceAdd, Nat.reduceLeDiff, List.contains_cons, List.contains_nil, Nat.reduceBEq, Bool.or_false, Bool.false_or, Bool.or_true, Bool.true_or, Bool.false_eq_true, Value.cells, List.size_toArray, List.length_cons, List.length_nil, Option.map_some, Option.map_none, Option.isSome_some, Option.isSome_none, Option.isNone_some, Option.isNone_none, true_and, and_true, ne_eq, reduceCtorEq, not_false_eq_true, Bool.not_true, Bool.not_false, tyAllRW07, then_normal, cellA_blk hb.le o, hk', Int.cast_ofNat_Int, BEq.rfl, bne_self_eq_false, beq_self_eq_true, Bool.and_true, Bool.true_and, Bool.and_false, Bool.false_and, Int.reduceBEq, Int.reduceBNe, Nat.reduceMul, Nat.reduceDiv, Int.reduceToNat, Int.reduceNeg, Int.reduceAdd, Int.reduceSub, Int.reduceMul]
    exact hend
end
end Go.Proofs.Ytapppaccnkojkaa.R
