/- The document's answer of layer 15, and what a shift that was told the same looks has of it. No conditions. -/
import Derived.Test.YtapppaccnkojkaaSShiftSentRW15h
import Derived.Test.YtapppaccnkojkaaRMap
import Derived.Test.YtapppaccnkojkaaRApp
import Derived.Test.YtapppaccnkojkaaREq
import Derived.DeepKeys3
import Derived.Test.YtapppaccnkojkaaSShiftSentRT
import Derived.Test.YtapppaccnkojkaaRLib2
import Derived.Test.YtapppaccnkojkaaSShiftSentRW03
import Derived.Test.YtapppaccnkojkaaRAuto
import Derived.Test.YtapppaccnkojkaaROpen
set_option linter.unusedVariables false
set_option linter.unusedSimpArgs false
namespace Go.Proofs.Ytapppaccnkojkaa.R
open Go Go.RowKit Go.Proofs.Ytapppaccnkojkaa
set_option maxRecDepth 100000
set_option maxHeartbeats 8000000
section
variable {W0 : World}
/-- What a line says of lines that stand so. -/
def sayL (l line : Int) : Bool := hiL l line == (line == 0 || line == 3)
theorem putL_in {ls : List (Lk × Lk)} {q : Nat} {l : Int} {sec : Bool} {x y : Lk} (hx : ls[q]? = some (x, y)) : putL ls q sec l = ls.set q (if sec then (x, sayLk l) else (sayLk l, y)) := by
  unfold putL; rw [if_neg (by omega), Int.toNat_natCast, hx]
theorem say_at {l line : Int} (h : 0 ≤ line ∧ line ≤ 3) : (sayLk l).at line = sayL l line := by
  rcases (by omega : line = 0 ∨ line = 1 ∨ line = 2 ∨ line = 3) with rfl | rfl | rfl | rfl
  · show s0 l = (hiL l 0 == true); unfold s0; cases hiL l 0 <;> rfl
  · show s1 l = (hiL l 1 == false); unfold s1; cases hiL l 1 <;> rfl
  · show s2 l = (hiL l 2 == false); unfold s2; cases hiL l 2 <;> rfl
  · show s3 l = (hiL l 3 == true); unfold s3; cases hiL l 3 <;> rfl
end
end Go.Proofs.Ytapppaccnkojkaa.R
/- Looks that are counted by a map, and one shift for all looks. No conditions. -/
set_option linter.unusedVariables false
set_option linter.unusedSimpArgs false
namespace Go.Proofs.Ytapppaccnkojkaa.R
open Go Go.RowKit Go.Proofs.Ytapppaccnkojkaa
set_option maxRecDepth 100000
set_option maxHeartbeats 8000000
section
variable {W0 : World}
theorem Shf.keep {m m' : Mem} {b g : Nat} {ls : List (Lk × Lk)} (s : Shf W0 m b g ls) {r : Option Nat} (k : Keep m m' r) (h1 : r ≠ some b) (h2 : r ≠ some g) : Shf W0 m' b g ls := ⟨s.low, k _ _ s.blk h1, s.glow, k _ _ s.gblk h2, s.ne, s.le⟩
end
end Go.Proofs.Ytapppaccnkojkaa.R
/- The plan's layer, over the logic of partial memories. No conditions. -/
set_option linter.unusedVariables false
set_option linter.unusedSimpArgs false
namespace Go.Proofs.Ytapppaccnkojkaa.R
open Go Go.RowKit Go.Proofs.Ytapppaccnkojkaa
set_option maxRecDepth 100000
set_option maxHeartbeats 8000000
theorem tyAllRW07 : type_of% (And.intro (And.intro (And.intro (And.intro ty_1 ty_2) (And.intro ty_3 (And.intro ty_4 ty_5))) (And.intro (And.intro ty_6 (And.intro ty_7 ty_8)) (And.intro ty_9 (And.intro ty_10 ty_11)))) (And.intro (And.intro (And.intro ty_12 ty_23) (And.intro ty_97 (And.intro ty_98 ty_110))) (And.intro (And.intro ty_145 (And.intro ty_148 ty_149)) (And.intro ty_150 (And.intro ty_151 ty_152))))) := (And.intro (And.intro (And.intro (And.intro ty_1 ty_2) (And.intro ty_3 (And.intro ty_4 ty_5))) (And.intro (And.intro ty_6 (And.intro ty_7 ty_8)) (And.intro ty_9 (And.intro ty_10 ty_11)))) (And.intro (And.intro (And.intro ty_12 ty_23) (And.intro ty_97 (And.intro ty_98 ty_110))) (And.intro (And.intro ty_145 (And.intro ty_148 ty_149)) (And.intro ty_150 (And.intro ty_151 ty_152)))))
section
variable {W0 : World}
structure SlotV where
  kind : Int
  start : Int
  long : Int
  words : Int
  addr : Int
  many : Int
  cand : Int
  take : Bool
def SlotV.arr (s : SlotV) : Array Value := #[.int .i64 s.kind, .int .i64 s.start, .int .i64 s.long, .int .i64 s.words, .int .i64 s.addr, .int .i64 s.many, .int .i64 s.cand, .bool s.take]
abbrev SlotV.v (s : SlotV) : Value := .agg #[.int .i64 s.kind, .int .i64 s.start, .int .i64 s.long, .int .i64 s.words, .int .i64 s.addr, .int .i64 s.many, .int .i64 s.cand, .bool s.take]
def SlotV.begin (s : SlotV) (c : Int) : Int := if s.kind = 0 ∧ 0 ≤ c ∧ c < max s.many 1 then IntKind.i64.wrap (IntKind.i64.wrap (2 + IntKind.i64.wrap (4 * c)) * 20) else 0
theorem plan_Begin {m : Mem} {K : Value → Mem → Prop} {s : SlotV} {c : Int} (h : ∀ m', Ext m m' → K (.int .i64 (s.begin c)) m') : CallA Try.prog W0 110 #[s.v, .int .i64 c] m K := by
  refine en_110 (l := [s.v, .int .i64 c]) (by simp [Try.ntmps110]) ?_
  simp (maxSteps := 2000000) only [Try.f110, Option.getD_some, vcCore, yieldT, Int.reduceEq, Int.reduceLT, Int.reduceLE, Int.reduceNe, not_true_eq_false, decide_true, decide_false, add_lit', Nat.zero_add, Nat.mul_one, Int.toNat_natCast, List.getElem?_toArray, List.getElem?_cons_zero, List.getElem?_cons_succ, Option.bind_some, List.map_cons, List.map_nil, List.map_toArray, Array.append_empty, Array.empty_append, List.append_nil, List.nil_append, List.append_toArray, ↓reduceIte, Nat.reduceEqDiff, Nat.reduceAdd, Nat.reduceLeDiff, List.contains_cons, List.contains_nil, Nat.reduceBEq, Bool.or_false, Bool.false_or, Bool.or_true, Bool.true_or, Bool.false_eq_true, Value.cells, List.size_toArray, List.length_cons, List.length_nil, Option.map_some, Option.map_none, Option.isSome_some, Option.isSome_none, Option.isNone_some, Option.isNone_none, true_and, and_true, ne_eq, reduceCtorEq, not_false_eq_true, Bool.not_true, Bool.not_false, tyAllRW07, then_normal, SlotV.v]
  intro b hb
  rw [show (Obj.cells #[.int .i64 s.kind, .int .i64 s.start, .int .i64 s.long, .int .i64 s.words, .int .i64 s.addr, .int .i64 s.many, .int .i64 s.cand, .bool s.take] 98) = .cells s.arr 98 from rfl]
  have hx := Ext.fresh hb (.cells s.arr 98)
  have o : (m.set b (.cells s.arr 98)) b = some (.cells #[.int .i64 s.kind, .int .i64 s.start, .int .i64 s.long, .int .i64 s.words, .int .i64 s.addr, .int .i64 s.many, .int .i64 s.cand, .bool s.take] 98) := Mem.set_same _ _ _
  have hend := h _ hx
  generalize m.set b (.cells s.arr 98) = m1 at o hend
  unfold SlotV.begin at hend
  by_cases hk : s.kind = 0
  · by_cases h0 : c < 0
    · rw [if_neg (by omega)] at hend
      simp (maxSteps := 2000000) only [vcCore, yieldT, Int.reduceEq, Int.reduceLT, Int.reduceLE, Int.reduceNe, not_true_eq_false, decide_true, decide_false, add_lit', Nat.zero_add, Nat.mul_one, Int.toNat_natCast, List.getElem?_toArray, List.getElem?_cons_zero, List.getElem?_cons_succ, Option.bind_some, List.map_cons, List.map_nil, List.map_toArray, Array.append_empty, Array.empty_append, List.append_nil, List.nil_append, List.append_toArray, ↓reduceIte, Nat.reduceEqDiff, Nat.reduceAdd, Nat.reduceLeDiff, List.contains_cons, List.contains_nil, Nat.reduceBEq, Bool.or_false, Bool.false_or, Bool.or_true, Bool.true_or, Bool.false_eq_true, Value.cells, List.size_toArray, List.length_cons, List.length_nil, Option.map_some, Option.map_none, Option.isSome_some, Option.isSome_none, Option.isNone_some, Option.isNone_none, true_and, and_true, ne_eq, reduceCtorEq, not_false_eq_true, Bool.not_true, Bool.not_false, tyAllRW07, then_normal, cellA_blk hb.le o, hk, h0, Int.cast_ofNat_Int, BEq.rfl, bne_self_eq_false, beq_self_eq_true, Bool.and_true, Bool.true_and, Bool.and_false, Bool.false_and, Int.reduceBEq, Int.reduceBNe, Nat.reduceMul, Nat.reduceDiv, Int.reduceToNat, Int.reduceNeg, Int.reduceAdd, Int.reduceSub, Int.reduceMul]
      exact hend
    · have hmax : (if (1 : Int) > s.many then (1 : Int) else s.many) = max s.many 1 := by split <;> omega
      by_cases h1 : max s.many 1 ≤ c
      · rw [if_neg (by omega)] at hend
        simp (maxSteps := 2000000) only [vcCore, yieldT, Int.reduceEq, Int.reduceLT, Int.reduceLE, Int.reduceNe, not_true_eq_false, decide_true, decide_false, add_lit', Nat.zero_add, Nat.mul_one, Int.toNat_natCast, List.getElem?_toArray, List.getElem?_cons_zero, List.getElem?_cons_succ, Option.bind_some, List.map_cons, List.map_nil, List.map_toArray, Array.append_empty, Array.empty_append, List.append_nil, List.nil_append, List.append_toArray, ↓reduceIte, Nat.reduceEqDiff, Nat.reduceAdd, Nat.reduceLeDiff, List.contains_cons, List.contains_nil, Nat.reduceBEq, Bool.or_false, Bool.false_or, Bool.or_true, Bool.true_or, Bool.false_eq_true, Value.cells, List.size_toArray, List.length_cons, List.length_nil, Option.map_some, Option.map_none, Option.isSome_some, Option.isSome_none, Option.isNone_some, Option.isNone_none, true_and, and_true, ne_eq, reduceCtorEq, not_false_eq_true, Bool.not_true, Bool.not_false, tyAllRW07, then_normal, cellA_blk hb.le o, hk, h0, Int.cast_ofNat_Int, BEq.rfl, bne_self_eq_false, beq_self_eq_true, Bool.and_true, Bool.true_and, Bool.and_false, Bool.false_and, Int.reduceBEq, Int.reduceBNe, Nat.reduceMul, Nat.reduceDiv, Int.reduceToNat, Int.reduceNeg, Int.reduceAdd, Int.reduceSub, Int.reduceMul, hmax, h1]
        exact hend
      · rw [if_pos (by omega)] at hend
        simp (maxSteps := 2000000) only [vcCore, yieldT, Int.reduceEq, Int.reduceLT, Int.reduceLE, Int.reduceNe, not_true_eq_false, decide_true, decide_false, add_lit', Nat.zero_add, Nat.mul_one, Int.toNat_natCast, List.getElem?_toArray, List.getElem?_cons_zero, List.getElem?_cons_succ, Option.bind_some, List.map_cons, List.map_nil, List.map_toArray, Array.append_empty, Array.empty_append, List.append_nil, List.nil_append, List.append_toArray, ↓reduceIte, Nat.reduceEqDiff, Nat.reduceAdd, Nat.reduceLeDiff, List.contains_cons, List.contains_nil, Nat.reduceBEq, Bool.or_false, Bool.false_or, Bool.or_true, Bool.true_or, Bool.false_eq_true, Value.cells, List.size_toArray, List.length_cons, List.length_nil, Option.map_some, Option.map_none, Option.isSome_some, Option.isSome_none, Option.isNone_some, Option.isNone_none, true_and, and_true, ne_eq, reduceCtorEq, not_false_eq_true, Bool.not_true, Bool.not_false, tyAllRW07, then_normal, cellA_blk hb.le o, hk, h0, Int.cast_ofNat_Int, BEq.rfl, bne_self_eq_false, beq_self_eq_true, Bool.and_true, Bool.true_and, Bool.and_false, Bool.false_and, Int.reduceBEq, Int.reduceBNe, Nat.reduceMul, Nat.reduceDiv, Int.reduceToNat, Int.reduceNeg, Int.reduceAdd, Int.reduceSub, Int.reduceMul, hmax, h1]
        exact hend
  · have hk' : (s.kind != 0) = true := by rw [bne_iff_ne]; exact hk
    rw [if_neg (by omega)] at hend
    simp (maxSteps := 2000000) only [vcCore, yieldT, Int.reduceEq, Int.reduceLT, Int.reduceLE, Int.reduceNe, not_true_eq_false, decide_true, decide_false, add_lit', Nat.zero_add, Nat.mul_one, Int.toNat_natCast, List.getElem?_toArray, List.getElem?_cons_zero, List.getElem?_cons_succ, Option.bind_some, List.map_cons, List.map_nil, List.map_toArray, Array.append_empty, Array.empty_append, List.append_nil, List.nil_append, List.append_toArray, ↓reduceIte, Nat.reduceEqDiff, Nat.reduceAdd, Nat.reduceLeDiff, List.contains_cons, List.contains_nil, Nat.reduceBEq, Bool.or_false, Bool.false_or, Bool.or_true, Bool.true_or, Bool.false_eq_true, Value.cells, List.size_toArray, List.length_cons, List.length_nil, Option.map_some, Option.map_none, Option.isSome_some, Option.isSome_none, Option.isNone_some, Option.isNone_none, true_and, and_true, ne_eq, reduceCtorEq, not_false_eq_true, Bool.not_true, Bool.not_false, tyAllRW07, then_normal, cellA_blk hb.le o, hk', Int.cast_ofNat_Int, BEq.rfl, bne_self_eq_false, beq_self_eq_true, Bool.and_true, Bool.true_and, Bool.and_false, Bool.false_and, Int.reduceBEq, Int.reduceBNe, Nat.reduceMul, Nat.reduceDiv, Int.reduceToNat, Int.reduceNeg, Int.reduceAdd, Int.reduceSub, Int.reduceMul]
    exact hend
end
end Go.Proofs.Ytapppaccnkojkaa.R
/- The active layer, over the logic of partial memories. No conditions. -/
set_option linter.unusedVariables false
set_option linter.unusedSimpArgs false
namespace Go.Proofs.Ytapppaccnkojkaa.R
open Go Go.RowKit Go.Proofs.Ytapppaccnkojkaa
set_option maxRecDepth 100000
set_option maxHeartbeats 8000000
section
variable {W0 : World}
def SlotV.to (s : SlotV) : Int := 80 * max 1 (min s.many 1000)
/-- What a watch makes of a look. -/
def seen (to first pl l : Int) : Bool := decide (first < 0) && decide (20 ≤ pl) && decide (pl < to) && decide (2 ≤ cntL l)
end
end Go.Proofs.Ytapppaccnkojkaa.R
/- The law's own example of layer 17. No conditions. -/
set_option linter.unusedVariables false
set_option linter.unusedSimpArgs false
namespace Go.Proofs.Ytapppaccnkojkaa.R
open Go Go.RowKit Go.Proofs.Ytapppaccnkojkaa
set_option maxRecDepth 100000
set_option maxHeartbeats 8000000
section
variable {W0 : World}
end
end Go.Proofs.Ytapppaccnkojkaa.R
/- How many bits so many words have. No conditions. -/
set_option linter.unusedVariables false
set_option linter.unusedSimpArgs false
namespace Go.Proofs.Ytapppaccnkojkaa.R
open Go Go.RowKit Go.Proofs.Ytapppaccnkojkaa
set_option maxRecDepth 100000
set_option maxHeartbeats 8000000
theorem tyAllRW02h : type_of% (And.intro (And.intro (And.intro ty_1 (And.intro ty_2 ty_3)) (And.intro ty_4 (And.intro ty_5 ty_9))) (And.intro (And.intro ty_11 (And.intro ty_22 ty_28)) (And.intro ty_29 (And.intro ty_30 ty_92)))) := (And.intro (And.intro (And.intro ty_1 (And.intro ty_2 ty_3)) (And.intro ty_4 (And.intro ty_5 ty_9))) (And.intro (And.intro ty_11 (And.intro ty_22 ty_28)) (And.intro ty_29 (And.intro ty_30 ty_92))))
section
variable {W0 : World}
def longW (n : Int) : Int := if n < 0 ∨ 1099511627776 < n then 0 else 8 * n
theorem word_LongW {m : Mem} (n : Int) : Ret Try.prog W0 92 #[.int .i64 n] m (.int .i64 (longW n)) := by
  refine ⟨fun K h => ?_⟩
  refine en_92 (l := [.int .i64 n]) (by simp [Try.ntmps92]) ?_
  have X : Ext m m := Ext.refl m
  simp (maxSteps := 2000000) only [Try.f92, Option.getD_some, vcCore, yieldT, Int.reduceEq, Int.reduceLT, Int.reduceLE, Int.reduceNe, not_true_eq_false, decide_true, decide_false, add_lit', Nat.zero_add, Nat.mul_one, Int.toNat_natCast, List.getElem?_toArray, List.getElem?_cons_zero, List.getElem?_cons_succ, Option.bind_some, List.map_cons, List.map_nil, List.map_toArray, Array.append_empty, Array.empty_append, List.append_nil, List.nil_append, List.append_toArray, ↓reduceIte, Nat.reduceEqDiff, Nat.reduceAdd, Nat.reduceLeDiff, List.contains_cons, List.contains_nil, Nat.reduceBEq, Bool.or_false, Bool.false_or, Bool.or_true, Bool.true_or, Bool.false_eq_true, Value.cells, List.size_toArray, List.length_cons, List.length_nil, Option.map_some, Option.map_none, Option.isSome_some, Option.isSome_none, Option.isNone_some, Option.isNone_none, true_and, and_true, ne_eq, reduceCtorEq, not_false_eq_true, Bool.not_true, Bool.not_false, tyAllRW02h, then_normal, Int.cast_ofNat_Int, BEq.rfl, bne_self_eq_false, beq_self_eq_true, Bool.and_true, Bool.true_and, Bool.and_false, Bool.false_and, Int.reduceBEq, Int.reduceBNe, Nat.reduceMul, Nat.reduceDiv, Int.reduceToNat, Int.reduceNeg, Int.reduceAdd, Int.reduceSub, Int.reduceMul, ext_lit, Nat.reduceSub, Nat.add_zero, mp2_app, resK_cc, implies_true, imp_self, bb_ft, bb_tf, bb_t, bb_f, bn_t, bn_f, Nat.reduceLT, Mem.set_app, Mem.set_set, Ext_mp1, Ext_two, st_agg, ones_nil, ones_cons, oc_int, oc_bool, oc_str, oc_ptr, oc_sl, oc_map, max_if, min_if, bld_nil, bld_cons, bldStep_some, wr_def, List.take_succ_cons, List.take_zero, List.drop_succ_cons, List.drop_zero, List.cons_append, List.toList_toArray]
  repeat' (first
    | simp (maxSteps := 2000000) only [vcCore, yieldT, Int.reduceEq, Int.reduceLT, Int.reduceLE, Int.reduceNe, not_true_eq_false, decide_true, decide_false, add_lit', Nat.zero_add, Nat.mul_one, Int.toNat_natCast, List.getElem?_toArray, List.getElem?_cons_zero, List.getElem?_cons_succ, Option.bind_some, List.map_cons, List.map_nil, List.map_toArray, Array.append_empty, Array.empty_append, List.append_nil, List.nil_append, List.append_toArray, ↓reduceIte, Nat.reduceEqDiff, Nat.reduceAdd, Nat.reduceLeDiff, List.contains_cons, List.contains_nil, Nat.reduceBEq, Bool.or_false, Bool.false_or, Bool.or_true, Bool.true_or, Bool.false_eq_true, Value.cells, List.size_toArray, List.length_cons, List.length_nil, Option.map_some, Option.map_none, Option.isSome_some, Option.isSome_none, Option.isNone_some, Option.isNone_none, true_and, and_true, ne_eq, reduceCtorEq, not_false_eq_true, Bool.not_true, Bool.not_false, tyAllRW02h, then_normal, Int.cast_ofNat_Int, BEq.rfl, bne_self_eq_false, beq_self_eq_true, Bool.and_true, Bool.true_and, Bool.and_false, Bool.false_and, Int.reduceBEq, Int.reduceBNe, Nat.reduceMul, Nat.reduceDiv, Int.reduceToNat, Int.reduceNeg, Int.reduceAdd, Int.reduceSub, Int.reduceMul, ext_lit, Nat.reduceSub, Nat.add_zero, mp2_app, resK_cc, implies_true, imp_self, bb_ft, bb_tf, bb_t, bb_f, bn_t, bn_f, Nat.reduceLT, Mem.set_app, Mem.set_set, Ext_mp1, Ext_two, st_agg, ones_nil, ones_cons, oc_int, oc_bool, oc_str, oc_ptr, oc_sl, oc_map, max_if, min_if, bld_nil, bld_cons, bldStep_some, wr_def, List.take_succ_cons, List.take_zero, List.drop_succ_cons, List.drop_zero, List.cons_append, List.toList_toArray, *]
    | (rw [mset_eq b1]; generalize hM : mset _ b1 _ = mS; (try replace X := set_X hM X n1); (first | replace KP := KP_self hM KP | replace KP := KP_set hM KP n1 | skip); (try replace N1 := set_N hM N1 n1 z1); (try (replace o2 := set_o hM o2 d21; replace c2 := blk_facts hb2 o2)); (try (replace o3 := set_o hM o3 d31; replace c3 := blk_facts hb3 o3)); (try (replace o4 := set_o hM o4 d41; replace c4 := blk_facts hb4 o4)); (try (replace o5 := set_o hM o5 d51; replace c5 := blk_facts hb5 o5)); replace o1 := set_same hM; clear hM; replace c1 := blk_facts hb1 o1)
    | (rw [mset_eq b2]; generalize hM : mset _ b2 _ = mS; (try replace X := set_X hM X n2); (first | replace KP := KP_self hM KP | replace KP := KP_set hM KP n2 | skip); (try replace N1 := set_N hM N1 n2 z2); (try (replace o1 := set_o hM o1 d12; replace c1 := blk_facts hb1 o1)); (try (replace o3 := set_o hM o3 d32; replace c3 := blk_facts hb3 o3)); (try (replace o4 := set_o hM o4 d42; replace c4 := blk_facts hb4 o4)); (try (replace o5 := set_o hM o5 d52; replace c5 := blk_facts hb5 o5)); replace o2 := set_same hM; clear hM; replace c2 := blk_facts hb2 o2)
    | (rw [mset_eq b3]; generalize hM : mset _ b3 _ = mS; (try replace X := set_X hM X n3); (first | replace KP := KP_self hM KP | replace KP := KP_set hM KP n3 | skip); (try replace N1 := set_N hM N1 n3 z3); (try (replace o1 := set_o hM o1 d13; replace c1 := blk_facts hb1 o1)); (try (replace o2 := set_o hM o2 d23; replace c2 := blk_facts hb2 o2)); (try (replace o4 := set_o hM o4 d43; replace c4 := blk_facts hb4 o4)); (try (replace o5 := set_o hM o5 d53; replace c5 := blk_facts hb5 o5)); replace o3 := set_same hM; clear hM; replace c3 := blk_facts hb3 o3)
    | (rw [mset_eq b4]; generalize hM : mset _ b4 _ = mS; (try replace X := set_X hM X n4); (first | replace KP := KP_self hM KP | replace KP := KP_set hM KP n4 | skip); (try replace N1 := set_N hM N1 n4 z4); (try (replace o1 := set_o hM o1 d14; replace c1 := blk_facts hb1 o1)); (try (replace o2 := set_o hM o2 d24; replace c2 := blk_facts hb2 o2)); (try (replace o3 := set_o hM o3 d34; replace c3 := blk_facts hb3 o3)); (try (replace o5 := set_o hM o5 d54; replace c5 := blk_facts hb5 o5)); replace o4 := set_same hM; clear hM; replace c4 := blk_facts hb4 o4)
    | (rw [mset_eq b5]; generalize hM : mset _ b5 _ = mS; (try replace X := set_X hM X n5); (first | replace KP := KP_self hM KP | replace KP := KP_set hM KP n5 | skip); (try replace N1 := set_N hM N1 n5 z5); (try (replace o1 := set_o hM o1 d15; replace c1 := blk_facts hb1 o1)); (try (replace o2 := set_o hM o2 d25; replace c2 := blk_facts hb2 o2)); (try (replace o3 := set_o hM o3 d35; replace c3 := blk_facts hb3 o3)); (try (replace o4 := set_o hM o4 d45; replace c4 := blk_facts hb4 o4)); replace o5 := set_same hM; clear hM; replace c5 := blk_facts hb5 o5)
    | ((first | ((with_reducible refine newK_init ?_ ?_ ?_ ?_); (focus (intro b; simp only [ev_tmp, ev_const, upd_app, reduceCtorEq, Nat.reduceEqDiff, Nat.reduceAdd, ↓reduceIte, Value.cells, List.size_toArray, List.length_cons, List.length_nil, st_int, st_bool, st_string, st_pointer, st_slice, st_map, st_agg, ones_nil, ones_cons, oc_int, oc_bool, oc_str, oc_ptr, oc_sl, oc_map, Bool.and_true, tyAllRW02h, Option.map_some]; done)); (focus (simp only [ev_tmp, ev_const, upd_app, reduceCtorEq, Nat.reduceEqDiff, Nat.reduceAdd, ↓reduceIte, Value.cells, List.size_toArray, List.length_cons, List.length_nil, st_int, st_bool, st_string, st_pointer, st_slice, st_map, st_agg, ones_nil, ones_cons, oc_int, oc_bool, oc_str, oc_ptr, oc_sl, oc_map, Bool.and_true, tyAllRW02h, Option.map_some]; done)); (focus (intro b; simp only [ev_tmp, ev_const, upd_app, reduceCtorEq, Nat.reduceEqDiff, Nat.reduceAdd, ↓reduceIte, Value.cells, List.size_toArray, List.length_cons, List.length_nil, st_int, st_bool, st_string, st_pointer, st_slice, st_map, st_agg, ones_nil, ones_cons, oc_int, oc_bool, oc_str, oc_ptr, oc_sl, oc_map, Bool.and_true, tyAllRW02h, Option.map_some]; done))) | ((with_reducible refine newK.id ?_); refine newK_intro ?_) | ((with_reducible refine RunA.id ?_); (first | with_reducible refine rbuild1 sl_22 ze_30 ?_ ?_ ?_ | with_reducible refine rbuild1 sl_28 ze_5 ?_ ?_ ?_); (focus (simp only [Value.cells, List.size_toArray, List.length_cons, List.length_nil]; done)); (focus decide)) | ((first | with_reducible refine bG1 sl_22 ze_30 ?_ ?_ ?_ | with_reducible refine bG1 sl_28 ze_5 ?_ ?_ ?_); (focus (simp only [Value.cells, List.size_toArray, List.length_cons, List.length_nil]; done)); (focus decide)) | ((with_reducible refine RunA.id ?_); (first | with_reducible refine rbuild2 sl_22 ze_30 rfl rfl ?_ | with_reducible refine rbuild2 sl_28 ze_5 rfl rfl ?_)) | (first | with_reducible refine bG2 sl_22 ze_30 rfl rfl ?_ | with_reducible refine bG2 sl_28 ze_5 rfl rfl ?_)); (first | (have := o4; intro b5 m1 hb5 n5 e1 o5; (try (have d51 := ne_of o1 n5; have d15 := d51.symm)); (try (have d52 := ne_of o2 n5; have d25 := d52.symm)); (try (have d53 := ne_of o3 n5; have d35 := d53.symm)); (try (have d54 := ne_of o4 n5; have d45 := d54.symm)); (try have z5 := own_ne N1.own n5); replace n5 := none_of X n5; (try simp only [ev_tmp, ev_const, upd_app, reduceCtorEq, Nat.reduceEqDiff, Nat.reduceAdd, ↓reduceIte, Value.cells, List.size_toArray, List.length_cons, List.length_nil, st_int, st_bool, st_string, st_pointer, st_slice, st_map, st_agg, ones_nil, ones_cons, oc_int, oc_bool, oc_str, oc_ptr, oc_sl, oc_map, Bool.and_true, tyAllRW02h, Option.map_some] at o5)) | (have := o3; intro b4 m1 hb4 n4 e1 o4; (try (have d41 := ne_of o1 n4; have d14 := d41.symm)); (try (have d42 := ne_of o2 n4; have d24 := d42.symm)); (try (have d43 := ne_of o3 n4; have d34 := d43.symm)); (try have z4 := own_ne N1.own n4); replace n4 := none_of X n4; (try simp only [ev_tmp, ev_const, upd_app, reduceCtorEq, Nat.reduceEqDiff, Nat.reduceAdd, ↓reduceIte, Value.cells, List.size_toArray, List.length_cons, List.length_nil, st_int, st_bool, st_string, st_pointer, st_slice, st_map, st_agg, ones_nil, ones_cons, oc_int, oc_bool, oc_str, oc_ptr, oc_sl, oc_map, Bool.and_true, tyAllRW02h, Option.map_some] at o4)) | (have := o2; intro b3 m1 hb3 n3 e1 o3; (try (have d31 := ne_of o1 n3; have d13 := d31.symm)); (try (have d32 := ne_of o2 n3; have d23 := d32.symm)); (try have z3 := own_ne N1.own n3); replace n3 := none_of X n3; (try simp only [ev_tmp, ev_const, upd_app, reduceCtorEq, Nat.reduceEqDiff, Nat.reduceAdd, ↓reduceIte, Value.cells, List.size_toArray, List.length_cons, List.length_nil, st_int, st_bool, st_string, st_pointer, st_slice, st_map, st_agg, ones_nil, ones_cons, oc_int, oc_bool, oc_str, oc_ptr, oc_sl, oc_map, Bool.and_true, tyAllRW02h, Option.map_some] at o3)) | (have := o1; intro b2 m1 hb2 n2 e1 o2; (try (have d21 := ne_of o1 n2; have d12 := d21.symm)); (try have z2 := own_ne N1.own n2); replace n2 := none_of X n2; (try simp only [ev_tmp, ev_const, upd_app, reduceCtorEq, Nat.reduceEqDiff, Nat.reduceAdd, ↓reduceIte, Value.cells, List.size_toArray, List.length_cons, List.length_nil, st_int, st_bool, st_string, st_pointer, st_slice, st_map, st_agg, ones_nil, ones_cons, oc_int, oc_bool, oc_str, oc_ptr, oc_sl, oc_map, Bool.and_true, tyAllRW02h, Option.map_some] at o2)) | (intro b1 m1 hb1 n1 e1 o1; (try have z1 := own_ne N1.own n1); replace n1 := none_of X n1; (try simp only [ev_tmp, ev_const, upd_app, reduceCtorEq, Nat.reduceEqDiff, Nat.reduceAdd, ↓reduceIte, Value.cells, List.size_toArray, List.length_cons, List.length_nil, st_int, st_bool, st_string, st_pointer, st_slice, st_map, st_agg, ones_nil, ones_cons, oc_int, oc_bool, oc_str, oc_ptr, oc_sl, oc_map, Bool.and_true, tyAllRW02h, Option.map_some] at o1))); (try replace X := X.trans e1); (try replace N1 := N1.later e1); (try (replace o1 := e1 _ _ o1; replace c1 := blk_facts hb1 o1)); (try (replace o2 := e1 _ _ o2; replace c2 := blk_facts hb2 o2)); (try (replace o3 := e1 _ _ o3; replace c3 := blk_facts hb3 o3)); (try (replace o4 := e1 _ _ o4; replace c4 := blk_facts hb4 o4)); (try (replace o5 := e1 _ _ o5; replace c5 := blk_facts hb5 o5)); (try have c1 := blk_facts hb1 o1); (try have c2 := blk_facts hb2 o2); (try have c3 := blk_facts hb3 o3); (try have c4 := blk_facts hb4 o4); (try have c5 := blk_facts hb5 o5))
    | ((with_reducible refine RunA.id ?_); (first | (first | with_reducible refine app_one sl_22 ze_30 by_30 ⟨rfl, by decide⟩ N1 hb5 o5 ?_ ?_ ?_ ?_ | with_reducible refine app_one sl_28 ze_5 by_5 ⟨rfl, by decide⟩ N1 hb5 o5 ?_ ?_ ?_ ?_) | (first | with_reducible refine app_one sl_22 ze_30 by_30 ⟨rfl, by decide⟩ N1 hb4 o4 ?_ ?_ ?_ ?_ | with_reducible refine app_one sl_28 ze_5 by_5 ⟨rfl, by decide⟩ N1 hb4 o4 ?_ ?_ ?_ ?_) | (first | with_reducible refine app_one sl_22 ze_30 by_30 ⟨rfl, by decide⟩ N1 hb3 o3 ?_ ?_ ?_ ?_ | with_reducible refine app_one sl_28 ze_5 by_5 ⟨rfl, by decide⟩ N1 hb3 o3 ?_ ?_ ?_ ?_) | (first | with_reducible refine app_one sl_22 ze_30 by_30 ⟨rfl, by decide⟩ N1 hb2 o2 ?_ ?_ ?_ ?_ | with_reducible refine app_one sl_28 ze_5 by_5 ⟨rfl, by decide⟩ N1 hb2 o2 ?_ ?_ ?_ ?_) | (first | with_reducible refine app_one sl_22 ze_30 by_30 ⟨rfl, by decide⟩ N1 hb1 o1 ?_ ?_ ?_ ?_ | with_reducible refine app_one sl_28 ze_5 by_5 ⟨rfl, by decide⟩ N1 hb1 o1 ?_ ?_ ?_ ?_)); (focus rfl); (focus (simp only [List.toList_toArray, st_agg, ones_nil, ones_cons, oc_int, oc_bool, oc_str, oc_ptr, oc_sl, oc_map, Bool.and_true]; done)); (focus (constructor <;> first | omega | (simp only [maxLen]; omega))); intro A1 q1 m1 N1 k1; replace X := N1.ext; (try (replace z1 := k1 _ _ o1 z1; replace o1 := z1.1; replace z1 := z1.2; replace c1 := blk_facts hb1 o1)); (try (replace z2 := k1 _ _ o2 z2; replace o2 := z2.1; replace z2 := z2.2; replace c2 := blk_facts hb2 o2)); (try (replace z3 := k1 _ _ o3 z3; replace o3 := z3.1; replace z3 := z3.2; replace c3 := blk_facts hb3 o3)); (try (replace z4 := k1 _ _ o4 z4; replace o4 := z4.1; replace z4 := z4.2; replace c4 := blk_facts hb4 o4)); (try (replace z5 := k1 _ _ o5 z5; replace o5 := z5.1; replace z5 := z5.2; replace c5 := blk_facts hb5 o5)))
    | ((first | with_reducible refine rsl_hZ sl_22 ?_ ?_ ?_ | with_reducible refine rsl_hZ sl_28 ?_ ?_ ?_); (iterate 2 (focus (first | omega | (simp only [*] <;> omega)))))
    | ((first | with_reducible refine rsl_lZ sl_22 ?_ ?_ ?_ | with_reducible refine rsl_lZ sl_28 ?_ ?_ ?_); (iterate 2 (focus (first | omega | (simp only [*] <;> omega)))))
    | ((with_reducible refine CodeA.id ?_); (first | fail))
    | ((with_reducible refine And.intro ?_ ?_); (focus omega))
    | with_reducible refine cK_both _ _ _ _ _ _ (fun hc => ?_) (fun hc => ?_)
    | ((with_reducible refine gO_both _ _ (fun hc => ?_) (fun hc => ?_)) <;> (try simp only [Bool.not_true, Bool.not_false] at hc))
    | ((with_reducible refine gH_both _ _ (fun hc => ?_) (fun hc => ?_)) <;> (try simp only [Bool.not_true, Bool.not_false] at hc))
    | with_reducible refine pickK_both _ (fun hc => ?_) (fun hc => ?_))
  all_goals (refine K_eq (h _ X) ?_; (try clear h); (try simp only [beq_iff_eq, beq_eq_false_iff_ne, bne_iff_ne, bne_eq_false_iff_eq, decide_eq_true_eq, decide_eq_false_iff_not, ne_eq, Bool.not_eq_true, Bool.not_eq_false, Bool.not_eq_eq_eq_not, Bool.not_true, Bool.not_false] at *); (try simp only [Value.int.injEq, Value.bool.injEq, true_and]); (try simp only [IntKind.wrap_i64]))
  all_goals (unfold longW; (repeat' split) <;> omega)
end
end Go.Proofs.Ytapppaccnkojkaa.R
set_option linter.unusedVariables false
set_option linter.unusedSimpArgs false
namespace Go.Proofs.Ytapppaccnkojkaa.R
open Go Go.RowKit Go.Proofs.Ytapppaccnkojkaa
set_option maxRecDepth 100000
set_option maxHeartbeats 400000
theorem tyAllRW02 : type_of% (And.intro (And.intro (And.intro (And.intro ty_1 ty_2) (And.intro ty_3 ty_4)) (And.intro (And.intro ty_5 ty_6) (And.intro ty_7 ty_8))) (And.intro (And.intro (And.intro ty_9 ty_10) (And.intro ty_11 ty_25)) (And.intro (And.intro ty_26 ty_28) (And.intro ty_29 (And.intro ty_30 ty_113))))) := (And.intro (And.intro (And.intro (And.intro ty_1 ty_2) (And.intro ty_3 ty_4)) (And.intro (And.intro ty_5 ty_6) (And.intro ty_7 ty_8))) (And.intro (And.intro (And.intro ty_9 ty_10) (And.intro ty_11 ty_25)) (And.intro (And.intro ty_26 ty_28) (And.intro ty_29 (And.intro ty_30 ty_113)))))
section
variable {W0 : World}
def bitAt (ws : List Int) (i : Int) : Bool := (ws.getD (i / 8).toNat 0 / 2 ^ (7 - i % 8).toNat) % 2 == 1
def inB (n : Nat) (i : Int) : Bool := decide (0 ≤ i) && decide (i < 8 * (n : Int))
theorem word_Bit {m : Mem} {K : Value → Mem → Prop} {v : Value} {n : Nat} {ws : List Int} {i : Int} (hr : RS W0 m v 1 n (u8 ws)) (hb : Byte ws) (hn : n ≤ 9223372036854775807) (hi : -9223372036854775808 ≤ i) (hi' : i ≤ 9223372036854775807)
    (h : K (.tuple #[.bool (inB n i && bitAt ws i), .bool (inB n i)]) m) : CallA Try.prog W0 113 #[v, .int .i64 i] m K := by
  have hr0 := hr
  obtain ⟨hl, A, c, rfl, h0⟩ := hr
  refine en_113 (l := [.slice A n c, .int .i64 i]) (by simp [Try.ntmps113]) ?_
  by_cases h1 : i < 0
  · simp only [Try.f113, Option.getD_some, vcCore, yieldT, Int.reduceEq, Int.reduceLT, Int.reduceLE, Int.reduceNe, not_true_eq_false, decide_true, decide_false, add_lit', Nat.zero_add, Nat.mul_one, Int.toNat_natCast, List.getElem?_toArray, List.getElem?_cons_zero, List.getElem?_cons_succ, Option.bind_some, List.map_cons, List.map_nil, List.map_toArray, Array.append_empty, Array.empty_append, List.append_nil, List.nil_append, List.append_toArray, ↓reduceIte, Nat.reduceEqDiff, Nat.reduceAdd, Nat.reduceLeDiff, List.contains_cons, List.contains_nil, Nat.reduceBEq, Bool.or_false, Bool.false_or, Bool.or_true, Bool.true_or, Bool.false_eq_true, Value.cells, List.size_toArray, List.length_cons, List.length_nil, Option.map_some, Option.map_none, Option.isSome_some, Option.isSome_none, Option.isNone_some, Option.isNone_none, true_and, and_true, ne_eq, reduceCtorEq, not_false_eq_true, Bool.not_true, Bool.not_false, tyAllRW02, then_normal, h1, decide_true]
    have : inB n i = false := by unfold inB; simp; omega
    rw [this] at h; exact h
  · have hd : IntKind.i64.wrap (i.tdiv 8) = i / 8 := by rw [tdiv_pos (by omega), w64 (by omega) (by omega)]
    have hm : i.tmod 8 = i % 8 := tmod_pos (by omega)
    have hs : IntKind.i64.wrap (7 - i % 8) = 7 - i % 8 := w64 (by omega) (by omega)
    by_cases h2 : (n : Int) ≤ i / 8
    · simp only [Try.f113, Option.getD_some, vcCore, yieldT, Int.reduceEq, Int.reduceLT, Int.reduceLE, Int.reduceNe, not_true_eq_false, decide_true, decide_false, add_lit', Nat.zero_add, Nat.mul_one, Int.toNat_natCast, List.getElem?_toArray, List.getElem?_cons_zero, List.getElem?_cons_succ, Option.bind_some, List.map_cons, List.map_nil, List.map_toArray, Array.append_empty, Array.empty_append, List.append_nil, List.nil_append, List.append_toArray, ↓reduceIte, Nat.reduceEqDiff, Nat.reduceAdd, Nat.reduceLeDiff, List.contains_cons, List.contains_nil, Nat.reduceBEq, Bool.or_false, Bool.false_or, Bool.or_true, Bool.true_or, Bool.false_eq_true, Value.cells, List.size_toArray, List.length_cons, List.length_nil, Option.map_some, Option.map_none, Option.isSome_some, Option.isSome_none, Option.isNone_some, Option.isNone_none, true_and, and_true, ne_eq, reduceCtorEq, not_false_eq_true, Bool.not_true, Bool.not_false, tyAllRW02, then_normal, h1, decide_false, hd, h2, decide_true]
      have : inB n i = false := by unfold inB; simp; omega
      rw [this] at h; exact h
    · obtain ⟨a, rfl, hc⟩ := RS.cell hr0 (j := (i / 8).toNat) (by omega)
      have hg : ws[(i / 8).toNat]? = some (ws.getD (i / 8).toNat 0) := by
        rw [List.getD_eq_getElem?_getD]
        have : (i / 8).toNat < ws.length := by rw [u8_length] at hl; omega
        simp [this]
      have hcell := hc (i / 8).toNat _ (by rw [u8_get, hg]; rfl)
      have hbx := hb.get hg
      simp only [Try.f113, Option.getD_some, vcCore, yieldT, Int.reduceEq, Int.reduceLT, Int.reduceLE, Int.reduceNe, not_true_eq_false, decide_true, decide_false, add_lit', Nat.zero_add, Nat.mul_one, Int.toNat_natCast, List.getElem?_toArray, List.getElem?_cons_zero, List.getElem?_cons_succ, Option.bind_some, List.map_cons, List.map_nil, List.map_toArray, Array.append_empty, Array.empty_append, List.append_nil, List.nil_append, List.append_toArray, ↓reduceIte, Nat.reduceEqDiff, Nat.reduceAdd, Nat.reduceLeDiff, List.contains_cons, List.contains_nil, Nat.reduceBEq, Bool.or_false, Bool.false_or, Bool.or_true, Bool.true_or, Bool.false_eq_true, Value.cells, List.size_toArray, List.length_cons, List.length_nil, Option.map_some, Option.map_none, Option.isSome_some, Option.isSome_none, Option.isNone_some, Option.isNone_none, true_and, and_true, ne_eq, reduceCtorEq, not_false_eq_true, Bool.not_true, Bool.not_false, tyAllRW02, then_normal, h1, decide_false, hd, h2, hcell, hm, hs, Nat.mul_one]
      refine ⟨by omega, by omega, by omega, ?_⟩
      have e1 : inB n i = true := by unfold inB; simp; omega
      have e2 : min (7 - i % 8).toNat (IntKind.bits .u8) = (7 - i % 8).toNat := by simp [IntKind.bits]; omega
      rw [e1] at h
      rw [e2, fdiv_pos (Int.pow_nonneg (by decide)), and_one (Int.ediv_nonneg hbx.1 (Int.pow_nonneg (by decide))) (by
        have := Int.ediv_le_self (2 ^ (7 - i % 8).toNat) hbx.1; omega)]
      exact h
end
end Go.Proofs.Ytapppaccnkojkaa.R
/- The library's slices, over the logic of partial memories. No conditions. -/
set_option linter.unusedVariables false
set_option linter.unusedSimpArgs false
namespace Go.Proofs.Ytapppaccnkojkaa.R
open Go Go.RowKit Go.Proofs.Ytapppaccnkojkaa
set_option maxRecDepth 100000
set_option maxHeartbeats 8000000
section
variable {W0 : World}
end
end Go.Proofs.Ytapppaccnkojkaa.R
/- The plan's layer: windows, over the logic of partial memories. No conditions. -/
set_option linter.unusedVariables false
set_option linter.unusedSimpArgs false
namespace Go.Proofs.Ytapppaccnkojkaa.R
open Go Go.RowKit Go.Proofs.Ytapppaccnkojkaa
set_option maxRecDepth 100000




set_option maxHeartbeats 400000
section
variable {W0 : World}
end
end Go.Proofs.Ytapppaccnkojkaa.R
/- The plan's layer: schedules, over the logic of partial memories. No conditions. -/
set_option linter.unusedVariables false
set_option linter.unusedSimpArgs false
namespace Go.Proofs.Ytapppaccnkojkaa.R
open Go Go.RowKit Go.Proofs.Ytapppaccnkojkaa
set_option maxRecDepth 100000
set_option maxHeartbeats 8000000
section
variable {W0 : World}
end
end Go.Proofs.Ytapppaccnkojkaa.R
/- The plan's layer: what a module has of a frame, over the logic of partial memories. No conditions. -/
set_option linter.unusedVariables false
set_option linter.unusedSimpArgs false
namespace Go.Proofs.Ytapppaccnkojkaa.R
open Go Go.RowKit Go.Proofs.Ytapppaccnkojkaa
set_option maxRecDepth 100000
set_option maxHeartbeats 8000000
section
variable {W0 : World}
def SlotV.cs (s : SlotV) : List Value := [.int .i64 s.kind, .int .i64 s.start, .int .i64 s.long, .int .i64 s.words, .int .i64 s.addr, .int .i64 s.many, .int .i64 s.cand, .bool s.take]
end
end Go.Proofs.Ytapppaccnkojkaa.R
/- The plan's layer: pulses, the reference, and what the laws ask first, over the logic of partial memories. No conditions. -/
set_option linter.unusedVariables false
set_option linter.unusedSimpArgs false
namespace Go.Proofs.Ytapppaccnkojkaa.R
open Go Go.RowKit Go.Proofs.Ytapppaccnkojkaa
set_option maxRecDepth 100000
set_option maxHeartbeats 8000000
section
variable {W0 : World}
end
end Go.Proofs.Ytapppaccnkojkaa.R
