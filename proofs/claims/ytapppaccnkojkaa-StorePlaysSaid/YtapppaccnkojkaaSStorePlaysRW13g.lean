/- The store's layer: clones, and what is alike. No conditions. -/
import Derived.Test.YtapppaccnkojkaaSStorePlaysRW13
import Derived.Test.YtapppaccnkojkaaRAuto
import Derived.Test.YtapppaccnkojkaaROpen
import Derived.Test.YtapppaccnkojkaaREq
set_option linter.unusedVariables false
set_option linter.unusedSimpArgs false
namespace Go.Proofs.Ytapppaccnkojkaa.R
open Go Go.RowKit Go.Proofs.Ytapppaccnkojkaa
set_option maxRecDepth 100000
set_option maxHeartbeats 8000000
theorem tyAllRW13b : type_of% (And.intro (And.intro (And.intro ty_2 (And.intro ty_3 ty_4)) (And.intro ty_5 (And.intro ty_9 ty_23))) (And.intro (And.intro ty_28 (And.intro ty_32 ty_148)) (And.intro (And.intro ty_149 ty_150) (And.intro ty_151 ty_152)))) := (And.intro (And.intro (And.intro ty_2 (And.intro ty_3 ty_4)) (And.intro ty_5 (And.intro ty_9 ty_23))) (And.intro (And.intro ty_28 (And.intro ty_32 ty_148)) (And.intro (And.intro ty_149 ty_150) (And.intro ty_151 ty_152))))
section
variable {W0 : World}
theorem one13 {m : Mem} {K : Value → Mem → Prop} (h : ∀ m', Ext m m' → K (.bool true) m') : CallA Try.prog W0 23 #[] m K := by
  refine en_23 (l := []) (by simp [Try.ntmps23]) ?_
  simp (maxSteps := 2000000) only [Try.f23, Option.getD_some, vcCore, yieldT, Int.reduceEq, Int.reduceLT, Int.reduceLE, Int.reduceNe, not_true_eq_false, decide_true, decide_false, add_lit', Nat.zero_add, Nat.mul_one, Int.toNat_natCast, List.getElem?_toArray, List.getElem?_cons_zero, List.getElem?_cons_succ, Option.bind_some, List.map_cons, List.map_nil, List.map_toArray, Array.append_empty, Array.empty_append, List.append_nil, List.nil_append, List.append_toArray, ↓reduceIte, Nat.reduceEqDiff, Nat.reduceAdd, Nat.reduceLeDiff, List.contains_cons, List.contains_nil, Nat.reduceBEq, Bool.or_false, Bool.false_or, Bool.or_true, Bool.true_or, Bool.false_eq_true, Value.cells, List.size_toArray, List.length_cons, List.length_nil, Option.map_some, Option.map_none, Option.isSome_some, Option.isSome_none, Option.isNone_some, Option.isNone_none, true_and, and_true, ne_eq, reduceCtorEq, not_false_eq_true, Bool.not_true, Bool.not_false, tyAllRW13b, then_normal]
  refine store_New fun m1 b e1 hb s => ?_
  simp (maxSteps := 2000000) only [vcCore, yieldT, Int.reduceEq, Int.reduceLT, Int.reduceLE, Int.reduceNe, not_true_eq_false, decide_true, decide_false, add_lit', Nat.zero_add, Nat.mul_one, Int.toNat_natCast, List.getElem?_toArray, List.getElem?_cons_zero, List.getElem?_cons_succ, Option.bind_some, List.map_cons, List.map_nil, List.map_toArray, Array.append_empty, Array.empty_append, List.append_nil, List.nil_append, List.append_toArray, ↓reduceIte, Nat.reduceEqDiff, Nat.reduceAdd, Nat.reduceLeDiff, List.contains_cons, List.contains_nil, Nat.reduceBEq, Bool.or_false, Bool.false_or, Bool.or_true, Bool.true_or, Bool.false_eq_true, Value.cells, List.size_toArray, List.length_cons, List.length_nil, Option.map_some, Option.map_none, Option.isSome_some, Option.isSome_none, Option.isNone_some, Option.isNone_none, true_and, and_true, ne_eq, reduceCtorEq, not_false_eq_true, Bool.not_true, Bool.not_false, tyAllRW13b, then_normal, Int.cast_ofNat_Int, BEq.rfl, bne_self_eq_false, beq_self_eq_true, Bool.and_true, Bool.true_and, Bool.and_false, Bool.false_and, Int.reduceBEq, Int.reduceBNe, Nat.reduceMul, Nat.reduceDiv, Int.reduceToNat, Int.reduceNeg, Int.reduceAdd, Int.reduceSub, Int.reduceMul]
  refine rbuild (cells := #[.int .u8 7, .int .u8 8]) sl_28 ze_5 (by decide) (by decide) (by kernel_rfl) fun q hq => ?_
  have e2 := Ext.fresh hq (.cells #[.int .u8 7, .int .u8 8] 5)
  simp (maxSteps := 2000000) only [vcCore, yieldT, Int.reduceEq, Int.reduceLT, Int.reduceLE, Int.reduceNe, not_true_eq_false, decide_true, decide_false, add_lit', Nat.zero_add, Nat.mul_one, Int.toNat_natCast, List.getElem?_toArray, List.getElem?_cons_zero, List.getElem?_cons_succ, Option.bind_some, List.map_cons, List.map_nil, List.map_toArray, Array.append_empty, Array.empty_append, List.append_nil, List.nil_append, List.append_toArray, ↓reduceIte, Nat.reduceEqDiff, Nat.reduceAdd, Nat.reduceLeDiff, List.contains_cons, List.contains_nil, Nat.reduceBEq, Bool.or_false, Bool.false_or, Bool.or_true, Bool.true_or, Bool.false_eq_true, Value.cells, List.size_toArray, List.length_cons, List.length_nil, Option.map_some, Option.map_none, Option.isSome_some, Option.isSome_none, Option.isNone_some, Option.isNone_none, true_and, and_true, ne_eq, reduceCtorEq, not_false_eq_true, Bool.not_true, Bool.not_false, tyAllRW13b, then_normal, Int.cast_ofNat_Int, BEq.rfl, bne_self_eq_false, beq_self_eq_true, Bool.and_true, Bool.true_and, Bool.and_false, Bool.false_and, Int.reduceBEq, Int.reduceBNe, Nat.reduceMul, Nat.reduceDiv, Int.reduceToNat, Int.reduceNeg, Int.reduceAdd, Int.reduceSub, Int.reduceMul]
  refine store_Write (w := [7, 8]) (s.ext e2) (RS.block hq.le (Mem.set_same _ _ _) rfl) (by intro x hx; simp at hx; omega) (fun h => absurd h (by decide)) fun n hn _ _ _ m2 s2 k2 => ?_
  obtain rfl : n = 3 := by omega
  simp (maxSteps := 2000000) only [vcCore, yieldT, Int.reduceEq, Int.reduceLT, Int.reduceLE, Int.reduceNe, not_true_eq_false, decide_true, decide_false, add_lit', Nat.zero_add, Nat.mul_one, Int.toNat_natCast, List.getElem?_toArray, List.getElem?_cons_zero, List.getElem?_cons_succ, Option.bind_some, List.map_cons, List.map_nil, List.map_toArray, Array.append_empty, Array.empty_append, List.append_nil, List.nil_append, List.append_toArray, ↓reduceIte, Nat.reduceEqDiff, Nat.reduceAdd, Nat.reduceLeDiff, List.contains_cons, List.contains_nil, Nat.reduceBEq, Bool.or_false, Bool.false_or, Bool.or_true, Bool.true_or, Bool.false_eq_true, Value.cells, List.size_toArray, List.length_cons, List.length_nil, Option.map_some, Option.map_none, Option.isSome_some, Option.isSome_none, Option.isNone_some, Option.isNone_none, true_and, and_true, ne_eq, reduceCtorEq, not_false_eq_true, Bool.not_true, Bool.not_false, tyAllRW13b, then_normal, Int.cast_ofNat_Int, BEq.rfl, bne_self_eq_false, beq_self_eq_true, Bool.and_true, Bool.true_and, Bool.and_false, Bool.false_and, Int.reduceBEq, Int.reduceBNe, Nat.reduceMul, Nat.reduceDiv, Int.reduceToNat, Int.reduceNeg, Int.reduceAdd, Int.reduceSub, Int.reduceMul]
  refine store_Spoil s2 (fun h => absurd h (by decide)) fun n c hn hc _ m3 s3 k3 => ?_
  obtain rfl : n = 4 := by omega
  obtain rfl : c = 1 := by omega
  simp (maxSteps := 2000000) only [vcCore, yieldT, Int.reduceEq, Int.reduceLT, Int.reduceLE, Int.reduceNe, not_true_eq_false, decide_true, decide_false, add_lit', Nat.zero_add, Nat.mul_one, Int.toNat_natCast, List.getElem?_toArray, List.getElem?_cons_zero, List.getElem?_cons_succ, Option.bind_some, List.map_cons, List.map_nil, List.map_toArray, Array.append_empty, Array.empty_append, List.append_nil, List.nil_append, List.append_toArray, ↓reduceIte, Nat.reduceEqDiff, Nat.reduceAdd, Nat.reduceLeDiff, List.contains_cons, List.contains_nil, Nat.reduceBEq, Bool.or_false, Bool.false_or, Bool.or_true, Bool.true_or, Bool.false_eq_true, Value.cells, List.size_toArray, List.length_cons, List.length_nil, Option.map_some, Option.map_none, Option.isSome_some, Option.isSome_none, Option.isNone_some, Option.isNone_none, true_and, and_true, ne_eq, reduceCtorEq, not_false_eq_true, Bool.not_true, Bool.not_false, tyAllRW13b, then_normal, Int.cast_ofNat_Int, BEq.rfl, bne_self_eq_false, beq_self_eq_true, Bool.and_true, Bool.true_and, Bool.and_false, Bool.false_and, Int.reduceBEq, Int.reduceBNe, Nat.reduceMul, Nat.reduceDiv, Int.reduceToNat, Int.reduceNeg, Int.reduceAdd, Int.reduceSub, Int.reduceMul]
  refine store_Frame s3 (by decide) fun m4 s4 k4 => ?_
  simp (maxSteps := 2000000) only [vcCore, yieldT, Int.reduceEq, Int.reduceLT, Int.reduceLE, Int.reduceNe, not_true_eq_false, decide_true, decide_false, add_lit', Nat.zero_add, Nat.mul_one, Int.toNat_natCast, List.getElem?_toArray, List.getElem?_cons_zero, List.getElem?_cons_succ, Option.bind_some, List.map_cons, List.map_nil, List.map_toArray, Array.append_empty, Array.empty_append, List.append_nil, List.nil_append, List.append_toArray, ↓reduceIte, Nat.reduceEqDiff, Nat.reduceAdd, Nat.reduceLeDiff, List.contains_cons, List.contains_nil, Nat.reduceBEq, Bool.or_false, Bool.false_or, Bool.or_true, Bool.true_or, Bool.false_eq_true, Value.cells, List.size_toArray, List.length_cons, List.length_nil, Option.map_some, Option.map_none, Option.isSome_some, Option.isSome_none, Option.isNone_some, Option.isNone_none, true_and, and_true, ne_eq, reduceCtorEq, not_false_eq_true, Bool.not_true, Bool.not_false, tyAllRW13b, then_normal, Int.cast_ofNat_Int, BEq.rfl, bne_self_eq_false, beq_self_eq_true, Bool.and_true, Bool.true_and, Bool.and_false, Bool.false_and, Int.reduceBEq, Int.reduceBNe, Nat.reduceMul, Nat.reduceDiv, Int.reduceToNat, Int.reduceNeg, Int.reduceAdd, Int.reduceSub, Int.reduceMul]
  refine store_Read s4 (fun h => absurd h (by decide)) fun n c hn hc _ _ _ v5 m5 N5 => ?_
  obtain rfl : n = 3 := by omega
  obtain rfl : c = 1 := by omega
  have s5 := s4.ext N5.ext
  have r5 := N5.own.reads
  have r5c := r5
  obtain ⟨_, A5, c5, rfl, _⟩ := r5c
  simp (maxSteps := 2000000) only [vcCore, yieldT, Int.reduceEq, Int.reduceLT, Int.reduceLE, Int.reduceNe, not_true_eq_false, decide_true, decide_false, add_lit', Nat.zero_add, Nat.mul_one, Int.toNat_natCast, List.getElem?_toArray, List.getElem?_cons_zero, List.getElem?_cons_succ, Option.bind_some, List.map_cons, List.map_nil, List.map_toArray, Array.append_empty, Array.empty_append, List.append_nil, List.nil_append, List.append_toArray, ↓reduceIte, Nat.reduceEqDiff, Nat.reduceAdd, Nat.reduceLeDiff, List.contains_cons, List.contains_nil, Nat.reduceBEq, Bool.or_false, Bool.false_or, Bool.or_true, Bool.true_or, Bool.false_eq_true, Value.cells, List.size_toArray, List.length_cons, List.length_nil, Option.map_some, Option.map_none, Option.isSome_some, Option.isSome_none, Option.isNone_some, Option.isNone_none, true_and, and_true, ne_eq, reduceCtorEq, not_false_eq_true, Bool.not_true, Bool.not_false, tyAllRW13b, then_normal, Int.cast_ofNat_Int, BEq.rfl, bne_self_eq_false, beq_self_eq_true, Bool.and_true, Bool.true_and, Bool.and_false, Bool.false_and, Int.reduceBEq, Int.reduceBNe, Nat.reduceMul, Nat.reduceDiv, Int.reduceToNat, Int.reduceNeg, Int.reduceAdd, Int.reduceSub, Int.reduceMul]
  refine store_Read s5 (fun h => absurd h (by decide)) fun n c hn hc _ _ _ v6 m6 N6 => ?_
  obtain rfl : n = 3 := by omega
  obtain rfl : c = 2 := by omega
  have s6 := s5.ext N6.ext
  have r6 := N6.own.reads
  have r6c := r6
  obtain ⟨_, A6, c6, rfl, _⟩ := r6c
  have g1 : allG (over (over (List.replicate 64 false) 3 (List.replicate 2 true)) 4 (List.replicate 1 false)) 3 1 = true := by decide +kernel
  have g2 : allG (over (over (List.replicate 64 false) 3 (List.replicate 2 true)) 4 (List.replicate 1 false)) 3 2 = false := by decide +kernel
  have x1 : ((over (List.replicate 64 (0 : Int)) 3 [7, 8]).drop 3).take 1 = [7] := by decide +kernel
  have x2 : ((over (List.replicate 64 (0 : Int)) 3 [7, 8]).drop 3).take 2 = [7, 8] := by decide +kernel
  rw [x1] at r5
  rw [x2] at r6
  simp (maxSteps := 2000000) only [vcCore, yieldT, Int.reduceEq, Int.reduceLT, Int.reduceLE, Int.reduceNe, not_true_eq_false, decide_true, decide_false, add_lit', Nat.zero_add, Nat.mul_one, Int.toNat_natCast, List.getElem?_toArray, List.getElem?_cons_zero, List.getElem?_cons_succ, Option.bind_some, List.map_cons, List.map_nil, List.map_toArray, Array.append_empty, Array.empty_append, List.append_nil, List.nil_append, List.append_toArray, ↓reduceIte, Nat.reduceEqDiff, Nat.reduceAdd, Nat.reduceLeDiff, List.contains_cons, List.contains_nil, Nat.reduceBEq, Bool.or_false, Bool.false_or, Bool.or_true, Bool.true_or, Bool.false_eq_true, Value.cells, List.size_toArray, List.length_cons, List.length_nil, Option.map_some, Option.map_none, Option.isSome_some, Option.isSome_none, Option.isNone_some, Option.isNone_none, true_and, and_true, ne_eq, reduceCtorEq, not_false_eq_true, Bool.not_true, Bool.not_false, tyAllRW13b, then_normal, Int.cast_ofNat_Int, BEq.rfl, bne_self_eq_false, beq_self_eq_true, Bool.and_true, Bool.true_and, Bool.and_false, Bool.false_and, Int.reduceBEq, Int.reduceBNe, Nat.reduceMul, Nat.reduceDiv, Int.reduceToNat, Int.reduceNeg, Int.reduceAdd, Int.reduceSub, Int.reduceMul, g1, g2]
  refine (rstr sl_28 un_5 un_9 (r5.ext N6.ext) ?_).run
  simp (maxSteps := 2000000) only [vcCore, yieldT, Int.reduceEq, Int.reduceLT, Int.reduceLE, Int.reduceNe, not_true_eq_false, decide_true, decide_false, add_lit', Nat.zero_add, Nat.mul_one, Int.toNat_natCast, List.getElem?_toArray, List.getElem?_cons_zero, List.getElem?_cons_succ, Option.bind_some, List.map_cons, List.map_nil, List.map_toArray, Array.append_empty, Array.empty_append, List.append_nil, List.nil_append, List.append_toArray, ↓reduceIte, Nat.reduceEqDiff, Nat.reduceAdd, Nat.reduceLeDiff, List.contains_cons, List.contains_nil, Nat.reduceBEq, Bool.or_false, Bool.false_or, Bool.or_true, Bool.true_or, Bool.false_eq_true, Value.cells, List.size_toArray, List.length_cons, List.length_nil, Option.map_some, Option.map_none, Option.isSome_some, Option.isSome_none, Option.isNone_some, Option.isNone_none, true_and, and_true, ne_eq, reduceCtorEq, not_false_eq_true, Bool.not_true, Bool.not_false, tyAllRW13b, then_normal, Int.cast_ofNat_Int, BEq.rfl, bne_self_eq_false, beq_self_eq_true, Bool.and_true, Bool.true_and, Bool.and_false, Bool.false_and, Int.reduceBEq, Int.reduceBNe, Nat.reduceMul, Nat.reduceDiv, Int.reduceToNat, Int.reduceNeg, Int.reduceAdd, Int.reduceSub, Int.reduceMul, show ((strOf [7]).toList == (⟨#[7]⟩ : ByteArray).toList) = true by decide +kernel]
  refine (rstr sl_28 un_5 un_9 r6 ?_).run
  simp (maxSteps := 2000000) only [vcCore, yieldT, Int.reduceEq, Int.reduceLT, Int.reduceLE, Int.reduceNe, not_true_eq_false, decide_true, decide_false, add_lit', Nat.zero_add, Nat.mul_one, Int.toNat_natCast, List.getElem?_toArray, List.getElem?_cons_zero, List.getElem?_cons_succ, Option.bind_some, List.map_cons, List.map_nil, List.map_toArray, Array.append_empty, Array.empty_append, List.append_nil, List.nil_append, List.append_toArray, ↓reduceIte, Nat.reduceEqDiff, Nat.reduceAdd, Nat.reduceLeDiff, List.contains_cons, List.contains_nil, Nat.reduceBEq, Bool.or_false, Bool.false_or, Bool.or_true, Bool.true_or, Bool.false_eq_true, Value.cells, List.size_toArray, List.length_cons, List.length_nil, Option.map_some, Option.map_none, Option.isSome_some, Option.isSome_none, Option.isNone_some, Option.isNone_none, true_and, and_true, ne_eq, reduceCtorEq, not_false_eq_true, Bool.not_true, Bool.not_false, tyAllRW13b, then_normal, Int.cast_ofNat_Int, BEq.rfl, bne_self_eq_false, beq_self_eq_true, Bool.and_true, Bool.true_and, Bool.and_false, Bool.false_and, Int.reduceBEq, Int.reduceBNe, Nat.reduceMul, Nat.reduceDiv, Int.reduceToNat, Int.reduceNeg, Int.reduceAdd, Int.reduceSub, Int.reduceMul, show ((strOf [7, 8]).toList == (⟨#[7, 8]⟩ : ByteArray).toList) = true by decide +kernel]
  refine store_Age s6 ?_
  simp only [List.length_cons, List.length_nil, Nat.reduceAdd]
  rw [show (if goodAt (over (over (List.replicate 64 false) 3 (List.replicate 2 true)) 4 (List.replicate 1 false)) 3 then
    (aged (over (over (List.replicate 64 false) 3 (List.replicate 2 true)) 4 (List.replicate 1 false)) (over (over (List.replicate 64 0) 3 (List.replicate 2 0)) 4 (List.replicate 1 0))).getD (3 : Int).toNat 0 else -1) = 1 by decide +kernel]
  simp (maxSteps := 2000000) only [vcCore, yieldT, Int.reduceEq, Int.reduceLT, Int.reduceLE, Int.reduceNe, not_true_eq_false, decide_true, decide_false, add_lit', Nat.zero_add, Nat.mul_one, Int.toNat_natCast, List.getElem?_toArray, List.getElem?_cons_zero, List.getElem?_cons_succ, Option.bind_some, List.map_cons, List.map_nil, List.map_toArray, Array.append_empty, Array.empty_append, List.append_nil, List.nil_append, List.append_toArray, ↓reduceIte, Nat.reduceEqDiff, Nat.reduceAdd, Nat.reduceLeDiff, List.contains_cons, List.contains_nil, Nat.reduceBEq, Bool.or_false, Bool.false_or, Bool.or_true, Bool.true_or, Bool.false_eq_true, Value.cells, List.size_toArray, List.length_cons, List.length_nil, Option.map_some, Option.map_none, Option.isSome_some, Option.isSome_none, Option.isNone_some, Option.isNone_none, true_and, and_true, ne_eq, reduceCtorEq, not_false_eq_true, Bool.not_true, Bool.not_false, tyAllRW13b, then_normal, Int.cast_ofNat_Int, BEq.rfl, bne_self_eq_false, beq_self_eq_true, Bool.and_true, Bool.true_and, Bool.and_false, Bool.false_and, Int.reduceBEq, Int.reduceBNe, Nat.reduceMul, Nat.reduceDiv, Int.reduceToNat, Int.reduceNeg, Int.reduceAdd, Int.reduceSub, Int.reduceMul]
  refine store_Age s6 ?_
  simp only [List.length_cons, List.length_nil, Nat.reduceAdd]
  rw [show (if goodAt (over (over (List.replicate 64 false) 3 (List.replicate 2 true)) 4 (List.replicate 1 false)) 4 then
    (aged (over (over (List.replicate 64 false) 3 (List.replicate 2 true)) 4 (List.replicate 1 false)) (over (over (List.replicate 64 0) 3 (List.replicate 2 0)) 4 (List.replicate 1 0))).getD (4 : Int).toNat 0 else -1) = -1 by decide +kernel]
  simp (maxSteps := 2000000) only [vcCore, yieldT, Int.reduceEq, Int.reduceLT, Int.reduceLE, Int.reduceNe, not_true_eq_false, decide_true, decide_false, add_lit', Nat.zero_add, Nat.mul_one, Int.toNat_natCast, List.getElem?_toArray, List.getElem?_cons_zero, List.getElem?_cons_succ, Option.bind_some, List.map_cons, List.map_nil, List.map_toArray, Array.append_empty, Array.empty_append, List.append_nil, List.nil_append, List.append_toArray, ↓reduceIte, Nat.reduceEqDiff, Nat.reduceAdd, Nat.reduceLeDiff, List.contains_cons, List.contains_nil, Nat.reduceBEq, Bool.or_false, Bool.false_or, Bool.or_true, Bool.true_or, Bool.false_eq_true, Value.cells, List.size_toArray, List.length_cons, List.length_nil, Option.map_some, Option.map_none, Option.isSome_some, Option.isSome_none, Option.isNone_some, Option.isNone_none, true_and, and_true, ne_eq, reduceCtorEq, not_false_eq_true, Bool.not_true, Bool.not_false, tyAllRW13b, then_normal, Int.cast_ofNat_Int, BEq.rfl, bne_self_eq_false, beq_self_eq_true, Bool.and_true, Bool.true_and, Bool.and_false, Bool.false_and, Int.reduceBEq, Int.reduceBNe, Nat.reduceMul, Nat.reduceDiv, Int.reduceToNat, Int.reduceNeg, Int.reduceAdd, Int.reduceSub, Int.reduceMul]
  refine h _ (fun k o hk => N6.ext k o (N5.ext k o ?_))
  have hne : (some b) ≠ some k := fun e => by cases e; rw [hb] at hk; cases hk
  exact k4 k o (k3 k o (k2 k o (e2 k o (e1 k o hk)) hne) hne) hne
end
end Go.Proofs.Ytapppaccnkojkaa.R
/- Slices of words that are handed in. No conditions. -/
set_option linter.unusedVariables false
set_option linter.unusedSimpArgs false
namespace Go.Proofs.Ytapppaccnkojkaa.R
open Go Go.RowKit
section
variable {W0 : World}
theorem RS.drop {m : Mem} {A : Option Addr} {n c : Nat} {xs : List Value} (h : RS W0 m (.slice A n c) 1 n xs) {k c' : Nat} (hk : k < n) : RS W0 m (.slice (A.map (·.add (k * 1))) (n - k) c') 1 (n - k) (xs.drop k) := by
  obtain ⟨hl, A', q, hv, h2⟩ := h
  cases hv
  refine ⟨by simp [hl], _, _, rfl, ?_⟩
  rcases h2 with rfl | ⟨a, rfl, h3⟩
  · simp at hl; omega
  · refine .inr ⟨_, rfl, fun j u hj => ?_⟩
    rw [List.getElem?_drop] at hj
    have h4 := h3 _ _ hj
    rw [Nat.mul_one]
    have e : (a.add k).add j = a.add (k + j) := by
      refine add_add a k j ?_
      have := h3 0 xs[0] (List.getElem?_eq_getElem (by omega))
      rw [add_zero'] at this
      exact cellA_spot this
    rw [e]; exact h4
theorem flat_eU8 : ∀ l : List Int, l.flatMap eU8 = u8 l
  | [] => rfl
  | x :: l => by rw [List.flatMap_cons, flat_eU8 l]; rfl
theorem Sl.u8rs {m : Mem} {s : Sl Int} (w : Sl.wf W0 1 eU8 inU8 s) : RS W0 m (.slice s.A s.l.length s.c) 1 s.l.length (u8 s.l) := by
  have := w.2.2.1 m
  rw [flat_eU8] at this
  exact this
theorem Sl.u8b {s : Sl Int} (w : Sl.wf W0 1 eU8 inU8 s) : Byte s.l := fun x hx => by have := w.2.2.2 x hx; unfold inU8 at this; omega
end
end Go.Proofs.Ytapppaccnkojkaa.R
/- The store's layer: two that are alike; slices of words. No conditions. -/
set_option linter.unusedVariables false
set_option linter.unusedSimpArgs false
namespace Go.Proofs.Ytapppaccnkojkaa.R
open Go Go.RowKit Go.Proofs.Ytapppaccnkojkaa
set_option maxRecDepth 100000
set_option maxHeartbeats 8000000
section
variable {W0 : World}
/-- A list, place by place. -/
theorem over_get {α : Type} {l w : List α} {o : Nat} (h : o + w.length ≤ l.length) (j : Nat) : (over l o w)[j]? = if o ≤ j ∧ j < o + w.length then w[j - o]? else l[j]? := by
  have hm : min o l.length = o := by omega
  unfold over
  by_cases h1 : j < o
  · rw [if_neg (by omega), List.append_assoc, List.getElem?_append_left (by simp; omega), List.getElem?_take, if_pos h1]
  · by_cases h2 : j < o + w.length
    · rw [if_pos ⟨by omega, h2⟩, List.append_assoc, List.getElem?_append_right (by simp; omega), List.length_take, hm, List.getElem?_append_left (by omega)]
    · rw [if_neg (by omega), List.getElem?_append_right (by simp; omega), List.getElem?_drop]
      congr 1; simp; omega
end
end Go.Proofs.Ytapppaccnkojkaa.R
/- The reference's places of a store: 64 cells, each a word, whether it is good, its age; and what the store itself keeps of them. No conditions. -/
set_option linter.unusedVariables false
set_option linter.unusedSimpArgs false
namespace Go.Proofs.Ytapppaccnkojkaa.R
open Go Go.RowKit Go.Proofs.Ytapppaccnkojkaa
set_option maxRecDepth 100000
set_option maxHeartbeats 8000000
section
variable {W0 : World}
structure Pl where
  w : Int
  g : Bool
  y : Int
def Pl.cs (p : Pl) : List Value := [.int .u8 p.w, .bool p.g, .int .i64 p.y]
def tab (f : Nat → Pl) : List Value := ((List.range 64).map f).flatMap Pl.cs
/-- A table with one place anew. -/
def putF (f : Nat → Pl) (i : Nat) (x : Pl) : Nat → Pl := fun j => if j = i then x else f j
theorem tab_congr {f g : Nat → Pl} (h : ∀ j, j < 64 → f j = g j) : tab f = tab g := by
  unfold tab
  rw [List.map_congr_left fun j hj => h j (List.mem_range.1 hj)]
theorem rows_length (l : List Pl) : (l.flatMap Pl.cs).length = l.length * 3 := by
  induction l with
  | nil => rfl
  | cons x l ih => rw [List.flatMap_cons, List.length_append, ih, List.length_cons]; simp [Pl.cs]; omega
theorem tab_length (f : Nat → Pl) : (tab f).length = 192 := by unfold tab; rw [rows_length]; simp
theorem tab_size (f : Nat → Pl) : (tab f).toArray.size = 192 := by rw [List.size_toArray, tab_length]
theorem tab_split (f : Nat → Pl) {i : Nat} (hi : i < 64) : tab f = ((List.range i).map f).flatMap Pl.cs ++ (f i).cs ++ ((List.range' (i + 1) (63 - i)).map f).flatMap Pl.cs := by
  unfold tab
  have : List.range 64 = List.range i ++ [i] ++ List.range' (i + 1) (63 - i) := by
    rw [List.range_eq_range', List.range_eq_range', show (64 : Nat) = i + (1 + (63 - i)) by omega, ← List.range'_append_1, ← List.range'_append_1]
    simp
  rw [this]
  simp
theorem tab_get (f : Nat → Pl) {i : Nat} (hi : i < 64) (j : Nat) (hj : j < 3) : (tab f)[i * 3 + j]? = (f i).cs[j]? := by
  rw [tab_split f hi, List.append_assoc, List.getElem?_append_right (by rw [rows_length]; simp), rows_length]
  rw [show i * 3 + j - (List.map f (List.range i)).length * 3 = j by simp]
  rw [List.getElem?_append_left (by simp [Pl.cs]; omega)]
theorem wr_mid' (a x y c : List Value) (h : x.length = y.length) : wr (a ++ x ++ c).toArray a.length y = (a ++ y ++ c).toArray := by
  unfold wr
  simp only [List.append_assoc, List.take_left]
  congr 2
  rw [← h, ← List.append_assoc, ← List.length_append, List.drop_left]
theorem tab_off {f g : Nat → Pl} {i : Nat} (h : ∀ j, j ≠ i → f j = g j) : ((List.range i).map f).flatMap Pl.cs = ((List.range i).map g).flatMap Pl.cs ∧ ((List.range' (i + 1) (63 - i)).map f).flatMap Pl.cs = ((List.range' (i + 1) (63 - i)).map g).flatMap Pl.cs := by
  constructor
  · rw [List.map_congr_left fun j hj => h j (by have := List.mem_range.1 hj; omega)]
  · rw [List.map_congr_left fun j hj => h j (by have := List.mem_range'_1.1 hj; omega)]
theorem tab_set (f : Nat → Pl) {i : Nat} (hi : i < 64) (x : Pl) : wr (tab f).toArray (i * 3) x.cs = (tab (putF f i x)).toArray := by
  obtain ⟨h1, h2⟩ := tab_off (f := f) (g := putF f i x) (i := i) fun j hj => by unfold putF; rw [if_neg hj]
  rw [tab_split f hi, tab_split (putF f i x) hi, ← h1, ← h2]
  have := wr_mid' (((List.range i).map f).flatMap Pl.cs) (f i).cs x.cs (((List.range' (i + 1) (63 - i)).map f).flatMap Pl.cs) rfl
  rw [rows_length] at this
  rw [show (List.map f (List.range i)).length * 3 = i * 3 by simp] at this
  rw [this]
  simp [putF]
theorem tab_age (f : Nat → Pl) {i : Nat} (hi : i < 64) (y : Int) : wr (tab f).toArray (i * 3 + 2) [.int .i64 y] = (tab (putF f i ⟨(f i).w, (f i).g, y⟩)).toArray := by
  obtain ⟨h1, h2⟩ := tab_off (f := f) (g := putF f i ⟨(f i).w, (f i).g, y⟩) (i := i) fun j hj => by unfold putF; rw [if_neg hj]
  rw [tab_split f hi, tab_split (putF f i ⟨(f i).w, (f i).g, y⟩) hi, ← h1, ← h2]
  have := wr_mid' (((List.range i).map f).flatMap Pl.cs ++ [.int .u8 (f i).w, .bool (f i).g]) [.int .i64 (f i).y] [.int .i64 y] (((List.range' (i + 1) (63 - i)).map f).flatMap Pl.cs) rfl
  rw [List.length_append, rows_length] at this
  rw [show (List.map f (List.range i)).length * 3 + [Value.int .u8 (f i).w, .bool (f i).g].length = i * 3 + 2 by simp] at this
  have e1 : ∀ v : Value, (((List.range i).map f).flatMap Pl.cs ++ [.int .u8 (f i).w, .bool (f i).g]) ++ [v] ++ ((List.range' (i + 1) (63 - i)).map f).flatMap Pl.cs = ((List.range i).map f).flatMap Pl.cs ++ [.int .u8 (f i).w, .bool (f i).g, v] ++ ((List.range' (i + 1) (63 - i)).map f).flatMap Pl.cs := fun v => by simp
  rw [e1, e1] at this
  rw [show (f i).cs = [.int .u8 (f i).w, .bool (f i).g, .int .i64 (f i).y] from rfl, this]
  simp [putF, Pl.cs]
/-- What the store keeps of each place. -/
def plF (ws : List Int) (gs : List Bool) (ys : List Int) : Nat → Pl := fun j => ⟨ws.getD j 0, gs.getD j false, ys.getD j 0⟩
theorem over_getD {α : Type} {l w : List α} {o : Nat} {z : α} (h : o + w.length ≤ l.length) (j : Nat) : (over l o w).getD j z = if o ≤ j ∧ j < o + w.length then w.getD (j - o) z else l.getD j z := by
  rw [List.getD_eq_getElem?_getD, over_get h]
  split <;> rw [List.getD_eq_getElem?_getD]
/-- The table while words are written, and while places are spoilt. -/
def wrF (f : Nat → Pl) (o : Nat) (w : List Int) (k : Nat) : Nat → Pl := fun j => if o ≤ j ∧ j < o + k then ⟨w.getD (j - o) 0, true, 0⟩ else f j
def spF (f : Nat → Pl) (o k : Nat) : Nat → Pl := fun j => if o ≤ j ∧ j < o + k then ⟨(f j).w, false, 0⟩ else f j
def agF (f : Nat → Pl) (k : Nat) : Nat → Pl := fun j => if j < k ∧ (f j).g = true then ⟨(f j).w, true, (f j).y + 1⟩ else f j
theorem wrF_zero (f : Nat → Pl) (o : Nat) (w : List Int) : wrF f o w 0 = f := by funext j; unfold wrF; rw [if_neg (by omega)]
theorem spF_zero (f : Nat → Pl) (o : Nat) : spF f o 0 = f := by funext j; unfold spF; rw [if_neg (by omega)]
theorem agF_zero (f : Nat → Pl) : agF f 0 = f := by funext j; unfold agF; rw [if_neg (by omega)]
theorem wrF_put (f : Nat → Pl) (o : Nat) (w : List Int) (k : Nat) : putF (wrF f o w k) (o + k) ⟨w.getD k 0, true, 0⟩ = wrF f o w (k + 1) := by
  funext j
  unfold putF wrF
  by_cases h : j = o + k
  · subst h
    rw [if_pos rfl, if_pos (by omega), show o + k - o = k by omega]
  · rw [if_neg h]
    by_cases h2 : o ≤ j ∧ j < o + k
    · rw [if_pos h2, if_pos (by omega)]
    · rw [if_neg h2, if_neg (by omega)]
theorem spF_put (f : Nat → Pl) (o k : Nat) : putF (spF f o k) (o + k) ⟨(spF f o k (o + k)).w, false, 0⟩ = spF f o (k + 1) := by
  funext j
  unfold putF spF
  by_cases h : j = o + k
  · subst h
    rw [if_pos rfl, if_neg (by omega), if_pos (by omega)]
  · rw [if_neg h]
    by_cases h2 : o ≤ j ∧ j < o + k
    · rw [if_pos h2, if_pos (by omega)]
    · rw [if_neg h2, if_neg (by omega)]
theorem agF_put (f : Nat → Pl) (k : Nat) (h : (f k).g = true) : putF (agF f k) k ⟨(agF f k k).w, (agF f k k).g, (agF f k k).y + 1⟩ = agF f (k + 1) := by
  funext j
  unfold putF agF
  by_cases hj : j = k
  · subst hj
    rw [if_pos rfl, if_neg (by omega), if_pos ⟨by omega, h⟩, h]
  · rw [if_neg hj]
    by_cases h2 : j < k ∧ (f j).g = true
    · rw [if_pos h2, if_pos ⟨by omega, h2.2⟩]
    · rw [if_neg h2, if_neg (fun h3 => h2 ⟨by omega, h3.2⟩)]
theorem agF_no (f : Nat → Pl) (k : Nat) (h : (f k).g = false) : agF f k = agF f (k + 1) := by
  funext j
  unfold agF
  by_cases h2 : j < k ∧ (f j).g = true
  · rw [if_pos h2, if_pos ⟨by omega, h2.2⟩]
  · rw [if_neg h2, if_neg (fun h3 => by
      by_cases hj : j = k
      · subst hj; rw [h] at h3; cases h3.2
      · exact h2 ⟨by omega, h3.2⟩)]
theorem wrF_all {ws : List Int} {gs : List Bool} {ys : List Int} (h1 : ws.length = 64) (h2 : gs.length = 64) (h3 : ys.length = 64) {o : Nat} {w : List Int} (h : o + w.length ≤ 64) :
    wrF (plF ws gs ys) o w w.length = plF (over ws o w) (over gs o (List.replicate w.length true)) (over ys o (List.replicate w.length 0)) := by
  funext j
  unfold wrF plF
  rw [over_getD (by omega), over_getD (by simp; omega), over_getD (by simp; omega)]
  simp only [List.length_replicate]
  by_cases hj : o ≤ j ∧ j < o + w.length
  · simp only [if_pos hj, List.getD_eq_getElem?_getD, List.getElem?_replicate, if_pos (show j - o < w.length by omega), Option.getD_some]
  · simp only [if_neg hj]
theorem spF_all {ws : List Int} {gs : List Bool} {ys : List Int} (h1 : ws.length = 64) (h2 : gs.length = 64) (h3 : ys.length = 64) {o c : Nat} (h : o + c ≤ 64) :
    spF (plF ws gs ys) o c = plF ws (over gs o (List.replicate c false)) (over ys o (List.replicate c 0)) := by
  funext j
  unfold spF plF
  rw [over_getD (by simp; omega), over_getD (by simp; omega)]
  simp only [List.length_replicate]
  by_cases hj : o ≤ j ∧ j < o + c
  · simp only [if_pos hj, List.getD_eq_getElem?_getD, List.getElem?_replicate, if_pos (show j - o < c by omega), Option.getD_some]
  · simp only [if_neg hj]
theorem agF_all {ws : List Int} {gs : List Bool} {ys : List Int} (h2 : gs.length = 64) (h3 : ys.length = 64) (hy : ∀ y ∈ ys, y ≤ 60) : ∀ j, j < 64 → agF (plF ws gs ys) 64 j = plF ws gs (aged gs ys) j := by
  intro j hj
  obtain ⟨y, hyy⟩ : ∃ y, ys[j]? = some y := ⟨ys[j], by simp [h3, hj]⟩
  obtain ⟨g, hg⟩ : ∃ g, gs[j]? = some g := ⟨gs[j], by simp [h2, hj]⟩
  have := hy y (List.mem_of_getElem? hyy)
  unfold agF plF aged
  simp only [List.getD_eq_getElem?_getD, List.getElem?_zipWith, hyy, hg, Option.getD_some]
  cases g
  · simp [ager]
  · simp [ager, hj]; omega
end
end Go.Proofs.Ytapppaccnkojkaa.R
