/- How many bits so many words have. No conditions. -/
import Derived.Test.YtapppaccnkojkaaRAuto
import Derived.Test.YtapppaccnkojkaaSBusMoreRT
import Derived.Test.YtapppaccnkojkaaRLib2
import Derived.Test.YtapppaccnkojkaaROpen
set_option linter.unusedVariables false
set_option linter.unusedSimpArgs false
namespace Go.Proofs.Ytapppaccnkojkaa.R
open Go Go.RowKit Go.Proofs.Ytapppaccnkojkaa
set_option maxRecDepth 100000
set_option maxHeartbeats 8000000
section
variable {W0 : World}
end
end Go.Proofs.Ytapppaccnkojkaa.R
set_option linter.unusedVariables false
set_option linter.unusedSimpArgs false
namespace Go.Proofs.Ytapppaccnkojkaa.R
open Go Go.RowKit Go.Proofs.Ytapppaccnkojkaa
set_option maxRecDepth 100000
set_option maxHeartbeats 400000
section
variable {W0 : World}
end
end Go.Proofs.Ytapppaccnkojkaa.R
/- The wires' layer, over the logic of partial memories. No conditions. -/
set_option linter.unusedVariables false
set_option linter.unusedSimpArgs false
namespace Go.Proofs.Ytapppaccnkojkaa.R
open Go Go.RowKit Go.Proofs.Ytapppaccnkojkaa
set_option maxRecDepth 100000
set_option maxHeartbeats 8000000
theorem tyAllRW03 : type_of% (And.intro (And.intro (And.intro (And.intro (And.intro ty_1 ty_2) (And.intro ty_3 (And.intro ty_4 ty_5))) (And.intro (And.intro ty_6 (And.intro ty_7 ty_8)) (And.intro ty_9 (And.intro ty_12 ty_13)))) (And.intro (And.intro (And.intro ty_14 (And.intro ty_21 ty_24)) (And.intro ty_25 (And.intro ty_26 ty_27))) (And.intro (And.intro ty_28 (And.intro ty_35 ty_38)) (And.intro ty_43 (And.intro ty_48 ty_53))))) (And.intro (And.intro (And.intro (And.intro ty_61 ty_62) (And.intro ty_63 (And.intro ty_64 ty_67))) (And.intro (And.intro ty_68 (And.intro ty_71 ty_72)) (And.intro ty_73 (And.intro ty_76 ty_85)))) (And.intro (And.intro (And.intro ty_86 (And.intro ty_87 ty_93)) (And.intro ty_94 (And.intro ty_100 ty_101))) (And.intro (And.intro ty_102 (And.intro ty_103 ty_121)) (And.intro ty_124 (And.intro ty_171 ty_172)))))) := (And.intro (And.intro (And.intro (And.intro (And.intro ty_1 ty_2) (And.intro ty_3 (And.intro ty_4 ty_5))) (And.intro (And.intro ty_6 (And.intro ty_7 ty_8)) (And.intro ty_9 (And.intro ty_12 ty_13)))) (And.intro (And.intro (And.intro ty_14 (And.intro ty_21 ty_24)) (And.intro ty_25 (And.intro ty_26 ty_27))) (And.intro (And.intro ty_28 (And.intro ty_35 ty_38)) (And.intro ty_43 (And.intro ty_48 ty_53))))) (And.intro (And.intro (And.intro (And.intro ty_61 ty_62) (And.intro ty_63 (And.intro ty_64 ty_67))) (And.intro (And.intro ty_68 (And.intro ty_71 ty_72)) (And.intro ty_73 (And.intro ty_76 ty_85)))) (And.intro (And.intro (And.intro ty_86 (And.intro ty_87 ty_93)) (And.intro ty_94 (And.intro ty_100 ty_101))) (And.intro (And.intro ty_102 (And.intro ty_103 ty_121)) (And.intro ty_124 (And.intro ty_171 ty_172))))))
section
variable {W0 : World}
def isL (n : Int) : Bool := decide (0 ≤ n) && decide (n ≤ 3)
def setL (l n : Int) (h : Bool) : Int := if isL n then (if h then bits .or .u8 (bits .andNot .u8 l (2 ^ n.toNat)) (2 ^ n.toNat) else bits .andNot .u8 l (2 ^ n.toNat)) else l
def pulL (y : Bool) : Int := if y then 12 else 3
def sideL (l : Int) (y : Bool) : Int := bits .and .u8 l (pulL y)
theorem wires_X {m : Mem} {K : Value → Mem → Prop} (h : K (.int .u8 3) m) : CallA Try.prog W0 101 #[] m K := by
  refine en_101 (l := []) (by simp [Try.ntmps101]) ?_
  simp (maxSteps := 2000000) only [Try.f101, Option.getD_some, vcCore, yieldT, Int.reduceEq, Int.reduceLT, Int.reduceLE, Int.reduceNe, not_true_eq_false, decide_true, decide_false, add_lit', Nat.zero_add, Nat.mul_one, Int.toNat_natCast, List.getElem?_toArray, List.getElem?_cons_zero, List.getElem?_cons_succ, Option.bind_some, List.map_cons, List.map_nil, List.map_toArray, Array.append_empty, Array.empty_append, List.append_nil, List.nil_append, List.append_toArray, ↓reduceIte, Nat.reduceEqDiff, Nat.reduceAdd, Nat.reduceLeDiff, List.contains_cons, List.contains_nil, Nat.reduceBEq, Bool.or_false, Bool.false_or, Bool.or_true, Bool.true_or, Bool.false_eq_true, Value.cells, List.size_toArray, List.length_cons, List.length_nil, Option.map_some, Option.map_none, Option.isSome_some, Option.isSome_none, Option.isNone_some, Option.isNone_none, true_and, and_true, ne_eq, reduceCtorEq, not_false_eq_true, Bool.not_true, Bool.not_false, tyAllRW03, then_normal]
  exact h
theorem wires_Y {m : Mem} {K : Value → Mem → Prop} (h : K (.int .u8 12) m) : CallA Try.prog W0 102 #[] m K := by
  refine en_102 (l := []) (by simp [Try.ntmps102]) ?_
  simp (maxSteps := 2000000) only [Try.f102, Option.getD_some, vcCore, yieldT, Int.reduceEq, Int.reduceLT, Int.reduceLE, Int.reduceNe, not_true_eq_false, decide_true, decide_false, add_lit', Nat.zero_add, Nat.mul_one, Int.toNat_natCast, List.getElem?_toArray, List.getElem?_cons_zero, List.getElem?_cons_succ, Option.bind_some, List.map_cons, List.map_nil, List.map_toArray, Array.append_empty, Array.empty_append, List.append_nil, List.nil_append, List.append_toArray, ↓reduceIte, Nat.reduceEqDiff, Nat.reduceAdd, Nat.reduceLeDiff, List.contains_cons, List.contains_nil, Nat.reduceBEq, Bool.or_false, Bool.false_or, Bool.or_true, Bool.true_or, Bool.false_eq_true, Value.cells, List.size_toArray, List.length_cons, List.length_nil, Option.map_some, Option.map_none, Option.isSome_some, Option.isSome_none, Option.isNone_some, Option.isNone_none, true_and, and_true, ne_eq, reduceCtorEq, not_false_eq_true, Bool.not_true, Bool.not_false, tyAllRW03, then_normal]
  exact h
theorem wires_Pulse {m : Mem} {K : Value → Mem → Prop} {y : Bool} (h : K (.int .u8 (pulL y)) m) : CallA Try.prog W0 121 #[.bool y] m K := by
  refine en_121 (l := [.bool y]) (by simp [Try.ntmps121]) ?_
  cases y <;> simp (maxSteps := 2000000) only [Try.f121, Option.getD_some, vcCore, yieldT, Int.reduceEq, Int.reduceLT, Int.reduceLE, Int.reduceNe, not_true_eq_false, decide_true, decide_false, add_lit', Nat.zero_add, Nat.mul_one, Int.toNat_natCast, List.getElem?_toArray, List.getElem?_cons_zero, List.getElem?_cons_succ, Option.bind_some, List.map_cons, List.map_nil, List.map_toArray, Array.append_empty, Array.empty_append, List.append_nil, List.nil_append, List.append_toArray, ↓reduceIte, Nat.reduceEqDiff, Nat.reduceAdd, Nat.reduceLeDiff, List.contains_cons, List.contains_nil, Nat.reduceBEq, Bool.or_false, Bool.false_or, Bool.or_true, Bool.true_or, Bool.false_eq_true, Value.cells, List.size_toArray, List.length_cons, List.length_nil, Option.map_some, Option.map_none, Option.isSome_some, Option.isSome_none, Option.isNone_some, Option.isNone_none, true_and, and_true, ne_eq, reduceCtorEq, not_false_eq_true, Bool.not_true, Bool.not_false, tyAllRW03, then_normal]
  · refine wires_X ?_
    simp (maxSteps := 2000000) only [vcCore, yieldT, Int.reduceEq, Int.reduceLT, Int.reduceLE, Int.reduceNe, not_true_eq_false, decide_true, decide_false, add_lit', Nat.zero_add, Nat.mul_one, Int.toNat_natCast, List.getElem?_toArray, List.getElem?_cons_zero, List.getElem?_cons_succ, Option.bind_some, List.map_cons, List.map_nil, List.map_toArray, Array.append_empty, Array.empty_append, List.append_nil, List.nil_append, List.append_toArray, ↓reduceIte, Nat.reduceEqDiff, Nat.reduceAdd, Nat.reduceLeDiff, List.contains_cons, List.contains_nil, Nat.reduceBEq, Bool.or_false, Bool.false_or, Bool.or_true, Bool.true_or, Bool.false_eq_true, Value.cells, List.size_toArray, List.length_cons, List.length_nil, Option.map_some, Option.map_none, Option.isSome_some, Option.isSome_none, Option.isNone_some, Option.isNone_none, true_and, and_true, ne_eq, reduceCtorEq, not_false_eq_true, Bool.not_true, Bool.not_false, tyAllRW03, then_normal]
    exact h
  · refine wires_Y ?_
    simp (maxSteps := 2000000) only [vcCore, yieldT, Int.reduceEq, Int.reduceLT, Int.reduceLE, Int.reduceNe, not_true_eq_false, decide_true, decide_false, add_lit', Nat.zero_add, Nat.mul_one, Int.toNat_natCast, List.getElem?_toArray, List.getElem?_cons_zero, List.getElem?_cons_succ, Option.bind_some, List.map_cons, List.map_nil, List.map_toArray, Array.append_empty, Array.empty_append, List.append_nil, List.nil_append, List.append_toArray, ↓reduceIte, Nat.reduceEqDiff, Nat.reduceAdd, Nat.reduceLeDiff, List.contains_cons, List.contains_nil, Nat.reduceBEq, Bool.or_false, Bool.false_or, Bool.or_true, Bool.true_or, Bool.false_eq_true, Value.cells, List.size_toArray, List.length_cons, List.length_nil, Option.map_some, Option.map_none, Option.isSome_some, Option.isSome_none, Option.isNone_some, Option.isNone_none, true_and, and_true, ne_eq, reduceCtorEq, not_false_eq_true, Bool.not_true, Bool.not_false, tyAllRW03, then_normal]
    exact h
theorem wires_Side {m : Mem} {K : Value → Mem → Prop} {l : Int} {y : Bool} (h : K (.int .u8 (sideL l y)) m) : CallA Try.prog W0 100 #[.int .u8 l, .bool y] m K := by
  refine en_100 (l := [.int .u8 l, .bool y]) (by simp [Try.ntmps100]) ?_
  simp (maxSteps := 2000000) only [Try.f100, Option.getD_some, vcCore, yieldT, Int.reduceEq, Int.reduceLT, Int.reduceLE, Int.reduceNe, not_true_eq_false, decide_true, decide_false, add_lit', Nat.zero_add, Nat.mul_one, Int.toNat_natCast, List.getElem?_toArray, List.getElem?_cons_zero, List.getElem?_cons_succ, Option.bind_some, List.map_cons, List.map_nil, List.map_toArray, Array.append_empty, Array.empty_append, List.append_nil, List.nil_append, List.append_toArray, ↓reduceIte, Nat.reduceEqDiff, Nat.reduceAdd, Nat.reduceLeDiff, List.contains_cons, List.contains_nil, Nat.reduceBEq, Bool.or_false, Bool.false_or, Bool.or_true, Bool.true_or, Bool.false_eq_true, Value.cells, List.size_toArray, List.length_cons, List.length_nil, Option.map_some, Option.map_none, Option.isSome_some, Option.isSome_none, Option.isNone_some, Option.isNone_none, true_and, and_true, ne_eq, reduceCtorEq, not_false_eq_true, Bool.not_true, Bool.not_false, tyAllRW03, then_normal]
  refine wires_Pulse ?_
  simp (maxSteps := 2000000) only [vcCore, yieldT, Int.reduceEq, Int.reduceLT, Int.reduceLE, Int.reduceNe, not_true_eq_false, decide_true, decide_false, add_lit', Nat.zero_add, Nat.mul_one, Int.toNat_natCast, List.getElem?_toArray, List.getElem?_cons_zero, List.getElem?_cons_succ, Option.bind_some, List.map_cons, List.map_nil, List.map_toArray, Array.append_empty, Array.empty_append, List.append_nil, List.nil_append, List.append_toArray, ↓reduceIte, Nat.reduceEqDiff, Nat.reduceAdd, Nat.reduceLeDiff, List.contains_cons, List.contains_nil, Nat.reduceBEq, Bool.or_false, Bool.false_or, Bool.or_true, Bool.true_or, Bool.false_eq_true, Value.cells, List.size_toArray, List.length_cons, List.length_nil, Option.map_some, Option.map_none, Option.isSome_some, Option.isSome_none, Option.isNone_some, Option.isNone_none, true_and, and_true, ne_eq, reduceCtorEq, not_false_eq_true, Bool.not_true, Bool.not_false, tyAllRW03, then_normal]
  exact h
end
end Go.Proofs.Ytapppaccnkojkaa.R
/- The plan's layer, over the logic of partial memories. No conditions. -/
set_option linter.unusedVariables false
set_option linter.unusedSimpArgs false
namespace Go.Proofs.Ytapppaccnkojkaa.R
open Go Go.RowKit Go.Proofs.Ytapppaccnkojkaa
set_option maxRecDepth 100000
set_option maxHeartbeats 8000000
section
variable {W0 : World}
structure SlotV where
  kind : Int
  start : Int
  long : Int
  words : Int
  addr : Int
  many : Int
  cand : Int
  take : Bool
abbrev SlotV.v (s : SlotV) : Value := .agg #[.int .i64 s.kind, .int .i64 s.start, .int .i64 s.long, .int .i64 s.words, .int .i64 s.addr, .int .i64 s.many, .int .i64 s.cand, .bool s.take]
def SlotV.begin (s : SlotV) (c : Int) : Int := if s.kind = 0 ∧ 0 ≤ c ∧ c < max s.many 1 then IntKind.i64.wrap (IntKind.i64.wrap (2 + IntKind.i64.wrap (4 * c)) * 20) else 0
end
end Go.Proofs.Ytapppaccnkojkaa.R
/- The library's slices, over the logic of partial memories. No conditions. -/
set_option linter.unusedVariables false
set_option linter.unusedSimpArgs false
namespace Go.Proofs.Ytapppaccnkojkaa.R
open Go Go.RowKit Go.Proofs.Ytapppaccnkojkaa
set_option maxRecDepth 100000
set_option maxHeartbeats 8000000
section
variable {W0 : World}
end
end Go.Proofs.Ytapppaccnkojkaa.R
/- The plan's layer: windows, over the logic of partial memories. No conditions. -/
set_option linter.unusedVariables false
set_option linter.unusedSimpArgs false
namespace Go.Proofs.Ytapppaccnkojkaa.R
open Go Go.RowKit Go.Proofs.Ytapppaccnkojkaa
set_option maxRecDepth 100000




set_option maxHeartbeats 400000
section
variable {W0 : World}
end
end Go.Proofs.Ytapppaccnkojkaa.R
/- The plan's layer: schedules, over the logic of partial memories. No conditions. -/
set_option linter.unusedVariables false
set_option linter.unusedSimpArgs false
namespace Go.Proofs.Ytapppaccnkojkaa.R
open Go Go.RowKit Go.Proofs.Ytapppaccnkojkaa
set_option maxRecDepth 100000
set_option maxHeartbeats 8000000
section
variable {W0 : World}
end
end Go.Proofs.Ytapppaccnkojkaa.R
/- The plan's layer: what a module has of a frame, over the logic of partial memories. No conditions. -/
set_option linter.unusedVariables false
set_option linter.unusedSimpArgs false
namespace Go.Proofs.Ytapppaccnkojkaa.R
open Go Go.RowKit Go.Proofs.Ytapppaccnkojkaa
set_option maxRecDepth 100000
set_option maxHeartbeats 8000000
section
variable {W0 : World}
def SlotV.cs (s : SlotV) : List Value := [.int .i64 s.kind, .int .i64 s.start, .int .i64 s.long, .int .i64 s.words, .int .i64 s.addr, .int .i64 s.many, .int .i64 s.cand, .bool s.take]
end
end Go.Proofs.Ytapppaccnkojkaa.R
/- The plan's layer: pulses, the reference, and what the laws ask first, over the logic of partial memories. No conditions. -/
set_option linter.unusedVariables false
set_option linter.unusedSimpArgs false
namespace Go.Proofs.Ytapppaccnkojkaa.R
open Go Go.RowKit Go.Proofs.Ytapppaccnkojkaa
set_option maxRecDepth 100000
set_option maxHeartbeats 8000000
section
variable {W0 : World}
end
end Go.Proofs.Ytapppaccnkojkaa.R
/- The serial layer: places of slots, over the logic of partial memories. No conditions. -/
set_option linter.unusedVariables false
set_option linter.unusedSimpArgs false
namespace Go.Proofs.Ytapppaccnkojkaa.R
open Go Go.RowKit Go.Proofs.Ytapppaccnkojkaa
set_option maxRecDepth 100000
set_option maxHeartbeats 8000000
section
variable {W0 : World}
theorem wires_Side' {m : Mem} (l : Int) (y : Bool) : Ret Try.prog W0 100 #[.int .u8 l, .bool y] m (.int .u8 (sideL l y)) := ⟨fun K h => wires_Side (h _ (Ext.refl _))⟩
/-- Where a candidate's words begin (0: nowhere). -/
def bg (s : SlotV) (c : Int) : Int := if s.kind = 0 ∧ 0 ≤ c ∧ c < max s.many 1 then 40 + 80 * c else 0
end
end Go.Proofs.Ytapppaccnkojkaa.R
/- The serial layer: looks, over the logic of partial memories. No conditions. -/
set_option linter.unusedVariables false
set_option linter.unusedSimpArgs false
namespace Go.Proofs.Ytapppaccnkojkaa.R
open Go Go.RowKit Go.Proofs.Ytapppaccnkojkaa
set_option maxRecDepth 100000
set_option maxHeartbeats 8000000
section
variable {W0 : World}
end
end Go.Proofs.Ytapppaccnkojkaa.R
/- The gate's layer, over the logic of partial memories. No conditions. -/
set_option linter.unusedVariables false
set_option linter.unusedSimpArgs false
namespace Go.Proofs.Ytapppaccnkojkaa.R
open Go Go.RowKit Go.Proofs.Ytapppaccnkojkaa
set_option maxRecDepth 100000
set_option maxHeartbeats 8000000
theorem tyAllRW18 : type_of% (And.intro (And.intro (And.intro (And.intro ty_1 ty_2) (And.intro ty_3 (And.intro ty_5 ty_12))) (And.intro (And.intro ty_17 ty_21) (And.intro ty_35 (And.intro ty_48 ty_58)))) (And.intro (And.intro (And.intro ty_71 ty_209) (And.intro ty_210 (And.intro ty_211 ty_212))) (And.intro (And.intro ty_213 ty_214) (And.intro ty_215 (And.intro ty_216 ty_217))))) := (And.intro (And.intro (And.intro (And.intro ty_1 ty_2) (And.intro ty_3 (And.intro ty_5 ty_12))) (And.intro (And.intro ty_17 ty_21) (And.intro ty_35 (And.intro ty_48 ty_58)))) (And.intro (And.intro (And.intro ty_71 ty_209) (And.intro ty_210 (And.intro ty_211 ty_212))) (And.intro (And.intro ty_213 ty_214) (And.intro ty_215 (And.intro ty_216 ty_217)))))
section
variable {W0 : World}
def orL (l : List Int) : Int := l.foldl (fun a b => bits .or .u8 a b) 0
theorem orL_snoc (l : List Int) (x : Int) : orL (l ++ [x]) = bits .or .u8 (orL l) x := by simp [orL]
theorem wires_Or {m : Mem} {A : Option Addr} {c : Nat} {l : List Int} (hr : RS W0 m (.slice A l.length c) 1 l.length (u8 l)) (hl : l.length ≤ 1000000) : Ret Try.prog W0 35 #[.slice A l.length c] m (.int .u8 (orL l)) := by
  refine ⟨fun K h => ?_⟩
  refine en_35 (l := [.slice A l.length c]) (by simp [Try.ntmps35]) ?_
  have X : Ext m m := Ext.refl m
  simp (maxSteps := 2000000) only [Try.f35, Option.getD_some, vcCore, yieldT, Int.reduceEq, Int.reduceLT, Int.reduceLE, Int.reduceNe, not_true_eq_false, decide_true, decide_false, add_lit', Nat.zero_add, Nat.mul_one, Int.toNat_natCast, List.getElem?_toArray, List.getElem?_cons_zero, List.getElem?_cons_succ, Option.bind_some, List.map_cons, List.map_nil, List.map_toArray, Array.append_empty, Array.empty_append, List.append_nil, List.nil_append, List.append_toArray, ↓reduceIte, Nat.reduceEqDiff, Nat.reduceAdd, Nat.reduceLeDiff, List.contains_cons, List.contains_nil, Nat.reduceBEq, Bool.or_false, Bool.false_or, Bool.or_true, Bool.true_or, Bool.false_eq_true, Value.cells, List.size_toArray, List.length_cons, List.length_nil, Option.map_some, Option.map_none, Option.isSome_some, Option.isSome_none, Option.isNone_some, Option.isNone_none, true_and, and_true, ne_eq, reduceCtorEq, not_false_eq_true, Bool.not_true, Bool.not_false, tyAllRW18, then_normal, Int.cast_ofNat_Int, BEq.rfl, bne_self_eq_false, beq_self_eq_true, Bool.and_true, Bool.true_and, Bool.and_false, Bool.false_and, Int.reduceBEq, Int.reduceBNe, Nat.reduceMul, Nat.reduceDiv, Int.reduceToNat, Int.reduceNeg, Int.reduceAdd, Int.reduceSub, Int.reduceMul, ext_lit, Nat.reduceSub, Nat.add_zero, mp2_app, resK_cc, implies_true, imp_self, bb_ft, bb_tf, bb_t, bb_f, bn_t, bn_f, Nat.reduceLT, Mem.set_app, Mem.set_set, Ext_mp1, Ext_two, st_agg, ones_nil, ones_cons, oc_int, oc_bool, oc_str, oc_ptr, oc_sl, oc_map, max_if, min_if, bld_nil, bld_cons, bldStep_some, wr_def, List.take_succ_cons, List.take_zero, List.drop_succ_cons, List.drop_zero, List.cons_append, List.toList_toArray]
  refine loop_rule (fun d t m' => Ext m m' ∧ ∃ i : Nat, i ≤ l.length ∧ d = l.length - i ∧ t 6 = .slice A l.length c ∧ t 7 = .int .i64 l.length ∧ t 8 = .int .i64 i ∧ t 3 = .int .u8 (orL (l.take i)))
    l.length (by kernel_rfl) ⟨X, 0, by omega, by omega, rfl, rfl, rfl, rfl⟩ ?_
  clear X
  rintro d t m' ⟨X, i, hi, rfl, t6, t7, t8, t3⟩
  by_cases hlt : i < l.length
  · have h1 := nat_lt hlt
    have h2 := wrap_succ (i := i) (by omega)
    obtain ⟨x, hx⟩ := get_some hlt
    obtain ⟨a, rfl, hc⟩ := (hr.ext X).u8 hx
    have ho := orL_snoc (l.take i) x
    rw [← take_step hx] at ho
    have ho' := ho.symm
    clear ho hx
    repeat' (first
      | simp (maxSteps := 2000000) only [vcCore, yieldT, Int.reduceEq, Int.reduceLT, Int.reduceLE, Int.reduceNe, not_true_eq_false, decide_true, decide_false, add_lit', Nat.zero_add, Nat.mul_one, Int.toNat_natCast, List.getElem?_toArray, List.getElem?_cons_zero, List.getElem?_cons_succ, Option.bind_some, List.map_cons, List.map_nil, List.map_toArray, Array.append_empty, Array.empty_append, List.append_nil, List.nil_append, List.append_toArray, ↓reduceIte, Nat.reduceEqDiff, Nat.reduceAdd, Nat.reduceLeDiff, List.contains_cons, List.contains_nil, Nat.reduceBEq, Bool.or_false, Bool.false_or, Bool.or_true, Bool.true_or, Bool.false_eq_true, Value.cells, List.size_toArray, List.length_cons, List.length_nil, Option.map_some, Option.map_none, Option.isSome_some, Option.isSome_none, Option.isNone_some, Option.isNone_none, true_and, and_true, ne_eq, reduceCtorEq, not_false_eq_true, Bool.not_true, Bool.not_false, tyAllRW18, then_normal, Int.cast_ofNat_Int, BEq.rfl, bne_self_eq_false, beq_self_eq_true, Bool.and_true, Bool.true_and, Bool.and_false, Bool.false_and, Int.reduceBEq, Int.reduceBNe, Nat.reduceMul, Nat.reduceDiv, Int.reduceToNat, Int.reduceNeg, Int.reduceAdd, Int.reduceSub, Int.reduceMul, ext_lit, Nat.reduceSub, Nat.add_zero, mp2_app, resK_cc, implies_true, imp_self, bb_ft, bb_tf, bb_t, bb_f, bn_t, bn_f, Nat.reduceLT, Mem.set_app, Mem.set_set, Ext_mp1, Ext_two, st_agg, ones_nil, ones_cons, oc_int, oc_bool, oc_str, oc_ptr, oc_sl, oc_map, max_if, min_if, bld_nil, bld_cons, bldStep_some, wr_def, List.take_succ_cons, List.take_zero, List.drop_succ_cons, List.drop_zero, List.cons_append, List.toList_toArray, *]
      | (rw [mset_eq b1]; generalize hM : mset _ b1 _ = mS; (try replace X := set_X hM X n1); (first | replace KP := KP_self hM KP | replace KP := KP_set hM KP n1 | skip); (try replace N1 := set_N hM N1 n1 z1); (try (replace o2 := set_o hM o2 d21; replace c2 := blk_facts hb2 o2)); (try (replace o3 := set_o hM o3 d31; replace c3 := blk_facts hb3 o3)); (try (replace o4 := set_o hM o4 d41; replace c4 := blk_facts hb4 o4)); (try (replace o5 := set_o hM o5 d51; replace c5 := blk_facts hb5 o5)); replace o1 := set_same hM; clear hM; replace c1 := blk_facts hb1 o1)
      | (rw [mset_eq b2]; generalize hM : mset _ b2 _ = mS; (try replace X := set_X hM X n2); (first | replace KP := KP_self hM KP | replace KP := KP_set hM KP n2 | skip); (try replace N1 := set_N hM N1 n2 z2); (try (replace o1 := set_o hM o1 d12; replace c1 := blk_facts hb1 o1)); (try (replace o3 := set_o hM o3 d32; replace c3 := blk_facts hb3 o3)); (try (replace o4 := set_o hM o4 d42; replace c4 := blk_facts hb4 o4)); (try (replace o5 := set_o hM o5 d52; replace c5 := blk_facts hb5 o5)); replace o2 := set_same hM; clear hM; replace c2 := blk_facts hb2 o2)
      | (rw [mset_eq b3]; generalize hM : mset _ b3 _ = mS; (try replace X := set_X hM X n3); (first | replace KP := KP_self hM KP | replace KP := KP_set hM KP n3 | skip); (try replace N1 := set_N hM N1 n3 z3); (try (replace o1 := set_o hM o1 d13; replace c1 := blk_facts hb1 o1)); (try (replace o2 := set_o hM o2 d23; replace c2 := blk_facts hb2 o2)); (try (replace o4 := set_o hM o4 d43; replace c4 := blk_facts hb4 o4)); (try (replace o5 := set_o hM o5 d53; replace c5 := blk_facts hb5 o5)); replace o3 := set_same hM; clear hM; replace c3 := blk_facts hb3 o3)
      | (rw [mset_eq b4]; generalize hM : mset _ b4 _ = mS; (try replace X := set_X hM X n4); (first | replace KP := KP_self hM KP | replace KP := KP_set hM KP n4 | skip); (try replace N1 := set_N hM N1 n4 z4); (try (replace o1 := set_o hM o1 d14; replace c1 := blk_facts hb1 o1)); (try (replace o2 := set_o hM o2 d24; replace c2 := blk_facts hb2 o2)); (try (replace o3 := set_o hM o3 d34; replace c3 := blk_facts hb3 o3)); (try (replace o5 := set_o hM o5 d54; replace c5 := blk_facts hb5 o5)); replace o4 := set_same hM; clear hM; replace c4 := blk_facts hb4 o4)
      | (rw [mset_eq b5]; generalize hM : mset _ b5 _ = mS; (try replace X := set_X hM X n5); (first | replace KP := KP_self hM KP | replace KP := KP_set hM KP n5 | skip); (try replace N1 := set_N hM N1 n5 z5); (try (replace o1 := set_o hM o1 d15; replace c1 := blk_facts hb1 o1)); (try (replace o2 := set_o hM o2 d25; replace c2 := blk_facts hb2 o2)); (try (replace o3 := set_o hM o3 d35; replace c3 := blk_facts hb3 o3)); (try (replace o4 := set_o hM o4 d45; replace c4 := blk_facts hb4 o4)); replace o5 := set_same hM; clear hM; replace c5 := blk_facts hb5 o5)
      | ((first | ((with_reducible refine newK_init ?_ ?_ ?_ ?_); (focus (intro b; simp only [ev_tmp, ev_const, upd_app, reduceCtorEq, Nat.reduceEqDiff, Nat.reduceAdd, ↓reduceIte, Value.cells, List.size_toArray, List.length_cons, List.length_nil, st_int, st_bool, st_string, st_pointer, st_slice, st_map, st_agg, ones_nil, ones_cons, oc_int, oc_bool, oc_str, oc_ptr, oc_sl, oc_map, Bool.and_true, tyAllRW18, Option.map_some]; done)); (focus (simp only [ev_tmp, ev_const, upd_app, reduceCtorEq, Nat.reduceEqDiff, Nat.reduceAdd, ↓reduceIte, Value.cells, List.size_toArray, List.length_cons, List.length_nil, st_int, st_bool, st_string, st_pointer, st_slice, st_map, st_agg, ones_nil, ones_cons, oc_int, oc_bool, oc_str, oc_ptr, oc_sl, oc_map, Bool.and_true, tyAllRW18, Option.map_some]; done)); (focus (intro b; simp only [ev_tmp, ev_const, upd_app, reduceCtorEq, Nat.reduceEqDiff, Nat.reduceAdd, ↓reduceIte, Value.cells, List.size_toArray, List.length_cons, List.length_nil, st_int, st_bool, st_string, st_pointer, st_slice, st_map, st_agg, ones_nil, ones_cons, oc_int, oc_bool, oc_str, oc_ptr, oc_sl, oc_map, Bool.and_true, tyAllRW18, Option.map_some]; done))) | ((with_reducible refine newK.id ?_); refine newK_intro ?_) | ((with_reducible refine RunA.id ?_); (first | with_reducible refine rbuild1 sl_71 ze_48 ?_ ?_ ?_); (focus (simp only [Value.cells, List.size_toArray, List.length_cons, List.length_nil]; done)); (focus decide)) | ((first | with_reducible refine bG1 sl_71 ze_48 ?_ ?_ ?_); (focus (simp only [Value.cells, List.size_toArray, List.length_cons, List.length_nil]; done)); (focus decide)) | ((with_reducible refine RunA.id ?_); (first | with_reducible refine rbuild2 sl_71 ze_48 rfl rfl ?_)) | (first | with_reducible refine bG2 sl_71 ze_48 rfl rfl ?_)); (first | (have := o4; intro b5 m1 hb5 n5 e1 o5; (try (have d51 := ne_of o1 n5; have d15 := d51.symm)); (try (have d52 := ne_of o2 n5; have d25 := d52.symm)); (try (have d53 := ne_of o3 n5; have d35 := d53.symm)); (try (have d54 := ne_of o4 n5; have d45 := d54.symm)); (try have z5 := own_ne N1.own n5); replace n5 := none_of X n5; (try simp only [ev_tmp, ev_const, upd_app, reduceCtorEq, Nat.reduceEqDiff, Nat.reduceAdd, ↓reduceIte, Value.cells, List.size_toArray, List.length_cons, List.length_nil, st_int, st_bool, st_string, st_pointer, st_slice, st_map, st_agg, ones_nil, ones_cons, oc_int, oc_bool, oc_str, oc_ptr, oc_sl, oc_map, Bool.and_true, tyAllRW18, Option.map_some] at o5)) | (have := o3; intro b4 m1 hb4 n4 e1 o4; (try (have d41 := ne_of o1 n4; have d14 := d41.symm)); (try (have d42 := ne_of o2 n4; have d24 := d42.symm)); (try (have d43 := ne_of o3 n4; have d34 := d43.symm)); (try have z4 := own_ne N1.own n4); replace n4 := none_of X n4; (try simp only [ev_tmp, ev_const, upd_app, reduceCtorEq, Nat.reduceEqDiff, Nat.reduceAdd, ↓reduceIte, Value.cells, List.size_toArray, List.length_cons, List.length_nil, st_int, st_bool, st_string, st_pointer, st_slice, st_map, st_agg, ones_nil, ones_cons, oc_int, oc_bool, oc_str, oc_ptr, oc_sl, oc_map, Bool.and_true, tyAllRW18, Option.map_some] at o4)) | (have := o2; intro b3 m1 hb3 n3 e1 o3; (try (have d31 := ne_of o1 n3; have d13 := d31.symm)); (try (have d32 := ne_of o2 n3; have d23 := d32.symm)); (try have z3 := own_ne N1.own n3); replace n3 := none_of X n3; (try simp only [ev_tmp, ev_const, upd_app, reduceCtorEq, Nat.reduceEqDiff, Nat.reduceAdd, ↓reduceIte, Value.cells, List.size_toArray, List.length_cons, List.length_nil, st_int, st_bool, st_string, st_pointer, st_slice, st_map, st_agg, ones_nil, ones_cons, oc_int, oc_bool, oc_str, oc_ptr, oc_sl, oc_map, Bool.and_true, tyAllRW18, Option.map_some] at o3)) | (have := o1; intro b2 m1 hb2 n2 e1 o2; (try (have d21 := ne_of o1 n2; have d12 := d21.symm)); (try have z2 := own_ne N1.own n2); replace n2 := none_of X n2; (try simp only [ev_tmp, ev_const, upd_app, reduceCtorEq, Nat.reduceEqDiff, Nat.reduceAdd, ↓reduceIte, Value.cells, List.size_toArray, List.length_cons, List.length_nil, st_int, st_bool, st_string, st_pointer, st_slice, st_map, st_agg, ones_nil, ones_cons, oc_int, oc_bool, oc_str, oc_ptr, oc_sl, oc_map, Bool.and_true, tyAllRW18, Option.map_some] at o2)) | (intro b1 m1 hb1 n1 e1 o1; (try have z1 := own_ne N1.own n1); replace n1 := none_of X n1; (try simp only [ev_tmp, ev_const, upd_app, reduceCtorEq, Nat.reduceEqDiff, Nat.reduceAdd, ↓reduceIte, Value.cells, List.size_toArray, List.length_cons, List.length_nil, st_int, st_bool, st_string, st_pointer, st_slice, st_map, st_agg, ones_nil, ones_cons, oc_int, oc_bool, oc_str, oc_ptr, oc_sl, oc_map, Bool.and_true, tyAllRW18, Option.map_some] at o1))); (try replace X := X.trans e1); (try replace N1 := N1.later e1); (try (replace o1 := e1 _ _ o1; replace c1 := blk_facts hb1 o1)); (try (replace o2 := e1 _ _ o2; replace c2 := blk_facts hb2 o2)); (try (replace o3 := e1 _ _ o3; replace c3 := blk_facts hb3 o3)); (try (replace o4 := e1 _ _ o4; replace c4 := blk_facts hb4 o4)); (try (replace o5 := e1 _ _ o5; replace c5 := blk_facts hb5 o5)); (try have c1 := blk_facts hb1 o1); (try have c2 := blk_facts hb2 o2); (try have c3 := blk_facts hb3 o3); (try have c4 := blk_facts hb4 o4); (try have c5 := blk_facts hb5 o5))
      | ((with_reducible refine RunA.id ?_); (first | (first | with_reducible refine app_one sl_71 ze_48 by_48 ⟨rfl, by decide⟩ N1 hb5 o5 ?_ ?_ ?_ ?_) | (first | with_reducible refine app_one sl_71 ze_48 by_48 ⟨rfl, by decide⟩ N1 hb4 o4 ?_ ?_ ?_ ?_) | (first | with_reducible refine app_one sl_71 ze_48 by_48 ⟨rfl, by decide⟩ N1 hb3 o3 ?_ ?_ ?_ ?_) | (first | with_reducible refine app_one sl_71 ze_48 by_48 ⟨rfl, by decide⟩ N1 hb2 o2 ?_ ?_ ?_ ?_) | (first | with_reducible refine app_one sl_71 ze_48 by_48 ⟨rfl, by decide⟩ N1 hb1 o1 ?_ ?_ ?_ ?_)); (focus rfl); (focus (simp only [List.toList_toArray, st_agg, ones_nil, ones_cons, oc_int, oc_bool, oc_str, oc_ptr, oc_sl, oc_map, Bool.and_true]; done)); (focus (constructor <;> first | omega | (simp only [maxLen]; omega))); intro A1 q1 m1 N1 k1; replace X := N1.ext; (try (replace z1 := k1 _ _ o1 z1; replace o1 := z1.1; replace z1 := z1.2; replace c1 := blk_facts hb1 o1)); (try (replace z2 := k1 _ _ o2 z2; replace o2 := z2.1; replace z2 := z2.2; replace c2 := blk_facts hb2 o2)); (try (replace z3 := k1 _ _ o3 z3; replace o3 := z3.1; replace z3 := z3.2; replace c3 := blk_facts hb3 o3)); (try (replace z4 := k1 _ _ o4 z4; replace o4 := z4.1; replace z4 := z4.2; replace c4 := blk_facts hb4 o4)); (try (replace z5 := k1 _ _ o5 z5; replace o5 := z5.1; replace z5 := z5.2; replace c5 := blk_facts hb5 o5)))
      | ((first | with_reducible refine rsl_hZ sl_71 ?_ ?_ ?_); (iterate 2 (focus (first | omega | (simp only [*] <;> omega)))))
      | ((first | with_reducible refine rsl_lZ sl_71 ?_ ?_ ?_); (iterate 2 (focus (first | omega | (simp only [*] <;> omega)))))
      | ((with_reducible refine CodeA.id ?_); (first | fail))
      | ((with_reducible refine And.intro ?_ ?_); (focus omega))
      | with_reducible refine cK_both _ _ _ _ _ _ (fun hc => ?_) (fun hc => ?_)
      | ((with_reducible refine gO_both _ _ (fun hc => ?_) (fun hc => ?_)) <;> (try simp only [Bool.not_true, Bool.not_false] at hc))
      | ((with_reducible refine gH_both _ _ (fun hc => ?_) (fun hc => ?_)) <;> (try simp only [Bool.not_true, Bool.not_false] at hc))
      | with_reducible refine pickK_both _ (fun hc => ?_) (fun hc => ?_))
    exact ⟨l.length - (i + 1), by omega, X, i + 1, by omega, rfl, t6, t7, rfl, by simp [upd_app, *]⟩
  · have h1 := nat_not_lt hlt
    rw [List.take_of_length_le (by omega)] at t3
    repeat' (first
      | simp (maxSteps := 2000000) only [vcCore, yieldT, Int.reduceEq, Int.reduceLT, Int.reduceLE, Int.reduceNe, not_true_eq_false, decide_true, decide_false, add_lit', Nat.zero_add, Nat.mul_one, Int.toNat_natCast, List.getElem?_toArray, List.getElem?_cons_zero, List.getElem?_cons_succ, Option.bind_some, List.map_cons, List.map_nil, List.map_toArray, Array.append_empty, Array.empty_append, List.append_nil, List.nil_append, List.append_toArray, ↓reduceIte, Nat.reduceEqDiff, Nat.reduceAdd, Nat.reduceLeDiff, List.contains_cons, List.contains_nil, Nat.reduceBEq, Bool.or_false, Bool.false_or, Bool.or_true, Bool.true_or, Bool.false_eq_true, Value.cells, List.size_toArray, List.length_cons, List.length_nil, Option.map_some, Option.map_none, Option.isSome_some, Option.isSome_none, Option.isNone_some, Option.isNone_none, true_and, and_true, ne_eq, reduceCtorEq, not_false_eq_true, Bool.not_true, Bool.not_false, tyAllRW18, then_normal, Int.cast_ofNat_Int, BEq.rfl, bne_self_eq_false, beq_self_eq_true, Bool.and_true, Bool.true_and, Bool.and_false, Bool.false_and, Int.reduceBEq, Int.reduceBNe, Nat.reduceMul, Nat.reduceDiv, Int.reduceToNat, Int.reduceNeg, Int.reduceAdd, Int.reduceSub, Int.reduceMul, ext_lit, Nat.reduceSub, Nat.add_zero, mp2_app, resK_cc, implies_true, imp_self, bb_ft, bb_tf, bb_t, bb_f, bn_t, bn_f, Nat.reduceLT, Mem.set_app, Mem.set_set, Ext_mp1, Ext_two, st_agg, ones_nil, ones_cons, oc_int, oc_bool, oc_str, oc_ptr, oc_sl, oc_map, max_if, min_if, bld_nil, bld_cons, bldStep_some, wr_def, List.take_succ_cons, List.take_zero, List.drop_succ_cons, List.drop_zero, List.cons_append, List.toList_toArray, *]
      | (rw [mset_eq b1]; generalize hM : mset _ b1 _ = mS; (try replace X := set_X hM X n1); (first | replace KP := KP_self hM KP | replace KP := KP_set hM KP n1 | skip); (try replace N1 := set_N hM N1 n1 z1); (try (replace o2 := set_o hM o2 d21; replace c2 := blk_facts hb2 o2)); (try (replace o3 := set_o hM o3 d31; replace c3 := blk_facts hb3 o3)); (try (replace o4 := set_o hM o4 d41; replace c4 := blk_facts hb4 o4)); (try (replace o5 := set_o hM o5 d51; replace c5 := blk_facts hb5 o5)); replace o1 := set_same hM; clear hM; replace c1 := blk_facts hb1 o1)
      | (rw [mset_eq b2]; generalize hM : mset _ b2 _ = mS; (try replace X := set_X hM X n2); (first | replace KP := KP_self hM KP | replace KP := KP_set hM KP n2 | skip); (try replace N1 := set_N hM N1 n2 z2); (try (replace o1 := set_o hM o1 d12; replace c1 := blk_facts hb1 o1)); (try (replace o3 := set_o hM o3 d32; replace c3 := blk_facts hb3 o3)); (try (replace o4 := set_o hM o4 d42; replace c4 := blk_facts hb4 o4)); (try (replace o5 := set_o hM o5 d52; replace c5 := blk_facts hb5 o5)); replace o2 := set_same hM; clear hM; replace c2 := blk_facts hb2 o2)
      | (rw [mset_eq b3]; generalize hM : mset _ b3 _ = mS; (try replace X := set_X hM X n3); (first | replace KP := KP_self hM KP | replace KP := KP_set hM KP n3 | skip); (try replace N1 := set_N hM N1 n3 z3); (try (replace o1 := set_o hM o1 d13; replace c1 := blk_facts hb1 o1)); (try (replace o2 := set_o hM o2 d23; replace c2 := blk_facts hb2 o2)); (try (replace o4 := set_o hM o4 d43; replace c4 := blk_facts hb4 o4)); (try (replace o5 := set_o hM o5 d53; replace c5 := blk_facts hb5 o5)); replace o3 := set_same hM; clear hM; replace c3 := blk_facts hb3 o3)
      | (rw [mset_eq b4]; generalize hM : mset _ b4 _ = mS; (try replace X := set_X hM X n4); (first | replace KP := KP_self hM KP | replace KP := KP_set hM KP n4 | skip); (try replace N1 := set_N hM N1 n4 z4); (try (replace o1 := set_o hM o1 d14; replace c1 := blk_facts hb1 o1)); (try (replace o2 := set_o hM o2 d24; replace c2 := blk_facts hb2 o2)); (try (replace o3 := set_o hM o3 d34; replace c3 := blk_facts hb3 o3)); (try (replace o5 := set_o hM o5 d54; replace c5 := blk_facts hb5 o5)); replace o4 := set_same hM; clear hM; replace c4 := blk_facts hb4 o4)
      | (rw [mset_eq b5]; generalize hM : mset _ b5 _ = mS; (try replace X := set_X hM X n5); (first | replace KP := KP_self hM KP | replace KP := KP_set hM KP n5 | skip); (try replace N1 := set_N hM N1 n5 z5); (try (replace o1 := set_o hM o1 d15; replace c1 := blk_facts hb1 o1)); (try (replace o2 := set_o hM o2 d25; replace c2 := blk_facts hb2 o2)); (try (replace o3 := set_o hM o3 d35; replace c3 := blk_facts hb3 o3)); (try (replace o4 := set_o hM o4 d45; replace c4 := blk_facts hb4 o4)); replace o5 := set_same hM; clear hM; replace c5 := blk_facts hb5 o5)
      | ((first | ((with_reducible refine newK_init ?_ ?_ ?_ ?_); (focus (intro b; simp only [ev_tmp, ev_const, upd_app, reduceCtorEq, Nat.reduceEqDiff, Nat.reduceAdd, ↓reduceIte, Value.cells, List.size_toArray, List.length_cons, List.length_nil, st_int, st_bool, st_string, st_pointer, st_slice, st_map, st_agg, ones_nil, ones_cons, oc_int, oc_bool, oc_str, oc_ptr, oc_sl, oc_map, Bool.and_true, tyAllRW18, Option.map_some]; done)); (focus (simp only [ev_tmp, ev_const, upd_app, reduceCtorEq, Nat.reduceEqDiff, Nat.reduceAdd, ↓reduceIte, Value.cells, List.size_toArray, List.length_cons, List.length_nil, st_int, st_bool, st_string, st_pointer, st_slice, st_map, st_agg, ones_nil, ones_cons, oc_int, oc_bool, oc_str, oc_ptr, oc_sl, oc_map, Bool.and_true, tyAllRW18, Option.map_some]; done)); (focus (intro b; simp only [ev_tmp, ev_const, upd_app, reduceCtorEq, Nat.reduceEqDiff, Nat.reduceAdd, ↓reduceIte, Value.cells, List.size_toArray, List.length_cons, List.length_nil, st_int, st_bool, st_string, st_pointer, st_slice, st_map, st_agg, ones_nil, ones_cons, oc_int, oc_bool, oc_str, oc_ptr, oc_sl, oc_map, Bool.and_true, tyAllRW18, Option.map_some]; done))) | ((with_reducible refine newK.id ?_); refine newK_intro ?_) | ((with_reducible refine RunA.id ?_); (first | with_reducible refine rbuild1 sl_71 ze_48 ?_ ?_ ?_); (focus (simp only [Value.cells, List.size_toArray, List.length_cons, List.length_nil]; done)); (focus decide)) | ((first | with_reducible refine bG1 sl_71 ze_48 ?_ ?_ ?_); (focus (simp only [Value.cells, List.size_toArray, List.length_cons, List.length_nil]; done)); (focus decide)) | ((with_reducible refine RunA.id ?_); (first | with_reducible refine rbuild2 sl_71 ze_48 rfl rfl ?_)) | (first | with_reducible refine bG2 sl_71 ze_48 rfl rfl ?_)); (first | (have := o4; intro b5 m1 hb5 n5 e1 o5; (try (have d51 := ne_of o1 n5; have d15 := d51.symm)); (try (have d52 := ne_of o2 n5; have d25 := d52.symm)); (try (have d53 := ne_of o3 n5; have d35 := d53.symm)); (try (have d54 := ne_of o4 n5; have d45 := d54.symm)); (try have z5 := own_ne N1.own n5); replace n5 := none_of X n5; (try simp only [ev_tmp, ev_const, upd_app, reduceCtorEq, Nat.reduceEqDiff, Nat.reduceAdd, ↓reduceIte, Value.cells, List.size_toArray, List.length_cons, List.length_nil, st_int, st_bool, st_string, st_pointer, st_slice, st_map, st_agg, ones_nil, ones_cons, oc_int, oc_bool, oc_str, oc_ptr, oc_sl, oc_map, Bool.and_true, tyAllRW18, Option.map_some] at o5)) | (have := o3; intro b4 m1 hb4 n4 e1 o4; (try (have d41 := ne_of o1 n4; have d14 := d41.symm)); (try (have d42 := ne_of o2 n4; have d24 := d42.symm)); (try (have d43 := ne_of o3 n4; have d34 := d43.symm)); (try have z4 := own_ne N1.own n4); replace n4 := none_of X n4; (try simp only [ev_tmp, ev_const, upd_app, reduceCtorEq, Nat.reduceEqDiff, Nat.reduceAdd, ↓reduceIte, Value.cells, List.size_toArray, List.length_cons, List.length_nil, st_int, st_bool, st_string, st_pointer, st_slice, st_map, st_agg, ones_nil, ones_cons, oc_int, oc_bool, oc_str, oc_ptr, oc_sl, oc_map, Bool.and_true, tyAllRW18, Option.map_some] at o4)) | (have := o2; intro b3 m1 hb3 n3 e1 o3; (try (have d31 := ne_of o1 n3; have d13 := d31.symm)); (try (have d32 := ne_of o2 n3; have d23 := d32.symm)); (try have z3 := own_ne N1.own n3); replace n3 := none_of X n3; (try simp only [ev_tmp, ev_const, upd_app, reduceCtorEq, Nat.reduceEqDiff, Nat.reduceAdd, ↓reduceIte, Value.cells, List.size_toArray, List.length_cons, List.length_nil, st_int, st_bool, st_string, st_pointer, st_slice, st_map, st_agg, ones_nil, ones_cons, oc_int, oc_bool, oc_str, oc_ptr, oc_sl, oc_map, Bool.and_true, tyAllRW18, Option.map_some] at o3)) | (have := o1; intro b2 m1 hb2 n2 e1 o2; (try (have d21 := ne_of o1 n2; have d12 := d21.symm)); (try have z2 := own_ne N1.own n2); replace n2 := none_of X n2; (try simp only [ev_tmp, ev_const, upd_app, reduceCtorEq, Nat.reduceEqDiff, Nat.reduceAdd, ↓reduceIte, Value.cells, List.size_toArray, List.length_cons, List.length_nil, st_int, st_bool, st_string, st_pointer, st_slice, st_map, st_agg, ones_nil, ones_cons, oc_int, oc_bool, oc_str, oc_ptr, oc_sl, oc_map, Bool.and_true, tyAllRW18, Option.map_some] at o2)) | (intro b1 m1 hb1 n1 e1 o1; (try have z1 := own_ne N1.own n1); replace n1 := none_of X n1; (try simp only [ev_tmp, ev_const, upd_app, reduceCtorEq, Nat.reduceEqDiff, Nat.reduceAdd, ↓reduceIte, Value.cells, List.size_toArray, List.length_cons, List.length_nil, st_int, st_bool, st_string, st_pointer, st_slice, st_map, st_agg, ones_nil, ones_cons, oc_int, oc_bool, oc_str, oc_ptr, oc_sl, oc_map, Bool.and_true, tyAllRW18, Option.map_some] at o1))); (try replace X := X.trans e1); (try replace N1 := N1.later e1); (try (replace o1 := e1 _ _ o1; replace c1 := blk_facts hb1 o1)); (try (replace o2 := e1 _ _ o2; replace c2 := blk_facts hb2 o2)); (try (replace o3 := e1 _ _ o3; replace c3 := blk_facts hb3 o3)); (try (replace o4 := e1 _ _ o4; replace c4 := blk_facts hb4 o4)); (try (replace o5 := e1 _ _ o5; replace c5 := blk_facts hb5 o5)); (try have c1 := blk_facts hb1 o1); (try have c2 := blk_facts hb2 o2); (try have c3 := blk_facts hb3 o3); (try have c4 := blk_facts hb4 o4); (try have c5 := blk_facts hb5 o5))
      | ((with_reducible refine RunA.id ?_); (first | (first | with_reducible refine app_one sl_71 ze_48 by_48 ⟨rfl, by decide⟩ N1 hb5 o5 ?_ ?_ ?_ ?_) | (first | with_reducible refine app_one sl_71 ze_48 by_48 ⟨rfl, by decide⟩ N1 hb4 o4 ?_ ?_ ?_ ?_) | (first | with_reducible refine app_one sl_71 ze_48 by_48 ⟨rfl, by decide⟩ N1 hb3 o3 ?_ ?_ ?_ ?_) | (first | with_reducible refine app_one sl_71 ze_48 by_48 ⟨rfl, by decide⟩ N1 hb2 o2 ?_ ?_ ?_ ?_) | (first | with_reducible refine app_one sl_71 ze_48 by_48 ⟨rfl, by decide⟩ N1 hb1 o1 ?_ ?_ ?_ ?_)); (focus rfl); (focus (simp only [List.toList_toArray, st_agg, ones_nil, ones_cons, oc_int, oc_bool, oc_str, oc_ptr, oc_sl, oc_map, Bool.and_true]; done)); (focus (constructor <;> first | omega | (simp only [maxLen]; omega))); intro A1 q1 m1 N1 k1; replace X := N1.ext; (try (replace z1 := k1 _ _ o1 z1; replace o1 := z1.1; replace z1 := z1.2; replace c1 := blk_facts hb1 o1)); (try (replace z2 := k1 _ _ o2 z2; replace o2 := z2.1; replace z2 := z2.2; replace c2 := blk_facts hb2 o2)); (try (replace z3 := k1 _ _ o3 z3; replace o3 := z3.1; replace z3 := z3.2; replace c3 := blk_facts hb3 o3)); (try (replace z4 := k1 _ _ o4 z4; replace o4 := z4.1; replace z4 := z4.2; replace c4 := blk_facts hb4 o4)); (try (replace z5 := k1 _ _ o5 z5; replace o5 := z5.1; replace z5 := z5.2; replace c5 := blk_facts hb5 o5)))
      | ((first | with_reducible refine rsl_hZ sl_71 ?_ ?_ ?_); (iterate 2 (focus (first | omega | (simp only [*] <;> omega)))))
      | ((first | with_reducible refine rsl_lZ sl_71 ?_ ?_ ?_); (iterate 2 (focus (first | omega | (simp only [*] <;> omega)))))
      | ((with_reducible refine CodeA.id ?_); (first | fail))
      | ((with_reducible refine And.intro ?_ ?_); (focus omega))
      | with_reducible refine cK_both _ _ _ _ _ _ (fun hc => ?_) (fun hc => ?_)
      | ((with_reducible refine gO_both _ _ (fun hc => ?_) (fun hc => ?_)) <;> (try simp only [Bool.not_true, Bool.not_false] at hc))
      | ((with_reducible refine gH_both _ _ (fun hc => ?_) (fun hc => ?_)) <;> (try simp only [Bool.not_true, Bool.not_false] at hc))
      | with_reducible refine pickK_both _ (fun hc => ?_) (fun hc => ?_))
end
end Go.Proofs.Ytapppaccnkojkaa.R
/- The faults' layer, over the logic of partial memories. No conditions. -/
set_option linter.unusedVariables false
set_option linter.unusedSimpArgs false
namespace Go.Proofs.Ytapppaccnkojkaa.R
open Go Go.RowKit Go.Proofs.Ytapppaccnkojkaa
set_option maxRecDepth 100000
set_option maxHeartbeats 8000000
section
variable {W0 : World}
/-- A fault, its pattern's slice and bytes. -/
structure Flt where
  kind : Int
  module : Int
  y : Bool
  line : Int
  frm : Int
  A : Option Addr
  c : Nat
  ps : List Int
abbrev Flt.v (f : Flt) : Value := .agg #[.int .i64 f.kind, .int .i64 f.module, .bool f.y, .int .i64 f.line, .int .i64 f.frm, .slice f.A f.ps.length f.c]
/-- Its pattern reads, here and later; its numbers are small. -/
structure Flt.ok (W0 : World) (m : Mem) (f : Flt) : Prop where
  reads : RS W0 m (.slice f.A f.ps.length f.c) 1 f.ps.length (u8 f.ps)
  byte : Byte f.ps
  lo : 0 ≤ f.frm
  hi : f.frm ≤ 1000000000000
  le : f.ps.length ≤ 1000000000000
theorem Flt.ok.ext {m m' : Mem} {f : Flt} (F : f.ok W0 m) (e : Ext m m') : f.ok W0 m' := ⟨F.reads.ext e, F.byte, F.lo, F.hi, F.le⟩
def Flt.here (f : Flt) (tick : Int) : Bool := (f.kind == 1 || f.kind == 2) && decide (f.frm ≤ tick) && decide (0 < f.ps.length)
def Flt.at (f : Flt) (tick : Int) : Int := if f.here tick then f.ps.getD ((tick - f.frm) % f.ps.length).toNat 0 else 0
def Flt.lines (f : Flt) (l tick : Int) : Int :=
  if f.here tick && f.kind == 1 then (if bits .and .u8 (f.at tick) 3 = 0 then setL l f.line false else if bits .and .u8 (f.at tick) 3 = 1 then setL l f.line true else l) else l
def Flt.drives (f : Flt) (module : Int) (y : Bool) (tick : Int) : Bool := f.here tick && (f.kind == 2 && f.module == module) && f.y == y && bits .and .u8 (f.at tick) 8 == 0
end
end Go.Proofs.Ytapppaccnkojkaa.R
