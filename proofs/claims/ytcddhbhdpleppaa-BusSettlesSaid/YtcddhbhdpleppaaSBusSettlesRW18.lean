/- How many bits so many words have. No conditions. -/
import Derived.Test.YtcddhbhdpleppaaRAuto
import Derived.Test.YtcddhbhdpleppaaSBusSettlesRT
import Derived.Test.YtcddhbhdpleppaaRLib2
import Derived.Test.YtcddhbhdpleppaaROpen
set_option linter.unusedVariables false
set_option linter.unusedSimpArgs false
namespace Go.Proofs.Ytcddhbhdpleppaa.R
open Go Go.RowKit Go.Proofs.Ytcddhbhdpleppaa
set_option maxRecDepth 100000
set_option maxHeartbeats 8000000
section
variable {W0 : World}
end
end Go.Proofs.Ytcddhbhdpleppaa.R
set_option linter.unusedVariables false
set_option linter.unusedSimpArgs false
namespace Go.Proofs.Ytcddhbhdpleppaa.R
open Go Go.RowKit Go.Proofs.Ytcddhbhdpleppaa
set_option maxRecDepth 100000
set_option maxHeartbeats 400000
section
variable {W0 : World}
end
end Go.Proofs.Ytcddhbhdpleppaa.R
/- The wires' layer, over the logic of partial memories. No conditions. -/
set_option linter.unusedVariables false
set_option linter.unusedSimpArgs false
namespace Go.Proofs.Ytcddhbhdpleppaa.R
open Go Go.RowKit Go.Proofs.Ytcddhbhdpleppaa
set_option maxRecDepth 100000
set_option maxHeartbeats 8000000
theorem tyAllRW03 : type_of% (And.intro (And.intro ty_3 ty_4) (And.intro ty_5 ty_30)) := (And.intro (And.intro ty_3 ty_4) (And.intro ty_5 ty_30))
section
variable {W0 : World}
def isL (n : Int) : Bool := decide (0 ≤ n) && decide (n ≤ 3)
def hiL (l n : Int) : Bool := isL n && (l / 2 ^ n.toNat) % 2 == 1
def setL (l n : Int) (h : Bool) : Int := if isL n then (if h then bits .or .u8 (bits .andNot .u8 l (2 ^ n.toNat)) (2 ^ n.toNat) else bits .andNot .u8 l (2 ^ n.toNat)) else l
def pulL (y : Bool) : Int := if y then 12 else 3
def sideL (l : Int) (y : Bool) : Int := bits .and .u8 l (pulL y)
/-- Eight bits. -/
def U8 (l : Int) : Prop := 0 ≤ l ∧ l < 256
theorem u8_bits (op : BinOp) (a b : Int) : U8 (bits op .u8 a b) := by
  unfold U8
  have : ∀ x : Int, 0 ≤ IntKind.u8.wrap x ∧ IntKind.u8.wrap x < 256 := fun x => by rw [IntKind.wrap_u8]; omega
  unfold bits
  exact this _
theorem U8.set {l n : Int} {h : Bool} (hl : U8 l) : U8 (setL l n h) := by
  unfold setL
  split
  · split <;> exact u8_bits _ _ _
  · exact hl
theorem isL_cases {n : Int} (h : isL n = true) : n = 0 ∨ n = 1 ∨ n = 2 ∨ n = 3 := by unfold isL at h; simp at h; omega
theorem wires_is {m : Mem} {K : Value → Mem → Prop} {n : Int} (h : K (.bool (isL n)) m) : CallA Try.prog W0 97 #[.int .i64 n] m K := by
  refine en_97 (l := [.int .i64 n]) (by simp [Try.ntmps97]) ?_
  by_cases h0 : 0 ≤ n
  · by_cases h1 : n ≤ 3 <;> simp (maxSteps := 2000000) only [Try.f97, Option.getD_some, vcCore, yieldT, Int.reduceEq, Int.reduceLT, Int.reduceLE, Int.reduceNe, not_true_eq_false, decide_true, decide_false, add_lit', Nat.zero_add, Nat.mul_one, Int.toNat_natCast, List.getElem?_toArray, List.getElem?_cons_zero, List.getElem?_cons_succ, Option.bind_some, List.map_cons, List.map_nil, List.map_toArray, Array.append_empty, Array.empty_append, List.append_nil, List.nil_append, List.append_toArray, ↓reduceIte, Nat.reduceEqDiff, Nat.reduceAdd, Nat.reduceLeDiff, List.contains_cons, List.contains_nil, Nat.reduceBEq, Bool.or_false, Bool.false_or, Bool.or_true, Bool.true_or, Bool.false_eq_true, Value.cells, List.size_toArray, List.length_cons, List.length_nil, Option.map_some, Option.map_none, Option.isSome_some, Option.isSome_none, Option.isNone_some, Option.isNone_none, true_and, and_true, ne_eq, reduceCtorEq, not_false_eq_true, Bool.not_true, Bool.not_false, tyAllRW03, then_normal, h0, h1]
    · have : isL n = true := by simp [isL, h0, h1]
      rw [this] at h; exact h
    · have : isL n = false := by simp [isL, h0, h1]
      rw [this] at h; exact h
  · simp (maxSteps := 2000000) only [Try.f97, Option.getD_some, vcCore, yieldT, Int.reduceEq, Int.reduceLT, Int.reduceLE, Int.reduceNe, not_true_eq_false, decide_true, decide_false, add_lit', Nat.zero_add, Nat.mul_one, Int.toNat_natCast, List.getElem?_toArray, List.getElem?_cons_zero, List.getElem?_cons_succ, Option.bind_some, List.map_cons, List.map_nil, List.map_toArray, Array.append_empty, Array.empty_append, List.append_nil, List.nil_append, List.append_toArray, ↓reduceIte, Nat.reduceEqDiff, Nat.reduceAdd, Nat.reduceLeDiff, List.contains_cons, List.contains_nil, Nat.reduceBEq, Bool.or_false, Bool.false_or, Bool.or_true, Bool.true_or, Bool.false_eq_true, Value.cells, List.size_toArray, List.length_cons, List.length_nil, Option.map_some, Option.map_none, Option.isSome_some, Option.isSome_none, Option.isNone_some, Option.isNone_none, true_and, and_true, ne_eq, reduceCtorEq, not_false_eq_true, Bool.not_true, Bool.not_false, tyAllRW03, then_normal, h0]
    have : isL n = false := by simp [isL, h0]
    rw [this] at h; exact h
theorem wires_Set {m : Mem} {K : Value → Mem → Prop} {l n : Int} {b : Bool} (h : K (.int .u8 (setL l n b)) m) : CallA Try.prog W0 151 #[.int .u8 l, .int .i64 n, .bool b] m K := by
  refine en_151 (l := [.int .u8 l, .int .i64 n, .bool b]) (by simp [Try.ntmps151]) ?_
  simp (maxSteps := 2000000) only [Try.f151, Option.getD_some, vcCore, yieldT, Int.reduceEq, Int.reduceLT, Int.reduceLE, Int.reduceNe, not_true_eq_false, decide_true, decide_false, add_lit', Nat.zero_add, Nat.mul_one, Int.toNat_natCast, List.getElem?_toArray, List.getElem?_cons_zero, List.getElem?_cons_succ, Option.bind_some, List.map_cons, List.map_nil, List.map_toArray, Array.append_empty, Array.empty_append, List.append_nil, List.nil_append, List.append_toArray, ↓reduceIte, Nat.reduceEqDiff, Nat.reduceAdd, Nat.reduceLeDiff, List.contains_cons, List.contains_nil, Nat.reduceBEq, Bool.or_false, Bool.false_or, Bool.or_true, Bool.true_or, Bool.false_eq_true, Value.cells, List.size_toArray, List.length_cons, List.length_nil, Option.map_some, Option.map_none, Option.isSome_some, Option.isSome_none, Option.isNone_some, Option.isNone_none, true_and, and_true, ne_eq, reduceCtorEq, not_false_eq_true, Bool.not_true, Bool.not_false, tyAllRW03, then_normal]
  refine wires_is ?_
  cases hn : isL n
  · simp (maxSteps := 2000000) only [vcCore, yieldT, Int.reduceEq, Int.reduceLT, Int.reduceLE, Int.reduceNe, not_true_eq_false, decide_true, decide_false, add_lit', Nat.zero_add, Nat.mul_one, Int.toNat_natCast, List.getElem?_toArray, List.getElem?_cons_zero, List.getElem?_cons_succ, Option.bind_some, List.map_cons, List.map_nil, List.map_toArray, Array.append_empty, Array.empty_append, List.append_nil, List.nil_append, List.append_toArray, ↓reduceIte, Nat.reduceEqDiff, Nat.reduceAdd, Nat.reduceLeDiff, List.contains_cons, List.contains_nil, Nat.reduceBEq, Bool.or_false, Bool.false_or, Bool.or_true, Bool.true_or, Bool.false_eq_true, Value.cells, List.size_toArray, List.length_cons, List.length_nil, Option.map_some, Option.map_none, Option.isSome_some, Option.isSome_none, Option.isNone_some, Option.isNone_none, true_and, and_true, ne_eq, reduceCtorEq, not_false_eq_true, Bool.not_true, Bool.not_false, tyAllRW03, then_normal]
    unfold setL at h; rw [hn] at h; exact h
  · have e : setL l n b = if b then bits .or .u8 (bits .andNot .u8 l (2 ^ n.toNat)) (2 ^ n.toNat) else bits .andNot .u8 l (2 ^ n.toNat) := by unfold setL; rw [hn]; rfl
    rw [e] at h
    have e2 : ∀ k : Fin 4, IntKind.u8.wrap (1 * 2 ^ min (Int.toNat (k.val : Int)) IntKind.u8.bits) = 2 ^ (k.val : Int).toNat := by decide
    rcases isL_cases hn with rfl | rfl | rfl | rfl
    · have e3 := e2 0
      cases b <;> simp (maxSteps := 2000000) only [vcCore, yieldT, Int.reduceEq, Int.reduceLT, Int.reduceLE, Int.reduceNe, not_true_eq_false, decide_true, decide_false, add_lit', Nat.zero_add, Nat.mul_one, Int.toNat_natCast, List.getElem?_toArray, List.getElem?_cons_zero, List.getElem?_cons_succ, Option.bind_some, List.map_cons, List.map_nil, List.map_toArray, Array.append_empty, Array.empty_append, List.append_nil, List.nil_append, List.append_toArray, ↓reduceIte, Nat.reduceEqDiff, Nat.reduceAdd, Nat.reduceLeDiff, List.contains_cons, List.contains_nil, Nat.reduceBEq, Bool.or_false, Bool.false_or, Bool.or_true, Bool.true_or, Bool.false_eq_true, Value.cells, List.size_toArray, List.length_cons, List.length_nil, Option.map_some, Option.map_none, Option.isSome_some, Option.isSome_none, Option.isNone_some, Option.isNone_none, true_and, and_true, ne_eq, reduceCtorEq, not_false_eq_true, Bool.not_true, Bool.not_false, tyAllRW03, then_normal] <;> rw [show (((0 : Fin 4).val : Nat) : Int) = 0 from rfl] at e3 <;> rw [e3] <;> exact h
    · have e3 := e2 1
      cases b <;> simp (maxSteps := 2000000) only [vcCore, yieldT, Int.reduceEq, Int.reduceLT, Int.reduceLE, Int.reduceNe, not_true_eq_false, decide_true, decide_false, add_lit', Nat.zero_add, Nat.mul_one, Int.toNat_natCast, List.getElem?_toArray, List.getElem?_cons_zero, List.getElem?_cons_succ, Option.bind_some, List.map_cons, List.map_nil, List.map_toArray, Array.append_empty, Array.empty_append, List.append_nil, List.nil_append, List.append_toArray, ↓reduceIte, Nat.reduceEqDiff, Nat.reduceAdd, Nat.reduceLeDiff, List.contains_cons, List.contains_nil, Nat.reduceBEq, Bool.or_false, Bool.false_or, Bool.or_true, Bool.true_or, Bool.false_eq_true, Value.cells, List.size_toArray, List.length_cons, List.length_nil, Option.map_some, Option.map_none, Option.isSome_some, Option.isSome_none, Option.isNone_some, Option.isNone_none, true_and, and_true, ne_eq, reduceCtorEq, not_false_eq_true, Bool.not_true, Bool.not_false, tyAllRW03, then_normal] <;> rw [show (((1 : Fin 4).val : Nat) : Int) = 1 from rfl] at e3 <;> rw [e3] <;> exact h
    · have e3 := e2 2
      cases b <;> simp (maxSteps := 2000000) only [vcCore, yieldT, Int.reduceEq, Int.reduceLT, Int.reduceLE, Int.reduceNe, not_true_eq_false, decide_true, decide_false, add_lit', Nat.zero_add, Nat.mul_one, Int.toNat_natCast, List.getElem?_toArray, List.getElem?_cons_zero, List.getElem?_cons_succ, Option.bind_some, List.map_cons, List.map_nil, List.map_toArray, Array.append_empty, Array.empty_append, List.append_nil, List.nil_append, List.append_toArray, ↓reduceIte, Nat.reduceEqDiff, Nat.reduceAdd, Nat.reduceLeDiff, List.contains_cons, List.contains_nil, Nat.reduceBEq, Bool.or_false, Bool.false_or, Bool.or_true, Bool.true_or, Bool.false_eq_true, Value.cells, List.size_toArray, List.length_cons, List.length_nil, Option.map_some, Option.map_none, Option.isSome_some, Option.isSome_none, Option.isNone_some, Option.isNone_none, true_and, and_true, ne_eq, reduceCtorEq, not_false_eq_true, Bool.not_true, Bool.not_false, tyAllRW03, then_normal] <;> rw [show (((2 : Fin 4).val : Nat) : Int) = 2 from rfl] at e3 <;> rw [e3] <;> exact h
    · have e3 := e2 3
      cases b <;> simp (maxSteps := 2000000) only [vcCore, yieldT, Int.reduceEq, Int.reduceLT, Int.reduceLE, Int.reduceNe, not_true_eq_false, decide_true, decide_false, add_lit', Nat.zero_add, Nat.mul_one, Int.toNat_natCast, List.getElem?_toArray, List.getElem?_cons_zero, List.getElem?_cons_succ, Option.bind_some, List.map_cons, List.map_nil, List.map_toArray, Array.append_empty, Array.empty_append, List.append_nil, List.nil_append, List.append_toArray, ↓reduceIte, Nat.reduceEqDiff, Nat.reduceAdd, Nat.reduceLeDiff, List.contains_cons, List.contains_nil, Nat.reduceBEq, Bool.or_false, Bool.false_or, Bool.or_true, Bool.true_or, Bool.false_eq_true, Value.cells, List.size_toArray, List.length_cons, List.length_nil, Option.map_some, Option.map_none, Option.isSome_some, Option.isSome_none, Option.isNone_some, Option.isNone_none, true_and, and_true, ne_eq, reduceCtorEq, not_false_eq_true, Bool.not_true, Bool.not_false, tyAllRW03, then_normal] <;> rw [show (((3 : Fin 4).val : Nat) : Int) = 3 from rfl] at e3 <;> rw [e3] <;> exact h
theorem wires_High {m : Mem} {K : Value → Mem → Prop} {l n : Int} (hl : 0 ≤ l ∧ l < 256) (h : K (.bool (hiL l n)) m) : CallA Try.prog W0 22 #[.int .u8 l, .int .i64 n] m K := by
  refine en_22 (l := [.int .u8 l, .int .i64 n]) (by simp [Try.ntmps22]) ?_
  simp (maxSteps := 2000000) only [Try.f22, Option.getD_some, vcCore, yieldT, Int.reduceEq, Int.reduceLT, Int.reduceLE, Int.reduceNe, not_true_eq_false, decide_true, decide_false, add_lit', Nat.zero_add, Nat.mul_one, Int.toNat_natCast, List.getElem?_toArray, List.getElem?_cons_zero, List.getElem?_cons_succ, Option.bind_some, List.map_cons, List.map_nil, List.map_toArray, Array.append_empty, Array.empty_append, List.append_nil, List.nil_append, List.append_toArray, ↓reduceIte, Nat.reduceEqDiff, Nat.reduceAdd, Nat.reduceLeDiff, List.contains_cons, List.contains_nil, Nat.reduceBEq, Bool.or_false, Bool.false_or, Bool.or_true, Bool.true_or, Bool.false_eq_true, Value.cells, List.size_toArray, List.length_cons, List.length_nil, Option.map_some, Option.map_none, Option.isSome_some, Option.isSome_none, Option.isNone_some, Option.isNone_none, true_and, and_true, ne_eq, reduceCtorEq, not_false_eq_true, Bool.not_true, Bool.not_false, tyAllRW03, then_normal]
  refine wires_is ?_
  unfold hiL at h
  cases hn : isL n <;> rw [hn] at h
  · simp (maxSteps := 2000000) only [vcCore, yieldT, Int.reduceEq, Int.reduceLT, Int.reduceLE, Int.reduceNe, not_true_eq_false, decide_true, decide_false, add_lit', Nat.zero_add, Nat.mul_one, Int.toNat_natCast, List.getElem?_toArray, List.getElem?_cons_zero, List.getElem?_cons_succ, Option.bind_some, List.map_cons, List.map_nil, List.map_toArray, Array.append_empty, Array.empty_append, List.append_nil, List.nil_append, List.append_toArray, ↓reduceIte, Nat.reduceEqDiff, Nat.reduceAdd, Nat.reduceLeDiff, List.contains_cons, List.contains_nil, Nat.reduceBEq, Bool.or_false, Bool.false_or, Bool.or_true, Bool.true_or, Bool.false_eq_true, Value.cells, List.size_toArray, List.length_cons, List.length_nil, Option.map_some, Option.map_none, Option.isSome_some, Option.isSome_none, Option.isNone_some, Option.isNone_none, true_and, and_true, ne_eq, reduceCtorEq, not_false_eq_true, Bool.not_true, Bool.not_false, tyAllRW03, then_normal]
    exact h
  · simp (maxSteps := 2000000) only [vcCore, yieldT, Int.reduceEq, Int.reduceLT, Int.reduceLE, Int.reduceNe, not_true_eq_false, decide_true, decide_false, add_lit', Nat.zero_add, Nat.mul_one, Int.toNat_natCast, List.getElem?_toArray, List.getElem?_cons_zero, List.getElem?_cons_succ, Option.bind_some, List.map_cons, List.map_nil, List.map_toArray, Array.append_empty, Array.empty_append, List.append_nil, List.nil_append, List.append_toArray, ↓reduceIte, Nat.reduceEqDiff, Nat.reduceAdd, Nat.reduceLeDiff, List.contains_cons, List.contains_nil, Nat.reduceBEq, Bool.or_false, Bool.false_or, Bool.or_true, Bool.true_or, Bool.false_eq_true, Value.cells, List.size_toArray, List.length_cons, List.length_nil, Option.map_some, Option.map_none, Option.isSome_some, Option.isSome_none, Option.isNone_some, Option.isNone_none, true_and, and_true, ne_eq, reduceCtorEq, not_false_eq_true, Bool.not_true, Bool.not_false, tyAllRW03, then_normal]
    have hb : 0 ≤ n ∧ n ≤ 3 := by unfold isL at hn; simpa using hn
    refine ⟨hb.1, ?_⟩
    have e2 : min n.toNat (IntKind.bits .u8) = n.toNat := by simp [IntKind.bits]; omega
    have hd : 0 ≤ l / 2 ^ n.toNat := Int.ediv_nonneg hl.1 (Int.pow_nonneg (by decide))
    have hd2 : l / 2 ^ n.toNat < 256 := by have := Int.ediv_le_self (2 ^ n.toNat) hl.1; omega
    rw [e2, fdiv_pos (Int.pow_nonneg (by decide)), and_one hd hd2]
    exact h
theorem wires_X {m : Mem} {K : Value → Mem → Prop} (h : K (.int .u8 3) m) : CallA Try.prog W0 95 #[] m K := by
  refine en_95 (l := []) (by simp [Try.ntmps95]) ?_
  simp (maxSteps := 2000000) only [Try.f95, Option.getD_some, vcCore, yieldT, Int.reduceEq, Int.reduceLT, Int.reduceLE, Int.reduceNe, not_true_eq_false, decide_true, decide_false, add_lit', Nat.zero_add, Nat.mul_one, Int.toNat_natCast, List.getElem?_toArray, List.getElem?_cons_zero, List.getElem?_cons_succ, Option.bind_some, List.map_cons, List.map_nil, List.map_toArray, Array.append_empty, Array.empty_append, List.append_nil, List.nil_append, List.append_toArray, ↓reduceIte, Nat.reduceEqDiff, Nat.reduceAdd, Nat.reduceLeDiff, List.contains_cons, List.contains_nil, Nat.reduceBEq, Bool.or_false, Bool.false_or, Bool.or_true, Bool.true_or, Bool.false_eq_true, Value.cells, List.size_toArray, List.length_cons, List.length_nil, Option.map_some, Option.map_none, Option.isSome_some, Option.isSome_none, Option.isNone_some, Option.isNone_none, true_and, and_true, ne_eq, reduceCtorEq, not_false_eq_true, Bool.not_true, Bool.not_false, tyAllRW03, then_normal]
  exact h
theorem wires_Y {m : Mem} {K : Value → Mem → Prop} (h : K (.int .u8 12) m) : CallA Try.prog W0 96 #[] m K := by
  refine en_96 (l := []) (by simp [Try.ntmps96]) ?_
  simp (maxSteps := 2000000) only [Try.f96, Option.getD_some, vcCore, yieldT, Int.reduceEq, Int.reduceLT, Int.reduceLE, Int.reduceNe, not_true_eq_false, decide_true, decide_false, add_lit', Nat.zero_add, Nat.mul_one, Int.toNat_natCast, List.getElem?_toArray, List.getElem?_cons_zero, List.getElem?_cons_succ, Option.bind_some, List.map_cons, List.map_nil, List.map_toArray, Array.append_empty, Array.empty_append, List.append_nil, List.nil_append, List.append_toArray, ↓reduceIte, Nat.reduceEqDiff, Nat.reduceAdd, Nat.reduceLeDiff, List.contains_cons, List.contains_nil, Nat.reduceBEq, Bool.or_false, Bool.false_or, Bool.or_true, Bool.true_or, Bool.false_eq_true, Value.cells, List.size_toArray, List.length_cons, List.length_nil, Option.map_some, Option.map_none, Option.isSome_some, Option.isSome_none, Option.isNone_some, Option.isNone_none, true_and, and_true, ne_eq, reduceCtorEq, not_false_eq_true, Bool.not_true, Bool.not_false, tyAllRW03, then_normal]
  exact h
theorem wires_Pulse {m : Mem} {K : Value → Mem → Prop} {y : Bool} (h : K (.int .u8 (pulL y)) m) : CallA Try.prog W0 152 #[.bool y] m K := by
  refine en_152 (l := [.bool y]) (by simp [Try.ntmps152]) ?_
  cases y <;> simp (maxSteps := 2000000) only [Try.f152, Option.getD_some, vcCore, yieldT, Int.reduceEq, Int.reduceLT, Int.reduceLE, Int.reduceNe, not_true_eq_false, decide_true, decide_false, add_lit', Nat.zero_add, Nat.mul_one, Int.toNat_natCast, List.getElem?_toArray, List.getElem?_cons_zero, List.getElem?_cons_succ, Option.bind_some, List.map_cons, List.map_nil, List.map_toArray, Array.append_empty, Array.empty_append, List.append_nil, List.nil_append, List.append_toArray, ↓reduceIte, Nat.reduceEqDiff, Nat.reduceAdd, Nat.reduceLeDiff, List.contains_cons, List.contains_nil, Nat.reduceBEq, Bool.or_false, Bool.false_or, Bool.or_true, Bool.true_or, Bool.false_eq_true, Value.cells, List.size_toArray, List.length_cons, List.length_nil, Option.map_some, Option.map_none, Option.isSome_some, Option.isSome_none, Option.isNone_some, Option.isNone_none, true_and, and_true, ne_eq, reduceCtorEq, not_false_eq_true, Bool.not_true, Bool.not_false, tyAllRW03, then_normal]
  · refine wires_X ?_
    simp (maxSteps := 2000000) only [vcCore, yieldT, Int.reduceEq, Int.reduceLT, Int.reduceLE, Int.reduceNe, not_true_eq_false, decide_true, decide_false, add_lit', Nat.zero_add, Nat.mul_one, Int.toNat_natCast, List.getElem?_toArray, List.getElem?_cons_zero, List.getElem?_cons_succ, Option.bind_some, List.map_cons, List.map_nil, List.map_toArray, Array.append_empty, Array.empty_append, List.append_nil, List.nil_append, List.append_toArray, ↓reduceIte, Nat.reduceEqDiff, Nat.reduceAdd, Nat.reduceLeDiff, List.contains_cons, List.contains_nil, Nat.reduceBEq, Bool.or_false, Bool.false_or, Bool.or_true, Bool.true_or, Bool.false_eq_true, Value.cells, List.size_toArray, List.length_cons, List.length_nil, Option.map_some, Option.map_none, Option.isSome_some, Option.isSome_none, Option.isNone_some, Option.isNone_none, true_and, and_true, ne_eq, reduceCtorEq, not_false_eq_true, Bool.not_true, Bool.not_false, tyAllRW03, then_normal]
    exact h
  · refine wires_Y ?_
    simp (maxSteps := 2000000) only [vcCore, yieldT, Int.reduceEq, Int.reduceLT, Int.reduceLE, Int.reduceNe, not_true_eq_false, decide_true, decide_false, add_lit', Nat.zero_add, Nat.mul_one, Int.toNat_natCast, List.getElem?_toArray, List.getElem?_cons_zero, List.getElem?_cons_succ, Option.bind_some, List.map_cons, List.map_nil, List.map_toArray, Array.append_empty, Array.empty_append, List.append_nil, List.nil_append, List.append_toArray, ↓reduceIte, Nat.reduceEqDiff, Nat.reduceAdd, Nat.reduceLeDiff, List.contains_cons, List.contains_nil, Nat.reduceBEq, Bool.or_false, Bool.false_or, Bool.or_true, Bool.true_or, Bool.false_eq_true, Value.cells, List.size_toArray, List.length_cons, List.length_nil, Option.map_some, Option.map_none, Option.isSome_some, Option.isSome_none, Option.isNone_some, Option.isNone_none, true_and, and_true, ne_eq, reduceCtorEq, not_false_eq_true, Bool.not_true, Bool.not_false, tyAllRW03, then_normal]
    exact h
theorem wires_Side {m : Mem} {K : Value → Mem → Prop} {l : Int} {y : Bool} (h : K (.int .u8 (sideL l y)) m) : CallA Try.prog W0 94 #[.int .u8 l, .bool y] m K := by
  refine en_94 (l := [.int .u8 l, .bool y]) (by simp [Try.ntmps94]) ?_
  simp (maxSteps := 2000000) only [Try.f94, Option.getD_some, vcCore, yieldT, Int.reduceEq, Int.reduceLT, Int.reduceLE, Int.reduceNe, not_true_eq_false, decide_true, decide_false, add_lit', Nat.zero_add, Nat.mul_one, Int.toNat_natCast, List.getElem?_toArray, List.getElem?_cons_zero, List.getElem?_cons_succ, Option.bind_some, List.map_cons, List.map_nil, List.map_toArray, Array.append_empty, Array.empty_append, List.append_nil, List.nil_append, List.append_toArray, ↓reduceIte, Nat.reduceEqDiff, Nat.reduceAdd, Nat.reduceLeDiff, List.contains_cons, List.contains_nil, Nat.reduceBEq, Bool.or_false, Bool.false_or, Bool.or_true, Bool.true_or, Bool.false_eq_true, Value.cells, List.size_toArray, List.length_cons, List.length_nil, Option.map_some, Option.map_none, Option.isSome_some, Option.isSome_none, Option.isNone_some, Option.isNone_none, true_and, and_true, ne_eq, reduceCtorEq, not_false_eq_true, Bool.not_true, Bool.not_false, tyAllRW03, then_normal]
  refine wires_Pulse ?_
  simp (maxSteps := 2000000) only [vcCore, yieldT, Int.reduceEq, Int.reduceLT, Int.reduceLE, Int.reduceNe, not_true_eq_false, decide_true, decide_false, add_lit', Nat.zero_add, Nat.mul_one, Int.toNat_natCast, List.getElem?_toArray, List.getElem?_cons_zero, List.getElem?_cons_succ, Option.bind_some, List.map_cons, List.map_nil, List.map_toArray, Array.append_empty, Array.empty_append, List.append_nil, List.nil_append, List.append_toArray, ↓reduceIte, Nat.reduceEqDiff, Nat.reduceAdd, Nat.reduceLeDiff, List.contains_cons, List.contains_nil, Nat.reduceBEq, Bool.or_false, Bool.false_or, Bool.or_true, Bool.true_or, Bool.false_eq_true, Value.cells, List.size_toArray, List.length_cons, List.length_nil, Option.map_some, Option.map_none, Option.isSome_some, Option.isSome_none, Option.isNone_some, Option.isNone_none, true_and, and_true, ne_eq, reduceCtorEq, not_false_eq_true, Bool.not_true, Bool.not_false, tyAllRW03, then_normal]
  exact h
end
end Go.Proofs.Ytcddhbhdpleppaa.R
/- The plan's layer, over the logic of partial memories. No conditions. -/
set_option linter.unusedVariables false
set_option linter.unusedSimpArgs false
namespace Go.Proofs.Ytcddhbhdpleppaa.R
open Go Go.RowKit Go.Proofs.Ytcddhbhdpleppaa
set_option maxRecDepth 100000
set_option maxHeartbeats 8000000
section
variable {W0 : World}
structure SlotV where
  kind : Int
  start : Int
  long : Int
  words : Int
  addr : Int
  many : Int
  cand : Int
  take : Bool
def SlotV.arr (s : SlotV) : Array Value := #[.int .i64 s.kind, .int .i64 s.start, .int .i64 s.long, .int .i64 s.words, .int .i64 s.addr, .int .i64 s.many, .int .i64 s.cand, .bool s.take]
abbrev SlotV.v (s : SlotV) : Value := .agg #[.int .i64 s.kind, .int .i64 s.start, .int .i64 s.long, .int .i64 s.words, .int .i64 s.addr, .int .i64 s.many, .int .i64 s.cand, .bool s.take]
def SlotV.begin (s : SlotV) (c : Int) : Int := if s.kind = 0 ∧ 0 ≤ c ∧ c < max s.many 1 then IntKind.i64.wrap (IntKind.i64.wrap (2 + IntKind.i64.wrap (4 * c)) * 20) else 0
end
end Go.Proofs.Ytcddhbhdpleppaa.R
/- The library's slices, over the logic of partial memories. No conditions. -/
set_option linter.unusedVariables false
set_option linter.unusedSimpArgs false
namespace Go.Proofs.Ytcddhbhdpleppaa.R
open Go Go.RowKit Go.Proofs.Ytcddhbhdpleppaa
set_option maxRecDepth 100000
set_option maxHeartbeats 8000000
section
variable {W0 : World}
end
end Go.Proofs.Ytcddhbhdpleppaa.R
/- The plan's layer: windows, over the logic of partial memories. No conditions. -/
set_option linter.unusedVariables false
set_option linter.unusedSimpArgs false
namespace Go.Proofs.Ytcddhbhdpleppaa.R
open Go Go.RowKit Go.Proofs.Ytcddhbhdpleppaa
set_option maxRecDepth 100000




set_option maxHeartbeats 400000
section
variable {W0 : World}
end
end Go.Proofs.Ytcddhbhdpleppaa.R
/- The plan's layer: schedules, over the logic of partial memories. No conditions. -/
set_option linter.unusedVariables false
set_option linter.unusedSimpArgs false
namespace Go.Proofs.Ytcddhbhdpleppaa.R
open Go Go.RowKit Go.Proofs.Ytcddhbhdpleppaa
set_option maxRecDepth 100000
set_option maxHeartbeats 8000000
section
variable {W0 : World}
end
end Go.Proofs.Ytcddhbhdpleppaa.R
/- The plan's layer: what a module has of a frame, over the logic of partial memories. No conditions. -/
set_option linter.unusedVariables false
set_option linter.unusedSimpArgs false
namespace Go.Proofs.Ytcddhbhdpleppaa.R
open Go Go.RowKit Go.Proofs.Ytcddhbhdpleppaa
set_option maxRecDepth 100000
set_option maxHeartbeats 8000000
section
variable {W0 : World}
def SlotV.cs (s : SlotV) : List Value := [.int .i64 s.kind, .int .i64 s.start, .int .i64 s.long, .int .i64 s.words, .int .i64 s.addr, .int .i64 s.many, .int .i64 s.cand, .bool s.take]
end
end Go.Proofs.Ytcddhbhdpleppaa.R
/- The plan's layer: pulses, the reference, and what the laws ask first, over the logic of partial memories. No conditions. -/
set_option linter.unusedVariables false
set_option linter.unusedSimpArgs false
namespace Go.Proofs.Ytcddhbhdpleppaa.R
open Go Go.RowKit Go.Proofs.Ytcddhbhdpleppaa
set_option maxRecDepth 100000
set_option maxHeartbeats 8000000
section
variable {W0 : World}
end
end Go.Proofs.Ytcddhbhdpleppaa.R
/- The serial layer: places of slots, over the logic of partial memories. No conditions. -/
set_option linter.unusedVariables false
set_option linter.unusedSimpArgs false
namespace Go.Proofs.Ytcddhbhdpleppaa.R
open Go Go.RowKit Go.Proofs.Ytcddhbhdpleppaa
set_option maxRecDepth 100000
set_option maxHeartbeats 8000000
section
variable {W0 : World}
theorem wires_Side' {m : Mem} (l : Int) (y : Bool) : Ret Try.prog W0 94 #[.int .u8 l, .bool y] m (.int .u8 (sideL l y)) := ⟨fun K h => wires_Side (h _ (Ext.refl _))⟩
/-- Where a candidate's words begin (0: nowhere). -/
def bg (s : SlotV) (c : Int) : Int := if s.kind = 0 ∧ 0 ≤ c ∧ c < max s.many 1 then 40 + 80 * c else 0
end
end Go.Proofs.Ytcddhbhdpleppaa.R
/- The serial layer: looks, over the logic of partial memories. No conditions. -/
set_option linter.unusedVariables false
set_option linter.unusedSimpArgs false
namespace Go.Proofs.Ytcddhbhdpleppaa.R
open Go Go.RowKit Go.Proofs.Ytcddhbhdpleppaa
set_option maxRecDepth 100000
set_option maxHeartbeats 8000000
section
variable {W0 : World}
end
end Go.Proofs.Ytcddhbhdpleppaa.R
/- The gate's layer, over the logic of partial memories. No conditions. -/
set_option linter.unusedVariables false
set_option linter.unusedSimpArgs false
namespace Go.Proofs.Ytcddhbhdpleppaa.R
open Go Go.RowKit Go.Proofs.Ytcddhbhdpleppaa
set_option maxRecDepth 100000
set_option maxHeartbeats 8000000
theorem tyAllRW18 : type_of% (And.intro (And.intro ty_3 ty_5) (And.intro ty_30 ty_141)) := (And.intro (And.intro ty_3 ty_5) (And.intro ty_30 ty_141))
section
variable {W0 : World}
def orL (l : List Int) : Int := l.foldl (fun a b => bits .or .u8 a b) 0
theorem orL_snoc (l : List Int) (x : Int) : orL (l ++ [x]) = bits .or .u8 (orL l) x := by simp [orL]
theorem wires_Or {m : Mem} {A : Option Addr} {c : Nat} {l : List Int} (hr : RS W0 m (.slice A l.length c) 1 l.length (u8 l)) (hl : l.length ≤ 1000000) : Ret Try.prog W0 91 #[.slice A l.length c] m (.int .u8 (orL l)) := by
  refine ⟨fun K h => ?_⟩
  refine en_91 (l := [.slice A l.length c]) (by simp [Try.ntmps91]) ?_
  have X : Ext m m := Ext.refl m
  simp (maxSteps := 2000000) only [Try.f91, Option.getD_some, vcCore, yieldT, Int.reduceEq, Int.reduceLT, Int.reduceLE, Int.reduceNe, not_true_eq_false, decide_true, decide_false, add_lit', Nat.zero_add, Nat.mul_one, Int.toNat_natCast, List.getElem?_toArray, List.getElem?_cons_zero, List.getElem?_cons_succ, Option.bind_some, List.map_cons, List.map_nil, List.map_toArray, Array.append_empty, Array.empty_append, List.append_nil, List.nil_append, List.append_toArray, ↓reduceIte, Nat.reduceEqDiff, Nat.reduceAdd, Nat.reduceLeDiff, List.contains_cons, List.contains_nil, Nat.reduceBEq, Bool.or_false, Bool.false_or, Bool.or_true, Bool.true_or, Bool.false_eq_true, Value.cells, List.size_toArray, List.length_cons, List.length_nil, Option.map_some, Option.map_none, Option.isSome_some, Option.isSome_none, Option.isNone_some, Option.isNone_none, true_and, and_true, ne_eq, reduceCtorEq, not_false_eq_true, Bool.not_true, Bool.not_false, tyAllRW18, then_normal, Int.cast_ofNat_Int, BEq.rfl, bne_self_eq_false, beq_self_eq_true, Bool.and_true, Bool.true_and, Bool.and_false, Bool.false_and, Int.reduceBEq, Int.reduceBNe, Nat.reduceMul, Nat.reduceDiv, Int.reduceToNat, Int.reduceNeg, Int.reduceAdd, Int.reduceSub, Int.reduceMul, ext_lit, Nat.reduceSub, Nat.add_zero, mp2_app, resK_cc, implies_true, imp_self, bb_ft, bb_tf, bb_t, bb_f, bn_t, bn_f, Nat.reduceLT, Mem.set_app, Mem.set_set, Ext_mp1, Ext_two, st_agg, ones_nil, ones_cons, oc_int, oc_bool, oc_str, oc_ptr, oc_sl, oc_map, max_if, min_if, bld_nil, bld_cons, bldStep_some, wr_def, List.take_succ_cons, List.take_zero, List.drop_succ_cons, List.drop_zero, List.cons_append, List.toList_toArray]
  refine loop_rule (fun d t m' => Ext m m' ∧ ∃ i : Nat, i ≤ l.length ∧ d = l.length - i ∧ t 6 = .slice A l.length c ∧ t 7 = .int .i64 l.length ∧ t 8 = .int .i64 i ∧ t 3 = .int .u8 (orL (l.take i)))
    l.length (by kernel_rfl) ⟨X, 0, by omega, by omega, rfl, rfl, rfl, rfl⟩ ?_
  clear X
  rintro d t m' ⟨X, i, hi, rfl, t6, t7, t8, t3⟩
  by_cases hlt : i < l.length
  · have h1 := nat_lt hlt
    have h2 := wrap_succ (i := i) (by omega)
    obtain ⟨x, hx⟩ := get_some hlt
    obtain ⟨a, rfl, hc⟩ := (hr.ext X).u8 hx
    have ho := orL_snoc (l.take i) x
    rw [← take_step hx] at ho
    have ho' := ho.symm
    clear ho hx
    repeat' (first | simp (maxSteps := 2000000) only [vcCore, yieldT, Int.reduceEq, Int.reduceLT, Int.reduceLE, Int.reduceNe, not_true_eq_false, decide_true, decide_false, add_lit', Nat.zero_add, Nat.mul_one, Int.toNat_natCast, List.getElem?_toArray, List.getElem?_cons_zero, List.getElem?_cons_succ, Option.bind_some, List.map_cons, List.map_nil, List.map_toArray, Array.append_empty, Array.empty_append, List.append_nil, List.nil_append, List.append_toArray, ↓reduceIte, Nat.reduceEqDiff, Nat.reduceAdd, Nat.reduceLeDiff, List.contains_cons, List.contains_nil, Nat.reduceBEq, Bool.or_false, Bool.false_or, Bool.or_true, Bool.true_or, Bool.false_eq_true, Value.cells, List.size_toArray, List.length_cons, List.length_nil, Option.map_some, Option.map_none, Option.isSome_some, Option.isSome_none, Option.isNone_some, Option.isNone_none, true_and, and_true, ne_eq, reduceCtorEq, not_false_eq_true, Bool.not_true, Bool.not_false, tyAllRW18, then_normal, Int.cast_ofNat_Int, BEq.rfl, bne_self_eq_false, beq_self_eq_true, Bool.and_true, Bool.true_and, Bool.and_false, Bool.false_and, Int.reduceBEq, Int.reduceBNe, Nat.reduceMul, Nat.reduceDiv, Int.reduceToNat, Int.reduceNeg, Int.reduceAdd, Int.reduceSub, Int.reduceMul, ext_lit, Nat.reduceSub, Nat.add_zero, mp2_app, resK_cc, implies_true, imp_self, bb_ft, bb_tf, bb_t, bb_f, bn_t, bn_f, Nat.reduceLT, Mem.set_app, Mem.set_set, Ext_mp1, Ext_two, st_agg, ones_nil, ones_cons, oc_int, oc_bool, oc_str, oc_ptr, oc_sl, oc_map, max_if, min_if, bld_nil, bld_cons, bldStep_some, wr_def, List.take_succ_cons, List.take_zero, List.drop_succ_cons, List.drop_zero, List.cons_append, List.toList_toArray, *] | (rw [mset_eq b1]; generalize hM : mset _ b1 _ = mS; (try replace X := set_X hM X n1); (first | replace KP := KP_self hM KP | replace KP := KP_set hM KP n1 | skip); (try (replace o2 := set_o hM o2 d21; replace c2 := blk_facts hb2 o2)); (try (replace o3 := set_o hM o3 d31; replace c3 := blk_facts hb3 o3)); (try (replace o4 := set_o hM o4 d41; replace c4 := blk_facts hb4 o4)); (try (replace o5 := set_o hM o5 d51; replace c5 := blk_facts hb5 o5)); replace o1 := set_same hM; clear hM; replace c1 := blk_facts hb1 o1) | (rw [mset_eq b2]; generalize hM : mset _ b2 _ = mS; (try replace X := set_X hM X n2); (first | replace KP := KP_self hM KP | replace KP := KP_set hM KP n2 | skip); (try (replace o1 := set_o hM o1 d12; replace c1 := blk_facts hb1 o1)); (try (replace o3 := set_o hM o3 d32; replace c3 := blk_facts hb3 o3)); (try (replace o4 := set_o hM o4 d42; replace c4 := blk_facts hb4 o4)); (try (replace o5 := set_o hM o5 d52; replace c5 := blk_facts hb5 o5)); replace o2 := set_same hM; clear hM; replace c2 := blk_facts hb2 o2) | (rw [mset_eq b3]; generalize hM : mset _ b3 _ = mS; (try replace X := set_X hM X n3); (first | replace KP := KP_self hM KP | replace KP := KP_set hM KP n3 | skip); (try (replace o1 := set_o hM o1 d13; replace c1 := blk_facts hb1 o1)); (try (replace o2 := set_o hM o2 d23; replace c2 := blk_facts hb2 o2)); (try (replace o4 := set_o hM o4 d43; replace c4 := blk_facts hb4 o4)); (try (replace o5 := set_o hM o5 d53; replace c5 := blk_facts hb5 o5)); replace o3 := set_same hM; clear hM; replace c3 := blk_facts hb3 o3) | (rw [mset_eq b4]; generalize hM : mset _ b4 _ = mS; (try replace X := set_X hM X n4); (first | replace KP := KP_self hM KP | replace KP := KP_set hM KP n4 | skip); (try (replace o1 := set_o hM o1 d14; replace c1 := blk_facts hb1 o1)); (try (replace o2 := set_o hM o2 d24; replace c2 := blk_facts hb2 o2)); (try (replace o3 := set_o hM o3 d34; replace c3 := blk_facts hb3 o3)); (try (replace o5 := set_o hM o5 d54; replace c5 := blk_facts hb5 o5)); replace o4 := set_same hM; clear hM; replace c4 := blk_facts hb4 o4) | (rw [mset_eq b5]; generalize hM : mset _ b5 _ = mS; (try replace X := set_X hM X n5); (first | replace KP := KP_self hM KP | replace KP := KP_set hM KP n5 | skip); (try (replace o1 := set_o hM o1 d15; replace c1 := blk_facts hb1 o1)); (try (replace o2 := set_o hM o2 d25; replace c2 := blk_facts hb2 o2)); (try (replace o3 := set_o hM o3 d35; replace c3 := blk_facts hb3 o3)); (try (replace o4 := set_o hM o4 d45; replace c4 := blk_facts hb4 o4)); replace o5 := set_same hM; clear hM; replace c5 := blk_facts hb5 o5) | ((first | ((with_reducible refine newK_init ?_ ?_ ?_ ?_); (focus (intro b; simp only [ev_tmp, ev_const, upd_app, reduceCtorEq, Nat.reduceEqDiff, Nat.reduceAdd, ↓reduceIte, Value.cells, List.size_toArray, List.length_cons, List.length_nil, st_int, st_bool, st_string, st_pointer, st_slice, st_map, st_agg, ones_nil, ones_cons, oc_int, oc_bool, oc_str, oc_ptr, oc_sl, oc_map, Bool.and_true, tyAllRW18, Option.map_some]; done)); (focus (simp only [ev_tmp, ev_const, upd_app, reduceCtorEq, Nat.reduceEqDiff, Nat.reduceAdd, ↓reduceIte, Value.cells, List.size_toArray, List.length_cons, List.length_nil, st_int, st_bool, st_string, st_pointer, st_slice, st_map, st_agg, ones_nil, ones_cons, oc_int, oc_bool, oc_str, oc_ptr, oc_sl, oc_map, Bool.and_true, tyAllRW18, Option.map_some]; done)); (focus (intro b; simp only [ev_tmp, ev_const, upd_app, reduceCtorEq, Nat.reduceEqDiff, Nat.reduceAdd, ↓reduceIte, Value.cells, List.size_toArray, List.length_cons, List.length_nil, st_int, st_bool, st_string, st_pointer, st_slice, st_map, st_agg, ones_nil, ones_cons, oc_int, oc_bool, oc_str, oc_ptr, oc_sl, oc_map, Bool.and_true, tyAllRW18, Option.map_some]; done))) | ((with_reducible refine newK.id ?_); refine newK_intro ?_) | ((with_reducible refine RunA.id ?_); (first | with_reducible refine rbuild1 sl_141 ze_30 ?_ ?_ ?_); (focus (simp only [Value.cells, List.size_toArray, List.length_cons, List.length_nil]; done)); (focus decide)) | ((first | with_reducible refine bG1 sl_141 ze_30 ?_ ?_ ?_); (focus (simp only [Value.cells, List.size_toArray, List.length_cons, List.length_nil]; done)); (focus decide)) | ((with_reducible refine RunA.id ?_); (first | with_reducible refine rbuild2 sl_141 ze_30 rfl rfl ?_)) | (first | with_reducible refine bG2 sl_141 ze_30 rfl rfl ?_)); (first | (have := o4; intro b5 m1 hb5 n5 e1 o5; (try (have d51 := ne_of o1 n5; have d15 := d51.symm)); (try (have d52 := ne_of o2 n5; have d25 := d52.symm)); (try (have d53 := ne_of o3 n5; have d35 := d53.symm)); (try (have d54 := ne_of o4 n5; have d45 := d54.symm)); replace n5 := none_of X n5; (try simp only [ev_tmp, ev_const, upd_app, reduceCtorEq, Nat.reduceEqDiff, Nat.reduceAdd, ↓reduceIte, Value.cells, List.size_toArray, List.length_cons, List.length_nil, st_int, st_bool, st_string, st_pointer, st_slice, st_map, st_agg, ones_nil, ones_cons, oc_int, oc_bool, oc_str, oc_ptr, oc_sl, oc_map, Bool.and_true, tyAllRW18, Option.map_some] at o5)) | (have := o3; intro b4 m1 hb4 n4 e1 o4; (try (have d41 := ne_of o1 n4; have d14 := d41.symm)); (try (have d42 := ne_of o2 n4; have d24 := d42.symm)); (try (have d43 := ne_of o3 n4; have d34 := d43.symm)); replace n4 := none_of X n4; (try simp only [ev_tmp, ev_const, upd_app, reduceCtorEq, Nat.reduceEqDiff, Nat.reduceAdd, ↓reduceIte, Value.cells, List.size_toArray, List.length_cons, List.length_nil, st_int, st_bool, st_string, st_pointer, st_slice, st_map, st_agg, ones_nil, ones_cons, oc_int, oc_bool, oc_str, oc_ptr, oc_sl, oc_map, Bool.and_true, tyAllRW18, Option.map_some] at o4)) | (have := o2; intro b3 m1 hb3 n3 e1 o3; (try (have d31 := ne_of o1 n3; have d13 := d31.symm)); (try (have d32 := ne_of o2 n3; have d23 := d32.symm)); replace n3 := none_of X n3; (try simp only [ev_tmp, ev_const, upd_app, reduceCtorEq, Nat.reduceEqDiff, Nat.reduceAdd, ↓reduceIte, Value.cells, List.size_toArray, List.length_cons, List.length_nil, st_int, st_bool, st_string, st_pointer, st_slice, st_map, st_agg, ones_nil, ones_cons, oc_int, oc_bool, oc_str, oc_ptr, oc_sl, oc_map, Bool.and_true, tyAllRW18, Option.map_some] at o3)) | (have := o1; intro b2 m1 hb2 n2 e1 o2; (try (have d21 := ne_of o1 n2; have d12 := d21.symm)); replace n2 := none_of X n2; (try simp only [ev_tmp, ev_const, upd_app, reduceCtorEq, Nat.reduceEqDiff, Nat.reduceAdd, ↓reduceIte, Value.cells, List.size_toArray, List.length_cons, List.length_nil, st_int, st_bool, st_string, st_pointer, st_slice, st_map, st_agg, ones_nil, ones_cons, oc_int, oc_bool, oc_str, oc_ptr, oc_sl, oc_map, Bool.and_true, tyAllRW18, Option.map_some] at o2)) | (intro b1 m1 hb1 n1 e1 o1; replace n1 := none_of X n1; (try simp only [ev_tmp, ev_const, upd_app, reduceCtorEq, Nat.reduceEqDiff, Nat.reduceAdd, ↓reduceIte, Value.cells, List.size_toArray, List.length_cons, List.length_nil, st_int, st_bool, st_string, st_pointer, st_slice, st_map, st_agg, ones_nil, ones_cons, oc_int, oc_bool, oc_str, oc_ptr, oc_sl, oc_map, Bool.and_true, tyAllRW18, Option.map_some] at o1))); (try replace X := X.trans e1); (try replace P3 := P3.ext e1); (try (replace o1 := e1 _ _ o1; replace c1 := blk_facts hb1 o1)); (try (replace o2 := e1 _ _ o2; replace c2 := blk_facts hb2 o2)); (try (replace o3 := e1 _ _ o3; replace c3 := blk_facts hb3 o3)); (try (replace o4 := e1 _ _ o4; replace c4 := blk_facts hb4 o4)); (try (replace o5 := e1 _ _ o5; replace c5 := blk_facts hb5 o5)); (try have c1 := blk_facts hb1 o1); (try have c2 := blk_facts hb2 o2); (try have c3 := blk_facts hb3 o3); (try have c4 := blk_facts hb4 o4); (try have c5 := blk_facts hb5 o5)) | ((first | with_reducible refine rsl_hZ sl_141 ?_ ?_ ?_); (iterate 2 (focus (first | omega | (simp only [*] <;> omega))))) | ((first | with_reducible refine rsl_lZ sl_141 ?_ ?_ ?_); (iterate 2 (focus (first | omega | (simp only [*] <;> omega))))) | ((with_reducible refine CodeA.id ?_); (first | fail)) | ((with_reducible refine And.intro ?_ ?_); (focus omega)) | with_reducible refine cK_both _ _ _ _ _ _ (fun hc => ?_) (fun hc => ?_) | ((with_reducible refine gO_both _ _ (fun hc => ?_) (fun hc => ?_)) <;> (try simp only [Bool.not_true, Bool.not_false] at hc)) | ((with_reducible refine gH_both _ _ (fun hc => ?_) (fun hc => ?_)) <;> (try simp only [Bool.not_true, Bool.not_false] at hc)) | with_reducible refine pickK_both _ (fun hc => ?_) (fun hc => ?_))
    exact ⟨l.length - (i + 1), by omega, X, i + 1, by omega, rfl, t6, t7, rfl, by simp [upd_app, *]⟩
  · have h1 := nat_not_lt hlt
    rw [List.take_of_length_le (by omega)] at t3
    repeat' (first | simp (maxSteps := 2000000) only [vcCore, yieldT, Int.reduceEq, Int.reduceLT, Int.reduceLE, Int.reduceNe, not_true_eq_false, decide_true, decide_false, add_lit', Nat.zero_add, Nat.mul_one, Int.toNat_natCast, List.getElem?_toArray, List.getElem?_cons_zero, List.getElem?_cons_succ, Option.bind_some, List.map_cons, List.map_nil, List.map_toArray, Array.append_empty, Array.empty_append, List.append_nil, List.nil_append, List.append_toArray, ↓reduceIte, Nat.reduceEqDiff, Nat.reduceAdd, Nat.reduceLeDiff, List.contains_cons, List.contains_nil, Nat.reduceBEq, Bool.or_false, Bool.false_or, Bool.or_true, Bool.true_or, Bool.false_eq_true, Value.cells, List.size_toArray, List.length_cons, List.length_nil, Option.map_some, Option.map_none, Option.isSome_some, Option.isSome_none, Option.isNone_some, Option.isNone_none, true_and, and_true, ne_eq, reduceCtorEq, not_false_eq_true, Bool.not_true, Bool.not_false, tyAllRW18, then_normal, Int.cast_ofNat_Int, BEq.rfl, bne_self_eq_false, beq_self_eq_true, Bool.and_true, Bool.true_and, Bool.and_false, Bool.false_and, Int.reduceBEq, Int.reduceBNe, Nat.reduceMul, Nat.reduceDiv, Int.reduceToNat, Int.reduceNeg, Int.reduceAdd, Int.reduceSub, Int.reduceMul, ext_lit, Nat.reduceSub, Nat.add_zero, mp2_app, resK_cc, implies_true, imp_self, bb_ft, bb_tf, bb_t, bb_f, bn_t, bn_f, Nat.reduceLT, Mem.set_app, Mem.set_set, Ext_mp1, Ext_two, st_agg, ones_nil, ones_cons, oc_int, oc_bool, oc_str, oc_ptr, oc_sl, oc_map, max_if, min_if, bld_nil, bld_cons, bldStep_some, wr_def, List.take_succ_cons, List.take_zero, List.drop_succ_cons, List.drop_zero, List.cons_append, List.toList_toArray, *] | (rw [mset_eq b1]; generalize hM : mset _ b1 _ = mS; (try replace X := set_X hM X n1); (first | replace KP := KP_self hM KP | replace KP := KP_set hM KP n1 | skip); (try (replace o2 := set_o hM o2 d21; replace c2 := blk_facts hb2 o2)); (try (replace o3 := set_o hM o3 d31; replace c3 := blk_facts hb3 o3)); (try (replace o4 := set_o hM o4 d41; replace c4 := blk_facts hb4 o4)); (try (replace o5 := set_o hM o5 d51; replace c5 := blk_facts hb5 o5)); replace o1 := set_same hM; clear hM; replace c1 := blk_facts hb1 o1) | (rw [mset_eq b2]; generalize hM : mset _ b2 _ = mS; (try replace X := set_X hM X n2); (first | replace KP := KP_self hM KP | replace KP := KP_set hM KP n2 | skip); (try (replace o1 := set_o hM o1 d12; replace c1 := blk_facts hb1 o1)); (try (replace o3 := set_o hM o3 d32; replace c3 := blk_facts hb3 o3)); (try (replace o4 := set_o hM o4 d42; replace c4 := blk_facts hb4 o4)); (try (replace o5 := set_o hM o5 d52; replace c5 := blk_facts hb5 o5)); replace o2 := set_same hM; clear hM; replace c2 := blk_facts hb2 o2) | (rw [mset_eq b3]; generalize hM : mset _ b3 _ = mS; (try replace X := set_X hM X n3); (first | replace KP := KP_self hM KP | replace KP := KP_set hM KP n3 | skip); (try (replace o1 := set_o hM o1 d13; replace c1 := blk_facts hb1 o1)); (try (replace o2 := set_o hM o2 d23; replace c2 := blk_facts hb2 o2)); (try (replace o4 := set_o hM o4 d43; replace c4 := blk_facts hb4 o4)); (try (replace o5 := set_o hM o5 d53; replace c5 := blk_facts hb5 o5)); replace o3 := set_same hM; clear hM; replace c3 := blk_facts hb3 o3) | (rw [mset_eq b4]; generalize hM : mset _ b4 _ = mS; (try replace X := set_X hM X n4); (first | replace KP := KP_self hM KP | replace KP := KP_set hM KP n4 | skip); (try (replace o1 := set_o hM o1 d14; replace c1 := blk_facts hb1 o1)); (try (replace o2 := set_o hM o2 d24; replace c2 := blk_facts hb2 o2)); (try (replace o3 := set_o hM o3 d34; replace c3 := blk_facts hb3 o3)); (try (replace o5 := set_o hM o5 d54; replace c5 := blk_facts hb5 o5)); replace o4 := set_same hM; clear hM; replace c4 := blk_facts hb4 o4) | (rw [mset_eq b5]; generalize hM : mset _ b5 _ = mS; (try replace X := set_X hM X n5); (first | replace KP := KP_self hM KP | replace KP := KP_set hM KP n5 | skip); (try (replace o1 := set_o hM o1 d15; replace c1 := blk_facts hb1 o1)); (try (replace o2 := set_o hM o2 d25; replace c2 := blk_facts hb2 o2)); (try (replace o3 := set_o hM o3 d35; replace c3 := blk_facts hb3 o3)); (try (replace o4 := set_o hM o4 d45; replace c4 := blk_facts hb4 o4)); replace o5 := set_same hM; clear hM; replace c5 := blk_facts hb5 o5) | ((first | ((with_reducible refine newK_init ?_ ?_ ?_ ?_); (focus (intro b; simp only [ev_tmp, ev_const, upd_app, reduceCtorEq, Nat.reduceEqDiff, Nat.reduceAdd, ↓reduceIte, Value.cells, List.size_toArray, List.length_cons, List.length_nil, st_int, st_bool, st_string, st_pointer, st_slice, st_map, st_agg, ones_nil, ones_cons, oc_int, oc_bool, oc_str, oc_ptr, oc_sl, oc_map, Bool.and_true, tyAllRW18, Option.map_some]; done)); (focus (simp only [ev_tmp, ev_const, upd_app, reduceCtorEq, Nat.reduceEqDiff, Nat.reduceAdd, ↓reduceIte, Value.cells, List.size_toArray, List.length_cons, List.length_nil, st_int, st_bool, st_string, st_pointer, st_slice, st_map, st_agg, ones_nil, ones_cons, oc_int, oc_bool, oc_str, oc_ptr, oc_sl, oc_map, Bool.and_true, tyAllRW18, Option.map_some]; done)); (focus (intro b; simp only [ev_tmp, ev_const, upd_app, reduceCtorEq, Nat.reduceEqDiff, Nat.reduceAdd, ↓reduceIte, Value.cells, List.size_toArray, List.length_cons, List.length_nil, st_int, st_bool, st_string, st_pointer, st_slice, st_map, st_agg, ones_nil, ones_cons, oc_int, oc_bool, oc_str, oc_ptr, oc_sl, oc_map, Bool.and_true, tyAllRW18, Option.map_some]; done))) | ((with_reducible refine newK.id ?_); refine newK_intro ?_) | ((with_reducible refine RunA.id ?_); (first | with_reducible refine rbuild1 sl_141 ze_30 ?_ ?_ ?_); (focus (simp only [Value.cells, List.size_toArray, List.length_cons, List.length_nil]; done)); (focus decide)) | ((first | with_reducible refine bG1 sl_141 ze_30 ?_ ?_ ?_); (focus (simp only [Value.cells, List.size_toArray, List.length_cons, List.length_nil]; done)); (focus decide)) | ((with_reducible refine RunA.id ?_); (first | with_reducible refine rbuild2 sl_141 ze_30 rfl rfl ?_)) | (first | with_reducible refine bG2 sl_141 ze_30 rfl rfl ?_)); (first | (have := o4; intro b5 m1 hb5 n5 e1 o5; (try (have d51 := ne_of o1 n5; have d15 := d51.symm)); (try (have d52 := ne_of o2 n5; have d25 := d52.symm)); (try (have d53 := ne_of o3 n5; have d35 := d53.symm)); (try (have d54 := ne_of o4 n5; have d45 := d54.symm)); replace n5 := none_of X n5; (try simp only [ev_tmp, ev_const, upd_app, reduceCtorEq, Nat.reduceEqDiff, Nat.reduceAdd, ↓reduceIte, Value.cells, List.size_toArray, List.length_cons, List.length_nil, st_int, st_bool, st_string, st_pointer, st_slice, st_map, st_agg, ones_nil, ones_cons, oc_int, oc_bool, oc_str, oc_ptr, oc_sl, oc_map, Bool.and_true, tyAllRW18, Option.map_some] at o5)) | (have := o3; intro b4 m1 hb4 n4 e1 o4; (try (have d41 := ne_of o1 n4; have d14 := d41.symm)); (try (have d42 := ne_of o2 n4; have d24 := d42.symm)); (try (have d43 := ne_of o3 n4; have d34 := d43.symm)); replace n4 := none_of X n4; (try simp only [ev_tmp, ev_const, upd_app, reduceCtorEq, Nat.reduceEqDiff, Nat.reduceAdd, ↓reduceIte, Value.cells, List.size_toArray, List.length_cons, List.length_nil, st_int, st_bool, st_string, st_pointer, st_slice, st_map, st_agg, ones_nil, ones_cons, oc_int, oc_bool, oc_str, oc_ptr, oc_sl, oc_map, Bool.and_true, tyAllRW18, Option.map_some] at o4)) | (have := o2; intro b3 m1 hb3 n3 e1 o3; (try (have d31 := ne_of o1 n3; have d13 := d31.symm)); (try (have d32 := ne_of o2 n3; have d23 := d32.symm)); replace n3 := none_of X n3; (try simp only [ev_tmp, ev_const, upd_app, reduceCtorEq, Nat.reduceEqDiff, Nat.reduceAdd, ↓reduceIte, Value.cells, List.size_toArray, List.length_cons, List.length_nil, st_int, st_bool, st_string, st_pointer, st_slice, st_map, st_agg, ones_nil, ones_cons, oc_int, oc_bool, oc_str, oc_ptr, oc_sl, oc_map, Bool.and_true, tyAllRW18, Option.map_some] at o3)) | (have := o1; intro b2 m1 hb2 n2 e1 o2; (try (have d21 := ne_of o1 n2; have d12 := d21.symm)); replace n2 := none_of X n2; (try simp only [ev_tmp, ev_const, upd_app, reduceCtorEq, Nat.reduceEqDiff, Nat.reduceAdd, ↓reduceIte, Value.cells, List.size_toArray, List.length_cons, List.length_nil, st_int, st_bool, st_string, st_pointer, st_slice, st_map, st_agg, ones_nil, ones_cons, oc_int, oc_bool, oc_str, oc_ptr, oc_sl, oc_map, Bool.and_true, tyAllRW18, Option.map_some] at o2)) | (intro b1 m1 hb1 n1 e1 o1; replace n1 := none_of X n1; (try simp only [ev_tmp, ev_const, upd_app, reduceCtorEq, Nat.reduceEqDiff, Nat.reduceAdd, ↓reduceIte, Value.cells, List.size_toArray, List.length_cons, List.length_nil, st_int, st_bool, st_string, st_pointer, st_slice, st_map, st_agg, ones_nil, ones_cons, oc_int, oc_bool, oc_str, oc_ptr, oc_sl, oc_map, Bool.and_true, tyAllRW18, Option.map_some] at o1))); (try replace X := X.trans e1); (try replace P3 := P3.ext e1); (try (replace o1 := e1 _ _ o1; replace c1 := blk_facts hb1 o1)); (try (replace o2 := e1 _ _ o2; replace c2 := blk_facts hb2 o2)); (try (replace o3 := e1 _ _ o3; replace c3 := blk_facts hb3 o3)); (try (replace o4 := e1 _ _ o4; replace c4 := blk_facts hb4 o4)); (try (replace o5 := e1 _ _ o5; replace c5 := blk_facts hb5 o5)); (try have c1 := blk_facts hb1 o1); (try have c2 := blk_facts hb2 o2); (try have c3 := blk_facts hb3 o3); (try have c4 := blk_facts hb4 o4); (try have c5 := blk_facts hb5 o5)) | ((first | with_reducible refine rsl_hZ sl_141 ?_ ?_ ?_); (iterate 2 (focus (first | omega | (simp only [*] <;> omega))))) | ((first | with_reducible refine rsl_lZ sl_141 ?_ ?_ ?_); (iterate 2 (focus (first | omega | (simp only [*] <;> omega))))) | ((with_reducible refine CodeA.id ?_); (first | fail)) | ((with_reducible refine And.intro ?_ ?_); (focus omega)) | with_reducible refine cK_both _ _ _ _ _ _ (fun hc => ?_) (fun hc => ?_) | ((with_reducible refine gO_both _ _ (fun hc => ?_) (fun hc => ?_)) <;> (try simp only [Bool.not_true, Bool.not_false] at hc)) | ((with_reducible refine gH_both _ _ (fun hc => ?_) (fun hc => ?_)) <;> (try simp only [Bool.not_true, Bool.not_false] at hc)) | with_reducible refine pickK_both _ (fun hc => ?_) (fun hc => ?_))
end
end Go.Proofs.Ytcddhbhdpleppaa.R
