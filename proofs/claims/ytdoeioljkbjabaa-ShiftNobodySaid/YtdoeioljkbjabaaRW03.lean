/- The wires' layer, over the logic of partial memories. No conditions. -/
import Derived.Test.YtdoeioljkbjabaaRT
import Derived.Test.YtdoeioljkbjabaaRLib2
set_option linter.unusedVariables false
set_option linter.unusedSimpArgs false
namespace Go.Proofs.Ytdoeioljkbjabaa.R
open Go Go.RowKit Go.Proofs.Ytdoeioljkbjabaa
set_option maxRecDepth 100000
set_option maxHeartbeats 8000000
theorem tyAllRW03 : type_of% (And.intro (And.intro (And.intro (And.intro ty_1 (And.intro ty_2 ty_3)) (And.intro (And.intro ty_4 ty_5) (And.intro ty_6 ty_7))) (And.intro (And.intro (And.intro ty_8 ty_9) (And.intro ty_12 ty_13)) (And.intro (And.intro ty_14 ty_22) (And.intro ty_56 ty_58)))) (And.intro (And.intro (And.intro (And.intro ty_59 ty_60) (And.intro ty_61 ty_64)) (And.intro (And.intro ty_67 ty_70) (And.intro ty_71 ty_72))) (And.intro (And.intro (And.intro ty_73 ty_75) (And.intro ty_77 ty_85)) (And.intro (And.intro ty_99 ty_100) (And.intro ty_101 ty_127))))) := (And.intro (And.intro (And.intro (And.intro ty_1 (And.intro ty_2 ty_3)) (And.intro (And.intro ty_4 ty_5) (And.intro ty_6 ty_7))) (And.intro (And.intro (And.intro ty_8 ty_9) (And.intro ty_12 ty_13)) (And.intro (And.intro ty_14 ty_22) (And.intro ty_56 ty_58)))) (And.intro (And.intro (And.intro (And.intro ty_59 ty_60) (And.intro ty_61 ty_64)) (And.intro (And.intro ty_67 ty_70) (And.intro ty_71 ty_72))) (And.intro (And.intro (And.intro ty_73 ty_75) (And.intro ty_77 ty_85)) (And.intro (And.intro ty_99 ty_100) (And.intro ty_101 ty_127)))))
section
variable {W0 : World}
def isL (n : Int) : Bool := decide (0 ≤ n) && decide (n ≤ 3)
def hiL (l n : Int) : Bool := isL n && (l / 2 ^ n.toNat) % 2 == 1
def setL (l n : Int) (h : Bool) : Int := if isL n then (if h then bits .or .u8 (bits .andNot .u8 l (2 ^ n.toNat)) (2 ^ n.toNat) else bits .andNot .u8 l (2 ^ n.toNat)) else l
def pulL (y : Bool) : Int := if y then 12 else 3
def sideL (l : Int) (y : Bool) : Int := bits .and .u8 l (pulL y)
/-- Eight bits. -/
def U8 (l : Int) : Prop := 0 ≤ l ∧ l < 256
theorem u8_bits (op : BinOp) (a b : Int) : U8 (bits op .u8 a b) := by
  unfold U8
  have : ∀ x : Int, 0 ≤ IntKind.u8.wrap x ∧ IntKind.u8.wrap x < 256 := fun x => by rw [IntKind.wrap_u8]; omega
  unfold bits
  exact this _
theorem U8.set {l n : Int} {h : Bool} (hl : U8 l) : U8 (setL l n h) := by
  unfold setL
  split
  · split <;> exact u8_bits _ _ _
  · exact hl
theorem U8.side {l : Int} {y : Bool} : U8 (sideL l y) := u8_bits _ _ _
theorem isL_cases {n : Int} (h : isL n = true) : n = 0 ∨ n = 1 ∨ n = 2 ∨ n = 3 := by unfold isL at h; simp at h; omega
theorem wires_is {m : Mem} {K : Value → Mem → Prop} {n : Int} (h : K (.bool (isL n)) m) : CallA Try.prog W0 85 #[.int .i64 n] m K := by
  refine en_85 (l := [.int .i64 n]) (by simp [Try.ntmps85]) ?_
  by_cases h0 : 0 ≤ n
  · by_cases h1 : n ≤ 3 <;> simp (maxSteps := 2000000) only [Try.f85, Option.getD_some, vcCore, yieldT, Int.reduceEq, Int.reduceLT, Int.reduceLE, Int.reduceNe, not_true_eq_false, decide_true, decide_false, add_lit', Nat.zero_add, Nat.mul_one, Int.toNat_natCast, List.getElem?_toArray, List.getElem?_cons_zero, List.getElem?_cons_succ, Option.bind_some, List.map_cons, List.map_nil, List.map_toArray, Array.append_empty, Array.empty_append, List.append_nil, List.nil_append, List.append_toArray, ↓reduceIte, Nat.reduceEqDiff, Nat.reduceAdd, Nat.reduceLeDiff, List.contains_cons, List.contains_nil, Nat.reduceBEq, Bool.or_false, Bool.false_or, Bool.or_true, Bool.true_or, Bool.false_eq_true, Value.cells, List.size_toArray, List.length_cons, List.length_nil, Option.map_some, Option.map_none, Option.isSome_some, Option.isSome_none, Option.isNone_some, Option.isNone_none, true_and, and_true, ne_eq, reduceCtorEq, not_false_eq_true, Bool.not_true, Bool.not_false, tyAllRW03, then_normal, h0, h1]
    · have : isL n = true := by simp [isL, h0, h1]
      rw [this] at h; exact h
    · have : isL n = false := by simp [isL, h0, h1]
      rw [this] at h; exact h
  · simp (maxSteps := 2000000) only [Try.f85, Option.getD_some, vcCore, yieldT, Int.reduceEq, Int.reduceLT, Int.reduceLE, Int.reduceNe, not_true_eq_false, decide_true, decide_false, add_lit', Nat.zero_add, Nat.mul_one, Int.toNat_natCast, List.getElem?_toArray, List.getElem?_cons_zero, List.getElem?_cons_succ, Option.bind_some, List.map_cons, List.map_nil, List.map_toArray, Array.append_empty, Array.empty_append, List.append_nil, List.nil_append, List.append_toArray, ↓reduceIte, Nat.reduceEqDiff, Nat.reduceAdd, Nat.reduceLeDiff, List.contains_cons, List.contains_nil, Nat.reduceBEq, Bool.or_false, Bool.false_or, Bool.or_true, Bool.true_or, Bool.false_eq_true, Value.cells, List.size_toArray, List.length_cons, List.length_nil, Option.map_some, Option.map_none, Option.isSome_some, Option.isSome_none, Option.isNone_some, Option.isNone_none, true_and, and_true, ne_eq, reduceCtorEq, not_false_eq_true, Bool.not_true, Bool.not_false, tyAllRW03, then_normal, h0]
    have : isL n = false := by simp [isL, h0]
    rw [this] at h; exact h
theorem wires_High {m : Mem} {K : Value → Mem → Prop} {l n : Int} (hl : 0 ≤ l ∧ l < 256) (h : K (.bool (hiL l n)) m) : CallA Try.prog W0 77 #[.int .u8 l, .int .i64 n] m K := by
  refine en_77 (l := [.int .u8 l, .int .i64 n]) (by simp [Try.ntmps77]) ?_
  simp (maxSteps := 2000000) only [Try.f77, Option.getD_some, vcCore, yieldT, Int.reduceEq, Int.reduceLT, Int.reduceLE, Int.reduceNe, not_true_eq_false, decide_true, decide_false, add_lit', Nat.zero_add, Nat.mul_one, Int.toNat_natCast, List.getElem?_toArray, List.getElem?_cons_zero, List.getElem?_cons_succ, Option.bind_some, List.map_cons, List.map_nil, List.map_toArray, Array.append_empty, Array.empty_append, List.append_nil, List.nil_append, List.append_toArray, ↓reduceIte, Nat.reduceEqDiff, Nat.reduceAdd, Nat.reduceLeDiff, List.contains_cons, List.contains_nil, Nat.reduceBEq, Bool.or_false, Bool.false_or, Bool.or_true, Bool.true_or, Bool.false_eq_true, Value.cells, List.size_toArray, List.length_cons, List.length_nil, Option.map_some, Option.map_none, Option.isSome_some, Option.isSome_none, Option.isNone_some, Option.isNone_none, true_and, and_true, ne_eq, reduceCtorEq, not_false_eq_true, Bool.not_true, Bool.not_false, tyAllRW03, then_normal]
  refine wires_is ?_
  unfold hiL at h
  cases hn : isL n <;> rw [hn] at h
  · simp (maxSteps := 2000000) only [vcCore, yieldT, Int.reduceEq, Int.reduceLT, Int.reduceLE, Int.reduceNe, not_true_eq_false, decide_true, decide_false, add_lit', Nat.zero_add, Nat.mul_one, Int.toNat_natCast, List.getElem?_toArray, List.getElem?_cons_zero, List.getElem?_cons_succ, Option.bind_some, List.map_cons, List.map_nil, List.map_toArray, Array.append_empty, Array.empty_append, List.append_nil, List.nil_append, List.append_toArray, ↓reduceIte, Nat.reduceEqDiff, Nat.reduceAdd, Nat.reduceLeDiff, List.contains_cons, List.contains_nil, Nat.reduceBEq, Bool.or_false, Bool.false_or, Bool.or_true, Bool.true_or, Bool.false_eq_true, Value.cells, List.size_toArray, List.length_cons, List.length_nil, Option.map_some, Option.map_none, Option.isSome_some, Option.isSome_none, Option.isNone_some, Option.isNone_none, true_and, and_true, ne_eq, reduceCtorEq, not_false_eq_true, Bool.not_true, Bool.not_false, tyAllRW03, then_normal]
    exact h
  · simp (maxSteps := 2000000) only [vcCore, yieldT, Int.reduceEq, Int.reduceLT, Int.reduceLE, Int.reduceNe, not_true_eq_false, decide_true, decide_false, add_lit', Nat.zero_add, Nat.mul_one, Int.toNat_natCast, List.getElem?_toArray, List.getElem?_cons_zero, List.getElem?_cons_succ, Option.bind_some, List.map_cons, List.map_nil, List.map_toArray, Array.append_empty, Array.empty_append, List.append_nil, List.nil_append, List.append_toArray, ↓reduceIte, Nat.reduceEqDiff, Nat.reduceAdd, Nat.reduceLeDiff, List.contains_cons, List.contains_nil, Nat.reduceBEq, Bool.or_false, Bool.false_or, Bool.or_true, Bool.true_or, Bool.false_eq_true, Value.cells, List.size_toArray, List.length_cons, List.length_nil, Option.map_some, Option.map_none, Option.isSome_some, Option.isSome_none, Option.isNone_some, Option.isNone_none, true_and, and_true, ne_eq, reduceCtorEq, not_false_eq_true, Bool.not_true, Bool.not_false, tyAllRW03, then_normal]
    have hb : 0 ≤ n ∧ n ≤ 3 := by unfold isL at hn; simpa using hn
    refine ⟨hb.1, ?_⟩
    have e2 : min n.toNat (IntKind.bits .u8) = n.toNat := by simp [IntKind.bits]; omega
    have hd : 0 ≤ l / 2 ^ n.toNat := Int.ediv_nonneg hl.1 (Int.pow_nonneg (by decide))
    have hd2 : l / 2 ^ n.toNat < 256 := by have := Int.ediv_le_self (2 ^ n.toNat) hl.1; omega
    rw [e2, fdiv_pos (Int.pow_nonneg (by decide)), and_one hd hd2]
    exact h
/-- How many lines are high. -/
def cntL (l : Int) : Int := l % 2 + l / 2 % 2 + l / 4 % 2 + l / 8 % 2
theorem cntL_tab : ∀ l : Fin 256, ([0, 1, 1, 2, 1, 2, 2, 3, 1, 2, 2, 3, 2, 3, 3, 4] : List Int).getD (l.val % 16) 0 = cntL (l.val : Int) := by decide +kernel
theorem u8_and15 : ∀ l : Fin 256, bits .and .u8 (l.val : Int) 15 = ((l.val % 16 : Nat) : Int) := by decide +kernel
theorem bits_OnesCount8 {m : Mem} {K : Value → Mem → Prop} {k : Nat} (hk : k < 16) (h : K (.int .i64 (([0, 1, 1, 2, 1, 2, 2, 3, 1, 2, 2, 3, 2, 3, 3, 4] : List Int).getD k 0)) m) : CallA Try.prog W0 75 #[.int .u8 (k : Int)] m K := by
  refine en_75 (l := [.int .u8 (k : Int)]) (by simp [Try.ntmps75]) ?_
  simp (maxSteps := 2000000) only [Try.f75, Option.getD_some, vcCore, yieldT, Int.reduceEq, Int.reduceLT, Int.reduceLE, Int.reduceNe, not_true_eq_false, decide_true, decide_false, add_lit', Nat.zero_add, Nat.mul_one, Int.toNat_natCast, List.getElem?_toArray, List.getElem?_cons_zero, List.getElem?_cons_succ, Option.bind_some, List.map_cons, List.map_nil, List.map_toArray, Array.append_empty, Array.empty_append, List.append_nil, List.nil_append, List.append_toArray, ↓reduceIte, Nat.reduceEqDiff, Nat.reduceAdd, Nat.reduceLeDiff, List.contains_cons, List.contains_nil, Nat.reduceBEq, Bool.or_false, Bool.false_or, Bool.or_true, Bool.true_or, Bool.false_eq_true, Value.cells, List.size_toArray, List.length_cons, List.length_nil, Option.map_some, Option.map_none, Option.isSome_some, Option.isSome_none, Option.isNone_some, Option.isNone_none, true_and, and_true, ne_eq, reduceCtorEq, not_false_eq_true, Bool.not_true, Bool.not_false, tyAllRW03, then_normal]
  generalize hS : ByteArray.mk _ = S
  have key : ∀ j : Fin 16, (ByteArray.mk S.data)[j.val]? = some (UInt8.ofNat (([0, 1, 1, 2, 1, 2, 2, 3, 1, 2, 2, 3, 2, 3, 3, 4] : List Nat).getD j.val 0)) := by
    rw [← hS]; decide +kernel
  have key2 : ∀ j : Fin 16, ((UInt8.ofNat (([0, 1, 1, 2, 1, 2, 2, 3, 1, 2, 2, 3, 2, 3, 3, 4] : List Nat).getD j.val 0)).toNat : Int) = ([0, 1, 1, 2, 1, 2, 2, 3, 1, 2, 2, 3, 2, 3, 3, 4] : List Int).getD j.val 0 := by decide +kernel
  have key3 : ∀ j : Fin 16, IntKind.i64.wrap (([0, 1, 1, 2, 1, 2, 2, 3, 1, 2, 2, 3, 2, 3, 3, 4] : List Int).getD j.val 0) = ([0, 1, 1, 2, 1, 2, 2, 3, 1, 2, 2, 3, 2, 3, 3, 4] : List Int).getD j.val 0 := by decide +kernel
  have k1 : S[k]? = _ := key ⟨k, hk⟩
  have k2 : ((UInt8.ofNat (([0, 1, 1, 2, 1, 2, 2, 3, 1, 2, 2, 3, 2, 3, 3, 4] : List Nat).getD k 0)).toNat : Int) = _ := key2 ⟨k, hk⟩
  have k3 : IntKind.i64.wrap _ = _ := key3 ⟨k, hk⟩
  rw [k1, byteK_some]
  simp (maxSteps := 2000000) only [vcCore, yieldT, Int.reduceEq, Int.reduceLT, Int.reduceLE, Int.reduceNe, not_true_eq_false, decide_true, decide_false, add_lit', Nat.zero_add, Nat.mul_one, Int.toNat_natCast, List.getElem?_toArray, List.getElem?_cons_zero, List.getElem?_cons_succ, Option.bind_some, List.map_cons, List.map_nil, List.map_toArray, Array.append_empty, Array.empty_append, List.append_nil, List.nil_append, List.append_toArray, ↓reduceIte, Nat.reduceEqDiff, Nat.reduceAdd, Nat.reduceLeDiff, List.contains_cons, List.contains_nil, Nat.reduceBEq, Bool.or_false, Bool.false_or, Bool.or_true, Bool.true_or, Bool.false_eq_true, Value.cells, List.size_toArray, List.length_cons, List.length_nil, Option.map_some, Option.map_none, Option.isSome_some, Option.isSome_none, Option.isNone_some, Option.isNone_none, true_and, and_true, ne_eq, reduceCtorEq, not_false_eq_true, Bool.not_true, Bool.not_false, tyAllRW03, then_normal, k2, k3]
  exact h
theorem wires_Count {m : Mem} {K : Value → Mem → Prop} {l : Int} (hl : U8 l) (h : K (.int .i64 (cntL l)) m) : CallA Try.prog W0 56 #[.int .u8 l] m K := by
  refine en_56 (l := [.int .u8 l]) (by simp [Try.ntmps56]) ?_
  obtain ⟨n, rfl⟩ := u8_cases hl.1 hl.2
  simp (maxSteps := 2000000) only [Try.f56, Option.getD_some, vcCore, yieldT, Int.reduceEq, Int.reduceLT, Int.reduceLE, Int.reduceNe, not_true_eq_false, decide_true, decide_false, add_lit', Nat.zero_add, Nat.mul_one, Int.toNat_natCast, List.getElem?_toArray, List.getElem?_cons_zero, List.getElem?_cons_succ, Option.bind_some, List.map_cons, List.map_nil, List.map_toArray, Array.append_empty, Array.empty_append, List.append_nil, List.nil_append, List.append_toArray, ↓reduceIte, Nat.reduceEqDiff, Nat.reduceAdd, Nat.reduceLeDiff, List.contains_cons, List.contains_nil, Nat.reduceBEq, Bool.or_false, Bool.false_or, Bool.or_true, Bool.true_or, Bool.false_eq_true, Value.cells, List.size_toArray, List.length_cons, List.length_nil, Option.map_some, Option.map_none, Option.isSome_some, Option.isSome_none, Option.isNone_some, Option.isNone_none, true_and, and_true, ne_eq, reduceCtorEq, not_false_eq_true, Bool.not_true, Bool.not_false, tyAllRW03, then_normal, u8_and15]
  refine bits_OnesCount8 (Nat.mod_lt _ (by omega)) ?_
  rw [cntL_tab]
  simp (maxSteps := 2000000) only [vcCore, yieldT, Int.reduceEq, Int.reduceLT, Int.reduceLE, Int.reduceNe, not_true_eq_false, decide_true, decide_false, add_lit', Nat.zero_add, Nat.mul_one, Int.toNat_natCast, List.getElem?_toArray, List.getElem?_cons_zero, List.getElem?_cons_succ, Option.bind_some, List.map_cons, List.map_nil, List.map_toArray, Array.append_empty, Array.empty_append, List.append_nil, List.nil_append, List.append_toArray, ↓reduceIte, Nat.reduceEqDiff, Nat.reduceAdd, Nat.reduceLeDiff, List.contains_cons, List.contains_nil, Nat.reduceBEq, Bool.or_false, Bool.false_or, Bool.or_true, Bool.true_or, Bool.false_eq_true, Value.cells, List.size_toArray, List.length_cons, List.length_nil, Option.map_some, Option.map_none, Option.isSome_some, Option.isSome_none, Option.isNone_some, Option.isNone_none, true_and, and_true, ne_eq, reduceCtorEq, not_false_eq_true, Bool.not_true, Bool.not_false, tyAllRW03, then_normal]
  exact h
end
end Go.Proofs.Ytdoeioljkbjabaa.R
