/- The store's layer, over the logic of partial memories. No conditions. -/
import Derived.Test.YtapppaccnkojkaaSStorePlaysRT
import Derived.Test.YtapppaccnkojkaaRLib2
set_option linter.unusedVariables false
set_option linter.unusedSimpArgs false
namespace Go.Proofs.Ytapppaccnkojkaa.R
open Go Go.RowKit Go.Proofs.Ytapppaccnkojkaa
set_option maxRecDepth 100000
set_option maxHeartbeats 8000000
theorem tyAllRW13 : type_of% (And.intro (And.intro (And.intro ty_3 ty_4) (And.intro ty_5 (And.intro ty_23 ty_28))) (And.intro (And.intro ty_32 (And.intro ty_148 ty_149)) (And.intro ty_150 (And.intro ty_151 ty_152)))) := (And.intro (And.intro (And.intro ty_3 ty_4) (And.intro ty_5 (And.intro ty_23 ty_28))) (And.intro (And.intro ty_32 (And.intro ty_148 ty_149)) (And.intro ty_150 (And.intro ty_151 ty_152))))
section
variable {W0 : World}
/-- A store's cells: made, 64 words, whether each is good, how old each is. -/
def stoArr (ws : List Int) (gs : List Bool) (ys : List Int) : Array Value := (.bool true :: (u8 ws ++ (bl gs ++ i64 ys))).toArray
structure Sto (W0 : World) (m : Mem) (b : Nat) (ws : List Int) (gs : List Bool) (ys : List Int) : Prop where
  low : W0.heap.size ≤ b
  blk : m b = some (.cells (stoArr ws gs ys) 152)
  wl : ws.length = 64
  gl : gs.length = 64
  al : ys.length = 64
  byte : Byte ws
theorem Sto.ext {m m' : Mem} {b : Nat} {ws : List Int} {gs : List Bool} {ys : List Int} (s : Sto W0 m b ws gs ys) (e : Ext m m') : Sto W0 m' b ws gs ys := ⟨s.low, e _ _ s.blk, s.wl, s.gl, s.al, s.byte⟩
theorem Sto.keep {m m' : Mem} {b : Nat} {ws : List Int} {gs : List Bool} {ys : List Int} (s : Sto W0 m b ws gs ys) {r : Option Nat} (k : Keep m m' r) (h : r ≠ some b) : Sto W0 m' b ws gs ys := ⟨s.low, k _ _ s.blk h, s.wl, s.gl, s.al, s.byte⟩
theorem i64_length (l : List Int) : (i64 l).length = l.length := by simp [i64]
theorem sto_made {m : Mem} {b : Nat} {ws : List Int} {gs : List Bool} {ys : List Int} (s : Sto W0 m b ws gs ys) : cellA W0 m ⟨b, 0, none⟩ = some (.bool true) := by
  rw [cellA_blk s.low s.blk]; rfl
theorem sto_word {m : Mem} {b : Nat} {ws : List Int} {gs : List Bool} {ys : List Int} (s : Sto W0 m b ws gs ys) {i : Nat} (hi : i < 64) : cellA W0 m ⟨b, 1 + i, none⟩ = some (.int .u8 (ws[i]'(by rw [s.wl]; exact hi))) := by
  rw [cellA_blk s.low s.blk, stoArr, List.getElem?_toArray, show 1 + i = i + 1 by omega, List.getElem?_cons_succ, List.getElem?_append_left (by rw [u8_length, s.wl]; exact hi), u8_get, List.getElem?_eq_getElem (by rw [s.wl]; exact hi)]; rfl
theorem sto_good {m : Mem} {b : Nat} {ws : List Int} {gs : List Bool} {ys : List Int} (s : Sto W0 m b ws gs ys) {i : Nat} (hi : i < 64) : cellA W0 m ⟨b, 65 + i, none⟩ = some (.bool (gs[i]'(by rw [s.gl]; exact hi))) := by
  rw [cellA_blk s.low s.blk, stoArr, List.getElem?_toArray, show 65 + i = (64 + i) + 1 by omega, List.getElem?_cons_succ, List.getElem?_append_right (by rw [u8_length, s.wl]; omega), u8_length, s.wl, show 64 + i - 64 = i by omega,
    List.getElem?_append_left (by rw [bl_length, s.gl]; exact hi), bl_get, List.getElem?_eq_getElem (by rw [s.gl]; exact hi)]; rfl
theorem sto_age {m : Mem} {b : Nat} {ws : List Int} {gs : List Bool} {ys : List Int} (s : Sto W0 m b ws gs ys) {i : Nat} (hi : i < 64) : cellA W0 m ⟨b, 129 + i, none⟩ = some (.int .i64 (ys[i]'(by rw [s.al]; exact hi))) := by
  rw [cellA_blk s.low s.blk, stoArr, List.getElem?_toArray, show 129 + i = (128 + i) + 1 by omega, List.getElem?_cons_succ, List.getElem?_append_right (by rw [u8_length, s.wl]; omega), u8_length, s.wl,
    List.getElem?_append_right (by rw [bl_length, s.gl]; omega), bl_length, s.gl, show 128 + i - 64 - 64 = i by omega, i64_get, List.getElem?_eq_getElem (by rw [s.al]; exact hi)]; rfl
theorem stoArr_size {ws : List Int} {gs : List Bool} {ys : List Int} (h1 : ws.length = 64) (h2 : gs.length = 64) (h3 : ys.length = 64) : (stoArr ws gs ys).size = 193 := by
  simp [stoArr, u8_length, bl_length, i64_length, h1, h2, h3]
theorem wr_set {c : List Value} {i : Nat} {v : Value} (hi : i < c.length) : wr c.toArray i [v] = (c.set i v).toArray := by
  unfold wr
  rw [List.set_eq_take_append_cons_drop, if_pos hi]
  simp
theorem sto_set_good {ws : List Int} {gs : List Bool} {ys : List Int} (h1 : ws.length = 64) (h2 : gs.length = 64) (h3 : ys.length = 64) {i : Nat} (hi : i < 64) (x : Bool) : wr (stoArr ws gs ys) (65 + i) [.bool x] = stoArr ws (gs.set i x) ys := by
  unfold stoArr
  rw [wr_set (by simp [u8_length, bl_length, i64_length, h1, h2, h3]; omega), show 65 + i = (64 + i) + 1 by omega, List.set_cons_succ, List.set_append_right _ _ (by rw [u8_length, h1]; omega), u8_length, h1,
    show 64 + i - 64 = i by omega, List.set_append_left _ _ (by rw [bl_length, h2]; exact hi), bl_set]
theorem sto_set_age {ws : List Int} {gs : List Bool} {ys : List Int} (h1 : ws.length = 64) (h2 : gs.length = 64) (h3 : ys.length = 64) {i : Nat} (hi : i < 64) (x : Int) : wr (stoArr ws gs ys) (129 + i) [.int .i64 x] = stoArr ws gs (ys.set i x) := by
  unfold stoArr
  rw [wr_set (by simp [u8_length, bl_length, i64_length, h1, h2, h3]; omega), show 129 + i = (128 + i) + 1 by omega, List.set_cons_succ, List.set_append_right _ _ (by rw [u8_length, h1]; omega), u8_length, h1,
    List.set_append_right _ _ (by rw [bl_length, h2]; omega), bl_length, h2, show 128 + i - 64 - 64 = i by omega]
  congr 3
  simp [i64]
/-- Words that are copied in. -/
def over {α : Type} (l : List α) (o : Nat) (w : List α) : List α := l.take o ++ w ++ l.drop (o + w.length)
theorem over_length {α : Type} {l w : List α} {o : Nat} (h : o + w.length ≤ l.length) : (over l o w).length = l.length := by simp [over]; omega
theorem sto_words {ws : List Int} {gs : List Bool} {ys : List Int} (h1 : ws.length = 64) {o : Nat} {w : List Int} (h : o + w.length ≤ 64) : wr (stoArr ws gs ys) (1 + o) (u8 w) = stoArr (over ws o w) gs ys := by
  unfold stoArr wr
  congr 1
  rw [show 1 + o = o + 1 by omega, List.take_succ_cons, show o + 1 + (u8 w).length = (o + w.length) + 1 by rw [u8_length]; omega, List.drop_succ_cons]
  rw [List.take_append_of_le_length (by rw [u8_length, h1]; omega), List.drop_append_of_le_length (by rw [u8_length, h1]; omega)]
  simp [over, u8]
theorem store_none {m : Mem} {K : Value → Mem → Prop} {b : Nat} {ws : List Int} {gs : List Bool} {ys : List Int} (s : Sto W0 m b ws gs ys) (h : K (.bool false) m) : CallA Try.prog W0 91 #[.pointer (some ⟨b, 0, none⟩)] m K := by
  refine en_91 (l := [.pointer (some ⟨b, 0, none⟩)]) (by simp [Try.ntmps91]) ?_
  simp (maxSteps := 2000000) only [Try.f91, Option.getD_some, vcCore, yieldT, Int.reduceEq, Int.reduceLT, Int.reduceLE, Int.reduceNe, not_true_eq_false, decide_true, decide_false, add_lit', Nat.zero_add, Nat.mul_one, Int.toNat_natCast, List.getElem?_toArray, List.getElem?_cons_zero, List.getElem?_cons_succ, Option.bind_some, List.map_cons, List.map_nil, List.map_toArray, Array.append_empty, Array.empty_append, List.append_nil, List.nil_append, List.append_toArray, ↓reduceIte, Nat.reduceEqDiff, Nat.reduceAdd, Nat.reduceLeDiff, List.contains_cons, List.contains_nil, Nat.reduceBEq, Bool.or_false, Bool.false_or, Bool.or_true, Bool.true_or, Bool.false_eq_true, Value.cells, List.size_toArray, List.length_cons, List.length_nil, Option.map_some, Option.map_none, Option.isSome_some, Option.isSome_none, Option.isNone_some, Option.isNone_none, true_and, and_true, ne_eq, reduceCtorEq, not_false_eq_true, Bool.not_true, Bool.not_false, tyAllRW13, then_normal, sto_made s]
  exact h
def right (at_ many : Int) : Bool := decide (0 ≤ at_) && decide (1 ≤ many) && decide (many ≤ 64) && decide (at_ ≤ 64 - many)
theorem store_check {m : Mem} {K : Value → Mem → Prop} {b : Nat} {ws : List Int} {gs : List Bool} {ys : List Int} (s : Sto W0 m b ws gs ys) {a k : Int} (h : K (.int .i64 (if right a k then 0 else 2)) m) :
    CallA Try.prog W0 90 #[.pointer (some ⟨b, 0, none⟩), .int .i64 a, .int .i64 k] m K := by
  refine en_90 (l := [.pointer (some ⟨b, 0, none⟩), .int .i64 a, .int .i64 k]) (by simp [Try.ntmps90]) ?_
  simp (maxSteps := 2000000) only [Try.f90, Option.getD_some, vcCore, yieldT, Int.reduceEq, Int.reduceLT, Int.reduceLE, Int.reduceNe, not_true_eq_false, decide_true, decide_false, add_lit', Nat.zero_add, Nat.mul_one, Int.toNat_natCast, List.getElem?_toArray, List.getElem?_cons_zero, List.getElem?_cons_succ, Option.bind_some, List.map_cons, List.map_nil, List.map_toArray, Array.append_empty, Array.empty_append, List.append_nil, List.nil_append, List.append_toArray, ↓reduceIte, Nat.reduceEqDiff, Nat.reduceAdd, Nat.reduceLeDiff, List.contains_cons, List.contains_nil, Nat.reduceBEq, Bool.or_false, Bool.false_or, Bool.or_true, Bool.true_or, Bool.false_eq_true, Value.cells, List.size_toArray, List.length_cons, List.length_nil, Option.map_some, Option.map_none, Option.isSome_some, Option.isSome_none, Option.isNone_some, Option.isNone_none, true_and, and_true, ne_eq, reduceCtorEq, not_false_eq_true, Bool.not_true, Bool.not_false, tyAllRW13, then_normal]
  refine store_none s ?_
  have bad : right a k = false → K (.int .i64 2) m := fun e => by rw [e] at h; exact h
  by_cases h1 : a < 0
  · simp (maxSteps := 2000000) only [vcCore, yieldT, Int.reduceEq, Int.reduceLT, Int.reduceLE, Int.reduceNe, not_true_eq_false, decide_true, decide_false, add_lit', Nat.zero_add, Nat.mul_one, Int.toNat_natCast, List.getElem?_toArray, List.getElem?_cons_zero, List.getElem?_cons_succ, Option.bind_some, List.map_cons, List.map_nil, List.map_toArray, Array.append_empty, Array.empty_append, List.append_nil, List.nil_append, List.append_toArray, ↓reduceIte, Nat.reduceEqDiff, Nat.reduceAdd, Nat.reduceLeDiff, List.contains_cons, List.contains_nil, Nat.reduceBEq, Bool.or_false, Bool.false_or, Bool.or_true, Bool.true_or, Bool.false_eq_true, Value.cells, List.size_toArray, List.length_cons, List.length_nil, Option.map_some, Option.map_none, Option.isSome_some, Option.isSome_none, Option.isNone_some, Option.isNone_none, true_and, and_true, ne_eq, reduceCtorEq, not_false_eq_true, Bool.not_true, Bool.not_false, tyAllRW13, then_normal, h1]
    exact bad (by unfold right; rw [decide_eq_false (show ¬ 0 ≤ a by omega)]; rfl)
  · by_cases h2 : k < 1
    · simp (maxSteps := 2000000) only [vcCore, yieldT, Int.reduceEq, Int.reduceLT, Int.reduceLE, Int.reduceNe, not_true_eq_false, decide_true, decide_false, add_lit', Nat.zero_add, Nat.mul_one, Int.toNat_natCast, List.getElem?_toArray, List.getElem?_cons_zero, List.getElem?_cons_succ, Option.bind_some, List.map_cons, List.map_nil, List.map_toArray, Array.append_empty, Array.empty_append, List.append_nil, List.nil_append, List.append_toArray, ↓reduceIte, Nat.reduceEqDiff, Nat.reduceAdd, Nat.reduceLeDiff, List.contains_cons, List.contains_nil, Nat.reduceBEq, Bool.or_false, Bool.false_or, Bool.or_true, Bool.true_or, Bool.false_eq_true, Value.cells, List.size_toArray, List.length_cons, List.length_nil, Option.map_some, Option.map_none, Option.isSome_some, Option.isSome_none, Option.isNone_some, Option.isNone_none, true_and, and_true, ne_eq, reduceCtorEq, not_false_eq_true, Bool.not_true, Bool.not_false, tyAllRW13, then_normal, h1, h2]
      exact bad (by unfold right; rw [decide_eq_false (show ¬ 1 ≤ k by omega)]; simp)
    · by_cases h3 : 64 < k
      · simp (maxSteps := 2000000) only [vcCore, yieldT, Int.reduceEq, Int.reduceLT, Int.reduceLE, Int.reduceNe, not_true_eq_false, decide_true, decide_false, add_lit', Nat.zero_add, Nat.mul_one, Int.toNat_natCast, List.getElem?_toArray, List.getElem?_cons_zero, List.getElem?_cons_succ, Option.bind_some, List.map_cons, List.map_nil, List.map_toArray, Array.append_empty, Array.empty_append, List.append_nil, List.nil_append, List.append_toArray, ↓reduceIte, Nat.reduceEqDiff, Nat.reduceAdd, Nat.reduceLeDiff, List.contains_cons, List.contains_nil, Nat.reduceBEq, Bool.or_false, Bool.false_or, Bool.or_true, Bool.true_or, Bool.false_eq_true, Value.cells, List.size_toArray, List.length_cons, List.length_nil, Option.map_some, Option.map_none, Option.isSome_some, Option.isSome_none, Option.isNone_some, Option.isNone_none, true_and, and_true, ne_eq, reduceCtorEq, not_false_eq_true, Bool.not_true, Bool.not_false, tyAllRW13, then_normal, h1, h2, h3]
        exact bad (by unfold right; rw [decide_eq_false (show ¬ k ≤ 64 by omega)]; simp)
      · have hw : IntKind.i64.wrap (64 - k) = 64 - k := w64 (by omega) (by omega)
        by_cases h4 : 64 - k < a
        · simp (maxSteps := 2000000) only [vcCore, yieldT, Int.reduceEq, Int.reduceLT, Int.reduceLE, Int.reduceNe, not_true_eq_false, decide_true, decide_false, add_lit', Nat.zero_add, Nat.mul_one, Int.toNat_natCast, List.getElem?_toArray, List.getElem?_cons_zero, List.getElem?_cons_succ, Option.bind_some, List.map_cons, List.map_nil, List.map_toArray, Array.append_empty, Array.empty_append, List.append_nil, List.nil_append, List.append_toArray, ↓reduceIte, Nat.reduceEqDiff, Nat.reduceAdd, Nat.reduceLeDiff, List.contains_cons, List.contains_nil, Nat.reduceBEq, Bool.or_false, Bool.false_or, Bool.or_true, Bool.true_or, Bool.false_eq_true, Value.cells, List.size_toArray, List.length_cons, List.length_nil, Option.map_some, Option.map_none, Option.isSome_some, Option.isSome_none, Option.isNone_some, Option.isNone_none, true_and, and_true, ne_eq, reduceCtorEq, not_false_eq_true, Bool.not_true, Bool.not_false, tyAllRW13, then_normal, h1, h2, h3, hw, h4]
          exact bad (by unfold right; rw [decide_eq_false (show ¬ a ≤ 64 - k by omega)]; simp)
        · simp (maxSteps := 2000000) only [vcCore, yieldT, Int.reduceEq, Int.reduceLT, Int.reduceLE, Int.reduceNe, not_true_eq_false, decide_true, decide_false, add_lit', Nat.zero_add, Nat.mul_one, Int.toNat_natCast, List.getElem?_toArray, List.getElem?_cons_zero, List.getElem?_cons_succ, Option.bind_some, List.map_cons, List.map_nil, List.map_toArray, Array.append_empty, Array.empty_append, List.append_nil, List.nil_append, List.append_toArray, ↓reduceIte, Nat.reduceEqDiff, Nat.reduceAdd, Nat.reduceLeDiff, List.contains_cons, List.contains_nil, Nat.reduceBEq, Bool.or_false, Bool.false_or, Bool.or_true, Bool.true_or, Bool.false_eq_true, Value.cells, List.size_toArray, List.length_cons, List.length_nil, Option.map_some, Option.map_none, Option.isSome_some, Option.isSome_none, Option.isNone_some, Option.isNone_none, true_and, and_true, ne_eq, reduceCtorEq, not_false_eq_true, Bool.not_true, Bool.not_false, tyAllRW13, then_normal, h1, h2, h3, hw, h4]
          have : right a k = true := by unfold right; rw [decide_eq_true (show 0 ≤ a by omega), decide_eq_true (show 1 ≤ k by omega), decide_eq_true (show k ≤ 64 by omega), decide_eq_true (show a ≤ 64 - k by omega)]; rfl
          rw [this] at h; exact h
theorem right_at {a : Int} (h : right a 1 = true) : ∃ n : Nat, n < 64 ∧ a = n := by
  unfold right at h
  simp at h
  exact ⟨a.toNat, by omega, by omega⟩
theorem right_two {a k : Int} (h : right a k = true) : ∃ n c : Nat, a = n ∧ k = c ∧ 1 ≤ c ∧ n + c ≤ 64 := by
  unfold right at h
  simp at h
  exact ⟨a.toNat, k.toNat, by omega, by omega, by omega, by omega⟩
theorem right_nat {n c : Nat} (h1 : 1 ≤ c) (h2 : n + c ≤ 64) : right n c = true := by
  unfold right; simp; omega
def goodAt (gs : List Bool) (a : Int) : Bool := right a 1 && gs.getD a.toNat false
theorem store_Good {m : Mem} {K : Value → Mem → Prop} {b : Nat} {ws : List Int} {gs : List Bool} {ys : List Int} (s : Sto W0 m b ws gs ys) {a : Int} (h : K (.bool (goodAt gs a)) m) :
    CallA Try.prog W0 20 #[.pointer (some ⟨b, 0, none⟩), .int .i64 a] m K := by
  refine en_20 (l := [.pointer (some ⟨b, 0, none⟩), .int .i64 a]) (by simp [Try.ntmps20]) ?_
  simp (maxSteps := 2000000) only [Try.f20, Option.getD_some, vcCore, yieldT, Int.reduceEq, Int.reduceLT, Int.reduceLE, Int.reduceNe, not_true_eq_false, decide_true, decide_false, add_lit', Nat.zero_add, Nat.mul_one, Int.toNat_natCast, List.getElem?_toArray, List.getElem?_cons_zero, List.getElem?_cons_succ, Option.bind_some, List.map_cons, List.map_nil, List.map_toArray, Array.append_empty, Array.empty_append, List.append_nil, List.nil_append, List.append_toArray, ↓reduceIte, Nat.reduceEqDiff, Nat.reduceAdd, Nat.reduceLeDiff, List.contains_cons, List.contains_nil, Nat.reduceBEq, Bool.or_false, Bool.false_or, Bool.or_true, Bool.true_or, Bool.false_eq_true, Value.cells, List.size_toArray, List.length_cons, List.length_nil, Option.map_some, Option.map_none, Option.isSome_some, Option.isSome_none, Option.isNone_some, Option.isNone_none, true_and, and_true, ne_eq, reduceCtorEq, not_false_eq_true, Bool.not_true, Bool.not_false, tyAllRW13, then_normal]
  refine store_check s ?_
  unfold goodAt at h
  cases hr : right a 1
  · rw [hr] at h
    simp (maxSteps := 2000000) only [vcCore, yieldT, Int.reduceEq, Int.reduceLT, Int.reduceLE, Int.reduceNe, not_true_eq_false, decide_true, decide_false, add_lit', Nat.zero_add, Nat.mul_one, Int.toNat_natCast, List.getElem?_toArray, List.getElem?_cons_zero, List.getElem?_cons_succ, Option.bind_some, List.map_cons, List.map_nil, List.map_toArray, Array.append_empty, Array.empty_append, List.append_nil, List.nil_append, List.append_toArray, ↓reduceIte, Nat.reduceEqDiff, Nat.reduceAdd, Nat.reduceLeDiff, List.contains_cons, List.contains_nil, Nat.reduceBEq, Bool.or_false, Bool.false_or, Bool.or_true, Bool.true_or, Bool.false_eq_true, Value.cells, List.size_toArray, List.length_cons, List.length_nil, Option.map_some, Option.map_none, Option.isSome_some, Option.isSome_none, Option.isNone_some, Option.isNone_none, true_and, and_true, ne_eq, reduceCtorEq, not_false_eq_true, Bool.not_true, Bool.not_false, tyAllRW13, then_normal, Int.cast_ofNat_Int, BEq.rfl, bne_self_eq_false, beq_self_eq_true, Bool.and_true, Bool.true_and, Bool.and_false, Bool.false_and, Int.reduceBEq, Int.reduceBNe, Nat.reduceMul, Nat.reduceDiv, Int.reduceToNat, Int.reduceNeg, Int.reduceAdd, Int.reduceSub, Int.reduceMul]
    exact h
  · rw [hr] at h
    obtain ⟨n, hn, rfl⟩ := right_at hr
    have c := sto_good s hn
    simp (maxSteps := 2000000) only [vcCore, yieldT, Int.reduceEq, Int.reduceLT, Int.reduceLE, Int.reduceNe, not_true_eq_false, decide_true, decide_false, add_lit', Nat.zero_add, Nat.mul_one, Int.toNat_natCast, List.getElem?_toArray, List.getElem?_cons_zero, List.getElem?_cons_succ, Option.bind_some, List.map_cons, List.map_nil, List.map_toArray, Array.append_empty, Array.empty_append, List.append_nil, List.nil_append, List.append_toArray, ↓reduceIte, Nat.reduceEqDiff, Nat.reduceAdd, Nat.reduceLeDiff, List.contains_cons, List.contains_nil, Nat.reduceBEq, Bool.or_false, Bool.false_or, Bool.or_true, Bool.true_or, Bool.false_eq_true, Value.cells, List.size_toArray, List.length_cons, List.length_nil, Option.map_some, Option.map_none, Option.isSome_some, Option.isSome_none, Option.isNone_some, Option.isNone_none, true_and, and_true, ne_eq, reduceCtorEq, not_false_eq_true, Bool.not_true, Bool.not_false, tyAllRW13, then_normal, Int.cast_ofNat_Int, BEq.rfl, bne_self_eq_false, beq_self_eq_true, Bool.and_true, Bool.true_and, Bool.and_false, Bool.false_and, Int.reduceBEq, Int.reduceBNe, Nat.reduceMul, Nat.reduceDiv, Int.reduceToNat, Int.reduceNeg, Int.reduceAdd, Int.reduceSub, Int.reduceMul, c]
    rw [Int.toNat_natCast, List.getD_eq_getElem?_getD, List.getElem?_eq_getElem (by rw [s.gl]; exact hn)] at h
    exact ⟨by omega, h⟩
theorem store_Age {m : Mem} {K : Value → Mem → Prop} {b : Nat} {ws : List Int} {gs : List Bool} {ys : List Int} (s : Sto W0 m b ws gs ys) {a : Int} (h : K (.int .i64 (if goodAt gs a then ys.getD a.toNat 0 else -1)) m) :
    CallA Try.prog W0 21 #[.pointer (some ⟨b, 0, none⟩), .int .i64 a] m K := by
  refine en_21 (l := [.pointer (some ⟨b, 0, none⟩), .int .i64 a]) (by simp [Try.ntmps21]) ?_
  simp (maxSteps := 2000000) only [Try.f21, Option.getD_some, vcCore, yieldT, Int.reduceEq, Int.reduceLT, Int.reduceLE, Int.reduceNe, not_true_eq_false, decide_true, decide_false, add_lit', Nat.zero_add, Nat.mul_one, Int.toNat_natCast, List.getElem?_toArray, List.getElem?_cons_zero, List.getElem?_cons_succ, Option.bind_some, List.map_cons, List.map_nil, List.map_toArray, Array.append_empty, Array.empty_append, List.append_nil, List.nil_append, List.append_toArray, ↓reduceIte, Nat.reduceEqDiff, Nat.reduceAdd, Nat.reduceLeDiff, List.contains_cons, List.contains_nil, Nat.reduceBEq, Bool.or_false, Bool.false_or, Bool.or_true, Bool.true_or, Bool.false_eq_true, Value.cells, List.size_toArray, List.length_cons, List.length_nil, Option.map_some, Option.map_none, Option.isSome_some, Option.isSome_none, Option.isNone_some, Option.isNone_none, true_and, and_true, ne_eq, reduceCtorEq, not_false_eq_true, Bool.not_true, Bool.not_false, tyAllRW13, then_normal]
  refine store_Good s ?_
  cases hg : goodAt gs a
  · rw [hg] at h
    simp (maxSteps := 2000000) only [vcCore, yieldT, Int.reduceEq, Int.reduceLT, Int.reduceLE, Int.reduceNe, not_true_eq_false, decide_true, decide_false, add_lit', Nat.zero_add, Nat.mul_one, Int.toNat_natCast, List.getElem?_toArray, List.getElem?_cons_zero, List.getElem?_cons_succ, Option.bind_some, List.map_cons, List.map_nil, List.map_toArray, Array.append_empty, Array.empty_append, List.append_nil, List.nil_append, List.append_toArray, ↓reduceIte, Nat.reduceEqDiff, Nat.reduceAdd, Nat.reduceLeDiff, List.contains_cons, List.contains_nil, Nat.reduceBEq, Bool.or_false, Bool.false_or, Bool.or_true, Bool.true_or, Bool.false_eq_true, Value.cells, List.size_toArray, List.length_cons, List.length_nil, Option.map_some, Option.map_none, Option.isSome_some, Option.isSome_none, Option.isNone_some, Option.isNone_none, true_and, and_true, ne_eq, reduceCtorEq, not_false_eq_true, Bool.not_true, Bool.not_false, tyAllRW13, then_normal, Int.cast_ofNat_Int, BEq.rfl, bne_self_eq_false, beq_self_eq_true, Bool.and_true, Bool.true_and, Bool.and_false, Bool.false_and, Int.reduceBEq, Int.reduceBNe, Nat.reduceMul, Nat.reduceDiv, Int.reduceToNat, Int.reduceNeg, Int.reduceAdd, Int.reduceSub, Int.reduceMul]
    exact h
  · rw [hg] at h
    have hr : right a 1 = true := by unfold goodAt at hg; simp at hg; exact hg.1
    obtain ⟨n, hn, rfl⟩ := right_at hr
    have c := sto_age s hn
    simp (maxSteps := 2000000) only [vcCore, yieldT, Int.reduceEq, Int.reduceLT, Int.reduceLE, Int.reduceNe, not_true_eq_false, decide_true, decide_false, add_lit', Nat.zero_add, Nat.mul_one, Int.toNat_natCast, List.getElem?_toArray, List.getElem?_cons_zero, List.getElem?_cons_succ, Option.bind_some, List.map_cons, List.map_nil, List.map_toArray, Array.append_empty, Array.empty_append, List.append_nil, List.nil_append, List.append_toArray, ↓reduceIte, Nat.reduceEqDiff, Nat.reduceAdd, Nat.reduceLeDiff, List.contains_cons, List.contains_nil, Nat.reduceBEq, Bool.or_false, Bool.false_or, Bool.or_true, Bool.true_or, Bool.false_eq_true, Value.cells, List.size_toArray, List.length_cons, List.length_nil, Option.map_some, Option.map_none, Option.isSome_some, Option.isSome_none, Option.isNone_some, Option.isNone_none, true_and, and_true, ne_eq, reduceCtorEq, not_false_eq_true, Bool.not_true, Bool.not_false, tyAllRW13, then_normal, Int.cast_ofNat_Int, BEq.rfl, bne_self_eq_false, beq_self_eq_true, Bool.and_true, Bool.true_and, Bool.and_false, Bool.false_and, Int.reduceBEq, Int.reduceBNe, Nat.reduceMul, Nat.reduceDiv, Int.reduceToNat, Int.reduceNeg, Int.reduceAdd, Int.reduceSub, Int.reduceMul, c]
    rw [Int.toNat_natCast, List.getD_eq_getElem?_getD, List.getElem?_eq_getElem (by rw [s.al]; exact hn)] at h
    exact ⟨by omega, h⟩
theorem built_Sto : Try.prog.built 152 [(0, .bool true)] = some (stoArr (List.replicate 64 0) (List.replicate 64 false) (List.replicate 64 0)) := by kernel_rfl
theorem store_New {m : Mem} {K : Value → Mem → Prop} (h : ∀ m' b, Ext m m' → m b = none → Sto W0 m' b (List.replicate 64 0) (List.replicate 64 false) (List.replicate 64 0) → K (.pointer (some ⟨b, 0, none⟩)) m') : CallA Try.prog W0 15 #[] m K := by
  refine en_15 (l := []) (by simp [Try.ntmps15]) ?_
  simp (maxSteps := 2000000) only [Try.f15, Option.getD_some, vcCore, yieldT, Int.reduceEq, Int.reduceLT, Int.reduceLE, Int.reduceNe, not_true_eq_false, decide_true, decide_false, add_lit', Nat.zero_add, Nat.mul_one, Int.toNat_natCast, List.getElem?_toArray, List.getElem?_cons_zero, List.getElem?_cons_succ, Option.bind_some, List.map_cons, List.map_nil, List.map_toArray, Array.append_empty, Array.empty_append, List.append_nil, List.nil_append, List.append_toArray, ↓reduceIte, Nat.reduceEqDiff, Nat.reduceAdd, Nat.reduceLeDiff, List.contains_cons, List.contains_nil, Nat.reduceBEq, Bool.or_false, Bool.false_or, Bool.or_true, Bool.true_or, Bool.false_eq_true, Value.cells, List.size_toArray, List.length_cons, List.length_nil, Option.map_some, Option.map_none, Option.isSome_some, Option.isSome_none, Option.isNone_some, Option.isNone_none, true_and, and_true, ne_eq, reduceCtorEq, not_false_eq_true, Bool.not_true, Bool.not_false, tyAllRW13, then_normal, built_Sto]
  intro b hb
  simp (maxSteps := 2000000) only [vcCore, yieldT, Int.reduceEq, Int.reduceLT, Int.reduceLE, Int.reduceNe, not_true_eq_false, decide_true, decide_false, add_lit', Nat.zero_add, Nat.mul_one, Int.toNat_natCast, List.getElem?_toArray, List.getElem?_cons_zero, List.getElem?_cons_succ, Option.bind_some, List.map_cons, List.map_nil, List.map_toArray, Array.append_empty, Array.empty_append, List.append_nil, List.nil_append, List.append_toArray, ↓reduceIte, Nat.reduceEqDiff, Nat.reduceAdd, Nat.reduceLeDiff, List.contains_cons, List.contains_nil, Nat.reduceBEq, Bool.or_false, Bool.false_or, Bool.or_true, Bool.true_or, Bool.false_eq_true, Value.cells, List.size_toArray, List.length_cons, List.length_nil, Option.map_some, Option.map_none, Option.isSome_some, Option.isSome_none, Option.isNone_some, Option.isNone_none, true_and, and_true, ne_eq, reduceCtorEq, not_false_eq_true, Bool.not_true, Bool.not_false, tyAllRW13, then_normal]
  exact h _ b (Ext.fresh hb _) hb.no ⟨hb.le, Mem.set_same _ _ _, by simp, by simp, by simp, by intro x hx; simp at hx; omega⟩
theorem un_arr8 : Try.prog.underlying 148 = some (.array 64 5) := by kernel_rfl
/-- A slice of an array of the call's own, from a place on. -/
theorem rarr_l {P : Program} {t e : TypeId} {n : Nat} {m : Mem} {a : Addr} {kl : IntKind} {l : Nat} {K : Value → Mem → Prop} (hu : P.underlying t = some (.array n e)) (hs : szOf P e = some 1) (hl : l ≤ n)
    (hk : K (.slice (some (if n = l then a else a.add l)) (n - l) (n - l)) m) : PureA P W0 (Instr.sliceAt t (.pointer (some a)) (some (.int kl (l : Int))) none none) m K := by
  have he : P.elem t = e := by simp [Program.elem, hu]
  have hn : P.arrayLen t = n := by simp [Program.arrayLen, hu]
  refine .same (fun w _ => ?_) hk
  rw [run_sliceAt_array_l w t a (by rw [hn, he]; exact hu) kl l (by omega) (by rw [hn]; omega), he, szOf_run hs]
  simp [slicedAt, hn]
theorem over_snoc {α : Type} {l : List α} {n i : Nat} {x : α} (h : n + i < l.length) : (over l n (List.replicate i x)).set (n + i) x = over l n (List.replicate (i + 1) x) := by
  unfold over
  rw [List.set_append_right _ _ (by simp; omega)]
  simp only [List.length_append, List.length_take, List.length_replicate]
  rw [show n + i - (min n l.length + i) = 0 by omega, List.replicate_succ', ← List.append_assoc, List.append_assoc]
  rw [List.drop_eq_getElem_cons (by omega)]
  simp [List.drop_drop, Nat.add_assoc]
theorem store_Spoil {m : Mem} {K : Value → Mem → Prop} {b : Nat} {ws : List Int} {gs : List Bool} {ys : List Int} (s : Sto W0 m b ws gs ys) {a k : Int}
    (h0 : right a k = false → K (.int .i64 2) m)
    (h : ∀ n c : Nat, a = n → k = c → right a k = true → ∀ m', Sto W0 m' b ws (over gs n (List.replicate c false)) (over ys n (List.replicate c 0)) → Keep m m' (some b) → K (.int .i64 0) m') :
    CallA Try.prog W0 18 #[.pointer (some ⟨b, 0, none⟩), .int .i64 a, .int .i64 k] m K := by
  refine en_18 (l := [.pointer (some ⟨b, 0, none⟩), .int .i64 a, .int .i64 k]) (by simp [Try.ntmps18]) ?_
  simp (maxSteps := 2000000) only [Try.f18, Option.getD_some, vcCore, yieldT, Int.reduceEq, Int.reduceLT, Int.reduceLE, Int.reduceNe, not_true_eq_false, decide_true, decide_false, add_lit', Nat.zero_add, Nat.mul_one, Int.toNat_natCast, List.getElem?_toArray, List.getElem?_cons_zero, List.getElem?_cons_succ, Option.bind_some, List.map_cons, List.map_nil, List.map_toArray, Array.append_empty, Array.empty_append, List.append_nil, List.nil_append, List.append_toArray, ↓reduceIte, Nat.reduceEqDiff, Nat.reduceAdd, Nat.reduceLeDiff, List.contains_cons, List.contains_nil, Nat.reduceBEq, Bool.or_false, Bool.false_or, Bool.or_true, Bool.true_or, Bool.false_eq_true, Value.cells, List.size_toArray, List.length_cons, List.length_nil, Option.map_some, Option.map_none, Option.isSome_some, Option.isSome_none, Option.isNone_some, Option.isNone_none, true_and, and_true, ne_eq, reduceCtorEq, not_false_eq_true, Bool.not_true, Bool.not_false, tyAllRW13, then_normal]
  refine store_check s ?_
  cases hr : right a k
  · simp (maxSteps := 2000000) only [vcCore, yieldT, Int.reduceEq, Int.reduceLT, Int.reduceLE, Int.reduceNe, not_true_eq_false, decide_true, decide_false, add_lit', Nat.zero_add, Nat.mul_one, Int.toNat_natCast, List.getElem?_toArray, List.getElem?_cons_zero, List.getElem?_cons_succ, Option.bind_some, List.map_cons, List.map_nil, List.map_toArray, Array.append_empty, Array.empty_append, List.append_nil, List.nil_append, List.append_toArray, ↓reduceIte, Nat.reduceEqDiff, Nat.reduceAdd, Nat.reduceLeDiff, List.contains_cons, List.contains_nil, Nat.reduceBEq, Bool.or_false, Bool.false_or, Bool.or_true, Bool.true_or, Bool.false_eq_true, Value.cells, List.size_toArray, List.length_cons, List.length_nil, Option.map_some, Option.map_none, Option.isSome_some, Option.isSome_none, Option.isNone_some, Option.isNone_none, true_and, and_true, ne_eq, reduceCtorEq, not_false_eq_true, Bool.not_true, Bool.not_false, tyAllRW13, then_normal, Int.cast_ofNat_Int, BEq.rfl, bne_self_eq_false, beq_self_eq_true, Bool.and_true, Bool.true_and, Bool.and_false, Bool.false_and, Int.reduceBEq, Int.reduceBNe, Nat.reduceMul, Nat.reduceDiv, Int.reduceToNat, Int.reduceNeg, Int.reduceAdd, Int.reduceSub, Int.reduceMul]
    exact h0 hr
  · obtain ⟨n, c, rfl, rfl, h1, h64⟩ := right_two hr
    have hsum : IntKind.i64.wrap ((n : Int) + (c : Int)) = ((n + c : Nat) : Int) := by rw [w64 (by omega) (by omega)]; omega
    simp (maxSteps := 2000000) only [vcCore, yieldT, Int.reduceEq, Int.reduceLT, Int.reduceLE, Int.reduceNe, not_true_eq_false, decide_true, decide_false, add_lit', Nat.zero_add, Nat.mul_one, Int.toNat_natCast, List.getElem?_toArray, List.getElem?_cons_zero, List.getElem?_cons_succ, Option.bind_some, List.map_cons, List.map_nil, List.map_toArray, Array.append_empty, Array.empty_append, List.append_nil, List.nil_append, List.append_toArray, ↓reduceIte, Nat.reduceEqDiff, Nat.reduceAdd, Nat.reduceLeDiff, List.contains_cons, List.contains_nil, Nat.reduceBEq, Bool.or_false, Bool.false_or, Bool.or_true, Bool.true_or, Bool.false_eq_true, Value.cells, List.size_toArray, List.length_cons, List.length_nil, Option.map_some, Option.map_none, Option.isSome_some, Option.isSome_none, Option.isNone_some, Option.isNone_none, true_and, and_true, ne_eq, reduceCtorEq, not_false_eq_true, Bool.not_true, Bool.not_false, tyAllRW13, then_normal, Int.cast_ofNat_Int, BEq.rfl, bne_self_eq_false, beq_self_eq_true, Bool.and_true, Bool.true_and, Bool.and_false, Bool.false_and, Int.reduceBEq, Int.reduceBNe, Nat.reduceMul, Nat.reduceDiv, Int.reduceToNat, Int.reduceNeg, Int.reduceAdd, Int.reduceSub, Int.reduceMul]
    refine loop_rule (fun d t m' => ∃ i : Nat, i ≤ c ∧ d = c - i ∧ t 0 = .pointer (some ⟨b, 0, none⟩) ∧ t 1 = .int .i64 (n : Int) ∧ t 2 = .int .i64 (c : Int) ∧ t 7 = .int .i64 0 ∧ t 8 = .int .i64 ((n + i : Nat) : Int) ∧
        Sto W0 m' b ws (over gs n (List.replicate i false)) (over ys n (List.replicate i 0)) ∧ Keep m m' (some b)) c (by kernel_rfl) ⟨0, by omega, by omega, rfl, rfl, rfl, rfl, rfl, by simpa [over] using s, Keep.refl _ _⟩ ?_
    rintro d t m' ⟨i, hi, rfl, t0, t1, t2, t7, t8, S, kp⟩
    by_cases hlt : i < c
    · have hlt' : ((n + i : Nat) : Int) < ((n + c : Nat) : Int) := by omega
      have e9 : IntKind.i64.wrap (((n + i : Nat) : Int) + 1) = ((n + (i + 1) : Nat) : Int) := by rw [w64 (by omega) (by omega)]; omega
      simp (maxSteps := 2000000) only [vcCore, yieldT, Int.reduceEq, Int.reduceLT, Int.reduceLE, Int.reduceNe, not_true_eq_false, decide_true, decide_false, add_lit', Nat.zero_add, Nat.mul_one, Int.toNat_natCast, List.getElem?_toArray, List.getElem?_cons_zero, List.getElem?_cons_succ, Option.bind_some, List.map_cons, List.map_nil, List.map_toArray, Array.append_empty, Array.empty_append, List.append_nil, List.nil_append, List.append_toArray, ↓reduceIte, Nat.reduceEqDiff, Nat.reduceAdd, Nat.reduceLeDiff, List.contains_cons, List.contains_nil, Nat.reduceBEq, Bool.or_false, Bool.false_or, Bool.or_true, Bool.true_or, Bool.false_eq_true, Value.cells, List.size_toArray, List.length_cons, List.length_nil, Option.map_some, Option.map_none, Option.isSome_some, Option.isSome_none, Option.isNone_some, Option.isNone_none, true_and, and_true, ne_eq, reduceCtorEq, not_false_eq_true, Bool.not_true, Bool.not_false, tyAllRW13, then_normal, t0, t1, t2, t7, t8, hsum, hlt']
      refine draw_any (List.range 12) 100 [2007, 2011] mixed (by kernel_rfl) (by kernel_rfl) ?_
      have gl : (over gs n (List.replicate i false)).length = 64 := S.gl
      have yl : (over ys n (List.replicate i 0)).length = 64 := S.al
      have w1 := sto_set_good S.wl S.gl S.al (i := n + i) (by omega) false
      have w2 := sto_set_age (ws := ws) (gs := (over gs n (List.replicate i false)).set (n + i) false) S.wl (by simpa using gl) S.al (i := n + i) (by omega) 0
      rw [over_snoc (by rw [s.gl]; omega)] at w1 w2
      rw [over_snoc (by rw [s.al]; omega)] at w2
      simp (maxSteps := 2000000) only [show List.range 12 = [0, 1, 2, 3, 4, 5, 6, 7, 8, 9, 10, 11] from rfl, vcCore, yieldT, Int.reduceEq, Int.reduceLT, Int.reduceLE, Int.reduceNe, not_true_eq_false, decide_true, decide_false, add_lit', Nat.zero_add, Nat.mul_one, Int.toNat_natCast, List.getElem?_toArray, List.getElem?_cons_zero, List.getElem?_cons_succ, Option.bind_some, List.map_cons, List.map_nil, List.map_toArray, Array.append_empty, Array.empty_append, List.append_nil, List.nil_append, List.append_toArray, ↓reduceIte, Nat.reduceEqDiff, Nat.reduceAdd, Nat.reduceLeDiff, List.contains_cons, List.contains_nil, Nat.reduceBEq, Bool.or_false, Bool.false_or, Bool.or_true, Bool.true_or, Bool.false_eq_true, Value.cells, List.size_toArray, List.length_cons, List.length_nil, Option.map_some, Option.map_none, Option.isSome_some, Option.isSome_none, Option.isNone_some, Option.isNone_none, true_and, and_true, ne_eq, reduceCtorEq, not_false_eq_true, Bool.not_true, Bool.not_false, tyAllRW13, then_normal, t0, t1, t2, t7, t8, hsum, hlt', S.blk, Mem.set_same, Mem.set_set, w1, w2, e9]
      have s1 := stoArr_size (ws := ws) S.wl S.gl S.al
      have gl2 : (over gs n (List.replicate (i + 1) false)).length = 64 := by rw [over_length (by simp [s.gl]; omega)]; exact s.gl
      have yl2 : (over ys n (List.replicate (i + 1) 0)).length = 64 := by rw [over_length (by simp [s.al]; omega)]; exact s.al
      have s2 := stoArr_size (ws := ws) S.wl gl2 S.al
      refine ⟨by omega, by omega, by omega, by omega, ?_⟩
      exact ⟨c - (i + 1), by omega, i + 1, by omega, rfl, t0, t1, t2, t7, rfl, ⟨s.low, Mem.set_same _ _ _, s.wl, gl2, yl2, s.byte⟩, kp.trans (Keep.set m' b _)⟩
    · have hie : i = c := by omega
      subst hie
      have hlt' : ¬ ((n + i : Nat) : Int) < ((n + i : Nat) : Int) := by omega
      simp (maxSteps := 2000000) only [vcCore, yieldT, Int.reduceEq, Int.reduceLT, Int.reduceLE, Int.reduceNe, not_true_eq_false, decide_true, decide_false, add_lit', Nat.zero_add, Nat.mul_one, Int.toNat_natCast, List.getElem?_toArray, List.getElem?_cons_zero, List.getElem?_cons_succ, Option.bind_some, List.map_cons, List.map_nil, List.map_toArray, Array.append_empty, Array.empty_append, List.append_nil, List.nil_append, List.append_toArray, ↓reduceIte, Nat.reduceEqDiff, Nat.reduceAdd, Nat.reduceLeDiff, List.contains_cons, List.contains_nil, Nat.reduceBEq, Bool.or_false, Bool.false_or, Bool.or_true, Bool.true_or, Bool.false_eq_true, Value.cells, List.size_toArray, List.length_cons, List.length_nil, Option.map_some, Option.map_none, Option.isSome_some, Option.isSome_none, Option.isNone_some, Option.isNone_none, true_and, and_true, ne_eq, reduceCtorEq, not_false_eq_true, Bool.not_true, Bool.not_false, tyAllRW13, then_normal, t0, t1, t2, t7, t8, hsum, hlt']
      exact h n i rfl rfl hr m' S kp
theorem store_Write {m : Mem} {K : Value → Mem → Prop} {b : Nat} {ws : List Int} {gs : List Bool} {ys : List Int} (s : Sto W0 m b ws gs ys) {a : Int} {v : Value} {w : List Int} (hw : RS W0 m v 1 w.length (u8 w)) (hby : Byte w)
    (h0 : right a w.length = false → K (.int .i64 2) m)
    (h : ∀ n : Nat, a = n → n + w.length ≤ 64 → 1 ≤ w.length → right a w.length = true → ∀ m', Sto W0 m' b (over ws n w) (over gs n (List.replicate w.length true)) (over ys n (List.replicate w.length 0)) → Keep m m' (some b) → K (.int .i64 0) m') :
    CallA Try.prog W0 17 #[.pointer (some ⟨b, 0, none⟩), .int .i64 a, v] m K := by
  have hwc := hw
  obtain ⟨_, A, c, rfl, hsrc⟩ := hwc
  refine en_17 (l := [.pointer (some ⟨b, 0, none⟩), .int .i64 a, .slice A w.length c]) (by simp [Try.ntmps17]) ?_
  simp (maxSteps := 2000000) only [Try.f17, Option.getD_some, vcCore, yieldT, Int.reduceEq, Int.reduceLT, Int.reduceLE, Int.reduceNe, not_true_eq_false, decide_true, decide_false, add_lit', Nat.zero_add, Nat.mul_one, Int.toNat_natCast, List.getElem?_toArray, List.getElem?_cons_zero, List.getElem?_cons_succ, Option.bind_some, List.map_cons, List.map_nil, List.map_toArray, Array.append_empty, Array.empty_append, List.append_nil, List.nil_append, List.append_toArray, ↓reduceIte, Nat.reduceEqDiff, Nat.reduceAdd, Nat.reduceLeDiff, List.contains_cons, List.contains_nil, Nat.reduceBEq, Bool.or_false, Bool.false_or, Bool.or_true, Bool.true_or, Bool.false_eq_true, Value.cells, List.size_toArray, List.length_cons, List.length_nil, Option.map_some, Option.map_none, Option.isSome_some, Option.isSome_none, Option.isNone_some, Option.isNone_none, true_and, and_true, ne_eq, reduceCtorEq, not_false_eq_true, Bool.not_true, Bool.not_false, tyAllRW13, then_normal]
  refine store_check s ?_
  cases hr : right a w.length
  · simp (maxSteps := 2000000) only [vcCore, yieldT, Int.reduceEq, Int.reduceLT, Int.reduceLE, Int.reduceNe, not_true_eq_false, decide_true, decide_false, add_lit', Nat.zero_add, Nat.mul_one, Int.toNat_natCast, List.getElem?_toArray, List.getElem?_cons_zero, List.getElem?_cons_succ, Option.bind_some, List.map_cons, List.map_nil, List.map_toArray, Array.append_empty, Array.empty_append, List.append_nil, List.nil_append, List.append_toArray, ↓reduceIte, Nat.reduceEqDiff, Nat.reduceAdd, Nat.reduceLeDiff, List.contains_cons, List.contains_nil, Nat.reduceBEq, Bool.or_false, Bool.false_or, Bool.or_true, Bool.true_or, Bool.false_eq_true, Value.cells, List.size_toArray, List.length_cons, List.length_nil, Option.map_some, Option.map_none, Option.isSome_some, Option.isSome_none, Option.isNone_some, Option.isNone_none, true_and, and_true, ne_eq, reduceCtorEq, not_false_eq_true, Bool.not_true, Bool.not_false, tyAllRW13, then_normal, Int.cast_ofNat_Int, BEq.rfl, bne_self_eq_false, beq_self_eq_true, Bool.and_true, Bool.true_and, Bool.and_false, Bool.false_and, Int.reduceBEq, Int.reduceBNe, Nat.reduceMul, Nat.reduceDiv, Int.reduceToNat, Int.reduceNeg, Int.reduceAdd, Int.reduceSub, Int.reduceMul]
    exact h0 hr
  · obtain ⟨n, k, rfl, hk, h1, h64⟩ := right_two hr
    have hk' : w.length = k := by omega
    simp (maxSteps := 2000000) only [vcCore, yieldT, Int.reduceEq, Int.reduceLT, Int.reduceLE, Int.reduceNe, not_true_eq_false, decide_true, decide_false, add_lit', Nat.zero_add, Nat.mul_one, Int.toNat_natCast, List.getElem?_toArray, List.getElem?_cons_zero, List.getElem?_cons_succ, Option.bind_some, List.map_cons, List.map_nil, List.map_toArray, Array.append_empty, Array.empty_append, List.append_nil, List.nil_append, List.append_toArray, ↓reduceIte, Nat.reduceEqDiff, Nat.reduceAdd, Nat.reduceLeDiff, List.contains_cons, List.contains_nil, Nat.reduceBEq, Bool.or_false, Bool.false_or, Bool.or_true, Bool.true_or, Bool.false_eq_true, Value.cells, List.size_toArray, List.length_cons, List.length_nil, Option.map_some, Option.map_none, Option.isSome_some, Option.isSome_none, Option.isNone_some, Option.isNone_none, true_and, and_true, ne_eq, reduceCtorEq, not_false_eq_true, Bool.not_true, Bool.not_false, tyAllRW13, then_normal, Int.cast_ofNat_Int, BEq.rfl, bne_self_eq_false, beq_self_eq_true, Bool.and_true, Bool.true_and, Bool.and_false, Bool.false_and, Int.reduceBEq, Int.reduceBNe, Nat.reduceMul, Nat.reduceDiv, Int.reduceToNat, Int.reduceNeg, Int.reduceAdd, Int.reduceSub, Int.reduceMul]
    refine rarr_l (n := 64) (l := n) (e := 5) un_arr8 sz_5 (by omega) ?_
    rw [if_neg (show ¬ 64 = n by omega), add_lit']
    simp (maxSteps := 2000000) only [vcCore, yieldT, Int.reduceEq, Int.reduceLT, Int.reduceLE, Int.reduceNe, not_true_eq_false, decide_true, decide_false, add_lit', Nat.zero_add, Nat.mul_one, Int.toNat_natCast, List.getElem?_toArray, List.getElem?_cons_zero, List.getElem?_cons_succ, Option.bind_some, List.map_cons, List.map_nil, List.map_toArray, Array.append_empty, Array.empty_append, List.append_nil, List.nil_append, List.append_toArray, ↓reduceIte, Nat.reduceEqDiff, Nat.reduceAdd, Nat.reduceLeDiff, List.contains_cons, List.contains_nil, Nat.reduceBEq, Bool.or_false, Bool.false_or, Bool.or_true, Bool.true_or, Bool.false_eq_true, Value.cells, List.size_toArray, List.length_cons, List.length_nil, Option.map_some, Option.map_none, Option.isSome_some, Option.isSome_none, Option.isNone_some, Option.isNone_none, true_and, and_true, ne_eq, reduceCtorEq, not_false_eq_true, Bool.not_true, Bool.not_false, tyAllRW13, then_normal, Int.cast_ofNat_Int, BEq.rfl, bne_self_eq_false, beq_self_eq_true, Bool.and_true, Bool.true_and, Bool.and_false, Bool.false_and, Int.reduceBEq, Int.reduceBNe, Nat.reduceMul, Nat.reduceDiv, Int.reduceToNat, Int.reduceNeg, Int.reduceAdd, Int.reduceSub, Int.reduceMul]
    have hsz := stoArr_size (ws := ws) s.wl s.gl s.al
    refine rcopy (cs := u8 w) sl_28 s.blk (by rw [u8_length]; show _ = min w.length (64 - n); omega) hsrc (by rw [hsz, u8_length]; omega) (by intro u hu; simp [u8] at hu; obtain ⟨x, _, rfl⟩ := hu; rfl) ?_
    rw [sto_words s.wl (by omega)]
    have ol : (over ws n w).length = 64 := by rw [over_length (by rw [s.wl]; omega)]; exact s.wl
    have ob : Byte (over ws n w) := fun x hx => by
      unfold over at hx
      rcases List.mem_append.1 hx with hx | hx
      · rcases List.mem_append.1 hx with hx | hx
        · exact s.byte x (List.mem_of_mem_take hx)
        · exact hby x hx
      · exact s.byte x (List.mem_of_mem_drop hx)
    simp (maxSteps := 2000000) only [vcCore, yieldT, Int.reduceEq, Int.reduceLT, Int.reduceLE, Int.reduceNe, not_true_eq_false, decide_true, decide_false, add_lit', Nat.zero_add, Nat.mul_one, Int.toNat_natCast, List.getElem?_toArray, List.getElem?_cons_zero, List.getElem?_cons_succ, Option.bind_some, List.map_cons, List.map_nil, List.map_toArray, Array.append_empty, Array.empty_append, List.append_nil, List.nil_append, List.append_toArray, ↓reduceIte, Nat.reduceEqDiff, Nat.reduceAdd, Nat.reduceLeDiff, List.contains_cons, List.contains_nil, Nat.reduceBEq, Bool.or_false, Bool.false_or, Bool.or_true, Bool.true_or, Bool.false_eq_true, Value.cells, List.size_toArray, List.length_cons, List.length_nil, Option.map_some, Option.map_none, Option.isSome_some, Option.isSome_none, Option.isNone_some, Option.isNone_none, true_and, and_true, ne_eq, reduceCtorEq, not_false_eq_true, Bool.not_true, Bool.not_false, tyAllRW13, then_normal, Int.cast_ofNat_Int, BEq.rfl, bne_self_eq_false, beq_self_eq_true, Bool.and_true, Bool.true_and, Bool.and_false, Bool.false_and, Int.reduceBEq, Int.reduceBNe, Nat.reduceMul, Nat.reduceDiv, Int.reduceToNat, Int.reduceNeg, Int.reduceAdd, Int.reduceSub, Int.reduceMul]
    refine loop_rule (fun d t m' => ∃ i : Nat, i ≤ w.length ∧ d = w.length - i ∧ t 0 = .pointer (some ⟨b, 0, none⟩) ∧ t 1 = .int .i64 (n : Int) ∧ t 25 = .int .i64 (w.length : Int) ∧ t 26 = .int .i64 (i : Int) ∧
        Sto W0 m' b (over ws n w) (over gs n (List.replicate i true)) (over ys n (List.replicate i 0)) ∧ Keep m m' (some b)) w.length (by kernel_rfl)
        ⟨0, by omega, by omega, rfl, rfl, rfl, rfl, ⟨s.low, by rw [Mem.set_same]; simp [over], ol, by simpa [over] using s.gl, by simpa [over] using s.al, ob⟩, Keep.set m b _⟩ ?_
    rintro d t m' ⟨i, hi, rfl, t0, t1, t25, t26, S, kp⟩
    by_cases hlt : i < w.length
    · have hlt' : (i : Int) < (w.length : Int) := by omega
      have hsum : IntKind.i64.wrap ((n : Int) + (i : Int)) = ((n + i : Nat) : Int) := by rw [w64 (by omega) (by omega)]; omega
      have e9 : IntKind.i64.wrap ((i : Int) + 1) = ((i + 1 : Nat) : Int) := by rw [w64 (by omega) (by omega)]; omega
      simp (maxSteps := 2000000) only [vcCore, yieldT, Int.reduceEq, Int.reduceLT, Int.reduceLE, Int.reduceNe, not_true_eq_false, decide_true, decide_false, add_lit', Nat.zero_add, Nat.mul_one, Int.toNat_natCast, List.getElem?_toArray, List.getElem?_cons_zero, List.getElem?_cons_succ, Option.bind_some, List.map_cons, List.map_nil, List.map_toArray, Array.append_empty, Array.empty_append, List.append_nil, List.nil_append, List.append_toArray, ↓reduceIte, Nat.reduceEqDiff, Nat.reduceAdd, Nat.reduceLeDiff, List.contains_cons, List.contains_nil, Nat.reduceBEq, Bool.or_false, Bool.false_or, Bool.or_true, Bool.true_or, Bool.false_eq_true, Value.cells, List.size_toArray, List.length_cons, List.length_nil, Option.map_some, Option.map_none, Option.isSome_some, Option.isSome_none, Option.isNone_some, Option.isNone_none, true_and, and_true, ne_eq, reduceCtorEq, not_false_eq_true, Bool.not_true, Bool.not_false, tyAllRW13, then_normal, t0, t1, t25, t26, hlt']
      refine draw_any (List.range 16) 100 [2011, 2015] mixed (by kernel_rfl) (by kernel_rfl) ?_
      have gl : (over gs n (List.replicate i true)).length = 64 := S.gl
      have w1 := sto_set_good S.wl S.gl S.al (i := n + i) (by omega) true
      have w2 := sto_set_age (ws := over ws n w) (gs := (over gs n (List.replicate i true)).set (n + i) true) S.wl (by simpa using gl) S.al (i := n + i) (by omega) 0
      rw [over_snoc (by rw [s.gl]; omega)] at w1 w2
      rw [over_snoc (by rw [s.al]; omega)] at w2
      simp (maxSteps := 2000000) only [show List.range 16 = [0, 1, 2, 3, 4, 5, 6, 7, 8, 9, 10, 11, 12, 13, 14, 15] from rfl, vcCore, yieldT, Int.reduceEq, Int.reduceLT, Int.reduceLE, Int.reduceNe, not_true_eq_false, decide_true, decide_false, add_lit', Nat.zero_add, Nat.mul_one, Int.toNat_natCast, List.getElem?_toArray, List.getElem?_cons_zero, List.getElem?_cons_succ, Option.bind_some, List.map_cons, List.map_nil, List.map_toArray, Array.append_empty, Array.empty_append, List.append_nil, List.nil_append, List.append_toArray, ↓reduceIte, Nat.reduceEqDiff, Nat.reduceAdd, Nat.reduceLeDiff, List.contains_cons, List.contains_nil, Nat.reduceBEq, Bool.or_false, Bool.false_or, Bool.or_true, Bool.true_or, Bool.false_eq_true, Value.cells, List.size_toArray, List.length_cons, List.length_nil, Option.map_some, Option.map_none, Option.isSome_some, Option.isSome_none, Option.isNone_some, Option.isNone_none, true_and, and_true, ne_eq, reduceCtorEq, not_false_eq_true, Bool.not_true, Bool.not_false, tyAllRW13, then_normal, t0, t1, t25, t26, hsum, hlt', S.blk, Mem.set_same, Mem.set_set, w1, w2, e9]
      have s1 := stoArr_size (ws := over ws n w) S.wl S.gl S.al
      have gl2 : (over gs n (List.replicate (i + 1) true)).length = 64 := by rw [over_length (by simp [s.gl]; omega)]; exact s.gl
      have yl2 : (over ys n (List.replicate (i + 1) 0)).length = 64 := by rw [over_length (by simp [s.al]; omega)]; exact s.al
      have s2 := stoArr_size (ws := over ws n w) S.wl gl2 S.al
      refine ⟨by omega, by omega, by omega, by omega, ?_⟩
      exact ⟨w.length - (i + 1), by omega, i + 1, by omega, rfl, t0, t1, t25, rfl, ⟨s.low, Mem.set_same _ _ _, S.wl, gl2, yl2, ob⟩, kp.trans (Keep.set m' b _)⟩
    · have hie : i = w.length := by omega
      subst hie
      have hlt' : ¬ ((w.length : Nat) : Int) < ((w.length : Nat) : Int) := by omega
      simp (maxSteps := 2000000) only [vcCore, yieldT, Int.reduceEq, Int.reduceLT, Int.reduceLE, Int.reduceNe, not_true_eq_false, decide_true, decide_false, add_lit', Nat.zero_add, Nat.mul_one, Int.toNat_natCast, List.getElem?_toArray, List.getElem?_cons_zero, List.getElem?_cons_succ, Option.bind_some, List.map_cons, List.map_nil, List.map_toArray, Array.append_empty, Array.empty_append, List.append_nil, List.nil_append, List.append_toArray, ↓reduceIte, Nat.reduceEqDiff, Nat.reduceAdd, Nat.reduceLeDiff, List.contains_cons, List.contains_nil, Nat.reduceBEq, Bool.or_false, Bool.false_or, Bool.or_true, Bool.true_or, Bool.false_eq_true, Value.cells, List.size_toArray, List.length_cons, List.length_nil, Option.map_some, Option.map_none, Option.isSome_some, Option.isSome_none, Option.isNone_some, Option.isNone_none, true_and, and_true, ne_eq, reduceCtorEq, not_false_eq_true, Bool.not_true, Bool.not_false, tyAllRW13, then_normal, t0, t1, t25, t26, hlt']
      exact h n rfl (by omega) (by omega) hr m' S kp
theorem u8_one (l : List Int) : ∀ u ∈ u8 l, u.oneCell' = true := by intro u hu; simp only [u8, List.mem_map] at hu; obtain ⟨x, _, rfl⟩ := hu; rfl
def allG (gs : List Bool) (n c : Nat) : Bool := ((gs.drop n).take c).all id
theorem store_Read {m : Mem} {K : Value → Mem → Prop} {b : Nat} {ws : List Int} {gs : List Bool} {ys : List Int} (s : Sto W0 m b ws gs ys) {a k : Int}
    (h0 : right a k = false → K (.tuple #[.slice none 0 0, .bool false, .int .i64 2]) m)
    (h : ∀ n c : Nat, a = n → k = c → n + c ≤ 64 → 1 ≤ c → right a k = true → ∀ v m', NewS W0 m m' 5 1 v c (u8 ((ws.drop n).take c)) → K (.tuple #[v, .bool (allG gs n c), .int .i64 0]) m') :
    CallA Try.prog W0 22 #[.pointer (some ⟨b, 0, none⟩), .int .i64 a, .int .i64 k] m K := by
  refine en_22 (l := [.pointer (some ⟨b, 0, none⟩), .int .i64 a, .int .i64 k]) (by simp [Try.ntmps22]) ?_
  simp (maxSteps := 2000000) only [Try.f22, Option.getD_some, vcCore, yieldT, Int.reduceEq, Int.reduceLT, Int.reduceLE, Int.reduceNe, not_true_eq_false, decide_true, decide_false, add_lit', Nat.zero_add, Nat.mul_one, Int.toNat_natCast, List.getElem?_toArray, List.getElem?_cons_zero, List.getElem?_cons_succ, Option.bind_some, List.map_cons, List.map_nil, List.map_toArray, Array.append_empty, Array.empty_append, List.append_nil, List.nil_append, List.append_toArray, ↓reduceIte, Nat.reduceEqDiff, Nat.reduceAdd, Nat.reduceLeDiff, List.contains_cons, List.contains_nil, Nat.reduceBEq, Bool.or_false, Bool.false_or, Bool.or_true, Bool.true_or, Bool.false_eq_true, Value.cells, List.size_toArray, List.length_cons, List.length_nil, Option.map_some, Option.map_none, Option.isSome_some, Option.isSome_none, Option.isNone_some, Option.isNone_none, true_and, and_true, ne_eq, reduceCtorEq, not_false_eq_true, Bool.not_true, Bool.not_false, tyAllRW13, then_normal]
  refine store_check s ?_
  cases hr : right a k
  · simp (maxSteps := 2000000) only [vcCore, yieldT, Int.reduceEq, Int.reduceLT, Int.reduceLE, Int.reduceNe, not_true_eq_false, decide_true, decide_false, add_lit', Nat.zero_add, Nat.mul_one, Int.toNat_natCast, List.getElem?_toArray, List.getElem?_cons_zero, List.getElem?_cons_succ, Option.bind_some, List.map_cons, List.map_nil, List.map_toArray, Array.append_empty, Array.empty_append, List.append_nil, List.nil_append, List.append_toArray, ↓reduceIte, Nat.reduceEqDiff, Nat.reduceAdd, Nat.reduceLeDiff, List.contains_cons, List.contains_nil, Nat.reduceBEq, Bool.or_false, Bool.false_or, Bool.or_true, Bool.true_or, Bool.false_eq_true, Value.cells, List.size_toArray, List.length_cons, List.length_nil, Option.map_some, Option.map_none, Option.isSome_some, Option.isSome_none, Option.isNone_some, Option.isNone_none, true_and, and_true, ne_eq, reduceCtorEq, not_false_eq_true, Bool.not_true, Bool.not_false, tyAllRW13, then_normal, Int.cast_ofNat_Int, BEq.rfl, bne_self_eq_false, beq_self_eq_true, Bool.and_true, Bool.true_and, Bool.and_false, Bool.false_and, Int.reduceBEq, Int.reduceBNe, Nat.reduceMul, Nat.reduceDiv, Int.reduceToNat, Int.reduceNeg, Int.reduceAdd, Int.reduceSub, Int.reduceMul]
    exact h0 hr
  · obtain ⟨n, c, rfl, rfl, h1, h64⟩ := right_two hr
    simp (maxSteps := 2000000) only [vcCore, yieldT, Int.reduceEq, Int.reduceLT, Int.reduceLE, Int.reduceNe, not_true_eq_false, decide_true, decide_false, add_lit', Nat.zero_add, Nat.mul_one, Int.toNat_natCast, List.getElem?_toArray, List.getElem?_cons_zero, List.getElem?_cons_succ, Option.bind_some, List.map_cons, List.map_nil, List.map_toArray, Array.append_empty, Array.empty_append, List.append_nil, List.nil_append, List.append_toArray, ↓reduceIte, Nat.reduceEqDiff, Nat.reduceAdd, Nat.reduceLeDiff, List.contains_cons, List.contains_nil, Nat.reduceBEq, Bool.or_false, Bool.false_or, Bool.or_true, Bool.true_or, Bool.false_eq_true, Value.cells, List.size_toArray, List.length_cons, List.length_nil, Option.map_some, Option.map_none, Option.isSome_some, Option.isSome_none, Option.isNone_some, Option.isNone_none, true_and, and_true, ne_eq, reduceCtorEq, not_false_eq_true, Bool.not_true, Bool.not_false, tyAllRW13, then_normal, Int.cast_ofNat_Int, BEq.rfl, bne_self_eq_false, beq_self_eq_true, Bool.and_true, Bool.true_and, Bool.and_false, Bool.false_and, Int.reduceBEq, Int.reduceBNe, Nat.reduceMul, Nat.reduceDiv, Int.reduceToNat, Int.reduceNeg, Int.reduceAdd, Int.reduceSub, Int.reduceMul]
    refine rmake sl_28 ze_5 by_5 (by unfold maxLen; omega) (by omega) fun q hq => ?_
    have hN := NewS.made (m := m) (e := 5) (z := .int .u8 0) hq (n := c) (by unfold maxLen; omega)
    have s2 := s.ext hN.ext
    simp (maxSteps := 2000000) only [vcCore, yieldT, Int.reduceEq, Int.reduceLT, Int.reduceLE, Int.reduceNe, not_true_eq_false, decide_true, decide_false, add_lit', Nat.zero_add, Nat.mul_one, Int.toNat_natCast, List.getElem?_toArray, List.getElem?_cons_zero, List.getElem?_cons_succ, Option.bind_some, List.map_cons, List.map_nil, List.map_toArray, Array.append_empty, Array.empty_append, List.append_nil, List.nil_append, List.append_toArray, ↓reduceIte, Nat.reduceEqDiff, Nat.reduceAdd, Nat.reduceLeDiff, List.contains_cons, List.contains_nil, Nat.reduceBEq, Bool.or_false, Bool.false_or, Bool.or_true, Bool.true_or, Bool.false_eq_true, Value.cells, List.size_toArray, List.length_cons, List.length_nil, Option.map_some, Option.map_none, Option.isSome_some, Option.isSome_none, Option.isNone_some, Option.isNone_none, true_and, and_true, ne_eq, reduceCtorEq, not_false_eq_true, Bool.not_true, Bool.not_false, tyAllRW13, then_normal, Int.cast_ofNat_Int, BEq.rfl, bne_self_eq_false, beq_self_eq_true, Bool.and_true, Bool.true_and, Bool.and_false, Bool.false_and, Int.reduceBEq, Int.reduceBNe, Nat.reduceMul, Nat.reduceDiv, Int.reduceToNat, Int.reduceNeg, Int.reduceAdd, Int.reduceSub, Int.reduceMul]
    refine rarr_l (n := 64) (l := n) (e := 5) un_arr8 sz_5 (by omega) ?_
    rw [if_neg (show ¬ 64 = n by omega), add_lit']
    simp (maxSteps := 2000000) only [vcCore, yieldT, Int.reduceEq, Int.reduceLT, Int.reduceLE, Int.reduceNe, not_true_eq_false, decide_true, decide_false, add_lit', Nat.zero_add, Nat.mul_one, Int.toNat_natCast, List.getElem?_toArray, List.getElem?_cons_zero, List.getElem?_cons_succ, Option.bind_some, List.map_cons, List.map_nil, List.map_toArray, Array.append_empty, Array.empty_append, List.append_nil, List.nil_append, List.append_toArray, ↓reduceIte, Nat.reduceEqDiff, Nat.reduceAdd, Nat.reduceLeDiff, List.contains_cons, List.contains_nil, Nat.reduceBEq, Bool.or_false, Bool.false_or, Bool.or_true, Bool.true_or, Bool.false_eq_true, Value.cells, List.size_toArray, List.length_cons, List.length_nil, Option.map_some, Option.map_none, Option.isSome_some, Option.isSome_none, Option.isNone_some, Option.isNone_none, true_and, and_true, ne_eq, reduceCtorEq, not_false_eq_true, Bool.not_true, Bool.not_false, tyAllRW13, then_normal, Int.cast_ofNat_Int, BEq.rfl, bne_self_eq_false, beq_self_eq_true, Bool.and_true, Bool.true_and, Bool.and_false, Bool.false_and, Int.reduceBEq, Int.reduceBNe, Nat.reduceMul, Nat.reduceDiv, Int.reduceToNat, Int.reduceNeg, Int.reduceAdd, Int.reduceSub, Int.reduceMul]
    have lw : ((ws.drop n).take c).length = c := by simp [s.wl]; omega
    refine rcopy (cs := u8 ((ws.drop n).take c)) sl_28 (Mem.set_same _ _ _) (by rw [u8_length, lw]; show _ = min (64 - n) c; omega) (.inr ⟨⟨b, 1 + n, none⟩, rfl, fun j u hj => ?_⟩) (by rw [u8_length, lw]; simp [size_madeCells]) (u8_one _) ?_
    · rw [add_lit']
      rw [u8_get, List.getElem?_take] at hj
      split at hj
      · rename_i hjc
        rw [List.getElem?_drop, List.getElem?_eq_getElem (by rw [s.wl]; omega)] at hj
        have := sto_word s2 (i := n + j) (by omega)
        rw [show 1 + n + j = 1 + (n + j) by omega, this]
        exact hj
      · cases hj
    generalize hm2 : Mem.set (Mem.set m q _) q _ = m2
    have e2 : Ext m m2 := hm2 ▸ fun k o hk => by
      have : k ≠ q := fun e => by subst e; rw [hq.no] at hk; cases hk
      rw [Mem.set_ne _ _ _ this, Mem.set_ne _ _ _ this]; exact hk
    have own2 : OwnS W0 m2 5 1 (.slice (some ⟨q, 0, none⟩) c c) c (u8 ((ws.drop n).take c)) := by
      rw [← hm2]
      refine ⟨by rw [u8_length, lw]; omega, .inr ⟨q, c, _, rfl, hq.le, Mem.set_same _ _ _, Nat.le_refl _, by unfold maxLen; omega, ?_, ?_⟩⟩
      · simp [wr, u8_length, size_madeCells, s.wl]; omega
      · have hl : (u8 ((ws.drop n).take c)).length = c := by rw [u8_length, lw]
        simp only [wr, Nat.mul_one]
        rw [List.take_zero, List.nil_append, List.take_append_of_le_length (by omega), List.take_of_length_le (by omega)]
    have s3 := s.ext e2
    simp (maxSteps := 2000000) only [vcCore, yieldT, Int.reduceEq, Int.reduceLT, Int.reduceLE, Int.reduceNe, not_true_eq_false, decide_true, decide_false, add_lit', Nat.zero_add, Nat.mul_one, Int.toNat_natCast, List.getElem?_toArray, List.getElem?_cons_zero, List.getElem?_cons_succ, Option.bind_some, List.map_cons, List.map_nil, List.map_toArray, Array.append_empty, Array.empty_append, List.append_nil, List.nil_append, List.append_toArray, ↓reduceIte, Nat.reduceEqDiff, Nat.reduceAdd, Nat.reduceLeDiff, List.contains_cons, List.contains_nil, Nat.reduceBEq, Bool.or_false, Bool.false_or, Bool.or_true, Bool.true_or, Bool.false_eq_true, Value.cells, List.size_toArray, List.length_cons, List.length_nil, Option.map_some, Option.map_none, Option.isSome_some, Option.isSome_none, Option.isNone_some, Option.isNone_none, true_and, and_true, ne_eq, reduceCtorEq, not_false_eq_true, Bool.not_true, Bool.not_false, tyAllRW13, then_normal, Int.cast_ofNat_Int, BEq.rfl, bne_self_eq_false, beq_self_eq_true, Bool.and_true, Bool.true_and, Bool.and_false, Bool.false_and, Int.reduceBEq, Int.reduceBNe, Nat.reduceMul, Nat.reduceDiv, Int.reduceToNat, Int.reduceNeg, Int.reduceAdd, Int.reduceSub, Int.reduceMul]
    refine loop_rule (fun d t m' => m' = m2 ∧ ∃ i : Nat, i ≤ c ∧ d = c - i ∧ t 0 = .pointer (some ⟨b, 0, none⟩) ∧ t 1 = .int .i64 (n : Int) ∧ t 10 = .slice (some ⟨q, 0, none⟩) c c ∧ t 11 = .bool (allG gs n i) ∧ t 30 = .int .i64 (c : Int) ∧ t 31 = .int .i64 (i : Int))
      c (by kernel_rfl) ⟨rfl, 0, by omega, by omega, rfl, rfl, rfl, by rw [show allG gs n 0 = true by simp [allG]]; rfl, rfl, rfl⟩ ?_
    rintro d t m' ⟨rfl, i, hi, rfl, t0, t1, t10, t11, t30, t31⟩
    by_cases hlt : i < c
    · have hlt' : (i : Int) < (c : Int) := by omega
      have hsum : IntKind.i64.wrap ((n : Int) + (i : Int)) = ((n + i : Nat) : Int) := by rw [w64 (by omega) (by omega)]; omega
      have e9 : IntKind.i64.wrap ((i : Int) + 1) = ((i + 1 : Nat) : Int) := by rw [w64 (by omega) (by omega)]; omega
      have hg := sto_good s3 (i := n + i) (by omega)
      have hal : allG gs n (i + 1) = (allG gs n i && (gs[n + i]'(by rw [s.gl]; omega))) := by
        unfold allG
        rw [List.take_add_one, List.all_append, List.getElem?_drop, List.getElem?_eq_getElem (by rw [s.gl]; omega)]
        simp
      cases ha : allG gs n i <;> rw [ha] at t11 hal <;> simp (maxSteps := 2000000) only [vcCore, yieldT, Int.reduceEq, Int.reduceLT, Int.reduceLE, Int.reduceNe, not_true_eq_false, decide_true, decide_false, add_lit', Nat.zero_add, Nat.mul_one, Int.toNat_natCast, List.getElem?_toArray, List.getElem?_cons_zero, List.getElem?_cons_succ, Option.bind_some, List.map_cons, List.map_nil, List.map_toArray, Array.append_empty, Array.empty_append, List.append_nil, List.nil_append, List.append_toArray, ↓reduceIte, Nat.reduceEqDiff, Nat.reduceAdd, Nat.reduceLeDiff, List.contains_cons, List.contains_nil, Nat.reduceBEq, Bool.or_false, Bool.false_or, Bool.or_true, Bool.true_or, Bool.false_eq_true, Value.cells, List.size_toArray, List.length_cons, List.length_nil, Option.map_some, Option.map_none, Option.isSome_some, Option.isSome_none, Option.isNone_some, Option.isNone_none, true_and, and_true, ne_eq, reduceCtorEq, not_false_eq_true, Bool.not_true, Bool.not_false, tyAllRW13, then_normal, t0, t1, t10, t11, t30, t31, hlt', hsum, e9, hg]
      · exact ⟨c - (i + 1), by omega, rfl, i + 1, by omega, rfl, t0, t1, t10, by rw [hal]; rfl, t30, rfl⟩
      · refine ⟨by omega, ?_⟩
        exact ⟨c - (i + 1), by omega, rfl, i + 1, by omega, rfl, t0, t1, t10, by rw [hal]; rfl, t30, rfl⟩
    · have hie : i = c := by omega
      subst hie
      have hlt' : ¬ ((i : Nat) : Int) < ((i : Nat) : Int) := by omega
      simp (maxSteps := 2000000) only [vcCore, yieldT, Int.reduceEq, Int.reduceLT, Int.reduceLE, Int.reduceNe, not_true_eq_false, decide_true, decide_false, add_lit', Nat.zero_add, Nat.mul_one, Int.toNat_natCast, List.getElem?_toArray, List.getElem?_cons_zero, List.getElem?_cons_succ, Option.bind_some, List.map_cons, List.map_nil, List.map_toArray, Array.append_empty, Array.empty_append, List.append_nil, List.nil_append, List.append_toArray, ↓reduceIte, Nat.reduceEqDiff, Nat.reduceAdd, Nat.reduceLeDiff, List.contains_cons, List.contains_nil, Nat.reduceBEq, Bool.or_false, Bool.false_or, Bool.or_true, Bool.true_or, Bool.false_eq_true, Value.cells, List.size_toArray, List.length_cons, List.length_nil, Option.map_some, Option.map_none, Option.isSome_some, Option.isSome_none, Option.isNone_some, Option.isNone_none, true_and, and_true, ne_eq, reduceCtorEq, not_false_eq_true, Bool.not_true, Bool.not_false, tyAllRW13, then_normal, t0, t1, t10, t11, t30, t31, hlt']
      exact h n i rfl rfl h64 h1 hr _ _ ⟨own2, e2, fun g hg => by cases hg; exact hq.no⟩
def ager (g : Bool) (y : Int) : Int := if g then min (y + 1) 1073741824 else y
def aged (gs : List Bool) (ys : List Int) : List Int := List.zipWith ager gs ys
theorem aged_length {gs : List Bool} {ys : List Int} (h1 : gs.length = 64) (h2 : ys.length = 64) : (aged gs ys).length = 64 := by simp [aged, h1, h2]
theorem aged_step {gs : List Bool} {ys : List Int} (h1 : gs.length = 64) (h2 : ys.length = 64) {i : Nat} (hi : i < 64) :
    ((aged gs ys).take i ++ ys.drop i).set i (ager (gs[i]'(by omega)) (ys[i]'(by omega))) = (aged gs ys).take (i + 1) ++ ys.drop (i + 1) := by
  have hl := aged_length h1 h2
  rw [List.set_append_right _ _ (by simp [hl]; omega)]
  rw [List.take_add_one, List.length_take, hl, show i - min i 64 = 0 by omega, List.drop_eq_getElem_cons (by omega), List.set_cons_zero, List.getElem?_eq_getElem (by omega)]
  simp [aged]
theorem store_Frame {m : Mem} {K : Value → Mem → Prop} {b : Nat} {ws : List Int} {gs : List Bool} {ys : List Int} (s : Sto W0 m b ws gs ys) (hy : ∀ y ∈ ys, -1 ≤ y ∧ y ≤ 1073741824)
    (h : ∀ m', Sto W0 m' b ws gs (aged gs ys) → Keep m m' (some b) → K (.tuple #[]) m') : CallA Try.prog W0 19 #[.pointer (some ⟨b, 0, none⟩)] m K := by
  refine en_19 (l := [.pointer (some ⟨b, 0, none⟩)]) (by simp [Try.ntmps19]) ?_
  simp (maxSteps := 2000000) only [Try.f19, Option.getD_some, vcCore, yieldT, Int.reduceEq, Int.reduceLT, Int.reduceLE, Int.reduceNe, not_true_eq_false, decide_true, decide_false, add_lit', Nat.zero_add, Nat.mul_one, Int.toNat_natCast, List.getElem?_toArray, List.getElem?_cons_zero, List.getElem?_cons_succ, Option.bind_some, List.map_cons, List.map_nil, List.map_toArray, Array.append_empty, Array.empty_append, List.append_nil, List.nil_append, List.append_toArray, ↓reduceIte, Nat.reduceEqDiff, Nat.reduceAdd, Nat.reduceLeDiff, List.contains_cons, List.contains_nil, Nat.reduceBEq, Bool.or_false, Bool.false_or, Bool.or_true, Bool.true_or, Bool.false_eq_true, Value.cells, List.size_toArray, List.length_cons, List.length_nil, Option.map_some, Option.map_none, Option.isSome_some, Option.isSome_none, Option.isNone_some, Option.isNone_none, true_and, and_true, ne_eq, reduceCtorEq, not_false_eq_true, Bool.not_true, Bool.not_false, tyAllRW13, then_normal]
  refine store_none s ?_
  simp (maxSteps := 2000000) only [vcCore, yieldT, Int.reduceEq, Int.reduceLT, Int.reduceLE, Int.reduceNe, not_true_eq_false, decide_true, decide_false, add_lit', Nat.zero_add, Nat.mul_one, Int.toNat_natCast, List.getElem?_toArray, List.getElem?_cons_zero, List.getElem?_cons_succ, Option.bind_some, List.map_cons, List.map_nil, List.map_toArray, Array.append_empty, Array.empty_append, List.append_nil, List.nil_append, List.append_toArray, ↓reduceIte, Nat.reduceEqDiff, Nat.reduceAdd, Nat.reduceLeDiff, List.contains_cons, List.contains_nil, Nat.reduceBEq, Bool.or_false, Bool.false_or, Bool.or_true, Bool.true_or, Bool.false_eq_true, Value.cells, List.size_toArray, List.length_cons, List.length_nil, Option.map_some, Option.map_none, Option.isSome_some, Option.isSome_none, Option.isNone_some, Option.isNone_none, true_and, and_true, ne_eq, reduceCtorEq, not_false_eq_true, Bool.not_true, Bool.not_false, tyAllRW13, then_normal, Int.cast_ofNat_Int, BEq.rfl, bne_self_eq_false, beq_self_eq_true, Bool.and_true, Bool.true_and, Bool.and_false, Bool.false_and, Int.reduceBEq, Int.reduceBNe, Nat.reduceMul, Nat.reduceDiv, Int.reduceToNat, Int.reduceNeg, Int.reduceAdd, Int.reduceSub, Int.reduceMul]
  refine loop_rule (fun d t m' => ∃ i : Nat, i ≤ 64 ∧ d = 64 - i ∧ t 0 = .pointer (some ⟨b, 0, none⟩) ∧ t 5 = .int .i64 (i : Int) ∧ Sto W0 m' b ws gs ((aged gs ys).take i ++ ys.drop i) ∧ Keep m m' (some b)) 64 (by kernel_rfl)
    ⟨0, by omega, by omega, rfl, rfl, by simpa using s, Keep.refl _ _⟩ ?_
  rintro d t m' ⟨i, hi, rfl, t0, t5, S, kp⟩
  by_cases hlt : i < 64
  · have hlt' : (i : Int) < 64 := by omega
    have e9 : IntKind.i64.wrap ((i : Int) + 1) = ((i + 1 : Nat) : Int) := by rw [w64 (by omega) (by omega)]; omega
    have hg := sto_good S (i := i) hlt
    have hl := aged_length s.gl s.al
    have ha := sto_age S (i := i) hlt
    have hge : ((aged gs ys).take i ++ ys.drop i)[i]'(by rw [S.al]; exact hlt) = ys[i]'(by rw [s.al]; exact hlt) := by
      rw [List.getElem_append_right (by simp [hl]; omega)]
      simp [hl, show i - min i 64 = 0 by omega]
    rw [hge] at ha
    have hyi := hy (ys[i]'(by rw [s.al]; exact hlt)) (List.getElem_mem _)
    have hst := aged_step s.gl s.al hlt
    have hadd : IntKind.i64.wrap ((ys[i]'(by rw [s.al]; exact hlt)) + 1) = (ys[i]'(by rw [s.al]; exact hlt)) + 1 := w64 (by omega) (by omega)
    have h64 := S.al
    cases hgi : gs[i]'(by rw [s.gl]; exact hlt) <;> rw [hgi] at hg hst
    · simp (maxSteps := 2000000) only [vcCore, yieldT, Int.reduceEq, Int.reduceLT, Int.reduceLE, Int.reduceNe, not_true_eq_false, decide_true, decide_false, add_lit', Nat.zero_add, Nat.mul_one, Int.toNat_natCast, List.getElem?_toArray, List.getElem?_cons_zero, List.getElem?_cons_succ, Option.bind_some, List.map_cons, List.map_nil, List.map_toArray, Array.append_empty, Array.empty_append, List.append_nil, List.nil_append, List.append_toArray, ↓reduceIte, Nat.reduceEqDiff, Nat.reduceAdd, Nat.reduceLeDiff, List.contains_cons, List.contains_nil, Nat.reduceBEq, Bool.or_false, Bool.false_or, Bool.or_true, Bool.true_or, Bool.false_eq_true, Value.cells, List.size_toArray, List.length_cons, List.length_nil, Option.map_some, Option.map_none, Option.isSome_some, Option.isSome_none, Option.isNone_some, Option.isNone_none, true_and, and_true, ne_eq, reduceCtorEq, not_false_eq_true, Bool.not_true, Bool.not_false, tyAllRW13, then_normal, t0, t5, hlt', hg, e9]
      refine ⟨by omega, ?_⟩
      have hsame : (aged gs ys).take (i + 1) ++ ys.drop (i + 1) = (aged gs ys).take i ++ ys.drop i := by
        rw [← hst]
        show ((aged gs ys).take i ++ ys.drop i).set i (ys[i]'(by rw [s.al]; exact hlt)) = _
        rw [← hge]; exact List.set_getElem_self _
      exact ⟨64 - (i + 1), by omega, i + 1, by omega, rfl, t0, rfl, by rw [hsame]; exact S, kp⟩
    · simp (maxSteps := 2000000) only [vcCore, yieldT, Int.reduceEq, Int.reduceLT, Int.reduceLE, Int.reduceNe, not_true_eq_false, decide_true, decide_false, add_lit', Nat.zero_add, Nat.mul_one, Int.toNat_natCast, List.getElem?_toArray, List.getElem?_cons_zero, List.getElem?_cons_succ, Option.bind_some, List.map_cons, List.map_nil, List.map_toArray, Array.append_empty, Array.empty_append, List.append_nil, List.nil_append, List.append_toArray, ↓reduceIte, Nat.reduceEqDiff, Nat.reduceAdd, Nat.reduceLeDiff, List.contains_cons, List.contains_nil, Nat.reduceBEq, Bool.or_false, Bool.false_or, Bool.or_true, Bool.true_or, Bool.false_eq_true, Value.cells, List.size_toArray, List.length_cons, List.length_nil, Option.map_some, Option.map_none, Option.isSome_some, Option.isSome_none, Option.isNone_some, Option.isNone_none, true_and, and_true, ne_eq, reduceCtorEq, not_false_eq_true, Bool.not_true, Bool.not_false, tyAllRW13, then_normal, t0, t5, hlt', hg, e9]
      refine ⟨by omega, ?_⟩
      refine draw_any (List.range 14) 13 [] mixed (by kernel_rfl) (by kernel_rfl) ?_
      have hmin : (if (1073741824 : Int) < (ys[i]'(by rw [s.al]; exact hlt)) + 1 then (1073741824 : Int) else (ys[i]'(by rw [s.al]; exact hlt)) + 1) = ager true (ys[i]'(by rw [s.al]; exact hlt)) := by
        show _ = min _ _
        split <;> omega
      have w2 := sto_set_age (ws := ws) (gs := gs) S.wl S.gl S.al (i := i) hlt (ager true (ys[i]'(by rw [s.al]; exact hlt)))
      rw [hst] at w2
      have s1 := stoArr_size (ws := ws) S.wl S.gl S.al
      simp (maxSteps := 2000000) only [show List.range 14 = [0, 1, 2, 3, 4, 5, 6, 7, 8, 9, 10, 11, 12, 13] from rfl, vcCore, yieldT, Int.reduceEq, Int.reduceLT, Int.reduceLE, Int.reduceNe, not_true_eq_false, decide_true, decide_false, add_lit', Nat.zero_add, Nat.mul_one, Int.toNat_natCast, List.getElem?_toArray, List.getElem?_cons_zero, List.getElem?_cons_succ, Option.bind_some, List.map_cons, List.map_nil, List.map_toArray, Array.append_empty, Array.empty_append, List.append_nil, List.nil_append, List.append_toArray, ↓reduceIte, Nat.reduceEqDiff, Nat.reduceAdd, Nat.reduceLeDiff, List.contains_cons, List.contains_nil, Nat.reduceBEq, Bool.or_false, Bool.false_or, Bool.or_true, Bool.true_or, Bool.false_eq_true, Value.cells, List.size_toArray, List.length_cons, List.length_nil, Option.map_some, Option.map_none, Option.isSome_some, Option.isSome_none, Option.isNone_some, Option.isNone_none, true_and, and_true, ne_eq, reduceCtorEq, not_false_eq_true, Bool.not_true, Bool.not_false, tyAllRW13, then_normal, t0, t5, hlt', hg, e9, ha, hadd, hmin, S.blk, Mem.set_same, Mem.set_set, w2]
      have yl2 : ((aged gs ys).take (i + 1) ++ ys.drop (i + 1)).length = 64 := by simp [hl, s.al]; omega
      exact ⟨by omega, by omega, by omega, 64 - (i + 1), by omega, i + 1, by omega, rfl, t0, rfl, ⟨s.low, Mem.set_same _ _ _, s.wl, s.gl, yl2, s.byte⟩, kp.trans (Keep.set m' b _)⟩
  · have hie : i = 64 := by omega
    subst hie
    rw [List.take_of_length_le (by rw [aged_length s.gl s.al]; omega), List.drop_eq_nil_of_le (by rw [s.al]; omega), List.append_nil] at S
    simp (maxSteps := 2000000) only [vcCore, yieldT, Int.reduceEq, Int.reduceLT, Int.reduceLE, Int.reduceNe, not_true_eq_false, decide_true, decide_false, add_lit', Nat.zero_add, Nat.mul_one, Int.toNat_natCast, List.getElem?_toArray, List.getElem?_cons_zero, List.getElem?_cons_succ, Option.bind_some, List.map_cons, List.map_nil, List.map_toArray, Array.append_empty, Array.empty_append, List.append_nil, List.nil_append, List.append_toArray, ↓reduceIte, Nat.reduceEqDiff, Nat.reduceAdd, Nat.reduceLeDiff, List.contains_cons, List.contains_nil, Nat.reduceBEq, Bool.or_false, Bool.false_or, Bool.or_true, Bool.true_or, Bool.false_eq_true, Value.cells, List.size_toArray, List.length_cons, List.length_nil, Option.map_some, Option.map_none, Option.isSome_some, Option.isSome_none, Option.isNone_some, Option.isNone_none, true_and, and_true, ne_eq, reduceCtorEq, not_false_eq_true, Bool.not_true, Bool.not_false, tyAllRW13, then_normal, t0, t5, Int.cast_ofNat_Int, BEq.rfl, bne_self_eq_false, beq_self_eq_true, Bool.and_true, Bool.true_and, Bool.and_false, Bool.false_and, Int.reduceBEq, Int.reduceBNe, Nat.reduceMul, Nat.reduceDiv, Int.reduceToNat, Int.reduceNeg, Int.reduceAdd, Int.reduceSub, Int.reduceMul]
    exact h m' S kp
end
end Go.Proofs.Ytapppaccnkojkaa.R
