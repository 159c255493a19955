import Derived.Test.YtapppaccnkojkaaSSerialWholeRT
import Derived.Test.YtapppaccnkojkaaRLib2
import Derived.Test.YtapppaccnkojkaaSSerialWholeRW02h
set_option linter.unusedVariables false
set_option linter.unusedSimpArgs false
namespace Go.Proofs.Ytapppaccnkojkaa.R
open Go Go.RowKit Go.Proofs.Ytapppaccnkojkaa
set_option maxRecDepth 100000
set_option maxHeartbeats 400000
theorem tyAllRW02 : type_of% (And.intro (And.intro (And.intro (And.intro ty_1 ty_2) (And.intro ty_3 ty_4)) (And.intro (And.intro ty_5 ty_6) (And.intro ty_7 ty_8))) (And.intro (And.intro (And.intro ty_9 ty_10) (And.intro ty_11 ty_25)) (And.intro (And.intro ty_26 ty_28) (And.intro ty_29 (And.intro ty_30 ty_113))))) := (And.intro (And.intro (And.intro (And.intro ty_1 ty_2) (And.intro ty_3 ty_4)) (And.intro (And.intro ty_5 ty_6) (And.intro ty_7 ty_8))) (And.intro (And.intro (And.intro ty_9 ty_10) (And.intro ty_11 ty_25)) (And.intro (And.intro ty_26 ty_28) (And.intro ty_29 (And.intro ty_30 ty_113)))))
section
variable {W0 : World}
def bitAt (ws : List Int) (i : Int) : Bool := (ws.getD (i / 8).toNat 0 / 2 ^ (7 - i % 8).toNat) % 2 == 1
def inB (n : Nat) (i : Int) : Bool := decide (0 ≤ i) && decide (i < 8 * (n : Int))
theorem word_Bit {m : Mem} {K : Value → Mem → Prop} {v : Value} {n : Nat} {ws : List Int} {i : Int} (hr : RS W0 m v 1 n (u8 ws)) (hb : Byte ws) (hn : n ≤ 9223372036854775807) (hi : -9223372036854775808 ≤ i) (hi' : i ≤ 9223372036854775807)
    (h : K (.tuple #[.bool (inB n i && bitAt ws i), .bool (inB n i)]) m) : CallA Try.prog W0 113 #[v, .int .i64 i] m K := by
  have hr0 := hr
  obtain ⟨hl, A, c, rfl, h0⟩ := hr
  refine en_113 (l := [.slice A n c, .int .i64 i]) (by simp [Try.ntmps113]) ?_
  by_cases h1 : i < 0
  · simp only [Try.f113, Option.getD_some, vcCore, yieldT, Int.reduceEq, Int.reduceLT, Int.reduceLE, Int.reduceNe, not_true_eq_false, decide_true, decide_false, add_lit', Nat.zero_add, Nat.mul_one, Int.toNat_natCast, List.getElem?_toArray, List.getElem?_cons_zero, List.getElem?_cons_succ, Option.bind_some, List.map_cons, List.map_nil, List.map_toArray, Array.append_empty, Array.empty_append, List.append_nil, List.nil_append, List.append_toArray, ↓reduceIte, Nat.reduceEqDiff, Nat.reduceAdd, Nat.reduceLeDiff, List.contains_cons, List.contains_nil, Nat.reduceBEq, Bool.or_false, Bool.false_or, Bool.or_true, Bool.true_or, Bool.false_eq_true, Value.cells, List.size_toArray, List.length_cons, List.length_nil, Option.map_some, Option.map_none, Option.isSome_some, Option.isSome_none, Option.isNone_some, Option.isNone_none, true_and, and_true, ne_eq, reduceCtorEq, not_false_eq_true, Bool.not_true, Bool.not_false, tyAllRW02, then_normal, h1, decide_true]
    have : inB n i = false := by unfold inB; simp; omega
    rw [this] at h; exact h
  · have hd : IntKind.i64.wrap (i.tdiv 8) = i / 8 := by rw [tdiv_pos (by omega), w64 (by omega) (by omega)]
    have hm : i.tmod 8 = i % 8 := tmod_pos (by omega)
    have hs : IntKind.i64.wrap (7 - i % 8) = 7 - i % 8 := w64 (by omega) (by omega)
    by_cases h2 : (n : Int) ≤ i / 8
    · simp only [Try.f113, Option.getD_some, vcCore, yieldT, Int.reduceEq, Int.reduceLT, Int.reduceLE, Int.reduceNe, not_true_eq_false, decide_true, decide_false, add_lit', Nat.zero_add, Nat.mul_one, Int.toNat_natCast, List.getElem?_toArray, List.getElem?_cons_zero, List.getElem?_cons_succ, Option.bind_some, List.map_cons, List.map_nil, List.map_toArray, Array.append_empty, Array.empty_append, List.append_nil, List.nil_append, List.append_toArray, ↓reduceIte, Nat.reduceEqDiff, Nat.reduceAdd, Nat.reduceLeDiff, List.contains_cons, List.contains_nil, Nat.reduceBEq, Bool.or_false, Bool.false_or, Bool.or_true, Bool.true_or, Bool.false_eq_true, Value.cells, List.size_toArray, List.length_cons, List.length_nil, Option.map_some, Option.map_none, Option.isSome_some, Option.isSome_none, Option.isNone_some, Option.isNone_none, true_and, and_true, ne_eq, reduceCtorEq, not_false_eq_true, Bool.not_true, Bool.not_false, tyAllRW02, then_normal, h1, decide_false, hd, h2, decide_true]
      have : inB n i = false := by unfold inB; simp; omega
      rw [this] at h; exact h
    · obtain ⟨a, rfl, hc⟩ := RS.cell hr0 (j := (i / 8).toNat) (by omega)
      have hg : ws[(i / 8).toNat]? = some (ws.getD (i / 8).toNat 0) := by
        rw [List.getD_eq_getElem?_getD]
        have : (i / 8).toNat < ws.length := by rw [u8_length] at hl; omega
        simp [this]
      have hcell := hc (i / 8).toNat _ (by rw [u8_get, hg]; rfl)
      have hbx := hb.get hg
      simp only [Try.f113, Option.getD_some, vcCore, yieldT, Int.reduceEq, Int.reduceLT, Int.reduceLE, Int.reduceNe, not_true_eq_false, decide_true, decide_false, add_lit', Nat.zero_add, Nat.mul_one, Int.toNat_natCast, List.getElem?_toArray, List.getElem?_cons_zero, List.getElem?_cons_succ, Option.bind_some, List.map_cons, List.map_nil, List.map_toArray, Array.append_empty, Array.empty_append, List.append_nil, List.nil_append, List.append_toArray, ↓reduceIte, Nat.reduceEqDiff, Nat.reduceAdd, Nat.reduceLeDiff, List.contains_cons, List.contains_nil, Nat.reduceBEq, Bool.or_false, Bool.false_or, Bool.or_true, Bool.true_or, Bool.false_eq_true, Value.cells, List.size_toArray, List.length_cons, List.length_nil, Option.map_some, Option.map_none, Option.isSome_some, Option.isSome_none, Option.isNone_some, Option.isNone_none, true_and, and_true, ne_eq, reduceCtorEq, not_false_eq_true, Bool.not_true, Bool.not_false, tyAllRW02, then_normal, h1, decide_false, hd, h2, hcell, hm, hs, Nat.mul_one]
      refine ⟨by omega, by omega, by omega, ?_⟩
      have e1 : inB n i = true := by unfold inB; simp; omega
      have e2 : min (7 - i % 8).toNat (IntKind.bits .u8) = (7 - i % 8).toNat := by simp [IntKind.bits]; omega
      rw [e1] at h
      rw [e2, fdiv_pos (Int.pow_nonneg (by decide)), and_one (Int.ediv_nonneg hbx.1 (Int.pow_nonneg (by decide))) (by
        have := Int.ediv_le_self (2 ^ (7 - i % 8).toNat) hbx.1; omega)]
      exact h
end
end Go.Proofs.Ytapppaccnkojkaa.R
