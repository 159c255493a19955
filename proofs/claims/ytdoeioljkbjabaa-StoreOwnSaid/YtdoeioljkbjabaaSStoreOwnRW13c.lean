/- The store's layer: two that are alike; slices of words. No conditions. -/
import Derived.Test.YtdoeioljkbjabaaSStoreOwnRW13b
import Derived.Test.YtdoeioljkbjabaaREq
import Derived.Test.YtdoeioljkbjabaaSStoreOwnRW13e
set_option linter.unusedVariables false
set_option linter.unusedSimpArgs false
namespace Go.Proofs.Ytdoeioljkbjabaa.R
open Go Go.RowKit Go.Proofs.Ytdoeioljkbjabaa
set_option maxRecDepth 100000
set_option maxHeartbeats 8000000
theorem tyAllRW13c : type_of% (And.intro (And.intro (And.intro (And.intro ty_1 ty_2) (And.intro ty_3 ty_4)) (And.intro (And.intro ty_5 ty_6) (And.intro ty_24 ty_30))) (And.intro (And.intro (And.intro ty_34 ty_39) (And.intro ty_40 ty_58)) (And.intro (And.intro ty_59 ty_60) (And.intro ty_61 ty_62)))) := (And.intro (And.intro (And.intro (And.intro ty_1 ty_2) (And.intro ty_3 ty_4)) (And.intro (And.intro ty_5 ty_6) (And.intro ty_24 ty_30))) (And.intro (And.intro (And.intro ty_34 ty_39) (And.intro ty_40 ty_58)) (And.intro (And.intro ty_59 ty_60) (And.intro ty_61 ty_62))))
section
variable {W0 : World}
def stoKs : List CK := .b :: (List.replicate 64 (.i .u8) ++ (List.replicate 64 .b ++ List.replicate 64 (.i .i64)))
def Old (ys : List Int) : Prop := ∀ y ∈ ys, -9223372036854775808 ≤ y ∧ y ≤ 9223372036854775807
theorem sto_fits {ws : List Int} {gs : List Bool} {ys : List Int} (h1 : ws.length = 64) (h2 : gs.length = 64) (h3 : ys.length = 64) (hb : Byte ws) (hy : Old ys) : fitsL stoKs (stoArr ws gs ys).toList = true := by
  unfold stoKs stoArr
  simp only [fitsL, fits_b, Bool.true_and]
  refine fitsL_app (fitsL_rep (by simp [u8_length, h1]) fun v hv => ?_) (fitsL_app (fitsL_rep (by simp [bl_length, h2]) fun v hv => ?_) (fitsL_rep (by simp [i64_length, h3]) fun v hv => ?_))
  · simp only [u8, List.mem_map] at hv; obtain ⟨x, hx, rfl⟩ := hv; exact fits_u8 (by have := hb x hx; omega)
  · simp only [bl, List.mem_map] at hv; obtain ⟨x, hx, rfl⟩ := hv; rfl
  · simp only [i64, List.mem_map] at hv; obtain ⟨x, hx, rfl⟩ := hv; exact fits_i64 (hy x hx)
theorem u8_inj {a b : List Int} (h : u8 a = u8 b) : a = b := by
  have : Function.Injective (Value.int .u8) := fun x y h => by simpa using h
  exact (List.map_inj_right this).1 h
theorem i64_inj {a b : List Int} (h : i64 a = i64 b) : a = b := by
  have : Function.Injective (Value.int .i64) := fun x y h => by simpa using h
  exact (List.map_inj_right this).1 h
theorem bl_inj {a b : List Bool} (h : bl a = bl b) : a = b := by
  have : Function.Injective Value.bool := fun x y h => by simpa using h
  exact (List.map_inj_right this).1 h
theorem stoArr_inj {ws ws' : List Int} {gs gs' : List Bool} {ys ys' : List Int} (h1 : ws.length = 64) (h2 : gs.length = 64) (h1' : ws'.length = 64) (h2' : gs'.length = 64) :
    stoArr ws gs ys = stoArr ws' gs' ys' ↔ ws = ws' ∧ gs = gs' ∧ ys = ys' := by
  constructor
  · intro h
    unfold stoArr at h
    have h := congrArg Array.toList h
    simp only [List.cons.injEq, true_and] at h
    obtain ⟨e1, e2⟩ := List.append_inj h (by simp [u8_length, h1, h1'])
    obtain ⟨e3, e4⟩ := List.append_inj e2 (by simp [bl_length, h2, h2'])
    exact ⟨u8_inj e1, bl_inj e3, i64_inj e4⟩
  · rintro ⟨rfl, rfl, rfl⟩; rfl
theorem store_Same {m : Mem} {K : Value → Mem → Prop} {b c : Nat} {ws ws' : List Int} {gs gs' : List Bool} {ys ys' : List Int} (s : Sto W0 m b ws gs ys) (o : Sto W0 m c ws' gs' ys') (r1 : Old ys) (r2 : Old ys')
    (h : ∀ r : Bool, (r = true ↔ ws = ws' ∧ gs = gs' ∧ ys = ys') → K (.bool r) m) : CallA Try.prog W0 30 #[.pointer (some ⟨b, 0, none⟩), .pointer (some ⟨c, 0, none⟩)] m K := by
  refine en_30 (l := [.pointer (some ⟨b, 0, none⟩), .pointer (some ⟨c, 0, none⟩)]) (by simp [Try.ntmps30]) ?_
  have hs := stoArr_size (ws := ws) s.wl s.gl s.al
  have ho := stoArr_size (ws := ws') o.wl o.gl o.al
  simp (maxSteps := 2000000) only [Try.f30, Option.getD_some, vcCore, yieldT, Int.reduceEq, Int.reduceLT, Int.reduceLE, Int.reduceNe, not_true_eq_false, decide_true, decide_false, add_lit', Nat.zero_add, Nat.mul_one, Int.toNat_natCast, List.getElem?_toArray, List.getElem?_cons_zero, List.getElem?_cons_succ, Option.bind_some, List.map_cons, List.map_nil, List.map_toArray, Array.append_empty, Array.empty_append, List.append_nil, List.nil_append, List.append_toArray, ↓reduceIte, Nat.reduceEqDiff, Nat.reduceAdd, Nat.reduceLeDiff, List.contains_cons, List.contains_nil, Nat.reduceBEq, Bool.or_false, Bool.false_or, Bool.or_true, Bool.true_or, Bool.false_eq_true, Value.cells, List.size_toArray, List.length_cons, List.length_nil, Option.map_some, Option.map_none, Option.isSome_some, Option.isSome_none, Option.isNone_some, Option.isNone_none, true_and, and_true, ne_eq, reduceCtorEq, not_false_eq_true, Bool.not_true, Bool.not_false, tyAllRW13c, then_normal]
  refine store_none s ?_
  simp (maxSteps := 2000000) only [vcCore, yieldT, Int.reduceEq, Int.reduceLT, Int.reduceLE, Int.reduceNe, not_true_eq_false, decide_true, decide_false, add_lit', Nat.zero_add, Nat.mul_one, Int.toNat_natCast, List.getElem?_toArray, List.getElem?_cons_zero, List.getElem?_cons_succ, Option.bind_some, List.map_cons, List.map_nil, List.map_toArray, Array.append_empty, Array.empty_append, List.append_nil, List.nil_append, List.append_toArray, ↓reduceIte, Nat.reduceEqDiff, Nat.reduceAdd, Nat.reduceLeDiff, List.contains_cons, List.contains_nil, Nat.reduceBEq, Bool.or_false, Bool.false_or, Bool.or_true, Bool.true_or, Bool.false_eq_true, Value.cells, List.size_toArray, List.length_cons, List.length_nil, Option.map_some, Option.map_none, Option.isSome_some, Option.isSome_none, Option.isNone_some, Option.isNone_none, true_and, and_true, ne_eq, reduceCtorEq, not_false_eq_true, Bool.not_true, Bool.not_false, tyAllRW13c, then_normal, Int.cast_ofNat_Int, BEq.rfl, bne_self_eq_false, beq_self_eq_true, Bool.and_true, Bool.true_and, Bool.and_false, Bool.false_and, Int.reduceBEq, Int.reduceBNe, Nat.reduceMul, Nat.reduceDiv, Int.reduceToNat, Int.reduceNeg, Int.reduceAdd, Int.reduceSub, Int.reduceMul]
  refine store_none o ?_
  simp (maxSteps := 2000000) only [vcCore, yieldT, Int.reduceEq, Int.reduceLT, Int.reduceLE, Int.reduceNe, not_true_eq_false, decide_true, decide_false, add_lit', Nat.zero_add, Nat.mul_one, Int.toNat_natCast, List.getElem?_toArray, List.getElem?_cons_zero, List.getElem?_cons_succ, Option.bind_some, List.map_cons, List.map_nil, List.map_toArray, Array.append_empty, Array.empty_append, List.append_nil, List.nil_append, List.append_toArray, ↓reduceIte, Nat.reduceEqDiff, Nat.reduceAdd, Nat.reduceLeDiff, List.contains_cons, List.contains_nil, Nat.reduceBEq, Bool.or_false, Bool.false_or, Bool.or_true, Bool.true_or, Bool.false_eq_true, Value.cells, List.size_toArray, List.length_cons, List.length_nil, Option.map_some, Option.map_none, Option.isSome_some, Option.isSome_none, Option.isNone_some, Option.isNone_none, true_and, and_true, ne_eq, reduceCtorEq, not_false_eq_true, Bool.not_true, Bool.not_false, tyAllRW13c, then_normal, Int.cast_ofNat_Int, BEq.rfl, bne_self_eq_false, beq_self_eq_true, Bool.and_true, Bool.true_and, Bool.and_false, Bool.false_and, Int.reduceBEq, Int.reduceBNe, Nat.reduceMul, Nat.reduceDiv, Int.reduceToNat, Int.reduceNeg, Int.reduceAdd, Int.reduceSub, Int.reduceMul]
  (first | ((with_reducible refine CodeA.sz 8 ?_ ?_); (focus rfl); refine draw_any [0, 1, 2, 3, 4, 5, 6, 7] 100 [] mixed (by kernel_rfl) (by kernel_rfl) ?_))
  simp (maxSteps := 2000000) only [vcCore, yieldT, Int.reduceEq, Int.reduceLT, Int.reduceLE, Int.reduceNe, not_true_eq_false, decide_true, decide_false, add_lit', Nat.zero_add, Nat.mul_one, Int.toNat_natCast, List.getElem?_toArray, List.getElem?_cons_zero, List.getElem?_cons_succ, Option.bind_some, List.map_cons, List.map_nil, List.map_toArray, Array.append_empty, Array.empty_append, List.append_nil, List.nil_append, List.append_toArray, ↓reduceIte, Nat.reduceEqDiff, Nat.reduceAdd, Nat.reduceLeDiff, List.contains_cons, List.contains_nil, Nat.reduceBEq, Bool.or_false, Bool.false_or, Bool.or_true, Bool.true_or, Bool.false_eq_true, Value.cells, List.size_toArray, List.length_cons, List.length_nil, Option.map_some, Option.map_none, Option.isSome_some, Option.isSome_none, Option.isNone_some, Option.isNone_none, true_and, and_true, ne_eq, reduceCtorEq, not_false_eq_true, Bool.not_true, Bool.not_false, tyAllRW13c, then_normal, Int.cast_ofNat_Int, BEq.rfl, bne_self_eq_false, beq_self_eq_true, Bool.and_true, Bool.true_and, Bool.and_false, Bool.false_and, Int.reduceBEq, Int.reduceBNe, Nat.reduceMul, Nat.reduceDiv, Int.reduceToNat, Int.reduceNeg, Int.reduceAdd, Int.reduceSub, Int.reduceMul, cellsA_block (n := 193) s.low s.blk hs, cellsA_block (n := 193) o.low o.blk ho]
  refine agg_eql (ks := stoKs) (by kernel_rfl) (sto_fits s.wl s.gl s.al s.byte r1) (sto_fits o.wl o.gl o.al o.byte r2) fun r hr => ?_
  simp (maxSteps := 2000000) only [vcCore, yieldT, Int.reduceEq, Int.reduceLT, Int.reduceLE, Int.reduceNe, not_true_eq_false, decide_true, decide_false, add_lit', Nat.zero_add, Nat.mul_one, Int.toNat_natCast, List.getElem?_toArray, List.getElem?_cons_zero, List.getElem?_cons_succ, Option.bind_some, List.map_cons, List.map_nil, List.map_toArray, Array.append_empty, Array.empty_append, List.append_nil, List.nil_append, List.append_toArray, ↓reduceIte, Nat.reduceEqDiff, Nat.reduceAdd, Nat.reduceLeDiff, List.contains_cons, List.contains_nil, Nat.reduceBEq, Bool.or_false, Bool.false_or, Bool.or_true, Bool.true_or, Bool.false_eq_true, Value.cells, List.size_toArray, List.length_cons, List.length_nil, Option.map_some, Option.map_none, Option.isSome_some, Option.isSome_none, Option.isNone_some, Option.isNone_none, true_and, and_true, ne_eq, reduceCtorEq, not_false_eq_true, Bool.not_true, Bool.not_false, tyAllRW13c, then_normal, Int.cast_ofNat_Int, BEq.rfl, bne_self_eq_false, beq_self_eq_true, Bool.and_true, Bool.true_and, Bool.and_false, Bool.false_and, Int.reduceBEq, Int.reduceBNe, Nat.reduceMul, Nat.reduceDiv, Int.reduceToNat, Int.reduceNeg, Int.reduceAdd, Int.reduceSub, Int.reduceMul]
  exact h r (hr.trans (stoArr_inj s.wl s.gl o.wl o.gl))
theorem old_zero : Old (List.replicate 64 0) := fun y hy => by simp at hy; omega
theorem old_over {ys : List Int} {o : Nat} {w : List Int} (h : Old ys) (hw : Old w) : Old (over ys o w) := fun x hx => by
  unfold over at hx
  rcases List.mem_append.1 hx with hx | hx
  · rcases List.mem_append.1 hx with hx | hx
    · exact h x (List.mem_of_mem_take hx)
    · exact hw x hx
  · exact h x (List.mem_of_mem_drop hx)
theorem old_rep (n : Nat) : Old (List.replicate n 0) := fun y hy => by simp at hy; omega
/-- A list, place by place. -/
theorem over_get {α : Type} {l w : List α} {o : Nat} (h : o + w.length ≤ l.length) (j : Nat) : (over l o w)[j]? = if o ≤ j ∧ j < o + w.length then w[j - o]? else l[j]? := by
  have hm : min o l.length = o := by omega
  unfold over
  by_cases h1 : j < o
  · rw [if_neg (by omega), List.append_assoc, List.getElem?_append_left (by simp; omega), List.getElem?_take, if_pos h1]
  · by_cases h2 : j < o + w.length
    · rw [if_pos ⟨by omega, h2⟩, List.append_assoc, List.getElem?_append_right (by simp; omega), List.length_take, hm, List.getElem?_append_left (by omega)]
    · rw [if_neg (by omega), List.getElem?_append_right (by simp; omega), List.getElem?_drop]
      congr 1; simp; omega
end
end Go.Proofs.Ytdoeioljkbjabaa.R
