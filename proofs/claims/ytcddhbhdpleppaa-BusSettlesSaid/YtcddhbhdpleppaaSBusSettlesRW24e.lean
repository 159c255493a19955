/- The reference of layer 03: a line of lines (High). No conditions. -/
import Derived.Test.YtcddhbhdpleppaaSBusSettlesRW18
import Derived.Test.YtcddhbhdpleppaaRAuto
import Derived.Test.YtcddhbhdpleppaaSBusSettlesRW24d
set_option linter.unusedVariables false
set_option linter.unusedSimpArgs false
namespace Go.Proofs.Ytcddhbhdpleppaa.R
open Go Go.RowKit Go.Proofs.Ytcddhbhdpleppaa
set_option maxRecDepth 100000
set_option maxHeartbeats 8000000
theorem tyAllRW03h : type_of% (And.intro ty_3 (And.intro ty_4 ty_54)) := (And.intro ty_3 (And.intro ty_4 ty_54))
section
variable {W0 : World}
theorem ref03_Hi {m : Mem} {l n : Int} (hl : 0 ≤ l ∧ l < 256) : Ret Try.prog W0 21 #[.int .i64 l, .int .i64 n] m (.bool (hiL l n)) := by
  have key : ∀ k : Nat, ((l.fdiv (2 ^ k)).tmod 2 == 1) = ((l / 2 ^ k) % 2 == 1) := fun k => by
    rw [fdiv_pos (Int.pow_nonneg (by decide)), tmod_pos (Int.ediv_nonneg hl.1 (Int.pow_nonneg (by decide)))]
  cases hn : isL n
  · have e : hiL l n = false := by unfold hiL; rw [hn]; rfl
    rw [e]
    have hh : ¬ (0 ≤ n ∧ n ≤ 3) := by unfold isL at hn; simp at hn; omega
    replace hh : Hid _ := hh
    clear hn
    refine ⟨fun K h => ?_⟩
    refine en_21 (l := [.int .i64 l, .int .i64 n]) (by simp [Try.ntmps21]) ?_
    have X : Ext m m := Ext.refl m
    simp (maxSteps := 2000000) only [Try.f21, Option.getD_some, vcCore, yieldT, Int.reduceEq, Int.reduceLT, Int.reduceLE, Int.reduceNe, not_true_eq_false, decide_true, decide_false, add_lit', Nat.zero_add, Nat.mul_one, Int.toNat_natCast, List.getElem?_toArray, List.getElem?_cons_zero, List.getElem?_cons_succ, Option.bind_some, List.map_cons, List.map_nil, List.map_toArray, Array.append_empty, Array.empty_append, List.append_nil, List.nil_append, List.append_toArray, ↓reduceIte, Nat.reduceEqDiff, Nat.reduceAdd, Nat.reduceLeDiff, List.contains_cons, List.contains_nil, Nat.reduceBEq, Bool.or_false, Bool.false_or, Bool.or_true, Bool.true_or, Bool.false_eq_true, Value.cells, List.size_toArray, List.length_cons, List.length_nil, Option.map_some, Option.map_none, Option.isSome_some, Option.isSome_none, Option.isNone_some, Option.isNone_none, true_and, and_true, ne_eq, reduceCtorEq, not_false_eq_true, Bool.not_true, Bool.not_false, tyAllRW03h, then_normal, Int.cast_ofNat_Int, BEq.rfl, bne_self_eq_false, beq_self_eq_true, Bool.and_true, Bool.true_and, Bool.and_false, Bool.false_and, Int.reduceBEq, Int.reduceBNe, Nat.reduceMul, Nat.reduceDiv, Int.reduceToNat, Int.reduceNeg, Int.reduceAdd, Int.reduceSub, Int.reduceMul, ext_lit, Nat.reduceSub, Nat.add_zero, mp2_app, resK_cc, implies_true, imp_self, bb_ft, bb_tf, bb_t, bb_f, bn_t, bn_f, Nat.reduceLT, Mem.set_app, Mem.set_set, Ext_mp1, Ext_two, st_agg, ones_nil, ones_cons, oc_int, oc_bool, oc_str, oc_ptr, oc_sl, oc_map, max_if, min_if, bld_nil, bld_cons, bldStep_some, wr_def, List.take_succ_cons, List.take_zero, List.drop_succ_cons, List.drop_zero, List.cons_append, List.toList_toArray]
    repeat' (first | simp (maxSteps := 2000000) only [vcCore, yieldT, Int.reduceEq, Int.reduceLT, Int.reduceLE, Int.reduceNe, not_true_eq_false, decide_true, decide_false, add_lit', Nat.zero_add, Nat.mul_one, Int.toNat_natCast, List.getElem?_toArray, List.getElem?_cons_zero, List.getElem?_cons_succ, Option.bind_some, List.map_cons, List.map_nil, List.map_toArray, Array.append_empty, Array.empty_append, List.append_nil, List.nil_append, List.append_toArray, ↓reduceIte, Nat.reduceEqDiff, Nat.reduceAdd, Nat.reduceLeDiff, List.contains_cons, List.contains_nil, Nat.reduceBEq, Bool.or_false, Bool.false_or, Bool.or_true, Bool.true_or, Bool.false_eq_true, Value.cells, List.size_toArray, List.length_cons, List.length_nil, Option.map_some, Option.map_none, Option.isSome_some, Option.isSome_none, Option.isNone_some, Option.isNone_none, true_and, and_true, ne_eq, reduceCtorEq, not_false_eq_true, Bool.not_true, Bool.not_false, tyAllRW03h, then_normal, Int.cast_ofNat_Int, BEq.rfl, bne_self_eq_false, beq_self_eq_true, Bool.and_true, Bool.true_and, Bool.and_false, Bool.false_and, Int.reduceBEq, Int.reduceBNe, Nat.reduceMul, Nat.reduceDiv, Int.reduceToNat, Int.reduceNeg, Int.reduceAdd, Int.reduceSub, Int.reduceMul, ext_lit, Nat.reduceSub, Nat.add_zero, mp2_app, resK_cc, implies_true, imp_self, bb_ft, bb_tf, bb_t, bb_f, bn_t, bn_f, Nat.reduceLT, Mem.set_app, Mem.set_set, Ext_mp1, Ext_two, st_agg, ones_nil, ones_cons, oc_int, oc_bool, oc_str, oc_ptr, oc_sl, oc_map, max_if, min_if, bld_nil, bld_cons, bldStep_some, wr_def, List.take_succ_cons, List.take_zero, List.drop_succ_cons, List.drop_zero, List.cons_append, List.toList_toArray, *] | ((first | ((with_reducible refine newK_init ?_ ?_ ?_ ?_); (focus (intro b; simp only [ev_tmp, ev_const, upd_app, reduceCtorEq, Nat.reduceEqDiff, Nat.reduceAdd, ↓reduceIte, Value.cells, List.size_toArray, List.length_cons, List.length_nil, st_int, st_bool, st_string, st_pointer, st_slice, st_map, st_agg, ones_nil, ones_cons, oc_int, oc_bool, oc_str, oc_ptr, oc_sl, oc_map, Bool.and_true, tyAllRW03h, Option.map_some]; done)); (focus (simp only [ev_tmp, ev_const, upd_app, reduceCtorEq, Nat.reduceEqDiff, Nat.reduceAdd, ↓reduceIte, Value.cells, List.size_toArray, List.length_cons, List.length_nil, st_int, st_bool, st_string, st_pointer, st_slice, st_map, st_agg, ones_nil, ones_cons, oc_int, oc_bool, oc_str, oc_ptr, oc_sl, oc_map, Bool.and_true, tyAllRW03h, Option.map_some]; done)); (focus (intro b; simp only [ev_tmp, ev_const, upd_app, reduceCtorEq, Nat.reduceEqDiff, Nat.reduceAdd, ↓reduceIte, Value.cells, List.size_toArray, List.length_cons, List.length_nil, st_int, st_bool, st_string, st_pointer, st_slice, st_map, st_agg, ones_nil, ones_cons, oc_int, oc_bool, oc_str, oc_ptr, oc_sl, oc_map, Bool.and_true, tyAllRW03h, Option.map_some]; done))) | ((with_reducible refine newK.id ?_); refine newK_intro ?_) | ((with_reducible refine RunA.id ?_); (first | with_reducible refine rbuild1 sl_0 ze_0 ?_ ?_ ?_); (focus (simp only [Value.cells, List.size_toArray, List.length_cons, List.length_nil]; done)); (focus decide)) | ((first | with_reducible refine bG1 sl_0 ze_0 ?_ ?_ ?_); (focus (simp only [Value.cells, List.size_toArray, List.length_cons, List.length_nil]; done)); (focus decide)) | ((with_reducible refine RunA.id ?_); (first | with_reducible refine rbuild2 sl_0 ze_0 rfl rfl ?_)) | (first | with_reducible refine bG2 sl_0 ze_0 rfl rfl ?_)); (first | (have := o1; intro b2 m1 hb2 n2 e1 o2; (try (have d21 := ne_of o1 n2; have d12 := d21.symm)); replace n2 := none_of X n2; (try simp only [ev_tmp, ev_const, upd_app, reduceCtorEq, Nat.reduceEqDiff, Nat.reduceAdd, ↓reduceIte, Value.cells, List.size_toArray, List.length_cons, List.length_nil, st_int, st_bool, st_string, st_pointer, st_slice, st_map, st_agg, ones_nil, ones_cons, oc_int, oc_bool, oc_str, oc_ptr, oc_sl, oc_map, Bool.and_true, tyAllRW03h, Option.map_some] at o2)) | (intro b1 m1 hb1 n1 e1 o1; replace n1 := none_of X n1; (try simp only [ev_tmp, ev_const, upd_app, reduceCtorEq, Nat.reduceEqDiff, Nat.reduceAdd, ↓reduceIte, Value.cells, List.size_toArray, List.length_cons, List.length_nil, st_int, st_bool, st_string, st_pointer, st_slice, st_map, st_agg, ones_nil, ones_cons, oc_int, oc_bool, oc_str, oc_ptr, oc_sl, oc_map, Bool.and_true, tyAllRW03h, Option.map_some] at o1))); (try replace X := X.trans e1); (try replace P3 := P3.ext e1); (try (replace o1 := e1 _ _ o1; replace c1 := blk_facts hb1 o1)); (try (replace o2 := e1 _ _ o2; replace c2 := blk_facts hb2 o2)); (try have c1 := blk_facts hb1 o1); (try have c2 := blk_facts hb2 o2)) | ((with_reducible refine CodeA.id ?_); (first | fail)) | ((with_reducible refine And.intro ?_ ?_); (focus omega)) | with_reducible refine cK_both _ _ _ _ _ _ (fun hc => ?_) (fun hc => ?_) | ((with_reducible refine gO_both _ _ (fun hc => ?_) (fun hc => ?_)) <;> (try simp only [Bool.not_true, Bool.not_false] at hc)) | ((with_reducible refine gH_both _ _ (fun hc => ?_) (fun hc => ?_)) <;> (try simp only [Bool.not_true, Bool.not_false] at hc)) | with_reducible refine pickK_both _ (fun hc => ?_) (fun hc => ?_))
    all_goals first
      | exact h _ X
      | (exfalso; have h2 : ¬ (0 ≤ n ∧ n ≤ 3) := hh; simp only [decide_eq_true_eq, decide_eq_false_iff_not] at *; omega)
  · have k0 := key 0
    have k1 := key 1
    have k2 := key 2
    have k3 := key 3
    have u0 : IntKind.u64.wrap 0 = 0 := rfl
    have u1 : IntKind.u64.wrap 1 = 1 := rfl
    have u2 : IntKind.u64.wrap 2 = 2 := rfl
    have u3 : IntKind.u64.wrap 3 = 3 := rfl
    have m0 : min 0 IntKind.i64.bits = 0 := rfl
    have m1 : min 1 IntKind.i64.bits = 1 := rfl
    have m2 : min 2 IntKind.i64.bits = 2 := rfl
    have m3 : min 3 IntKind.i64.bits = 3 := rfl
    rcases isL_cases hn with rfl | rfl | rfl | rfl
    · rw [show hiL l 0 = ((l / 2 ^ 0) % 2 == 1) from by unfold hiL; rw [hn]; simp]
      clear key
      refine ⟨fun K h => ?_⟩
      refine en_21 (l := [.int .i64 l, .int .i64 0]) (by simp [Try.ntmps21]) ?_
      have X : Ext m m := Ext.refl m
      simp (maxSteps := 2000000) only [Try.f21, Option.getD_some, vcCore, yieldT, Int.reduceEq, Int.reduceLT, Int.reduceLE, Int.reduceNe, not_true_eq_false, decide_true, decide_false, add_lit', Nat.zero_add, Nat.mul_one, Int.toNat_natCast, List.getElem?_toArray, List.getElem?_cons_zero, List.getElem?_cons_succ, Option.bind_some, List.map_cons, List.map_nil, List.map_toArray, Array.append_empty, Array.empty_append, List.append_nil, List.nil_append, List.append_toArray, ↓reduceIte, Nat.reduceEqDiff, Nat.reduceAdd, Nat.reduceLeDiff, List.contains_cons, List.contains_nil, Nat.reduceBEq, Bool.or_false, Bool.false_or, Bool.or_true, Bool.true_or, Bool.false_eq_true, Value.cells, List.size_toArray, List.length_cons, List.length_nil, Option.map_some, Option.map_none, Option.isSome_some, Option.isSome_none, Option.isNone_some, Option.isNone_none, true_and, and_true, ne_eq, reduceCtorEq, not_false_eq_true, Bool.not_true, Bool.not_false, tyAllRW03h, then_normal, Int.cast_ofNat_Int, BEq.rfl, bne_self_eq_false, beq_self_eq_true, Bool.and_true, Bool.true_and, Bool.and_false, Bool.false_and, Int.reduceBEq, Int.reduceBNe, Nat.reduceMul, Nat.reduceDiv, Int.reduceToNat, Int.reduceNeg, Int.reduceAdd, Int.reduceSub, Int.reduceMul, ext_lit, Nat.reduceSub, Nat.add_zero, mp2_app, resK_cc, implies_true, imp_self, bb_ft, bb_tf, bb_t, bb_f, bn_t, bn_f, Nat.reduceLT, Mem.set_app, Mem.set_set, Ext_mp1, Ext_two, st_agg, ones_nil, ones_cons, oc_int, oc_bool, oc_str, oc_ptr, oc_sl, oc_map, max_if, min_if, bld_nil, bld_cons, bldStep_some, wr_def, List.take_succ_cons, List.take_zero, List.drop_succ_cons, List.drop_zero, List.cons_append, List.toList_toArray]
      repeat' (first | simp (maxSteps := 2000000) only [vcCore, yieldT, Int.reduceEq, Int.reduceLT, Int.reduceLE, Int.reduceNe, not_true_eq_false, decide_true, decide_false, add_lit', Nat.zero_add, Nat.mul_one, Int.toNat_natCast, List.getElem?_toArray, List.getElem?_cons_zero, List.getElem?_cons_succ, Option.bind_some, List.map_cons, List.map_nil, List.map_toArray, Array.append_empty, Array.empty_append, List.append_nil, List.nil_append, List.append_toArray, ↓reduceIte, Nat.reduceEqDiff, Nat.reduceAdd, Nat.reduceLeDiff, List.contains_cons, List.contains_nil, Nat.reduceBEq, Bool.or_false, Bool.false_or, Bool.or_true, Bool.true_or, Bool.false_eq_true, Value.cells, List.size_toArray, List.length_cons, List.length_nil, Option.map_some, Option.map_none, Option.isSome_some, Option.isSome_none, Option.isNone_some, Option.isNone_none, true_and, and_true, ne_eq, reduceCtorEq, not_false_eq_true, Bool.not_true, Bool.not_false, tyAllRW03h, then_normal, Int.cast_ofNat_Int, BEq.rfl, bne_self_eq_false, beq_self_eq_true, Bool.and_true, Bool.true_and, Bool.and_false, Bool.false_and, Int.reduceBEq, Int.reduceBNe, Nat.reduceMul, Nat.reduceDiv, Int.reduceToNat, Int.reduceNeg, Int.reduceAdd, Int.reduceSub, Int.reduceMul, ext_lit, Nat.reduceSub, Nat.add_zero, mp2_app, resK_cc, implies_true, imp_self, bb_ft, bb_tf, bb_t, bb_f, bn_t, bn_f, Nat.reduceLT, Mem.set_app, Mem.set_set, Ext_mp1, Ext_two, st_agg, ones_nil, ones_cons, oc_int, oc_bool, oc_str, oc_ptr, oc_sl, oc_map, max_if, min_if, bld_nil, bld_cons, bldStep_some, wr_def, List.take_succ_cons, List.take_zero, List.drop_succ_cons, List.drop_zero, List.cons_append, List.toList_toArray, *, m0, Int.toNat_zero] | ((first | ((with_reducible refine newK_init ?_ ?_ ?_ ?_); (focus (intro b; simp only [ev_tmp, ev_const, upd_app, reduceCtorEq, Nat.reduceEqDiff, Nat.reduceAdd, ↓reduceIte, Value.cells, List.size_toArray, List.length_cons, List.length_nil, st_int, st_bool, st_string, st_pointer, st_slice, st_map, st_agg, ones_nil, ones_cons, oc_int, oc_bool, oc_str, oc_ptr, oc_sl, oc_map, Bool.and_true, tyAllRW03h, Option.map_some]; done)); (focus (simp only [ev_tmp, ev_const, upd_app, reduceCtorEq, Nat.reduceEqDiff, Nat.reduceAdd, ↓reduceIte, Value.cells, List.size_toArray, List.length_cons, List.length_nil, st_int, st_bool, st_string, st_pointer, st_slice, st_map, st_agg, ones_nil, ones_cons, oc_int, oc_bool, oc_str, oc_ptr, oc_sl, oc_map, Bool.and_true, tyAllRW03h, Option.map_some]; done)); (focus (intro b; simp only [ev_tmp, ev_const, upd_app, reduceCtorEq, Nat.reduceEqDiff, Nat.reduceAdd, ↓reduceIte, Value.cells, List.size_toArray, List.length_cons, List.length_nil, st_int, st_bool, st_string, st_pointer, st_slice, st_map, st_agg, ones_nil, ones_cons, oc_int, oc_bool, oc_str, oc_ptr, oc_sl, oc_map, Bool.and_true, tyAllRW03h, Option.map_some]; done))) | ((with_reducible refine newK.id ?_); refine newK_intro ?_) | ((with_reducible refine RunA.id ?_); (first | with_reducible refine rbuild1 sl_0 ze_0 ?_ ?_ ?_); (focus (simp only [Value.cells, List.size_toArray, List.length_cons, List.length_nil]; done)); (focus decide)) | ((first | with_reducible refine bG1 sl_0 ze_0 ?_ ?_ ?_); (focus (simp only [Value.cells, List.size_toArray, List.length_cons, List.length_nil]; done)); (focus decide)) | ((with_reducible refine RunA.id ?_); (first | with_reducible refine rbuild2 sl_0 ze_0 rfl rfl ?_)) | (first | with_reducible refine bG2 sl_0 ze_0 rfl rfl ?_)); (first | (have := o1; intro b2 m1 hb2 n2 e1 o2; (try (have d21 := ne_of o1 n2; have d12 := d21.symm)); replace n2 := none_of X n2; (try simp only [ev_tmp, ev_const, upd_app, reduceCtorEq, Nat.reduceEqDiff, Nat.reduceAdd, ↓reduceIte, Value.cells, List.size_toArray, List.length_cons, List.length_nil, st_int, st_bool, st_string, st_pointer, st_slice, st_map, st_agg, ones_nil, ones_cons, oc_int, oc_bool, oc_str, oc_ptr, oc_sl, oc_map, Bool.and_true, tyAllRW03h, Option.map_some] at o2)) | (intro b1 m1 hb1 n1 e1 o1; replace n1 := none_of X n1; (try simp only [ev_tmp, ev_const, upd_app, reduceCtorEq, Nat.reduceEqDiff, Nat.reduceAdd, ↓reduceIte, Value.cells, List.size_toArray, List.length_cons, List.length_nil, st_int, st_bool, st_string, st_pointer, st_slice, st_map, st_agg, ones_nil, ones_cons, oc_int, oc_bool, oc_str, oc_ptr, oc_sl, oc_map, Bool.and_true, tyAllRW03h, Option.map_some] at o1))); (try replace X := X.trans e1); (try replace P3 := P3.ext e1); (try (replace o1 := e1 _ _ o1; replace c1 := blk_facts hb1 o1)); (try (replace o2 := e1 _ _ o2; replace c2 := blk_facts hb2 o2)); (try have c1 := blk_facts hb1 o1); (try have c2 := blk_facts hb2 o2)) | ((with_reducible refine CodeA.id ?_); (first | fail)) | ((with_reducible refine And.intro ?_ ?_); (focus omega)) | with_reducible refine cK_both _ _ _ _ _ _ (fun hc => ?_) (fun hc => ?_) | ((with_reducible refine gO_both _ _ (fun hc => ?_) (fun hc => ?_)) <;> (try simp only [Bool.not_true, Bool.not_false] at hc)) | ((with_reducible refine gH_both _ _ (fun hc => ?_) (fun hc => ?_)) <;> (try simp only [Bool.not_true, Bool.not_false] at hc)) | with_reducible refine pickK_both _ (fun hc => ?_) (fun hc => ?_))
    · rw [show hiL l 1 = ((l / 2 ^ 1) % 2 == 1) from by unfold hiL; rw [hn]; simp]
      clear key
      refine ⟨fun K h => ?_⟩
      refine en_21 (l := [.int .i64 l, .int .i64 1]) (by simp [Try.ntmps21]) ?_
      have X : Ext m m := Ext.refl m
      simp (maxSteps := 2000000) only [Try.f21, Option.getD_some, vcCore, yieldT, Int.reduceEq, Int.reduceLT, Int.reduceLE, Int.reduceNe, not_true_eq_false, decide_true, decide_false, add_lit', Nat.zero_add, Nat.mul_one, Int.toNat_natCast, List.getElem?_toArray, List.getElem?_cons_zero, List.getElem?_cons_succ, Option.bind_some, List.map_cons, List.map_nil, List.map_toArray, Array.append_empty, Array.empty_append, List.append_nil, List.nil_append, List.append_toArray, ↓reduceIte, Nat.reduceEqDiff, Nat.reduceAdd, Nat.reduceLeDiff, List.contains_cons, List.contains_nil, Nat.reduceBEq, Bool.or_false, Bool.false_or, Bool.or_true, Bool.true_or, Bool.false_eq_true, Value.cells, List.size_toArray, List.length_cons, List.length_nil, Option.map_some, Option.map_none, Option.isSome_some, Option.isSome_none, Option.isNone_some, Option.isNone_none, true_and, and_true, ne_eq, reduceCtorEq, not_false_eq_true, Bool.not_true, Bool.not_false, tyAllRW03h, then_normal, Int.cast_ofNat_Int, BEq.rfl, bne_self_eq_false, beq_self_eq_true, Bool.and_true, Bool.true_and, Bool.and_false, Bool.false_and, Int.reduceBEq, Int.reduceBNe, Nat.reduceMul, Nat.reduceDiv, Int.reduceToNat, Int.reduceNeg, Int.reduceAdd, Int.reduceSub, Int.reduceMul, ext_lit, Nat.reduceSub, Nat.add_zero, mp2_app, resK_cc, implies_true, imp_self, bb_ft, bb_tf, bb_t, bb_f, bn_t, bn_f, Nat.reduceLT, Mem.set_app, Mem.set_set, Ext_mp1, Ext_two, st_agg, ones_nil, ones_cons, oc_int, oc_bool, oc_str, oc_ptr, oc_sl, oc_map, max_if, min_if, bld_nil, bld_cons, bldStep_some, wr_def, List.take_succ_cons, List.take_zero, List.drop_succ_cons, List.drop_zero, List.cons_append, List.toList_toArray]
      repeat' (first | simp (maxSteps := 2000000) only [vcCore, yieldT, Int.reduceEq, Int.reduceLT, Int.reduceLE, Int.reduceNe, not_true_eq_false, decide_true, decide_false, add_lit', Nat.zero_add, Nat.mul_one, Int.toNat_natCast, List.getElem?_toArray, List.getElem?_cons_zero, List.getElem?_cons_succ, Option.bind_some, List.map_cons, List.map_nil, List.map_toArray, Array.append_empty, Array.empty_append, List.append_nil, List.nil_append, List.append_toArray, ↓reduceIte, Nat.reduceEqDiff, Nat.reduceAdd, Nat.reduceLeDiff, List.contains_cons, List.contains_nil, Nat.reduceBEq, Bool.or_false, Bool.false_or, Bool.or_true, Bool.true_or, Bool.false_eq_true, Value.cells, List.size_toArray, List.length_cons, List.length_nil, Option.map_some, Option.map_none, Option.isSome_some, Option.isSome_none, Option.isNone_some, Option.isNone_none, true_and, and_true, ne_eq, reduceCtorEq, not_false_eq_true, Bool.not_true, Bool.not_false, tyAllRW03h, then_normal, Int.cast_ofNat_Int, BEq.rfl, bne_self_eq_false, beq_self_eq_true, Bool.and_true, Bool.true_and, Bool.and_false, Bool.false_and, Int.reduceBEq, Int.reduceBNe, Nat.reduceMul, Nat.reduceDiv, Int.reduceToNat, Int.reduceNeg, Int.reduceAdd, Int.reduceSub, Int.reduceMul, ext_lit, Nat.reduceSub, Nat.add_zero, mp2_app, resK_cc, implies_true, imp_self, bb_ft, bb_tf, bb_t, bb_f, bn_t, bn_f, Nat.reduceLT, Mem.set_app, Mem.set_set, Ext_mp1, Ext_two, st_agg, ones_nil, ones_cons, oc_int, oc_bool, oc_str, oc_ptr, oc_sl, oc_map, max_if, min_if, bld_nil, bld_cons, bldStep_some, wr_def, List.take_succ_cons, List.take_zero, List.drop_succ_cons, List.drop_zero, List.cons_append, List.toList_toArray, *, m1, Int.toNat_one] | ((first | ((with_reducible refine newK_init ?_ ?_ ?_ ?_); (focus (intro b; simp only [ev_tmp, ev_const, upd_app, reduceCtorEq, Nat.reduceEqDiff, Nat.reduceAdd, ↓reduceIte, Value.cells, List.size_toArray, List.length_cons, List.length_nil, st_int, st_bool, st_string, st_pointer, st_slice, st_map, st_agg, ones_nil, ones_cons, oc_int, oc_bool, oc_str, oc_ptr, oc_sl, oc_map, Bool.and_true, tyAllRW03h, Option.map_some]; done)); (focus (simp only [ev_tmp, ev_const, upd_app, reduceCtorEq, Nat.reduceEqDiff, Nat.reduceAdd, ↓reduceIte, Value.cells, List.size_toArray, List.length_cons, List.length_nil, st_int, st_bool, st_string, st_pointer, st_slice, st_map, st_agg, ones_nil, ones_cons, oc_int, oc_bool, oc_str, oc_ptr, oc_sl, oc_map, Bool.and_true, tyAllRW03h, Option.map_some]; done)); (focus (intro b; simp only [ev_tmp, ev_const, upd_app, reduceCtorEq, Nat.reduceEqDiff, Nat.reduceAdd, ↓reduceIte, Value.cells, List.size_toArray, List.length_cons, List.length_nil, st_int, st_bool, st_string, st_pointer, st_slice, st_map, st_agg, ones_nil, ones_cons, oc_int, oc_bool, oc_str, oc_ptr, oc_sl, oc_map, Bool.and_true, tyAllRW03h, Option.map_some]; done))) | ((with_reducible refine newK.id ?_); refine newK_intro ?_) | ((with_reducible refine RunA.id ?_); (first | with_reducible refine rbuild1 sl_0 ze_0 ?_ ?_ ?_); (focus (simp only [Value.cells, List.size_toArray, List.length_cons, List.length_nil]; done)); (focus decide)) | ((first | with_reducible refine bG1 sl_0 ze_0 ?_ ?_ ?_); (focus (simp only [Value.cells, List.size_toArray, List.length_cons, List.length_nil]; done)); (focus decide)) | ((with_reducible refine RunA.id ?_); (first | with_reducible refine rbuild2 sl_0 ze_0 rfl rfl ?_)) | (first | with_reducible refine bG2 sl_0 ze_0 rfl rfl ?_)); (first | (have := o1; intro b2 m1 hb2 n2 e1 o2; (try (have d21 := ne_of o1 n2; have d12 := d21.symm)); replace n2 := none_of X n2; (try simp only [ev_tmp, ev_const, upd_app, reduceCtorEq, Nat.reduceEqDiff, Nat.reduceAdd, ↓reduceIte, Value.cells, List.size_toArray, List.length_cons, List.length_nil, st_int, st_bool, st_string, st_pointer, st_slice, st_map, st_agg, ones_nil, ones_cons, oc_int, oc_bool, oc_str, oc_ptr, oc_sl, oc_map, Bool.and_true, tyAllRW03h, Option.map_some] at o2)) | (intro b1 m1 hb1 n1 e1 o1; replace n1 := none_of X n1; (try simp only [ev_tmp, ev_const, upd_app, reduceCtorEq, Nat.reduceEqDiff, Nat.reduceAdd, ↓reduceIte, Value.cells, List.size_toArray, List.length_cons, List.length_nil, st_int, st_bool, st_string, st_pointer, st_slice, st_map, st_agg, ones_nil, ones_cons, oc_int, oc_bool, oc_str, oc_ptr, oc_sl, oc_map, Bool.and_true, tyAllRW03h, Option.map_some] at o1))); (try replace X := X.trans e1); (try replace P3 := P3.ext e1); (try (replace o1 := e1 _ _ o1; replace c1 := blk_facts hb1 o1)); (try (replace o2 := e1 _ _ o2; replace c2 := blk_facts hb2 o2)); (try have c1 := blk_facts hb1 o1); (try have c2 := blk_facts hb2 o2)) | ((with_reducible refine CodeA.id ?_); (first | fail)) | ((with_reducible refine And.intro ?_ ?_); (focus omega)) | with_reducible refine cK_both _ _ _ _ _ _ (fun hc => ?_) (fun hc => ?_) | ((with_reducible refine gO_both _ _ (fun hc => ?_) (fun hc => ?_)) <;> (try simp only [Bool.not_true, Bool.not_false] at hc)) | ((with_reducible refine gH_both _ _ (fun hc => ?_) (fun hc => ?_)) <;> (try simp only [Bool.not_true, Bool.not_false] at hc)) | with_reducible refine pickK_both _ (fun hc => ?_) (fun hc => ?_))
    · rw [show hiL l 2 = ((l / 2 ^ 2) % 2 == 1) from by unfold hiL; rw [hn]; simp]
      clear key
      refine ⟨fun K h => ?_⟩
      refine en_21 (l := [.int .i64 l, .int .i64 2]) (by simp [Try.ntmps21]) ?_
      have X : Ext m m := Ext.refl m
      simp (maxSteps := 2000000) only [Try.f21, Option.getD_some, vcCore, yieldT, Int.reduceEq, Int.reduceLT, Int.reduceLE, Int.reduceNe, not_true_eq_false, decide_true, decide_false, add_lit', Nat.zero_add, Nat.mul_one, Int.toNat_natCast, List.getElem?_toArray, List.getElem?_cons_zero, List.getElem?_cons_succ, Option.bind_some, List.map_cons, List.map_nil, List.map_toArray, Array.append_empty, Array.empty_append, List.append_nil, List.nil_append, List.append_toArray, ↓reduceIte, Nat.reduceEqDiff, Nat.reduceAdd, Nat.reduceLeDiff, List.contains_cons, List.contains_nil, Nat.reduceBEq, Bool.or_false, Bool.false_or, Bool.or_true, Bool.true_or, Bool.false_eq_true, Value.cells, List.size_toArray, List.length_cons, List.length_nil, Option.map_some, Option.map_none, Option.isSome_some, Option.isSome_none, Option.isNone_some, Option.isNone_none, true_and, and_true, ne_eq, reduceCtorEq, not_false_eq_true, Bool.not_true, Bool.not_false, tyAllRW03h, then_normal, Int.cast_ofNat_Int, BEq.rfl, bne_self_eq_false, beq_self_eq_true, Bool.and_true, Bool.true_and, Bool.and_false, Bool.false_and, Int.reduceBEq, Int.reduceBNe, Nat.reduceMul, Nat.reduceDiv, Int.reduceToNat, Int.reduceNeg, Int.reduceAdd, Int.reduceSub, Int.reduceMul, ext_lit, Nat.reduceSub, Nat.add_zero, mp2_app, resK_cc, implies_true, imp_self, bb_ft, bb_tf, bb_t, bb_f, bn_t, bn_f, Nat.reduceLT, Mem.set_app, Mem.set_set, Ext_mp1, Ext_two, st_agg, ones_nil, ones_cons, oc_int, oc_bool, oc_str, oc_ptr, oc_sl, oc_map, max_if, min_if, bld_nil, bld_cons, bldStep_some, wr_def, List.take_succ_cons, List.take_zero, List.drop_succ_cons, List.drop_zero, List.cons_append, List.toList_toArray]
      repeat' (first | simp (maxSteps := 2000000) only [vcCore, yieldT, Int.reduceEq, Int.reduceLT, Int.reduceLE, Int.reduceNe, not_true_eq_false, decide_true, decide_false, add_lit', Nat.zero_add, Nat.mul_one, Int.toNat_natCast, List.getElem?_toArray, List.getElem?_cons_zero, List.getElem?_cons_succ, Option.bind_some, List.map_cons, List.map_nil, List.map_toArray, Array.append_empty, Array.empty_append, List.append_nil, List.nil_append, List.append_toArray, ↓reduceIte, Nat.reduceEqDiff, Nat.reduceAdd, Nat.reduceLeDiff, List.contains_cons, List.contains_nil, Nat.reduceBEq, Bool.or_false, Bool.false_or, Bool.or_true, Bool.true_or, Bool.false_eq_true, Value.cells, List.size_toArray, List.length_cons, List.length_nil, Option.map_some, Option.map_none, Option.isSome_some, Option.isSome_none, Option.isNone_some, Option.isNone_none, true_and, and_true, ne_eq, reduceCtorEq, not_false_eq_true, Bool.not_true, Bool.not_false, tyAllRW03h, then_normal, Int.cast_ofNat_Int, BEq.rfl, bne_self_eq_false, beq_self_eq_true, Bool.and_true, Bool.true_and, Bool.and_false, Bool.false_and, Int.reduceBEq, Int.reduceBNe, Nat.reduceMul, Nat.reduceDiv, Int.reduceToNat, Int.reduceNeg, Int.reduceAdd, Int.reduceSub, Int.reduceMul, ext_lit, Nat.reduceSub, Nat.add_zero, mp2_app, resK_cc, implies_true, imp_self, bb_ft, bb_tf, bb_t, bb_f, bn_t, bn_f, Nat.reduceLT, Mem.set_app, Mem.set_set, Ext_mp1, Ext_two, st_agg, ones_nil, ones_cons, oc_int, oc_bool, oc_str, oc_ptr, oc_sl, oc_map, max_if, min_if, bld_nil, bld_cons, bldStep_some, wr_def, List.take_succ_cons, List.take_zero, List.drop_succ_cons, List.drop_zero, List.cons_append, List.toList_toArray, *, m2] | ((first | ((with_reducible refine newK_init ?_ ?_ ?_ ?_); (focus (intro b; simp only [ev_tmp, ev_const, upd_app, reduceCtorEq, Nat.reduceEqDiff, Nat.reduceAdd, ↓reduceIte, Value.cells, List.size_toArray, List.length_cons, List.length_nil, st_int, st_bool, st_string, st_pointer, st_slice, st_map, st_agg, ones_nil, ones_cons, oc_int, oc_bool, oc_str, oc_ptr, oc_sl, oc_map, Bool.and_true, tyAllRW03h, Option.map_some]; done)); (focus (simp only [ev_tmp, ev_const, upd_app, reduceCtorEq, Nat.reduceEqDiff, Nat.reduceAdd, ↓reduceIte, Value.cells, List.size_toArray, List.length_cons, List.length_nil, st_int, st_bool, st_string, st_pointer, st_slice, st_map, st_agg, ones_nil, ones_cons, oc_int, oc_bool, oc_str, oc_ptr, oc_sl, oc_map, Bool.and_true, tyAllRW03h, Option.map_some]; done)); (focus (intro b; simp only [ev_tmp, ev_const, upd_app, reduceCtorEq, Nat.reduceEqDiff, Nat.reduceAdd, ↓reduceIte, Value.cells, List.size_toArray, List.length_cons, List.length_nil, st_int, st_bool, st_string, st_pointer, st_slice, st_map, st_agg, ones_nil, ones_cons, oc_int, oc_bool, oc_str, oc_ptr, oc_sl, oc_map, Bool.and_true, tyAllRW03h, Option.map_some]; done))) | ((with_reducible refine newK.id ?_); refine newK_intro ?_) | ((with_reducible refine RunA.id ?_); (first | with_reducible refine rbuild1 sl_0 ze_0 ?_ ?_ ?_); (focus (simp only [Value.cells, List.size_toArray, List.length_cons, List.length_nil]; done)); (focus decide)) | ((first | with_reducible refine bG1 sl_0 ze_0 ?_ ?_ ?_); (focus (simp only [Value.cells, List.size_toArray, List.length_cons, List.length_nil]; done)); (focus decide)) | ((with_reducible refine RunA.id ?_); (first | with_reducible refine rbuild2 sl_0 ze_0 rfl rfl ?_)) | (first | with_reducible refine bG2 sl_0 ze_0 rfl rfl ?_)); (first | (have := o1; intro b2 m1 hb2 n2 e1 o2; (try (have d21 := ne_of o1 n2; have d12 := d21.symm)); replace n2 := none_of X n2; (try simp only [ev_tmp, ev_const, upd_app, reduceCtorEq, Nat.reduceEqDiff, Nat.reduceAdd, ↓reduceIte, Value.cells, List.size_toArray, List.length_cons, List.length_nil, st_int, st_bool, st_string, st_pointer, st_slice, st_map, st_agg, ones_nil, ones_cons, oc_int, oc_bool, oc_str, oc_ptr, oc_sl, oc_map, Bool.and_true, tyAllRW03h, Option.map_some] at o2)) | (intro b1 m1 hb1 n1 e1 o1; replace n1 := none_of X n1; (try simp only [ev_tmp, ev_const, upd_app, reduceCtorEq, Nat.reduceEqDiff, Nat.reduceAdd, ↓reduceIte, Value.cells, List.size_toArray, List.length_cons, List.length_nil, st_int, st_bool, st_string, st_pointer, st_slice, st_map, st_agg, ones_nil, ones_cons, oc_int, oc_bool, oc_str, oc_ptr, oc_sl, oc_map, Bool.and_true, tyAllRW03h, Option.map_some] at o1))); (try replace X := X.trans e1); (try replace P3 := P3.ext e1); (try (replace o1 := e1 _ _ o1; replace c1 := blk_facts hb1 o1)); (try (replace o2 := e1 _ _ o2; replace c2 := blk_facts hb2 o2)); (try have c1 := blk_facts hb1 o1); (try have c2 := blk_facts hb2 o2)) | ((with_reducible refine CodeA.id ?_); (first | fail)) | ((with_reducible refine And.intro ?_ ?_); (focus omega)) | with_reducible refine cK_both _ _ _ _ _ _ (fun hc => ?_) (fun hc => ?_) | ((with_reducible refine gO_both _ _ (fun hc => ?_) (fun hc => ?_)) <;> (try simp only [Bool.not_true, Bool.not_false] at hc)) | ((with_reducible refine gH_both _ _ (fun hc => ?_) (fun hc => ?_)) <;> (try simp only [Bool.not_true, Bool.not_false] at hc)) | with_reducible refine pickK_both _ (fun hc => ?_) (fun hc => ?_))
    · rw [show hiL l 3 = ((l / 2 ^ 3) % 2 == 1) from by unfold hiL; rw [hn]; simp]
      clear key
      refine ⟨fun K h => ?_⟩
      refine en_21 (l := [.int .i64 l, .int .i64 3]) (by simp [Try.ntmps21]) ?_
      have X : Ext m m := Ext.refl m
      simp (maxSteps := 2000000) only [Try.f21, Option.getD_some, vcCore, yieldT, Int.reduceEq, Int.reduceLT, Int.reduceLE, Int.reduceNe, not_true_eq_false, decide_true, decide_false, add_lit', Nat.zero_add, Nat.mul_one, Int.toNat_natCast, List.getElem?_toArray, List.getElem?_cons_zero, List.getElem?_cons_succ, Option.bind_some, List.map_cons, List.map_nil, List.map_toArray, Array.append_empty, Array.empty_append, List.append_nil, List.nil_append, List.append_toArray, ↓reduceIte, Nat.reduceEqDiff, Nat.reduceAdd, Nat.reduceLeDiff, List.contains_cons, List.contains_nil, Nat.reduceBEq, Bool.or_false, Bool.false_or, Bool.or_true, Bool.true_or, Bool.false_eq_true, Value.cells, List.size_toArray, List.length_cons, List.length_nil, Option.map_some, Option.map_none, Option.isSome_some, Option.isSome_none, Option.isNone_some, Option.isNone_none, true_and, and_true, ne_eq, reduceCtorEq, not_false_eq_true, Bool.not_true, Bool.not_false, tyAllRW03h, then_normal, Int.cast_ofNat_Int, BEq.rfl, bne_self_eq_false, beq_self_eq_true, Bool.and_true, Bool.true_and, Bool.and_false, Bool.false_and, Int.reduceBEq, Int.reduceBNe, Nat.reduceMul, Nat.reduceDiv, Int.reduceToNat, Int.reduceNeg, Int.reduceAdd, Int.reduceSub, Int.reduceMul, ext_lit, Nat.reduceSub, Nat.add_zero, mp2_app, resK_cc, implies_true, imp_self, bb_ft, bb_tf, bb_t, bb_f, bn_t, bn_f, Nat.reduceLT, Mem.set_app, Mem.set_set, Ext_mp1, Ext_two, st_agg, ones_nil, ones_cons, oc_int, oc_bool, oc_str, oc_ptr, oc_sl, oc_map, max_if, min_if, bld_nil, bld_cons, bldStep_some, wr_def, List.take_succ_cons, List.take_zero, List.drop_succ_cons, List.drop_zero, List.cons_append, List.toList_toArray]
      repeat' (first | simp (maxSteps := 2000000) only [vcCore, yieldT, Int.reduceEq, Int.reduceLT, Int.reduceLE, Int.reduceNe, not_true_eq_false, decide_true, decide_false, add_lit', Nat.zero_add, Nat.mul_one, Int.toNat_natCast, List.getElem?_toArray, List.getElem?_cons_zero, List.getElem?_cons_succ, Option.bind_some, List.map_cons, List.map_nil, List.map_toArray, Array.append_empty, Array.empty_append, List.append_nil, List.nil_append, List.append_toArray, ↓reduceIte, Nat.reduceEqDiff, Nat.reduceAdd, Nat.reduceLeDiff, List.contains_cons, List.contains_nil, Nat.reduceBEq, Bool.or_false, Bool.false_or, Bool.or_true, Bool.true_or, Bool.false_eq_true, Value.cells, List.size_toArray, List.length_cons, List.length_nil, Option.map_some, Option.map_none, Option.isSome_some, Option.isSome_none, Option.isNone_some, Option.isNone_none, true_and, and_true, ne_eq, reduceCtorEq, not_false_eq_true, Bool.not_true, Bool.not_false, tyAllRW03h, then_normal, Int.cast_ofNat_Int, BEq.rfl, bne_self_eq_false, beq_self_eq_true, Bool.and_true, Bool.true_and, Bool.and_false, Bool.false_and, Int.reduceBEq, Int.reduceBNe, Nat.reduceMul, Nat.reduceDiv, Int.reduceToNat, Int.reduceNeg, Int.reduceAdd, Int.reduceSub, Int.reduceMul, ext_lit, Nat.reduceSub, Nat.add_zero, mp2_app, resK_cc, implies_true, imp_self, bb_ft, bb_tf, bb_t, bb_f, bn_t, bn_f, Nat.reduceLT, Mem.set_app, Mem.set_set, Ext_mp1, Ext_two, st_agg, ones_nil, ones_cons, oc_int, oc_bool, oc_str, oc_ptr, oc_sl, oc_map, max_if, min_if, bld_nil, bld_cons, bldStep_some, wr_def, List.take_succ_cons, List.take_zero, List.drop_succ_cons, List.drop_zero, List.cons_append, List.toList_toArray, *, m3] | ((first | ((with_reducible refine newK_init ?_ ?_ ?_ ?_); (focus (intro b; simp only [ev_tmp, ev_const, upd_app, reduceCtorEq, Nat.reduceEqDiff, Nat.reduceAdd, ↓reduceIte, Value.cells, List.size_toArray, List.length_cons, List.length_nil, st_int, st_bool, st_string, st_pointer, st_slice, st_map, st_agg, ones_nil, ones_cons, oc_int, oc_bool, oc_str, oc_ptr, oc_sl, oc_map, Bool.and_true, tyAllRW03h, Option.map_some]; done)); (focus (simp only [ev_tmp, ev_const, upd_app, reduceCtorEq, Nat.reduceEqDiff, Nat.reduceAdd, ↓reduceIte, Value.cells, List.size_toArray, List.length_cons, List.length_nil, st_int, st_bool, st_string, st_pointer, st_slice, st_map, st_agg, ones_nil, ones_cons, oc_int, oc_bool, oc_str, oc_ptr, oc_sl, oc_map, Bool.and_true, tyAllRW03h, Option.map_some]; done)); (focus (intro b; simp only [ev_tmp, ev_const, upd_app, reduceCtorEq, Nat.reduceEqDiff, Nat.reduceAdd, ↓reduceIte, Value.cells, List.size_toArray, List.length_cons, List.length_nil, st_int, st_bool, st_string, st_pointer, st_slice, st_map, st_agg, ones_nil, ones_cons, oc_int, oc_bool, oc_str, oc_ptr, oc_sl, oc_map, Bool.and_true, tyAllRW03h, Option.map_some]; done))) | ((with_reducible refine newK.id ?_); refine newK_intro ?_) | ((with_reducible refine RunA.id ?_); (first | with_reducible refine rbuild1 sl_0 ze_0 ?_ ?_ ?_); (focus (simp only [Value.cells, List.size_toArray, List.length_cons, List.length_nil]; done)); (focus decide)) | ((first | with_reducible refine bG1 sl_0 ze_0 ?_ ?_ ?_); (focus (simp only [Value.cells, List.size_toArray, List.length_cons, List.length_nil]; done)); (focus decide)) | ((with_reducible refine RunA.id ?_); (first | with_reducible refine rbuild2 sl_0 ze_0 rfl rfl ?_)) | (first | with_reducible refine bG2 sl_0 ze_0 rfl rfl ?_)); (first | (have := o1; intro b2 m1 hb2 n2 e1 o2; (try (have d21 := ne_of o1 n2; have d12 := d21.symm)); replace n2 := none_of X n2; (try simp only [ev_tmp, ev_const, upd_app, reduceCtorEq, Nat.reduceEqDiff, Nat.reduceAdd, ↓reduceIte, Value.cells, List.size_toArray, List.length_cons, List.length_nil, st_int, st_bool, st_string, st_pointer, st_slice, st_map, st_agg, ones_nil, ones_cons, oc_int, oc_bool, oc_str, oc_ptr, oc_sl, oc_map, Bool.and_true, tyAllRW03h, Option.map_some] at o2)) | (intro b1 m1 hb1 n1 e1 o1; replace n1 := none_of X n1; (try simp only [ev_tmp, ev_const, upd_app, reduceCtorEq, Nat.reduceEqDiff, Nat.reduceAdd, ↓reduceIte, Value.cells, List.size_toArray, List.length_cons, List.length_nil, st_int, st_bool, st_string, st_pointer, st_slice, st_map, st_agg, ones_nil, ones_cons, oc_int, oc_bool, oc_str, oc_ptr, oc_sl, oc_map, Bool.and_true, tyAllRW03h, Option.map_some] at o1))); (try replace X := X.trans e1); (try replace P3 := P3.ext e1); (try (replace o1 := e1 _ _ o1; replace c1 := blk_facts hb1 o1)); (try (replace o2 := e1 _ _ o2; replace c2 := blk_facts hb2 o2)); (try have c1 := blk_facts hb1 o1); (try have c2 := blk_facts hb2 o2)) | ((with_reducible refine CodeA.id ?_); (first | fail)) | ((with_reducible refine And.intro ?_ ?_); (focus omega)) | with_reducible refine cK_both _ _ _ _ _ _ (fun hc => ?_) (fun hc => ?_) | ((with_reducible refine gO_both _ _ (fun hc => ?_) (fun hc => ?_)) <;> (try simp only [Bool.not_true, Bool.not_false] at hc)) | ((with_reducible refine gH_both _ _ (fun hc => ?_) (fun hc => ?_)) <;> (try simp only [Bool.not_true, Bool.not_false] at hc)) | with_reducible refine pickK_both _ (fun hc => ?_) (fun hc => ?_))
end
end Go.Proofs.Ytcddhbhdpleppaa.R
/- The bus's layer: plain facts of what drives, who talks, and how lines stand. No conditions. -/
set_option linter.unusedVariables false
set_option linter.unusedSimpArgs false
namespace Go.Proofs.Ytcddhbhdpleppaa.R
open Go Go.RowKit Go.Proofs.Ytcddhbhdpleppaa
set_option maxRecDepth 100000
set_option maxHeartbeats 8000000
section
theorem or_i64 : ∀ a b : Fin 16, bits .or .i64 (a.val : Int) (b.val : Int) = orN (a.val : Int) (b.val : Int) := by decide +kernel
theorem or_int {a b : Int} (ha : Ni a) (hb : Ni b) : bits .or .i64 a b = orN a b := by
  obtain ⟨x, rfl⟩ := ha.fin; obtain ⟨y, rfl⟩ := hb.fin
  exact or_i64 x y
theorem and_tmod256 : ∀ a : Fin 256, bits .and .u8 (a.val : Int) 15 = Int.tmod (a.val : Int) 16 := by decide +kernel
theorem and_tmod {a : Int} (ha : 0 ≤ a ∧ a < 256) : bits .and .u8 a 15 = Int.tmod a 16 := by
  have := and_tmod256 ⟨a.toNat, by omega⟩
  simp only [Int.toNat_of_nonneg ha.1] at this
  exact this
theorem and3_256 : ∀ a : Fin 256, bits .and .u8 (a.val : Int) 3 = (a.val : Int) % 4 := by decide +kernel
theorem and3 {a : Int} (ha : U8 a) : bits .and .u8 a 3 = a % 4 := by
  have := and3_256 ⟨a.toNat, by have := ha.1; have := ha.2; omega⟩
  simp only [Int.toNat_of_nonneg ha.1] at this
  exact this
theorem talk_fin : ∀ a : Fin 16, (sideL (a.val : Int) false != 3) = (Int.tmod (a.val : Int) 4 != 3) ∧ (sideL (a.val : Int) true != 12) = (Int.tdiv (a.val : Int) 4 != 3) := by decide +kernel
theorem talk_eq {a : Int} (ha : Ni a) : talkB a = (a != 0 && Int.tmod a 4 != 3 && Int.tdiv a 4 != 3) := by
  obtain ⟨x, rfl⟩ := ha.fin
  unfold talkB
  rw [(talk_fin x).1, (talk_fin x).2]
theorem set_fin : ∀ (a : Fin 16) (n : Fin 4) (b : Bool), (0 ≤ setL (a.val : Int) (n.val : Int) b ∧ setL (a.val : Int) (n.val : Int) b ≤ 15) ∧ ∀ k : Fin 4, hiL (setL (a.val : Int) (n.val : Int) b) (k.val : Int) = if n = k then b else hiL (a.val : Int) (k.val : Int) := by decide +kernel
theorem set_high {a n : Int} (ha : Ni a) (b : Bool) {k : Nat} (hk : k < 4) : Ni (setL a n b) ∧ hiL (setL a n b) k = if n = (k : Int) then b else hiL a k := by
  cases hn : isL n
  · have h1 : setL a n b = a := by unfold setL; rw [hn]; rfl
    rw [h1]
    refine ⟨ha, ?_⟩
    rw [if_neg]
    rintro rfl
    unfold isL at hn
    simp at hn
    omega
  · have hc := isL_cases hn
    obtain ⟨x, rfl⟩ := ha.fin
    obtain ⟨j, rfl⟩ : ∃ j : Fin 4, n = (j.val : Int) := ⟨⟨n.toNat, by omega⟩, by simp; omega⟩
    refine ⟨(set_fin x j b).1, ?_⟩
    have := (set_fin x j b).2 ⟨k, hk⟩
    rw [this]
    by_cases h : j = ⟨k, hk⟩
    · subst h; rw [if_pos rfl, if_pos rfl]
    · rw [if_neg h, if_neg]
      intro e
      apply h
      apply Fin.ext
      show j.val = k
      omega
theorem or_fin_high : ∀ (a b : Fin 16) (k : Fin 4), hiL (orN (a.val : Int) (b.val : Int)) (k.val : Int) = (hiL (a.val : Int) (k.val : Int) || hiL (b.val : Int) (k.val : Int)) := by decide +kernel
theorem or_high {a b : Int} (ha : Ni a) (hb : Ni b) {k : Nat} (hk : k < 4) : hiL (orN a b) k = (hiL a k || hiL b k) := by
  obtain ⟨x, rfl⟩ := ha.fin; obtain ⟨y, rfl⟩ := hb.fin
  exact or_fin_high x y ⟨k, hk⟩
def anyHi (l : List Int) (k : Int) : Bool := l.any fun x => hiL x k
theorem anyHi_snoc (l : List Int) (x k : Int) : anyHi (l ++ [x]) k = (anyHi l k || hiL x k) := by simp [anyHi]
theorem fold_high : ∀ (l : List Int) (a : Int) (k : Nat), k < 4 → Nib l → Ni a → hiL (l.foldl orN a) k = (hiL a k || anyHi l k)
  | [], a, k, _, _, _ => by simp [anyHi]
  | x :: l, a, k, hk, hl, ha => by
    have hx : Ni x := hl x (by simp)
    show hiL (l.foldl orN (orN a x)) k = _
    rw [fold_high l _ k hk (fun y hy => hl y (by simp [hy])) (orN_ni ha hx), or_high ha hx hk]
    simp [anyHi, Bool.or_assoc]
theorem orL_high {l : List Int} (h : Nib l) {k : Nat} (hk : k < 4) : hiL (orL l) k = anyHi l k := by
  rw [orL_fold, fold_high l 0 k hk h ⟨by omega, by omega⟩]
  have : ∀ k : Fin 4, hiL 0 (k.val : Int) = false := by decide +kernel
  rw [this ⟨k, hk⟩]
  rfl
/-- How a line comes to stand, with a fault. -/
theorem lines_high {f : Flt} (hb : Byte f.ps) {l : Int} (hl : Ni l) {k : Nat} (hk : k < 4) (tick : Int) : Ni (f.lines l tick) ∧ hiL (f.lines l tick) k = standsB (hiL l k) (f.here tick && f.kind == 1 && f.line == (k : Int)) (f.at tick) := by
  have ha := Flt.at_u8 hb tick
  unfold Flt.lines
  rw [and3 ha]
  cases hh : (f.here tick && f.kind == 1)
  · refine ⟨hl, ?_⟩
    simp [standsB]
  · rw [if_pos rfl, Bool.true_and]
    by_cases h0 : f.at tick % 4 = 0
    · rw [if_pos h0]
      refine ⟨(set_high hl false hk).1, ?_⟩
      rw [(set_high hl false hk).2]
      unfold standsB
      by_cases e : f.line = (k : Int)
      · simp [e, h0]
      · simp [e]
    · rw [if_neg h0]
      by_cases h1 : f.at tick % 4 = 1
      · rw [if_pos h1]
        refine ⟨(set_high hl true hk).1, ?_⟩
        rw [(set_high hl true hk).2]
        unfold standsB
        by_cases e : f.line = (k : Int)
        · simp [e, h1]
        · simp [e]
      · rw [if_neg h1]
        refine ⟨hl, ?_⟩
        unfold standsB
        rw [show decide (f.at tick % 4 < 2) = false from decide_eq_false (by have := Int.emod_nonneg (f.at tick) (show (4 : Int) ≠ 0 by omega); omega)]
        simp
theorem talkL_in (l : List Int) (k : Nat) (hk : talkB (l.getD k 0) = true) : ∀ n, k < n → (talkL l n)[(talkL l k).length]? = some (k : Int)
  | 0, h => by omega
  | n + 1, h => by
    rw [show talkL l (n + 1) = talkL l n ++ (if talkB (l.getD n 0) then [(n : Int)] else []) from rfl]
    by_cases e : k = n
    · subst e
      rw [hk, List.getElem?_append_right (Nat.le_refl _)]
      simp
    · have ih := talkL_in l k hk n (by omega)
      rw [List.getElem?_append_left (List.getElem?_eq_some_iff.1 ih).1]
      exact ih
theorem talkL_step (l : List Int) (k : Nat) (b : Bool) (hk : talkB (l.getD k 0) = b) : (talkL l (k + 1)).length = if b then (talkL l k).length + 1 else (talkL l k).length := by
  rw [talkL, hk]
  cases b <;> simp
/-- What all 16 drive. -/
def drvL (nx : List Int) : List Int := nx ++ List.replicate (16 - nx.length) 0
theorem drvL_length {nx : List Int} (h : nx.length ≤ 16) : (drvL nx).length = 16 := by simp [drvL]; omega
theorem drvL_get {nx : List Int} {q : Nat} {x : Int} (h : nx[q]? = some x) : (drvL nx)[q]? = some x := by
  unfold drvL
  rw [List.getElem?_append_left (List.getElem?_eq_some_iff.1 h).1]; exact h
theorem drvL_set {nx : List Int} {q : Nat} (h : q < nx.length) (x : Int) : (drvL nx).set q x = drvL (nx.set q x) := by
  unfold drvL
  rw [List.set_append_left _ _ h, List.length_set]
theorem i64_wr {l : List Int} {i : Nat} (hi : i < l.length) (x : Int) : wr (i64 l).toArray i [.int .i64 x] = (i64 (l.set i x)).toArray := by
  unfold wr
  rw [show i64 (l.set i x) = (i64 l).set i (.int .i64 x) by simp [i64], List.set_eq_take_append_cons_drop, if_pos (by simpa [i64] using hi)]
  simp
/-- One put, where there is the module: what is driven there. -/
theorem putB_drv {nx : List Int} (hn : Nib nx) {q : Nat} {x l : Int} (hx : nx[q]? = some x) (hl : 0 ≤ l ∧ l < 256) : (drvL nx).set q (bits .or .i64 x (Int.tmod l 16)) = drvL (putB nx q l) := by
  have hxn : Ni x := hn x (List.mem_of_getElem? hx)
  rw [putB_in hx hxn, drvL_set (List.getElem?_eq_some_iff.1 hx).1, ← and_tmod hl, or_int hxn (and_nib hl)]
theorem drvN_step (l : List Int) (k : Nat) {x : Int} (hx : l[k]? = some x) : drvN (l.take (k + 1)) = if x = 0 then drvN (l.take k) else drvN (l.take k) + 1 := by
  rw [take_step hx, drvN_snoc]
/-- Blocks apart from a bus. -/
def OffB (x p g k : Nat) : Prop := x ≠ p ∧ x ≠ g ∧ x ≠ k
theorem apartB {m : Mem} {x y : Nat} {o : Obj} (h1 : m x = some o) (h2 : m y = none) : x ≠ y := by rintro rfl; rw [h1] at h2; cases h2
theorem offB_new {m : Mem} {x p g k : Nat} {o : Obj} (h : m x = some o) (hp : m p = none) (hg : m g = none) (hk : m k = none) : OffB x p g k := ⟨apartB h hp, apartB h hg, apartB h hk⟩
theorem offB_of {W0 : World} {m : Mem} {x p g k : Nat} {nx dv : List Int} {ln : Int} (s : BusM W0 m p g k nx dv ln) (h : m x = none) : OffB x p g k :=
  ⟨fun e => (by subst e; rw [s.blk] at h; cases h), fun e => (by subst e; rw [s.gm] at h; cases h), fun e => (by subst e; rw [s.km] at h; cases h)⟩
/-- A bus, and a fault's box, apart. -/
structure BsS (W0 : World) (m : Mem) (bf p g k : Nat) (F : Flt) (nx dv : List Int) (ln : Int) : Prop where
  s : BusM W0 m p g k nx dv ln
  o : m bf = some (.cells #[.int .i64 F.kind, .int .i64 F.module, .bool F.y, .int .i64 F.line, .int .i64 F.frm, .slice F.A F.ps.length F.c] 25)
  hb : W0.heap.size ≤ bf
  off : OffB bf p g k
/-- And what all drive, as the law notes it. -/
structure DrS (W0 : World) (m : Mem) (bf p g k : Nat) (F : Flt) (nx dv : List Int) (ln : Int) (q : Nat) : Prop where
  b : BsS W0 m bf p g k F nx dv ln
  d : m q = some (.cells (i64 (drvL nx)).toArray 28)
  hq : W0.heap.size ≤ q
  offq : OffB q p g k
  ne : q ≠ bf
theorem BsS.ext {W0 : World} {m m' : Mem} {bf p g k : Nat} {F : Flt} {nx dv : List Int} {ln : Int} (s : BsS W0 m bf p g k F nx dv ln) (e : Ext m m') : BsS W0 m' bf p g k F nx dv ln := ⟨s.s.ext e, e _ _ s.o, s.hb, s.off⟩
theorem drvL_zero {n : Nat} (h : n ≤ 16) : drvL (List.replicate n 0) = List.replicate 16 0 := by
  unfold drvL
  rw [List.length_replicate, List.replicate_append_replicate]
  congr 1
  omega
end
end Go.Proofs.Ytcddhbhdpleppaa.R
