/- The bus's layer: the worked example `one`. No conditions. -/
import Derived.Test.YtapppaccnkojkaaSBusMoreRW24
set_option linter.unusedVariables false
set_option linter.unusedSimpArgs false
namespace Go.Proofs.Ytapppaccnkojkaa.R
open Go Go.RowKit Go.Proofs.Ytapppaccnkojkaa
set_option maxRecDepth 100000
set_option maxHeartbeats 8000000
theorem tyAllRW24b : type_of% (And.intro (And.intro (And.intro ty_3 (And.intro ty_4 ty_5)) (And.intro ty_28 (And.intro ty_48 ty_64))) (And.intro (And.intro ty_68 (And.intro ty_69 ty_71)) (And.intro ty_72 (And.intro ty_73 ty_76)))) := (And.intro (And.intro (And.intro ty_3 (And.intro ty_4 ty_5)) (And.intro ty_28 (And.intro ty_48 ty_64))) (And.intro (And.intro ty_68 (And.intro ty_69 ty_71)) (And.intro ty_72 (And.intro ty_73 ty_76))))
section
variable {W0 : World}
theorem one24 {m : Mem} : Ret Try.prog W0 40 #[] m (.bool true) := by
  refine ⟨fun K h => ?_⟩
  refine en_40 (l := []) (by simp [Try.ntmps40]) ?_
  have X : Ext m m := Ext.refl m
  simp (maxSteps := 2000000) only [Try.f40, Option.getD_some, vcCore, yieldT, Int.reduceEq, Int.reduceLT, Int.reduceLE, Int.reduceNe, not_true_eq_false, decide_true, decide_false, add_lit', Nat.zero_add, Nat.mul_one, Int.toNat_natCast, List.getElem?_toArray, List.getElem?_cons_zero, List.getElem?_cons_succ, Option.bind_some, List.map_cons, List.map_nil, List.map_toArray, Array.append_empty, Array.empty_append, List.append_nil, List.nil_append, List.append_toArray, ↓reduceIte, Nat.reduceEqDiff, Nat.reduceAdd, Nat.reduceLeDiff, List.contains_cons, List.contains_nil, Nat.reduceBEq, Bool.or_false, Bool.false_or, Bool.or_true, Bool.true_or, Bool.false_eq_true, Value.cells, List.size_toArray, List.length_cons, List.length_nil, Option.map_some, Option.map_none, Option.isSome_some, Option.isSome_none, Option.isNone_some, Option.isNone_none, true_and, and_true, ne_eq, reduceCtorEq, not_false_eq_true, Bool.not_true, Bool.not_false, tyAllRW24b, then_normal, Int.cast_ofNat_Int, BEq.rfl, bne_self_eq_false, beq_self_eq_true, Bool.and_true, Bool.true_and, Bool.and_false, Bool.false_and, Int.reduceBEq, Int.reduceBNe, Nat.reduceMul, Nat.reduceDiv, Int.reduceToNat, Int.reduceNeg, Int.reduceAdd, Int.reduceSub, Int.reduceMul, ext_lit, Nat.reduceSub, Nat.add_zero, mp2_app, resK_cc, implies_true, imp_self, bb_ft, bb_tf, bb_t, bb_f, bn_t, bn_f, Nat.reduceLT, Mem.set_app, Mem.set_set, Ext_mp1, Ext_two, st_agg, ones_nil, ones_cons, oc_int, oc_bool, oc_str, oc_ptr, oc_sl, oc_map, max_if, min_if, bld_nil, bld_cons, bldStep_some, wr_def, List.take_succ_cons, List.take_zero, List.drop_succ_cons, List.drop_zero, List.cons_append, List.toList_toArray]
  repeat' (first | simp (maxSteps := 2000000) only [vcCore, yieldT, Int.reduceEq, Int.reduceLT, Int.reduceLE, Int.reduceNe, not_true_eq_false, decide_true, decide_false, add_lit', Nat.zero_add, Nat.mul_one, Int.toNat_natCast, List.getElem?_toArray, List.getElem?_cons_zero, List.getElem?_cons_succ, Option.bind_some, List.map_cons, List.map_nil, List.map_toArray, Array.append_empty, Array.empty_append, List.append_nil, List.nil_append, List.append_toArray, ↓reduceIte, Nat.reduceEqDiff, Nat.reduceAdd, Nat.reduceLeDiff, List.contains_cons, List.contains_nil, Nat.reduceBEq, Bool.or_false, Bool.false_or, Bool.or_true, Bool.true_or, Bool.false_eq_true, Value.cells, List.size_toArray, List.length_cons, List.length_nil, Option.map_some, Option.map_none, Option.isSome_some, Option.isSome_none, Option.isNone_some, Option.isNone_none, true_and, and_true, ne_eq, reduceCtorEq, not_false_eq_true, Bool.not_true, Bool.not_false, tyAllRW24b, then_normal, Int.cast_ofNat_Int, BEq.rfl, bne_self_eq_false, beq_self_eq_true, Bool.and_true, Bool.true_and, Bool.and_false, Bool.false_and, Int.reduceBEq, Int.reduceBNe, Nat.reduceMul, Nat.reduceDiv, Int.reduceToNat, Int.reduceNeg, Int.reduceAdd, Int.reduceSub, Int.reduceMul, ext_lit, Nat.reduceSub, Nat.add_zero, mp2_app, resK_cc, implies_true, imp_self, bb_ft, bb_tf, bb_t, bb_f, bn_t, bn_f, Nat.reduceLT, Mem.set_app, Mem.set_set, Ext_mp1, Ext_two, st_agg, ones_nil, ones_cons, oc_int, oc_bool, oc_str, oc_ptr, oc_sl, oc_map, max_if, min_if, bld_nil, bld_cons, bldStep_some, wr_def, List.take_succ_cons, List.take_zero, List.drop_succ_cons, List.drop_zero, List.cons_append, List.toList_toArray, *] | ((first | ((with_reducible refine newK_init ?_ ?_ ?_ ?_); (focus (intro b; simp only [ev_tmp, ev_const, upd_app, reduceCtorEq, Nat.reduceEqDiff, Nat.reduceAdd, ↓reduceIte, Value.cells, List.size_toArray, List.length_cons, List.length_nil, st_int, st_bool, st_string, st_pointer, st_slice, st_map, st_agg, ones_nil, ones_cons, oc_int, oc_bool, oc_str, oc_ptr, oc_sl, oc_map, Bool.and_true, tyAllRW24b, Option.map_some]; done)); (focus (simp only [ev_tmp, ev_const, upd_app, reduceCtorEq, Nat.reduceEqDiff, Nat.reduceAdd, ↓reduceIte, Value.cells, List.size_toArray, List.length_cons, List.length_nil, st_int, st_bool, st_string, st_pointer, st_slice, st_map, st_agg, ones_nil, ones_cons, oc_int, oc_bool, oc_str, oc_ptr, oc_sl, oc_map, Bool.and_true, tyAllRW24b, Option.map_some]; done)); (focus (intro b; simp only [ev_tmp, ev_const, upd_app, reduceCtorEq, Nat.reduceEqDiff, Nat.reduceAdd, ↓reduceIte, Value.cells, List.size_toArray, List.length_cons, List.length_nil, st_int, st_bool, st_string, st_pointer, st_slice, st_map, st_agg, ones_nil, ones_cons, oc_int, oc_bool, oc_str, oc_ptr, oc_sl, oc_map, Bool.and_true, tyAllRW24b, Option.map_some]; done))) | ((with_reducible refine newK.id ?_); refine newK_intro ?_) | ((with_reducible refine RunA.id ?_); (first | with_reducible refine rbuild1 sl_28 ze_5 ?_ ?_ ?_ | with_reducible refine rbuild1 sl_71 ze_48 ?_ ?_ ?_ | with_reducible refine rbuild1 sl_76 ze_3 ?_ ?_ ?_); (focus (simp only [Value.cells, List.size_toArray, List.length_cons, List.length_nil]; done)); (focus decide)) | ((first | with_reducible refine bG1 sl_28 ze_5 ?_ ?_ ?_ | with_reducible refine bG1 sl_71 ze_48 ?_ ?_ ?_ | with_reducible refine bG1 sl_76 ze_3 ?_ ?_ ?_); (focus (simp only [Value.cells, List.size_toArray, List.length_cons, List.length_nil]; done)); (focus decide)) | ((with_reducible refine RunA.id ?_); (first | with_reducible refine rbuild2 sl_28 ze_5 rfl rfl ?_ | with_reducible refine rbuild2 sl_71 ze_48 rfl rfl ?_ | with_reducible refine rbuild2 sl_76 ze_3 rfl rfl ?_)) | (first | with_reducible refine bG2 sl_28 ze_5 rfl rfl ?_ | with_reducible refine bG2 sl_71 ze_48 rfl rfl ?_ | with_reducible refine bG2 sl_76 ze_3 rfl rfl ?_)); (first | (intro b1 m1 hb1 n1 e1 o1; replace n1 := none_of X n1; (try simp only [ev_tmp, ev_const, upd_app, reduceCtorEq, Nat.reduceEqDiff, Nat.reduceAdd, ↓reduceIte, Value.cells, List.size_toArray, List.length_cons, List.length_nil, st_int, st_bool, st_string, st_pointer, st_slice, st_map, st_agg, ones_nil, ones_cons, oc_int, oc_bool, oc_str, oc_ptr, oc_sl, oc_map, Bool.and_true, tyAllRW24b, Option.map_some] at o1))); (try replace X := X.trans e1); (try replace P3 := P3.ext e1); (try (replace o1 := e1 _ _ o1; replace c1 := blk_facts hb1 o1)); (try have c1 := blk_facts hb1 o1)) | ((with_reducible refine CodeA.id ?_); (first | fail)) | ((with_reducible refine And.intro ?_ ?_); (focus omega)) | with_reducible refine cK_both _ _ _ _ _ _ (fun hc => ?_) (fun hc => ?_) | ((with_reducible refine gO_both _ _ (fun hc => ?_) (fun hc => ?_)) <;> (try simp only [Bool.not_true, Bool.not_false] at hc)) | ((with_reducible refine gH_both _ _ (fun hc => ?_) (fun hc => ?_)) <;> (try simp only [Bool.not_true, Bool.not_false] at hc)) | with_reducible refine pickK_both _ (fun hc => ?_) (fun hc => ?_))
  refine bus_New fun m1 b g k E1 bn gn kn s => ?_
  have e1 : List.replicate (max 0 (min (2 : Int) 16)).toNat (0 : Int) = [0, 0] := by decide +kernel
  rw [e1] at s
  have XX : Hid (∀ x o, m x = some o → m1 x = some o ∧ x ≠ b ∧ x ≠ g ∧ x ≠ k) := fun x o e => ⟨E1 _ _ e, (by rintro rfl; rw [bn] at e; cases e), (by rintro rfl; rw [gn] at e; cases e), (by rintro rfl; rw [kn] at e; cases e)⟩
  clear X E1 e1 gn kn bn
  have X := Ext.refl m1
  repeat' (first | simp (maxSteps := 2000000) only [vcCore, yieldT, Int.reduceEq, Int.reduceLT, Int.reduceLE, Int.reduceNe, not_true_eq_false, decide_true, decide_false, add_lit', Nat.zero_add, Nat.mul_one, Int.toNat_natCast, List.getElem?_toArray, List.getElem?_cons_zero, List.getElem?_cons_succ, Option.bind_some, List.map_cons, List.map_nil, List.map_toArray, Array.append_empty, Array.empty_append, List.append_nil, List.nil_append, List.append_toArray, ↓reduceIte, Nat.reduceEqDiff, Nat.reduceAdd, Nat.reduceLeDiff, List.contains_cons, List.contains_nil, Nat.reduceBEq, Bool.or_false, Bool.false_or, Bool.or_true, Bool.true_or, Bool.false_eq_true, Value.cells, List.size_toArray, List.length_cons, List.length_nil, Option.map_some, Option.map_none, Option.isSome_some, Option.isSome_none, Option.isNone_some, Option.isNone_none, true_and, and_true, ne_eq, reduceCtorEq, not_false_eq_true, Bool.not_true, Bool.not_false, tyAllRW24b, then_normal, Int.cast_ofNat_Int, BEq.rfl, bne_self_eq_false, beq_self_eq_true, Bool.and_true, Bool.true_and, Bool.and_false, Bool.false_and, Int.reduceBEq, Int.reduceBNe, Nat.reduceMul, Nat.reduceDiv, Int.reduceToNat, Int.reduceNeg, Int.reduceAdd, Int.reduceSub, Int.reduceMul, ext_lit, Nat.reduceSub, Nat.add_zero, mp2_app, resK_cc, implies_true, imp_self, bb_ft, bb_tf, bb_t, bb_f, bn_t, bn_f, Nat.reduceLT, Mem.set_app, Mem.set_set, Ext_mp1, Ext_two, st_agg, ones_nil, ones_cons, oc_int, oc_bool, oc_str, oc_ptr, oc_sl, oc_map, max_if, min_if, bld_nil, bld_cons, bldStep_some, wr_def, List.take_succ_cons, List.take_zero, List.drop_succ_cons, List.drop_zero, List.cons_append, List.toList_toArray, *] | ((with_reducible refine CodeA.id ?_); (first | fail)) | ((with_reducible refine And.intro ?_ ?_); (focus omega)) | with_reducible refine cK_both _ _ _ _ _ _ (fun hc => ?_) (fun hc => ?_) | ((with_reducible refine gO_both _ _ (fun hc => ?_) (fun hc => ?_)) <;> (try simp only [Bool.not_true, Bool.not_false] at hc)) | ((with_reducible refine gH_both _ _ (fun hc => ?_) (fun hc => ?_)) <;> (try simp only [Bool.not_true, Bool.not_false] at hc)) | with_reducible refine pickK_both _ (fun hc => ?_) (fun hc => ?_))
  refine bus_Put s (by omega) fun m2 s2 k2 => ?_
  rw [show putB [0, 0] 0 1 = [1, 0] by decide +kernel] at s2
  clear X
  have X := Ext.refl m2
  repeat' (first | simp (maxSteps := 2000000) only [vcCore, yieldT, Int.reduceEq, Int.reduceLT, Int.reduceLE, Int.reduceNe, not_true_eq_false, decide_true, decide_false, add_lit', Nat.zero_add, Nat.mul_one, Int.toNat_natCast, List.getElem?_toArray, List.getElem?_cons_zero, List.getElem?_cons_succ, Option.bind_some, List.map_cons, List.map_nil, List.map_toArray, Array.append_empty, Array.empty_append, List.append_nil, List.nil_append, List.append_toArray, ↓reduceIte, Nat.reduceEqDiff, Nat.reduceAdd, Nat.reduceLeDiff, List.contains_cons, List.contains_nil, Nat.reduceBEq, Bool.or_false, Bool.false_or, Bool.or_true, Bool.true_or, Bool.false_eq_true, Value.cells, List.size_toArray, List.length_cons, List.length_nil, Option.map_some, Option.map_none, Option.isSome_some, Option.isSome_none, Option.isNone_some, Option.isNone_none, true_and, and_true, ne_eq, reduceCtorEq, not_false_eq_true, Bool.not_true, Bool.not_false, tyAllRW24b, then_normal, Int.cast_ofNat_Int, BEq.rfl, bne_self_eq_false, beq_self_eq_true, Bool.and_true, Bool.true_and, Bool.and_false, Bool.false_and, Int.reduceBEq, Int.reduceBNe, Nat.reduceMul, Nat.reduceDiv, Int.reduceToNat, Int.reduceNeg, Int.reduceAdd, Int.reduceSub, Int.reduceMul, ext_lit, Nat.reduceSub, Nat.add_zero, mp2_app, resK_cc, implies_true, imp_self, bb_ft, bb_tf, bb_t, bb_f, bn_t, bn_f, Nat.reduceLT, Mem.set_app, Mem.set_set, Ext_mp1, Ext_two, st_agg, ones_nil, ones_cons, oc_int, oc_bool, oc_str, oc_ptr, oc_sl, oc_map, max_if, min_if, bld_nil, bld_cons, bldStep_some, wr_def, List.take_succ_cons, List.take_zero, List.drop_succ_cons, List.drop_zero, List.cons_append, List.toList_toArray, *] | ((with_reducible refine CodeA.id ?_); (first | fail)) | ((with_reducible refine And.intro ?_ ?_); (focus omega)) | with_reducible refine cK_both _ _ _ _ _ _ (fun hc => ?_) (fun hc => ?_) | ((with_reducible refine gO_both _ _ (fun hc => ?_) (fun hc => ?_)) <;> (try simp only [Bool.not_true, Bool.not_false] at hc)) | ((with_reducible refine gH_both _ _ (fun hc => ?_) (fun hc => ?_)) <;> (try simp only [Bool.not_true, Bool.not_false] at hc)) | with_reducible refine pickK_both _ (fun hc => ?_) (fun hc => ?_))
  refine bus_Put s2 (by omega) fun m3 s3 k3 => ?_
  rw [show putB [1, 0] 1 8 = [1, 8] by decide +kernel] at s3
  clear X
  have X := Ext.refl m3
  repeat' (first | simp (maxSteps := 2000000) only [vcCore, yieldT, Int.reduceEq, Int.reduceLT, Int.reduceLE, Int.reduceNe, not_true_eq_false, decide_true, decide_false, add_lit', Nat.zero_add, Nat.mul_one, Int.toNat_natCast, List.getElem?_toArray, List.getElem?_cons_zero, List.getElem?_cons_succ, Option.bind_some, List.map_cons, List.map_nil, List.map_toArray, Array.append_empty, Array.empty_append, List.append_nil, List.nil_append, List.append_toArray, ↓reduceIte, Nat.reduceEqDiff, Nat.reduceAdd, Nat.reduceLeDiff, List.contains_cons, List.contains_nil, Nat.reduceBEq, Bool.or_false, Bool.false_or, Bool.or_true, Bool.true_or, Bool.false_eq_true, Value.cells, List.size_toArray, List.length_cons, List.length_nil, Option.map_some, Option.map_none, Option.isSome_some, Option.isSome_none, Option.isNone_some, Option.isNone_none, true_and, and_true, ne_eq, reduceCtorEq, not_false_eq_true, Bool.not_true, Bool.not_false, tyAllRW24b, then_normal, Int.cast_ofNat_Int, BEq.rfl, bne_self_eq_false, beq_self_eq_true, Bool.and_true, Bool.true_and, Bool.and_false, Bool.false_and, Int.reduceBEq, Int.reduceBNe, Nat.reduceMul, Nat.reduceDiv, Int.reduceToNat, Int.reduceNeg, Int.reduceAdd, Int.reduceSub, Int.reduceMul, ext_lit, Nat.reduceSub, Nat.add_zero, mp2_app, resK_cc, implies_true, imp_self, bb_ft, bb_tf, bb_t, bb_f, bn_t, bn_f, Nat.reduceLT, Mem.set_app, Mem.set_set, Ext_mp1, Ext_two, st_agg, ones_nil, ones_cons, oc_int, oc_bool, oc_str, oc_ptr, oc_sl, oc_map, max_if, min_if, bld_nil, bld_cons, bldStep_some, wr_def, List.take_succ_cons, List.take_zero, List.drop_succ_cons, List.drop_zero, List.cons_append, List.toList_toArray, *] | ((with_reducible refine CodeA.id ?_); (first | fail)) | ((with_reducible refine And.intro ?_ ?_); (focus omega)) | with_reducible refine cK_both _ _ _ _ _ _ (fun hc => ?_) (fun hc => ?_) | ((with_reducible refine gO_both _ _ (fun hc => ?_) (fun hc => ?_)) <;> (try simp only [Bool.not_true, Bool.not_false] at hc)) | ((with_reducible refine gH_both _ _ (fun hc => ?_) (fun hc => ?_)) <;> (try simp only [Bool.not_true, Bool.not_false] at hc)) | with_reducible refine pickK_both _ (fun hc => ?_) (fun hc => ?_))
  refine bus_Settle0 s3 (by decide +kernel) fun m4 s4 k4 => ?_
  rw [show orL [1, 8] = 9 by decide +kernel] at s4 ⊢
  replace s4 : BusM W0 m4 b k g [0, 0] [1, 8] 9 := s4
  have Z : Hid (∀ x o, m x = some o → m4 x = some o) := fun x o e => by
    obtain ⟨e1, nb, ng, nk⟩ := (show ∀ x o, m x = some o → m1 x = some o ∧ x ≠ b ∧ x ≠ g ∧ x ≠ k from XX) x o e
    exact k4 _ _ (k3 _ _ (k2 _ _ e1 (by rintro h; cases h; exact ng rfl)) (by rintro h; cases h; exact ng rfl)) nb nk
  have NB : Hid (∀ x o, m x = some o → x ≠ b ∧ x ≠ g ∧ x ≠ k) := fun x o e => ((show ∀ x o, m x = some o → m1 x = some o ∧ x ≠ b ∧ x ≠ g ∧ x ≠ k from XX) x o e).2
  clear X s s2 s3 k2 k3 k4 XX
  have X := Ext.refl m4
  repeat' (first | simp (maxSteps := 2000000) only [vcCore, yieldT, Int.reduceEq, Int.reduceLT, Int.reduceLE, Int.reduceNe, not_true_eq_false, decide_true, decide_false, add_lit', Nat.zero_add, Nat.mul_one, Int.toNat_natCast, List.getElem?_toArray, List.getElem?_cons_zero, List.getElem?_cons_succ, Option.bind_some, List.map_cons, List.map_nil, List.map_toArray, Array.append_empty, Array.empty_append, List.append_nil, List.nil_append, List.append_toArray, ↓reduceIte, Nat.reduceEqDiff, Nat.reduceAdd, Nat.reduceLeDiff, List.contains_cons, List.contains_nil, Nat.reduceBEq, Bool.or_false, Bool.false_or, Bool.or_true, Bool.true_or, Bool.false_eq_true, Value.cells, List.size_toArray, List.length_cons, List.length_nil, Option.map_some, Option.map_none, Option.isSome_some, Option.isSome_none, Option.isNone_some, Option.isNone_none, true_and, and_true, ne_eq, reduceCtorEq, not_false_eq_true, Bool.not_true, Bool.not_false, tyAllRW24b, then_normal, Int.cast_ofNat_Int, BEq.rfl, bne_self_eq_false, beq_self_eq_true, Bool.and_true, Bool.true_and, Bool.and_false, Bool.false_and, Int.reduceBEq, Int.reduceBNe, Nat.reduceMul, Nat.reduceDiv, Int.reduceToNat, Int.reduceNeg, Int.reduceAdd, Int.reduceSub, Int.reduceMul, ext_lit, Nat.reduceSub, Nat.add_zero, mp2_app, resK_cc, implies_true, imp_self, bb_ft, bb_tf, bb_t, bb_f, bn_t, bn_f, Nat.reduceLT, Mem.set_app, Mem.set_set, Ext_mp1, Ext_two, st_agg, ones_nil, ones_cons, oc_int, oc_bool, oc_str, oc_ptr, oc_sl, oc_map, max_if, min_if, bld_nil, bld_cons, bldStep_some, wr_def, List.take_succ_cons, List.take_zero, List.drop_succ_cons, List.drop_zero, List.cons_append, List.toList_toArray, *] | ((with_reducible refine CodeA.id ?_); (first | fail)) | ((with_reducible refine And.intro ?_ ?_); (focus omega)) | with_reducible refine cK_both _ _ _ _ _ _ (fun hc => ?_) (fun hc => ?_) | ((with_reducible refine gO_both _ _ (fun hc => ?_) (fun hc => ?_)) <;> (try simp only [Bool.not_true, Bool.not_false] at hc)) | ((with_reducible refine gH_both _ _ (fun hc => ?_) (fun hc => ?_)) <;> (try simp only [Bool.not_true, Bool.not_false] at hc)) | with_reducible refine pickK_both _ (fun hc => ?_) (fun hc => ?_))
  refine (bus_Talkers s4).use fun A q m5 N => ?_
  rw [show talkL [1, 8] [(0 : Int), 0].length = [0, 1] by decide +kernel] at N ⊢
  have s5 := s4.ext N.ext
  have c1 : ∀ j u, ([(0 : Int), 1])[j]? = some u → ∃ a, A = some a ∧ cellA W0 m5 (a.add j) = some (.int .i64 u) := fun j u hj => N.own.reads.i64 hj
  obtain ⟨a, rfl, q0⟩ := c1 0 0 rfl
  obtain ⟨a', ha, q1⟩ := c1 1 1 rfl
  cases ha
  have E5 := N.ext
  clear c1 N X
  have X := Ext.refl m5
  have rD : ∀ M, Ext m5 M → Ret Try.prog W0 36 #[.pointer (some ⟨b, 0, none⟩)] M (.int .i64 2) := fun M e => (bus_Drivers (s5.ext e)).eq (by rw [show drvN [1, 8] = 2 by decide +kernel]; rfl)
  have rV : ∀ M, Ext m5 M → Ret Try.prog W0 38 #[.pointer (some ⟨b, 0, none⟩), .int .i64 1] M (.int .u8 8) := fun M e => (bus_Drove (s5.ext e) 1).eq (by rw [show droveB [(0 : Int), 0].length [1, 8] 1 = 8 by decide +kernel])
  repeat' (first | simp (maxSteps := 2000000) only [vcCore, yieldT, Int.reduceEq, Int.reduceLT, Int.reduceLE, Int.reduceNe, not_true_eq_false, decide_true, decide_false, add_lit', Nat.zero_add, Nat.mul_one, Int.toNat_natCast, List.getElem?_toArray, List.getElem?_cons_zero, List.getElem?_cons_succ, Option.bind_some, List.map_cons, List.map_nil, List.map_toArray, Array.append_empty, Array.empty_append, List.append_nil, List.nil_append, List.append_toArray, ↓reduceIte, Nat.reduceEqDiff, Nat.reduceAdd, Nat.reduceLeDiff, List.contains_cons, List.contains_nil, Nat.reduceBEq, Bool.or_false, Bool.false_or, Bool.or_true, Bool.true_or, Bool.false_eq_true, Value.cells, List.size_toArray, List.length_cons, List.length_nil, Option.map_some, Option.map_none, Option.isSome_some, Option.isSome_none, Option.isNone_some, Option.isNone_none, true_and, and_true, ne_eq, reduceCtorEq, not_false_eq_true, Bool.not_true, Bool.not_false, tyAllRW24b, then_normal, Int.cast_ofNat_Int, BEq.rfl, bne_self_eq_false, beq_self_eq_true, Bool.and_true, Bool.true_and, Bool.and_false, Bool.false_and, Int.reduceBEq, Int.reduceBNe, Nat.reduceMul, Nat.reduceDiv, Int.reduceToNat, Int.reduceNeg, Int.reduceAdd, Int.reduceSub, Int.reduceMul, ext_lit, Nat.reduceSub, Nat.add_zero, mp2_app, resK_cc, implies_true, imp_self, bb_ft, bb_tf, bb_t, bb_f, bn_t, bn_f, Nat.reduceLT, Mem.set_app, Mem.set_set, Ext_mp1, Ext_two, st_agg, ones_nil, ones_cons, oc_int, oc_bool, oc_str, oc_ptr, oc_sl, oc_map, max_if, min_if, bld_nil, bld_cons, bldStep_some, wr_def, List.take_succ_cons, List.take_zero, List.drop_succ_cons, List.drop_zero, List.cons_append, List.toList_toArray, *] | ((first | (with_reducible refine Ret.use (rD _ X) fun m1 e1 => ?_) | (with_reducible refine Ret.use (rV _ X) fun m1 e1 => ?_) | (with_reducible refine Ret.use (bus_Lines (s5.ext X)) fun m1 e1 => ?_)); (try replace X := X.trans e1); (try replace P3 := P3.ext e1); (try (replace o1 := e1 _ _ o1; replace c1 := blk_facts hb1 o1))) | (with_reducible refine Ret.q (fun m1 e1 => rD _ (X.trans e1)) ?_) | (with_reducible refine Ret.q0 (fun m1 e1 => rD _ %X) ?_) | (with_reducible refine Ret.q (fun m1 e1 => rV _ (X.trans e1)) ?_) | (with_reducible refine Ret.q0 (fun m1 e1 => rV _ %X) ?_) | (with_reducible refine Ret.q (fun m1 e1 => bus_Lines (s5.ext (X.trans e1))) ?_) | (with_reducible refine Ret.q0 (fun m1 e1 => bus_Lines (s5.ext %X)) ?_) | ((with_reducible refine CodeA.id ?_); (first | fail)) | ((with_reducible refine And.intro ?_ ?_); (focus omega)) | with_reducible refine cK_both _ _ _ _ _ _ (fun hc => ?_) (fun hc => ?_) | ((with_reducible refine gO_both _ _ (fun hc => ?_) (fun hc => ?_)) <;> (try simp only [Bool.not_true, Bool.not_false] at hc)) | ((with_reducible refine gH_both _ _ (fun hc => ?_) (fun hc => ?_)) <;> (try simp only [Bool.not_true, Bool.not_false] at hc)) | with_reducible refine pickK_both _ (fun hc => ?_) (fun hc => ?_))
  refine bus_Settle0 (s5.ext X) (by decide +kernel) fun m6 s6 k6 => ?_
  rw [show orL [0, 0] = 0 by decide +kernel]
  have Y : Hid (Ext m m6) := fun x o e => by
    obtain ⟨nb, ng, nk⟩ := (show ∀ x o, m x = some o → x ≠ b ∧ x ≠ g ∧ x ≠ k from NB) x o e
    exact k6 _ _ (X _ _ (E5 _ _ ((show ∀ x o, m x = some o → m4 x = some o from Z) x o e))) nb ng
  clear X
  have X := Ext.refl m6
  repeat' (first | simp (maxSteps := 2000000) only [vcCore, yieldT, Int.reduceEq, Int.reduceLT, Int.reduceLE, Int.reduceNe, not_true_eq_false, decide_true, decide_false, add_lit', Nat.zero_add, Nat.mul_one, Int.toNat_natCast, List.getElem?_toArray, List.getElem?_cons_zero, List.getElem?_cons_succ, Option.bind_some, List.map_cons, List.map_nil, List.map_toArray, Array.append_empty, Array.empty_append, List.append_nil, List.nil_append, List.append_toArray, ↓reduceIte, Nat.reduceEqDiff, Nat.reduceAdd, Nat.reduceLeDiff, List.contains_cons, List.contains_nil, Nat.reduceBEq, Bool.or_false, Bool.false_or, Bool.or_true, Bool.true_or, Bool.false_eq_true, Value.cells, List.size_toArray, List.length_cons, List.length_nil, Option.map_some, Option.map_none, Option.isSome_some, Option.isSome_none, Option.isNone_some, Option.isNone_none, true_and, and_true, ne_eq, reduceCtorEq, not_false_eq_true, Bool.not_true, Bool.not_false, tyAllRW24b, then_normal, Int.cast_ofNat_Int, BEq.rfl, bne_self_eq_false, beq_self_eq_true, Bool.and_true, Bool.true_and, Bool.and_false, Bool.false_and, Int.reduceBEq, Int.reduceBNe, Nat.reduceMul, Nat.reduceDiv, Int.reduceToNat, Int.reduceNeg, Int.reduceAdd, Int.reduceSub, Int.reduceMul, ext_lit, Nat.reduceSub, Nat.add_zero, mp2_app, resK_cc, implies_true, imp_self, bb_ft, bb_tf, bb_t, bb_f, bn_t, bn_f, Nat.reduceLT, Mem.set_app, Mem.set_set, Ext_mp1, Ext_two, st_agg, ones_nil, ones_cons, oc_int, oc_bool, oc_str, oc_ptr, oc_sl, oc_map, max_if, min_if, bld_nil, bld_cons, bldStep_some, wr_def, List.take_succ_cons, List.take_zero, List.drop_succ_cons, List.drop_zero, List.cons_append, List.toList_toArray, *] | ((with_reducible refine CodeA.id ?_); (first | fail)) | ((with_reducible refine And.intro ?_ ?_); (focus omega)) | with_reducible refine cK_both _ _ _ _ _ _ (fun hc => ?_) (fun hc => ?_) | ((with_reducible refine gO_both _ _ (fun hc => ?_) (fun hc => ?_)) <;> (try simp only [Bool.not_true, Bool.not_false] at hc)) | ((with_reducible refine gH_both _ _ (fun hc => ?_) (fun hc => ?_)) <;> (try simp only [Bool.not_true, Bool.not_false] at hc)) | with_reducible refine pickK_both _ (fun hc => ?_) (fun hc => ?_))
  exact h _ Y
end
end Go.Proofs.Ytapppaccnkojkaa.R
/- The bus's layer: plain facts: puts in any order, more that drives. No conditions. -/
set_option linter.unusedVariables false
set_option linter.unusedSimpArgs false
namespace Go.Proofs.Ytapppaccnkojkaa.R
open Go Go.RowKit Go.Proofs.Ytapppaccnkojkaa
set_option maxRecDepth 100000
set_option maxHeartbeats 8000000
section
def orN (a b : Int) : Int := bits .or .u8 a b
theorem orN_fin : ∀ a b : Fin 16, 0 ≤ orN (a.val : Int) (b.val : Int) ∧ orN (a.val : Int) (b.val : Int) ≤ 15 ∧ orN (a.val : Int) (b.val : Int) = orN (b.val : Int) (a.val : Int) ∧ orN (a.val : Int) (orN (a.val : Int) (b.val : Int)) = orN (a.val : Int) (b.val : Int) ∧
    (orN (a.val : Int) (b.val : Int) = 0 ↔ a.val = 0 ∧ b.val = 0) ∧ orN 0 (a.val : Int) = (a.val : Int) := by decide +kernel
theorem orN_fin3 : ∀ a b c : Fin 16, orN (orN (a.val : Int) (b.val : Int)) (c.val : Int) = orN (orN (a.val : Int) (c.val : Int)) (b.val : Int) := by decide +kernel
def Ni (a : Int) : Prop := 0 ≤ a ∧ a ≤ 15
theorem Ni.fin {a : Int} (h : Ni a) : ∃ x : Fin 16, a = (x.val : Int) := ⟨⟨a.toNat, by have := h.1; have := h.2; omega⟩, by have := h.1; simp; omega⟩
theorem orN_ni {a b : Int} (ha : Ni a) (hb : Ni b) : Ni (orN a b) := by
  obtain ⟨x, rfl⟩ := ha.fin; obtain ⟨y, rfl⟩ := hb.fin
  exact ⟨(orN_fin x y).1, (orN_fin x y).2.1⟩
theorem orN_swap {a b c : Int} (ha : Ni a) (hb : Ni b) (hc : Ni c) : orN (orN a b) c = orN (orN a c) b := by
  obtain ⟨x, rfl⟩ := ha.fin; obtain ⟨y, rfl⟩ := hb.fin; obtain ⟨z, rfl⟩ := hc.fin
  exact orN_fin3 x y z
theorem orN_zero {a : Int} (ha : Ni a) : orN 0 a = a := by
  obtain ⟨x, rfl⟩ := ha.fin
  exact (orN_fin x 0).2.2.2.2.2
theorem orN_nil {a b : Int} (ha : Ni a) (hb : Ni b) (h : orN a b = 0) : a = 0 := by
  obtain ⟨x, rfl⟩ := ha.fin; obtain ⟨y, rfl⟩ := hb.fin
  have := ((orN_fin x y).2.2.2.2.1.1 h).1
  omega
theorem orN_again {a b : Int} (ha : Ni a) (hb : Ni b) : orN a (orN a b) = orN a b := by
  obtain ⟨x, rfl⟩ := ha.fin; obtain ⟨y, rfl⟩ := hb.fin
  exact (orN_fin x y).2.2.2.1
theorem orL_pair {a b : Int} (ha : Ni a) : orL [a, b] = orN a b := by
  show bits .or .u8 (bits .or .u8 0 a) b = _
  rw [show bits .or .u8 0 a = a from orN_zero ha]; rfl
theorem fold_set : ∀ (l : List Int) (q : Nat) (a x m : Int), Nib l → Ni a → Ni m → l[q]? = some x → (l.set q (orN x m)).foldl orN a = orN (l.foldl orN a) m
  | [], q, a, x, m, _, _, _, h => by simp at h
  | y :: l, 0, a, x, m, hl, ha, hm, h => by
    simp at h
    subst h
    have hy : Ni y := hl y (by simp)
    show l.foldl orN (orN a (orN y m)) = orN (l.foldl orN (orN a y)) m
    have e : ∀ (l : List Int) (a b : Int), Nib l → Ni a → Ni b → l.foldl orN (orN a b) = orN (l.foldl orN a) b := by
      intro l
      induction l with
      | nil => intros; rfl
      | cons z l ih =>
        intro a b hl ha hb
        have hz : Ni z := hl z (by simp)
        show l.foldl orN (orN (orN a b) z) = orN (l.foldl orN (orN a z)) b
        rw [orN_swap ha hb hz]
        exact ih _ _ (fun x hx => hl x (by simp [hx])) (orN_ni ha hz) hb
    have e2 : orN a (orN y m) = orN (orN a y) m := by
      have c1 : orN a (orN y m) = orN (orN y m) a := by
        obtain ⟨u, hu⟩ := ha.fin; obtain ⟨v, hv⟩ := (orN_ni hy hm).fin
        rw [hu, hv]; exact (orN_fin u v).2.2.1
      rw [c1, orN_swap hy hm ha]
      congr 1
      obtain ⟨u, hu⟩ := ha.fin; obtain ⟨v, hv⟩ := hy.fin
      rw [hu, hv]; exact (orN_fin v u).2.2.1
    rw [e2]
    exact e l _ _ (fun x hx => hl x (by simp [hx])) (orN_ni ha hy) hm
  | y :: l, q + 1, a, x, m, hl, ha, hm, h => by
    have hy : Ni y := hl y (by simp)
    show (l.set q (orN x m)).foldl orN (orN a y) = orN (l.foldl orN (orN a y)) m
    exact fold_set l q _ x m (fun x hx => hl x (by simp [hx])) (orN_ni ha hy) hm (by simpa using h)
theorem orL_fold (l : List Int) : orL l = l.foldl orN 0 := rfl
theorem orL_ni {l : List Int} (h : Nib l) : Ni (orL l) := by
  rw [orL_fold]
  have : ∀ (l : List Int) (a : Int), Nib l → Ni a → Ni (l.foldl orN a) := by
    intro l
    induction l with
    | nil => intro a _ ha; exact ha
    | cons z l ih => intro a hl ha; exact ih _ (fun x hx => hl x (by simp [hx])) (orN_ni ha (hl z (by simp)))
  exact this l 0 h ⟨by omega, by omega⟩
/-- A put, in the plain. -/
theorem putB_eq {nx : List Int} (hn : Nib nx) {i l : Int} (hl : 0 ≤ l ∧ l < 256) : (isB nx.length i = false ∧ putB nx i l = nx) ∨ ∃ (q : Nat) (x : Int), i = q ∧ nx[q]? = some x ∧ Ni x ∧ Ni (bits .and .u8 l 15) ∧ putB nx i l = nx.set q (orN x (bits .and .u8 l 15)) := by
  cases hi : isB nx.length i
  · exact .inl ⟨rfl, by unfold putB; rw [hi]; rfl⟩
  · right
    have hi' := hi
    unfold isB at hi'
    rw [Bool.and_eq_true, decide_eq_true_eq, decide_eq_true_eq] at hi'
    obtain ⟨q, rfl⟩ := Int.eq_ofNat_of_zero_le hi'.1
    obtain ⟨x, hx⟩ := get_some (l := nx) (i := q) (by omega)
    have hxn : Ni x := hn x (List.mem_of_getElem? hx)
    refine ⟨q, x, rfl, hx, hxn, and_nib hl, ?_⟩
    unfold putB
    rw [hi, Int.toNat_natCast, List.getD_eq_getElem?_getD, hx]
    show nx.set q (orL [x, _]) = _
    rw [orL_pair hxn]
theorem putB_nib {nx : List Int} (hn : Nib nx) {i l : Int} (hl : 0 ≤ l ∧ l < 256) : Nib (putB nx i l) := by
  rcases putB_eq hn (i := i) hl with ⟨_, h⟩ | ⟨q, x, _, _, hx, hm, h⟩
  · rw [h]; exact hn
  · rw [h]; exact nib_set hn (orN_ni hx hm) q
theorem drvN_set : ∀ (l : List Int) (q : Nat) (x y : Int), l[q]? = some x → (x ≠ 0 → y ≠ 0) → drvN l ≤ drvN (l.set q y)
  | [], q, x, y, h, _ => by simp at h
  | z :: l, 0, x, y, h, hxy => by
    simp at h
    subst h
    unfold drvN
    simp only [List.set_cons_zero, List.countP_cons]
    by_cases hz : z = 0
    · simp [hz]
    · simp [hz, hxy hz]
  | z :: l, q + 1, x, y, h, hxy => by
    have := drvN_set l q x y (by simpa using h) hxy
    unfold drvN at *
    simp only [List.set_cons_succ, List.countP_cons]
    omega
theorem putB_more {nx : List Int} (hn : Nib nx) {i l : Int} (hl : 0 ≤ l ∧ l < 256) : orL [orL nx, orL (putB nx i l)] = orL (putB nx i l) ∧ drvN nx ≤ drvN (putB nx i l) := by
  rcases putB_eq hn (i := i) hl with ⟨_, h⟩ | ⟨q, x, _, hx, hxn, hm, h⟩
  · rw [h, orL_pair (orL_ni hn)]
    refine ⟨?_, Nat.le_refl _⟩
    obtain ⟨u, hu⟩ := (orL_ni hn).fin
    rw [hu]
    have : ∀ a : Fin 16, orN (a.val : Int) (a.val : Int) = (a.val : Int) := by decide +kernel
    exact this u
  · rw [h, orL_pair (orL_ni hn), orL_fold (nx.set q _), fold_set nx q 0 x _ hn ⟨by omega, by omega⟩ hm hx, ← orL_fold]
    refine ⟨orN_again (orL_ni hn) hm, ?_⟩
    exact drvN_set nx q x _ hx fun h0 h1 => h0 (orN_nil hxn hm h1)
theorem putB_in {nx : List Int} {q : Nat} {x : Int} (hx : nx[q]? = some x) (hxn : Ni x) (l : Int) : putB nx q l = nx.set q (orN x (bits .and .u8 l 15)) := by
  have hq := (List.getElem?_eq_some_iff.1 hx).1
  unfold putB
  rw [show isB nx.length q = true by unfold isB; simp; omega, Int.toNat_natCast, List.getD_eq_getElem?_getD, hx]
  show nx.set q (orL [x, _]) = _
  rw [orL_pair hxn]
theorem putB_out {nx : List Int} {i : Int} (h : isB nx.length i = false) (l : Int) : putB nx i l = nx := by unfold putB; rw [h]; rfl
theorem putB_comm {nx : List Int} (hn : Nib nx) {i a j b : Int} (ha : 0 ≤ a ∧ a < 256) (hb : 0 ≤ b ∧ b < 256) : putB (putB nx i a) j b = putB (putB nx j b) i a := by
  rcases putB_eq hn (i := i) ha with ⟨h1, e1⟩ | ⟨q, x, rfl, hx, hxn, hma, e1⟩
  · rw [e1, putB_out (nx := putB nx j b) (by rw [putB_length]; exact h1)]
  · rcases putB_eq hn (i := j) hb with ⟨h2, e2⟩ | ⟨r, y, rfl, hy, hyn, hmb, e2⟩
    · rw [e2, putB_out (nx := putB nx q a) (by rw [putB_length]; exact h2)]
    · rw [e1, e2]
      have hq := (List.getElem?_eq_some_iff.1 hx).1
      have hr := (List.getElem?_eq_some_iff.1 hy).1
      by_cases h : q = r
      · subst h
        obtain rfl : x = y := by rw [hx] at hy; injection hy
        rw [putB_in (nx := nx.set q _) (q := q) (x := orN x (bits .and .u8 a 15)) (by rw [List.getElem?_set]; simp [hq]) (orN_ni hxn hma), putB_in (nx := nx.set q _) (q := q) (x := orN x (bits .and .u8 b 15)) (by rw [List.getElem?_set]; simp [hq]) (orN_ni hxn hmb), List.set_set, List.set_set, orN_swap hxn hma hmb]
      · rw [putB_in (nx := nx.set q _) (q := r) (x := y) (by rw [List.getElem?_set_ne h]; exact hy) hyn, putB_in (nx := nx.set r _) (q := q) (x := x) (by rw [List.getElem?_set_ne (Ne.symm h)]; exact hx) hxn, List.set_comm _ _ h]
/-- Many puts. -/
def putsB (nx : List Int) (l : List (Int × Int)) : List Int := l.foldl (fun nx p => putB nx p.1 p.2) nx
theorem putsB_snoc (nx : List Int) (l : List (Int × Int)) (p : Int × Int) : putsB nx (l ++ [p]) = putB (putsB nx l) p.1 p.2 := by simp [putsB]
def okP (l : List (Int × Int)) : Prop := ∀ p ∈ l, 0 ≤ p.2 ∧ p.2 < 256
theorem putsB_nib : ∀ (l : List (Int × Int)) (nx : List Int), Nib nx → okP l → Nib (putsB nx l)
  | [], nx, hn, _ => hn
  | p :: l, nx, hn, hl => putsB_nib l _ (putB_nib hn (hl p (by simp))) (fun x hx => hl x (by simp [hx]))
theorem putsB_length : ∀ (l : List (Int × Int)) (nx : List Int), (putsB nx l).length = nx.length
  | [], nx => rfl
  | p :: l, nx => by show (putsB (putB nx p.1 p.2) l).length = _; rw [putsB_length l, putB_length]
theorem putsB_cons : ∀ (l : List (Int × Int)) (nx : List Int) (p : Int × Int), Nib nx → okP l → (0 ≤ p.2 ∧ p.2 < 256) → putsB (putB nx p.1 p.2) l = putB (putsB nx l) p.1 p.2
  | [], _, _, _, _, _ => rfl
  | x :: l, nx, p, hn, hl, hp => by
    have hx := hl x (by simp)
    show putsB (putB (putB nx p.1 p.2) x.1 x.2) l = putB (putsB (putB nx x.1 x.2) l) p.1 p.2
    rw [putB_comm hn hp hx]
    exact putsB_cons l _ p (putB_nib hn hx) (fun y hy => hl y (by simp [hy])) hp
theorem putsB_reverse : ∀ (l : List (Int × Int)) (nx : List Int), Nib nx → okP l → putsB nx l.reverse = putsB nx l
  | [], _, _, _ => rfl
  | x :: l, nx, hn, hl => by
    have hx := hl x (by simp)
    have hl' : okP l := fun y hy => hl y (by simp [hy])
    rw [List.reverse_cons, putsB_snoc, putsB_reverse l nx hn hl']
    exact (putsB_cons l nx x hn hl' hx).symm
end
end Go.Proofs.Ytapppaccnkojkaa.R
