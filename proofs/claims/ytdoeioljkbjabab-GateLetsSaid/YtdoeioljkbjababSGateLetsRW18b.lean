/- The gate's layer: who is let, a pulse that is let. No conditions. -/
import Derived.Test.YtdoeioljkbjababSGateLetsRW18
import Derived.Test.YtdoeioljkbjababSGateLetsRW14c
set_option linter.unusedVariables false
set_option linter.unusedSimpArgs false
namespace Go.Proofs.Ytdoeioljkbjabab.R
open Go Go.RowKit Go.Proofs.Ytdoeioljkbjabab
set_option maxRecDepth 100000
set_option maxHeartbeats 8000000
theorem tyAllRW18b : type_of% (And.intro (And.intro (And.intro (And.intro (And.intro ty_1 (And.intro ty_2 ty_3)) (And.intro (And.intro ty_4 ty_5) (And.intro ty_6 ty_7))) (And.intro (And.intro ty_8 (And.intro ty_9 ty_10)) (And.intro (And.intro ty_11 ty_12) (And.intro ty_13 ty_14)))) (And.intro (And.intro (And.intro ty_15 (And.intro ty_16 ty_17)) (And.intro (And.intro ty_18 ty_19) (And.intro ty_21 ty_22))) (And.intro (And.intro (And.intro ty_23 ty_25) (And.intro ty_26 ty_27)) (And.intro (And.intro ty_28 ty_29) (And.intro ty_30 ty_31))))) (And.intro (And.intro (And.intro (And.intro ty_32 (And.intro ty_33 ty_34)) (And.intro (And.intro ty_35 ty_36) (And.intro ty_37 ty_38))) (And.intro (And.intro ty_39 (And.intro ty_41 ty_42)) (And.intro (And.intro ty_43 ty_45) (And.intro ty_48 ty_71)))) (And.intro (And.intro (And.intro ty_72 (And.intro ty_167 ty_168)) (And.intro (And.intro ty_169 ty_170) (And.intro ty_171 ty_172))) (And.intro (And.intro (And.intro ty_173 ty_174) (And.intro ty_175 ty_176)) (And.intro (And.intro ty_177 ty_178) (And.intro ty_179 ty_180)))))) := (And.intro (And.intro (And.intro (And.intro (And.intro ty_1 (And.intro ty_2 ty_3)) (And.intro (And.intro ty_4 ty_5) (And.intro ty_6 ty_7))) (And.intro (And.intro ty_8 (And.intro ty_9 ty_10)) (And.intro (And.intro ty_11 ty_12) (And.intro ty_13 ty_14)))) (And.intro (And.intro (And.intro ty_15 (And.intro ty_16 ty_17)) (And.intro (And.intro ty_18 ty_19) (And.intro ty_21 ty_22))) (And.intro (And.intro (And.intro ty_23 ty_25) (And.intro ty_26 ty_27)) (And.intro (And.intro ty_28 ty_29) (And.intro ty_30 ty_31))))) (And.intro (And.intro (And.intro (And.intro ty_32 (And.intro ty_33 ty_34)) (And.intro (And.intro ty_35 ty_36) (And.intro ty_37 ty_38))) (And.intro (And.intro ty_39 (And.intro ty_41 ty_42)) (And.intro (And.intro ty_43 ty_45) (And.intro ty_48 ty_71)))) (And.intro (And.intro (And.intro ty_72 (And.intro ty_167 ty_168)) (And.intro (And.intro ty_169 ty_170) (And.intro ty_171 ty_172))) (And.intro (And.intro (And.intro ty_173 ty_174) (And.intro ty_175 ty_176)) (And.intro (And.intro ty_177 ty_178) (And.intro ty_179 ty_180))))))
section
variable {W0 : World}
theorem or16 : ∀ a b : Fin 16, orL [(a.val : Int), 0] = (a.val : Int) ∧ orL [0, (b.val : Int)] = (b.val : Int) ∧ 0 ≤ orL [(a.val : Int), (b.val : Int)] ∧ orL [(a.val : Int), (b.val : Int)] ≤ 15 ∧ (orL [(a.val : Int), (b.val : Int)] = 0 ↔ (a.val : Int) = 0 ∧ (b.val : Int) = 0) := by decide +kernel
theorem or_15 {a b : Int} (ha : 0 ≤ a ∧ a ≤ 15) (hb : 0 ≤ b ∧ b ≤ 15) : orL [a, 0] = a ∧ orL [0, b] = b ∧ 0 ≤ orL [a, b] ∧ orL [a, b] ≤ 15 ∧ (orL [a, b] = 0 ↔ a = 0 ∧ b = 0) := by
  obtain ⟨x, rfl⟩ := Int.eq_ofNat_of_zero_le ha.1
  obtain ⟨y, rfl⟩ := Int.eq_ofNat_of_zero_le hb.1
  exact or16 ⟨x, by omega⟩ ⟨y, by omega⟩
theorem words_15 (s : SlotV) (c : Int) (ws : List Int) (y : Bool) (p : Int) : 0 ≤ wordsL s c ws y p ∧ wordsL s c ws y p ≤ 15 := by
  unfold wordsL drv; (repeat' split) <;> omega
theorem pulse_15 (s : SlotV) (y : Bool) (p : Int) : 0 ≤ pulseL s y p ∧ pulseL s y p ≤ 15 := by unfold pulseL pulL; (repeat' split) <;> omega
theorem drives_15 (s : SlotV) (r : RoleV) (y : Bool) (p : Int) : 0 ≤ drivesL s r y p ∧ drivesL s r y p ≤ 15 := by
  have h1 := words_15 s r.cand r.ws y p
  have h2 := pulse_15 s y p
  unfold drivesL
  have := @or_15
  split <;> split
  · have := or_15 h1 h2; omega
  · have := or_15 (a := 0) (by omega) h2; omega
  · exact h1
  · omega
theorem words_at {s : SlotV} {c : Int} {ws : List Int} {y : Bool} {p : Int} (h : wordsL s c ws y p ≠ 0) : 0 < bg s c ∧ bg s c ≤ p ∧ p < bg s c + 20 * longW s.words := by
  unfold wordsL at h
  split at h
  · rename_i hi
    unfold inB at hi
    simp only [Bool.and_eq_true, decide_eq_true_eq] at hi
    have hb : 0 ≤ bg s c := by unfold bg; split <;> omega
    unfold atN at hi
    split at hi
    · rename_i hw
      unfold wiB at hw
      split at hw
      · cases hw
      · simp only [decide_eq_true_eq] at hw; omega
    · omega
  · exact absurd rfl h
theorem pulse_at {s : SlotV} {y : Bool} {p : Int} (h : pulseL s y p ≠ 0) : (pulseOf s.kind s.long).1 ≤ p ∧ p < (pulseOf s.kind s.long).2 := by
  unfold pulseL at h
  split at h
  · exact absurd rfl h
  · omega
theorem drives_open {s : SlotV} {r : RoleV} {y : Bool} {p q : Int} (hq : p - 4 ≤ q ∧ q ≤ p + 4) (h : drivesL s r y p ≠ 0) : opensL s r q = true := by
  have h1 := words_15 s r.cand r.ws y p
  have h2 := pulse_15 s y p
  have key : (r.sends = true ∧ wordsL s r.cand r.ws y p ≠ 0) ∨ (r.pulses = true ∧ pulseL s y p ≠ 0) := by
    unfold drivesL at h
    split at h <;> rename_i hp <;> split at h <;> rename_i hs
    · have := (or_15 h1 h2).2.2.2.2
      by_cases hw : wordsL s r.cand r.ws y p = 0
      · exact .inr ⟨hp, fun e => h (this.2 ⟨hw, e⟩)⟩
      · exact .inl ⟨hs, hw⟩
    · have := (or_15 (a := 0) (by omega) h2).2.1
      rw [this] at h
      exact .inr ⟨hp, h⟩
    · exact .inl ⟨hs, h⟩
    · exact absurd rfl h
  unfold opensL nearL
  rcases key with ⟨hs, hw⟩ | ⟨hp, hw⟩
  · have := words_at hw
    rw [hs]; simp; left; omega
  · have := pulse_at hw
    rw [hp]; simp; right; omega
theorem alone_eq {s : SlotV} {r : RoleV} {x y : Int} (h : x - 4 ≤ y ∧ y ≤ x + 4) : aloneL s r x y = orL [drivesL s r false x, drivesL s r true y] := by
  have d1 := drives_15 s r false x
  have d2 := drives_15 s r true y
  have h1 : opensL s r y = false → drivesL s r false x = 0 := fun e => by
    by_cases hz : drivesL s r false x = 0
    · exact hz
    · rw [drives_open h hz] at e; cases e
  have h2 : opensL s r x = false → drivesL s r true y = 0 := fun e => by
    by_cases hz : drivesL s r true y = 0
    · exact hz
    · rw [drives_open (q := x) (by omega) hz] at e; cases e
  unfold aloneL
  cases hx : opensL s r x <;> cases hy : opensL s r y <;> simp only [Bool.false_eq_true, ↓reduceIte]
  · rw [h1 hy, h2 hx]; decide
  · rw [h2 hx, (or_15 d1 d1).1]
  · rw [h1 hy]
abbrev s18 : SlotV := ⟨2, 0, 120, 0, 0, 0, 0, false⟩
abbrev r18 : RoleV := ⟨false, 0, none, 0, [], true⟩
theorem r18_ok {m : Mem} : RoleOk W0 m r18 := ⟨⟨rfl, none, 0, rfl, .inl rfl⟩, fun x h => by simp at h, by decide⟩
theorem s18_ok : SlOk s18 := ⟨by decide, by decide, by decide⟩
theorem i64_lit (n : Int) (h : -9223372036854775808 ≤ n ∧ n ≤ 9223372036854775807) : inI64 n := h
theorem built18s : Try.prog.built 23 [(0, .int .i64 2), (2, .int .i64 120)] = some #[.int .i64 2, .int .i64 0, .int .i64 120, .int .i64 0, .int .i64 0, .int .i64 0, .int .i64 0, .bool false] := by kernel_rfl
theorem built18r : Try.prog.built 72 [(3, .bool true)] = some #[.bool false, .int .i64 0, .slice none 0 0, .bool true] := by kernel_rfl
theorem one18 {m : Mem} : Ret Try.prog W0 48 #[] m (.bool true) := by
  have f1 : opensL s18 r18 35 = false := by decide +kernel
  have f2 : opensL s18 r18 36 = true := by decide +kernel
  have f3 : opensL s18 r18 83 = true := by decide +kernel
  have f4 : opensL s18 r18 84 = false := by decide +kernel
  have f5 : drivesL s18 r18 true 40 = 12 := by decide +kernel
  have f6 : drivesL s18 r18 true 39 = 0 := by decide +kernel
  have f7 : aloneL s18 r18 40 40 = 15 := by decide +kernel
  refine ⟨fun K h => ?_⟩
  refine en_48 (l := []) (by simp [Try.ntmps48]) ?_
  have X : Ext m m := Ext.refl m
  simp (maxSteps := 2000000) only [Try.f48, Option.getD_some, vcCore, yieldT, Int.reduceEq, Int.reduceLT, Int.reduceLE, Int.reduceNe, not_true_eq_false, decide_true, decide_false, add_lit', Nat.zero_add, Nat.mul_one, Int.toNat_natCast, List.getElem?_toArray, List.getElem?_cons_zero, List.getElem?_cons_succ, Option.bind_some, List.map_cons, List.map_nil, List.map_toArray, Array.append_empty, Array.empty_append, List.append_nil, List.nil_append, List.append_toArray, ↓reduceIte, Nat.reduceEqDiff, Nat.reduceAdd, Nat.reduceLeDiff, List.contains_cons, List.contains_nil, Nat.reduceBEq, Bool.or_false, Bool.false_or, Bool.or_true, Bool.true_or, Bool.false_eq_true, Value.cells, List.size_toArray, List.length_cons, List.length_nil, Option.map_some, Option.map_none, Option.isSome_some, Option.isSome_none, Option.isNone_some, Option.isNone_none, true_and, and_true, ne_eq, reduceCtorEq, not_false_eq_true, Bool.not_true, Bool.not_false, tyAllRW18b, then_normal, Int.cast_ofNat_Int, BEq.rfl, bne_self_eq_false, beq_self_eq_true, Bool.and_true, Bool.true_and, Bool.and_false, Bool.false_and, Int.reduceBEq, Int.reduceBNe, Nat.reduceMul, Nat.reduceDiv, Int.reduceToNat, Int.reduceNeg, Int.reduceAdd, Int.reduceSub, Int.reduceMul, ext_lit, Nat.reduceSub, Nat.add_zero, mp2_app, resK_cc, implies_true, imp_self, bb_ft, bb_tf, bb_t, bb_f, bn_t, bn_f, Nat.reduceLT, Mem.set_app, Mem.set_set, Ext_mp1, Ext_two, st_agg, ones_nil, ones_cons, oc_int, oc_bool, oc_str, oc_ptr, oc_sl, oc_map, max_if, min_if, bld_nil, bld_cons, bldStep_some, wr_def, List.take_succ_cons, List.take_zero, List.drop_succ_cons, List.drop_zero, List.cons_append, List.toList_toArray]
  repeat' (first
    | simp (maxSteps := 2000000) only [vcCore, yieldT, Int.reduceEq, Int.reduceLT, Int.reduceLE, Int.reduceNe, not_true_eq_false, decide_true, decide_false, add_lit', Nat.zero_add, Nat.mul_one, Int.toNat_natCast, List.getElem?_toArray, List.getElem?_cons_zero, List.getElem?_cons_succ, Option.bind_some, List.map_cons, List.map_nil, List.map_toArray, Array.append_empty, Array.empty_append, List.append_nil, List.nil_append, List.append_toArray, ↓reduceIte, Nat.reduceEqDiff, Nat.reduceAdd, Nat.reduceLeDiff, List.contains_cons, List.contains_nil, Nat.reduceBEq, Bool.or_false, Bool.false_or, Bool.or_true, Bool.true_or, Bool.false_eq_true, Value.cells, List.size_toArray, List.length_cons, List.length_nil, Option.map_some, Option.map_none, Option.isSome_some, Option.isSome_none, Option.isNone_some, Option.isNone_none, true_and, and_true, ne_eq, reduceCtorEq, not_false_eq_true, Bool.not_true, Bool.not_false, tyAllRW18b, then_normal, Int.cast_ofNat_Int, BEq.rfl, bne_self_eq_false, beq_self_eq_true, Bool.and_true, Bool.true_and, Bool.and_false, Bool.false_and, Int.reduceBEq, Int.reduceBNe, Nat.reduceMul, Nat.reduceDiv, Int.reduceToNat, Int.reduceNeg, Int.reduceAdd, Int.reduceSub, Int.reduceMul, ext_lit, Nat.reduceSub, Nat.add_zero, mp2_app, resK_cc, implies_true, imp_self, bb_ft, bb_tf, bb_t, bb_f, bn_t, bn_f, Nat.reduceLT, Mem.set_app, Mem.set_set, Ext_mp1, Ext_two, st_agg, ones_nil, ones_cons, oc_int, oc_bool, oc_str, oc_ptr, oc_sl, oc_map, max_if, min_if, bld_nil, bld_cons, bldStep_some, wr_def, List.take_succ_cons, List.take_zero, List.drop_succ_cons, List.drop_zero, List.cons_append, List.toList_toArray, *, f1, f2, f3, f4, f5, f6, f7, built18s, built18r]
    | (rw [mset_eq b1]; generalize hM : mset _ b1 _ = mS; (try replace X := set_X hM X n1); (try replace N1 := set_N hM N1 n1 z1); (try (replace o2 := set_o hM o2 d21; replace c2 := blk_facts hb2 o2)); (try (replace o3 := set_o hM o3 d31; replace c3 := blk_facts hb3 o3)); (try (replace o4 := set_o hM o4 d41; replace c4 := blk_facts hb4 o4)); (try (replace o5 := set_o hM o5 d51; replace c5 := blk_facts hb5 o5)); replace o1 := set_same hM; clear hM; replace c1 := blk_facts hb1 o1)
    | (rw [mset_eq b2]; generalize hM : mset _ b2 _ = mS; (try replace X := set_X hM X n2); (try replace N1 := set_N hM N1 n2 z2); (try (replace o1 := set_o hM o1 d12; replace c1 := blk_facts hb1 o1)); (try (replace o3 := set_o hM o3 d32; replace c3 := blk_facts hb3 o3)); (try (replace o4 := set_o hM o4 d42; replace c4 := blk_facts hb4 o4)); (try (replace o5 := set_o hM o5 d52; replace c5 := blk_facts hb5 o5)); replace o2 := set_same hM; clear hM; replace c2 := blk_facts hb2 o2)
    | (rw [mset_eq b3]; generalize hM : mset _ b3 _ = mS; (try replace X := set_X hM X n3); (try replace N1 := set_N hM N1 n3 z3); (try (replace o1 := set_o hM o1 d13; replace c1 := blk_facts hb1 o1)); (try (replace o2 := set_o hM o2 d23; replace c2 := blk_facts hb2 o2)); (try (replace o4 := set_o hM o4 d43; replace c4 := blk_facts hb4 o4)); (try (replace o5 := set_o hM o5 d53; replace c5 := blk_facts hb5 o5)); replace o3 := set_same hM; clear hM; replace c3 := blk_facts hb3 o3)
    | (rw [mset_eq b4]; generalize hM : mset _ b4 _ = mS; (try replace X := set_X hM X n4); (try replace N1 := set_N hM N1 n4 z4); (try (replace o1 := set_o hM o1 d14; replace c1 := blk_facts hb1 o1)); (try (replace o2 := set_o hM o2 d24; replace c2 := blk_facts hb2 o2)); (try (replace o3 := set_o hM o3 d34; replace c3 := blk_facts hb3 o3)); (try (replace o5 := set_o hM o5 d54; replace c5 := blk_facts hb5 o5)); replace o4 := set_same hM; clear hM; replace c4 := blk_facts hb4 o4)
    | (rw [mset_eq b5]; generalize hM : mset _ b5 _ = mS; (try replace X := set_X hM X n5); (try replace N1 := set_N hM N1 n5 z5); (try (replace o1 := set_o hM o1 d15; replace c1 := blk_facts hb1 o1)); (try (replace o2 := set_o hM o2 d25; replace c2 := blk_facts hb2 o2)); (try (replace o3 := set_o hM o3 d35; replace c3 := blk_facts hb3 o3)); (try (replace o4 := set_o hM o4 d45; replace c4 := blk_facts hb4 o4)); replace o5 := set_same hM; clear hM; replace c5 := blk_facts hb5 o5)
    | ((first | (with_reducible refine Ret.use (gate_Opens (s := s18) (r := r18) s18_ok) fun m1 e1 => ?_) | (with_reducible refine Ret.use (gate_Drives (s := s18) (r := r18) s18_ok r18_ok (i64_lit _ (by decide))) fun m1 e1 => ?_) | (with_reducible refine Ret.use (gate_Alone (s := s18) (r := r18) s18_ok r18_ok (i64_lit _ (by decide)) (i64_lit _ (by decide))) fun m1 e1 => ?_)); (try replace X := X.trans e1); (try replace N1 := N1.later e1); (try replace w1 := w1.ext e1); (try replace u1 := own_facts w1); (try replace w2 := w2.ext e1); (try replace u2 := own_facts w2); (try replace w3 := w3.ext e1); (try replace u3 := own_facts w3); (try (replace o1 := e1 _ _ o1; replace c1 := blk_facts hb1 o1)); (try (replace o2 := e1 _ _ o2; replace c2 := blk_facts hb2 o2)); (try (replace o3 := e1 _ _ o3; replace c3 := blk_facts hb3 o3)); (try (replace o4 := e1 _ _ o4; replace c4 := blk_facts hb4 o4)); (try (replace o5 := e1 _ _ o5; replace c5 := blk_facts hb5 o5)))
    | (with_reducible refine Ret.q (fun m1 e1 => gate_Opens (s := s18) (r := r18) s18_ok) ?_)
    | (with_reducible refine Ret.q0 (fun m1 e1 => gate_Opens (s := s18) (r := r18) s18_ok) ?_)
    | (with_reducible refine Ret.q (fun m1 e1 => gate_Drives (s := s18) (r := r18) s18_ok r18_ok (i64_lit _ (by decide))) ?_)
    | (with_reducible refine Ret.q0 (fun m1 e1 => gate_Drives (s := s18) (r := r18) s18_ok r18_ok (i64_lit _ (by decide))) ?_)
    | (with_reducible refine Ret.q (fun m1 e1 => gate_Alone (s := s18) (r := r18) s18_ok r18_ok (i64_lit _ (by decide)) (i64_lit _ (by decide))) ?_)
    | (with_reducible refine Ret.q0 (fun m1 e1 => gate_Alone (s := s18) (r := r18) s18_ok r18_ok (i64_lit _ (by decide)) (i64_lit _ (by decide))) ?_)
    | ((first | ((with_reducible refine newK_init ?_ ?_ ?_ ?_); (focus (intro b; simp only [ev_tmp, ev_const, upd_app, reduceCtorEq, Nat.reduceEqDiff, Nat.reduceAdd, ↓reduceIte, Value.cells, List.size_toArray, List.length_cons, List.length_nil, st_int, st_bool, st_string, st_pointer, st_slice, st_map, st_agg, ones_nil, ones_cons, oc_int, oc_bool, oc_str, oc_ptr, oc_sl, oc_map, Bool.and_true, tyAllRW18b, Option.map_some]; done)); (focus (simp only [ev_tmp, ev_const, upd_app, reduceCtorEq, Nat.reduceEqDiff, Nat.reduceAdd, ↓reduceIte, Value.cells, List.size_toArray, List.length_cons, List.length_nil, st_int, st_bool, st_string, st_pointer, st_slice, st_map, st_agg, ones_nil, ones_cons, oc_int, oc_bool, oc_str, oc_ptr, oc_sl, oc_map, Bool.and_true, tyAllRW18b, Option.map_some]; done)); (focus (intro b; simp only [ev_tmp, ev_const, upd_app, reduceCtorEq, Nat.reduceEqDiff, Nat.reduceAdd, ↓reduceIte, Value.cells, List.size_toArray, List.length_cons, List.length_nil, st_int, st_bool, st_string, st_pointer, st_slice, st_map, st_agg, ones_nil, ones_cons, oc_int, oc_bool, oc_str, oc_ptr, oc_sl, oc_map, Bool.and_true, tyAllRW18b, Option.map_some]; done))) | ((with_reducible refine newK.id ?_); refine newK_intro ?_) | ((with_reducible refine RunA.id ?_); (first | with_reducible refine rbuild1 sl_28 ze_31 ?_ ?_ ?_ | with_reducible refine rbuild1 sl_36 ze_5 ?_ ?_ ?_ | with_reducible refine rbuild1 sl_41 ze_29 ?_ ?_ ?_); (focus (simp only [Value.cells, List.size_toArray, List.length_cons, List.length_nil]; done)); (focus decide)) | ((first | with_reducible refine bG1 sl_28 ze_31 ?_ ?_ ?_ | with_reducible refine bG1 sl_36 ze_5 ?_ ?_ ?_ | with_reducible refine bG1 sl_41 ze_29 ?_ ?_ ?_); (focus (simp only [Value.cells, List.size_toArray, List.length_cons, List.length_nil]; done)); (focus decide)) | ((with_reducible refine RunA.id ?_); (first | with_reducible refine rbuild2 sl_28 ze_31 rfl rfl ?_ | with_reducible refine rbuild2 sl_36 ze_5 rfl rfl ?_ | with_reducible refine rbuild2 sl_41 ze_29 rfl rfl ?_)) | (first | with_reducible refine bG2 sl_28 ze_31 rfl rfl ?_ | with_reducible refine bG2 sl_36 ze_5 rfl rfl ?_ | with_reducible refine bG2 sl_41 ze_29 rfl rfl ?_)); (first | (have := o4; intro b5 m1 hb5 n5 e1 o5; (try (have d51 := ne_of o1 n5; have d15 := d51.symm)); (try (have d52 := ne_of o2 n5; have d25 := d52.symm)); (try (have d53 := ne_of o3 n5; have d35 := d53.symm)); (try (have d54 := ne_of o4 n5; have d45 := d54.symm)); (try have z5 := own_ne N1.own n5); replace n5 := none_of X n5; (try simp only [ev_tmp, ev_const, upd_app, reduceCtorEq, Nat.reduceEqDiff, Nat.reduceAdd, ↓reduceIte, Value.cells, List.size_toArray, List.length_cons, List.length_nil, st_int, st_bool, st_string, st_pointer, st_slice, st_map, st_agg, ones_nil, ones_cons, oc_int, oc_bool, oc_str, oc_ptr, oc_sl, oc_map, Bool.and_true, tyAllRW18b, Option.map_some] at o5)) | (have := o3; intro b4 m1 hb4 n4 e1 o4; (try (have d41 := ne_of o1 n4; have d14 := d41.symm)); (try (have d42 := ne_of o2 n4; have d24 := d42.symm)); (try (have d43 := ne_of o3 n4; have d34 := d43.symm)); (try have z4 := own_ne N1.own n4); replace n4 := none_of X n4; (try simp only [ev_tmp, ev_const, upd_app, reduceCtorEq, Nat.reduceEqDiff, Nat.reduceAdd, ↓reduceIte, Value.cells, List.size_toArray, List.length_cons, List.length_nil, st_int, st_bool, st_string, st_pointer, st_slice, st_map, st_agg, ones_nil, ones_cons, oc_int, oc_bool, oc_str, oc_ptr, oc_sl, oc_map, Bool.and_true, tyAllRW18b, Option.map_some] at o4)) | (have := o2; intro b3 m1 hb3 n3 e1 o3; (try (have d31 := ne_of o1 n3; have d13 := d31.symm)); (try (have d32 := ne_of o2 n3; have d23 := d32.symm)); (try have z3 := own_ne N1.own n3); replace n3 := none_of X n3; (try simp only [ev_tmp, ev_const, upd_app, reduceCtorEq, Nat.reduceEqDiff, Nat.reduceAdd, ↓reduceIte, Value.cells, List.size_toArray, List.length_cons, List.length_nil, st_int, st_bool, st_string, st_pointer, st_slice, st_map, st_agg, ones_nil, ones_cons, oc_int, oc_bool, oc_str, oc_ptr, oc_sl, oc_map, Bool.and_true, tyAllRW18b, Option.map_some] at o3)) | (have := o1; intro b2 m1 hb2 n2 e1 o2; (try (have d21 := ne_of o1 n2; have d12 := d21.symm)); (try have z2 := own_ne N1.own n2); replace n2 := none_of X n2; (try simp only [ev_tmp, ev_const, upd_app, reduceCtorEq, Nat.reduceEqDiff, Nat.reduceAdd, ↓reduceIte, Value.cells, List.size_toArray, List.length_cons, List.length_nil, st_int, st_bool, st_string, st_pointer, st_slice, st_map, st_agg, ones_nil, ones_cons, oc_int, oc_bool, oc_str, oc_ptr, oc_sl, oc_map, Bool.and_true, tyAllRW18b, Option.map_some] at o2)) | (intro b1 m1 hb1 n1 e1 o1; (try have z1 := own_ne N1.own n1); replace n1 := none_of X n1; (try simp only [ev_tmp, ev_const, upd_app, reduceCtorEq, Nat.reduceEqDiff, Nat.reduceAdd, ↓reduceIte, Value.cells, List.size_toArray, List.length_cons, List.length_nil, st_int, st_bool, st_string, st_pointer, st_slice, st_map, st_agg, ones_nil, ones_cons, oc_int, oc_bool, oc_str, oc_ptr, oc_sl, oc_map, Bool.and_true, tyAllRW18b, Option.map_some] at o1))); (try replace X := X.trans e1); (try replace N1 := N1.later e1); (try replace w1 := w1.ext e1); (try replace u1 := own_facts w1); (try replace w2 := w2.ext e1); (try replace u2 := own_facts w2); (try replace w3 := w3.ext e1); (try replace u3 := own_facts w3); (try (replace o1 := e1 _ _ o1; replace c1 := blk_facts hb1 o1)); (try (replace o2 := e1 _ _ o2; replace c2 := blk_facts hb2 o2)); (try (replace o3 := e1 _ _ o3; replace c3 := blk_facts hb3 o3)); (try (replace o4 := e1 _ _ o4; replace c4 := blk_facts hb4 o4)); (try (replace o5 := e1 _ _ o5; replace c5 := blk_facts hb5 o5)); (try have c1 := blk_facts hb1 o1); (try have c2 := blk_facts hb2 o2); (try have c3 := blk_facts hb3 o3); (try have c4 := blk_facts hb4 o4); (try have c5 := blk_facts hb5 o5))
    | ((with_reducible refine RunA.id ?_); (first | (first | with_reducible refine app_one sl_28 ze_31 by_31 ⟨rfl, by decide⟩ N1 hb5 o5 ?_ ?_ ?_ ?_ | with_reducible refine app_one sl_36 ze_5 by_5 ⟨rfl, by decide⟩ N1 hb5 o5 ?_ ?_ ?_ ?_ | with_reducible refine app_one sl_41 ze_29 by_29 ⟨rfl, by decide⟩ N1 hb5 o5 ?_ ?_ ?_ ?_) | (first | with_reducible refine app_one sl_28 ze_31 by_31 ⟨rfl, by decide⟩ N1 hb4 o4 ?_ ?_ ?_ ?_ | with_reducible refine app_one sl_36 ze_5 by_5 ⟨rfl, by decide⟩ N1 hb4 o4 ?_ ?_ ?_ ?_ | with_reducible refine app_one sl_41 ze_29 by_29 ⟨rfl, by decide⟩ N1 hb4 o4 ?_ ?_ ?_ ?_) | (first | with_reducible refine app_one sl_28 ze_31 by_31 ⟨rfl, by decide⟩ N1 hb3 o3 ?_ ?_ ?_ ?_ | with_reducible refine app_one sl_36 ze_5 by_5 ⟨rfl, by decide⟩ N1 hb3 o3 ?_ ?_ ?_ ?_ | with_reducible refine app_one sl_41 ze_29 by_29 ⟨rfl, by decide⟩ N1 hb3 o3 ?_ ?_ ?_ ?_) | (first | with_reducible refine app_one sl_28 ze_31 by_31 ⟨rfl, by decide⟩ N1 hb2 o2 ?_ ?_ ?_ ?_ | with_reducible refine app_one sl_36 ze_5 by_5 ⟨rfl, by decide⟩ N1 hb2 o2 ?_ ?_ ?_ ?_ | with_reducible refine app_one sl_41 ze_29 by_29 ⟨rfl, by decide⟩ N1 hb2 o2 ?_ ?_ ?_ ?_) | (first | with_reducible refine app_one sl_28 ze_31 by_31 ⟨rfl, by decide⟩ N1 hb1 o1 ?_ ?_ ?_ ?_ | with_reducible refine app_one sl_36 ze_5 by_5 ⟨rfl, by decide⟩ N1 hb1 o1 ?_ ?_ ?_ ?_ | with_reducible refine app_one sl_41 ze_29 by_29 ⟨rfl, by decide⟩ N1 hb1 o1 ?_ ?_ ?_ ?_)); (focus rfl); (focus (simp only [List.toList_toArray, st_agg, ones_nil, ones_cons, oc_int, oc_bool, oc_str, oc_ptr, oc_sl, oc_map, Bool.and_true]; done)); (focus (constructor <;> first | omega | (simp only [maxLen]; omega))); intro A1 q1 m1 N1 k1; replace X := N1.ext; (try (replace z1 := k1 _ _ o1 z1; replace o1 := z1.1; replace z1 := z1.2; replace c1 := blk_facts hb1 o1)); (try (replace z2 := k1 _ _ o2 z2; replace o2 := z2.1; replace z2 := z2.2; replace c2 := blk_facts hb2 o2)); (try (replace z3 := k1 _ _ o3 z3; replace o3 := z3.1; replace z3 := z3.2; replace c3 := blk_facts hb3 o3)); (try (replace z4 := k1 _ _ o4 z4; replace o4 := z4.1; replace z4 := z4.2; replace c4 := blk_facts hb4 o4)); (try (replace z5 := k1 _ _ o5 z5; replace o5 := z5.1; replace z5 := z5.2; replace c5 := blk_facts hb5 o5)))
    | ((first | with_reducible refine rsl_hZ sl_28 ?_ ?_ ?_ | with_reducible refine rsl_hZ sl_36 ?_ ?_ ?_ | with_reducible refine rsl_hZ sl_41 ?_ ?_ ?_); (iterate 2 (focus (first | omega | (simp only [*] <;> omega)))))
    | ((first | with_reducible refine rsl_lZ sl_28 ?_ ?_ ?_ | with_reducible refine rsl_lZ sl_36 ?_ ?_ ?_ | with_reducible refine rsl_lZ sl_41 ?_ ?_ ?_); (iterate 2 (focus (first | omega | (simp only [*] <;> omega)))))
    | ((with_reducible refine CodeA.id ?_); (first | fail))
    | ((with_reducible refine And.intro ?_ ?_); (focus omega))
    | with_reducible refine cK_both _ _ _ _ _ _ (fun hc => ?_) (fun hc => ?_)
    | ((with_reducible refine gO_both _ _ (fun hc => ?_) (fun hc => ?_)) <;> (try simp only [Bool.not_true, Bool.not_false] at hc))
    | with_reducible refine pickK_both _ (fun hc => ?_) (fun hc => ?_))
end
end Go.Proofs.Ytdoeioljkbjabab.R
