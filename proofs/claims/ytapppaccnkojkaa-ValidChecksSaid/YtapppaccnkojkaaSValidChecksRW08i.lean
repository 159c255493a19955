/- The document's answer of the validity layer: schedules. No conditions. -/
import Derived.Test.YtapppaccnkojkaaSValidChecksRW08g
set_option linter.unusedVariables false
set_option linter.unusedSimpArgs false
namespace Go.Proofs.Ytapppaccnkojkaa.R
open Go Go.RowKit Go.Proofs.Ytapppaccnkojkaa
set_option maxRecDepth 100000
set_option maxHeartbeats 8000000
theorem tyAllRW08i : type_of% (And.intro (And.intro ty_3 (And.intro ty_4 ty_76)) (And.intro (And.intro ty_93 ty_135) (And.intro ty_137 ty_143))) := (And.intro (And.intro ty_3 (And.intro ty_4 ty_76)) (And.intro (And.intro ty_93 ty_135) (And.intro ty_137 ty_143)))
section
variable {W0 : World}
theorem maxFrom_any : ∀ (l : List Int) (a : Int), (200 < maxFrom a l) ↔ (200 < a ∨ l.any (fun x => decide (200 < x)) = true)
  | [], a => by simp [maxFrom]
  | x :: l, a => by
    unfold maxFrom
    rw [maxFrom_any l (max a x), List.any_cons, Bool.or_eq_true, decide_eq_true_eq]
    constructor
    · rintro (h | h)
      · rcases (by omega : 200 < a ∨ 200 < x) with h | h
        · exact .inl h
        · exact .inr (.inl h)
      · exact .inr (.inr h)
    · rintro (h | h | h)
      · exact .inl (by omega)
      · exact .inl (by omega)
      · exact .inr h
theorem maxL_any {l : List Int} (h : 0 < l.length) : (200 < maxL l) ↔ l.any (fun x => decide (200 < x)) = true := by
  cases l with
  | nil => simp at h
  | cons x l =>
    show 200 < maxFrom x l ↔ _
    rw [maxFrom_any, List.any_cons, Bool.or_eq_true, decide_eq_true_eq]
theorem frE_many {l : List WinV} {k v : Int} (h : 32 < l.length) : frE l k v = (-1, 3) := by unfold frE; rw [if_pos h]
theorem frE_bad {l : List WinV} {k v e : Int} {i : Nat} (h : ¬ 32 < l.length) (hb : badAt k 0 l = some (i, e)) : frE l k v = ((i : Int), e) := by unfold frE; rw [if_neg h, hb]
theorem frE_far {l : List WinV} {k v : Int} (h : ¬ 32 < l.length) (hb : badAt k 0 l = none) (hs : (spansOf v l).any (fun x => decide (200 < x)) = true) : frE l k v = (-1, 16) := by
  unfold frE; rw [if_neg h, hb]; simp only; rw [if_pos ((maxL_any (spansOf_pos v l)).2 hs)]
theorem frE_ok {l : List WinV} {k v : Int} (h : ¬ 32 < l.length) (hb : badAt k 0 l = none) (hs : (spansOf v l).any (fun x => decide (200 < x)) = false) : frE l k v = (0, 0) := by
  unfold frE; rw [if_neg h, hb]; simp only; rw [if_neg (fun q => by rw [(maxL_any (spansOf_pos v l)).1 q] at hs; cases hs)]
theorem check_0 {s : SchV} (hm : ¬ (s.mods < 2 ∨ 16 < s.mods)) (h : (frE s.f0.l s.mods 0).2 ≠ 0) : checkE s = (0, (frE s.f0.l s.mods 0).1, (frE s.f0.l s.mods 0).2) := by unfold checkE; rw [if_neg hm, if_pos h]
theorem check_1 {s : SchV} (hm : ¬ (s.mods < 2 ∨ 16 < s.mods)) (h0 : (frE s.f0.l s.mods 0).2 = 0) (h : (frE s.f1.l s.mods 1).2 ≠ 0) : checkE s = (1, (frE s.f1.l s.mods 1).1, (frE s.f1.l s.mods 1).2) := by unfold checkE; rw [if_neg hm, if_neg (by omega), if_pos h]
theorem check_2 {s : SchV} (hm : ¬ (s.mods < 2 ∨ 16 < s.mods)) (h0 : (frE s.f0.l s.mods 0).2 = 0) (h : (frE s.f1.l s.mods 1).2 = 0) : checkE s = (0, 0, 0) := by unfold checkE; rw [if_neg hm, if_neg (by omega), if_neg (by omega)]
abbrev tup3 (x : Int × Int × Int) : Value := .tuple #[.int .i64 x.1, .int .i64 x.2.1, .int .i64 x.2.2]
theorem ref08_Check {m : Mem} {s : SchV} {A0 A1 : Option Addr} {y0 y1 : Nat} (k0 : ∀ M, Ext m M → WinsOk W0 M ⟨A0, y0, s.f0.l⟩) (k1 : ∀ M, Ext m M → WinsOk W0 M ⟨A1, y1, s.f1.l⟩) :
    Ret Try.prog W0 82 #[.int .i64 s.mods, .agg #[.slice A0 s.f0.l.length y0, .slice A1 s.f1.l.length y1]] m (tup3 (checkE s)) := by
  by_cases hm : s.mods < 2 ∨ 16 < s.mods
  · have e : checkE s = (0, -1, 2) := by unfold checkE; rw [if_pos hm]
    rw [e]
    rcases (by omega : s.mods < 2 ∨ (¬ s.mods < 2 ∧ 16 < s.mods)) with g | ⟨g, g'⟩
    all_goals
      clear hm e
      refine ⟨fun K h => ?_⟩
      refine en_82 (l := [.int .i64 s.mods, .agg #[.slice A0 s.f0.l.length y0, .slice A1 s.f1.l.length y1]]) (by simp [Try.ntmps82]) ?_
      have X : Ext m m := Ext.refl m
      simp (maxSteps := 2000000) only [Try.f82, Option.getD_some, vcCore, yieldT, Int.reduceEq, Int.reduceLT, Int.reduceLE, Int.reduceNe, not_true_eq_false, decide_true, decide_false, add_lit', Nat.zero_add, Nat.mul_one, Int.toNat_natCast, List.getElem?_toArray, List.getElem?_cons_zero, List.getElem?_cons_succ, Option.bind_some, List.map_cons, List.map_nil, List.map_toArray, Array.append_empty, Array.empty_append, List.append_nil, List.nil_append, List.append_toArray, ↓reduceIte, Nat.reduceEqDiff, Nat.reduceAdd, Nat.reduceLeDiff, List.contains_cons, List.contains_nil, Nat.reduceBEq, Bool.or_false, Bool.false_or, Bool.or_true, Bool.true_or, Bool.false_eq_true, Value.cells, List.size_toArray, List.length_cons, List.length_nil, Option.map_some, Option.map_none, Option.isSome_some, Option.isSome_none, Option.isNone_some, Option.isNone_none, true_and, and_true, ne_eq, reduceCtorEq, not_false_eq_true, Bool.not_true, Bool.not_false, tyAllRW08i, then_normal, Int.cast_ofNat_Int, BEq.rfl, bne_self_eq_false, beq_self_eq_true, Bool.and_true, Bool.true_and, Bool.and_false, Bool.false_and, Int.reduceBEq, Int.reduceBNe, Nat.reduceMul, Nat.reduceDiv, Int.reduceToNat, Int.reduceNeg, Int.reduceAdd, Int.reduceSub, Int.reduceMul, ext_lit, Nat.reduceSub, Nat.add_zero, mp2_app, resK_cc, implies_true, imp_self, bb_ft, bb_tf, bb_t, bb_f, bn_t, bn_f, Nat.reduceLT, Mem.set_app, Mem.set_set, Ext_mp1, Ext_two, st_agg, ones_nil, ones_cons, oc_int, oc_bool, oc_str, oc_ptr, oc_sl, oc_map, max_if, min_if, bld_nil, bld_cons, bldStep_some, wr_def, List.take_succ_cons, List.take_zero, List.drop_succ_cons, List.drop_zero, List.cons_append, List.toList_toArray]
      repeat' (first
        | simp (maxSteps := 2000000) only [vcCore, yieldT, Int.reduceEq, Int.reduceLT, Int.reduceLE, Int.reduceNe, not_true_eq_false, decide_true, decide_false, add_lit', Nat.zero_add, Nat.mul_one, Int.toNat_natCast, List.getElem?_toArray, List.getElem?_cons_zero, List.getElem?_cons_succ, Option.bind_some, List.map_cons, List.map_nil, List.map_toArray, Array.append_empty, Array.empty_append, List.append_nil, List.nil_append, List.append_toArray, ↓reduceIte, Nat.reduceEqDiff, Nat.reduceAdd, Nat.reduceLeDiff, List.contains_cons, List.contains_nil, Nat.reduceBEq, Bool.or_false, Bool.false_or, Bool.or_true, Bool.true_or, Bool.false_eq_true, Value.cells, List.size_toArray, List.length_cons, List.length_nil, Option.map_some, Option.map_none, Option.isSome_some, Option.isSome_none, Option.isNone_some, Option.isNone_none, true_and, and_true, ne_eq, reduceCtorEq, not_false_eq_true, Bool.not_true, Bool.not_false, tyAllRW08i, then_normal, Int.cast_ofNat_Int, BEq.rfl, bne_self_eq_false, beq_self_eq_true, Bool.and_true, Bool.true_and, Bool.and_false, Bool.false_and, Int.reduceBEq, Int.reduceBNe, Nat.reduceMul, Nat.reduceDiv, Int.reduceToNat, Int.reduceNeg, Int.reduceAdd, Int.reduceSub, Int.reduceMul, ext_lit, Nat.reduceSub, Nat.add_zero, mp2_app, resK_cc, implies_true, imp_self, bb_ft, bb_tf, bb_t, bb_f, bn_t, bn_f, Nat.reduceLT, Mem.set_app, Mem.set_set, Ext_mp1, Ext_two, st_agg, ones_nil, ones_cons, oc_int, oc_bool, oc_str, oc_ptr, oc_sl, oc_map, max_if, min_if, bld_nil, bld_cons, bldStep_some, wr_def, List.take_succ_cons, List.take_zero, List.drop_succ_cons, List.drop_zero, List.cons_append, List.toList_toArray, *]
        | ((first | ((with_reducible refine newK_init ?_ ?_ ?_ ?_); (focus (intro b; simp only [ev_tmp, ev_const, upd_app, reduceCtorEq, Nat.reduceEqDiff, Nat.reduceAdd, ↓reduceIte, Value.cells, List.size_toArray, List.length_cons, List.length_nil, st_int, st_bool, st_string, st_pointer, st_slice, st_map, st_agg, ones_nil, ones_cons, oc_int, oc_bool, oc_str, oc_ptr, oc_sl, oc_map, Bool.and_true, tyAllRW08i, Option.map_some]; done)); (focus (simp only [ev_tmp, ev_const, upd_app, reduceCtorEq, Nat.reduceEqDiff, Nat.reduceAdd, ↓reduceIte, Value.cells, List.size_toArray, List.length_cons, List.length_nil, st_int, st_bool, st_string, st_pointer, st_slice, st_map, st_agg, ones_nil, ones_cons, oc_int, oc_bool, oc_str, oc_ptr, oc_sl, oc_map, Bool.and_true, tyAllRW08i, Option.map_some]; done)); (focus (intro b; simp only [ev_tmp, ev_const, upd_app, reduceCtorEq, Nat.reduceEqDiff, Nat.reduceAdd, ↓reduceIte, Value.cells, List.size_toArray, List.length_cons, List.length_nil, st_int, st_bool, st_string, st_pointer, st_slice, st_map, st_agg, ones_nil, ones_cons, oc_int, oc_bool, oc_str, oc_ptr, oc_sl, oc_map, Bool.and_true, tyAllRW08i, Option.map_some]; done))) | ((with_reducible refine newK.id ?_); refine newK_intro ?_) | ((with_reducible refine RunA.id ?_); (first | with_reducible refine rbuild1 sl_76 ze_3 ?_ ?_ ?_ | with_reducible refine rbuild1 sl_135 ze_143 ?_ ?_ ?_); (focus (simp only [Value.cells, List.size_toArray, List.length_cons, List.length_nil]; done)); (focus decide)) | ((first | with_reducible refine bG1 sl_76 ze_3 ?_ ?_ ?_ | with_reducible refine bG1 sl_135 ze_143 ?_ ?_ ?_); (focus (simp only [Value.cells, List.size_toArray, List.length_cons, List.length_nil]; done)); (focus decide)) | ((with_reducible refine RunA.id ?_); (first | with_reducible refine rbuild2 sl_76 ze_3 rfl rfl ?_ | with_reducible refine rbuild2 sl_135 ze_143 rfl rfl ?_)) | (first | with_reducible refine bG2 sl_76 ze_3 rfl rfl ?_ | with_reducible refine bG2 sl_135 ze_143 rfl rfl ?_)); (first | (have := o1; intro b2 m1 hb2 n2 e1 o2; (try (have d21 := ne_of o1 n2; have d12 := d21.symm)); replace n2 := none_of X n2; (try simp only [ev_tmp, ev_const, upd_app, reduceCtorEq, Nat.reduceEqDiff, Nat.reduceAdd, ↓reduceIte, Value.cells, List.size_toArray, List.length_cons, List.length_nil, st_int, st_bool, st_string, st_pointer, st_slice, st_map, st_agg, ones_nil, ones_cons, oc_int, oc_bool, oc_str, oc_ptr, oc_sl, oc_map, Bool.and_true, tyAllRW08i, Option.map_some] at o2)) | (intro b1 m1 hb1 n1 e1 o1; replace n1 := none_of X n1; (try simp only [ev_tmp, ev_const, upd_app, reduceCtorEq, Nat.reduceEqDiff, Nat.reduceAdd, ↓reduceIte, Value.cells, List.size_toArray, List.length_cons, List.length_nil, st_int, st_bool, st_string, st_pointer, st_slice, st_map, st_agg, ones_nil, ones_cons, oc_int, oc_bool, oc_str, oc_ptr, oc_sl, oc_map, Bool.and_true, tyAllRW08i, Option.map_some] at o1))); (try replace X := X.trans e1); (try replace w1 := w1.ext e1); (try replace u1 := own_facts w1); (try replace w2 := w2.ext e1); (try replace u2 := own_facts w2); (try replace w3 := w3.ext e1); (try replace u3 := own_facts w3); (try (replace o1 := e1 _ _ o1; replace c1 := blk_facts hb1 o1)); (try (replace o2 := e1 _ _ o2; replace c2 := blk_facts hb2 o2)); (try have c1 := blk_facts hb1 o1); (try have c2 := blk_facts hb2 o2))
        | ((with_reducible refine CodeA.id ?_); (first | fail))
        | ((with_reducible refine And.intro ?_ ?_); (focus omega))
        | with_reducible refine cK_both _ _ _ _ _ _ (fun hc => ?_) (fun hc => ?_)
        | ((with_reducible refine gO_both _ _ (fun hc => ?_) (fun hc => ?_)) <;> (try simp only [Bool.not_true, Bool.not_false] at hc))
        | ((with_reducible refine gH_both _ _ (fun hc => ?_) (fun hc => ?_)) <;> (try simp only [Bool.not_true, Bool.not_false] at hc))
        | with_reducible refine pickK_both _ (fun hc => ?_) (fun hc => ?_))
  · have g : ¬ s.mods < 2 := by omega
    have g' : ¬ 16 < s.mods := by omega
    have hc0 := check_0 hm
    have hc1 := check_1 hm
    have hc2 := check_2 hm
    replace hc0 : Hid _ := hc0
    replace hc1 : Hid _ := hc1
    replace hc2 : Hid _ := hc2
    clear hm
    refine ⟨fun K h => ?_⟩
    refine en_82 (l := [.int .i64 s.mods, .agg #[.slice A0 s.f0.l.length y0, .slice A1 s.f1.l.length y1]]) (by simp [Try.ntmps82]) ?_
    have X : Ext m m := Ext.refl m
    simp (maxSteps := 2000000) only [Try.f82, Option.getD_some, vcCore, yieldT, Int.reduceEq, Int.reduceLT, Int.reduceLE, Int.reduceNe, not_true_eq_false, decide_true, decide_false, add_lit', Nat.zero_add, Nat.mul_one, Int.toNat_natCast, List.getElem?_toArray, List.getElem?_cons_zero, List.getElem?_cons_succ, Option.bind_some, List.map_cons, List.map_nil, List.map_toArray, Array.append_empty, Array.empty_append, List.append_nil, List.nil_append, List.append_toArray, ↓reduceIte, Nat.reduceEqDiff, Nat.reduceAdd, Nat.reduceLeDiff, List.contains_cons, List.contains_nil, Nat.reduceBEq, Bool.or_false, Bool.false_or, Bool.or_true, Bool.true_or, Bool.false_eq_true, Value.cells, List.size_toArray, List.length_cons, List.length_nil, Option.map_some, Option.map_none, Option.isSome_some, Option.isSome_none, Option.isNone_some, Option.isNone_none, true_and, and_true, ne_eq, reduceCtorEq, not_false_eq_true, Bool.not_true, Bool.not_false, tyAllRW08i, then_normal, Int.cast_ofNat_Int, BEq.rfl, bne_self_eq_false, beq_self_eq_true, Bool.and_true, Bool.true_and, Bool.and_false, Bool.false_and, Int.reduceBEq, Int.reduceBNe, Nat.reduceMul, Nat.reduceDiv, Int.reduceToNat, Int.reduceNeg, Int.reduceAdd, Int.reduceSub, Int.reduceMul, ext_lit, Nat.reduceSub, Nat.add_zero, mp2_app, resK_cc, implies_true, imp_self, bb_ft, bb_tf, bb_t, bb_f, bn_t, bn_f, Nat.reduceLT, Mem.set_app, Mem.set_set, Ext_mp1, Ext_two, st_agg, ones_nil, ones_cons, oc_int, oc_bool, oc_str, oc_ptr, oc_sl, oc_map, max_if, min_if, bld_nil, bld_cons, bldStep_some, wr_def, List.take_succ_cons, List.take_zero, List.drop_succ_cons, List.drop_zero, List.cons_append, List.toList_toArray]
    replace h : Hid _ := h
    repeat' (first
      | simp (maxSteps := 2000000) only [vcCore, yieldT, Int.reduceEq, Int.reduceLT, Int.reduceLE, Int.reduceNe, not_true_eq_false, decide_true, decide_false, add_lit', Nat.zero_add, Nat.mul_one, Int.toNat_natCast, List.getElem?_toArray, List.getElem?_cons_zero, List.getElem?_cons_succ, Option.bind_some, List.map_cons, List.map_nil, List.map_toArray, Array.append_empty, Array.empty_append, List.append_nil, List.nil_append, List.append_toArray, ↓reduceIte, Nat.reduceEqDiff, Nat.reduceAdd, Nat.reduceLeDiff, List.contains_cons, List.contains_nil, Nat.reduceBEq, Bool.or_false, Bool.false_or, Bool.or_true, Bool.true_or, Bool.false_eq_true, Value.cells, List.size_toArray, List.length_cons, List.length_nil, Option.map_some, Option.map_none, Option.isSome_some, Option.isSome_none, Option.isNone_some, Option.isNone_none, true_and, and_true, ne_eq, reduceCtorEq, not_false_eq_true, Bool.not_true, Bool.not_false, tyAllRW08i, then_normal, Int.cast_ofNat_Int, BEq.rfl, bne_self_eq_false, beq_self_eq_true, Bool.and_true, Bool.true_and, Bool.and_false, Bool.false_and, Int.reduceBEq, Int.reduceBNe, Nat.reduceMul, Nat.reduceDiv, Int.reduceToNat, Int.reduceNeg, Int.reduceAdd, Int.reduceSub, Int.reduceMul, ext_lit, Nat.reduceSub, Nat.add_zero, mp2_app, resK_cc, implies_true, imp_self, bb_ft, bb_tf, bb_t, bb_f, bn_t, bn_f, Nat.reduceLT, Mem.set_app, Mem.set_set, Ext_mp1, Ext_two, st_agg, ones_nil, ones_cons, oc_int, oc_bool, oc_str, oc_ptr, oc_sl, oc_map, max_if, min_if, bld_nil, bld_cons, bldStep_some, wr_def, List.take_succ_cons, List.take_zero, List.drop_succ_cons, List.drop_zero, List.cons_append, List.toList_toArray, *]
      | ((first | ((with_reducible refine newK_init ?_ ?_ ?_ ?_); (focus (intro b; simp only [ev_tmp, ev_const, upd_app, reduceCtorEq, Nat.reduceEqDiff, Nat.reduceAdd, ↓reduceIte, Value.cells, List.size_toArray, List.length_cons, List.length_nil, st_int, st_bool, st_string, st_pointer, st_slice, st_map, st_agg, ones_nil, ones_cons, oc_int, oc_bool, oc_str, oc_ptr, oc_sl, oc_map, Bool.and_true, tyAllRW08i, Option.map_some]; done)); (focus (simp only [ev_tmp, ev_const, upd_app, reduceCtorEq, Nat.reduceEqDiff, Nat.reduceAdd, ↓reduceIte, Value.cells, List.size_toArray, List.length_cons, List.length_nil, st_int, st_bool, st_string, st_pointer, st_slice, st_map, st_agg, ones_nil, ones_cons, oc_int, oc_bool, oc_str, oc_ptr, oc_sl, oc_map, Bool.and_true, tyAllRW08i, Option.map_some]; done)); (focus (intro b; simp only [ev_tmp, ev_const, upd_app, reduceCtorEq, Nat.reduceEqDiff, Nat.reduceAdd, ↓reduceIte, Value.cells, List.size_toArray, List.length_cons, List.length_nil, st_int, st_bool, st_string, st_pointer, st_slice, st_map, st_agg, ones_nil, ones_cons, oc_int, oc_bool, oc_str, oc_ptr, oc_sl, oc_map, Bool.and_true, tyAllRW08i, Option.map_some]; done))) | ((with_reducible refine newK.id ?_); refine newK_intro ?_) | ((with_reducible refine RunA.id ?_); (first | with_reducible refine rbuild1 sl_76 ze_3 ?_ ?_ ?_ | with_reducible refine rbuild1 sl_135 ze_143 ?_ ?_ ?_); (focus (simp only [Value.cells, List.size_toArray, List.length_cons, List.length_nil]; done)); (focus decide)) | ((first | with_reducible refine bG1 sl_76 ze_3 ?_ ?_ ?_ | with_reducible refine bG1 sl_135 ze_143 ?_ ?_ ?_); (focus (simp only [Value.cells, List.size_toArray, List.length_cons, List.length_nil]; done)); (focus decide)) | ((with_reducible refine RunA.id ?_); (first | with_reducible refine rbuild2 sl_76 ze_3 rfl rfl ?_ | with_reducible refine rbuild2 sl_135 ze_143 rfl rfl ?_)) | (first | with_reducible refine bG2 sl_76 ze_3 rfl rfl ?_ | with_reducible refine bG2 sl_135 ze_143 rfl rfl ?_)); (first | (have := o1; intro b2 m1 hb2 n2 e1 o2; (try (have d21 := ne_of o1 n2; have d12 := d21.symm)); replace n2 := none_of X n2; (try simp only [ev_tmp, ev_const, upd_app, reduceCtorEq, Nat.reduceEqDiff, Nat.reduceAdd, ↓reduceIte, Value.cells, List.size_toArray, List.length_cons, List.length_nil, st_int, st_bool, st_string, st_pointer, st_slice, st_map, st_agg, ones_nil, ones_cons, oc_int, oc_bool, oc_str, oc_ptr, oc_sl, oc_map, Bool.and_true, tyAllRW08i, Option.map_some] at o2)) | (intro b1 m1 hb1 n1 e1 o1; replace n1 := none_of X n1; (try simp only [ev_tmp, ev_const, upd_app, reduceCtorEq, Nat.reduceEqDiff, Nat.reduceAdd, ↓reduceIte, Value.cells, List.size_toArray, List.length_cons, List.length_nil, st_int, st_bool, st_string, st_pointer, st_slice, st_map, st_agg, ones_nil, ones_cons, oc_int, oc_bool, oc_str, oc_ptr, oc_sl, oc_map, Bool.and_true, tyAllRW08i, Option.map_some] at o1))); (try replace X := X.trans e1); (try replace w1 := w1.ext e1); (try replace u1 := own_facts w1); (try replace w2 := w2.ext e1); (try replace u2 := own_facts w2); (try replace w3 := w3.ext e1); (try replace u3 := own_facts w3); (try (replace o1 := e1 _ _ o1; replace c1 := blk_facts hb1 o1)); (try (replace o2 := e1 _ _ o2; replace c2 := blk_facts hb2 o2)); (try have c1 := blk_facts hb1 o1); (try have c2 := blk_facts hb2 o2))
      | ((with_reducible refine CodeA.id ?_); (first | fail))
      | ((with_reducible refine And.intro ?_ ?_); (focus omega))
      | with_reducible refine cK_both _ _ _ _ _ _ (fun hc => ?_) (fun hc => ?_)
      | ((with_reducible refine gO_both _ _ (fun hc => ?_) (fun hc => ?_)) <;> (try simp only [Bool.not_true, Bool.not_false] at hc))
      | ((with_reducible refine gH_both _ _ (fun hc => ?_) (fun hc => ?_)) <;> (try simp only [Bool.not_true, Bool.not_false] at hc))
      | with_reducible refine pickK_both _ (fun hc => ?_) (fun hc => ?_))
    refine loop_rule (fun d t m' => Ext m m' ∧ ∃ i : Int, 0 ≤ i ∧ i ≤ 2 ∧ d = (2 - i).toNat ∧ t 0 = .int .i64 s.mods ∧ t 3 = .pointer (some ⟨b1, 0, none⟩) ∧ t 7 = .int .i64 i ∧ Hid (1 ≤ i → (frE s.f0.l s.mods 0).2 = 0) ∧ Hid (2 ≤ i → (frE s.f1.l s.mods 1).2 = 0) ∧
        m' b1 = some (.cells #[.slice A0 s.f0.l.length y0, .slice A1 s.f1.l.length y1] 137))
      2 (by kernel_rfl) ⟨X, 0, by omega, by omega, by omega, rfl, rfl, rfl, (show 1 ≤ (0 : Int) → _ from by omega), (show 2 ≤ (0 : Int) → _ from by omega), o1⟩ ?_
    clear X o1 c1 n1
    rintro d t m' ⟨X, i, hi0, hi2, rfl, t0, t3, t7, he0, he1, o1⟩
    have cb1 := blk_facts hb1 o1
    have v1 : IntKind.i64.wrap 1 = 1 := rfl
    have v2 : IntKind.i64.wrap 2 = 2 := rfl
    rcases (by omega : i = 0 ∨ i = 1 ∨ i = 2) with rfl | rfl | rfl
    · have hC : (frE s.f0.l s.mods 0).2 ≠ 0 → checkE s = (0, (frE s.f0.l s.mods 0).1, (frE s.f0.l s.mods 0).2) := hc0
      replace hC : Hid _ := hC
      by_cases h32 : 32 < s.f0.l.length
      · have h32' : (32 : Int) < (s.f0.l.length : Int) := by omega
        have e := hC (by rw [frE_many h32]; decide)
        rw [frE_many h32] at e
        replace h : ∀ m', Ext m m' → K (tup3 (checkE s)) m' := h
        rw [e] at h
        clear e h32 hC he0 he1
        repeat' (first
          | simp (maxSteps := 2000000) only [vcCore, yieldT, Int.reduceEq, Int.reduceLT, Int.reduceLE, Int.reduceNe, not_true_eq_false, decide_true, decide_false, add_lit', Nat.zero_add, Nat.mul_one, Int.toNat_natCast, List.getElem?_toArray, List.getElem?_cons_zero, List.getElem?_cons_succ, Option.bind_some, List.map_cons, List.map_nil, List.map_toArray, Array.append_empty, Array.empty_append, List.append_nil, List.nil_append, List.append_toArray, ↓reduceIte, Nat.reduceEqDiff, Nat.reduceAdd, Nat.reduceLeDiff, List.contains_cons, List.contains_nil, Nat.reduceBEq, Bool.or_false, Bool.false_or, Bool.or_true, Bool.true_or, Bool.false_eq_true, Value.cells, List.size_toArray, List.length_cons, List.length_nil, Option.map_some, Option.map_none, Option.isSome_some, Option.isSome_none, Option.isNone_some, Option.isNone_none, true_and, and_true, ne_eq, reduceCtorEq, not_false_eq_true, Bool.not_true, Bool.not_false, tyAllRW08i, then_normal, Int.cast_ofNat_Int, BEq.rfl, bne_self_eq_false, beq_self_eq_true, Bool.and_true, Bool.true_and, Bool.and_false, Bool.false_and, Int.reduceBEq, Int.reduceBNe, Nat.reduceMul, Nat.reduceDiv, Int.reduceToNat, Int.reduceNeg, Int.reduceAdd, Int.reduceSub, Int.reduceMul, ext_lit, Nat.reduceSub, Nat.add_zero, mp2_app, resK_cc, implies_true, imp_self, bb_ft, bb_tf, bb_t, bb_f, bn_t, bn_f, Nat.reduceLT, Mem.set_app, Mem.set_set, Ext_mp1, Ext_two, st_agg, ones_nil, ones_cons, oc_int, oc_bool, oc_str, oc_ptr, oc_sl, oc_map, max_if, min_if, bld_nil, bld_cons, bldStep_some, wr_def, List.take_succ_cons, List.take_zero, List.drop_succ_cons, List.drop_zero, List.cons_append, List.toList_toArray, *]
          | ((with_reducible refine CodeA.id ?_); (first | fail))
          | ((with_reducible refine And.intro ?_ ?_); (focus omega))
          | with_reducible refine cK_both _ _ _ _ _ _ (fun hc => ?_) (fun hc => ?_)
          | ((with_reducible refine gO_both _ _ (fun hc => ?_) (fun hc => ?_)) <;> (try simp only [Bool.not_true, Bool.not_false] at hc))
          | ((with_reducible refine gH_both _ _ (fun hc => ?_) (fun hc => ?_)) <;> (try simp only [Bool.not_true, Bool.not_false] at hc))
          | with_reducible refine pickK_both _ (fun hc => ?_) (fun hc => ?_))
      · have h32' : ¬ (32 : Int) < (s.f0.l.length : Int) := by omega
        replace h32 : Hid _ := h32
        repeat' (first
          | simp (maxSteps := 2000000) only [vcCore, yieldT, Int.reduceEq, Int.reduceLT, Int.reduceLE, Int.reduceNe, not_true_eq_false, decide_true, decide_false, add_lit', Nat.zero_add, Nat.mul_one, Int.toNat_natCast, List.getElem?_toArray, List.getElem?_cons_zero, List.getElem?_cons_succ, Option.bind_some, List.map_cons, List.map_nil, List.map_toArray, Array.append_empty, Array.empty_append, List.append_nil, List.nil_append, List.append_toArray, ↓reduceIte, Nat.reduceEqDiff, Nat.reduceAdd, Nat.reduceLeDiff, List.contains_cons, List.contains_nil, Nat.reduceBEq, Bool.or_false, Bool.false_or, Bool.or_true, Bool.true_or, Bool.false_eq_true, Value.cells, List.size_toArray, List.length_cons, List.length_nil, Option.map_some, Option.map_none, Option.isSome_some, Option.isSome_none, Option.isNone_some, Option.isNone_none, true_and, and_true, ne_eq, reduceCtorEq, not_false_eq_true, Bool.not_true, Bool.not_false, tyAllRW08i, then_normal, Int.cast_ofNat_Int, BEq.rfl, bne_self_eq_false, beq_self_eq_true, Bool.and_true, Bool.true_and, Bool.and_false, Bool.false_and, Int.reduceBEq, Int.reduceBNe, Nat.reduceMul, Nat.reduceDiv, Int.reduceToNat, Int.reduceNeg, Int.reduceAdd, Int.reduceSub, Int.reduceMul, ext_lit, Nat.reduceSub, Nat.add_zero, mp2_app, resK_cc, implies_true, imp_self, bb_ft, bb_tf, bb_t, bb_f, bn_t, bn_f, Nat.reduceLT, Mem.set_app, Mem.set_set, Ext_mp1, Ext_two, st_agg, ones_nil, ones_cons, oc_int, oc_bool, oc_str, oc_ptr, oc_sl, oc_map, max_if, min_if, bld_nil, bld_cons, bldStep_some, wr_def, List.take_succ_cons, List.take_zero, List.drop_succ_cons, List.drop_zero, List.cons_append, List.toList_toArray, *]
          | ((with_reducible refine CodeA.id ?_); (first | fail))
          | ((with_reducible refine And.intro ?_ ?_); (focus omega))
          | with_reducible refine cK_both _ _ _ _ _ _ (fun hc => ?_) (fun hc => ?_)
          | ((with_reducible refine gO_both _ _ (fun hc => ?_) (fun hc => ?_)) <;> (try simp only [Bool.not_true, Bool.not_false] at hc))
          | ((with_reducible refine gH_both _ _ (fun hc => ?_) (fun hc => ?_)) <;> (try simp only [Bool.not_true, Bool.not_false] at hc))
          | with_reducible refine pickK_both _ (fun hc => ?_) (fun hc => ?_))
        refine loop_rule (fun d t m2 => Ext m m2 ∧ ∃ i : Nat, i ≤ s.f0.l.length ∧ d = s.f0.l.length - i ∧ t 0 = .int .i64 s.mods ∧ t 3 = .pointer (some ⟨b1, 0, none⟩) ∧ t 7 = .int .i64 0 ∧ t 8 = .int .i64 i ∧ badAt s.mods i (s.f0.l.drop i) = badAt s.mods 0 s.f0.l ∧
            m2 b1 = some (.cells #[.slice A0 s.f0.l.length y0, .slice A1 s.f1.l.length y1] 137))
          s.f0.l.length (by kernel_rfl) ⟨X, 0, by omega, by omega, t0, t3, t7, rfl, rfl, o1⟩ ?_
        clear X t0 t3 t7 o1 cb1
        rintro d t m2 ⟨X, i, hi, rfl, t0, t3, t7, t8, hbd, o1⟩
        have cb1 := blk_facts hb1 o1
        by_cases hlt : i < s.f0.l.length
        · have h1 := nat_lt hlt
          have h2 := wrap_succ (i := i) (by omega)
          have h3 : (0 : Int) ≤ (i : Int) := by omega
          obtain ⟨w, hw⟩ := get_some hlt
          obtain ⟨a, ha, hca, _, hok⟩ := (k0 _ X).at (w := w) hw
          replace ha : A0 = some a := ha
          rw [drop_step hw, badAt] at hbd
          have cb2 : ∀ j, cellA W0 m2 ⟨b1, j, none⟩ = (#[Value.slice (some a) s.f0.l.length y0, .slice A1 s.f1.l.length y1] : Array Value)[j]? := by rw [← show A0 = some a from ha]; exact cb1.1
          clear cb1 hw
          replace ha : Hid _ := ha
          by_cases he : winE w s.mods = 0
          · rw [if_pos he] at hbd
            have he' : (winE w s.mods != 0) = false := by rw [he]; rfl
            replace hbd : Hid _ := hbd
            replace he : Hid _ := he
            repeat' (first
              | simp (maxSteps := 2000000) only [vcCore, yieldT, Int.reduceEq, Int.reduceLT, Int.reduceLE, Int.reduceNe, not_true_eq_false, decide_true, decide_false, add_lit', Nat.zero_add, Nat.mul_one, Int.toNat_natCast, List.getElem?_toArray, List.getElem?_cons_zero, List.getElem?_cons_succ, Option.bind_some, List.map_cons, List.map_nil, List.map_toArray, Array.append_empty, Array.empty_append, List.append_nil, List.nil_append, List.append_toArray, ↓reduceIte, Nat.reduceEqDiff, Nat.reduceAdd, Nat.reduceLeDiff, List.contains_cons, List.contains_nil, Nat.reduceBEq, Bool.or_false, Bool.false_or, Bool.or_true, Bool.true_or, Bool.false_eq_true, Value.cells, List.size_toArray, List.length_cons, List.length_nil, Option.map_some, Option.map_none, Option.isSome_some, Option.isSome_none, Option.isNone_some, Option.isNone_none, true_and, and_true, ne_eq, reduceCtorEq, not_false_eq_true, Bool.not_true, Bool.not_false, tyAllRW08i, then_normal, Int.cast_ofNat_Int, BEq.rfl, bne_self_eq_false, beq_self_eq_true, Bool.and_true, Bool.true_and, Bool.and_false, Bool.false_and, Int.reduceBEq, Int.reduceBNe, Nat.reduceMul, Nat.reduceDiv, Int.reduceToNat, Int.reduceNeg, Int.reduceAdd, Int.reduceSub, Int.reduceMul, ext_lit, Nat.reduceSub, Nat.add_zero, mp2_app, resK_cc, implies_true, imp_self, bb_ft, bb_tf, bb_t, bb_f, bn_t, bn_f, Nat.reduceLT, Mem.set_app, Mem.set_set, Ext_mp1, Ext_two, st_agg, ones_nil, ones_cons, oc_int, oc_bool, oc_str, oc_ptr, oc_sl, oc_map, max_if, min_if, bld_nil, bld_cons, bldStep_some, wr_def, List.take_succ_cons, List.take_zero, List.drop_succ_cons, List.drop_zero, List.cons_append, List.toList_toArray, *, mul_nat]
              | ((first | (with_reducible refine Ret.use (ref08_Window (w := w) hok) fun m1 e1 => ?_)); (try replace X := X.trans e1); (try replace w1 := w1.ext e1); (try replace u1 := own_facts w1); (try replace w2 := w2.ext e1); (try replace u2 := own_facts w2); (try replace w3 := w3.ext e1); (try replace u3 := own_facts w3); (try (replace o1 := e1 _ _ o1; replace c1 := blk_facts hb1 o1)); (try (replace o2 := e1 _ _ o2; replace c2 := blk_facts hb2 o2)))
              | (with_reducible refine Ret.q (fun m1 e1 => ref08_Window (w := w) hok) ?_)
              | (with_reducible refine Ret.q0 (fun m1 e1 => ref08_Window (w := w) hok) ?_)
              | ((with_reducible refine CodeA.id ?_); (first | fail))
              | ((with_reducible refine And.intro ?_ ?_); (focus omega))
              | with_reducible refine cK_both _ _ _ _ _ _ (fun hc => ?_) (fun hc => ?_)
              | ((with_reducible refine gO_both _ _ (fun hc => ?_) (fun hc => ?_)) <;> (try simp only [Bool.not_true, Bool.not_false] at hc))
              | ((with_reducible refine gH_both _ _ (fun hc => ?_) (fun hc => ?_)) <;> (try simp only [Bool.not_true, Bool.not_false] at hc))
              | with_reducible refine pickK_both _ (fun hc => ?_) (fun hc => ?_))
            exact ⟨s.f0.l.length - (i + 1), by omega, by assumption, i + 1, by omega, rfl, t0, t3, t7, rfl, hbd, by assumption⟩
          · rw [if_neg he] at hbd
            have he' : (winE w s.mods != 0) = true := bne_yes he
            have hfb := frE_bad (v := 0) h32 hbd.symm
            have e := hC (by rw [hfb]; exact he)
            rw [hfb] at e
            replace h : ∀ m', Ext m m' → K (tup3 (checkE s)) m' := h
            rw [e] at h
            clear e hfb he hbd hC he0 he1
            repeat' (first
              | simp (maxSteps := 2000000) only [vcCore, yieldT, Int.reduceEq, Int.reduceLT, Int.reduceLE, Int.reduceNe, not_true_eq_false, decide_true, decide_false, add_lit', Nat.zero_add, Nat.mul_one, Int.toNat_natCast, List.getElem?_toArray, List.getElem?_cons_zero, List.getElem?_cons_succ, Option.bind_some, List.map_cons, List.map_nil, List.map_toArray, Array.append_empty, Array.empty_append, List.append_nil, List.nil_append, List.append_toArray, ↓reduceIte, Nat.reduceEqDiff, Nat.reduceAdd, Nat.reduceLeDiff, List.contains_cons, List.contains_nil, Nat.reduceBEq, Bool.or_false, Bool.false_or, Bool.or_true, Bool.true_or, Bool.false_eq_true, Value.cells, List.size_toArray, List.length_cons, List.length_nil, Option.map_some, Option.map_none, Option.isSome_some, Option.isSome_none, Option.isNone_some, Option.isNone_none, true_and, and_true, ne_eq, reduceCtorEq, not_false_eq_true, Bool.not_true, Bool.not_false, tyAllRW08i, then_normal, Int.cast_ofNat_Int, BEq.rfl, bne_self_eq_false, beq_self_eq_true, Bool.and_true, Bool.true_and, Bool.and_false, Bool.false_and, Int.reduceBEq, Int.reduceBNe, Nat.reduceMul, Nat.reduceDiv, Int.reduceToNat, Int.reduceNeg, Int.reduceAdd, Int.reduceSub, Int.reduceMul, ext_lit, Nat.reduceSub, Nat.add_zero, mp2_app, resK_cc, implies_true, imp_self, bb_ft, bb_tf, bb_t, bb_f, bn_t, bn_f, Nat.reduceLT, Mem.set_app, Mem.set_set, Ext_mp1, Ext_two, st_agg, ones_nil, ones_cons, oc_int, oc_bool, oc_str, oc_ptr, oc_sl, oc_map, max_if, min_if, bld_nil, bld_cons, bldStep_some, wr_def, List.take_succ_cons, List.take_zero, List.drop_succ_cons, List.drop_zero, List.cons_append, List.toList_toArray, *, mul_nat]
              | ((first | (with_reducible refine Ret.use (ref08_Window (w := w) hok) fun m1 e1 => ?_)); (try replace X := X.trans e1); (try replace w1 := w1.ext e1); (try replace u1 := own_facts w1); (try replace w2 := w2.ext e1); (try replace u2 := own_facts w2); (try replace w3 := w3.ext e1); (try replace u3 := own_facts w3); (try (replace o1 := e1 _ _ o1; replace c1 := blk_facts hb1 o1)); (try (replace o2 := e1 _ _ o2; replace c2 := blk_facts hb2 o2)))
              | (with_reducible refine Ret.q (fun m1 e1 => ref08_Window (w := w) hok) ?_)
              | (with_reducible refine Ret.q0 (fun m1 e1 => ref08_Window (w := w) hok) ?_)
              | ((with_reducible refine CodeA.id ?_); (first | fail))
              | ((with_reducible refine And.intro ?_ ?_); (focus omega))
              | with_reducible refine cK_both _ _ _ _ _ _ (fun hc => ?_) (fun hc => ?_)
              | ((with_reducible refine gO_both _ _ (fun hc => ?_) (fun hc => ?_)) <;> (try simp only [Bool.not_true, Bool.not_false] at hc))
              | ((with_reducible refine gH_both _ _ (fun hc => ?_) (fun hc => ?_)) <;> (try simp only [Bool.not_true, Bool.not_false] at hc))
              | with_reducible refine pickK_both _ (fun hc => ?_) (fun hc => ?_))
        · have h1 := nat_not_lt hlt
          rw [List.drop_eq_nil_of_le (by omega)] at hbd
          have hbn : badAt s.mods 0 s.f0.l = none := hbd.symm
          obtain ⟨xs, hxs⟩ : ∃ xs, spansOf 0 s.f0.l = xs := ⟨_, rfl⟩
          have hxl : xs.length ≤ 40 := by
            rw [← hxs]; have := (stR_le (v := 0) (by omega) s.f0.l).1; have h4 : ¬ 32 < s.f0.l.length := h32; simp [spansOf]; omega
          have sp : ∀ M, Ext m M → Mk Try.prog W0 89 #[.slice A0 s.f0.l.length y0, .int .i64 0] M 3 1 xs.length (i64 xs) := fun M e => by
            have := ref08_Spans (W0 := W0) (m := M) (A := A0) (c := y0) (l := s.f0.l) (v := 0) (by omega) (fun M' e' => (k0 _ (e.trans e')).rd) (by have h4 : ¬ 32 < s.f0.l.length := h32; omega)
            rw [hxs] at this; exact this
          replace hbn : Hid _ := hbn
          replace hxs : Hid _ := hxs
          clear hbd hlt
          repeat' (first
            | simp (maxSteps := 2000000) only [vcCore, yieldT, Int.reduceEq, Int.reduceLT, Int.reduceLE, Int.reduceNe, not_true_eq_false, decide_true, decide_false, add_lit', Nat.zero_add, Nat.mul_one, Int.toNat_natCast, List.getElem?_toArray, List.getElem?_cons_zero, List.getElem?_cons_succ, Option.bind_some, List.map_cons, List.map_nil, List.map_toArray, Array.append_empty, Array.empty_append, List.append_nil, List.nil_append, List.append_toArray, ↓reduceIte, Nat.reduceEqDiff, Nat.reduceAdd, Nat.reduceLeDiff, List.contains_cons, List.contains_nil, Nat.reduceBEq, Bool.or_false, Bool.false_or, Bool.or_true, Bool.true_or, Bool.false_eq_true, Value.cells, List.size_toArray, List.length_cons, List.length_nil, Option.map_some, Option.map_none, Option.isSome_some, Option.isSome_none, Option.isNone_some, Option.isNone_none, true_and, and_true, ne_eq, reduceCtorEq, not_false_eq_true, Bool.not_true, Bool.not_false, tyAllRW08i, then_normal, Int.cast_ofNat_Int, BEq.rfl, bne_self_eq_false, beq_self_eq_true, Bool.and_true, Bool.true_and, Bool.and_false, Bool.false_and, Int.reduceBEq, Int.reduceBNe, Nat.reduceMul, Nat.reduceDiv, Int.reduceToNat, Int.reduceNeg, Int.reduceAdd, Int.reduceSub, Int.reduceMul, ext_lit, Nat.reduceSub, Nat.add_zero, mp2_app, resK_cc, implies_true, imp_self, bb_ft, bb_tf, bb_t, bb_f, bn_t, bn_f, Nat.reduceLT, Mem.set_app, Mem.set_set, Ext_mp1, Ext_two, st_agg, ones_nil, ones_cons, oc_int, oc_bool, oc_str, oc_ptr, oc_sl, oc_map, max_if, min_if, bld_nil, bld_cons, bldStep_some, wr_def, List.take_succ_cons, List.take_zero, List.drop_succ_cons, List.drop_zero, List.cons_append, List.toList_toArray, *]
            | ((first | ((with_reducible refine CallA.at 89 ?_); first | (have := S2; (with_reducible refine Mk.use (sp _ X) fun A3 q3 m1 S3 => ?_); have e1 := S3.ext; have w3 := S3.own) | (have := S1; (with_reducible refine Mk.use (sp _ X) fun A2 q2 m1 S2 => ?_); have e1 := S2.ext; have w2 := S2.own) | ((with_reducible refine Mk.use (sp _ X) fun A1 q1 m1 S1 => ?_); have e1 := S1.ext; have w1 := S1.own))); (try replace X := X.trans e1); (try replace w1 := w1.ext e1); (try replace u1 := own_facts w1); (try replace w2 := w2.ext e1); (try replace u2 := own_facts w2); (try replace w3 := w3.ext e1); (try replace u3 := own_facts w3); (try (replace o1 := e1 _ _ o1; replace c1 := blk_facts hb1 o1)); (try (replace o2 := e1 _ _ o2; replace c2 := blk_facts hb2 o2)))
            | ((with_reducible refine CodeA.id ?_); (first | fail))
            | ((with_reducible refine And.intro ?_ ?_); (focus omega))
            | with_reducible refine cK_both _ _ _ _ _ _ (fun hc => ?_) (fun hc => ?_)
            | ((with_reducible refine gO_both _ _ (fun hc => ?_) (fun hc => ?_)) <;> (try simp only [Bool.not_true, Bool.not_false] at hc))
            | ((with_reducible refine gH_both _ _ (fun hc => ?_) (fun hc => ?_)) <;> (try simp only [Bool.not_true, Bool.not_false] at hc))
            | with_reducible refine pickK_both _ (fun hc => ?_) (fun hc => ?_))
          have hx0 : 0 < xs.length := by rw [← show spansOf 0 s.f0.l = xs from hxs]; exact spansOf_pos _ _
          obtain ⟨gs, rfl⟩ := own_head w1 hx0
          refine loop_rule (fun d t m3 => Ext m m3 ∧ ∃ j : Nat, j ≤ xs.length ∧ d = xs.length - j ∧ t 0 = .int .i64 s.mods ∧ t 3 = .pointer (some ⟨b1, 0, none⟩) ∧ t 7 = .int .i64 0 ∧ t 10 = .slice (some ⟨gs, 0, none⟩) xs.length q1 ∧ t 11 = .int .i64 j ∧ (xs.drop j).any (fun x => decide (200 < x)) = xs.any (fun x => decide (200 < x)) ∧
              OwnS W0 m3 3 1 (.slice (some ⟨gs, 0, none⟩) xs.length q1) xs.length (i64 xs) ∧ m3 b1 = some (.cells #[.slice A0 s.f0.l.length y0, .slice A1 s.f1.l.length y1] 137))
            xs.length (by kernel_rfl) ⟨X, 0, by omega, by omega, t0, t3, t7, rfl, rfl, by simp, w1, o1⟩ ?_
          clear X t0 t3 t7 t8 o1 cb1 w1 S1 e1
          rintro d t m3 ⟨X, j, hj, rfl, t0, t3, t7, t10, t11, hz, w1, o1⟩
          by_cases hlj : j < xs.length
          · have h1 := nat_lt hlj
            have h2 := wrap_succ (i := j) (by omega)
            have h3 : (0 : Int) ≤ (j : Int) := by omega
            obtain ⟨x, hx⟩ := get_some hlj
            have k1' : cellA W0 m3 ⟨gs, j, none⟩ = some (.int .i64 x) := by rw [(own_facts w1).1 j (by simpa [R.i64] using hlj), i64_get, hx]; rfl
            rw [drop_step hx, List.any_cons] at hz
            clear hx
            by_cases hb : 200 < x
            · rw [decide_eq_true hb, Bool.true_or] at hz
              have hff := frE_far (k := s.mods) (v := 0) h32 hbn (by rw [show spansOf 0 s.f0.l = xs from hxs]; exact hz.symm)
              have e := hC (by rw [hff]; decide)
              rw [hff] at e
              replace h : ∀ m', Ext m m' → K (tup3 (checkE s)) m' := h
              rw [e] at h
              clear e hff hz hC he0 he1
              repeat' (first
                | simp (maxSteps := 2000000) only [vcCore, yieldT, Int.reduceEq, Int.reduceLT, Int.reduceLE, Int.reduceNe, not_true_eq_false, decide_true, decide_false, add_lit', Nat.zero_add, Nat.mul_one, Int.toNat_natCast, List.getElem?_toArray, List.getElem?_cons_zero, List.getElem?_cons_succ, Option.bind_some, List.map_cons, List.map_nil, List.map_toArray, Array.append_empty, Array.empty_append, List.append_nil, List.nil_append, List.append_toArray, ↓reduceIte, Nat.reduceEqDiff, Nat.reduceAdd, Nat.reduceLeDiff, List.contains_cons, List.contains_nil, Nat.reduceBEq, Bool.or_false, Bool.false_or, Bool.or_true, Bool.true_or, Bool.false_eq_true, Value.cells, List.size_toArray, List.length_cons, List.length_nil, Option.map_some, Option.map_none, Option.isSome_some, Option.isSome_none, Option.isNone_some, Option.isNone_none, true_and, and_true, ne_eq, reduceCtorEq, not_false_eq_true, Bool.not_true, Bool.not_false, tyAllRW08i, then_normal, Int.cast_ofNat_Int, BEq.rfl, bne_self_eq_false, beq_self_eq_true, Bool.and_true, Bool.true_and, Bool.and_false, Bool.false_and, Int.reduceBEq, Int.reduceBNe, Nat.reduceMul, Nat.reduceDiv, Int.reduceToNat, Int.reduceNeg, Int.reduceAdd, Int.reduceSub, Int.reduceMul, ext_lit, Nat.reduceSub, Nat.add_zero, mp2_app, resK_cc, implies_true, imp_self, bb_ft, bb_tf, bb_t, bb_f, bn_t, bn_f, Nat.reduceLT, Mem.set_app, Mem.set_set, Ext_mp1, Ext_two, st_agg, ones_nil, ones_cons, oc_int, oc_bool, oc_str, oc_ptr, oc_sl, oc_map, max_if, min_if, bld_nil, bld_cons, bldStep_some, wr_def, List.take_succ_cons, List.take_zero, List.drop_succ_cons, List.drop_zero, List.cons_append, List.toList_toArray, *, Nat.mul_one]
                | ((with_reducible refine CodeA.id ?_); (first | fail))
                | ((with_reducible refine And.intro ?_ ?_); (focus omega))
                | with_reducible refine cK_both _ _ _ _ _ _ (fun hc => ?_) (fun hc => ?_)
                | ((with_reducible refine gO_both _ _ (fun hc => ?_) (fun hc => ?_)) <;> (try simp only [Bool.not_true, Bool.not_false] at hc))
                | ((with_reducible refine gH_both _ _ (fun hc => ?_) (fun hc => ?_)) <;> (try simp only [Bool.not_true, Bool.not_false] at hc))
                | with_reducible refine pickK_both _ (fun hc => ?_) (fun hc => ?_))
            · rw [decide_eq_false hb, Bool.false_or] at hz
              replace hz : Hid _ := hz
              repeat' (first
                | simp (maxSteps := 2000000) only [vcCore, yieldT, Int.reduceEq, Int.reduceLT, Int.reduceLE, Int.reduceNe, not_true_eq_false, decide_true, decide_false, add_lit', Nat.zero_add, Nat.mul_one, Int.toNat_natCast, List.getElem?_toArray, List.getElem?_cons_zero, List.getElem?_cons_succ, Option.bind_some, List.map_cons, List.map_nil, List.map_toArray, Array.append_empty, Array.empty_append, List.append_nil, List.nil_append, List.append_toArray, ↓reduceIte, Nat.reduceEqDiff, Nat.reduceAdd, Nat.reduceLeDiff, List.contains_cons, List.contains_nil, Nat.reduceBEq, Bool.or_false, Bool.false_or, Bool.or_true, Bool.true_or, Bool.false_eq_true, Value.cells, List.size_toArray, List.length_cons, List.length_nil, Option.map_some, Option.map_none, Option.isSome_some, Option.isSome_none, Option.isNone_some, Option.isNone_none, true_and, and_true, ne_eq, reduceCtorEq, not_false_eq_true, Bool.not_true, Bool.not_false, tyAllRW08i, then_normal, Int.cast_ofNat_Int, BEq.rfl, bne_self_eq_false, beq_self_eq_true, Bool.and_true, Bool.true_and, Bool.and_false, Bool.false_and, Int.reduceBEq, Int.reduceBNe, Nat.reduceMul, Nat.reduceDiv, Int.reduceToNat, Int.reduceNeg, Int.reduceAdd, Int.reduceSub, Int.reduceMul, ext_lit, Nat.reduceSub, Nat.add_zero, mp2_app, resK_cc, implies_true, imp_self, bb_ft, bb_tf, bb_t, bb_f, bn_t, bn_f, Nat.reduceLT, Mem.set_app, Mem.set_set, Ext_mp1, Ext_two, st_agg, ones_nil, ones_cons, oc_int, oc_bool, oc_str, oc_ptr, oc_sl, oc_map, max_if, min_if, bld_nil, bld_cons, bldStep_some, wr_def, List.take_succ_cons, List.take_zero, List.drop_succ_cons, List.drop_zero, List.cons_append, List.toList_toArray, *, Nat.mul_one]
                | ((with_reducible refine CodeA.id ?_); (first | fail))
                | ((with_reducible refine And.intro ?_ ?_); (focus omega))
                | with_reducible refine cK_both _ _ _ _ _ _ (fun hc => ?_) (fun hc => ?_)
                | ((with_reducible refine gO_both _ _ (fun hc => ?_) (fun hc => ?_)) <;> (try simp only [Bool.not_true, Bool.not_false] at hc))
                | ((with_reducible refine gH_both _ _ (fun hc => ?_) (fun hc => ?_)) <;> (try simp only [Bool.not_true, Bool.not_false] at hc))
                | with_reducible refine pickK_both _ (fun hc => ?_) (fun hc => ?_))
              exact ⟨xs.length - (j + 1), by omega, X, j + 1, by omega, rfl, t0, t3, t7, t10, rfl, hz, w1, o1⟩
          · have h1 := nat_not_lt hlj
            rw [List.drop_eq_nil_of_le (by omega)] at hz
            have hfo := frE_ok (k := s.mods) (v := 0) h32 hbn (by rw [show spansOf 0 s.f0.l = xs from hxs]; exact hz.symm)
            have hf2 : (frE s.f0.l s.mods 0).2 = 0 := by rw [hfo]
            replace hf2 : Hid _ := hf2
            clear hz hfo
            repeat' (first
              | simp (maxSteps := 2000000) only [vcCore, yieldT, Int.reduceEq, Int.reduceLT, Int.reduceLE, Int.reduceNe, not_true_eq_false, decide_true, decide_false, add_lit', Nat.zero_add, Nat.mul_one, Int.toNat_natCast, List.getElem?_toArray, List.getElem?_cons_zero, List.getElem?_cons_succ, Option.bind_some, List.map_cons, List.map_nil, List.map_toArray, Array.append_empty, Array.empty_append, List.append_nil, List.nil_append, List.append_toArray, ↓reduceIte, Nat.reduceEqDiff, Nat.reduceAdd, Nat.reduceLeDiff, List.contains_cons, List.contains_nil, Nat.reduceBEq, Bool.or_false, Bool.false_or, Bool.or_true, Bool.true_or, Bool.false_eq_true, Value.cells, List.size_toArray, List.length_cons, List.length_nil, Option.map_some, Option.map_none, Option.isSome_some, Option.isSome_none, Option.isNone_some, Option.isNone_none, true_and, and_true, ne_eq, reduceCtorEq, not_false_eq_true, Bool.not_true, Bool.not_false, tyAllRW08i, then_normal, Int.cast_ofNat_Int, BEq.rfl, bne_self_eq_false, beq_self_eq_true, Bool.and_true, Bool.true_and, Bool.and_false, Bool.false_and, Int.reduceBEq, Int.reduceBNe, Nat.reduceMul, Nat.reduceDiv, Int.reduceToNat, Int.reduceNeg, Int.reduceAdd, Int.reduceSub, Int.reduceMul, ext_lit, Nat.reduceSub, Nat.add_zero, mp2_app, resK_cc, implies_true, imp_self, bb_ft, bb_tf, bb_t, bb_f, bn_t, bn_f, Nat.reduceLT, Mem.set_app, Mem.set_set, Ext_mp1, Ext_two, st_agg, ones_nil, ones_cons, oc_int, oc_bool, oc_str, oc_ptr, oc_sl, oc_map, max_if, min_if, bld_nil, bld_cons, bldStep_some, wr_def, List.take_succ_cons, List.take_zero, List.drop_succ_cons, List.drop_zero, List.cons_append, List.toList_toArray, *]
              | ((with_reducible refine CodeA.id ?_); (first | fail))
              | ((with_reducible refine And.intro ?_ ?_); (focus omega))
              | with_reducible refine cK_both _ _ _ _ _ _ (fun hc => ?_) (fun hc => ?_)
              | ((with_reducible refine gO_both _ _ (fun hc => ?_) (fun hc => ?_)) <;> (try simp only [Bool.not_true, Bool.not_false] at hc))
              | ((with_reducible refine gH_both _ _ (fun hc => ?_) (fun hc => ?_)) <;> (try simp only [Bool.not_true, Bool.not_false] at hc))
              | with_reducible refine pickK_both _ (fun hc => ?_) (fun hc => ?_))
            exact ⟨1, by omega, X, 1, by omega, by omega, rfl, t0, t3, rfl, fun _ => hf2, (show 2 ≤ (1 : Int) → _ from by omega), o1⟩
    · have hz0 : (frE s.f0.l s.mods 0).2 = 0 := (show 1 ≤ (1 : Int) → (frE s.f0.l s.mods 0).2 = 0 from he0) (by omega)
      have hC := (show (frE s.f0.l s.mods 0).2 = 0 → (frE s.f1.l s.mods 1).2 ≠ 0 → checkE s = (1, (frE s.f1.l s.mods 1).1, (frE s.f1.l s.mods 1).2) from hc1) hz0
      replace hC : Hid _ := hC
      replace hz0 : Hid _ := hz0
      by_cases h32 : 32 < s.f1.l.length
      · have h32' : (32 : Int) < (s.f1.l.length : Int) := by omega
        have e := hC (by rw [frE_many h32]; decide)
        rw [frE_many h32] at e
        replace h : ∀ m', Ext m m' → K (tup3 (checkE s)) m' := h
        rw [e] at h
        clear e h32 hC he0 he1
        repeat' (first
          | simp (maxSteps := 2000000) only [vcCore, yieldT, Int.reduceEq, Int.reduceLT, Int.reduceLE, Int.reduceNe, not_true_eq_false, decide_true, decide_false, add_lit', Nat.zero_add, Nat.mul_one, Int.toNat_natCast, List.getElem?_toArray, List.getElem?_cons_zero, List.getElem?_cons_succ, Option.bind_some, List.map_cons, List.map_nil, List.map_toArray, Array.append_empty, Array.empty_append, List.append_nil, List.nil_append, List.append_toArray, ↓reduceIte, Nat.reduceEqDiff, Nat.reduceAdd, Nat.reduceLeDiff, List.contains_cons, List.contains_nil, Nat.reduceBEq, Bool.or_false, Bool.false_or, Bool.or_true, Bool.true_or, Bool.false_eq_true, Value.cells, List.size_toArray, List.length_cons, List.length_nil, Option.map_some, Option.map_none, Option.isSome_some, Option.isSome_none, Option.isNone_some, Option.isNone_none, true_and, and_true, ne_eq, reduceCtorEq, not_false_eq_true, Bool.not_true, Bool.not_false, tyAllRW08i, then_normal, Int.cast_ofNat_Int, BEq.rfl, bne_self_eq_false, beq_self_eq_true, Bool.and_true, Bool.true_and, Bool.and_false, Bool.false_and, Int.reduceBEq, Int.reduceBNe, Nat.reduceMul, Nat.reduceDiv, Int.reduceToNat, Int.reduceNeg, Int.reduceAdd, Int.reduceSub, Int.reduceMul, ext_lit, Nat.reduceSub, Nat.add_zero, mp2_app, resK_cc, implies_true, imp_self, bb_ft, bb_tf, bb_t, bb_f, bn_t, bn_f, Nat.reduceLT, Mem.set_app, Mem.set_set, Ext_mp1, Ext_two, st_agg, ones_nil, ones_cons, oc_int, oc_bool, oc_str, oc_ptr, oc_sl, oc_map, max_if, min_if, bld_nil, bld_cons, bldStep_some, wr_def, List.take_succ_cons, List.take_zero, List.drop_succ_cons, List.drop_zero, List.cons_append, List.toList_toArray, *]
          | ((with_reducible refine CodeA.id ?_); (first | fail))
          | ((with_reducible refine And.intro ?_ ?_); (focus omega))
          | with_reducible refine cK_both _ _ _ _ _ _ (fun hc => ?_) (fun hc => ?_)
          | ((with_reducible refine gO_both _ _ (fun hc => ?_) (fun hc => ?_)) <;> (try simp only [Bool.not_true, Bool.not_false] at hc))
          | ((with_reducible refine gH_both _ _ (fun hc => ?_) (fun hc => ?_)) <;> (try simp only [Bool.not_true, Bool.not_false] at hc))
          | with_reducible refine pickK_both _ (fun hc => ?_) (fun hc => ?_))
      · have h32' : ¬ (32 : Int) < (s.f1.l.length : Int) := by omega
        replace h32 : Hid _ := h32
        repeat' (first
          | simp (maxSteps := 2000000) only [vcCore, yieldT, Int.reduceEq, Int.reduceLT, Int.reduceLE, Int.reduceNe, not_true_eq_false, decide_true, decide_false, add_lit', Nat.zero_add, Nat.mul_one, Int.toNat_natCast, List.getElem?_toArray, List.getElem?_cons_zero, List.getElem?_cons_succ, Option.bind_some, List.map_cons, List.map_nil, List.map_toArray, Array.append_empty, Array.empty_append, List.append_nil, List.nil_append, List.append_toArray, ↓reduceIte, Nat.reduceEqDiff, Nat.reduceAdd, Nat.reduceLeDiff, List.contains_cons, List.contains_nil, Nat.reduceBEq, Bool.or_false, Bool.false_or, Bool.or_true, Bool.true_or, Bool.false_eq_true, Value.cells, List.size_toArray, List.length_cons, List.length_nil, Option.map_some, Option.map_none, Option.isSome_some, Option.isSome_none, Option.isNone_some, Option.isNone_none, true_and, and_true, ne_eq, reduceCtorEq, not_false_eq_true, Bool.not_true, Bool.not_false, tyAllRW08i, then_normal, Int.cast_ofNat_Int, BEq.rfl, bne_self_eq_false, beq_self_eq_true, Bool.and_true, Bool.true_and, Bool.and_false, Bool.false_and, Int.reduceBEq, Int.reduceBNe, Nat.reduceMul, Nat.reduceDiv, Int.reduceToNat, Int.reduceNeg, Int.reduceAdd, Int.reduceSub, Int.reduceMul, ext_lit, Nat.reduceSub, Nat.add_zero, mp2_app, resK_cc, implies_true, imp_self, bb_ft, bb_tf, bb_t, bb_f, bn_t, bn_f, Nat.reduceLT, Mem.set_app, Mem.set_set, Ext_mp1, Ext_two, st_agg, ones_nil, ones_cons, oc_int, oc_bool, oc_str, oc_ptr, oc_sl, oc_map, max_if, min_if, bld_nil, bld_cons, bldStep_some, wr_def, List.take_succ_cons, List.take_zero, List.drop_succ_cons, List.drop_zero, List.cons_append, List.toList_toArray, *]
          | ((with_reducible refine CodeA.id ?_); (first | fail))
          | ((with_reducible refine And.intro ?_ ?_); (focus omega))
          | with_reducible refine cK_both _ _ _ _ _ _ (fun hc => ?_) (fun hc => ?_)
          | ((with_reducible refine gO_both _ _ (fun hc => ?_) (fun hc => ?_)) <;> (try simp only [Bool.not_true, Bool.not_false] at hc))
          | ((with_reducible refine gH_both _ _ (fun hc => ?_) (fun hc => ?_)) <;> (try simp only [Bool.not_true, Bool.not_false] at hc))
          | with_reducible refine pickK_both _ (fun hc => ?_) (fun hc => ?_))
        refine loop_rule (fun d t m2 => Ext m m2 ∧ ∃ i : Nat, i ≤ s.f1.l.length ∧ d = s.f1.l.length - i ∧ t 0 = .int .i64 s.mods ∧ t 3 = .pointer (some ⟨b1, 0, none⟩) ∧ t 7 = .int .i64 1 ∧ t 8 = .int .i64 i ∧ badAt s.mods i (s.f1.l.drop i) = badAt s.mods 0 s.f1.l ∧
            m2 b1 = some (.cells #[.slice A0 s.f0.l.length y0, .slice A1 s.f1.l.length y1] 137))
          s.f1.l.length (by kernel_rfl) ⟨X, 0, by omega, by omega, t0, t3, t7, rfl, rfl, o1⟩ ?_
        clear X t0 t3 t7 o1 cb1
        rintro d t m2 ⟨X, i, hi, rfl, t0, t3, t7, t8, hbd, o1⟩
        have cb1 := blk_facts hb1 o1
        by_cases hlt : i < s.f1.l.length
        · have h1 := nat_lt hlt
          have h2 := wrap_succ (i := i) (by omega)
          have h3 : (0 : Int) ≤ (i : Int) := by omega
          obtain ⟨w, hw⟩ := get_some hlt
          obtain ⟨a, ha, hca, _, hok⟩ := (k1 _ X).at (w := w) hw
          replace ha : A1 = some a := ha
          rw [drop_step hw, badAt] at hbd
          have cb2 : ∀ j, cellA W0 m2 ⟨b1, j, none⟩ = (#[Value.slice A0 s.f0.l.length y0, .slice (some a) s.f1.l.length y1] : Array Value)[j]? := by rw [← show A1 = some a from ha]; exact cb1.1
          clear cb1 hw
          replace ha : Hid _ := ha
          by_cases he : winE w s.mods = 0
          · rw [if_pos he] at hbd
            have he' : (winE w s.mods != 0) = false := by rw [he]; rfl
            replace hbd : Hid _ := hbd
            replace he : Hid _ := he
            repeat' (first
              | simp (maxSteps := 2000000) only [vcCore, yieldT, Int.reduceEq, Int.reduceLT, Int.reduceLE, Int.reduceNe, not_true_eq_false, decide_true, decide_false, add_lit', Nat.zero_add, Nat.mul_one, Int.toNat_natCast, List.getElem?_toArray, List.getElem?_cons_zero, List.getElem?_cons_succ, Option.bind_some, List.map_cons, List.map_nil, List.map_toArray, Array.append_empty, Array.empty_append, List.append_nil, List.nil_append, List.append_toArray, ↓reduceIte, Nat.reduceEqDiff, Nat.reduceAdd, Nat.reduceLeDiff, List.contains_cons, List.contains_nil, Nat.reduceBEq, Bool.or_false, Bool.false_or, Bool.or_true, Bool.true_or, Bool.false_eq_true, Value.cells, List.size_toArray, List.length_cons, List.length_nil, Option.map_some, Option.map_none, Option.isSome_some, Option.isSome_none, Option.isNone_some, Option.isNone_none, true_and, and_true, ne_eq, reduceCtorEq, not_false_eq_true, Bool.not_true, Bool.not_false, tyAllRW08i, then_normal, Int.cast_ofNat_Int, BEq.rfl, bne_self_eq_false, beq_self_eq_true, Bool.and_true, Bool.true_and, Bool.and_false, Bool.false_and, Int.reduceBEq, Int.reduceBNe, Nat.reduceMul, Nat.reduceDiv, Int.reduceToNat, Int.reduceNeg, Int.reduceAdd, Int.reduceSub, Int.reduceMul, ext_lit, Nat.reduceSub, Nat.add_zero, mp2_app, resK_cc, implies_true, imp_self, bb_ft, bb_tf, bb_t, bb_f, bn_t, bn_f, Nat.reduceLT, Mem.set_app, Mem.set_set, Ext_mp1, Ext_two, st_agg, ones_nil, ones_cons, oc_int, oc_bool, oc_str, oc_ptr, oc_sl, oc_map, max_if, min_if, bld_nil, bld_cons, bldStep_some, wr_def, List.take_succ_cons, List.take_zero, List.drop_succ_cons, List.drop_zero, List.cons_append, List.toList_toArray, *, mul_nat]
              | ((first | (with_reducible refine Ret.use (ref08_Window (w := w) hok) fun m1 e1 => ?_)); (try replace X := X.trans e1); (try replace w1 := w1.ext e1); (try replace u1 := own_facts w1); (try replace w2 := w2.ext e1); (try replace u2 := own_facts w2); (try replace w3 := w3.ext e1); (try replace u3 := own_facts w3); (try (replace o1 := e1 _ _ o1; replace c1 := blk_facts hb1 o1)); (try (replace o2 := e1 _ _ o2; replace c2 := blk_facts hb2 o2)))
              | (with_reducible refine Ret.q (fun m1 e1 => ref08_Window (w := w) hok) ?_)
              | (with_reducible refine Ret.q0 (fun m1 e1 => ref08_Window (w := w) hok) ?_)
              | ((with_reducible refine CodeA.id ?_); (first | fail))
              | ((with_reducible refine And.intro ?_ ?_); (focus omega))
              | with_reducible refine cK_both _ _ _ _ _ _ (fun hc => ?_) (fun hc => ?_)
              | ((with_reducible refine gO_both _ _ (fun hc => ?_) (fun hc => ?_)) <;> (try simp only [Bool.not_true, Bool.not_false] at hc))
              | ((with_reducible refine gH_both _ _ (fun hc => ?_) (fun hc => ?_)) <;> (try simp only [Bool.not_true, Bool.not_false] at hc))
              | with_reducible refine pickK_both _ (fun hc => ?_) (fun hc => ?_))
            exact ⟨s.f1.l.length - (i + 1), by omega, by assumption, i + 1, by omega, rfl, t0, t3, t7, rfl, hbd, by assumption⟩
          · rw [if_neg he] at hbd
            have he' : (winE w s.mods != 0) = true := bne_yes he
            have hfb := frE_bad (v := 1) h32 hbd.symm
            have e := hC (by rw [hfb]; exact he)
            rw [hfb] at e
            replace h : ∀ m', Ext m m' → K (tup3 (checkE s)) m' := h
            rw [e] at h
            clear e hfb he hbd hC he0 he1
            repeat' (first
              | simp (maxSteps := 2000000) only [vcCore, yieldT, Int.reduceEq, Int.reduceLT, Int.reduceLE, Int.reduceNe, not_true_eq_false, decide_true, decide_false, add_lit', Nat.zero_add, Nat.mul_one, Int.toNat_natCast, List.getElem?_toArray, List.getElem?_cons_zero, List.getElem?_cons_succ, Option.bind_some, List.map_cons, List.map_nil, List.map_toArray, Array.append_empty, Array.empty_append, List.append_nil, List.nil_append, List.append_toArray, ↓reduceIte, Nat.reduceEqDiff, Nat.reduceAdd, Nat.reduceLeDiff, List.contains_cons, List.contains_nil, Nat.reduceBEq, Bool.or_false, Bool.false_or, Bool.or_true, Bool.true_or, Bool.false_eq_true, Value.cells, List.size_toArray, List.length_cons, List.length_nil, Option.map_some, Option.map_none, Option.isSome_some, Option.isSome_none, Option.isNone_some, Option.isNone_none, true_and, and_true, ne_eq, reduceCtorEq, not_false_eq_true, Bool.not_true, Bool.not_false, tyAllRW08i, then_normal, Int.cast_ofNat_Int, BEq.rfl, bne_self_eq_false, beq_self_eq_true, Bool.and_true, Bool.true_and, Bool.and_false, Bool.false_and, Int.reduceBEq, Int.reduceBNe, Nat.reduceMul, Nat.reduceDiv, Int.reduceToNat, Int.reduceNeg, Int.reduceAdd, Int.reduceSub, Int.reduceMul, ext_lit, Nat.reduceSub, Nat.add_zero, mp2_app, resK_cc, implies_true, imp_self, bb_ft, bb_tf, bb_t, bb_f, bn_t, bn_f, Nat.reduceLT, Mem.set_app, Mem.set_set, Ext_mp1, Ext_two, st_agg, ones_nil, ones_cons, oc_int, oc_bool, oc_str, oc_ptr, oc_sl, oc_map, max_if, min_if, bld_nil, bld_cons, bldStep_some, wr_def, List.take_succ_cons, List.take_zero, List.drop_succ_cons, List.drop_zero, List.cons_append, List.toList_toArray, *, mul_nat]
              | ((first | (with_reducible refine Ret.use (ref08_Window (w := w) hok) fun m1 e1 => ?_)); (try replace X := X.trans e1); (try replace w1 := w1.ext e1); (try replace u1 := own_facts w1); (try replace w2 := w2.ext e1); (try replace u2 := own_facts w2); (try replace w3 := w3.ext e1); (try replace u3 := own_facts w3); (try (replace o1 := e1 _ _ o1; replace c1 := blk_facts hb1 o1)); (try (replace o2 := e1 _ _ o2; replace c2 := blk_facts hb2 o2)))
              | (with_reducible refine Ret.q (fun m1 e1 => ref08_Window (w := w) hok) ?_)
              | (with_reducible refine Ret.q0 (fun m1 e1 => ref08_Window (w := w) hok) ?_)
              | ((with_reducible refine CodeA.id ?_); (first | fail))
              | ((with_reducible refine And.intro ?_ ?_); (focus omega))
              | with_reducible refine cK_both _ _ _ _ _ _ (fun hc => ?_) (fun hc => ?_)
              | ((with_reducible refine gO_both _ _ (fun hc => ?_) (fun hc => ?_)) <;> (try simp only [Bool.not_true, Bool.not_false] at hc))
              | ((with_reducible refine gH_both _ _ (fun hc => ?_) (fun hc => ?_)) <;> (try simp only [Bool.not_true, Bool.not_false] at hc))
              | with_reducible refine pickK_both _ (fun hc => ?_) (fun hc => ?_))
        · have h1 := nat_not_lt hlt
          rw [List.drop_eq_nil_of_le (by omega)] at hbd
          have hbn : badAt s.mods 0 s.f1.l = none := hbd.symm
          obtain ⟨xs, hxs⟩ : ∃ xs, spansOf 1 s.f1.l = xs := ⟨_, rfl⟩
          have hxl : xs.length ≤ 40 := by
            rw [← hxs]; have := (stR_le (v := 1) (by omega) s.f1.l).1; have h4 : ¬ 32 < s.f1.l.length := h32; simp [spansOf]; omega
          have sp : ∀ M, Ext m M → Mk Try.prog W0 89 #[.slice A1 s.f1.l.length y1, .int .i64 1] M 3 1 xs.length (i64 xs) := fun M e => by
            have := ref08_Spans (W0 := W0) (m := M) (A := A1) (c := y1) (l := s.f1.l) (v := 1) (by omega) (fun M' e' => (k1 _ (e.trans e')).rd) (by have h4 : ¬ 32 < s.f1.l.length := h32; omega)
            rw [hxs] at this; exact this
          replace hbn : Hid _ := hbn
          replace hxs : Hid _ := hxs
          clear hbd hlt
          repeat' (first
            | simp (maxSteps := 2000000) only [vcCore, yieldT, Int.reduceEq, Int.reduceLT, Int.reduceLE, Int.reduceNe, not_true_eq_false, decide_true, decide_false, add_lit', Nat.zero_add, Nat.mul_one, Int.toNat_natCast, List.getElem?_toArray, List.getElem?_cons_zero, List.getElem?_cons_succ, Option.bind_some, List.map_cons, List.map_nil, List.map_toArray, Array.append_empty, Array.empty_append, List.append_nil, List.nil_append, List.append_toArray, ↓reduceIte, Nat.reduceEqDiff, Nat.reduceAdd, Nat.reduceLeDiff, List.contains_cons, List.contains_nil, Nat.reduceBEq, Bool.or_false, Bool.false_or, Bool.or_true, Bool.true_or, Bool.false_eq_true, Value.cells, List.size_toArray, List.length_cons, List.length_nil, Option.map_some, Option.map_none, Option.isSome_some, Option.isSome_none, Option.isNone_some, Option.isNone_none, true_and, and_true, ne_eq, reduceCtorEq, not_false_eq_true, Bool.not_true, Bool.not_false, tyAllRW08i, then_normal, Int.cast_ofNat_Int, BEq.rfl, bne_self_eq_false, beq_self_eq_true, Bool.and_true, Bool.true_and, Bool.and_false, Bool.false_and, Int.reduceBEq, Int.reduceBNe, Nat.reduceMul, Nat.reduceDiv, Int.reduceToNat, Int.reduceNeg, Int.reduceAdd, Int.reduceSub, Int.reduceMul, ext_lit, Nat.reduceSub, Nat.add_zero, mp2_app, resK_cc, implies_true, imp_self, bb_ft, bb_tf, bb_t, bb_f, bn_t, bn_f, Nat.reduceLT, Mem.set_app, Mem.set_set, Ext_mp1, Ext_two, st_agg, ones_nil, ones_cons, oc_int, oc_bool, oc_str, oc_ptr, oc_sl, oc_map, max_if, min_if, bld_nil, bld_cons, bldStep_some, wr_def, List.take_succ_cons, List.take_zero, List.drop_succ_cons, List.drop_zero, List.cons_append, List.toList_toArray, *]
            | ((first | ((with_reducible refine CallA.at 89 ?_); first | (have := S2; (with_reducible refine Mk.use (sp _ X) fun A3 q3 m1 S3 => ?_); have e1 := S3.ext; have w3 := S3.own) | (have := S1; (with_reducible refine Mk.use (sp _ X) fun A2 q2 m1 S2 => ?_); have e1 := S2.ext; have w2 := S2.own) | ((with_reducible refine Mk.use (sp _ X) fun A1 q1 m1 S1 => ?_); have e1 := S1.ext; have w1 := S1.own))); (try replace X := X.trans e1); (try replace w1 := w1.ext e1); (try replace u1 := own_facts w1); (try replace w2 := w2.ext e1); (try replace u2 := own_facts w2); (try replace w3 := w3.ext e1); (try replace u3 := own_facts w3); (try (replace o1 := e1 _ _ o1; replace c1 := blk_facts hb1 o1)); (try (replace o2 := e1 _ _ o2; replace c2 := blk_facts hb2 o2)))
            | ((with_reducible refine CodeA.id ?_); (first | fail))
            | ((with_reducible refine And.intro ?_ ?_); (focus omega))
            | with_reducible refine cK_both _ _ _ _ _ _ (fun hc => ?_) (fun hc => ?_)
            | ((with_reducible refine gO_both _ _ (fun hc => ?_) (fun hc => ?_)) <;> (try simp only [Bool.not_true, Bool.not_false] at hc))
            | ((with_reducible refine gH_both _ _ (fun hc => ?_) (fun hc => ?_)) <;> (try simp only [Bool.not_true, Bool.not_false] at hc))
            | with_reducible refine pickK_both _ (fun hc => ?_) (fun hc => ?_))
          have hx0 : 0 < xs.length := by rw [← show spansOf 1 s.f1.l = xs from hxs]; exact spansOf_pos _ _
          obtain ⟨gs, rfl⟩ := own_head w1 hx0
          refine loop_rule (fun d t m3 => Ext m m3 ∧ ∃ j : Nat, j ≤ xs.length ∧ d = xs.length - j ∧ t 0 = .int .i64 s.mods ∧ t 3 = .pointer (some ⟨b1, 0, none⟩) ∧ t 7 = .int .i64 1 ∧ t 10 = .slice (some ⟨gs, 0, none⟩) xs.length q1 ∧ t 11 = .int .i64 j ∧ (xs.drop j).any (fun x => decide (200 < x)) = xs.any (fun x => decide (200 < x)) ∧
              OwnS W0 m3 3 1 (.slice (some ⟨gs, 0, none⟩) xs.length q1) xs.length (i64 xs) ∧ m3 b1 = some (.cells #[.slice A0 s.f0.l.length y0, .slice A1 s.f1.l.length y1] 137))
            xs.length (by kernel_rfl) ⟨X, 0, by omega, by omega, t0, t3, t7, rfl, rfl, by simp, w1, o1⟩ ?_
          clear X t0 t3 t7 t8 o1 cb1 w1 S1 e1
          rintro d t m3 ⟨X, j, hj, rfl, t0, t3, t7, t10, t11, hz, w1, o1⟩
          by_cases hlj : j < xs.length
          · have h1 := nat_lt hlj
            have h2 := wrap_succ (i := j) (by omega)
            have h3 : (0 : Int) ≤ (j : Int) := by omega
            obtain ⟨x, hx⟩ := get_some hlj
            have k1' : cellA W0 m3 ⟨gs, j, none⟩ = some (.int .i64 x) := by rw [(own_facts w1).1 j (by simpa [R.i64] using hlj), i64_get, hx]; rfl
            rw [drop_step hx, List.any_cons] at hz
            clear hx
            by_cases hb : 200 < x
            · rw [decide_eq_true hb, Bool.true_or] at hz
              have hff := frE_far (k := s.mods) (v := 1) h32 hbn (by rw [show spansOf 1 s.f1.l = xs from hxs]; exact hz.symm)
              have e := hC (by rw [hff]; decide)
              rw [hff] at e
              replace h : ∀ m', Ext m m' → K (tup3 (checkE s)) m' := h
              rw [e] at h
              clear e hff hz hC he0 he1
              repeat' (first
                | simp (maxSteps := 2000000) only [vcCore, yieldT, Int.reduceEq, Int.reduceLT, Int.reduceLE, Int.reduceNe, not_true_eq_false, decide_true, decide_false, add_lit', Nat.zero_add, Nat.mul_one, Int.toNat_natCast, List.getElem?_toArray, List.getElem?_cons_zero, List.getElem?_cons_succ, Option.bind_some, List.map_cons, List.map_nil, List.map_toArray, Array.append_empty, Array.empty_append, List.append_nil, List.nil_append, List.append_toArray, ↓reduceIte, Nat.reduceEqDiff, Nat.reduceAdd, Nat.reduceLeDiff, List.contains_cons, List.contains_nil, Nat.reduceBEq, Bool.or_false, Bool.false_or, Bool.or_true, Bool.true_or, Bool.false_eq_true, Value.cells, List.size_toArray, List.length_cons, List.length_nil, Option.map_some, Option.map_none, Option.isSome_some, Option.isSome_none, Option.isNone_some, Option.isNone_none, true_and, and_true, ne_eq, reduceCtorEq, not_false_eq_true, Bool.not_true, Bool.not_false, tyAllRW08i, then_normal, Int.cast_ofNat_Int, BEq.rfl, bne_self_eq_false, beq_self_eq_true, Bool.and_true, Bool.true_and, Bool.and_false, Bool.false_and, Int.reduceBEq, Int.reduceBNe, Nat.reduceMul, Nat.reduceDiv, Int.reduceToNat, Int.reduceNeg, Int.reduceAdd, Int.reduceSub, Int.reduceMul, ext_lit, Nat.reduceSub, Nat.add_zero, mp2_app, resK_cc, implies_true, imp_self, bb_ft, bb_tf, bb_t, bb_f, bn_t, bn_f, Nat.reduceLT, Mem.set_app, Mem.set_set, Ext_mp1, Ext_two, st_agg, ones_nil, ones_cons, oc_int, oc_bool, oc_str, oc_ptr, oc_sl, oc_map, max_if, min_if, bld_nil, bld_cons, bldStep_some, wr_def, List.take_succ_cons, List.take_zero, List.drop_succ_cons, List.drop_zero, List.cons_append, List.toList_toArray, *, Nat.mul_one]
                | ((with_reducible refine CodeA.id ?_); (first | fail))
                | ((with_reducible refine And.intro ?_ ?_); (focus omega))
                | with_reducible refine cK_both _ _ _ _ _ _ (fun hc => ?_) (fun hc => ?_)
                | ((with_reducible refine gO_both _ _ (fun hc => ?_) (fun hc => ?_)) <;> (try simp only [Bool.not_true, Bool.not_false] at hc))
                | ((with_reducible refine gH_both _ _ (fun hc => ?_) (fun hc => ?_)) <;> (try simp only [Bool.not_true, Bool.not_false] at hc))
                | with_reducible refine pickK_both _ (fun hc => ?_) (fun hc => ?_))
            · rw [decide_eq_false hb, Bool.false_or] at hz
              replace hz : Hid _ := hz
              repeat' (first
                | simp (maxSteps := 2000000) only [vcCore, yieldT, Int.reduceEq, Int.reduceLT, Int.reduceLE, Int.reduceNe, not_true_eq_false, decide_true, decide_false, add_lit', Nat.zero_add, Nat.mul_one, Int.toNat_natCast, List.getElem?_toArray, List.getElem?_cons_zero, List.getElem?_cons_succ, Option.bind_some, List.map_cons, List.map_nil, List.map_toArray, Array.append_empty, Array.empty_append, List.append_nil, List.nil_append, List.append_toArray, ↓reduceIte, Nat.reduceEqDiff, Nat.reduceAdd, Nat.reduceLeDiff, List.contains_cons, List.contains_nil, Nat.reduceBEq, Bool.or_false, Bool.false_or, Bool.or_true, Bool.true_or, Bool.false_eq_true, Value.cells, List.size_toArray, List.length_cons, List.length_nil, Option.map_some, Option.map_none, Option.isSome_some, Option.isSome_none, Option.isNone_some, Option.isNone_none, true_and, and_true, ne_eq, reduceCtorEq, not_false_eq_true, Bool.not_true, Bool.not_false, tyAllRW08i, then_normal, Int.cast_ofNat_Int, BEq.rfl, bne_self_eq_false, beq_self_eq_true, Bool.and_true, Bool.true_and, Bool.and_false, Bool.false_and, Int.reduceBEq, Int.reduceBNe, Nat.reduceMul, Nat.reduceDiv, Int.reduceToNat, Int.reduceNeg, Int.reduceAdd, Int.reduceSub, Int.reduceMul, ext_lit, Nat.reduceSub, Nat.add_zero, mp2_app, resK_cc, implies_true, imp_self, bb_ft, bb_tf, bb_t, bb_f, bn_t, bn_f, Nat.reduceLT, Mem.set_app, Mem.set_set, Ext_mp1, Ext_two, st_agg, ones_nil, ones_cons, oc_int, oc_bool, oc_str, oc_ptr, oc_sl, oc_map, max_if, min_if, bld_nil, bld_cons, bldStep_some, wr_def, List.take_succ_cons, List.take_zero, List.drop_succ_cons, List.drop_zero, List.cons_append, List.toList_toArray, *, Nat.mul_one]
                | ((with_reducible refine CodeA.id ?_); (first | fail))
                | ((with_reducible refine And.intro ?_ ?_); (focus omega))
                | with_reducible refine cK_both _ _ _ _ _ _ (fun hc => ?_) (fun hc => ?_)
                | ((with_reducible refine gO_both _ _ (fun hc => ?_) (fun hc => ?_)) <;> (try simp only [Bool.not_true, Bool.not_false] at hc))
                | ((with_reducible refine gH_both _ _ (fun hc => ?_) (fun hc => ?_)) <;> (try simp only [Bool.not_true, Bool.not_false] at hc))
                | with_reducible refine pickK_both _ (fun hc => ?_) (fun hc => ?_))
              exact ⟨xs.length - (j + 1), by omega, X, j + 1, by omega, rfl, t0, t3, t7, t10, rfl, hz, w1, o1⟩
          · have h1 := nat_not_lt hlj
            rw [List.drop_eq_nil_of_le (by omega)] at hz
            have hfo := frE_ok (k := s.mods) (v := 1) h32 hbn (by rw [show spansOf 1 s.f1.l = xs from hxs]; exact hz.symm)
            have hf2 : (frE s.f1.l s.mods 1).2 = 0 := by rw [hfo]
            replace hf2 : Hid _ := hf2
            clear hz hfo
            repeat' (first
              | simp (maxSteps := 2000000) only [vcCore, yieldT, Int.reduceEq, Int.reduceLT, Int.reduceLE, Int.reduceNe, not_true_eq_false, decide_true, decide_false, add_lit', Nat.zero_add, Nat.mul_one, Int.toNat_natCast, List.getElem?_toArray, List.getElem?_cons_zero, List.getElem?_cons_succ, Option.bind_some, List.map_cons, List.map_nil, List.map_toArray, Array.append_empty, Array.empty_append, List.append_nil, List.nil_append, List.append_toArray, ↓reduceIte, Nat.reduceEqDiff, Nat.reduceAdd, Nat.reduceLeDiff, List.contains_cons, List.contains_nil, Nat.reduceBEq, Bool.or_false, Bool.false_or, Bool.or_true, Bool.true_or, Bool.false_eq_true, Value.cells, List.size_toArray, List.length_cons, List.length_nil, Option.map_some, Option.map_none, Option.isSome_some, Option.isSome_none, Option.isNone_some, Option.isNone_none, true_and, and_true, ne_eq, reduceCtorEq, not_false_eq_true, Bool.not_true, Bool.not_false, tyAllRW08i, then_normal, Int.cast_ofNat_Int, BEq.rfl, bne_self_eq_false, beq_self_eq_true, Bool.and_true, Bool.true_and, Bool.and_false, Bool.false_and, Int.reduceBEq, Int.reduceBNe, Nat.reduceMul, Nat.reduceDiv, Int.reduceToNat, Int.reduceNeg, Int.reduceAdd, Int.reduceSub, Int.reduceMul, ext_lit, Nat.reduceSub, Nat.add_zero, mp2_app, resK_cc, implies_true, imp_self, bb_ft, bb_tf, bb_t, bb_f, bn_t, bn_f, Nat.reduceLT, Mem.set_app, Mem.set_set, Ext_mp1, Ext_two, st_agg, ones_nil, ones_cons, oc_int, oc_bool, oc_str, oc_ptr, oc_sl, oc_map, max_if, min_if, bld_nil, bld_cons, bldStep_some, wr_def, List.take_succ_cons, List.take_zero, List.drop_succ_cons, List.drop_zero, List.cons_append, List.toList_toArray, *]
              | ((with_reducible refine CodeA.id ?_); (first | fail))
              | ((with_reducible refine And.intro ?_ ?_); (focus omega))
              | with_reducible refine cK_both _ _ _ _ _ _ (fun hc => ?_) (fun hc => ?_)
              | ((with_reducible refine gO_both _ _ (fun hc => ?_) (fun hc => ?_)) <;> (try simp only [Bool.not_true, Bool.not_false] at hc))
              | ((with_reducible refine gH_both _ _ (fun hc => ?_) (fun hc => ?_)) <;> (try simp only [Bool.not_true, Bool.not_false] at hc))
              | with_reducible refine pickK_both _ (fun hc => ?_) (fun hc => ?_))
            exact ⟨0, by omega, X, 2, by omega, by omega, by omega, t0, t3, rfl, fun _ => hz0, fun _ => hf2, o1⟩
    · have hz0 := (show 1 ≤ (2 : Int) → (frE s.f0.l s.mods 0).2 = 0 from he0) (by omega)
      have hz1 := (show 2 ≤ (2 : Int) → (frE s.f1.l s.mods 1).2 = 0 from he1) (by omega)
      have e := (show (frE s.f0.l s.mods 0).2 = 0 → (frE s.f1.l s.mods 1).2 = 0 → checkE s = (0, 0, 0) from hc2) hz0 hz1
      replace h : ∀ m', Ext m m' → K (tup3 (checkE s)) m' := h
      rw [e] at h
      clear e hz0 hz1
      repeat' (first
        | simp (maxSteps := 2000000) only [vcCore, yieldT, Int.reduceEq, Int.reduceLT, Int.reduceLE, Int.reduceNe, not_true_eq_false, decide_true, decide_false, add_lit', Nat.zero_add, Nat.mul_one, Int.toNat_natCast, List.getElem?_toArray, List.getElem?_cons_zero, List.getElem?_cons_succ, Option.bind_some, List.map_cons, List.map_nil, List.map_toArray, Array.append_empty, Array.empty_append, List.append_nil, List.nil_append, List.append_toArray, ↓reduceIte, Nat.reduceEqDiff, Nat.reduceAdd, Nat.reduceLeDiff, List.contains_cons, List.contains_nil, Nat.reduceBEq, Bool.or_false, Bool.false_or, Bool.or_true, Bool.true_or, Bool.false_eq_true, Value.cells, List.size_toArray, List.length_cons, List.length_nil, Option.map_some, Option.map_none, Option.isSome_some, Option.isSome_none, Option.isNone_some, Option.isNone_none, true_and, and_true, ne_eq, reduceCtorEq, not_false_eq_true, Bool.not_true, Bool.not_false, tyAllRW08i, then_normal, Int.cast_ofNat_Int, BEq.rfl, bne_self_eq_false, beq_self_eq_true, Bool.and_true, Bool.true_and, Bool.and_false, Bool.false_and, Int.reduceBEq, Int.reduceBNe, Nat.reduceMul, Nat.reduceDiv, Int.reduceToNat, Int.reduceNeg, Int.reduceAdd, Int.reduceSub, Int.reduceMul, ext_lit, Nat.reduceSub, Nat.add_zero, mp2_app, resK_cc, implies_true, imp_self, bb_ft, bb_tf, bb_t, bb_f, bn_t, bn_f, Nat.reduceLT, Mem.set_app, Mem.set_set, Ext_mp1, Ext_two, st_agg, ones_nil, ones_cons, oc_int, oc_bool, oc_str, oc_ptr, oc_sl, oc_map, max_if, min_if, bld_nil, bld_cons, bldStep_some, wr_def, List.take_succ_cons, List.take_zero, List.drop_succ_cons, List.drop_zero, List.cons_append, List.toList_toArray, *]
        | ((with_reducible refine CodeA.id ?_); (first | fail))
        | ((with_reducible refine And.intro ?_ ?_); (focus omega))
        | with_reducible refine cK_both _ _ _ _ _ _ (fun hc => ?_) (fun hc => ?_)
        | ((with_reducible refine gO_both _ _ (fun hc => ?_) (fun hc => ?_)) <;> (try simp only [Bool.not_true, Bool.not_false] at hc))
        | ((with_reducible refine gH_both _ _ (fun hc => ?_) (fun hc => ?_)) <;> (try simp only [Bool.not_true, Bool.not_false] at hc))
        | with_reducible refine pickK_both _ (fun hc => ?_) (fun hc => ?_))
end
end Go.Proofs.Ytapppaccnkojkaa.R
